-- Written by a program of this session (xprint.py), out of the translation and of hand-written contracts. Lean checks it.
import Derived.Test.YtgnnkjgfkdaddaaDoorX0
import Derived.Test.YtgnnkjgfkdaddaaDoorXimpllists
namespace Go.Proofs.YtgnnkjgfkdaddaaDoor.X
open Go.RowKit Go.Proofs.YtgnnkjgfkdaddaaDoorW.PrintWords Go.Proofs.YtgnnkjgfkdaddaaDoorW.PrintLast Go.Proofs.YtgnnkjgfkdaddaaDoorW.PrintMore
attribute [local go_sem] max2_int min2_int max_two min_two max_three min_three max_four min_four   -- for this text's walks alone
set_option linter.unusedVariables false
set_option linter.unusedSimpArgs false

/-! ### impl_CountReached: function 7 (by hand) -/
def impl_CountReached.f (k : Nat) (m0 m1 o : Int) (l : List Int) : Option Int := (lst.f k m0 m1 o l).bind fun r => match r with | none => some 0 | some L => some (L.length : Int)
theorem impl_CountReached.mono : ∀ m0 m1 o l k, LeO (impl_CountReached.f k m0 m1 o l) (impl_CountReached.f (k + 1) m0 m1 o l) := fun m0 m1 o l k => by
 unfold impl_CountReached.f
 exact LeO.bind (lst.mono _ _ _ _ _) (fun r => LeO.refl _)
set_option maxHeartbeats 4000000 in
set_option maxRecDepth 100000 in
theorem impl_CountReached.calls (k : Nat) (m0 m1 o : Int) (A : Option Addr) (c : Nat) (l : List Int) (r : Int) (w : World) (hr0 : Kd.C (Kd.int .i64) w A l.length l) (hc0 : l.length ≤ c) (h : impl_CountReached.f k m0 m1 o l = some r) :
  Calls Tryd.prog 7 #[.agg #[.int .i64 m0, .int .i64 m1, .int .i64 o], .slice A l.length c] w fun e w' => e = .returned (.int .i64 r) ∧ Below w.heap.size w w' := by
 have hu1 := Tryd.underlying30
 have hu5 := Tryd.underlying40
 have HR0 := Aside0.mk hr0
 have HC0 := Aside0.mk hc0
 have HB := Aside0.mk (Below.refl w.heap.size w)
 unfold impl_CountReached.f at h
 obtain ⟨s, hs, h⟩ := Option.bind_eq_some_iff.mp h
 have HS := Aside0.mk hs
 clear hr0 hc0 hs
 cases s with
 | none =>
  obtain rfl := Option.some.inj h
  clear h
  go_enter Tryd.func7, Tryd.ntmps7
  go_wp2_with ((with_reducible refine gw_ ?_); first | (refine box_ (N := 2) (cs := #[.int .i64 m0, .int .i64 m1, .int .i64 o]) (t := 30) ?_; intro mb hg w2 hbox hb; have BK := Aside0.mk (hbox); have GE := HB.g0 hg; replace HB := HB.s0 hb; clear hb hbox hg; obtain ⟨z0, z1, z2⟩ := cz3_ BK.out; obtain ⟨y0, y1, y2⟩ := fz3_ BK.out) |
   (refine gl_ 7 Tryd.func13 #[.agg #[.int .i64 m0, .int .i64 m1, .int .i64 o], .slice A l.length c] ?_; (with_reducible refine (lst.calls k m0 m1 o A c l none _ (Kd.C_below HR0.out HB.out) HC0.out HS.out).mono ?_); rintro e w3 ⟨⟨v, rfl, hv⟩, hb⟩; obtain rfl := hv; refine ⟨_, rfl, ?_⟩; replace HB := HB.s1 GE hb; clear hb) | fail)
  go_ret
  exact ⟨rfl, HB.out⟩
 | some L =>
  obtain rfl := Option.some.inj h
  clear h
  go_enter Tryd.func7, Tryd.ntmps7
  go_wp2_with ((with_reducible refine gw_ ?_); first | (refine box_ (N := 2) (cs := #[.int .i64 m0, .int .i64 m1, .int .i64 o]) (t := 30) ?_; intro mb hg w2 hbox hb; have BK := Aside0.mk (hbox); have GE := HB.g0 hg; replace HB := HB.s0 hb; clear hb hbox hg; obtain ⟨z0, z1, z2⟩ := cz3_ BK.out; obtain ⟨y0, y1, y2⟩ := fz3_ BK.out) |
   (refine gl_ 7 Tryd.func13 #[.agg #[.int .i64 m0, .int .i64 m1, .int .i64 o], .slice A l.length c] ?_; (with_reducible refine (lst.calls k m0 m1 o A c l (some L) _ (Kd.C_below HR0.out HB.out) HC0.out HS.out).mono ?_); rintro e w3 ⟨⟨v, rfl, hv⟩, hb⟩; obtain ⟨b, n, rfl, hE⟩ := hv; have EM := Aside0.mk hE; refine ⟨_, rfl, ?_⟩; replace HB := HB.s1 GE hb; clear hb hE) |
   (refine sm_len _ rfl _ rfl b n L rfl EM.out ?_; go_frame) | fail)
  go_ret
  exact ⟨rfl, HB.out⟩

end Go.Proofs.YtgnnkjgfkdaddaaDoor.X
