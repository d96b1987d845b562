-- Written by a program of this session (xprint.py), out of the translation and of hand-written contracts. Lean checks it.
import Derived.Test.YtnipocpbpcaepaaX0
import Derived.Test.YtnipocpbpcaepaaXimplpopped
namespace Go.Proofs.Ytnipocpbpcaepaa.X
open Go.RowKit Go.Proofs.YtnipocpbpcaepaaW.PrintWords Go.Proofs.YtnipocpbpcaepaaW.PrintLast Go.Proofs.YtnipocpbpcaepaaW.PrintMore
attribute [local go_sem] max2_int min2_int max_two min_two max_three min_three max_four min_four   -- for this text's walks alone
set_option linter.unusedVariables false
set_option linter.unusedSimpArgs false

/-! ### impl_ArrowsUsed: function 11 -/
def impl_ArrowsUsed.f (k : Nat) (a0_0 : Int) (a0_1 : Int) (l1 : List (List Int)) (l2 : List Int) : Option (Int) := (impl_popped.f k a0_0 a0_1 l1 l2).bind fun bt502 => (some bt502.2.2.2.1)
theorem impl_ArrowsUsed.mono : ∀ a0 a1 a2 a3 k, LeO (impl_ArrowsUsed.f k a0 a1 a2 a3) (impl_ArrowsUsed.f (k + 1) a0 a1 a2 a3) := by
 intro a0 a1 a2 a3 k
 unfold impl_ArrowsUsed.f
 repeat' first
   | (with_reducible exact impl_popped.mono ..)
   | (with_reducible first | exact lr_ _ | exact ln_ _ | refine li_ ?_ ?_ | refine lb_ ?_ fun _ => ?_)
   | exact impl_popped.mono ..
   | exact ln_ _ | refine li_ ?_ ?_ | refine lb_ ?_ fun _ => ?_
set_option maxHeartbeats 8000000 in
set_option maxRecDepth 100000 in
theorem impl_ArrowsUsed.calls (k : Nat) (a0_0 : Int) (a0_1 : Int) (A1 : Option Addr) (c1 : Nat) (l1 : List (List Int)) (A2 : Option Addr) (c2 : Nat) (l2 : List Int) (r : Int) (w : World) (hr1 : Kd.C (Kd.slice 3 (Kd.int .i64)) w A1 l1.length l1) (hc1 : l1.length ≤ c1) (hr2 : Kd.C (Kd.int .i64) w A2 l2.length l2) (hc2 : l2.length ≤ c2) (h : impl_ArrowsUsed.f k a0_0 a0_1 l1 l2 = some r) :
  Calls Try.prog 11 #[.agg #[.int .i64 a0_0, .int .i64 a0_1], .slice A1 l1.length c1, .slice A2 l2.length c2] w fun e w' => e = .returned (.int .i64 r) ∧ Below w.heap.size w w' := by
 have hu28 := Try.underlying28
 have hu36 := Try.underlying36
 have HR1 := Aside0.mk hr1
 have HC1 := Aside0.mk hc1
 clear hr1 hc1
 have HR2 := Aside0.mk hr2
 have HC2 := Aside0.mk hc2
 clear hr2 hc2
 have HB := Aside0.mk (Below.refl w.heap.size w)
 have H : ((impl_popped.f k a0_0 a0_1 l1 l2).bind fun bt502 => (some bt502.2.2.2.1)) = some r := h
 clear h
 replace H := Option.bind_eq_some_iff.mp H
 obtain ⟨⟨t502, t503, t504, t505, t506⟩, A40, H⟩ := H
 replace H : (some t505) = some r := H
 have A4 := Aside0.mk A40
 clear A40
 obtain rfl := Option.some.inj H
 go_enter Try.func11, Try.ntmps11
 go_wp2_with (first | (refine box_ (N := 3) (cs := #[.int .i64 a0_0, .int .i64 a0_1]) (t := 28) ?_; intro gb501 hg w5 hbox hb; have BK501 := Aside0.mk (hbox); have GW501 := HB.g0 hg; have GE501 := HB.g0 hg; replace HB := HB.s0 hb; clear hb hbox hg; obtain ⟨hcz6_0, hcz6_1⟩ := cz2_ BK501.out; obtain ⟨hfz6_0, hfz6_1⟩ := fz2_ BK501.out) | (refine gl_ 14 Try.func25 #[.agg #[.int .i64 a0_0, .int .i64 a0_1], .slice A1 l1.length c1, .slice A2 l2.length c2] ?_; (with_reducible refine (impl_popped.calls k a0_0 a0_1 _ _ l1 _ _ l2 t502 t503 t504 t505 t506 _ ?side1 ?side2 ?side3 ?side4 A4.out).mono ?_); (case side1 => repeat (first | exact (Kd.C_below HR1.out HB.out) | (with_reducible refine Kd.C_alloc ?_ _) | (with_reducible refine Kd.C_drewN ?_ _) | (with_reducible refine Kd.C_drew ?_))); (case side2 => exact HC1.out); (case side3 => repeat (first | exact (Kd.C_below HR2.out HB.out) | (with_reducible refine Kd.C_alloc ?_ _) | (with_reducible refine Kd.C_drewN ?_ _) | (with_reducible refine Kd.C_drew ?_))); (case side4 => exact HC2.out); rintro e w7 ⟨rfl, hb⟩; refine ⟨_, rfl, ?_⟩; replace BK501 := BK501.bb hb; replace HB := HB.s1 GE501 hb; (try clear hb)) | (refine box_ (N := 7) (cs := #[.int .i64 0, .int .i64 0, .int .i64 0]) (t := 36) ?_; intro gb507 hg w8 hbox hb; have BK507 := Aside0.mk (hbox); have GW507 := HB.g1 GE501 hg; have GE507 := HB.g1 GE501 hg; replace HB := HB.s1 GE501 hb; have NB501_507 := BK501.nl hg; have NB507_501 := BK501.nr hg; replace BK501 := BK501.bb hb; clear hb hbox hg; have hnb9 := NB507_501.out; have hnc9 := NB501_507.out; obtain ⟨hcz10_0, hcz10_1, hcz10_2⟩ := cz3_ BK507.out; obtain ⟨hfz10_0, hfz10_1, hfz10_2⟩ := fz3_ BK507.out))
 go_ret
 exact ⟨ex_, hb2_ HB.out GE501.out GE507.out⟩

end Go.Proofs.Ytnipocpbpcaepaa.X
