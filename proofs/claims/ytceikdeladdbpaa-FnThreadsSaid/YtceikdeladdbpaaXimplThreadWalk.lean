-- Written by a program of this session (xprint.py), out of the translation and of hand-written contracts. Lean checks it.
import Derived.Test.YtceikdeladdbpaaX0
import Derived.Test.YtceikdeladdbpaaXimplthread
namespace Go.Proofs.Ytceikdeladdbpaa.X
open Go.RowKit Go.Proofs.YtceikdeladdbpaaW.PrintWords Go.Proofs.YtceikdeladdbpaaW.PrintLast Go.Proofs.YtceikdeladdbpaaW.PrintMore
attribute [local go_sem] max2_int min2_int max_two min_two max_three min_three max_four min_four   -- for this text's walks alone
set_option linter.unusedVariables false
set_option linter.unusedSimpArgs false

/-! ### impl_ThreadWalk: function 6 (by hand) -/
def impl_ThreadWalk.f (k : Nat) (a0_0 : Int) (a0_1 : Int) (a0_2 : Int) (a1 : Int) : Option (List Int) := (impl_thread.f k a0_0 a0_1 a0_2 a1).bind fun r => some (match r with | none => [] | some R => R.1)
theorem impl_ThreadWalk.mono : ∀ a0_0 a0_1 a0_2 a1 k, LeO (impl_ThreadWalk.f k a0_0 a0_1 a0_2 a1) (impl_ThreadWalk.f (k + 1) a0_0 a0_1 a0_2 a1) := fun _ _ _ _ _ => LeO.bind (impl_thread.mono _ _ _ _ _) (fun _ => LeO.refl _)
set_option maxHeartbeats 4000000 in
theorem impl_ThreadWalk.calls (k : Nat) (a0_0 : Int) (a0_1 : Int) (a0_2 : Int) (a1 : Int) (r : List Int) (w : World) (h : impl_ThreadWalk.f k a0_0 a0_1 a0_2 a1 = some r) :
  Calls Try.prog 6 #[.agg #[.int .i64 a0_0, .int .i64 a0_1, .int .i64 a0_2], .int .i64 a1] w fun e w' => ∃ v0_ : Value, e = .returned (v0_) ∧ Kd.R (Kd.int .i64) 3 w' w.heap.size (fun _ => True) v0_ r ∧ Below w.heap.size w w' := by
 have HB := Aside0.mk (Below.refl w.heap.size w)
 unfold impl_ThreadWalk.f at h
 obtain ⟨q, hq, h⟩ := Option.bind_eq_some_iff.mp h
 obtain rfl := Option.some.inj h
 clear h
 have hu29 := Try.underlying27
 have hu82 := Try.underlying47
 rcases thread_split hq with ⟨rfl, hin⟩ | ⟨n, fr, R, rfl, hin, hn, hr, ht⟩
 ·have A1 := Aside0.mk hin
  clear hin hq
  go_enter Try.func6, Try.ntmps6
  go_wp2_with (first | (refine box_ (N := 2) (cs := #[.int .i64 a0_0, .int .i64 a0_1, .int .i64 a0_2]) (t := 27) ?_; intro gb501 hg w5 hbox hb; have BK501 := Aside0.mk hbox; have GE501 := HB.g0 hg; replace HB := HB.s0 hb; clear hb hbox hg; obtain ⟨hcz6_0, hcz6_1, hcz6_2⟩ := cz3_ BK501.out) | (go_at_call 20; refine (impl_thread.no a0_0 a0_1 a0_2 a1 _ A1.out).mono ?_; rintro e w7 ⟨rfl, hb⟩; replace HB := HB.s1 GE501 hb; clear hb))
  go_ret
  exact ⟨_, rfl, Kd.R_nil _ _ _ _ _, HB.out⟩
 ·have A1 := Aside0.mk hin
  have A2 := Aside0.mk hn
  have A3 := Aside0.mk hr
  have A4 := Aside0.mk ht
  clear hin hn hr ht hq
  go_enter Try.func6, Try.ntmps6
  go_wp2_with (first | (refine box_ (N := 2) (cs := #[.int .i64 a0_0, .int .i64 a0_1, .int .i64 a0_2]) (t := 27) ?_; intro gb501 hg w5 hbox hb; have BK501 := Aside0.mk hbox; have GE501 := HB.g0 hg; replace HB := HB.s0 hb; clear hb hbox hg; obtain ⟨hcz6_0, hcz6_1, hcz6_2⟩ := cz3_ BK501.out) | (go_at_call 20; refine (impl_thread.yes k a0_0 a0_1 a0_2 a1 n fr R _ A1.out A2.out A3.out A4.out).mono ?_; rintro e w7 ⟨g, gf, cf, vc, rfl, hT⟩; have HT := Aside0.mk hT; obtain ⟨t0, t1, t2⟩ := cz3_ hT.blk; have LE := Aside0.mk (below_size HB.out); replace HB := HB.s1 GE501 hT.bel; clear hT))
  go_ret
  exact ⟨_, rfl, Kd.R_lower (Kd.R_mono HT.out.cel (fun _ _ => trivial)) LE.out, HB.out⟩

end Go.Proofs.Ytceikdeladdbpaa.X
