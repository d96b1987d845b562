-- Written by a program of this session (xprint.py), out of the translation and of hand-written contracts. Lean checks it.
import Derived.Test.YtkkjlbpffcdlfaaX0
import Derived.Test.YtkkjlbpffcdlfaaXimplCountLoopsOf
namespace Go.Proofs.Ytkkjlbpffcdlfaa.X
open Go.RowKit Go.Proofs.YtkkjlbpffcdlfaaW.PrintWords Go.Proofs.YtkkjlbpffcdlfaaW.PrintLast Go.Proofs.YtkkjlbpffcdlfaaW.PrintMore
attribute [local go_sem] max2_int min2_int max_two min_two max_three min_three max_four min_four   -- for this text's walks alone
set_option linter.unusedVariables false
set_option linter.unusedSimpArgs false

/-! ### impl_IsMeander: function 25 -/
def impl_IsMeander.f (k : Nat) (l0 : List Int) (l1 : List Int) : Option (Bool) := (impl_CountLoopsOf.f k l0 l1).bind fun t501 => (some (t501 == 1))
theorem impl_IsMeander.mono : ∀ a0 a1 k, LeO (impl_IsMeander.f k a0 a1) (impl_IsMeander.f (k + 1) a0 a1) := by
 intro a0 a1 k
 unfold impl_IsMeander.f
 repeat' first
   | (with_reducible exact impl_CountLoopsOf.mono ..)
   | (with_reducible first | exact lr_ _ | exact ln_ _ | refine li_ ?_ ?_ | refine lb_ ?_ fun _ => ?_)
   | exact impl_CountLoopsOf.mono ..
   | exact ln_ _ | refine li_ ?_ ?_ | refine lb_ ?_ fun _ => ?_
set_option maxHeartbeats 8000000 in
set_option maxRecDepth 100000 in
theorem impl_IsMeander.calls (k : Nat) (A0 : Option Addr) (c0 : Nat) (l0 : List Int) (A1 : Option Addr) (c1 : Nat) (l1 : List Int) (r : Bool) (w : World) (hr0 : Kd.C (Kd.int .i64) w A0 l0.length l0) (hc0 : l0.length ≤ c0) (hr1 : Kd.C (Kd.int .i64) w A1 l1.length l1) (hc1 : l1.length ≤ c1) (h : impl_IsMeander.f k l0 l1 = some r) :
  Calls Try.prog 25 #[.slice A0 l0.length c0, .slice A1 l1.length c1] w fun e w' => e = .returned (.bool r) ∧ Below w.heap.size w w' := by
 have HR0 := Aside0.mk hr0
 have HC0 := Aside0.mk hc0
 clear hr0 hc0
 have HR1 := Aside0.mk hr1
 have HC1 := Aside0.mk hc1
 clear hr1 hc1
 have HB := Aside0.mk (Below.refl w.heap.size w)
 have H : ((impl_CountLoopsOf.f k l0 l1).bind fun t501 => (some (t501 == 1))) = some r := h
 clear h
 replace H := Option.bind_eq_some_iff.mp H
 obtain ⟨t501, A30, H⟩ := H
 replace H : (some (t501 == 1)) = some r := H
 have A3 := Aside0.mk A30
 clear A30
 obtain rfl := Option.some.inj H
 go_enter Try.func25, Try.ntmps25
 go_wp2_with (first | (refine gl_ 7 Try.func22 #[.slice A0 l0.length c0, .slice A1 l1.length c1] ?_; (with_reducible refine (impl_CountLoopsOf.calls k _ _ l0 _ _ l1 t501 _ ?side1 ?side2 ?side3 ?side4 A3.out).mono ?_); (case side1 => exact kc_ HR0.out); (case side2 => exact HC0.out); (case side3 => exact kc_ HR1.out); (case side4 => exact HC1.out); rintro e w4 ⟨rfl, hb⟩; refine ⟨_, rfl, ?_⟩; replace HB := HB.s0 hb; (try clear hb)))
 go_ret
 exact ⟨ex_, hb0_ HB.out⟩

end Go.Proofs.Ytkkjlbpffcdlfaa.X
