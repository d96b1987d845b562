-- Written by a program of this session (xprint.py), out of the translation and of hand-written contracts. Lean checks it.
import Derived.Test.YtkkjlbpffcdlfaaX0
import Derived.Test.YtkkjlbpffcdlfaaXslicesContainsFuncintint
namespace Go.Proofs.Ytkkjlbpffcdlfaa.X
open Go.RowKit Go.Proofs.YtkkjlbpffcdlfaaW.PrintWords Go.Proofs.YtkkjlbpffcdlfaaW.PrintLast Go.Proofs.YtkkjlbpffcdlfaaW.PrintMore
attribute [local go_sem] max2_int min2_int max_two min_two max_three min_three max_four min_four   -- for this text's walks alone
set_option linter.unusedVariables false
set_option linter.unusedSimpArgs false

/-! ### impl_IsLabyrinth_1: function 67 (by hand) -/
def evenPair (x : List Int) : Bool := (Int.tmod (wrap64 (rd x 1 - rd x 0)) 2) == 0
set_option maxHeartbeats 2000000 in
theorem impl_IsLabyrinth_1.calls (A1 : Option Addr) (c1 : Nat) (x : List Int) (w : World) (h2 : x.length = 2) (hC : Kd.C (Kd.int .i64) w A1 x.length x) :
  Calls Try.prog 67 #[.slice A1 x.length c1] w fun e w' => e = .returned (.bool (evenPair x)) ∧ Below w.heap.size w w' := by
 obtain ⟨ad, e, hx0⟩ := Kd.at_int hC 0 (by omega) (by omega)
 obtain ⟨ad', e', hx1⟩ := Kd.at_int hC 1 (by omega) (by omega)
 subst e
 cases e'
 unfold evenPair
 clear hC
 generalize rd x 0 = p at *
 generalize rd x 1 = q at *
 rw [h2]
 clear h2
 replace hx0 : w.cell? ad = some (.int .i64 p) := by simpa [Addr.add] using hx0
 replace hx1 : w.cell? ⟨ad.block, ad.off + 1, none⟩ = some (.int .i64 q) := by simpa [Addr.add] using hx1
 go_enter Try.func67, Try.ntmps67
 go_wp2_with fail
 repeat (go_quiet (fail); try go_wp2_with fail)
 go_ret
 exact ⟨by first | rfl | simp, by repeat (first | exact Below.refl _ _ | apply below_drew1 | apply pw_below_drewN | exact ⟨rfl, rfl, rfl, Nat.le_refl _, fun _ _ => rfl⟩)⟩
def contains_even.f (l0 : List (List Int)) : Option Bool := if (l0.all fun x => decide (x.length = 2)) = true then some (l0.any evenPair) else none
theorem contains_even.calls (A0 : Option Addr) (c0 : Nat) (l0 : List (List Int)) (r : Bool) (w : World) (hr0 : Kd.C (Kd.slice 3 (Kd.int .i64)) w A0 l0.length l0) (hc0 : l0.length ≤ c0) (h : contains_even.f l0 = some r) :
  Calls Try.prog 66 #[.slice A0 l0.length c0, .func (.func 67) #[] #[]] w fun e w' => e = .returned (.bool r) ∧ Below w.heap.size w w' := by
 unfold contains_even.f at h
 split at h
 ·rename_i ha
  obtain rfl := Option.some.inj h
  refine slices_ContainsFuncS.gen evenPair 67 #[] (enters_of Try.func67 (by kernel_rfl) rfl) A0 c0 l0 w hr0 (fun W x A1 c1 hW hx hc hC => ?_)
  refine (impl_IsLabyrinth_1.calls A1 c1 x W (by have := List.all_eq_true.1 ha x hx; simpa using this) hC).mono ?_
  rintro e w' ⟨rfl, hb⟩
  exact ⟨rfl, below_step hW hb⟩
 ·exact absurd h (by simp)

end Go.Proofs.Ytkkjlbpffcdlfaa.X
