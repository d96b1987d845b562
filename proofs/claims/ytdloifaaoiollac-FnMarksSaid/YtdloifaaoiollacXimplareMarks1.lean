-- Written by a program of this session (xprint.py), out of the translation and of hand-written contracts. Lean checks it.
import Derived.Test.YtdloifaaoiollacX0
import Derived.Test.YtdloifaaoiollacXchof
namespace Go.Proofs.Ytdloifaaoiollac.X
open Go.RowKit Go.Proofs.YtdloifaaoiollacW.PrintWords Go.Proofs.YtdloifaaoiollacW.PrintLast Go.Proofs.YtdloifaaoiollacW.PrintMore
attribute [local go_sem] max2_int min2_int max_two min_two max_three min_three max_four min_four   -- for this text's walks alone
set_option linter.unusedVariables false
set_option linter.unusedSimpArgs false

/-! ### impl_areMarks_1: function 99 (by hand) -/
set_option maxHeartbeats 1000000 in
theorem impl_areMarks_1.calls (x : Int) (w : World) :
  Calls Try.prog 99 #[.int .i64 x] w fun e w' => e = .returned (.bool (decide (x < 0) || decide (x > 2))) ∧ w' = w := by
 by_cases c : x < 0
 ·go_enter Try.func99, Try.ntmps99
  go_wp2
  go_ret
  exact ⟨by simp <;> omega, rfl⟩
 ·by_cases d : 2 < x
  all_goals
   go_enter Try.func99, Try.ntmps99
   go_wp2
   go_ret
   exact ⟨by simp <;> omega, rfl⟩
def contains_areMarks.f (l0 : List Int) : Option Bool := some (l0.any fun x => decide (x < 0) || decide (x > 2))
theorem contains_areMarks.calls (A0 : Option Addr) (c0 : Nat) (l0 : List Int) (r : Bool) (w : World) (hr0 : Kd.C (Kd.int .i64) w A0 l0.length l0) (hc0 : l0.length ≤ c0) (h : contains_areMarks.f l0 = some r) :
  Calls Try.prog 70 #[.slice A0 l0.length c0, .func (.func 99) #[] #[]] w fun e w' => e = .returned (.bool r) ∧ Below w.heap.size w w' := by
 obtain rfl := Option.some.inj h
 refine slices_ContainsFunc.gen (fun x => decide (x < 0) || decide (x > 2)) 99 #[] (enters_of Try.func99 (by kernel_rfl) rfl) A0 c0 l0 w hr0 (fun W x hW hx => ?_)
 refine (impl_areMarks_1.calls x W).mono ?_
 rintro e w' ⟨rfl, rfl⟩
 exact ⟨rfl, hW⟩

end Go.Proofs.Ytdloifaaoiollac.X
