/- The program's IsSafe returns what the reference's returns, for all arguments. No conditions beyond the given bounds on the size of what comes in. -/
import Derived.Test.YtlfomjhjeknnmaaXlawsFnExactIsSafe
import Derived.Test.YtlfomjhjeknnmaaLTrap
namespace Go.Proofs.Ytlfomjhjeknnmaa.Pure
open Go.RowKit Go.Proofs.Ytlfomjhjeknnmaa.X Go.Proofs.Ytlfomjhjeknnmaa.L Go.Proofs.YtlfomjhjeknnmaaW.PrintWords Go.Proofs.YtlfomjhjeknnmaaW.PrintLast

theorem FnExactIsSafe : laws_FnExactIsSafe.Pure := by
  intro w h o p l b _ _ _ _ hm _
  refine ⟨l.length + 1400, ?_⟩
  unfold laws_FnExactIsSafe.f
  rw [szTimed w h o p l hm]
  simp only [Option.bind_some]
  by_cases hl : l.length ≤ 1048576
  · rw [if_pos hl, if_neg (by omega)]
    simp only [toTimed (l.length + 1400) w h o p l hl (by omega), sIsSafe w h o p b _ (l.length + 1400) (by omega), iIsSafe w h o p b _ (l.length + 1400) (by omega), Option.bind_some, bne_self_eq_false, Bool.false_eq_true, if_false, if_true, eqTimed (l.length + 1400) w h o p (l.map cvG) (by simp; omega) (by simp)]
  · rw [if_neg hl, if_pos (by omega)]
end Go.Proofs.Ytlfomjhjeknnmaa.Pure
