/- The program's EarliestAt returns what the reference's returns, for all arguments. No conditions beyond the given bounds on the size of what comes in. -/
import Derived.Test.YtlfomjhjeknnmaaXlawsFnExactEarliestAt
import Derived.Test.YtlfomjhjeknnmaaLGates
namespace Go.Proofs.Ytlfomjhjeknnmaa.Pure
open Go.RowKit Go.Proofs.Ytlfomjhjeknnmaa.X Go.Proofs.Ytlfomjhjeknnmaa.L Go.Proofs.YtlfomjhjeknnmaaW.PrintWords Go.Proofs.YtlfomjhjeknnmaaW.PrintLast

theorem FnExactEarliestAt : laws_FnExactEarliestAt.Pure := by
  intro w h o p l a q b _ _ _ _ hm _ _ _
  refine ⟨l.length + 1024, ?_⟩
  unfold laws_FnExactEarliestAt.f
  rw [szTimed w h o p l hm]
  simp only [Option.bind_some]
  by_cases hl : l.length ≤ 1048576
  · rw [if_pos hl, if_neg (by omega)]
    simp only [toTimed (l.length + 1024) w h o p l hl (by omega), sEarliestAt (l.length + 1024) (by omega), iEarliestAt (l.length + 1024) (by omega), Option.bind_some, if_true, eqTimed (l.length + 1024) w h o p (l.map cvG) (by simp; omega) (by simp)]
  · rw [if_neg hl, if_pos (by omega)]
end Go.Proofs.Ytlfomjhjeknnmaa.Pure
