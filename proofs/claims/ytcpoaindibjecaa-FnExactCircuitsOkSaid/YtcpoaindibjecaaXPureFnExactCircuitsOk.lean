/- The program's CircuitsOk returns what the reference's returns, for all arguments. No conditions beyond the given bounds on the size of what comes in. -/
import Derived.Test.YtcpoaindibjecaaXx19
import Derived.Test.YtcpoaindibjecaaLCircuits
namespace Go.Proofs.Ytcpoaindibjecaa.Pure
open Go.RowKit Go.Proofs.Ytcpoaindibjecaa.X Go.Proofs.Ytcpoaindibjecaa.L Go.Proofs.YtcpoaindibjecaaW.PrintWords Go.Proofs.YtcpoaindibjecaaW.PrintLast

theorem FnExactCircuitsOk : laws_FnExactCircuitsOk.Pure := by
  intro l _ _ _
  refine ⟨2 * l.length + 10, ?_⟩
  unfold laws_FnExactCircuitsOk.f
  by_cases hl : (l.length : Int) > 1048576
  · rw [if_pos hl]
  · rw [if_neg hl]
    simp only [toIntS _ l (show l.length ≤ 35184372088832 by omega) (show l.length < 2 * l.length + 10 by omega), Option.bind_some, sCircuitsOk _ l (by omega) (show 2 * l.length + 2 ≤ 2 * l.length + 10 by omega), iCircuitsOk _ l (by omega) (show 2 * l.length + 2 ≤ 2 * l.length + 10 by omega), eqIntS _ l l (by omega) (show l.length < 2 * l.length + 10 by omega)]
    simp
end Go.Proofs.Ytcpoaindibjecaa.Pure
