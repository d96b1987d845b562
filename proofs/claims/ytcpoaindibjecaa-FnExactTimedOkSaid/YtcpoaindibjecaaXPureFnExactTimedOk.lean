/- The program's TimedOk returns what the reference's returns, for all arguments. No conditions beyond the given bounds on the size of what comes in. -/
import Derived.Test.YtcpoaindibjecaaXlawsFnExactTimedOk
import Derived.Test.YtcpoaindibjecaaLTimed
namespace Go.Proofs.Ytcpoaindibjecaa.Pure
open Go.RowKit Go.Proofs.Ytcpoaindibjecaa.X Go.Proofs.Ytcpoaindibjecaa.L Go.Proofs.YtcpoaindibjecaaW.PrintWords Go.Proofs.YtcpoaindibjecaaW.PrintLast

theorem FnExactTimedOk : laws_FnExactTimedOk.Pure := by
  intro w h o p l _ _ _ _ hm
  refine ⟨l.length + 21, ?_⟩
  unfold laws_FnExactTimedOk.f
  rw [szTimed w h o p l hm]
  simp only [Option.bind_some]
  by_cases hl : l.length ≤ 1048576
  · rw [if_pos hl, if_neg (by omega)]
    simp only [toTimed (l.length + 21) w h o p l hl (by omega), sTimedOk (l.length + 21) w h o p _ (by omega), iTimedOk (l.length + 21) w h o p _ (by omega), eqTimed (l.length + 21) w h o p (l.map cvG) (by simp; omega) (by simp), Option.bind_some]
    simp
  · rw [if_neg hl, if_pos (by omega)]
end Go.Proofs.Ytcpoaindibjecaa.Pure
