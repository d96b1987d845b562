/- The program's CrossPairs returns what the reference's returns, for all arguments. No conditions beyond the given bounds on the size of what comes in. -/
import Derived.Test.YtcpoaindibjecaaXx8
import Derived.Test.YtcpoaindibjecaaLCross
namespace Go.Proofs.Ytcpoaindibjecaa.Pure
open Go.RowKit Go.Proofs.Ytcpoaindibjecaa.X Go.Proofs.Ytcpoaindibjecaa.L Go.Proofs.YtcpoaindibjecaaW.PrintWords Go.Proofs.YtcpoaindibjecaaW.PrintLast

theorem FnExactCrossPairs : laws_FnExactCrossPairs.Pure := by
  intro a b _ _ _ _ _ _
  refine ⟨a.length + b.length + 10, ?_⟩
  unfold laws_FnExactCrossPairs.f
  by_cases ha : (a.length : Int) > 1048576
  · rw [if_pos ha]
  · rw [if_neg ha]
    by_cases hb : (b.length : Int) > 1048576
    · rw [if_pos hb]
    · rw [if_neg hb]
      simp only [toIntS (a.length + b.length + 10) a (by omega) (by omega), toIntS (a.length + b.length + 10) b (by omega) (by omega), Option.bind_some, sCrossPairs _ a b (show 6 ≤ a.length + b.length + 10 by omega), iCrossPairs, eqIntS (a.length + b.length + 10) a a (by omega) (by omega), eqIntS (a.length + b.length + 10) b b (by omega) (by omega)]
      simp
end Go.Proofs.Ytcpoaindibjecaa.Pure
