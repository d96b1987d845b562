/- The program's HedgeOk returns what the reference's returns, for all arguments. No conditions beyond the given bounds on the size of what comes in. -/
import Derived.Test.YtcpoaindibjecaaXx25
import Derived.Test.YtcpoaindibjecaaLHedge
namespace Go.Proofs.Ytcpoaindibjecaa.Pure
open Go.RowKit Go.Proofs.Ytcpoaindibjecaa.X Go.Proofs.Ytcpoaindibjecaa.L Go.Proofs.YtcpoaindibjecaaW.PrintWords Go.Proofs.YtcpoaindibjecaaW.PrintLast

theorem FnExactHedgeOk : laws_FnExactHedgeOk.Pure := by
  intro w h o g lim _ _ _ hm hm8 _ _
  refine ⟨g.length + 10, ?_⟩
  unfold laws_FnExactHedgeOk.f
  rw [szHedge w h o g lim (by omega)]
  simp only [Option.bind_some]
  by_cases hl : g.length ≤ 1048576
  · rw [if_pos hl, if_neg (by omega)]
    simp only [toHedge (g.length + 10) w h o g lim (by omega) (by omega), Option.bind_some, sHedgeOk (g.length + 10) w h o g lim (by omega) (by omega), iHedgeOk, eqHedge (g.length + 10) w h o g lim w h o g lim (by omega) (by omega)]
    simp
  · rw [if_neg hl, if_pos (by omega)]
end Go.Proofs.Ytcpoaindibjecaa.Pure
