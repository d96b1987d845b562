/- The program's OpenNow returns what the reference's returns, for all arguments. No conditions beyond the given bounds on the size of what comes in. -/
import Derived.Test.YtekgbinadmjapaaXlawsFnExactOpenNow
import Derived.Test.YtekgbinadmjapaaLOpen
namespace Go.Proofs.Ytekgbinadmjapaa.Pure
open Go.RowKit Go.Proofs.Ytekgbinadmjapaa.X Go.Proofs.Ytekgbinadmjapaa.L Go.Proofs.YtekgbinadmjapaaW.PrintWords Go.Proofs.YtekgbinadmjapaaW.PrintLast

theorem FnExactOpenNow : laws_FnExactOpenNow.Pure := by
  intro w h o g lim _ _ _ hm hm8 _ _
  refine ⟨g.length + 10, ?_⟩
  unfold laws_FnExactOpenNow.f
  rw [szHedge w h o g lim (by omega)]
  simp only [Option.bind_some]
  by_cases hl : g.length ≤ 1048576
  · rw [if_pos hl, if_neg (by omega)]
    simp only [toHedge (g.length + 10) w h o g lim (by omega) (by omega), Option.bind_some, sOpenNow (g.length + 10) w h o g lim (by omega) (by omega), iOpenNow (g.length + 10) w h o g lim (by omega), eqMaze, eqHedge (g.length + 10) w h o g lim w h o g lim (by omega) (by omega)]
    simp
  · rw [if_neg hl, if_pos (by omega)]
end Go.Proofs.Ytekgbinadmjapaa.Pure
