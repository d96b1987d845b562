/- The program's SightFrom returns what the reference's returns, for all arguments, in new memory. No conditions: every maze, every cell, every direction. -/
import Derived.Test.YtekgbinadmjapaaXlawsFnExactSightFrom
import Derived.Test.YtekgbinadmjapaaLSight
namespace Go.Proofs.Ytekgbinadmjapaa.Pure
open Go.RowKit Go.Proofs.Ytekgbinadmjapaa.X Go.Proofs.Ytekgbinadmjapaa.L Go.Proofs.YtekgbinadmjapaaW.PrintWords Go.Proofs.YtekgbinadmjapaaW.PrintLast

theorem FnExactSightFrom : laws_FnExactSightFrom.Pure := by
  intro w h o c d _ _ _ _ _
  refine ⟨40, ?_⟩
  have hl := sight_length w h o c d
  unfold laws_FnExactSightFrom.f laws_toMaze.f laws_toGrid.f
  simp only [Option.bind_some, sSight 40 w h o c d (by omega), iSight 40 w h o c d (by omega), eqIntS 40 _ _ (show (sight w h o c d).length ≤ 140737488355328 by omega) (show (sight w h o c d).length < 40 by omega), markIntS 40 (sight w h o c d) 1 (by omega) (by omega) (by omega) (by omega), heldIntS 40 (sight w h o c d).length 1 (by omega) (by omega) (by omega) (by omega), decide_true, if_true]
  rw [if_neg (by omega), if_neg (by omega)]
end Go.Proofs.Ytekgbinadmjapaa.Pure
