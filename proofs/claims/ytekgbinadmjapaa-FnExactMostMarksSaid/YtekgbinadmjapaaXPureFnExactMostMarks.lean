/- The program's MostMarks returns what the reference's returns, for all arguments. No conditions: every maze and every cell. -/
import Derived.Test.YtekgbinadmjapaaXlawsFnExactMostMarks
import Derived.Test.YtekgbinadmjapaaLTWalk
namespace Go.Proofs.Ytekgbinadmjapaa.Pure
open Go.RowKit Go.Proofs.Ytekgbinadmjapaa.X Go.Proofs.Ytekgbinadmjapaa.L Go.Proofs.YtekgbinadmjapaaW.PrintWords Go.Proofs.YtekgbinadmjapaaW.PrintLast

theorem FnExactMostMarks : laws_FnExactMostMarks.Pure := by
  intro w h o a _ _ _ _
  refine ⟨600, ?_⟩
  unfold laws_FnExactMostMarks.f
  simp only [laws_toMaze.f, laws_toGrid.f, Option.bind_some, sMostMarks 600 w h o a (by omega), iMostMarks 600 w h o a (by omega), if_true]
end Go.Proofs.Ytekgbinadmjapaa.Pure
