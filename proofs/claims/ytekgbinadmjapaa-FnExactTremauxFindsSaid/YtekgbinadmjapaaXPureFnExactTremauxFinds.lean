/- The program's TremauxFinds returns what the reference's returns, for all arguments. No conditions: every maze, every start, every goal. -/
import Derived.Test.YtekgbinadmjapaaXlawsFnExactTremauxFinds
import Derived.Test.YtekgbinadmjapaaLTWalk
namespace Go.Proofs.Ytekgbinadmjapaa.Pure
open Go.RowKit Go.Proofs.Ytekgbinadmjapaa.X Go.Proofs.Ytekgbinadmjapaa.L Go.Proofs.YtekgbinadmjapaaW.PrintWords Go.Proofs.YtekgbinadmjapaaW.PrintLast

theorem FnExactTremauxFinds : laws_FnExactTremauxFinds.Pure := by
  intro w h o a b _ _ _ _ _
  refine ⟨600, ?_⟩
  unfold laws_FnExactTremauxFinds.f
  simp only [laws_toMaze.f, laws_toGrid.f, Option.bind_some, sTremauxFinds 600 w h o a b (by omega), iTremauxFinds 600 w h o a b (by omega), bne_self_eq_false, Bool.false_eq_true, if_false]
end Go.Proofs.Ytekgbinadmjapaa.Pure
