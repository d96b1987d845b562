/- The program's SeesEach returns what the reference's returns, for all arguments. No conditions. -/
import Derived.Test.YtmcllgonjlapoaaXlawsFnExactSeesEach
import Derived.Test.YtmcllgonjlapoaaLSee
namespace Go.Proofs.Ytmcllgonjlapoaa.Pure
open Go.RowKit Go.Proofs.Ytmcllgonjlapoaa.X Go.Proofs.Ytmcllgonjlapoaa.L Go.Proofs.YtmcllgonjlapoaaW.PrintWords Go.Proofs.YtmcllgonjlapoaaW.PrintLast

theorem FnExactSeesEach : laws_FnExactSeesEach.Pure := by
  intro w h o a b _ _ _ _ _
  refine ⟨140, ?_⟩
  unfold laws_FnExactSeesEach.f laws_toMaze.f laws_toGrid.f
  simp only [Option.bind_some, sSeesEach 140 w h o a b (by omega), iSeesEach 140 w h o a b (by omega), bne_self_eq_false, Bool.false_eq_true, if_false]
end Go.Proofs.Ytmcllgonjlapoaa.Pure
