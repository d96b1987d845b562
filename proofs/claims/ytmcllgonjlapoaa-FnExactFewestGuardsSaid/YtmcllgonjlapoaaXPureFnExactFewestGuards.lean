/- The program's FewestGuards returns what the reference's returns, for all mazes, in new memory. No conditions. -/
import Derived.Test.YtmcllgonjlapoaaXlawsFnExactFewestGuards
import Derived.Test.YtmcllgonjlapoaaLGuards
namespace Go.Proofs.Ytmcllgonjlapoaa.Pure
open Go.RowKit Go.Proofs.Ytmcllgonjlapoaa.X Go.Proofs.Ytmcllgonjlapoaa.L Go.Proofs.YtmcllgonjlapoaaW.PrintWords Go.Proofs.YtmcllgonjlapoaaW.PrintLast

theorem FnExactFewestGuards : laws_FnExactFewestGuards.Pure := by
  intro w h o _ _ _
  refine ⟨400, ?_⟩
  obtain ⟨r, hl, hI, hS⟩ := few w h o
  unfold laws_FnExactFewestGuards.f laws_toMaze.f laws_toGrid.f
  simp only [Option.bind_some, hI, hS, eqIntS 400 r r (by omega) (by omega), markIntS 400 r 1 (by omega) (by omega) (by omega) (by omega), heldIntS 400 r.length 1 (by omega) (by omega) (by omega) (by omega), decide_true, if_true]
  rw [if_neg (by omega), if_neg (by omega)]
end Go.Proofs.Ytmcllgonjlapoaa.Pure
