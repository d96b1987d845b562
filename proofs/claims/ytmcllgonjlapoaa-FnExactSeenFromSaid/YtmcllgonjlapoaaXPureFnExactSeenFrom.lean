/- The program's SeenFrom returns what the reference's returns, for all arguments, in new memory. No conditions. -/
import Derived.Test.YtmcllgonjlapoaaXlawsFnExactSeenFrom
import Derived.Test.YtmcllgonjlapoaaLSee
namespace Go.Proofs.Ytmcllgonjlapoaa.Pure
open Go.RowKit Go.Proofs.Ytmcllgonjlapoaa.X Go.Proofs.Ytmcllgonjlapoaa.L Go.Proofs.YtmcllgonjlapoaaW.PrintWords Go.Proofs.YtmcllgonjlapoaaW.PrintLast

theorem FnExactSeenFrom : laws_FnExactSeenFrom.Pure := by
  intro w h o c _ _ _ _
  refine ⟨140, ?_⟩
  have hl := seenC_length w h o c
  unfold laws_FnExactSeenFrom.f laws_toMaze.f laws_toGrid.f
  simp only [Option.bind_some, sSeenFrom 140 w h o c (by omega), iSeenFrom 140 w h o c (by omega), eqIntS 140 _ _ (show (seenC w h o c).length ≤ 140737488355328 by omega) (show (seenC w h o c).length < 140 by omega), markIntS 140 (seenC w h o c) 1 (by omega) (by omega) (by omega) (by omega), heldIntS 140 (seenC w h o c).length 1 (by omega) (by omega) (by omega) (by omega), decide_true, if_true]
  rw [if_neg (by omega), if_neg (by omega)]
end Go.Proofs.Ytmcllgonjlapoaa.Pure
