/- The program's CrowdOk returns what the reference's returns, for all arguments. No conditions beyond the given bound on the list's length. -/
import Derived.Test.YtmcllgonjlapoaaXlawsFnExactCrowdOk
import Derived.Test.YtmcllgonjlapoaaLCrowd
namespace Go.Proofs.Ytmcllgonjlapoaa.Pure
open Go.RowKit Go.Proofs.Ytmcllgonjlapoaa.X Go.Proofs.Ytmcllgonjlapoaa.L Go.Proofs.YtmcllgonjlapoaaW.PrintWords Go.Proofs.YtmcllgonjlapoaaW.PrintLast

theorem FnExactCrowdOk : laws_FnExactCrowdOk.Pure := by
  intro w h o l _ _ _ _ _ _
  refine ⟨2 * l.length + 20, ?_⟩
  unfold laws_FnExactCrowdOk.f laws_toMaze.f laws_toGrid.f
  by_cases hl : (l.length : Int) > 1048576
  · rw [if_pos hl]
  · rw [if_neg hl]
    have hT := toIntS (2 * l.length + 20) l (by omega) (by omega)
    have hS := sCrowdOk (2 * l.length + 20) w h o l (by omega) (by omega)
    have hE := eqIntS (2 * l.length + 20) l l (by omega) (by omega)
    simp only [hT, hS, iCrowdOk, hE, Option.bind_some, decide_true, if_true, bne_self_eq_false, Bool.false_eq_true, if_false]
end Go.Proofs.Ytmcllgonjlapoaa.Pure
