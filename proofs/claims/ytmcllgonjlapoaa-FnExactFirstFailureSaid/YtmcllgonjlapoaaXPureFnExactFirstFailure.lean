/- The program's FirstFailure returns what the reference's returns, for all arguments. No conditions beyond the given bounds on the size of what comes in. -/
import Derived.Test.YtmcllgonjlapoaaXlawsFnExactFirstFailure
import Derived.Test.YtmcllgonjlapoaaLFail
namespace Go.Proofs.Ytmcllgonjlapoaa.Pure
open Go.RowKit Go.Proofs.Ytmcllgonjlapoaa.X Go.Proofs.Ytmcllgonjlapoaa.L Go.Proofs.YtmcllgonjlapoaaW.PrintWords Go.Proofs.YtmcllgonjlapoaaW.PrintLast

theorem FnExactFirstFailure : laws_FnExactFirstFailure.Pure := by
  intro w h l _ _ hm hm8 _
  refine ⟨l.length + 12000, ?_⟩
  unfold laws_FnExactFirstFailure.f laws_toGrid.f
  by_cases hl : (l.length : Int) > 1048576
  · rw [if_pos hl]
  · rw [if_neg hl]
    simp only [Option.bind_some]
    rw [toIntS (l.length + 12000) l (by omega) (by omega)]
    simp only [Option.bind_some]
    rw [sFF (l.length + 12000) w h l (by omega) (by omega)]
    simp only [Option.bind_some]
    rw [iFF (l.length + 12000) w h l (by omega)]
    simp only [Option.bind_some]
    unfold laws_eqMaze.f laws_eqGrid.f laws_eqWalker.f
    simp only [bne_self_eq_false]
    have e : laws_FnExactFirstFailure.j0 (l.length + 12000) l l false = some true := by
      rw [show l.length + 12000 = (l.length + 11999) + 1 by omega, laws_FnExactFirstFailure.j0, if_neg (by simp), toIntS (l.length + 11999) l (by omega) (by omega)]
      simp only [Option.bind_some]
      rw [eqIntS (l.length + 11999) l l (by omega) (by omega)]
      simp
    simp [e]
end Go.Proofs.Ytmcllgonjlapoaa.Pure
