/- The program's IsUniversal returns what the reference's returns, for all arguments. No conditions beyond the given bounds on the size of what comes in. -/
import Derived.Test.YtmcllgonjlapoaaXlawsFnExactIsUniversal
import Derived.Test.YtmcllgonjlapoaaLFail
namespace Go.Proofs.Ytmcllgonjlapoaa.Pure
open Go.RowKit Go.Proofs.Ytmcllgonjlapoaa.X Go.Proofs.Ytmcllgonjlapoaa.L Go.Proofs.YtmcllgonjlapoaaW.PrintWords Go.Proofs.YtmcllgonjlapoaaW.PrintLast

theorem FnExactIsUniversal : laws_FnExactIsUniversal.Pure := by
  intro w h l _ _ hm hm8 _
  refine ⟨l.length + 12000, ?_⟩
  unfold laws_FnExactIsUniversal.f laws_toGrid.f
  by_cases hl : (l.length : Int) > 1048576
  · rw [if_pos hl]
  · rw [if_neg hl]
    simp only [Option.bind_some]
    rw [toIntS (l.length + 12000) l (by omega) (by omega)]
    simp only [Option.bind_some]
    rw [sUniversal (l.length + 12000) w h l (by omega) (by omega)]
    simp only [Option.bind_some]
    rw [iUniversal (l.length + 12000) w h l (by omega)]
    simp only [Option.bind_some]
    rw [if_neg (by simp), eqIntS (l.length + 12000) l l (by omega) (by omega)]
    simp
end Go.Proofs.Ytmcllgonjlapoaa.Pure
