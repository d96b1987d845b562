/- The program's CoversAll returns what the reference's returns, for all arguments. No conditions beyond the given bound on the list's length. -/
import Derived.Test.YtmcllgonjlapoaaXlawsFnExactCoversAll
import Derived.Test.YtmcllgonjlapoaaLCover
namespace Go.Proofs.Ytmcllgonjlapoaa.Pure
open Go.RowKit Go.Proofs.Ytmcllgonjlapoaa.X Go.Proofs.Ytmcllgonjlapoaa.L Go.Proofs.YtmcllgonjlapoaaW.PrintWords Go.Proofs.YtmcllgonjlapoaaW.PrintLast

theorem FnExactCoversAll : laws_FnExactCoversAll.Pure := by
  intro w h o c f l _ _ _ _ _ _ _ _
  refine ⟨l.length + 200, ?_⟩
  unfold laws_FnExactCoversAll.f laws_toMaze.f laws_toGrid.f laws_toWalker.f
  by_cases hl : (l.length : Int) > 1048576
  · rw [if_pos hl]
  · rw [if_neg hl]
    have hT := toIntS (l.length + 200) l (by omega) (by omega)
    have hS := sCovers (l.length + 200) w h o c f l (by omega) (by omega)
    have hI := iCovers (l.length + 200) w h o c f l (by omega) (by omega)
    have hE := eqIntS (l.length + 200) l l (by omega) (by omega)
    simp only [hT, hS, hI, hE, Option.bind_some, decide_true, if_true, bne_self_eq_false, Bool.false_eq_true, if_false]
end Go.Proofs.Ytmcllgonjlapoaa.Pure
