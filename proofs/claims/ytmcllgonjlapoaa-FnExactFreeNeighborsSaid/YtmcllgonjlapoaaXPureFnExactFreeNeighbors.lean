/- The program's FreeNeighbors returns what the reference's returns, for all arguments, in new memory. No conditions beyond the given bound on the list's length. -/
import Derived.Test.YtmcllgonjlapoaaXlawsFnExactFreeNeighbors
import Derived.Test.YtmcllgonjlapoaaLCrowd
namespace Go.Proofs.Ytmcllgonjlapoaa.Pure
open Go.RowKit Go.Proofs.Ytmcllgonjlapoaa.X Go.Proofs.Ytmcllgonjlapoaa.L Go.Proofs.YtmcllgonjlapoaaW.PrintWords Go.Proofs.YtmcllgonjlapoaaW.PrintLast

theorem FnExactFreeNeighbors : laws_FnExactFreeNeighbors.Pure := by
  intro w h o l who _ _ _ _ _ _ _
  refine ⟨2 * l.length + 33, ?_⟩
  unfold laws_FnExactFreeNeighbors.f laws_toMaze.f laws_toGrid.f
  by_cases hl : (l.length : Int) > 1048576
  · rw [if_pos hl]
  · rw [if_neg hl]
    have hn := freeNb_length w h o l who
    have hT := fun n (hn : n = 2 * l.length + 33 ∨ n = 2 * l.length + 32) => toIntS n l (by omega) (by omega)
    have hS := sFree (2 * l.length + 33) w h o l who (by omega) (by omega)
    have hI := fun n (hn : n = 2 * l.length + 33 ∨ n = 2 * l.length + 32) => iFree n w h o l who (by omega) (by omega)
    have hE := fun n (hn : n = 2 * l.length + 33 ∨ n = 2 * l.length + 32) => eqIntS n l l (by omega) (by omega)
    have hE2 := fun n (hn : n = 2 * l.length + 33 ∨ n = 2 * l.length + 32) => eqIntS n (freeNb w h o l who) (freeNb w h o l who) (by omega) (by omega)
    have hM := markIntS (2 * l.length + 33) l 1 (by omega) (by omega) (by omega) (by omega)
    have hM2 := markIntS (2 * l.length + 32) (freeNb w h o l who) 1 (by omega) (by omega) (by omega) (by omega)
    have hH := heldIntS (2 * l.length + 32) (freeNb w h o l who).length 1 (by omega) (by omega) (by omega) (by omega)
    simp only [hT _ (.inl rfl), hS, hI _ (.inl rfl), hE2 _ (.inl rfl), hE _ (.inl rfl), hM, Option.bind_some, decide_true, if_true, Bool.not_true]
    rw [if_neg (by omega)]
    simp only [laws_FnExactFreeNeighbors.j0, laws_toMaze.f, laws_toGrid.f, Bool.false_eq_true, if_false, hT _ (.inr rfl), hI _ (.inr rfl), hM2, hH, hE2 _ (.inr rfl), Option.bind_some, decide_true, if_true]
    rw [if_neg (by omega), if_neg (by omega)]
end Go.Proofs.Ytmcllgonjlapoaa.Pure
