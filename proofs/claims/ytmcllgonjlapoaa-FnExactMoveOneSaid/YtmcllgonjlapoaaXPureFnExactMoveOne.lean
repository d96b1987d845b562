/- The program's MoveOne returns what the reference's returns, for all arguments, in new memory. No conditions beyond the given bound on the list's length. -/
import Derived.Test.YtmcllgonjlapoaaXlawsFnExactMoveOne
import Derived.Test.YtmcllgonjlapoaaLCrowd
namespace Go.Proofs.Ytmcllgonjlapoaa.Pure
open Go.RowKit Go.Proofs.Ytmcllgonjlapoaa.X Go.Proofs.Ytmcllgonjlapoaa.L Go.Proofs.YtmcllgonjlapoaaW.PrintWords Go.Proofs.YtmcllgonjlapoaaW.PrintLast

theorem FnExactMoveOne : laws_FnExactMoveOne.Pure := by
  intro w h o l who d _ _ _ _ _ _ _ _
  refine ⟨2 * l.length + 33, ?_⟩
  unfold laws_FnExactMoveOne.f laws_toMaze.f laws_toGrid.f
  by_cases hl : (l.length : Int) > 1048576
  · rw [if_pos hl]
  · rw [if_neg hl]
    have hn := moveOne_length w h o l who d
    have hT := fun n (hn : n = 2 * l.length + 33 ∨ n = 2 * l.length + 32 ∨ n = 2 * l.length + 31) => toIntS n l (by omega) (by omega)
    have hS := sMoveOne (2 * l.length + 33) w h o l who d (by omega) (by omega)
    have hI := fun n (hn : n = 2 * l.length + 33 ∨ n = 2 * l.length + 31) => iMoveOne n w h o l who d (by omega) (by omega)
    have hE := fun n (hn : n = 2 * l.length + 33 ∨ n = 2 * l.length + 32 ∨ n = 2 * l.length + 31) => eqIntS n l l (by omega) (by omega)
    have hE2 := fun n (hn : n = 2 * l.length + 33 ∨ n = 2 * l.length + 32 ∨ n = 2 * l.length + 31) => eqIntS n (moveOne w h o l who d).1 (moveOne w h o l who d).1 (by omega) (by omega)
    have hM := fun n (hn : n = 2 * l.length + 33 ∨ n = 2 * l.length + 32 ∨ n = 2 * l.length + 31) => markIntS n l 1 (by omega) (by omega) (by omega) (by omega)
    have hM2 := fun n (hn : n = 2 * l.length + 33 ∨ n = 2 * l.length + 32 ∨ n = 2 * l.length + 31) => markIntS n (moveOne w h o l who d).1 1 (by omega) (by omega) (by omega) (by omega)
    have hH := fun n (hn : n = 2 * l.length + 31 ∨ n = 2 * l.length + 30) => heldIntS n (moveOne w h o l who d).1.length 1 (by omega) (by omega) (by omega) (by omega)
    simp only [hT _ (.inl rfl), hS, hI _ (.inl rfl), hE2 _ (.inl rfl), Option.bind_some, decide_true, if_true, bne_self_eq_false]
    simp only [laws_FnExactMoveOne.j0, Bool.false_eq_true, if_false, hT _ (.inr (.inl rfl)), hE _ (.inr (.inl rfl)), hM _ (.inr (.inl rfl)), hE2 _ (.inr (.inl rfl)), Option.bind_some, decide_true, if_true, bne_self_eq_false]
    rw [if_neg (by omega)]
    simp only [laws_FnExactMoveOne.j1, laws_toMaze.f, laws_toGrid.f, Bool.false_eq_true, if_false, hT _ (.inr (.inr rfl)), hI _ (.inr rfl), hM2 _ (.inr (.inr rfl)), hH _ (.inl rfl), hE2 _ (.inr (.inr rfl)), Option.bind_some, decide_true, if_true, bne_self_eq_false]
    rw [if_neg (by omega)]
    simp only [laws_FnExactMoveOne.j2, Bool.false_eq_true, if_false, hH _ (.inr rfl), Option.bind_some, if_true]
    rw [if_neg (by omega)]
end Go.Proofs.Ytmcllgonjlapoaa.Pure
