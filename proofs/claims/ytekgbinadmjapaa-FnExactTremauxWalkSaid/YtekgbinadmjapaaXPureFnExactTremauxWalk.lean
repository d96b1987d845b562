/- The program's TremauxWalk returns what the reference's returns, for all arguments, in new memory. No conditions: every maze and every cell. -/
import Derived.Test.YtekgbinadmjapaaXlawsFnExactTremauxWalk
import Derived.Test.YtekgbinadmjapaaLTWalk
namespace Go.Proofs.Ytekgbinadmjapaa.Pure
open Go.RowKit Go.Proofs.Ytekgbinadmjapaa.X Go.Proofs.Ytekgbinadmjapaa.L Go.Proofs.YtekgbinadmjapaaW.PrintWords Go.Proofs.YtekgbinadmjapaaW.PrintLast

theorem FnExactTremauxWalk : laws_FnExactTremauxWalk.Pure := by
  intro w h o a _ _ _ _
  refine ⟨602, ?_⟩
  unfold laws_FnExactTremauxWalk.f
  have hl := tremaux_length w h o a
  obtain ⟨x, hx⟩ : ∃ x, x = (tremaux w h o a).1 := ⟨_, rfl⟩
  obtain ⟨y, hy⟩ : ∃ y, y = (tremaux w h o a).2 := ⟨_, rfl⟩
  have hS := sTremauxWalk 602 w h o a (by omega)
  have hI := iTremauxWalk 602 w h o a (by omega)
  have hI1 := iTremauxWalk 601 w h o a (by omega)
  rw [show tremaux w h o a = (x, y) by rw [hx, hy]] at hS hI hI1
  rw [← hx, ← hy] at hl
  clear hx hy
  simp only [laws_toMaze.f, laws_toGrid.f, Option.bind_some, hS, hI, eqIntS 602 x x (by omega) (by omega), eqIntS 602 y y (by omega) (by omega), decide_true, if_true, Bool.not_true]
  simp only [laws_FnExactTremauxWalk.j0, laws_toMaze.f, laws_toGrid.f, Bool.false_eq_true, if_false, markIntS 601 x 1 (by omega) (by omega) (by omega) (by omega), Option.bind_some, markIntS 601 y (1 + x.length) (by omega) (by omega) (by omega) (by omega), heldIntS 601 x.length 1 (by omega) (by omega) (by omega) (by omega), heldIntS 601 y.length (1 + x.length) (by omega) (by omega) (by omega) (by omega), hI1, eqIntS 601 x x (by omega) (by omega), eqIntS 601 y y (by omega) (by omega), decide_true, if_true, Bool.not_true]
  rw [if_neg (by omega), if_neg (by omega)]
  simp only [laws_FnExactTremauxWalk.j1, Bool.false_eq_true, if_false, heldIntS 600 x.length 1 (by omega) (by omega) (by omega) (by omega), Option.bind_some, heldIntS 600 y.length (1 + x.length) (by omega) (by omega) (by omega) (by omega), if_true]
  rw [if_neg (by omega), if_neg (by omega)]
end Go.Proofs.Ytekgbinadmjapaa.Pure
