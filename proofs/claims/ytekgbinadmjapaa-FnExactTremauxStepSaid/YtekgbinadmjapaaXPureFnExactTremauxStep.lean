/- The program's TremauxStep returns what the reference's returns, for all arguments. No conditions beyond the given bounds on the size of what comes in. -/
import Derived.Test.YtekgbinadmjapaaXlawsFnExactTremauxStep
import Derived.Test.YtekgbinadmjapaaLTremaux
namespace Go.Proofs.Ytekgbinadmjapaa.Pure
open Go.RowKit Go.Proofs.Ytekgbinadmjapaa.X Go.Proofs.Ytekgbinadmjapaa.L Go.Proofs.YtekgbinadmjapaaW.PrintWords Go.Proofs.YtekgbinadmjapaaW.PrintLast

theorem FnExactTremauxStep : laws_FnExactTremauxStep.Pure := by
  intro w h o l c f _ _ _ _ _ _ _ _
  refine ⟨l.length + 60, ?_⟩
  unfold laws_FnExactTremauxStep.f
  by_cases hl : (l.length : Int) > 1048576
  · rw [if_pos hl]
  · rw [if_neg hl]
    have eW : ∀ (a b : Int), laws_eqWalker.f a b a b = some true := fun a b => by unfold laws_eqWalker.f; simp
    simp only [laws_toMaze.f, laws_toGrid.f, laws_toWalker.f, toIntS (l.length + 60) l (by omega) (by omega), Option.bind_some, sTremauxStep (l.length + 60) w h o c f l (by omega) (by omega), iTremauxStep (l.length + 60) w h o c f l (by omega), eW, if_true, bne_self_eq_false, laws_FnExactTremauxStep.j0, Bool.false_eq_true, if_false, toIntS (l.length + 59) l (by omega) (by omega), eqIntS (l.length + 59) l l (by omega) (by omega), decide_true]
end Go.Proofs.Ytekgbinadmjapaa.Pure
