/- The program's IsLabyrinth returns what the reference's returns, for all arguments. No conditions beyond the given bound on the list's length. -/
import Derived.Test.YtekgbinadmjapabXlawsFnExactIsLabyrinth
import Derived.Test.YtekgbinadmjapabLLab
namespace Go.Proofs.Ytekgbinadmjapab.Pure
open Go.RowKit Go.Proofs.Ytekgbinadmjapab.X Go.Proofs.Ytekgbinadmjapab.L Go.Proofs.YtekgbinadmjapabW.PrintWords Go.Proofs.YtekgbinadmjapabW.PrintLast

theorem FnExactIsLabyrinth : laws_FnExactIsLabyrinth.Pure := by
  intro l _ _ _
  refine ⟨2 * l.length + 5000, ?_⟩
  unfold laws_FnExactIsLabyrinth.f
  by_cases hl : (l.length : Int) > 1048576
  · rw [if_pos hl]
  · rw [if_neg hl]
    have hT := toIntS (2 * l.length + 5000) l (by omega) (by omega)
    have hS := sIsLab (2 * l.length + 5000) l (by omega) (by omega)
    have hI := iIsLab (2 * l.length + 5000) l (by omega) (by omega)
    have hE := eqIntS (2 * l.length + 5000) l l (by omega) (by omega)
    simp only [hT, hS, hI, hE, Option.bind_some, decide_true, if_true, bne_self_eq_false, Bool.false_eq_true, if_false]
end Go.Proofs.Ytekgbinadmjapab.Pure
