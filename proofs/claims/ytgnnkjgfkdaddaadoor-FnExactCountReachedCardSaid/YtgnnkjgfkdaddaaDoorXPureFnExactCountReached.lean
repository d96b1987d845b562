/- The program's CountReached returns what the reference's returns, for all arguments. No conditions beyond the given bound on the list's length. -/
import Derived.Test.YtgnnkjgfkdaddaaDoorXlawsFnExactCountReached
import Derived.Test.YtgnnkjgfkdaddaaDoorLReached
namespace Go.Proofs.YtgnnkjgfkdaddaaDoor.Pure
open Go.RowKit Go.Proofs.YtgnnkjgfkdaddaaDoor.X Go.Proofs.YtgnnkjgfkdaddaaDoor.L Go.Proofs.YtgnnkjgfkdaddaaDoorW.PrintWords Go.Proofs.YtgnnkjgfkdaddaaDoorW.PrintLast

theorem FnExactCountReached : laws_FnExactCountReached.Pure := by
  intro w h o l _ _ _ _ _ _
  refine ⟨2 * l.length + 400000, ?_⟩
  unfold laws_FnExactCountReached.f laws_toMaze.f laws_toGrid.f
  by_cases hl : (l.length : Int) > 1048576
  · rw [if_pos hl]
  · rw [if_neg hl]
    have hT := toIntS (2 * l.length + 400000) l (by omega) (by omega)
    have hS := sCountReached (2 * l.length + 400000) w h o l (by omega) (by omega)
    have hI := iCountReached (2 * l.length + 400000) w h o l (by omega) (by omega)
    have hE := eqIntS (2 * l.length + 400000) l l (by omega) (by omega)
    simp only [hT, hS, hI, hE, Option.bind_some, decide_true, if_true]
end Go.Proofs.YtgnnkjgfkdaddaaDoor.Pure
