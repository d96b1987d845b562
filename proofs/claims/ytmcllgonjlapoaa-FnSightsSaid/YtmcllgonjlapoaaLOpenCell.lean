/- The drawn maze of many passages, and a cell of it. -/
import Derived.Test.YtmcllgonjlapoaaXspecDrawOpenCell
import Derived.Test.YtmcllgonjlapoaaLDrawMaze
import Derived.Test.YtmcllgonjlapoaaLStep
namespace Go.Proofs.Ytmcllgonjlapoaa.L
open Go.RowKit Go.Proofs.Ytmcllgonjlapoaa.X Go.Proofs.YtmcllgonjlapoaaW.PrintWords Go.Proofs.YtmcllgonjlapoaaW.PrintLast Go.Proofs.YtmcllgonjlapoaaW.PrintMore
set_option linter.unusedSimpArgs false
set_option linter.unusedVariables false

theorem open_cell (k : Nat) (s : List Int) (hs : s.length ≤ 140737488355328) (hk : 4001 < k) : ∃ w h o c, spec_DrawOpenCell.f k s = some (w, h, o, c) ∧ mazeOk w h o = true ∧ isCell w h c = true := by
  obtain ⟨h, e⟩ := new_ok k s hk
  obtain ⟨w, hh, o', i3, g3, e4, ho', a3, b3⟩ := draw_maze s hs k (by omega) 0 h (by omega) (by omega)
  have hcr := cells_range w hh
  obtain ⟨c, i4, g4, e5, a5, b5, _, _⟩ := below_ok s i3 g3 (cells w hh) a3 b3 hs (cells_pos (mazeOk_ok ho').1) (by omega)
  refine ⟨w, hh, o', c, ?_, ho', by unfold isCell; exact decide_eq_true ⟨a5, b5⟩⟩
  unfold spec_DrawOpenCell.f
  rw [e]
  simp only [Option.bind_some]
  rw [e4]
  simp only [Option.bind_some]
  rw [sCountCells]
  simp only [Option.bind_some]
  rw [e5]
  rfl
end Go.Proofs.Ytmcllgonjlapoaa.L
