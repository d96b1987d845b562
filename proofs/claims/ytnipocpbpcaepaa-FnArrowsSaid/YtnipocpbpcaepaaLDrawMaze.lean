/- The drawn maze of many passages. -/
import Derived.Test.YtnipocpbpcaepaaXspecFullMaze
import Derived.Test.YtnipocpbpcaepaaXspecl01PickInt
import Derived.Test.YtnipocpbpcaepaaXspecl02Grid
import Derived.Test.YtnipocpbpcaepaaLDraw
import Derived.Test.YtnipocpbpcaepaaLBits
import Derived.Test.YtnipocpbpcaepaaLStep
namespace Go.Proofs.Ytnipocpbpcaepaa.L
open Go.RowKit Go.Proofs.Ytnipocpbpcaepaa.X Go.Proofs.YtnipocpbpcaepaaW.PrintWords Go.Proofs.YtnipocpbpcaepaaW.PrintLast Go.Proofs.YtnipocpbpcaepaaW.PrintMore
set_option linter.unusedSimpArgs false
set_option linter.unusedVariables false

theorem pick_ok (s : List Int) (i h : Int) (h0 : 0 ≤ i) (h1 : i ≤ (s.length : Int)) (hl : s.length ≤ 140737488355328) (l : List Int) (hn : 1 ≤ l.length) (hn2 : l.length ≤ 256) : ∃ v i' h', spec_l01PickInt.f s i h l = some (v, i', h') ∧ v ∈ l ∧ 0 ≤ i' ∧ i' ≤ (s.length : Int) := by
  obtain ⟨v, i1, g1, e1, a1, b1, c1, d1⟩ := below_ok s i h l.length h0 h1 hl (by omega) (by omega)
  unfold spec_l01PickInt.f
  rw [e1]
  simp only [Option.bind_some]
  rw [if_pos a1, if_pos b1]
  exact ⟨_, _, _, rfl, rd_memL a1 b1, c1, d1⟩
theorem grid_ok (s : List Int) (i h : Int) (h0 : 0 ≤ i) (h1 : i ≤ (s.length : Int)) (hl : s.length ≤ 140737488355328) : ∃ w h' i' g', spec_l02Grid.f s i h = some (w, h', i', g') ∧ gridOk w h' = true ∧ 0 ≤ i' ∧ i' ≤ (s.length : Int) := by
  obtain ⟨w, i1, g1, e1, m1, c1, d1⟩ := pick_ok s i h h0 h1 hl [1, 2, 3, 3, 4] (by decide) (by decide)
  obtain ⟨v, i2, g2, e2, m2, c2, d2⟩ := pick_ok s i1 g1 c1 d1 hl [1, 2, 3, 3, 4] (by decide) (by decide)
  unfold spec_l02Grid.f
  rw [e1]
  simp only [Option.bind_some]
  rw [e2]
  simp only [Option.bind_some]
  refine ⟨_, _, _, _, rfl, ?_, c2, d2⟩
  simp at m1 m2
  exact gridOk_iff.2 (by omega)
theorem full_maze {w h : Int} (hg : gridOk w h = true) : ∃ o, spec_FullMaze.f w h = some (w, h, o) ∧ mazeOk w h o = true := by
  have hr := gaps_range w h
  have hp := pow_le_24 hr.1 hr.2
  unfold spec_FullMaze.f
  rw [sGridOk]
  simp only [Option.bind_some]
  rw [if_pos hg, sCountGaps]
  simp only [Option.bind_some]
  rw [if_pos hr.1, shl_one hr.1 hr.2, w64 (by omega) (by omega)]
  refine ⟨_, rfl, ?_⟩
  unfold mazeOk
  rw [hg, Bool.true_and]
  exact decide_eq_true (by omega)
end Go.Proofs.Ytnipocpbpcaepaa.L
