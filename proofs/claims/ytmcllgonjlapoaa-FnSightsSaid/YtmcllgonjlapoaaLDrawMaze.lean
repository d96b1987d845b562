/- The drawn maze of many passages. -/
import Derived.Test.YtmcllgonjlapoaaXspecFullMaze
import Derived.Test.YtmcllgonjlapoaaXspecSetGap
import Derived.Test.YtmcllgonjlapoaaXspecl01PickInt
import Derived.Test.YtmcllgonjlapoaaXspecl02Grid
import Derived.Test.YtmcllgonjlapoaaXspecl12Maze
import Derived.Test.YtmcllgonjlapoaaLDraw
import Derived.Test.YtmcllgonjlapoaaLBits
import Derived.Test.YtmcllgonjlapoaaLStep
namespace Go.Proofs.Ytmcllgonjlapoaa.L
open Go.RowKit Go.Proofs.Ytmcllgonjlapoaa.X Go.Proofs.YtmcllgonjlapoaaW.PrintWords Go.Proofs.YtmcllgonjlapoaaW.PrintLast Go.Proofs.YtmcllgonjlapoaaW.PrintMore
set_option linter.unusedSimpArgs false
set_option linter.unusedVariables false

theorem pick_ok (s : List Int) (i h : Int) (h0 : 0 ≤ i) (h1 : i ≤ (s.length : Int)) (hl : s.length ≤ 140737488355328) (l : List Int) (hn : 1 ≤ l.length) (hn2 : l.length ≤ 256) : ∃ v i' h', spec_l01PickInt.f s i h l = some (v, i', h') ∧ v ∈ l ∧ 0 ≤ i' ∧ i' ≤ (s.length : Int) := by
  obtain ⟨v, i1, g1, e1, a1, b1, c1, d1⟩ := below_ok s i h l.length h0 h1 hl (by omega) (by omega)
  unfold spec_l01PickInt.f
  rw [e1]
  simp only [Option.bind_some]
  rw [if_pos a1, if_pos b1]
  exact ⟨_, _, _, rfl, rd_memL a1 b1, c1, d1⟩
theorem grid_ok (s : List Int) (i h : Int) (h0 : 0 ≤ i) (h1 : i ≤ (s.length : Int)) (hl : s.length ≤ 140737488355328) : ∃ w h' i' g', spec_l02Grid.f s i h = some (w, h', i', g') ∧ gridOk w h' = true ∧ 0 ≤ i' ∧ i' ≤ (s.length : Int) := by
  obtain ⟨w, i1, g1, e1, m1, c1, d1⟩ := pick_ok s i h h0 h1 hl [1, 2, 3, 3, 4] (by decide) (by decide)
  obtain ⟨v, i2, g2, e2, m2, c2, d2⟩ := pick_ok s i1 g1 c1 d1 hl [1, 2, 3, 3, 4] (by decide) (by decide)
  unfold spec_l02Grid.f
  rw [e1]
  simp only [Option.bind_some]
  rw [e2]
  simp only [Option.bind_some]
  refine ⟨_, _, _, _, rfl, ?_, c2, d2⟩
  simp at m1 m2
  exact gridOk_iff.2 (by omega)
theorem full_maze {w h : Int} (hg : gridOk w h = true) : ∃ o, spec_FullMaze.f w h = some (w, h, o) ∧ mazeOk w h o = true := by
  have hr := gaps_range w h
  have hp := pow_le_24 hr.1 hr.2
  unfold spec_FullMaze.f
  rw [sGridOk]
  simp only [Option.bind_some]
  rw [if_pos hg, sCountGaps]
  simp only [Option.bind_some]
  rw [if_pos hr.1, shl_one hr.1 hr.2, w64 (by omega) (by omega)]
  refine ⟨_, rfl, ?_⟩
  unfold mazeOk
  rw [hg, Bool.true_and]
  exact decide_eq_true (by omega)
theorem close_go (s : List Int) (hs : s.length ≤ 140737488355328) (w h : Int) : ∀ (m k : Nat) (o i g : Int), m ≤ 4 → 2 * m + 2 < k → mazeOk w h o = true → 0 ≤ i → i ≤ (s.length : Int) →
    ∃ o' i' g', spec_l12Maze.l0 k (gaps w h) m s i g w h o = some (w, h, o', i', g') ∧ mazeOk w h o' = true ∧ 0 ≤ i' ∧ i' ≤ (s.length : Int) := by
  have hr := gaps_range w h
  intro m
  induction m with
  | zero =>
    intro k o i g hm hk ho h0 h1
    obtain ⟨k, rfl⟩ : ∃ z, k = (z + 1) + 1 := ⟨k - 2, by omega⟩
    rw [spec_l12Maze.l0, if_neg (by omega), spec_l12Maze.j1, if_neg (by simp)]
    exact ⟨_, _, _, rfl, ho, h0, h1⟩
  | succ m ih =>
    intro k o i g hm hk ho h0 h1
    obtain ⟨k, rfl⟩ : ∃ z, k = (z + 1) + 1 := ⟨k - 2, by omega⟩
    rw [spec_l12Maze.l0, if_pos (by omega), spec_l12Maze.j1]
    by_cases c : gaps w h > 0
    · obtain ⟨v, i1, g1, e1, a1, b1, c1, d1⟩ := below_ok s i g (gaps w h) h0 h1 hs (by omega) (by omega)
      have hgap : isGap w h v = true := by
        unfold isGap
        exact decide_eq_true ⟨a1, b1⟩
      rw [decide_eq_true c, if_pos rfl, e1]
      simp only [Option.bind_some]
      rw [sSetGap k w h o v false (by omega) ho hgap]
      simp only [Option.bind_some]
      rw [w64 (by omega) (by omega), show (((m + 1 : Nat) : Int) - 1) = (m : Int) by omega]
      exact ih k _ i1 g1 (by omega) (by omega) (mazeOk_with false ho hgap) c1 d1
    · rw [decide_eq_false c, if_neg (by simp)]
      exact ⟨_, _, _, rfl, ho, h0, h1⟩
theorem draw_maze (s : List Int) (hs : s.length ≤ 140737488355328) (k : Nat) (hk : 20 ≤ k) (i g : Int) (h0 : 0 ≤ i) (h1 : i ≤ (s.length : Int)) : ∃ w h o i' g', spec_l12Maze.f k s i g = some (w, h, o, i', g') ∧ mazeOk w h o = true ∧ 0 ≤ i' ∧ i' ≤ (s.length : Int) := by
  obtain ⟨w, hh, i1, g1, e1, hg, a1, b1⟩ := grid_ok s i g h0 h1 hs
  obtain ⟨o, e2, ho⟩ := full_maze hg
  obtain ⟨v, i2, g2, e3, a2, b2, c2, d2⟩ := below_ok s i1 g1 5 a1 b1 hs (by omega) (by omega)
  obtain ⟨o', i3, g3, e4, ho', a3, b3⟩ := close_go s hs w hh v.toNat k o i2 g2 (by omega) (by omega) ho c2 d2
  rw [Int.toNat_of_nonneg a2] at e4
  refine ⟨w, hh, o', i3, g3, ?_, ho', a3, b3⟩
  unfold spec_l12Maze.f
  rw [e1]
  simp only [Option.bind_some]
  rw [e2]
  simp only [Option.bind_some]
  rw [sCountGaps]
  simp only [Option.bind_some]
  rw [e3]
  simp only [Option.bind_some]
  exact e4
end Go.Proofs.Ytmcllgonjlapoaa.L
