/- Neighbors and gaps: the program and the reference compute the same. -/
import Derived.Test.YtekgbinadmjapaaXimplCountGaps
import Derived.Test.YtekgbinadmjapaaXimplGapAt
import Derived.Test.YtekgbinadmjapaaXimplNeighbor
import Derived.Test.YtekgbinadmjapaaXimplisGap
import Derived.Test.YtekgbinadmjapaaXspecCountGaps
import Derived.Test.YtekgbinadmjapaaXspecGapAt
import Derived.Test.YtekgbinadmjapaaXspecNeighbor
import Derived.Test.YtekgbinadmjapaaXspecl02East
import Derived.Test.YtekgbinadmjapaaLG0
namespace Go.Proofs.Ytekgbinadmjapaa.L
open Go.RowKit Go.Proofs.Ytekgbinadmjapaa.X Go.Proofs.YtekgbinadmjapaaW.PrintWords Go.Proofs.YtekgbinadmjapaaW.PrintLast Go.Proofs.YtekgbinadmjapaaW.PrintMore
set_option linter.unusedSimpArgs false
set_option linter.unusedVariables false

theorem iCountGaps (w h : Int) : impl_CountGaps.f w h = some (gaps w h) := by
  unfold impl_CountGaps.f gaps
  simp only [iGridOk, Option.bind_some]
  by_cases hg : gridOk w h = true
  · rw [if_pos hg, if_pos hg]
    obtain ⟨hw, hh⟩ := grid_cases hg
    rcases hw with rfl | rfl | rfl | rfl <;> rcases hh with rfl | rfl | rfl | rfl <;> simp [wrap64]
  · rw [if_neg hg, if_neg hg]
theorem sCountGaps (w h : Int) : spec_CountGaps.f w h = some (gaps w h) := by
  unfold spec_CountGaps.f gaps
  simp only [sGridOk, Option.bind_some, spec_l02East.f]
  by_cases hg : gridOk w h = true
  · rw [if_pos hg, if_pos hg]
    obtain ⟨hw, hh⟩ := grid_cases hg
    rcases hw with rfl | rfl | rfl | rfl <;> rcases hh with rfl | rfl | rfl | rfl <;> simp [wrap64]
  · rw [if_neg hg, if_neg hg]
theorem iisGap (w h g : Int) : impl_isGap.f w h g = some (isGap w h g) := by
  unfold impl_isGap.f isGap
  simp only [iCountGaps, Option.bind_some, ite_some_bool, Option.some.injEq]
  rw [Bool.eq_iff_iff]
  simp only [Bool.and_eq_true, decide_eq_true_eq]
theorem gap_test (w h c : Int) : decide (0 ≤ c ∧ c ≤ wrap64 (gaps w h - 1)) = isGap w h c := by
  have := gaps_range w h
  rw [w64 (by omega) (by omega)]
  unfold isGap
  rw [decide_eq_decide]
  omega
theorem tmod_nn {a b : Int} (h : 0 ≤ a) : Int.tmod a b = a % b := Int.tmod_eq_emod_of_nonneg h
theorem tdiv_nn {a b : Int} (h : 0 ≤ a) : Int.tdiv a b = a / b := Int.tdiv_eq_ediv_of_nonneg h
theorem iNeighbor (k : Nat) (w h c d : Int) (hk : 4 ≤ k) : impl_Neighbor.f k w h c d = some (nb w h c d) := by
  obtain ⟨k, rfl⟩ : ∃ m, k = m + 4 := ⟨k - 4, by omega⟩
  unfold impl_Neighbor.f nb
  simp only [iisCell, Option.bind_some]
  by_cases hc : isCell w h c = true
  · rw [if_pos hc, if_pos hc]
    obtain ⟨hg, h0, h1, h2⟩ := isCell_ok hc
    obtain ⟨hw, hh⟩ := grid_cases hg
    have e1 : wrap64 (c - w) = c - w := w64 (by omega) (by omega)
    have e2 : wrap64 (c + 1) = c + 1 := w64 (by omega) (by omega)
    have e3 : wrap64 (c + w) = c + w := w64 (by omega) (by omega)
    have e4 : wrap64 (c - 1) = c - 1 := w64 (by omega) (by omega)
    have e5 : wrap64 (w - 1) = w - 1 := w64 (by omega) (by omega)
    have e6 : wrap64 (h - 1) = h - 1 := w64 (by omega) (by omega)
    have e7 : wrap64 (c / w) = c / w := by rcases hw with rfl | rfl | rfl | rfl <;> exact w64 (by omega) (by omega)
    rw [if_neg (by omega)]
    simp only [impl_Neighbor.j0, impl_Neighbor.j1, impl_Neighbor.j2, tmod_nn h0, tdiv_nn h0, e1, e2, e3, e4, e5, e6, e7, decide_eq_true_eq, Bool.false_eq_true, if_false]
    repeat' split
    all_goals first | rfl | omega
  · rw [if_neg hc, if_neg hc]
theorem sNeighbor_j (k : Nat) (w h x y : Int) (hg : gridOk w h = true) (hx : -2 ≤ x ∧ x ≤ 20) (hy : -2 ≤ y ∧ y ≤ 20) :
    spec_Neighbor.j0 (k + 1) x y w h = some (if 0 ≤ x ∧ x ≤ w - 1 ∧ 0 ≤ y ∧ y ≤ h - 1 then y * w + x else -1) := by
  rw [gridOk_iff] at hg
  simp only [spec_Neighbor.j0, sIn, Option.bind_some, decide_eq_true_eq]
  rw [w64 (x := w - 1) (by omega) (by omega), w64 (x := h - 1) (by omega) (by omega)]
  by_cases h1 : 0 ≤ x ∧ x ≤ w - 1
  · rw [if_pos h1]
    by_cases h2 : 0 ≤ y ∧ y ≤ h - 1
    · rw [if_pos h2, if_pos ⟨h1.1, h1.2, h2⟩]
      have hm : 0 ≤ y * w ∧ y * w ≤ 20 := by
        obtain rfl | rfl | rfl | rfl : w = 1 ∨ w = 2 ∨ w = 3 ∨ w = 4 := by omega
        all_goals omega
      rw [w64 (x := y * w) (by omega) (by omega), w64 (by omega) (by omega)]
    · rw [if_neg h2, if_neg (fun z => h2 z.2.2)]
  · rw [if_neg h1, if_neg (fun z => h1 ⟨z.1, z.2.1⟩)]
theorem sNeighbor (k : Nat) (w h c d : Int) (hk : 4 ≤ k) : spec_Neighbor.f k w h c d = some (nb w h c d) := by
  obtain ⟨k, rfl⟩ : ∃ m, k = m + 4 := ⟨k - 4, by omega⟩
  unfold spec_Neighbor.f nb
  simp only [sCountCells, sIn, cell_test, Option.bind_some]
  by_cases hc : isCell w h c = true
  · rw [if_pos hc, if_pos hc]
    obtain ⟨hg, h0, h1, h2⟩ := isCell_ok hc
    obtain ⟨hw, hh⟩ := grid_cases hg
    rw [if_neg (by omega), tmod_nn h0, tdiv_nn h0]
    have hxy : 0 ≤ c % w ∧ c % w ≤ w - 1 ∧ 0 ≤ c / w ∧ c / w ≤ h - 1 ∧ c = c / w * w + c % w := by
      rcases hw with rfl | rfl | rfl | rfl <;> rcases hh with rfl | rfl | rfl | rfl <;> omega
    generalize c % w = x at hxy ⊢
    generalize c / w = y at hxy ⊢
    rw [w64 (x := y) (by omega) (by omega), w64 (x := y - 1) (by omega) (by omega), w64 (x := x + 1) (by omega) (by omega), w64 (x := y + 1) (by omega) (by omega), w64 (x := x - 1) (by omega) (by omega)]
    rw [sNeighbor_j _ w h x (y - 1) hg (by omega) (by omega), sNeighbor_j _ w h (x + 1) y hg (by omega) (by omega), sNeighbor_j _ w h x (y + 1) hg (by omega) (by omega), sNeighbor_j _ w h (x - 1) y hg (by omega) (by omega)]
    have m1 : (y - 1) * w = y * w - w := by rw [Int.sub_mul]; omega
    have m2 : (y + 1) * w = y * w + w := by rw [Int.add_mul]; omega
    rw [m1, m2]
    by_cases d0 : d = 0
    · subst d0; repeat' split
      all_goals first | omega | (simp only [Option.some.injEq]; done) | (simp only [Option.some.injEq]; omega)
    · by_cases d1 : d = 1
      · subst d1; repeat' split
        all_goals first | omega | (simp only [Option.some.injEq]; done) | (simp only [Option.some.injEq]; omega)
      · by_cases d2 : d = 2
        · subst d2; repeat' split
          all_goals first | omega | (simp only [Option.some.injEq]; done) | (simp only [Option.some.injEq]; omega)
        · by_cases d3 : d = 3
          · subst d3; repeat' split
            all_goals first | omega | (simp only [Option.some.injEq]; done) | (simp only [Option.some.injEq]; omega)
          · rw [if_neg d0, if_neg d1, if_neg d2, if_neg d3, if_neg (by omega), if_neg (by omega), if_neg (by omega), if_neg (by omega)]
  · rw [if_neg hc, if_neg hc]
theorem nb_range (w h c d : Int) : nb w h c d = -1 ∨ (isCell w h c = true ∧ isCell w h (nb w h c d) = true) := by
  unfold nb
  by_cases hc : isCell w h c = true
  · rw [if_pos hc]
    obtain ⟨hg, h0, h1, h2⟩ := isCell_ok hc
    obtain ⟨hw, hh⟩ := grid_cases hg
    have e : ∀ x, isCell w h x = decide (0 ≤ x ∧ x < w * h) := fun x => by unfold isCell; rw [cells_of hg]
    simp only [e, hc, decide_eq_true_eq, true_and]
    rcases hw with rfl | rfl | rfl | rfl <;> rcases hh with rfl | rfl | rfl | rfl <;> (repeat' split) <;> omega
  · rw [if_neg hc]; exact .inl rfl
theorem nb_lt (w h c d : Int) : -1 ≤ nb w h c d ∧ nb w h c d ≤ 15 := by
  rcases nb_range w h c d with e | ⟨_, e⟩
  · rw [e]; omega
  · have := isCell_ok e; omega
theorem mn_min (a b : Int) : mn a b = min a b := by unfold mn; split <;> omega
theorem iGapAt (k : Nat) (w h c d : Int) (hk : 4 ≤ k) : impl_GapAt.f k w h c d = some (gapAt w h c d) := by
  unfold impl_GapAt.f gapAt
  simp only [iNeighbor k w h c d hk, Option.bind_some, mn_min]
  by_cases hn : nb w h c d < 0
  · rw [if_pos hn, if_pos hn]
  · rw [if_neg hn, if_neg hn]
    rcases nb_range w h c d with e | ⟨hc, hc'⟩
    · omega
    obtain ⟨hg, h0, h1, h2⟩ := isCell_ok hc
    obtain ⟨_, h0', h1', h2'⟩ := isCell_ok hc'
    obtain ⟨hw, hh⟩ := grid_cases hg
    generalize hm : min c (nb w h c d) = m
    have hm0 : 0 ≤ m ∧ m ≤ 15 := by omega
    rw [tmod_nn hm0.1, tdiv_nn hm0.1]
    rcases hw with rfl | rfl | rfl | rfl <;> rcases hh with rfl | rfl | rfl | rfl <;> (simp only [wrap64]; repeat' split) <;> first | rfl | omega | (simp only [Option.some.injEq]; omega)
  done
theorem sGapAt (k : Nat) (w h c d : Int) (hk : 4 ≤ k) : spec_GapAt.f k w h c d = some (gapAt w h c d) := by
  unfold spec_GapAt.f gapAt
  simp only [sNeighbor k w h c d hk, Option.bind_some, mn_min, spec_l02East.f]
  by_cases hn : nb w h c d < 0
  · rw [if_pos hn, if_pos hn]
  · rw [if_neg hn, if_neg hn]
    rcases nb_range w h c d with e | ⟨hc, hc'⟩
    · omega
    obtain ⟨hg, h0, h1, h2⟩ := isCell_ok hc
    obtain ⟨_, h0', h1', h2'⟩ := isCell_ok hc'
    obtain ⟨hw, hh⟩ := grid_cases hg
    generalize hm : min c (nb w h c d) = m
    have hm0 : 0 ≤ m ∧ m ≤ 15 := by omega
    rw [tmod_nn hm0.1, tdiv_nn hm0.1]
    rcases hw with rfl | rfl | rfl | rfl <;> rcases hh with rfl | rfl | rfl | rfl <;> (simp only [wrap64]; repeat' split) <;> first | rfl | omega | (simp only [Option.some.injEq]; omega)
  done
theorem gapAt_range (w h c d : Int) : -1 ≤ gapAt w h c d ∧ gapAt w h c d < gaps w h ∨ gapAt w h c d = -1 := by
  unfold gapAt
  by_cases hn : nb w h c d < 0
  · rw [if_pos hn]; exact .inr rfl
  · rw [if_neg hn]
    rcases nb_range w h c d with e | ⟨hc, hc'⟩
    · omega
    left
    obtain ⟨hg, h0, h1, h2⟩ := isCell_ok hc
    obtain ⟨hw, hh⟩ := grid_cases hg
    unfold gaps
    rw [if_pos hg]
    revert hn
    unfold nb
    rw [if_pos hc]
    rcases hw with rfl | rfl | rfl | rfl <;> rcases hh with rfl | rfl | rfl | rfl <;> (repeat' split) <;> omega
end Go.Proofs.Ytekgbinadmjapaa.L
