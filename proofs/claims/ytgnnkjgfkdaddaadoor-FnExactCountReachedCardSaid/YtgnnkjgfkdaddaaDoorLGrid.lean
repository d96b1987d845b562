/- Grids, cells, neighbors, gaps, mazes and passages in plain numbers: the program and the reference compute the same. -/
import Derived.Test.YtgnnkjgfkdaddaaDoorXcgaps
import Derived.Test.YtgnnkjgfkdaddaaDoorXcgrid
import Derived.Test.YtgnnkjgfkdaddaaDoorXcmaze
import Derived.Test.YtgnnkjgfkdaddaaDoorXcnbr
import Derived.Test.YtgnnkjgfkdaddaaDoorLBase
namespace Go.Proofs.YtgnnkjgfkdaddaaDoor.L
open Go.RowKit Go.Proofs.YtgnnkjgfkdaddaaDoor.X Go.Proofs.YtgnnkjgfkdaddaaDoorW.PrintWords Go.Proofs.YtgnnkjgfkdaddaaDoorW.PrintLast Go.Proofs.YtgnnkjgfkdaddaaDoorW.PrintMore
set_option linter.unusedSimpArgs false
set_option linter.unusedVariables false

/-! ### the model -/
def gridOk (w h : Int) : Bool := decide (1 ≤ w ∧ w ≤ 4 ∧ 1 ≤ h ∧ h ≤ 4)
def cells (w h : Int) : Int := if gridOk w h = true then w * h else 0
def gaps (w h : Int) : Int := if gridOk w h = true then (w - 1) * h + w * (h - 1) else 0
def isCell (w h c : Int) : Bool := decide (0 ≤ c ∧ c < cells w h)
def isGap (w h g : Int) : Bool := decide (0 ≤ g ∧ g < gaps w h)
def nb (w h c d : Int) : Int :=
  if isCell w h c = true then
    if d = 0 ∧ 0 < c / w then c - w
    else if d = 1 ∧ c % w < w - 1 then c + 1
    else if d = 2 ∧ c / w < h - 1 then c + w
    else if d = 3 ∧ 0 < c % w then c - 1 else -1
  else -1
def gapAt (w h c d : Int) : Int :=
  if nb w h c d < 0 then -1
  else if d = 1 ∨ d = 3 then min c (nb w h c d) / w * (w - 1) + min c (nb w h c d) % w
  else (w - 1) * h + min c (nb w h c d)
def mazeOk (w h o : Int) : Bool := gridOk w h && decide (0 ≤ o ∧ o < 2 ^ (gaps w h).toNat)
def bit (o g : Int) : Bool := o.toNat.testBit g.toNat
def step (w h o c d : Int) : Int := if mazeOk w h o = true ∧ 0 ≤ gapAt w h c d ∧ bit o (gapAt w h c d) = true then nb w h c d else -1
def ways (w h o c : Int) : List Int := [0, 1, 2, 3].filter fun d => decide (0 ≤ step w h o c d)

theorem gridOk_iff {w h : Int} : gridOk w h = true ↔ 1 ≤ w ∧ w ≤ 4 ∧ 1 ≤ h ∧ h ≤ 4 := by unfold gridOk; exact decide_eq_true_iff
theorem grid_cases {w h : Int} (hg : gridOk w h = true) : (w = 1 ∨ w = 2 ∨ w = 3 ∨ w = 4) ∧ (h = 1 ∨ h = 2 ∨ h = 3 ∨ h = 4) := by
  rw [gridOk_iff] at hg
  omega
theorem cells_of {w h : Int} (hg : gridOk w h = true) : cells w h = w * h := by unfold cells; rw [if_pos hg]
theorem cells_no {w h : Int} (hg : gridOk w h = false) : cells w h = 0 := by unfold cells; rw [if_neg (by rw [hg]; decide)]
theorem gaps_no {w h : Int} (hg : gridOk w h = false) : gaps w h = 0 := by unfold gaps; rw [if_neg (by rw [hg]; decide)]
theorem cells_range (w h : Int) : 0 ≤ cells w h ∧ cells w h ≤ 16 := by
  cases hg : gridOk w h with
  | false => rw [cells_no hg]; omega
  | true =>
    rw [cells_of hg]
    obtain ⟨hw, hh⟩ := grid_cases hg
    rcases hw with rfl | rfl | rfl | rfl <;> rcases hh with rfl | rfl | rfl | rfl <;> omega
theorem cells_pos {w h : Int} (hg : gridOk w h = true) : 1 ≤ cells w h := by
  rw [cells_of hg]
  obtain ⟨hw, hh⟩ := grid_cases hg
  rcases hw with rfl | rfl | rfl | rfl <;> rcases hh with rfl | rfl | rfl | rfl <;> omega
theorem gaps_range (w h : Int) : 0 ≤ gaps w h ∧ gaps w h ≤ 24 := by
  cases hg : gridOk w h with
  | false => rw [gaps_no hg]; omega
  | true =>
    unfold gaps; rw [if_pos hg]
    obtain ⟨hw, hh⟩ := grid_cases hg
    rcases hw with rfl | rfl | rfl | rfl <;> rcases hh with rfl | rfl | rfl | rfl <;> omega
theorem isCell_ok {w h c : Int} (hc : isCell w h c = true) : gridOk w h = true ∧ 0 ≤ c ∧ c < w * h ∧ c ≤ 15 := by
  unfold isCell at hc
  have h1 := of_decide_eq_true hc
  have h2 := cells_range w h
  cases hg : gridOk w h with
  | false => rw [cells_no hg] at h1; omega
  | true => rw [cells_of hg] at h1 h2; exact ⟨rfl, h1.1, h1.2, by omega⟩

/-! ### the program's and the reference's functions -/
theorem ite_some_bool {p : Prop} [Decidable p] {b : Bool} : (if p then some b else some false) = some (decide p && b) := by by_cases h : p <;> simp [h]
theorem iGridOk (w h : Int) : impl_GridOk.f w h = some (gridOk w h) := by
  unfold impl_GridOk.f gridOk
  simp only [ite_some_bool, Option.some.injEq]
  rw [Bool.eq_iff_iff]
  simp only [Bool.and_eq_true, decide_eq_true_eq]
theorem sIn (a b c : Int) : spec_l01In.f a b c = some (decide (b ≤ a ∧ a ≤ c)) := by
  unfold spec_l01In.f
  simp only [ite_some_bool, Option.some.injEq]
  rw [Bool.eq_iff_iff]
  simp only [Bool.and_eq_true, decide_eq_true_eq]
theorem sGridOk (w h : Int) : spec_GridOk.f w h = some (gridOk w h) := by
  unfold spec_GridOk.f gridOk
  simp only [sIn, Option.bind_some, decide_eq_true_eq, ite_some_bool, Option.some.injEq]
  rw [Bool.eq_iff_iff]
  simp only [Bool.and_eq_true, decide_eq_true_eq]
  omega
theorem mul_small {w h : Int} (hg : gridOk w h = true) : wrap64 (w * h) = w * h := by
  have := cells_range w h
  rw [cells_of hg] at this
  exact w64 (by omega) (by omega)
theorem iCountCells (w h : Int) : impl_CountCells.f w h = some (cells w h) := by
  unfold impl_CountCells.f cells
  simp only [iGridOk, Option.bind_some]
  by_cases hg : gridOk w h = true
  · rw [if_pos hg, if_pos hg, mul_small hg]
  · rw [if_neg hg, if_neg hg]
theorem sCountCells (w h : Int) : spec_CountCells.f w h = some (cells w h) := by
  unfold spec_CountCells.f cells
  simp only [sGridOk, Option.bind_some]
  by_cases hg : gridOk w h = true
  · rw [if_pos hg, if_pos hg, mul_small hg]
  · rw [if_neg hg, if_neg hg]
theorem iisCell (w h c : Int) : impl_isCell.f w h c = some (isCell w h c) := by
  unfold impl_isCell.f isCell
  simp only [iCountCells, Option.bind_some, ite_some_bool, Option.some.injEq]
  rw [Bool.eq_iff_iff]
  simp only [Bool.and_eq_true, decide_eq_true_eq]
/-- The reference's test for a cell. -/
theorem cell_test (w h c : Int) : decide (0 ≤ c ∧ c ≤ wrap64 (cells w h - 1)) = isCell w h c := by
  have := cells_range w h
  rw [w64 (by omega) (by omega)]
  unfold isCell
  rw [decide_eq_decide]
  omega

theorem iCountGaps (w h : Int) : impl_CountGaps.f w h = some (gaps w h) := by
  unfold impl_CountGaps.f gaps
  simp only [iGridOk, Option.bind_some]
  by_cases hg : gridOk w h = true
  · rw [if_pos hg, if_pos hg]
    obtain ⟨hw, hh⟩ := grid_cases hg
    rcases hw with rfl | rfl | rfl | rfl <;> rcases hh with rfl | rfl | rfl | rfl <;> simp [wrap64]
  · rw [if_neg hg, if_neg hg]
theorem sCountGaps (w h : Int) : spec_CountGaps.f w h = some (gaps w h) := by
  unfold spec_CountGaps.f gaps
  simp only [sGridOk, Option.bind_some, spec_l02East.f]
  by_cases hg : gridOk w h = true
  · rw [if_pos hg, if_pos hg]
    obtain ⟨hw, hh⟩ := grid_cases hg
    rcases hw with rfl | rfl | rfl | rfl <;> rcases hh with rfl | rfl | rfl | rfl <;> simp [wrap64]
  · rw [if_neg hg, if_neg hg]
theorem gap_test (w h c : Int) : decide (0 ≤ c ∧ c ≤ wrap64 (gaps w h - 1)) = isGap w h c := by
  have := gaps_range w h
  rw [w64 (by omega) (by omega)]
  unfold isGap
  rw [decide_eq_decide]
  omega
theorem tmod_nn {a b : Int} (h : 0 ≤ a) : Int.tmod a b = a % b := Int.tmod_eq_emod_of_nonneg h
theorem tdiv_nn {a b : Int} (h : 0 ≤ a) : Int.tdiv a b = a / b := Int.tdiv_eq_ediv_of_nonneg h
theorem iNeighbor (k : Nat) (w h c d : Int) (hk : 4 ≤ k) : impl_Neighbor.f k w h c d = some (nb w h c d) := by
  obtain ⟨k, rfl⟩ : ∃ m, k = m + 4 := ⟨k - 4, by omega⟩
  unfold impl_Neighbor.f nb
  simp only [iisCell, Option.bind_some]
  by_cases hc : isCell w h c = true
  · rw [if_pos hc, if_pos hc]
    obtain ⟨hg, h0, h1, h2⟩ := isCell_ok hc
    obtain ⟨hw, hh⟩ := grid_cases hg
    have e1 : wrap64 (c - w) = c - w := w64 (by omega) (by omega)
    have e2 : wrap64 (c + 1) = c + 1 := w64 (by omega) (by omega)
    have e3 : wrap64 (c + w) = c + w := w64 (by omega) (by omega)
    have e4 : wrap64 (c - 1) = c - 1 := w64 (by omega) (by omega)
    have e5 : wrap64 (w - 1) = w - 1 := w64 (by omega) (by omega)
    have e6 : wrap64 (h - 1) = h - 1 := w64 (by omega) (by omega)
    have e7 : wrap64 (c / w) = c / w := by rcases hw with rfl | rfl | rfl | rfl <;> exact w64 (by omega) (by omega)
    rw [if_neg (by omega)]
    simp only [impl_Neighbor.j0, impl_Neighbor.j1, impl_Neighbor.j2, tmod_nn h0, tdiv_nn h0, e1, e2, e3, e4, e5, e6, e7, decide_eq_true_eq, Bool.false_eq_true, if_false]
    repeat' split
    all_goals first | rfl | omega
  · rw [if_neg hc, if_neg hc]
theorem sNeighbor_j (k : Nat) (w h x y : Int) (hg : gridOk w h = true) (hx : -2 ≤ x ∧ x ≤ 20) (hy : -2 ≤ y ∧ y ≤ 20) :
    spec_Neighbor.j0 (k + 1) x y w h = some (if 0 ≤ x ∧ x ≤ w - 1 ∧ 0 ≤ y ∧ y ≤ h - 1 then y * w + x else -1) := by
  rw [gridOk_iff] at hg
  simp only [spec_Neighbor.j0, sIn, Option.bind_some, decide_eq_true_eq]
  rw [w64 (x := w - 1) (by omega) (by omega), w64 (x := h - 1) (by omega) (by omega)]
  by_cases h1 : 0 ≤ x ∧ x ≤ w - 1
  · rw [if_pos h1]
    by_cases h2 : 0 ≤ y ∧ y ≤ h - 1
    · rw [if_pos h2, if_pos ⟨h1.1, h1.2, h2⟩]
      have hm : 0 ≤ y * w ∧ y * w ≤ 20 := by
        obtain rfl | rfl | rfl | rfl : w = 1 ∨ w = 2 ∨ w = 3 ∨ w = 4 := by omega
        all_goals omega
      rw [w64 (x := y * w) (by omega) (by omega), w64 (by omega) (by omega)]
    · rw [if_neg h2, if_neg (fun z => h2 z.2.2)]
  · rw [if_neg h1, if_neg (fun z => h1 ⟨z.1, z.2.1⟩)]
theorem sNeighbor (k : Nat) (w h c d : Int) (hk : 4 ≤ k) : spec_Neighbor.f k w h c d = some (nb w h c d) := by
  obtain ⟨k, rfl⟩ : ∃ m, k = m + 4 := ⟨k - 4, by omega⟩
  unfold spec_Neighbor.f nb
  simp only [sCountCells, sIn, cell_test, Option.bind_some]
  by_cases hc : isCell w h c = true
  · rw [if_pos hc, if_pos hc]
    obtain ⟨hg, h0, h1, h2⟩ := isCell_ok hc
    obtain ⟨hw, hh⟩ := grid_cases hg
    rw [if_neg (by omega), tmod_nn h0, tdiv_nn h0]
    have hxy : 0 ≤ c % w ∧ c % w ≤ w - 1 ∧ 0 ≤ c / w ∧ c / w ≤ h - 1 ∧ c = c / w * w + c % w := by
      rcases hw with rfl | rfl | rfl | rfl <;> rcases hh with rfl | rfl | rfl | rfl <;> omega
    generalize c % w = x at hxy ⊢
    generalize c / w = y at hxy ⊢
    rw [w64 (x := y) (by omega) (by omega), w64 (x := y - 1) (by omega) (by omega), w64 (x := x + 1) (by omega) (by omega), w64 (x := y + 1) (by omega) (by omega), w64 (x := x - 1) (by omega) (by omega)]
    rw [sNeighbor_j _ w h x (y - 1) hg (by omega) (by omega), sNeighbor_j _ w h (x + 1) y hg (by omega) (by omega), sNeighbor_j _ w h x (y + 1) hg (by omega) (by omega), sNeighbor_j _ w h (x - 1) y hg (by omega) (by omega)]
    have m1 : (y - 1) * w = y * w - w := by rw [Int.sub_mul]; omega
    have m2 : (y + 1) * w = y * w + w := by rw [Int.add_mul]; omega
    rw [m1, m2]
    by_cases d0 : d = 0
    · subst d0; repeat' split
      all_goals first | omega | (simp only [Option.some.injEq]; done) | (simp only [Option.some.injEq]; omega)
    · by_cases d1 : d = 1
      · subst d1; repeat' split
        all_goals first | omega | (simp only [Option.some.injEq]; done) | (simp only [Option.some.injEq]; omega)
      · by_cases d2 : d = 2
        · subst d2; repeat' split
          all_goals first | omega | (simp only [Option.some.injEq]; done) | (simp only [Option.some.injEq]; omega)
        · by_cases d3 : d = 3
          · subst d3; repeat' split
            all_goals first | omega | (simp only [Option.some.injEq]; done) | (simp only [Option.some.injEq]; omega)
          · rw [if_neg d0, if_neg d1, if_neg d2, if_neg d3, if_neg (by omega), if_neg (by omega), if_neg (by omega), if_neg (by omega)]
  · rw [if_neg hc, if_neg hc]
theorem nb_range (w h c d : Int) : nb w h c d = -1 ∨ (isCell w h c = true ∧ isCell w h (nb w h c d) = true) := by
  unfold nb
  by_cases hc : isCell w h c = true
  · rw [if_pos hc]
    obtain ⟨hg, h0, h1, h2⟩ := isCell_ok hc
    obtain ⟨hw, hh⟩ := grid_cases hg
    have e : ∀ x, isCell w h x = decide (0 ≤ x ∧ x < w * h) := fun x => by unfold isCell; rw [cells_of hg]
    simp only [e, hc, decide_eq_true_eq, true_and]
    rcases hw with rfl | rfl | rfl | rfl <;> rcases hh with rfl | rfl | rfl | rfl <;> (repeat' split) <;> omega
  · rw [if_neg hc]; exact .inl rfl
theorem nb_lt (w h c d : Int) : -1 ≤ nb w h c d ∧ nb w h c d ≤ 15 := by
  rcases nb_range w h c d with e | ⟨_, e⟩
  · rw [e]; omega
  · have := isCell_ok e; omega
theorem mn_min (a b : Int) : mn a b = min a b := by unfold mn; split <;> omega
theorem iGapAt (k : Nat) (w h c d : Int) (hk : 4 ≤ k) : impl_GapAt.f k w h c d = some (gapAt w h c d) := by
  unfold impl_GapAt.f gapAt
  simp only [iNeighbor k w h c d hk, Option.bind_some, mn_min]
  by_cases hn : nb w h c d < 0
  · rw [if_pos hn, if_pos hn]
  · rw [if_neg hn, if_neg hn]
    rcases nb_range w h c d with e | ⟨hc, hc'⟩
    · omega
    obtain ⟨hg, h0, h1, h2⟩ := isCell_ok hc
    obtain ⟨_, h0', h1', h2'⟩ := isCell_ok hc'
    obtain ⟨hw, hh⟩ := grid_cases hg
    generalize hm : min c (nb w h c d) = m
    have hm0 : 0 ≤ m ∧ m ≤ 15 := by omega
    rw [tmod_nn hm0.1, tdiv_nn hm0.1]
    rcases hw with rfl | rfl | rfl | rfl <;> rcases hh with rfl | rfl | rfl | rfl <;> (simp only [wrap64]; repeat' split) <;> first | rfl | omega | (simp only [Option.some.injEq]; omega)
  done
theorem sGapAt (k : Nat) (w h c d : Int) (hk : 4 ≤ k) : spec_GapAt.f k w h c d = some (gapAt w h c d) := by
  unfold spec_GapAt.f gapAt
  simp only [sNeighbor k w h c d hk, Option.bind_some, mn_min, spec_l02East.f]
  by_cases hn : nb w h c d < 0
  · rw [if_pos hn, if_pos hn]
  · rw [if_neg hn, if_neg hn]
    rcases nb_range w h c d with e | ⟨hc, hc'⟩
    · omega
    obtain ⟨hg, h0, h1, h2⟩ := isCell_ok hc
    obtain ⟨_, h0', h1', h2'⟩ := isCell_ok hc'
    obtain ⟨hw, hh⟩ := grid_cases hg
    generalize hm : min c (nb w h c d) = m
    have hm0 : 0 ≤ m ∧ m ≤ 15 := by omega
    rw [tmod_nn hm0.1, tdiv_nn hm0.1]
    rcases hw with rfl | rfl | rfl | rfl <;> rcases hh with rfl | rfl | rfl | rfl <;> (simp only [wrap64]; repeat' split) <;> first | rfl | omega | (simp only [Option.some.injEq]; omega)
  done
theorem gapAt_range (w h c d : Int) : -1 ≤ gapAt w h c d ∧ gapAt w h c d < gaps w h ∨ gapAt w h c d = -1 := by
  unfold gapAt
  by_cases hn : nb w h c d < 0
  · rw [if_pos hn]; exact .inr rfl
  · rw [if_neg hn]
    rcases nb_range w h c d with e | ⟨hc, hc'⟩
    · omega
    left
    obtain ⟨hg, h0, h1, h2⟩ := isCell_ok hc
    obtain ⟨hw, hh⟩ := grid_cases hg
    unfold gaps
    rw [if_pos hg]
    revert hn
    unfold nb
    rw [if_pos hc]
    rcases hw with rfl | rfl | rfl | rfl <;> rcases hh with rfl | rfl | rfl | rfl <;> (repeat' split) <;> omega

theorem pow_le_24 {n : Int} (h0 : 0 ≤ n) (h1 : n ≤ 24) : (1 : Int) ≤ 2 ^ n.toNat ∧ (2 : Int) ^ n.toNat ≤ 16777216 := by
  have h2 : n.toNat ≤ 24 := by omega
  have h3 : (2 : Nat) ^ n.toNat ≤ 2 ^ 24 := Nat.pow_le_pow_right (by decide) h2
  have h4 : 1 ≤ (2 : Nat) ^ n.toNat := Nat.one_le_two_pow
  have e : ((2 : Int) ^ n.toNat) = (((2 : Nat) ^ n.toNat : Nat) : Int) := by simp
  rw [e]
  omega
theorem shl_one {n : Int} (h0 : 0 ≤ n) (h1 : n ≤ 24) : shl .i64 1 n = 2 ^ n.toNat := by
  have h2 := pow_le_24 h0 h1
  unfold shl
  rw [show min n.toNat (IntKind.bits .i64) = n.toNat from Nat.min_eq_left (by simp [IntKind.bits]; omega), Int.one_mul, Go.IntKind.wrap_i64]
  omega
theorem mazeOk_ok {w h o : Int} (hm : mazeOk w h o = true) : gridOk w h = true ∧ 0 ≤ o ∧ o < 2 ^ (gaps w h).toNat ∧ o < 16777216 := by
  unfold mazeOk at hm
  rw [Bool.and_eq_true, decide_eq_true_eq] at hm
  have h1 := gaps_range w h
  have h2 := pow_le_24 h1.1 h1.2
  exact ⟨hm.1, hm.2.1, hm.2.2, by omega⟩
theorem iMazeOk (w h o : Int) : impl_MazeOk.f w h o = some (mazeOk w h o) := by
  unfold impl_MazeOk.f mazeOk
  have h1 := gaps_range w h
  simp only [iGridOk, iCountGaps, Option.bind_some, if_pos h1.1, shl_one h1.1 h1.2]
  cases gridOk w h <;> simp [ite_some_bool]
theorem sMazeOk (w h o : Int) : spec_MazeOk.f w h o = some (mazeOk w h o) := by
  unfold spec_MazeOk.f mazeOk
  have h1 := gaps_range w h
  have h2 := pow_le_24 h1.1 h1.2
  simp only [sGridOk, sCountGaps, sIn, Option.bind_some, if_pos h1.1, shl_one h1.1 h1.2]
  rw [w64 (by omega) (by omega)]
  cases gridOk w h
  · simp
  · simp only [if_true, Bool.true_and, Option.some.injEq, decide_eq_decide]
    omega
theorem and_one (n : Int) (h : 0 ≤ n) : Go.bits .and .i64 n 1 = n % 2 ∨ 9223372036854775808 ≤ n := by
  by_cases hb : n < 9223372036854775808
  · left
    have := Go.bits_mask .i64 63 (by decide) (fun m h0 h1 => by rw [Go.IntKind.wrap_i64]; omega) 1 (by decide) n h (by simpa using hb)
    simpa using this
  · right; omega
/-- One bit of a number, as both texts ask for it. -/
theorem bit_test {o g : Int} (h0 : 0 ≤ o) (h1 : o < 9223372036854775808) (hg : 0 ≤ g) (hg1 : g ≤ 64) : (Go.bits .and .i64 (shr .i64 o g) 1 == 1) = bit o g := by
  unfold shr bit
  rw [show min g.toNat (IntKind.bits .i64) = g.toNat from Nat.min_eq_left (by simp [IntKind.bits]; omega)]
  obtain ⟨n, rfl⟩ := Int.eq_ofNat_of_zero_le h0
  have e : ((n : Int) / 2 ^ g.toNat) = ((n / 2 ^ g.toNat : Nat) : Int) := by simp
  rw [e]
  have hle : n / 2 ^ g.toNat ≤ n := Nat.div_le_self _ _
  rcases and_one ((n / 2 ^ g.toNat : Nat) : Int) (Int.natCast_nonneg _) with h | h
  · rw [h, Nat.testBit_eq_decide_div_mod_eq]
    simp only [Int.toNat_natCast]
    rw [Bool.eq_iff_iff]
    simp
    omega
  · omega
theorem iisOpen (w h o g : Int) (h0 : 0 ≤ o) (h1 : o < 9223372036854775808) (hg1 : g ≤ 64) : impl_isOpen.f w h o g = some (decide (0 ≤ g) && bit o g) := by
  unfold impl_isOpen.f
  by_cases hg : 0 ≤ g
  · rw [if_pos hg, if_pos hg, bit_test h0 h1 hg hg1]; simp [hg]
  · rw [if_neg hg]; simp [hg]
theorem sBit (o g : Int) (h0 : 0 ≤ o) (h1 : o < 9223372036854775808) (hg : 0 ≤ g) (hg1 : g ≤ 64) : spec_l03Bit.f o g = some (bit o g) := by
  unfold spec_l03Bit.f
  rw [if_pos hg, bit_test h0 h1 hg hg1]
theorem sIsPassage (w h o g : Int) : spec_IsPassage.f w h o g = some (mazeOk w h o && (isGap w h g && bit o g)) := by
  unfold spec_IsPassage.f
  simp only [sMazeOk, Option.bind_some, sCountGaps, sIn, gap_test]
  cases hm : mazeOk w h o with
  | false => simp
  | true =>
    obtain ⟨_, ho, _, ho'⟩ := mazeOk_ok hm
    cases hgp : isGap w h g with
    | false => simp
    | true =>
      unfold isGap at hgp
      have hgp := of_decide_eq_true hgp
      have := gaps_range w h
      simp only [if_true]
      rw [sBit o g ho (by omega) hgp.1 (by omega)]
      simp
end Go.Proofs.YtgnnkjgfkdaddaaDoor.L
