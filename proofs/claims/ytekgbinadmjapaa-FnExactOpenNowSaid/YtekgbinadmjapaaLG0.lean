/- What grids and cells are, in plain numbers, and that the program and the reference compute just that. -/
import Derived.Test.YtekgbinadmjapaaXimplCountCells
import Derived.Test.YtekgbinadmjapaaXimplGridOk
import Derived.Test.YtekgbinadmjapaaXimplisCell
import Derived.Test.YtekgbinadmjapaaXspecCountCells
import Derived.Test.YtekgbinadmjapaaXspecGridOk
import Derived.Test.YtekgbinadmjapaaXspecl01In
import Derived.Test.YtekgbinadmjapaaLBase
namespace Go.Proofs.Ytekgbinadmjapaa.L
open Go.RowKit Go.Proofs.Ytekgbinadmjapaa.X Go.Proofs.YtekgbinadmjapaaW.PrintWords Go.Proofs.YtekgbinadmjapaaW.PrintLast Go.Proofs.YtekgbinadmjapaaW.PrintMore
set_option linter.unusedSimpArgs false
set_option linter.unusedVariables false

/-! ### the model -/
def gridOk (w h : Int) : Bool := decide (1 ≤ w ∧ w ≤ 4 ∧ 1 ≤ h ∧ h ≤ 4)
def cells (w h : Int) : Int := if gridOk w h = true then w * h else 0
def gaps (w h : Int) : Int := if gridOk w h = true then (w - 1) * h + w * (h - 1) else 0
def isCell (w h c : Int) : Bool := decide (0 ≤ c ∧ c < cells w h)
def isGap (w h g : Int) : Bool := decide (0 ≤ g ∧ g < gaps w h)
def nb (w h c d : Int) : Int :=
  if isCell w h c = true then
    if d = 0 ∧ 0 < c / w then c - w
    else if d = 1 ∧ c % w < w - 1 then c + 1
    else if d = 2 ∧ c / w < h - 1 then c + w
    else if d = 3 ∧ 0 < c % w then c - 1 else -1
  else -1
def gapAt (w h c d : Int) : Int :=
  if nb w h c d < 0 then -1
  else if d = 1 ∨ d = 3 then min c (nb w h c d) / w * (w - 1) + min c (nb w h c d) % w
  else (w - 1) * h + min c (nb w h c d)
def mazeOk (w h o : Int) : Bool := gridOk w h && decide (0 ≤ o ∧ o < 2 ^ (gaps w h).toNat)
def bit (o g : Int) : Bool := o.toNat.testBit g.toNat
def step (w h o c d : Int) : Int := if mazeOk w h o = true ∧ 0 ≤ gapAt w h c d ∧ bit o (gapAt w h c d) = true then nb w h c d else -1
def ways (w h o c : Int) : List Int := [0, 1, 2, 3].filter fun d => decide (0 ≤ step w h o c d)

theorem gridOk_iff {w h : Int} : gridOk w h = true ↔ 1 ≤ w ∧ w ≤ 4 ∧ 1 ≤ h ∧ h ≤ 4 := by unfold gridOk; exact decide_eq_true_iff
theorem grid_cases {w h : Int} (hg : gridOk w h = true) : (w = 1 ∨ w = 2 ∨ w = 3 ∨ w = 4) ∧ (h = 1 ∨ h = 2 ∨ h = 3 ∨ h = 4) := by
  rw [gridOk_iff] at hg
  omega
theorem cells_of {w h : Int} (hg : gridOk w h = true) : cells w h = w * h := by unfold cells; rw [if_pos hg]
theorem cells_no {w h : Int} (hg : gridOk w h = false) : cells w h = 0 := by unfold cells; rw [if_neg (by rw [hg]; decide)]
theorem gaps_no {w h : Int} (hg : gridOk w h = false) : gaps w h = 0 := by unfold gaps; rw [if_neg (by rw [hg]; decide)]
theorem cells_range (w h : Int) : 0 ≤ cells w h ∧ cells w h ≤ 16 := by
  cases hg : gridOk w h with
  | false => rw [cells_no hg]; omega
  | true =>
    rw [cells_of hg]
    obtain ⟨hw, hh⟩ := grid_cases hg
    rcases hw with rfl | rfl | rfl | rfl <;> rcases hh with rfl | rfl | rfl | rfl <;> omega
theorem cells_pos {w h : Int} (hg : gridOk w h = true) : 1 ≤ cells w h := by
  rw [cells_of hg]
  obtain ⟨hw, hh⟩ := grid_cases hg
  rcases hw with rfl | rfl | rfl | rfl <;> rcases hh with rfl | rfl | rfl | rfl <;> omega
theorem gaps_range (w h : Int) : 0 ≤ gaps w h ∧ gaps w h ≤ 24 := by
  cases hg : gridOk w h with
  | false => rw [gaps_no hg]; omega
  | true =>
    unfold gaps; rw [if_pos hg]
    obtain ⟨hw, hh⟩ := grid_cases hg
    rcases hw with rfl | rfl | rfl | rfl <;> rcases hh with rfl | rfl | rfl | rfl <;> omega
theorem isCell_ok {w h c : Int} (hc : isCell w h c = true) : gridOk w h = true ∧ 0 ≤ c ∧ c < w * h ∧ c ≤ 15 := by
  unfold isCell at hc
  have h1 := of_decide_eq_true hc
  have h2 := cells_range w h
  cases hg : gridOk w h with
  | false => rw [cells_no hg] at h1; omega
  | true => rw [cells_of hg] at h1 h2; exact ⟨rfl, h1.1, h1.2, by omega⟩

/-! ### the program's and the reference's functions -/
theorem ite_some_bool {p : Prop} [Decidable p] {b : Bool} : (if p then some b else some false) = some (decide p && b) := by by_cases h : p <;> simp [h]
theorem iGridOk (w h : Int) : impl_GridOk.f w h = some (gridOk w h) := by
  unfold impl_GridOk.f gridOk
  simp only [ite_some_bool, Option.some.injEq]
  rw [Bool.eq_iff_iff]
  simp only [Bool.and_eq_true, decide_eq_true_eq]
theorem sIn (a b c : Int) : spec_l01In.f a b c = some (decide (b ≤ a ∧ a ≤ c)) := by
  unfold spec_l01In.f
  simp only [ite_some_bool, Option.some.injEq]
  rw [Bool.eq_iff_iff]
  simp only [Bool.and_eq_true, decide_eq_true_eq]
theorem sGridOk (w h : Int) : spec_GridOk.f w h = some (gridOk w h) := by
  unfold spec_GridOk.f gridOk
  simp only [sIn, Option.bind_some, decide_eq_true_eq, ite_some_bool, Option.some.injEq]
  rw [Bool.eq_iff_iff]
  simp only [Bool.and_eq_true, decide_eq_true_eq]
  omega
theorem mul_small {w h : Int} (hg : gridOk w h = true) : wrap64 (w * h) = w * h := by
  have := cells_range w h
  rw [cells_of hg] at this
  exact w64 (by omega) (by omega)
theorem iCountCells (w h : Int) : impl_CountCells.f w h = some (cells w h) := by
  unfold impl_CountCells.f cells
  simp only [iGridOk, Option.bind_some]
  by_cases hg : gridOk w h = true
  · rw [if_pos hg, if_pos hg, mul_small hg]
  · rw [if_neg hg, if_neg hg]
theorem sCountCells (w h : Int) : spec_CountCells.f w h = some (cells w h) := by
  unfold spec_CountCells.f cells
  simp only [sGridOk, Option.bind_some]
  by_cases hg : gridOk w h = true
  · rw [if_pos hg, if_pos hg, mul_small hg]
  · rw [if_neg hg, if_neg hg]
theorem iisCell (w h c : Int) : impl_isCell.f w h c = some (isCell w h c) := by
  unfold impl_isCell.f isCell
  simp only [iCountCells, Option.bind_some, ite_some_bool, Option.some.injEq]
  rw [Bool.eq_iff_iff]
  simp only [Bool.and_eq_true, decide_eq_true_eq]
/-- The reference's test for a cell. -/
theorem cell_test (w h c : Int) : decide (0 ≤ c ∧ c ≤ wrap64 (cells w h - 1)) = isCell w h c := by
  have := cells_range w h
  rw [w64 (by omega) (by omega)]
  unfold isCell
  rw [decide_eq_decide]
  omega
end Go.Proofs.Ytekgbinadmjapaa.L
