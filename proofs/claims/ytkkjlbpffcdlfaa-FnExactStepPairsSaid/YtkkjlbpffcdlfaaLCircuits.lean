/- Circuits: what CircuitsOk and TurnInside compute. -/
import Derived.Test.YtkkjlbpffcdlfaaXcgrid
import Derived.Test.YtkkjlbpffcdlfaaXimplCircuitsOk
import Derived.Test.YtkkjlbpffcdlfaaXspecCircuitsOk
import Derived.Test.YtkkjlbpffcdlfaaLBase
namespace Go.Proofs.Ytkkjlbpffcdlfaa.L
open Go.RowKit Go.Proofs.Ytkkjlbpffcdlfaa.X Go.Proofs.YtkkjlbpffcdlfaaW.PrintWords Go.Proofs.YtkkjlbpffcdlfaaW.PrintLast Go.Proofs.YtkkjlbpffcdlfaaW.PrintMore
set_option linter.unusedSimpArgs false
set_option linter.unusedVariables false

/-- From place i on: each number is from 1 to the length, and new. -/
def circ (l : List Int) (i : Int) : Prop := ∀ j : Int, i ≤ j → j < (l.length : Int) → 1 ≤ rd l j ∧ rd l j ≤ (l.length : Int) ∧ rd l j ∉ l.take j.toNat
open Classical in
noncomputable def circuitsOk (l : List Int) : Bool := decide (circ l 0 ∧ 1 ≤ l.length ∧ l.length ≤ 9)
theorem circ_step {l : List Int} {i : Int} (h1 : i < (l.length : Int)) : circ l i ↔ (1 ≤ rd l i ∧ rd l i ≤ (l.length : Int) ∧ rd l i ∉ l.take i.toNat) ∧ circ l (i + 1) := by
  constructor
  · exact fun h => ⟨h i (Int.le_refl _) h1, fun j hj hjl => h j (by omega) hjl⟩
  · rintro ⟨a, b⟩ j hj hjl
    by_cases e : j = i
    · subst e; exact a
    · exact b j (by omega) hjl
theorem circ_end {l : List Int} {i : Int} (h1 : (l.length : Int) ≤ i) : circ l i := fun j hj hjl => by omega
theorem sIn' (a b c : Int) : spec_l01In.f a b c = some (decide (b ≤ a ∧ a ≤ c)) := by
  unfold spec_l01In.f
  by_cases h : a ≥ b <;> simp [h]
open Classical in
theorem sCircuitsOk_go (l : List Int) (hl : l.length ≤ 140737488355328) : ∀ (d k : Nat) (i : Int), 0 ≤ i → i ≤ (l.length : Int) → (l.length : Int) - i = d → d + l.length + 2 ≤ k →
    spec_CircuitsOk.l0 k l i = some (decide (circ l i ∧ 1 ≤ l.length ∧ l.length ≤ 9)) := by
  intro d
  induction d with
  | zero =>
    intro k i h0 h1 hd hk
    obtain ⟨k, rfl⟩ : ∃ m, k = m + 1 := ⟨k - 1, by omega⟩
    simp only [spec_CircuitsOk.l0]
    rw [if_neg (by omega), sIn']
    simp only [Option.bind_some, Option.some.injEq, decide_eq_decide]
    constructor
    · exact fun h => ⟨circ_end (by omega), by omega, by omega⟩
    · exact fun h => by omega
  | succ d ih =>
    intro k i h0 h1 hd hk
    obtain ⟨k, rfl⟩ : ∃ m, k = m + 1 := ⟨k - 1, by omega⟩
    simp only [spec_CircuitsOk.l0]
    rw [if_pos (by omega), if_pos h0, sIn', if_pos (by omega), l07In k _ _ (by simp; omega) (by simp; omega), w64 (by omega) (by omega), ih k (i + 1) (by omega) (by omega) (by omega) (by omega)]
    simp only [Option.bind_some, circ_step (l := l) (i := i) (by omega), decide_eq_true_eq]
    by_cases ha : 1 ≤ rd l i ∧ rd l i ≤ (l.length : Int)
    · rw [if_pos ha]
      by_cases hb : rd l i ∈ l.take i.toNat
      · rw [if_pos hb]; simp [hb]
      · rw [if_neg hb]; simp [ha, hb]
    · rw [if_neg ha]
      have : ¬ ((1 ≤ rd l i ∧ rd l i ≤ (l.length : Int) ∧ rd l i ∉ l.take i.toNat) ∧ circ l (i + 1)) := fun h => ha ⟨h.1.1, h.1.2.1⟩
      simp only [this, false_and, decide_false]
theorem sCircuitsOk (k : Nat) (l : List Int) (hl : l.length ≤ 140737488355328) (hk : 2 * l.length + 2 ≤ k) : spec_CircuitsOk.f k l = some (circuitsOk l) := by
  unfold spec_CircuitsOk.f circuitsOk
  exact sCircuitsOk_go l hl l.length k 0 (by omega) (by omega) (by omega) (by omega)
open Classical in
theorem iCircuitsOk_go (l : List Int) (hl : l.length ≤ 140737488355328) : ∀ (d k : Nat) (i : Int), 0 ≤ i → i ≤ (l.length : Int) → (l.length : Int) - i = d → d + l.length + 2 ≤ k →
    impl_CircuitsOk.l0 k l l (l.length : Int) i = some (decide (circ l i ∧ 1 ≤ l.length ∧ l.length ≤ 9)) := by
  intro d
  induction d with
  | zero =>
    intro k i h0 h1 hd hk
    obtain ⟨k, rfl⟩ : ∃ m, k = m + 1 := ⟨k - 1, by omega⟩
    simp only [impl_CircuitsOk.l0]
    rw [if_neg (by omega)]
    by_cases h : (l.length : Int) ≥ 1
    · rw [if_pos h]
      simp only [Option.some.injEq, decide_eq_decide]
      exact ⟨fun h => ⟨circ_end (by omega), by omega, by omega⟩, fun h => by omega⟩
    · rw [if_neg h]
      have : ¬ (circ l i ∧ 1 ≤ l.length ∧ l.length ≤ 9) := by omega
      simp only [this, decide_false]
  | succ d ih =>
    intro k i h0 h1 hd hk
    obtain ⟨k, rfl⟩ : ∃ m, k = m + 1 := ⟨k - 1, by omega⟩
    simp only [impl_CircuitsOk.l0]
    rw [if_pos (by omega), if_pos h0, if_pos (by omega), if_pos (show i ≤ (l.length : Int) by omega), Contains k _ _ (by simp; omega) (by simp; omega), w64 (by omega) (by omega), ih k (i + 1) (by omega) (by omega) (by omega) (by omega)]
    simp only [Option.bind_some, circ_step (l := l) (i := i) (by omega), decide_eq_true_eq]
    by_cases ha : rd l i < 1
    · rw [if_pos ha]
      have : ¬ (((1 ≤ rd l i ∧ rd l i ≤ (l.length : Int) ∧ rd l i ∉ l.take i.toNat) ∧ circ l (i + 1)) ∧ 1 ≤ l.length ∧ l.length ≤ 9) := by omega
      simp only [this, decide_false]
    · rw [if_neg ha]
      by_cases hc : rd l i > (l.length : Int)
      · rw [if_pos hc]
        have : ¬ (((1 ≤ rd l i ∧ rd l i ≤ (l.length : Int) ∧ rd l i ∉ l.take i.toNat) ∧ circ l (i + 1)) ∧ 1 ≤ l.length ∧ l.length ≤ 9) := by omega
        simp only [this, decide_false]
      · rw [if_neg hc]
        have ha' : 1 ≤ rd l i := by omega
        have hc' : rd l i ≤ (l.length : Int) := by omega
        by_cases hb : rd l i ∈ l.take i.toNat
        · rw [if_pos hb]; simp [hb]
        · rw [if_neg hb]; simp [ha', hc', hb]
theorem iCircuitsOk (k : Nat) (l : List Int) (hl : l.length ≤ 140737488355328) (hk : 2 * l.length + 2 ≤ k) : impl_CircuitsOk.f k l = some (circuitsOk l) := by
  unfold impl_CircuitsOk.f circuitsOk
  exact iCircuitsOk_go l hl l.length k 0 (by omega) (by omega) (by omega) (by omega)
open Classical in
theorem circuits_len {l : List Int} (h : circuitsOk l = true) : 1 ≤ l.length ∧ l.length ≤ 9 := by
  unfold circuitsOk at h
  exact (of_decide_eq_true h).2
open Classical in
theorem circuits_at {l : List Int} (h : circuitsOk l = true) {j : Int} (h0 : 0 ≤ j) (h1 : j < (l.length : Int)) : 1 ≤ rd l j ∧ rd l j ≤ (l.length : Int) := by
  unfold circuitsOk at h
  have := (of_decide_eq_true h).1 j h0 h1
  exact ⟨this.1, this.2.1⟩
/-- From the inside: in reverse order, each number taken from the length and one. -/
def turnInside (l : List Int) : List Int := (l.map fun x => (l.length : Int) + 1 - x).reverse
theorem take_snoc {l : List Int} {i : Int} (h0 : 0 ≤ i) (h1 : i < (l.length : Int)) : l.take (i + 1).toNat = l.take i.toNat ++ [rd l i] := by
  rw [rd_get h0 h1, show (i + 1).toNat = i.toNat + 1 by omega, List.take_succ_eq_append_getElem (by omega)]
theorem turnInside_length (l : List Int) : (turnInside l).length = l.length := by simp [turnInside]
end Go.Proofs.Ytkkjlbpffcdlfaa.L
