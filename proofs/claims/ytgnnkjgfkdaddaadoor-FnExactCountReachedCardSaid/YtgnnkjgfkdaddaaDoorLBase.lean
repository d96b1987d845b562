/- Plain laws of the loops over lists of numbers that every statement uses: copying, comparing, looking for an element, marking. -/
import Derived.Test.YtgnnkjgfkdaddaaDoorXcints
import Derived.Test.YtgnnkjgfkdaddaaDoorX0
namespace Go.Proofs.YtgnnkjgfkdaddaaDoor.L
open Go.RowKit Go.Proofs.YtgnnkjgfkdaddaaDoor.X Go.Proofs.YtgnnkjgfkdaddaaDoorW.PrintWords Go.Proofs.YtgnnkjgfkdaddaaDoorW.PrintLast Go.Proofs.YtgnnkjgfkdaddaaDoorW.PrintMore
set_option linter.unusedSimpArgs false
set_option linter.unusedVariables false

theorem w64 {x : Int} (h : -9223372036854775808 ≤ x) (h' : x ≤ 9223372036854775807) : wrap64 x = x := by unfold wrap64; omega
theorem rd_get {l : List Int} {i : Int} (h0 : 0 ≤ i) (h1 : i < (l.length : Int)) : rd l i = l[i.toNat]'(by omega) := by
  unfold rd
  rw [List.getD_eq_getElem?_getD, List.getElem?_eq_getElem (show i.toNat < l.length by omega)]
  rfl
theorem rd_nat {l : List Int} {n : Nat} (h1 : n < l.length) : rd l (n : Int) = l[n] := by
  unfold rd
  rw [List.getD_eq_getElem?_getD]
  simp [h1]
theorem drop_cons {l : List Int} {i : Int} (h0 : 0 ≤ i) (h1 : i < (l.length : Int)) : l.drop i.toNat = rd l i :: l.drop (i + 1).toNat := by
  rw [rd_get h0 h1, List.drop_eq_getElem_cons (by omega), show (i + 1).toNat = i.toNat + 1 by omega]
theorem kpos {k d : Nat} (h : d < k) : ∃ m, k = m + 1 := ⟨k - 1, by omega⟩

/-- P holds of the whole numbers from i on, below n. -/
def AllFrom (P : Int → Prop) (i n : Int) : Prop := ∀ j, i ≤ j → j < n → P j
theorem allFrom_end {P : Int → Prop} {i n : Int} (h : n ≤ i) : AllFrom P i n := fun j a b => by omega
theorem allFrom_step {P : Int → Prop} {i n : Int} (h : i < n) : AllFrom P i n ↔ P i ∧ AllFrom P (i + 1) n := by
  constructor
  · exact fun z => ⟨z i (Int.le_refl _) h, fun j a b => z j (by omega) b⟩
  · rintro ⟨a, b⟩ j h1 h2
    by_cases e : j = i
    · subst e; exact a
    · exact b j (by omega) h2
theorem toIntS_go (l : List Int) (hl : l.length ≤ 35184372088832) : ∀ (d k : Nat) (x : List Int) (i : Int), 0 ≤ i → i ≤ (l.length : Int) → (l.length : Int) - i = d → d < k → x.length = l.length → x.take i.toNat = l.take i.toNat → laws_toIntS.l0 k l x i = some l := by
  intro d
  induction d with
  | zero =>
    intro k x i h0 h1 hd hk hx ht
    obtain ⟨k, rfl⟩ := kpos hk
    simp only [laws_toIntS.l0]
    rw [if_neg (by omega)]
    rw [List.take_of_length_le (by omega), List.take_of_length_le (by omega)] at ht
    rw [ht]
  | succ d ih =>
    intro k x i h0 h1 hd hk hx ht
    obtain ⟨k, rfl⟩ := kpos hk
    simp only [laws_toIntS.l0]
    rw [if_pos (by omega), if_pos h0, if_pos (by omega), w64 (by omega) (by omega)]
    refine ih k _ (i + 1) (by omega) (by omega) (by omega) (by omega) (by simpa using hx) ?_
    have e : (i + 1).toNat = i.toNat + 1 := by omega
    have hi : i.toNat < l.length := by omega
    rw [e, List.take_add_one, List.take_add_one, List.take_set_of_le (by omega), ht]
    congr 1
    rw [List.getElem?_set_self (by omega), rd_get h0 (by omega), List.getElem?_eq_getElem hi]
/-- Copying a list gives the list. -/
theorem toIntS (k : Nat) (l : List Int) (hl : l.length ≤ 35184372088832) (hk : l.length < k) : laws_toIntS.f k l = some l := by
  unfold laws_toIntS.f
  rw [if_pos (by omega), if_pos (by omega)]
  exact toIntS_go l hl l.length k _ 0 (by omega) (by omega) (by omega) hk (by simp) (by simp)
theorem eqIntS_go (a b : List Int) (hl : a.length = b.length) (ha : a.length ≤ 140737488355328) : ∀ (d k : Nat) (i : Int), 0 ≤ i → i ≤ (a.length : Int) → (a.length : Int) - i = d → d < k → laws_eqIntS.l0 k a b i = some (decide (a.drop i.toNat = b.drop i.toNat)) := by
  intro d
  induction d with
  | zero =>
    intro k i h0 h1 hd hk
    obtain ⟨k, rfl⟩ := kpos hk
    simp only [laws_eqIntS.l0]
    rw [if_neg (by omega), List.drop_of_length_le (by omega), List.drop_of_length_le (by omega)]
    rfl
  | succ d ih =>
    intro k i h0 h1 hd hk
    obtain ⟨k, rfl⟩ := kpos hk
    simp only [laws_eqIntS.l0]
    rw [if_pos (by omega), if_pos h0, if_pos (by omega), w64 (by omega) (by omega), drop_cons h0 (by omega), drop_cons (l := b) h0 (by omega)]
    by_cases h : rd a i = rd b i
    · rw [if_pos h, ih k (i + 1) (by omega) (by omega) (by omega) (by omega), h]
      simp
    · rw [if_neg h]
      simp [h]
/-- Comparing two lists tells whether they are one. -/
theorem eqIntS (k : Nat) (a b : List Int) (ha : a.length ≤ 140737488355328) (hk : a.length < k) : laws_eqIntS.f k a b = some (decide (a = b)) := by
  unfold laws_eqIntS.f
  by_cases h : a.length = b.length
  · rw [if_pos (by omega), eqIntS_go a b h ha a.length k 0 (by omega) (by omega) (by omega) hk]
    simp
  · rw [if_neg (by omega)]
    have : a ≠ b := fun e => h (by rw [e])
    simp [this]
theorem l07In_go (l : List Int) (x : Int) (hl : l.length ≤ 140737488355328) : ∀ (d k : Nat) (i : Int), 0 ≤ i → i ≤ (l.length : Int) → (l.length : Int) - i = d → d < k → spec_l07In.l0 k l x i = some (decide (x ∈ l.drop i.toNat)) := by
  intro d
  induction d with
  | zero =>
    intro k i h0 h1 hd hk
    obtain ⟨k, rfl⟩ := kpos hk
    simp only [spec_l07In.l0]
    rw [if_neg (by omega), List.drop_of_length_le (by omega)]
    simp
  | succ d ih =>
    intro k i h0 h1 hd hk
    obtain ⟨k, rfl⟩ := kpos hk
    simp only [spec_l07In.l0]
    rw [if_pos (by omega), if_pos h0, w64 (by omega) (by omega), drop_cons h0 (by omega)]
    by_cases h : rd l i = x
    · rw [if_pos h, h]
      simp
    · rw [if_neg h, ih k (i + 1) (by omega) (by omega) (by omega) (by omega)]
      simp [Ne.symm h]
theorem l07In (k : Nat) (l : List Int) (x : Int) (hl : l.length ≤ 140737488355328) (hk : l.length < k) : spec_l07In.f k l x = some (decide (x ∈ l)) := by
  unfold spec_l07In.f
  rw [l07In_go l x hl l.length k 0 (by omega) (by omega) (by omega) hk]
  simp
theorem Index_go (l : List Int) (x : Int) (hl : l.length ≤ 140737488355328) : ∀ (d k : Nat) (i : Int), 0 ≤ i → i ≤ (l.length : Int) → (l.length : Int) - i = d → d < k →
    ∃ r, slices_Index_int_int.l0 k l x (l.length : Int) i = some r ∧ ((r = -1 ∧ x ∉ l.drop i.toNat) ∨ (i ≤ r ∧ r < (l.length : Int) ∧ rd l r = x ∧ ∀ j, i ≤ j → j < r → rd l j ≠ x)) := by
  intro d
  induction d with
  | zero =>
    intro k i h0 h1 hd hk
    obtain ⟨k, rfl⟩ := kpos hk
    refine ⟨-1, ?_, .inl ⟨rfl, ?_⟩⟩
    · simp only [slices_Index_int_int.l0]
      rw [if_neg (by omega)]
    · rw [List.drop_of_length_le (by omega)]; simp
  | succ d ih =>
    intro k i h0 h1 hd hk
    obtain ⟨k, rfl⟩ := kpos hk
    by_cases h : x = rd l i
    · refine ⟨i, ?_, .inr ⟨Int.le_refl _, by omega, h.symm, fun j _ _ => by omega⟩⟩
      simp only [slices_Index_int_int.l0]
      rw [if_pos (by omega), if_pos h0, if_pos (by omega), if_pos h]
    · obtain ⟨r, hr, hc⟩ := ih k (i + 1) (by omega) (by omega) (by omega) (by omega)
      refine ⟨r, ?_, ?_⟩
      · simp only [slices_Index_int_int.l0]
        rw [if_pos (by omega), if_pos h0, if_pos (by omega), if_neg h, w64 (by omega) (by omega)]
        exact hr
      · rcases hc with ⟨e, hn⟩ | ⟨a, b, c, f⟩
        · refine .inl ⟨e, ?_⟩
          rw [drop_cons h0 (by omega)]
          simp [h, hn]
        · refine .inr ⟨by omega, b, c, fun j hj hjr => ?_⟩
          by_cases e : j = i
          · subst e; exact fun z => h z.symm
          · exact f j (by omega) hjr
theorem Index (k : Nat) (l : List Int) (x : Int) (hl : l.length ≤ 140737488355328) (hk : l.length < k) :
    ∃ r, slices_Index_int_int.f k l x = some r ∧ ((r = -1 ∧ x ∉ l) ∨ (0 ≤ r ∧ r < (l.length : Int) ∧ rd l r = x ∧ ∀ j, 0 ≤ j → j < r → rd l j ≠ x)) := by
  unfold slices_Index_int_int.f
  simpa using Index_go l x hl l.length k 0 (by omega) (by omega) (by omega) hk
theorem Contains (k : Nat) (l : List Int) (x : Int) (hl : l.length ≤ 140737488355328) (hk : l.length < k) : slices_Contains_int_int.f k l x = some (decide (x ∈ l)) := by
  obtain ⟨r, hr, hc⟩ := Index k l x hl hk
  unfold slices_Contains_int_int.f
  rw [hr]
  simp only [Option.bind_some, Option.some.injEq, decide_eq_decide]
  rcases hc with ⟨e, hn⟩ | ⟨a, b, c, _⟩
  · subst e
    exact ⟨fun h => by omega, fun h => absurd h hn⟩
  · refine ⟨fun _ => ?_, fun _ => a⟩
    rw [← c, rd_get a b]
    exact List.getElem_mem _
end Go.Proofs.YtgnnkjgfkdaddaaDoor.L
