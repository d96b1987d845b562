/- Plain laws of the loops over lists of numbers that every statement uses: copying, comparing, looking for an element, marking. -/

import Derived.Test.YtnfclfpicemojaaX0
namespace Go.Proofs.Ytnfclfpicemojaa.L
open Go.RowKit Go.Proofs.Ytnfclfpicemojaa.X Go.Proofs.YtnfclfpicemojaaW.PrintWords Go.Proofs.YtnfclfpicemojaaW.PrintLast Go.Proofs.YtnfclfpicemojaaW.PrintMore
set_option linter.unusedSimpArgs false
set_option linter.unusedVariables false

theorem w64 {x : Int} (h : -9223372036854775808 ≤ x) (h' : x ≤ 9223372036854775807) : wrap64 x = x := by unfold wrap64; omega
theorem rd_get {l : List Int} {i : Int} (h0 : 0 ≤ i) (h1 : i < (l.length : Int)) : rd l i = l[i.toNat]'(by omega) := by
  unfold rd
  rw [List.getD_eq_getElem?_getD, List.getElem?_eq_getElem (show i.toNat < l.length by omega)]
  rfl
theorem rd_nat {l : List Int} {n : Nat} (h1 : n < l.length) : rd l (n : Int) = l[n] := by
  unfold rd
  rw [List.getD_eq_getElem?_getD]
  simp [h1]
theorem drop_cons {l : List Int} {i : Int} (h0 : 0 ≤ i) (h1 : i < (l.length : Int)) : l.drop i.toNat = rd l i :: l.drop (i + 1).toNat := by
  rw [rd_get h0 h1, List.drop_eq_getElem_cons (by omega), show (i + 1).toNat = i.toNat + 1 by omega]
theorem kpos {k d : Nat} (h : d < k) : ∃ m, k = m + 1 := ⟨k - 1, by omega⟩

/-- P holds of the whole numbers from i on, below n. -/
def AllFrom (P : Int → Prop) (i n : Int) : Prop := ∀ j, i ≤ j → j < n → P j
theorem allFrom_end {P : Int → Prop} {i n : Int} (h : n ≤ i) : AllFrom P i n := fun j a b => by omega
theorem allFrom_step {P : Int → Prop} {i n : Int} (h : i < n) : AllFrom P i n ↔ P i ∧ AllFrom P (i + 1) n := by
  constructor
  · exact fun z => ⟨z i (Int.le_refl _) h, fun j a b => z j (by omega) b⟩
  · rintro ⟨a, b⟩ j h1 h2
    by_cases e : j = i
    · subst e; exact a
    · exact b j (by omega) h2
end Go.Proofs.Ytnfclfpicemojaa.L
