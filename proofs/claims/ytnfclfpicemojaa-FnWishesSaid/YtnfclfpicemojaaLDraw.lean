/- What is drawn out of a text of bytes: a byte is from 0 to 255, a number below n is below n, the place stays within the text. -/
import Derived.Test.YtnfclfpicemojaaXspecl01Below
import Derived.Test.YtnfclfpicemojaaXspecl01Byte
import Derived.Test.YtnfclfpicemojaaXspecl01New
import Derived.Test.YtnfclfpicemojaaLBase
namespace Go.Proofs.Ytnfclfpicemojaa.L
open Go.RowKit Go.Proofs.Ytnfclfpicemojaa.X Go.Proofs.YtnfclfpicemojaaW.PrintWords Go.Proofs.YtnfclfpicemojaaW.PrintLast Go.Proofs.YtnfclfpicemojaaW.PrintMore
set_option linter.unusedSimpArgs false
set_option linter.unusedVariables false

theorem and255 (x : Int) : 0 ≤ Go.bits .and .i64 x 255 ∧ Go.bits .and .i64 x 255 ≤ 255 := by
  have h : (BitVec.ofInt 64 x &&& BitVec.ofInt 64 255).toNat ≤ 255 := by
    rw [BitVec.toNat_and]
    exact Nat.le_trans Nat.and_le_right (by decide)
  show 0 ≤ IntKind.i64.wrap ((BitVec.ofInt 64 x &&& BitVec.ofInt 64 255).toNat : Int) ∧ IntKind.i64.wrap ((BitVec.ofInt 64 x &&& BitVec.ofInt 64 255).toNat : Int) ≤ 255
  rw [Go.IntKind.wrap_i64]
  omega
theorem byte_ok (s : List Int) (i h : Int) (h0 : 0 ≤ i) (h1 : i ≤ (s.length : Int)) (hl : s.length ≤ 140737488355328) : ∃ v i' h', spec_l01Byte.f s i h = some (v, i', h') ∧ 0 ≤ v ∧ v ≤ 255 ∧ 0 ≤ i' ∧ i' ≤ (s.length : Int) := by
  unfold spec_l01Byte.f
  by_cases c : i < (s.length : Int)
  · rw [if_pos c, if_pos h0]
    exact ⟨_, _, _, rfl, (and255 _).1, (and255 _).2, by rw [w64 (by omega) (by omega)]; omega, by rw [w64 (by omega) (by omega)]; omega⟩
  · rw [if_neg c]
    exact ⟨_, _, _, rfl, (and255 _).1, (and255 _).2, h0, h1⟩
theorem below_ok (s : List Int) (i h n : Int) (h0 : 0 ≤ i) (h1 : i ≤ (s.length : Int)) (hl : s.length ≤ 140737488355328) (hn : 1 ≤ n) (hn2 : n ≤ 256) : ∃ v i' h', spec_l01Below.f s i h n = some (v, i', h') ∧ 0 ≤ v ∧ v < n ∧ 0 ≤ i' ∧ i' ≤ (s.length : Int) := by
  obtain ⟨v, i', h', e, a, b, c, d⟩ := byte_ok s i h h0 h1 hl
  unfold spec_l01Below.f
  rw [if_neg (by omega), if_pos hn2, e]
  simp only [Option.bind_some]
  rw [if_neg (by omega)]
  refine ⟨_, _, _, rfl, ?_, ?_, c, d⟩
  · rw [Int.tmod_eq_emod_of_nonneg a]
    exact Int.emod_nonneg _ (by omega)
  · rw [Int.tmod_eq_emod_of_nonneg a]
    exact Int.emod_lt_of_pos _ (by omega)
theorem new_go (l : List Int) : ∀ (d k : Nat) (i h : Int), 0 ≤ i → 4000 - i ≤ d → d < k → ∃ h', spec_l01New.l0 k l h i = some (l, 0, h') := by
  intro d
  induction d with
  | zero =>
    intro k i h h0 h1 hk
    obtain ⟨k, rfl⟩ := kpos hk
    unfold spec_l01New.l0
    by_cases c : i < (l.length : Int)
    · rw [if_pos c, if_neg (by omega)]
      exact ⟨_, rfl⟩
    · rw [if_neg c]
      exact ⟨_, rfl⟩
  | succ d ih =>
    intro k i h h0 h1 hk
    obtain ⟨k, rfl⟩ := kpos hk
    unfold spec_l01New.l0
    by_cases c : i < (l.length : Int)
    · by_cases c2 : i < 4000
      · rw [if_pos c, if_pos c2, if_pos h0, w64 (x := i + 1) (by omega) (by omega)]
        exact ih k (i + 1) _ (by omega) (by omega) (by omega)
      · rw [if_pos c, if_neg c2]
        exact ⟨_, rfl⟩
    · rw [if_neg c]
      exact ⟨_, rfl⟩
theorem new_ok (k : Nat) (l : List Int) (hk : 4001 < k) : ∃ h, spec_l01New.f k l = some (l, 0, h) := new_go l 4000 k 0 _ (by omega) (by omega) (by omega)
end Go.Proofs.Ytnfclfpicemojaa.L
