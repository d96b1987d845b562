/- Pairs of arch systems that make one closed way: the program's count. -/
import Derived.Test.YtkkjlbpffcdlfaaXimplCountMeanders
import Derived.Test.YtkkjlbpffcdlfaaLAll
import Derived.Test.YtkkjlbpffcdlfaaLMarkSS
namespace Go.Proofs.Ytkkjlbpffcdlfaa.L
open Go.RowKit Go.Proofs.Ytkkjlbpffcdlfaa.X Go.Proofs.YtkkjlbpffcdlfaaW.PrintWords Go.Proofs.YtkkjlbpffcdlfaaW.PrintLast Go.Proofs.YtkkjlbpffcdlfaaW.PrintMore
set_option linter.unusedSimpArgs false
set_option linter.unusedVariables false

def cRow (m : List Int → List Int → Bool) (a : List Int) : List (List Int) → Int → Int
  | [], n => n
  | b :: bs, n => cRow m a bs (if m a b = true then n + 1 else n)
def cAll (m : List Int → List Int → Bool) (S : List (List Int)) : List (List Int) → Int → Int
  | [], n => n
  | a :: rs, n => cAll m S rs (cRow m a S n)
theorem cRow_le (m : List Int → List Int → Bool) (a : List Int) : ∀ (l : List (List Int)) (n : Int), n ≤ cRow m a l n ∧ cRow m a l n ≤ n + l.length
  | [], n => ⟨Int.le_refl _, by simp [cRow]⟩
  | b :: bs, n => by
    have := cRow_le m a bs (if m a b = true then n + 1 else n)
    rw [cRow, List.length_cons]
    split at this <;> rename_i h
    · rw [if_pos h]; omega
    · rw [if_neg h]; omega
section
variable (m : List Int → List Int → Bool) (S : List (List Int)) (hl : S.length ≤ 42) (hI : ∀ a ∈ S, ∀ b ∈ S, ∀ k, 200 ≤ k → impl_IsMeander.f k a b = some (m a b))
include hl hI
theorem iCount_l1 (K : Nat) (hK : 200 ≤ K) (a : List Int) (ha : a ∈ S) (i : Int) : ∀ (d : Nat) (j n : Int), 0 ≤ j → (S.length : Int) - j = d → 0 ≤ n → n + d ≤ 100000 →
    impl_CountMeanders.l1 (K + d + 1) S n a S (S.length : Int) i S (S.length : Int) j = impl_CountMeanders.l0 K S (cRow m a (S.drop j.toNat) n) S (S.length : Int) (wrap64 (i + 1)) := by
  intro d
  induction d with
  | zero =>
    intro j n h0 hd hn hb
    rw [impl_CountMeanders.l1, if_neg (by omega), List.drop_of_length_le (by omega)]
    rfl
  | succ d ih =>
    intro j n h0 hd hn hb
    rw [show K + (d + 1) + 1 = (K + d + 1) + 1 by omega, impl_CountMeanders.l1, if_pos (by omega), if_pos h0, if_pos (by omega), hI a ha (rd_L1 S j) (rl_mem (l := S) h0 (by omega)) (K + d + 1) (by omega), Option.bind_some, rl_drop h0 (by omega), cRow, w64 (x := j + 1) (by omega) (by omega)]
    by_cases e : m a (rd_L1 S j) = true
    · rw [if_pos e, if_pos e, w64 (x := n + 1) (by omega) (by omega)]
      exact ih (j + 1) (n + 1) (by omega) (by omega) (by omega) (by omega)
    · rw [if_neg e, if_neg e]
      exact ih (j + 1) n (by omega) (by omega) (by omega) (by omega)
theorem iCount_l0 : ∀ (d K : Nat) (i n : Int), 0 ≤ i → (S.length : Int) - i = d → 0 ≤ n → n + d * 42 ≤ 10000 → 60 * d + 300 ≤ K → impl_CountMeanders.l0 K S n S (S.length : Int) i = some (cAll m S (S.drop i.toNat) n) := by
  intro d
  induction d with
  | zero =>
    intro K i n h0 hd hn hb hK
    obtain ⟨K, rfl⟩ : ∃ m, K = m + 1 := ⟨K - 1, by omega⟩
    rw [impl_CountMeanders.l0, if_neg (by omega), List.drop_of_length_le (by omega)]
    rfl
  | succ d ih =>
    intro K i n h0 hd hn hb hK
    obtain ⟨q, rfl⟩ : ∃ q, K = (q + S.length + 1) + 1 := ⟨K - S.length - 2, by omega⟩
    have hc := cRow_le m (rd_L1 S i) S n
    rw [impl_CountMeanders.l0, if_pos (by omega), if_pos h0, if_pos (by omega), iCount_l1 m S hl hI q (by omega) (rd_L1 S i) (rl_mem (l := S) h0 (by omega)) i S.length 0 n (by omega) (by omega) hn (by omega), w64 (x := i + 1) (by omega) (by omega), rl_drop h0 (by omega), cAll, show S.drop (0 : Int).toNat = S from rfl]
    exact ih q (i + 1) (cRow m (rd_L1 S i) S n) (by omega) (by omega) (by omega) (by omega) (by omega)
theorem iCountMeanders {n : Int} (h0 : 1 ≤ n) (h1 : n ≤ 4) (hA : ∀ k, 400 ≤ k → impl_AllArches.f k n = some S) (k : Nat) (hk : 4000 ≤ k) : impl_CountMeanders.f k n = some (cAll m S S 0) := by
  obtain ⟨k, rfl⟩ : ∃ m, k = m + 1 := ⟨k - 1, by omega⟩
  unfold impl_CountMeanders.f
  rw [if_neg (by omega), decide_eq_false (show ¬ n > 4 by omega), impl_CountMeanders.j0, if_neg (by simp), hA k (by omega), Option.bind_some]
  exact iCount_l0 m S hl hI S.length k 0 0 (by omega) (by omega) (by omega) (by omega) (by omega)
end
end Go.Proofs.Ytkkjlbpffcdlfaa.L
