/- Pairs of arch systems that make one closed way: counted alike. -/
import Derived.Test.YtkkjlbpffcdlfaaXimplCountMeanders
import Derived.Test.YtkkjlbpffcdlfaaXspecCountMeanders
import Derived.Test.YtkkjlbpffcdlfaaLAll
import Derived.Test.YtkkjlbpffcdlfaaLLoops
import Derived.Test.YtkkjlbpffcdlfaaLMarkSS
namespace Go.Proofs.Ytkkjlbpffcdlfaa.L
open Go.RowKit Go.Proofs.Ytkkjlbpffcdlfaa.X Go.Proofs.YtkkjlbpffcdlfaaW.PrintWords Go.Proofs.YtkkjlbpffcdlfaaW.PrintLast Go.Proofs.YtkkjlbpffcdlfaaW.PrintMore
set_option linter.unusedSimpArgs false
set_option linter.unusedVariables false

def mnd (a b : List Int) : Bool := (impl_IsMeander.f 200 a b).getD false
theorem mnd_ok (a b : List Int) (ha : a.length ≤ 100000) (hb : b.length ≤ 100000) (k : Nat) (hk : 200 ≤ k) : impl_IsMeander.f k a b = some (mnd a b) ∧ spec_IsMeander.f k a b = some (mnd a b) := by
  obtain ⟨r, h2, h1⟩ := isMeander 200 a b (by omega) (by omega) (Nat.le_refl _)
  have e : mnd a b = r := by unfold mnd; rw [h1]; rfl
  rw [e]
  exact ⟨lift (fun k => impl_IsMeander.mono a b k) hk h1, lift (fun k => spec_IsMeander.mono a b k) hk h2⟩
def cRow (a : List Int) : List (List Int) → Int → Int
  | [], n => n
  | b :: bs, n => cRow a bs (if mnd a b = true then n + 1 else n)
def cAll (S : List (List Int)) : List (List Int) → Int → Int
  | [], n => n
  | a :: rs, n => cAll S rs (cRow a S n)
theorem cRow_le (a : List Int) : ∀ (l : List (List Int)) (n : Int), n ≤ cRow a l n ∧ cRow a l n ≤ n + l.length
  | [], n => ⟨Int.le_refl _, by simp [cRow]⟩
  | b :: bs, n => by
    have := cRow_le a bs (if mnd a b = true then n + 1 else n)
    rw [cRow, List.length_cons]
    split at this <;> rename_i h
    · rw [if_pos h]; omega
    · rw [if_neg h]; omega
section
variable (S : List (List Int)) (hl : S.length ≤ 42) (hr : ∀ r ∈ S, r.length ≤ 10)
include hl hr
theorem iCount_l1 (K : Nat) (hK : 200 ≤ K) (a : List Int) (ha : a.length ≤ 10) (i : Int) : ∀ (d : Nat) (j n : Int), 0 ≤ j → (S.length : Int) - j = d → 0 ≤ n → n + d ≤ 100000 →
    impl_CountMeanders.l1 (K + d + 1) S n a S (S.length : Int) i S (S.length : Int) j = impl_CountMeanders.l0 K S (cRow a (S.drop j.toNat) n) S (S.length : Int) (wrap64 (i + 1)) := by
  intro d
  induction d with
  | zero =>
    intro j n h0 hd hn hb
    rw [impl_CountMeanders.l1, if_neg (by omega), List.drop_of_length_le (by omega)]
    rfl
  | succ d ih =>
    intro j n h0 hd hn hb
    rw [show K + (d + 1) + 1 = (K + d + 1) + 1 by omega, impl_CountMeanders.l1, if_pos (by omega), if_pos h0, if_pos (by omega), (mnd_ok a (rd_L1 S j) (by omega) (by have := hr _ (rl_mem (l := S) h0 (by omega)); omega) (K + d + 1) (by omega)).1, Option.bind_some, rl_drop h0 (by omega), cRow, w64 (x := j + 1) (by omega) (by omega)]
    by_cases e : mnd a (rd_L1 S j) = true
    · rw [if_pos e, if_pos e, w64 (x := n + 1) (by omega) (by omega)]
      exact ih (j + 1) (n + 1) (by omega) (by omega) (by omega) (by omega)
    · rw [if_neg e, if_neg e]
      exact ih (j + 1) n (by omega) (by omega) (by omega) (by omega)
theorem iCount_l0 : ∀ (d K : Nat) (i n : Int), 0 ≤ i → (S.length : Int) - i = d → 0 ≤ n → n + d * 42 ≤ 10000 → 60 * d + 300 ≤ K → impl_CountMeanders.l0 K S n S (S.length : Int) i = some (cAll S (S.drop i.toNat) n) := by
  intro d
  induction d with
  | zero =>
    intro K i n h0 hd hn hb hK
    obtain ⟨K, rfl⟩ : ∃ m, K = m + 1 := ⟨K - 1, by omega⟩
    rw [impl_CountMeanders.l0, if_neg (by omega), List.drop_of_length_le (by omega)]
    rfl
  | succ d ih =>
    intro K i n h0 hd hn hb hK
    obtain ⟨m, rfl⟩ : ∃ m, K = (m + S.length + 1) + 1 := ⟨K - S.length - 2, by omega⟩
    have hc := cRow_le (rd_L1 S i) S n
    rw [impl_CountMeanders.l0, if_pos (by omega), if_pos h0, if_pos (by omega), iCount_l1 S hl hr m (by omega) (rd_L1 S i) (hr _ (rl_mem (l := S) h0 (by omega))) i S.length 0 n (by omega) (by omega) hn (by omega), w64 (x := i + 1) (by omega) (by omega), rl_drop h0 (by omega), cAll, show S.drop (0 : Int).toNat = S from rfl]
    exact ih m (i + 1) (cRow (rd_L1 S i) S n) (by omega) (by omega) (by omega) (by omega) (by omega)
theorem sCount_l1 (K : Nat) (hK : 200 ≤ K) (i : Int) (hi0 : 0 ≤ i) (hi1 : i < (S.length : Int)) : ∀ (d : Nat) (j n : Int), 0 ≤ j → (S.length : Int) - j = d → 0 ≤ n → n + d ≤ 100000 →
    spec_CountMeanders.l1 (K + d + 1) S n i j = spec_CountMeanders.l0 K S (cRow (rd_L1 S i) (S.drop j.toNat) n) (wrap64 (i + 1)) := by
  intro d
  induction d with
  | zero =>
    intro j n h0 hd hn hb
    rw [spec_CountMeanders.l1, if_neg (by omega), List.drop_of_length_le (by omega)]
    rfl
  | succ d ih =>
    intro j n h0 hd hn hb
    rw [show K + (d + 1) + 1 = (K + d + 1) + 1 by omega, spec_CountMeanders.l1, if_pos (by omega), if_pos hi0, if_pos hi1, if_pos h0, (mnd_ok (rd_L1 S i) (rd_L1 S j) (by have := hr _ (rl_mem (l := S) hi0 hi1); omega) (by have := hr _ (rl_mem (l := S) h0 (by omega)); omega) (K + d + 1) (by omega)).2, Option.bind_some, rl_drop h0 (by omega), cRow, w64 (x := j + 1) (by omega) (by omega)]
    by_cases e : mnd (rd_L1 S i) (rd_L1 S j) = true
    · rw [if_pos e, if_pos e, w64 (x := n + 1) (by omega) (by omega)]
      exact ih (j + 1) (n + 1) (by omega) (by omega) (by omega) (by omega)
    · rw [if_neg e, if_neg e]
      exact ih (j + 1) n (by omega) (by omega) (by omega) (by omega)
theorem sCount_l0 : ∀ (d K : Nat) (i n : Int), 0 ≤ i → (S.length : Int) - i = d → 0 ≤ n → n + d * 42 ≤ 10000 → 60 * d + 300 ≤ K → spec_CountMeanders.l0 K S n i = some (cAll S (S.drop i.toNat) n) := by
  intro d
  induction d with
  | zero =>
    intro K i n h0 hd hn hb hK
    obtain ⟨K, rfl⟩ : ∃ m, K = m + 1 := ⟨K - 1, by omega⟩
    rw [spec_CountMeanders.l0, if_neg (by omega), List.drop_of_length_le (by omega)]
    rfl
  | succ d ih =>
    intro K i n h0 hd hn hb hK
    obtain ⟨m, rfl⟩ : ∃ m, K = (m + S.length + 1) + 1 := ⟨K - S.length - 2, by omega⟩
    have hc := cRow_le (rd_L1 S i) S n
    rw [spec_CountMeanders.l0, if_pos (by omega), sCount_l1 S hl hr m (by omega) i h0 (by omega) S.length 0 n (by omega) (by omega) hn (by omega), w64 (x := i + 1) (by omega) (by omega), rl_drop h0 (by omega), cAll, show S.drop (0 : Int).toNat = S from rfl]
    exact ih m (i + 1) (cRow (rd_L1 S i) S n) (by omega) (by omega) (by omega) (by omega) (by omega)
end
theorem countMeanders (k : Nat) (n : Int) (hk : 4000 ≤ k) : ∃ r, impl_CountMeanders.f k n = some r ∧ spec_CountMeanders.f k n = some r := by
  obtain ⟨k, rfl⟩ : ∃ m, k = m + 1 := ⟨k - 1, by omega⟩
  unfold impl_CountMeanders.f spec_CountMeanders.f spec_l01In.f
  by_cases h1 : n ≥ 1
  · rw [if_neg (by omega), if_pos h1, Option.bind_some]
    by_cases h4 : n ≤ 4
    · obtain ⟨S, h, _, hl, hr⟩ := all_arches h1 (by omega)
      have hr' : ∀ r ∈ S, r.length ≤ 10 := fun r q => by have := hr r q; omega
      rw [decide_eq_false (show ¬ n > 4 by omega), decide_eq_true h4, if_pos rfl, (h (k + 1) (by omega)).2, Option.bind_some, impl_CountMeanders.j0, if_neg (by simp), (h k (by omega)).1, Option.bind_some]
      exact ⟨_, iCount_l0 S hl hr' S.length k 0 0 (by omega) (by omega) (by omega) (by omega) (by omega), sCount_l0 S hl hr' S.length (k + 1) 0 0 (by omega) (by omega) (by omega) (by omega) (by omega)⟩
    · rw [decide_eq_true (show n > 4 by omega), decide_eq_false h4, if_neg (by simp), impl_CountMeanders.j0, if_pos rfl]
      exact ⟨_, rfl, rfl⟩
  · rw [if_pos (by omega), if_neg h1, Option.bind_some, if_neg (by simp), impl_CountMeanders.j0, if_pos rfl]
    exact ⟨_, rfl, rfl⟩
end Go.Proofs.Ytkkjlbpffcdlfaa.L
