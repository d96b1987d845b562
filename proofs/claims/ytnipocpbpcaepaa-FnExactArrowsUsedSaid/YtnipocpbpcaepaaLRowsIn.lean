/- Rows of rows that come in: their copies, and what is known of their sizes. -/
import Derived.Test.YtnipocpbpcaepaaXlawseqIntSS
import Derived.Test.YtnipocpbpcaepaaXlawsszIntSS
import Derived.Test.YtnipocpbpcaepaaXlawstoIntSS
import Derived.Test.YtnipocpbpcaepaaLBase
namespace Go.Proofs.Ytnipocpbpcaepaa.L
open Go.RowKit Go.Proofs.Ytnipocpbpcaepaa.X Go.Proofs.YtnipocpbpcaepaaW.PrintWords Go.Proofs.YtnipocpbpcaepaaW.PrintLast Go.Proofs.YtnipocpbpcaepaaW.PrintMore
set_option linter.unusedSimpArgs false
set_option linter.unusedVariables false

theorem rq_get {l : List (List Int)} {i : Int} (h0 : 0 ≤ i) (h1 : i < (l.length : Int)) : rd_L1 l i = l[i.toNat]'(by omega) := by
  unfold rd_L1
  rw [List.getD_eq_getElem?_getD, List.getElem?_eq_getElem (show i.toNat < l.length by omega)]
  rfl
theorem rq_mem {l : List (List Int)} {i : Int} (h0 : 0 ≤ i) (h1 : i < (l.length : Int)) : rd_L1 l i ∈ l := by
  rw [rq_get h0 h1]
  exact List.getElem_mem _
theorem toIntSS_go (l : List (List Int)) (hl : l.length ≤ 1048576) (hr : ∀ r ∈ l, r.length ≤ 1048576) : ∀ (d k : Nat) (x : List (List Int)) (i : Int), 0 ≤ i → i ≤ (l.length : Int) → (l.length : Int) - i = d → d + 1048577 < k → x.length = l.length → x.take i.toNat = l.take i.toNat → laws_toIntSS.l0 k l x i = some l := by
  intro d
  induction d with
  | zero =>
    intro k x i h0 h1 hd hk hx ht
    obtain ⟨k, rfl⟩ : ∃ m, k = m + 1 := ⟨k - 1, by omega⟩
    rw [laws_toIntSS.l0, if_neg (by omega)]
    rw [List.take_of_length_le (by omega), List.take_of_length_le (by omega)] at ht
    rw [ht]
  | succ d ih =>
    intro k x i h0 h1 hd hk hx ht
    obtain ⟨k, rfl⟩ : ∃ m, k = m + 1 := ⟨k - 1, by omega⟩
    have hm := hr _ (rq_mem (l := l) h0 (by omega))
    rw [laws_toIntSS.l0, if_pos (by omega), if_pos h0, toIntS k _ (by omega) (by omega), Option.bind_some, if_pos (by omega), w64 (by omega) (by omega)]
    refine ih k _ (i + 1) (by omega) (by omega) (by omega) (by omega) (by simpa using hx) ?_
    have e : (i + 1).toNat = i.toNat + 1 := by omega
    have hi : i.toNat < l.length := by omega
    rw [e, List.take_add_one, List.take_add_one, List.take_set_of_le (by omega), ht]
    congr 1
    rw [List.getElem?_set_self (by omega), rq_get h0 (by omega), List.getElem?_eq_getElem hi]
theorem toIntSS (k : Nat) (l : List (List Int)) (hl : l.length ≤ 1048576) (hr : ∀ r ∈ l, r.length ≤ 1048576) (hk : l.length + 1048577 < k) : laws_toIntSS.f k l = some l := by
  unfold laws_toIntSS.f
  rw [if_pos (by omega), if_pos (by omega)]
  exact toIntSS_go l hl hr l.length k _ 0 (by omega) (by omega) (by omega) hk (by simp) (by simp)
theorem eqqIntSS_go (a : List (List Int)) (ha : a.length ≤ 1048576) (hB : ∀ r ∈ a, r.length ≤ 1048576) : ∀ (d k : Nat) (i : Int), 0 ≤ i → i ≤ (a.length : Int) → (a.length : Int) - i = d → d + 1048577 < k → laws_eqIntSS.l0 k a a i = some true := by
  intro d
  induction d with
  | zero =>
    intro k i h0 h1 hd hk
    obtain ⟨k, rfl⟩ : ∃ m, k = m + 1 := ⟨k - 1, by omega⟩
    rw [laws_eqIntSS.l0, if_neg (by omega)]
  | succ d ih =>
    intro k i h0 h1 hd hk
    obtain ⟨k, rfl⟩ : ∃ m, k = m + 1 := ⟨k - 1, by omega⟩
    have hr := hB _ (rq_mem (l := a) h0 (by omega))
    rw [laws_eqIntSS.l0, if_pos (by omega), if_pos h0, if_pos (by omega), eqIntS k _ _ (by omega) (by omega), Option.bind_some, decide_eq_true rfl, if_pos rfl, w64 (by omega) (by omega)]
    exact ih k (i + 1) (by omega) (by omega) (by omega) (by omega)
theorem eqqIntSS (k : Nat) (a : List (List Int)) (ha : a.length ≤ 1048576) (hB : ∀ r ∈ a, r.length ≤ 1048576) (hk : a.length + 1048577 < k) : laws_eqIntSS.f k a a = some true := by
  unfold laws_eqIntSS.f
  rw [if_pos rfl]
  exact eqqIntSS_go a ha hB a.length k 0 (by omega) (by omega) (by omega) hk
theorem sz_row (r : List Int) (t : Int) (hr : r.length ≤ 9223372036854775807) (t0 : 0 ≤ t) (t1 : t ≤ 1048576) : ∃ s, laws_szIntS.f r t = some s ∧ s ≤ 1048576 ∧ (0 ≤ s → r.length ≤ 1048576) := by
  unfold laws_szIntS.f
  rw [w64 (by omega) (by omega)]
  by_cases z : t - (r.length : Int) < 0
  · rw [if_pos z]
    exact ⟨-1, rfl, by omega, fun y => absurd y (by omega)⟩
  · rw [if_neg z]
    exact ⟨_, rfl, by omega, fun _ => by omega⟩
theorem sz_go (l : List (List Int)) (hl : l.length ≤ 1048576) (hr : ∀ r ∈ l, r.length ≤ 9223372036854775807) : ∀ (d : Nat) (t i : Int), 0 ≤ i → (l.length : Int) - i = d → 0 ≤ t → t ≤ 1048576 → ∃ s, (∀ k, d < k → laws_szIntSS.l0 k l t i = some s) ∧ (0 ≤ s → ∀ j : Int, i ≤ j → j < (l.length : Int) → (rd_L1 l j).length ≤ 1048576)
  | 0, t, i, h0, hd, t0, t1 => ⟨t, fun k hk => by
      obtain ⟨k, rfl⟩ : ∃ m, k = m + 1 := ⟨k - 1, by omega⟩
      rw [laws_szIntSS.l0, if_neg (by omega)], fun _ j j0 j1 => absurd j1 (by omega)⟩
  | d + 1, t, i, h0, hd, t0, t1 => by
    obtain ⟨s, e1, e2, e3⟩ := sz_row (rd_L1 l i) t (hr _ (rq_mem h0 (by omega))) t0 t1
    by_cases z : s < 0
    · refine ⟨-1, fun k hk => ?_, fun y => absurd y (by omega)⟩
      obtain ⟨k, rfl⟩ : ∃ m, k = m + 1 := ⟨k - 1, by omega⟩
      rw [laws_szIntSS.l0, if_pos (by omega), if_pos h0, e1, Option.bind_some, if_pos z]
    · obtain ⟨s2, f1, f2⟩ := sz_go l hl hr d s (i + 1) (by omega) (by omega) (by omega) e2
      refine ⟨s2, fun k hk => ?_, fun y j j0 j1 => ?_⟩
      · obtain ⟨k, rfl⟩ : ∃ m, k = m + 1 := ⟨k - 1, by omega⟩
        rw [laws_szIntSS.l0, if_pos (by omega), if_pos h0, e1, Option.bind_some, if_neg z, w64 (by omega) (by omega)]
        exact f1 k (by omega)
      · by_cases q : j = i
        · subst q
          exact e3 (by omega)
        · exact f2 y j (by omega) j1
theorem szIntSS (l : List (List Int)) (hl : l.length ≤ 9223372036854775807) (hr : ∀ r ∈ l, r.length ≤ 9223372036854775807) : ∃ s, (∀ k, 1048576 < k → laws_szIntSS.f k l 1048576 = some s) ∧ (0 ≤ s → l.length ≤ 1048576 ∧ ∀ r ∈ l, r.length ≤ 1048576) := by
  unfold laws_szIntSS.f
  rw [w64 (by omega) (by omega)]
  by_cases z : (1048576 : Int) - (l.length : Int) < 0
  · simp only [if_pos z]
    exact ⟨-1, fun k _ => rfl, fun y => absurd y (by omega)⟩
  · simp only [if_neg z]
    obtain ⟨s, e1, e2⟩ := sz_go l (by omega) hr l.length (1048576 - (l.length : Int)) 0 (Int.le_refl _) (by omega) (by omega) (by omega)
    refine ⟨s, fun k hk => e1 k (by omega), fun y => ⟨by omega, fun r hr' => ?_⟩⟩
    obtain ⟨n, hn, rfl⟩ := List.getElem_of_mem hr'
    have := e2 y (n : Int) (by omega) (by omega)
    rw [rq_get (by omega) (by omega)] at this
    simpa using this
end Go.Proofs.Ytnipocpbpcaepaa.L
