/- Arches: what ArchesOk computes, and turned arches. -/
import Derived.Test.YtkkjlbpffcdlfaaXcgrid
import Derived.Test.YtkkjlbpffcdlfaaXimplArchesOk
import Derived.Test.YtkkjlbpffcdlfaaXimplTurnArches
import Derived.Test.YtkkjlbpffcdlfaaXimplnoCross
import Derived.Test.YtkkjlbpffcdlfaaXspecArchesOk
import Derived.Test.YtkkjlbpffcdlfaaLCross
namespace Go.Proofs.Ytkkjlbpffcdlfaa.L
open Go.RowKit Go.Proofs.Ytkkjlbpffcdlfaa.X Go.Proofs.YtkkjlbpffcdlfaaW.PrintWords Go.Proofs.YtkkjlbpffcdlfaaW.PrintLast Go.Proofs.YtkkjlbpffcdlfaaW.PrintMore
set_option linter.unusedSimpArgs false
set_option linter.unusedVariables false

theorem sInA (a b c : Int) : spec_l01In.f a b c = some (decide (b ≤ a ∧ a ≤ c)) := by
  unfold spec_l01In.f
  by_cases h : a ≥ b <;> simp [h]
def arc (l : List Int) (j : Int) : Prop := 0 ≤ rd l j ∧ rd l j < (l.length : Int) ∧ rd l j ≠ j ∧ rd l (rd l j) = j
def pr (l : List Int) (j : Int) : List Int := [j, rd l j]
def free (p : Int → List Int) (i : Int) : Prop := AllFrom (fun j => crossP (p i) (p j) = false) 0 i
open Classical in
noncomputable def archesOk (l : List Int) : Bool := decide ((l.length % 2 = 0 ∧ 2 ≤ l.length ∧ l.length ≤ 10) ∧ AllFrom (arc l) 0 l.length ∧ AllFrom (free (pr l)) 0 l.length)
open Classical in
theorem archesOk_parts {l : List Int} (h : archesOk l = true) : (l.length % 2 = 0 ∧ 2 ≤ l.length ∧ l.length ≤ 10) ∧ AllFrom (arc l) 0 l.length ∧ AllFrom (free (pr l)) 0 l.length := by
  unfold archesOk at h
  exact of_decide_eq_true h
open Classical in
theorem archesOk_mk {l : List Int} (h : (l.length % 2 = 0 ∧ 2 ≤ l.length ∧ l.length ≤ 10) ∧ AllFrom (arc l) 0 l.length ∧ AllFrom (free (pr l)) 0 l.length) : archesOk l = true := by
  unfold archesOk
  exact decide_eq_true h
theorem at_L1_take {x : List (List Int)} {i j : Int} (h0 : 0 ≤ j) (h1 : j < i) : rd_L1 (x.take i.toNat) j = rd_L1 x j := by
  unfold rd_L1
  rw [List.getD_eq_getElem?_getD, List.getD_eq_getElem?_getD, List.getElem?_take, if_pos (by omega)]

open Classical in
theorem noCross_in (x0 : List (List Int)) (x4 y : List (List Int)) (c : List Int) (x8 x9 : Int) (r : Option Bool) (K : Nat) (hK : ∀ k, K ≤ k → impl_noCross.l0 k x0 x4 x8 (x9 + 1) = r) (h9 : 0 ≤ x9 ∧ x9 ≤ 1000) (hy : y.length ≤ 1000) :
    ∀ (d k : Nat) (j : Int), 0 ≤ j → j ≤ (y.length : Int) → (y.length : Int) - j = d → K + d + 1 ≤ k →
    impl_noCross.l1 k x0 c x4 x8 x9 y (y.length : Int) j = if AllFrom (fun j => crossP c (rd_L1 y j) = false) j (y.length : Int) then r else some false := by
  intro d
  induction d with
  | zero =>
    intro k j h0 h1 hd hk
    obtain ⟨k, rfl⟩ : ∃ m, k = m + 1 := ⟨k - 1, by omega⟩
    rw [if_pos (allFrom_end (by omega))]
    simp only [impl_noCross.l1]
    rw [if_neg (by omega), w64 (by omega) (by omega), hK k (by omega)]
  | succ d ih =>
    intro k j h0 h1 hd hk
    obtain ⟨k, rfl⟩ : ∃ m, k = m + 1 := ⟨k - 1, by omega⟩
    simp only [impl_noCross.l1]
    rw [if_pos (by omega), if_pos h0, if_pos (by omega), iCrossPairs, w64 (by omega) (by omega)]
    simp only [Option.bind_some]
    rw [ih k (j + 1) (by omega) (by omega) (by omega) (by omega)]
    simp only [allFrom_step (i := j) (n := (y.length : Int)) (by omega)]
    cases hc : crossP c (rd_L1 y j) <;> simp
open Classical in
theorem noCross_go (x : List (List Int)) (hx : x.length ≤ 10) : ∀ (d k : Nat) (i : Int), 0 ≤ i → i ≤ (x.length : Int) → (x.length : Int) - i = d → 12 * d + 1 ≤ k →
    impl_noCross.l0 k x x (x.length : Int) i = some (decide (AllFrom (free (rd_L1 x)) i (x.length : Int))) := by
  intro d
  induction d with
  | zero =>
    intro k i h0 h1 hd hk
    obtain ⟨k, rfl⟩ : ∃ m, k = m + 1 := ⟨k - 1, by omega⟩
    simp only [impl_noCross.l0]
    rw [if_neg (by omega)]
    simp only [allFrom_end (P := free (rd_L1 x)) (i := i) (n := (x.length : Int)) (by omega), decide_true]
  | succ d ih =>
    intro k i h0 h1 hd hk
    obtain ⟨k, rfl⟩ : ∃ m, k = m + 1 := ⟨k - 1, by omega⟩
    simp only [impl_noCross.l0]
    rw [if_pos (by omega), if_pos h0, if_pos (by omega), if_pos (by omega)]
    simp only [Option.bind_some]
    have hl : (x.take i.toNat).length = i.toNat := by rw [List.length_take]; omega
    rw [noCross_in x x (x.take i.toNat) (rd_L1 x i) (x.length : Int) i _ (12 * d + 1) (fun k hk => ih k (i + 1) (by omega) (by omega) (by omega) hk) ⟨h0, by omega⟩ (by omega) i.toNat k 0 (by omega) (by omega) (by omega) (by omega)]
    simp only [allFrom_step (P := free (rd_L1 x)) (i := i) (n := (x.length : Int)) (by omega)]
    have e : AllFrom (fun j => crossP (rd_L1 x i) (rd_L1 (x.take i.toNat) j) = false) 0 ((x.take i.toNat).length : Int) ↔ free (rd_L1 x) i := by
      rw [hl, show (i.toNat : Int) = i by omega]
      unfold free AllFrom
      constructor
      · exact fun z j a b => by have := z j a b; simp only [at_L1_take a b] at this; exact this
      · exact fun z j a b => by simp only [at_L1_take a b]; exact z j a b
    simp only [e]
    by_cases h : free (rd_L1 x) i <;> simp [h]
open Classical in
theorem iNoCross (k : Nat) (x : List (List Int)) (hx : x.length ≤ 10) (hk : 121 ≤ k) : impl_noCross.f k x = some (decide (AllFrom (free (rd_L1 x)) 0 (x.length : Int))) := by
  unfold impl_noCross.f
  exact noCross_go x hx x.length k 0 (by omega) (by omega) (by omega) (by omega)
/-- The pairs of the first points. -/
def prs (l : List Int) (i : Int) : List (List Int) := (List.range i.toNat).map fun (j : Nat) => pr l j
theorem prs_length (l : List Int) (i : Int) : (prs l i).length = i.toNat := by simp [prs]
theorem prs_at {l : List Int} {i j : Int} (h0 : 0 ≤ j) (h1 : j < i) : rd_L1 (prs l i) j = pr l j := by
  unfold rd_L1 prs
  rw [List.getD_eq_getElem?_getD, List.getElem?_map, List.getElem?_range (by omega)]
  simp only [Option.map_some, Option.getD_some]
  rw [show ((j.toNat : Nat) : Int) = j by omega]
theorem prs_succ {l : List Int} {i : Int} (h0 : 0 ≤ i) : prs l (i + 1) = prs l i ++ [[i, rd l i]] := by
  unfold prs
  rw [show (i + 1).toNat = i.toNat + 1 by omega, List.range_succ, List.map_append]
  simp only [List.map_cons, List.map_nil, pr, show ((i.toNat : Nat) : Int) = i by omega]
theorem free_prs {l : List Int} {n : Int} (h0 : 0 ≤ n) : AllFrom (free (rd_L1 (prs l n))) 0 ((prs l n).length : Int) ↔ AllFrom (free (pr l)) 0 n := by
  rw [prs_length, show (n.toNat : Int) = n by omega]
  constructor
  · intro z i a b j c d
    have := z i a b j c d
    simp only [prs_at a b, prs_at c (show j < n by omega)] at this
    exact this
  · intro z i a b j c d
    simp only [prs_at a b, prs_at c (show j < n by omega)]
    exact z i a b j c d
open Classical in
theorem iArchesOk_go (l : List Int) (hl : l.length ≤ 10) : ∀ (d k : Nat) (i : Int), 0 ≤ i → i ≤ (l.length : Int) → (l.length : Int) - i = d → 125 + d ≤ k →
    impl_ArchesOk.l0 k l (prs l i) l (l.length : Int) i = some (decide (AllFrom (arc l) i l.length ∧ AllFrom (free (pr l)) 0 l.length)) := by
  intro d
  induction d with
  | zero =>
    intro k i h0 h1 hd hk
    obtain ⟨k, rfl⟩ : ∃ m, k = m + 1 := ⟨k - 1, by omega⟩
    obtain rfl : i = (l.length : Int) := by omega
    simp only [impl_ArchesOk.l0]
    rw [if_neg (by omega), iNoCross k _ (by rw [prs_length]; omega) (by omega)]
    simp only [Option.bind_some, free_prs (l := l) h0, allFrom_end (P := arc l) (Int.le_refl (l.length : Int)), true_and]
  | succ d ih =>
    intro k i h0 h1 hd hk
    obtain ⟨k, rfl⟩ : ∃ m, k = m + 1 := ⟨k - 1, by omega⟩
    simp only [impl_ArchesOk.l0]
    rw [if_pos (by omega), if_pos h0, if_pos (by omega), ← prs_succ h0, w64 (by omega) (by omega), ih k (i + 1) (by omega) (by omega) (by omega) (by omega), prs_length]
    simp only [allFrom_step (P := arc l) (i := i) (n := (l.length : Int)) (by omega)]
    by_cases a : rd l i < 0
    · rw [if_pos a]
      have : ¬ arc l i := fun z => by have := z.1; omega
      simp [this]
    · rw [if_neg a]
      by_cases b : rd l i ≥ (l.length : Int)
      · rw [if_pos b]
        have : ¬ arc l i := fun z => by have := z.2.1; omega
        simp [this]
      · rw [if_neg b]
        by_cases c : rd l i = i
        · rw [if_pos c]
          have : ¬ arc l i := fun z => z.2.2.1 c
          simp [this]
        · rw [if_neg c, if_pos (by omega), if_pos (by omega)]
          by_cases e : rd l (rd l i) = i
          · rw [if_pos e, if_pos (by omega)]
            have : arc l i := ⟨by omega, by omega, c, e⟩
            simp [this]
          · rw [if_neg e]
            have : ¬ arc l i := fun z => e z.2.2.2
            simp [this]
open Classical in
theorem iArchesOk (k : Nat) (l : List Int) (hl : l.length ≤ 140737488355328) (hk : 140 ≤ k) : impl_ArchesOk.f k l = some (archesOk l) := by
  obtain ⟨k, rfl⟩ : ∃ m, k = m + 1 := ⟨k - 1, by omega⟩
  have hp : prs l 0 = [] := by simp [prs]
  unfold impl_ArchesOk.f archesOk
  simp only [impl_ArchesOk.j0]
  by_cases a : ((l.length : Int) % 2) = 0
  · rw [if_pos a]
    by_cases b : (l.length : Int) < 2
    · rw [if_pos b]
      have : ¬ (l.length % 2 = 0 ∧ 2 ≤ l.length ∧ l.length ≤ 10) := by omega
      simp [this]
    · rw [if_neg b]
      by_cases c : (l.length : Int) > 10
      · have : ¬ (l.length % 2 = 0 ∧ 2 ≤ l.length ∧ l.length ≤ 10) := by omega
        simp [this, c]
      · rw [if_neg (by simpa using c), ← hp, iArchesOk_go l (by omega) l.length k 0 (by omega) (by omega) (by omega) (by omega)]
        have : (l.length % 2 = 0 ∧ 2 ≤ l.length ∧ l.length ≤ 10) := by omega
        simp only [this, and_self, true_and]
  · rw [if_neg a]
    have : ¬ (l.length % 2 = 0 ∧ 2 ≤ l.length ∧ l.length ≤ 10) := by omega
    simp [this]
open Classical in
theorem sArches_in (l : List Int) (n i : Int) (r : Option Bool) (K : Nat) (hK6 : 6 ≤ K) (hK : ∀ k, K ≤ k → spec_ArchesOk.l1 k l n (i + 1) = r) (h0 : 0 ≤ i) (h1 : i < (l.length : Int)) (hl : l.length ≤ 10) :
    ∀ (d k : Nat) (j : Int), 0 ≤ j → j ≤ i → i - j = d → K + d + 1 ≤ k →
    spec_ArchesOk.l2 k l n i j = if AllFrom (fun j => crossP (pr l i) (pr l j) = false) j i then r else some false := by
  intro d
  induction d with
  | zero =>
    intro k j hj0 hj1 hd hk
    obtain ⟨k, rfl⟩ : ∃ m, k = m + 1 := ⟨k - 1, by omega⟩
    rw [if_pos (allFrom_end (by omega))]
    simp only [spec_ArchesOk.l2]
    rw [if_neg (by omega), w64 (by omega) (by omega), hK k (by omega)]
  | succ d ih =>
    intro k j hj0 hj1 hd hk
    obtain ⟨k, rfl⟩ : ∃ m, k = m + 1 := ⟨k - 1, by omega⟩
    simp only [spec_ArchesOk.l2]
    rw [if_pos (by omega), if_pos h0, if_pos h1, if_pos hj0, if_pos (by omega), sCrossPairs k _ _ (by omega), w64 (by omega) (by omega)]
    simp only [Option.bind_some]
    rw [ih k (j + 1) (by omega) (by omega) (by omega) (by omega)]
    simp only [allFrom_step (i := j) (n := i) (show j < i by omega)]
    rw [show ([i, rd l i] : List Int) = pr l i from rfl, show ([j, rd l j] : List Int) = pr l j from rfl]
    cases hc : crossP (pr l i) (pr l j) <;> simp
open Classical in
theorem sArches_pairs (l : List Int) (hl : l.length ≤ 10) : ∀ (d k : Nat) (i : Int), 0 ≤ i → i ≤ (l.length : Int) → (l.length : Int) - i = d → 12 * d + 7 ≤ k →
    spec_ArchesOk.l1 k l (l.length : Int) i = some (decide (AllFrom (free (pr l)) i l.length)) := by
  intro d
  induction d with
  | zero =>
    intro k i h0 h1 hd hk
    obtain ⟨k, rfl⟩ : ∃ m, k = m + 1 := ⟨k - 1, by omega⟩
    simp only [spec_ArchesOk.l1]
    rw [if_neg (by omega)]
    simp only [allFrom_end (P := free (pr l)) (i := i) (n := (l.length : Int)) (by omega), decide_true]
  | succ d ih =>
    intro k i h0 h1 hd hk
    obtain ⟨k, rfl⟩ : ∃ m, k = m + 1 := ⟨k - 1, by omega⟩
    simp only [spec_ArchesOk.l1]
    rw [if_pos (by omega), sArches_in l (l.length : Int) i _ (12 * d + 7) (by omega) (fun k hk => ih k (i + 1) (by omega) (by omega) (by omega) hk) h0 (by omega) hl i.toNat k 0 (by omega) (by omega) (by omega) (by omega)]
    simp only [allFrom_step (P := free (pr l)) (i := i) (n := (l.length : Int)) (by omega)]
    by_cases h : AllFrom (fun j => crossP (pr l i) (pr l j) = false) 0 i
    · rw [if_pos h]
      have : free (pr l) i := h
      simp [this]
    · rw [if_neg h]
      have : ¬ free (pr l) i := h
      simp [this]
open Classical in
theorem sArches_go (l : List Int) (hl : l.length ≤ 10) : ∀ (d k : Nat) (i : Int), 0 ≤ i → i ≤ (l.length : Int) → (l.length : Int) - i = d → 130 + d ≤ k →
    spec_ArchesOk.l0 k l (l.length : Int) i = some (decide (AllFrom (arc l) i l.length ∧ AllFrom (free (pr l)) 0 l.length)) := by
  intro d
  induction d with
  | zero =>
    intro k i h0 h1 hd hk
    obtain ⟨k, rfl⟩ : ∃ m, k = m + 1 := ⟨k - 1, by omega⟩
    simp only [spec_ArchesOk.l0]
    rw [if_neg (by omega), sArches_pairs l hl l.length k 0 (by omega) (by omega) (by omega) (by omega)]
    simp only [allFrom_end (P := arc l) (i := i) (n := (l.length : Int)) (by omega), true_and]
  | succ d ih =>
    intro k i h0 h1 hd hk
    obtain ⟨k, rfl⟩ : ∃ m, k = m + 1 := ⟨k - 1, by omega⟩
    simp only [spec_ArchesOk.l0]
    rw [if_pos (by omega), if_pos h0, if_pos (by omega), sInA, w64 (by omega) (by omega), w64 (by omega) (by omega), ih k (i + 1) (by omega) (by omega) (by omega) (by omega)]
    simp only [allFrom_step (P := arc l) (i := i) (n := (l.length : Int)) (by omega), Option.bind_some, decide_eq_true_eq]
    by_cases a : 0 ≤ rd l i ∧ rd l i ≤ (l.length : Int) - 1
    · rw [if_pos a]
      by_cases c : rd l i = i
      · rw [if_pos c]
        have : ¬ arc l i := fun z => z.2.2.1 c
        simp [this]
      · rw [if_neg c, if_pos a.1, if_pos (by omega)]
        by_cases e : rd l (rd l i) = i
        · rw [if_pos e]
          have : arc l i := ⟨a.1, by omega, c, e⟩
          simp [this]
        · rw [if_neg e]
          have : ¬ arc l i := fun z => e z.2.2.2
          simp [this]
    · rw [if_neg a]
      have : ¬ arc l i := fun z => a ⟨z.1, by have := z.2.1; omega⟩
      simp [this]
open Classical in
theorem sArchesOk (k : Nat) (l : List Int) (hl : l.length ≤ 140737488355328) (hk : 145 ≤ k) : spec_ArchesOk.f k l = some (archesOk l) := by
  obtain ⟨k, rfl⟩ : ∃ m, k = m + 1 := ⟨k - 1, by omega⟩
  unfold spec_ArchesOk.f archesOk
  simp only [spec_ArchesOk.j0]
  by_cases a : ((l.length : Int) % 2) = 0
  · rw [if_pos a, w64 (by omega) (by omega), sInA]
    simp only [Option.bind_some]
    by_cases c : 1 ≤ (l.length : Int) / 2 ∧ (l.length : Int) / 2 ≤ 5
    · rw [if_neg (by simp [c]), sArches_go l (by omega) l.length k 0 (by omega) (by omega) (by omega) (by omega)]
      have : (l.length % 2 = 0 ∧ 2 ≤ l.length ∧ l.length ≤ 10) := by omega
      simp only [this, and_self, true_and]
    · rw [if_pos (by simp only [c, decide_false, Bool.not_false])]
      have : ¬ (l.length % 2 = 0 ∧ 2 ≤ l.length ∧ l.length ≤ 10) := by omega
      simp [this]
  · rw [if_neg a]
    have : ¬ (l.length % 2 = 0 ∧ 2 ≤ l.length ∧ l.length ≤ 10) := by omega
    simp [this]
theorem arches_at {l : List Int} (h : archesOk l = true) {j : Int} (h0 : 0 ≤ j) (h1 : j < (l.length : Int)) : arc l j := (archesOk_parts h).2.1 j h0 h1
/-- Seen from behind: in reverse order, each number taken from the last one. -/
def turnArches (l : List Int) : List Int := (l.map fun x => (l.length : Int) - 1 - x).reverse
theorem turnArches_length (l : List Int) : (turnArches l).length = l.length := by simp [turnArches]
theorem take_snocA {l : List Int} {i : Int} (h0 : 0 ≤ i) (h1 : i < (l.length : Int)) : l.take (i + 1).toNat = l.take i.toNat ++ [rd l i] := by
  rw [rd_get h0 h1, show (i + 1).toNat = i.toNat + 1 by omega, List.take_succ_eq_append_getElem (by omega)]
theorem iTurnArches_go (l : List Int) (hl : l.length ≤ 10) (hr : ∀ j, 0 ≤ j → j < (l.length : Int) → 0 ≤ rd l j ∧ rd l j < (l.length : Int)) : ∀ (d k : Nat) (acc : List Int) (i : Int), i + 1 = d → i < (l.length : Int) → d < k → acc.length + d ≤ 20 →
    impl_TurnArches.l0 k l acc i = some (acc ++ ((l.take d).map fun x => (l.length : Int) - 1 - x).reverse) := by
  intro d
  induction d with
  | zero =>
    intro k acc i hi h1 hk ha
    obtain ⟨k, rfl⟩ := kpos hk
    simp only [impl_TurnArches.l0]
    rw [if_neg (by omega)]
    simp
  | succ d ih =>
    intro k acc i hi h1 hk ha
    obtain ⟨k, rfl⟩ := kpos hk
    have h0 : 0 ≤ i := by omega
    have hv := hr i h0 h1
    simp only [impl_TurnArches.l0]
    rw [if_pos (by omega), if_pos h0, if_pos h1, if_pos (by omega), w64 (x := (l.length : Int) - 1) (by omega) (by omega), w64 (by omega) (by omega), w64 (by omega) (by omega), ih k _ (i - 1) (by omega) (by omega) (by omega) (by simp; omega)]
    have e : l.take (d + 1) = l.take d ++ [rd l i] := by
      have := take_snocA h0 h1
      rw [show (i + 1).toNat = d + 1 by omega, show i.toNat = d by omega] at this
      exact this
    rw [e]
    simp
theorem iTurnArches (k : Nat) (l : List Int) (hl : l.length ≤ 140737488355328) (hk : 140 ≤ k) : impl_TurnArches.f k l = some (if archesOk l = true then turnArches l else []) := by
  unfold impl_TurnArches.f
  rw [iArchesOk k l hl hk]
  simp only [Option.bind_some]
  by_cases h : archesOk l = true
  · have h9 := (archesOk_parts h).1
    rw [if_pos h, if_pos h, w64 (by omega) (by omega), iTurnArches_go l h9.2.2 (fun j h0 h1 => ⟨(arches_at h h0 h1).1, (arches_at h h0 h1).2.1⟩) l.length k [] _ (by omega) (by omega) (by omega) (by simp; omega)]
    simp [turnArches]
  · rw [if_neg h, if_neg h]
end Go.Proofs.Ytkkjlbpffcdlfaa.L
