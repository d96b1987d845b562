/- Labyrinths: pairs of steps, crossings, and what IsLabyrinth computes on both sides. -/
import Derived.Test.YtekgbinadmjapabXimplIsLabyrinth
import Derived.Test.YtekgbinadmjapabXimplStepPairs
import Derived.Test.YtekgbinadmjapabXimplnoCross
import Derived.Test.YtekgbinadmjapabXspecIsLabyrinth
import Derived.Test.YtekgbinadmjapabXspecStepPairs
import Derived.Test.YtekgbinadmjapabLCircuits
import Derived.Test.YtekgbinadmjapabLCross
namespace Go.Proofs.Ytekgbinadmjapab.L
open Go.RowKit Go.Proofs.Ytekgbinadmjapab.X Go.Proofs.YtekgbinadmjapabW.PrintWords Go.Proofs.YtekgbinadmjapabW.PrintLast Go.Proofs.YtekgbinadmjapabW.PrintMore
set_option linter.unusedSimpArgs false
set_option linter.unusedVariables false

/-- The way through a labyrinth: from outside to the middle. -/
def way (l : List Int) : List Int := ([0] ++ l) ++ [wrap64 ((l.length : Int) + 1)]
def pr (w : List Int) (i : Int) : List Int := [mn (rd w i) (rd w (i + 1)), mx (rd w i) (rd w (i + 1))]
def prs (w : List Int) : Nat → Int → List (List Int)
  | 0, _ => []
  | n + 1, i => if i + 1 < (w.length : Int) then pr w i :: prs w n (i + 2) else []
theorem way_length (l : List Int) : (way l).length = l.length + 2 := by simp [way]
theorem prs_end (w : List Int) : ∀ (n : Nat) (i : Int), (w.length : Int) ≤ i + 1 → prs w n i = []
  | 0, _, _ => rfl
  | n + 1, i, h => by unfold prs; rw [if_neg (by omega)]
theorem iPairs_go (w : List Int) (hw : w.length ≤ 100) : ∀ (n k : Nat) (acc : List (List Int)) (i : Int), 0 ≤ i → i ≤ 200 → (w.length : Int) - i ≤ n → n < k → acc.length + n ≤ 1000 →
    impl_StepPairs.l0 k w acc i = some (acc ++ prs w n i) := by
  intro n
  induction n with
  | zero =>
    intro k acc i h0 h2 h1 hk ha
    obtain ⟨k, rfl⟩ := kpos hk
    unfold impl_StepPairs.l0
    rw [w64 (by omega) (by omega), if_neg (by omega)]
    simp [prs]
  | succ n ih =>
    intro k acc i h0 h2 h1 hk ha
    obtain ⟨k, rfl⟩ := kpos hk
    unfold impl_StepPairs.l0
    rw [w64 (x := (w.length : Int) - 1) (by omega) (by omega)]
    by_cases c : i < (w.length : Int) - 1
    · rw [if_pos c, if_pos h0, if_pos (by omega), w64 (x := i + 1) (by omega) (by omega), if_pos (by omega), if_pos (by omega), if_pos (by omega), w64 (x := i + 2) (by omega) (by omega), ih k _ (i + 2) (by omega) (by omega) (by omega) (by omega) (by simp; omega)]
      rw [show prs w (n + 1) i = pr w i :: prs w n (i + 2) from by unfold prs; rw [if_pos (by omega)]; cases n <;> rfl]
      simp [pr]
    · rw [if_neg c, prs_end w _ i (by omega)]
      simp
theorem sPairs_go (w : List Int) (hw : w.length ≤ 100) : ∀ (n k : Nat) (acc : List (List Int)) (i : Int), 0 ≤ i → i ≤ 200 → (w.length : Int) - i ≤ n → n < k → acc.length + n ≤ 1000 →
    spec_StepPairs.l0 k acc w i = some (acc ++ prs w n i) := by
  intro n
  induction n with
  | zero =>
    intro k acc i h0 h2 h1 hk ha
    obtain ⟨k, rfl⟩ := kpos hk
    unfold spec_StepPairs.l0
    rw [w64 (by omega) (by omega), if_neg (by omega)]
    simp [prs]
  | succ n ih =>
    intro k acc i h0 h2 h1 hk ha
    obtain ⟨k, rfl⟩ := kpos hk
    unfold spec_StepPairs.l0
    rw [w64 (x := i + 1) (by omega) (by omega)]
    by_cases c : i + 1 < (w.length : Int)
    · rw [if_pos c, if_pos h0, if_pos (by omega), if_pos (by omega), if_pos (by omega), w64 (x := i + 2) (by omega) (by omega), ih k _ (i + 2) (by omega) (by omega) (by omega) (by omega) (by simp; omega)]
      rw [show prs w (n + 1) i = pr w i :: prs w n (i + 2) from by unfold prs; rw [if_pos c]; cases n <;> rfl]
      simp [pr]
    · rw [if_neg c, prs_end w _ i (by omega)]
      simp
def pairs (l : List Int) (s : Int) : List (List Int) := prs (way l) (l.length + 2) s
theorem iPairs (k : Nat) (l : List Int) (s : Int) (hc : circuitsOk l = true) (hs : s = 0 ∨ s = 1) (hk : 40 ≤ k) : impl_StepPairs.f k l s = some (pairs l s) := by
  have hl := circuits_len hc
  obtain ⟨k, rfl⟩ : ∃ m, k = m + 1 := ⟨k - 1, by omega⟩
  have hj : impl_StepPairs.j0 (k + 1) l s false = some (pairs l s) := by
    simp only [impl_StepPairs.j0, Bool.false_eq_true, if_false, Option.bind_some]
    rw [if_pos (by simp; omega)]
    rw [if_pos (by simp; omega)]
    have := iPairs_go (way l) (by rw [way_length]; omega) (l.length + 2) k [] s (by omega) (by omega) (by rw [way_length]; omega) (by omega) (by simp; omega)
    rw [List.nil_append] at this
    exact this
  unfold impl_StepPairs.f
  rw [iCircuitsOk (k + 1) l (by omega) (by omega), hc]
  simp only [Option.bind_some, if_true]
  rcases hs with rfl | rfl
  · rw [if_pos rfl, hj]
  · rw [if_neg (by omega)]
    exact hj
theorem sPairs (k : Nat) (l : List Int) (s : Int) (hc : circuitsOk l = true) (hs : s = 0 ∨ s = 1) (hk : 40 ≤ k) : spec_StepPairs.f k l s = some (pairs l s) := by
  have hl := circuits_len hc
  obtain ⟨k, rfl⟩ : ∃ m, k = m + 1 := ⟨k - 1, by omega⟩
  unfold spec_StepPairs.f
  rw [sCircuitsOk (k + 1) l (by omega) (by omega), hc]
  simp only [Option.bind_some, if_true]
  rw [sIn' s 0 1, decide_eq_true (by omega)]
  simp only [Option.bind_some, Bool.not_true, spec_StepPairs.j0, Bool.false_eq_true, if_false]
  rw [if_pos (by simp; omega)]
  rw [if_pos (by simp; omega)]
  have := sPairs_go (way l) (by rw [way_length]; omega) (l.length + 2) k [] s (by omega) (by omega) (by rw [way_length]; omega) (by omega) (by simp; omega)
  rw [List.nil_append] at this
  exact this
theorem prs_length (w : List Int) : ∀ (n : Nat) (i : Int), (prs w n i).length ≤ n
  | 0, _ => by simp [prs]
  | n + 1, i => by
    have := prs_length w n (i + 2)
    unfold prs
    split <;> simp <;> omega
theorem pairs_length {l : List Int} (hc : circuitsOk l = true) (s : Int) : (pairs l s).length ≤ 11 := by
  have := circuits_len hc
  exact Nat.le_trans (prs_length _ _ _) (by omega)
/-- No two pairs cross. -/
def noQ (P : List (List Int)) (i : Int) : Prop := AllFrom (fun j => crossP (rd_L2 P i) (rd_L2 P j) = false) 0 i
def noX (P : List (List Int)) (i : Int) : Prop := AllFrom (noQ P) i P.length
theorem rd_take (P : List (List Int)) {i j : Int} (h0 : 0 ≤ j) (h1 : j < i) : rd_L2 (P.take i.toNat) j = rd_L2 P j := by
  unfold rd_L2
  rw [List.getD_eq_getElem?_getD, List.getD_eq_getElem?_getD, List.getElem?_take_of_lt (by omega)]
theorem iNo_in (P : List (List Int)) (hP : P.length ≤ 100) (i : Int) (hi0 : 0 ≤ i) (hi : i < (P.length : Int)) (B : Nat) : ∀ (d k : Nat) (j : Int), 0 ≤ j → j ≤ i → i - j = d → B + d + 1 ≤ k →
    (AllFrom (fun j => crossP (rd_L2 P i) (rd_L2 P j) = false) j i → ∀ r, (∀ K, B ≤ K → impl_noCross.l0 K P P P.length (i + 1) = some r) → impl_noCross.l1 k P (rd_L2 P i) P P.length i (P.take i.toNat) ((P.take i.toNat).length : Int) j = some r) ∧
    (¬ AllFrom (fun j => crossP (rd_L2 P i) (rd_L2 P j) = false) j i → impl_noCross.l1 k P (rd_L2 P i) P P.length i (P.take i.toNat) ((P.take i.toNat).length : Int) j = some false) := by
  have hlen : ((P.take i.toNat).length : Int) = i := by rw [List.length_take]; omega
  intro d
  induction d with
  | zero =>
    intro k j h0 h1 hd hk
    obtain ⟨k, rfl⟩ : ∃ m, k = m + 1 := ⟨k - 1, by omega⟩
    refine ⟨fun _ r hr => ?_, fun h => absurd (allFrom_end (by omega)) h⟩
    unfold impl_noCross.l1
    rw [hlen, if_neg (by omega), w64 (by omega) (by omega), hr k (by omega)]
  | succ d ih =>
    intro k j h0 h1 hd hk
    obtain ⟨k, rfl⟩ : ∃ m, k = m + 1 := ⟨k - 1, by omega⟩
    obtain ⟨ihA, ihB⟩ := ih k (j + 1) (by omega) (by omega) (by omega) (by omega)
    have e : impl_noCross.l1 (k + 1) P (rd_L2 P i) P P.length i (P.take i.toNat) ((P.take i.toNat).length : Int) j = if crossP (rd_L2 P i) (rd_L2 P j) = true then some false else impl_noCross.l1 k P (rd_L2 P i) P P.length i (P.take i.toNat) ((P.take i.toNat).length : Int) (j + 1) := by
      rw [impl_noCross.l1]
      rw [if_pos (by omega), if_pos h0, if_pos (by omega), iCrossPairs, rd_take P h0 (by omega), w64 (by omega) (by omega)]
      rfl
    rw [e, allFrom_step (by omega)]
    by_cases c : crossP (rd_L2 P i) (rd_L2 P j) = true
    · rw [if_pos c]
      exact ⟨fun h => absurd h.1 (by rw [c]; simp), fun _ => rfl⟩
    · rw [if_neg c]
      have c' : crossP (rd_L2 P i) (rd_L2 P j) = false := by simpa using c
      exact ⟨fun h r hr => ihA h.2 r hr, fun h => ihB (fun z => h ⟨c', z⟩)⟩
theorem iNo_out (P : List (List Int)) (hP : P.length ≤ 100) : ∀ (d k : Nat) (i : Int), 0 ≤ i → i ≤ (P.length : Int) → (P.length : Int) - i = d → 110 * d + 2 ≤ k →
    (noX P i → impl_noCross.l0 k P P P.length i = some true) ∧ (¬ noX P i → impl_noCross.l0 k P P P.length i = some false) := by
  intro d
  induction d with
  | zero =>
    intro k i h0 h1 hd hk
    obtain ⟨k, rfl⟩ : ∃ m, k = m + 1 := ⟨k - 1, by omega⟩
    refine ⟨fun _ => ?_, fun h => absurd (allFrom_end (by omega)) h⟩
    unfold impl_noCross.l0
    rw [if_neg (by omega)]
  | succ d ih =>
    intro k i h0 h1 hd hk
    obtain ⟨k, rfl⟩ : ∃ m, k = m + 1 := ⟨k - 1, by omega⟩
    have e : impl_noCross.l0 (k + 1) P P P.length i = impl_noCross.l1 k P (rd_L2 P i) P P.length i (P.take i.toNat) ((P.take i.toNat).length : Int) 0 := by
      rw [impl_noCross.l0]
      rw [if_pos (by omega), if_pos h0, if_pos (by omega), if_pos (by omega)]
      rfl
    have hin := iNo_in P hP i h0 (by omega) (110 * d + 2) i.toNat k 0 (by omega) h0 (by omega) (by omega)
    unfold noX
    rw [e, allFrom_step (by omega)]
    by_cases q : noQ P i
    · have q2 := hin.1 q
      constructor
      · intro h
        exact q2 true (fun K hK => (ih K (i + 1) (by omega) (by omega) (by omega) hK).1 h.2)
      · intro h
        exact q2 false (fun K hK => (ih K (i + 1) (by omega) (by omega) (by omega) hK).2 (fun z => h ⟨q, z⟩))
    · exact ⟨fun h => absurd h.1 q, fun _ => hin.2 q⟩
open Classical in
theorem iNoCross (k : Nat) (P : List (List Int)) (hP : P.length ≤ 100) (hk : 110 * P.length + 2 ≤ k) : impl_noCross.f k P = some (decide (noX P 0)) := by
  unfold impl_noCross.f
  have h := iNo_out P hP P.length k 0 (by omega) (by omega) (by omega) hk
  by_cases c : noX P 0
  · rw [h.1 c, decide_eq_true c]
  · rw [h.2 c, decide_eq_false c]
theorem prs_two (w : List Int) : ∀ (n : Nat) (i : Int), ((prs w n i).all fun x => decide (x.length = 2)) = true
  | 0, _ => rfl
  | n + 1, i => by
    have := prs_two w n (i + 2)
    unfold prs
    split
    · rw [List.all_cons, this]; rfl
    · rfl
theorem evens (l : List Int) (s : Int) : contains_even.f (pairs l s) = some ((pairs l s).any evenPair) := by
  unfold contains_even.f
  rw [if_pos (show ((pairs l s).all fun x => decide (x.length = 2)) = true from prs_two _ _ _)]
open Classical in
noncomputable def labOk (l : List Int) : Bool := circuitsOk l && ((decide (noX (pairs l 0) 0) && !(pairs l 0).any evenPair) && (decide (noX (pairs l 1) 0) && !(pairs l 1).any evenPair))
open Classical in
theorem iLab_round (k : Nat) (l : List Int) (s : Int) (hc : circuitsOk l = true) (hs : s = 0 ∨ s = 1) (hk : 1300 ≤ k) :
    impl_IsLabyrinth.l0 (k + 1) l s = if (decide (noX (pairs l s) 0) && !(pairs l s).any evenPair) = true then impl_IsLabyrinth.l0 k l (s + 1) else some false := by
  have hl := pairs_length hc s
  rw [impl_IsLabyrinth.l0]
  rw [if_pos (by omega), iPairs k l s hc hs (by omega)]
  simp only [Option.bind_some]
  rw [iNoCross k _ (by omega) (by omega)]
  simp only [Option.bind_some]
  by_cases c : noX (pairs l s) 0
  · rw [decide_eq_true c, if_pos rfl, evens, w64 (by omega) (by omega)]
    simp only [Option.bind_some, Bool.true_and]
    cases (pairs l s).any evenPair <;> rfl
  · rw [decide_eq_false c, if_neg (by simp), if_neg (by simp)]
theorem iIsLab (k : Nat) (l : List Int) (hl : l.length ≤ 2000000) (hk : 2 * l.length + 1400 ≤ k) : impl_IsLabyrinth.f k l = some (labOk l) := by
  unfold impl_IsLabyrinth.f labOk
  rw [iCircuitsOk k l (by omega) (by omega)]
  simp only [Option.bind_some]
  by_cases hc : circuitsOk l = true
  · obtain ⟨k, rfl⟩ : ∃ m, k = (m + 1 + 1) + 1 := ⟨k - 3, by omega⟩
    rw [if_pos hc, hc, Bool.true_and, iLab_round _ l 0 hc (.inl rfl) (by omega)]
    cases e0 : (@decide (noX (pairs l 0) 0) (Classical.propDecidable _) && !(pairs l 0).any evenPair) with
    | false => rw [if_neg (by simp)]; rfl
    | true =>
      rw [if_pos rfl, show ((0 : Int) + 1) = 1 from rfl, iLab_round _ l 1 hc (.inr rfl) (by omega)]
      cases e1 : (@decide (noX (pairs l 1) 0) (Classical.propDecidable _) && !(pairs l 1).any evenPair) with
      | false => rw [if_neg (by simp)]; rfl
      | true =>
        rw [if_pos rfl, impl_IsLabyrinth.l0, if_neg (by omega)]
        rfl
  · rw [if_neg hc]
    have hc' : circuitsOk l = false := by simpa using hc
    rw [hc']
    rfl
/-- The step from place i on the way is over an even number of circuits. -/
def evenAt (w : List Int) (i : Int) : Prop := Int.tmod (wrap64 (rd w (i + 1) - rd w i)) 2 = 0
theorem tmod2 (x : Int) : Int.tmod x 2 = 0 ↔ x % 2 = 0 := by rw [← Int.dvd_iff_tmod_eq_zero, Int.dvd_iff_emod_eq_zero]
theorem way_small {l : List Int} (hc : circuitsOk l = true) : ∀ x ∈ way l, 0 ≤ x ∧ x ≤ 10 := by
  have hl := circuits_len hc
  intro x hx
  unfold way at hx
  rw [w64 (by omega) (by omega)] at hx
  simp only [List.mem_append, List.mem_singleton] at hx
  rcases hx with (e | e) | e
  · omega
  · obtain ⟨n, hn, rfl⟩ := List.getElem_of_mem e
    have := circuits_at hc (j := n) (by omega) (by omega)
    rw [rd_nat hn] at this
    omega
  · omega
theorem mem_rd' {w : List Int} {i : Int} (h0 : 0 ≤ i) (h1 : i < (w.length : Int)) : rd w i ∈ w := by
  rw [rd_get h0 h1]
  exact List.getElem_mem _
theorem evenPair_pr {w : List Int} (hw : ∀ x ∈ w, 0 ≤ x ∧ x ≤ 10) {i : Int} (h0 : 0 ≤ i) (h1 : i + 1 < (w.length : Int)) : evenPair (pr w i) = true ↔ evenAt w i := by
  have ha := hw _ (mem_rd' h0 (show i < (w.length : Int) by omega))
  have hb := hw _ (mem_rd' (show 0 ≤ i + 1 by omega) h1)
  have e0 : rd (pr w i) 0 = mn (rd w i) (rd w (i + 1)) := rfl
  have e1 : rd (pr w i) 1 = mx (rd w i) (rd w (i + 1)) := rfl
  unfold evenPair evenAt
  rw [e0, e1, beq_iff_eq, tmod2, tmod2, w64 (x := rd w (i + 1) - rd w i) (by omega) (by omega)]
  unfold mx mn
  split <;> split <;> (rw [w64 (by omega) (by omega)] <;> omega)
theorem any_prs {w : List Int} (hw : ∀ x ∈ w, 0 ≤ x ∧ x ≤ 10) : ∀ (n : Nat) (i : Int), 0 ≤ i → (w.length : Int) - i ≤ n → ((prs w n i).any evenPair = true ↔ ∃ j : Nat, i + 2 * j + 1 < (w.length : Int) ∧ evenAt w (i + 2 * j))
  | 0, i, h0, h1 => by
    simp only [prs, List.any_nil]
    constructor
    · intro h; simp at h
    · rintro ⟨j, h, _⟩; omega
  | n + 1, i, h0, h1 => by
    have ih := any_prs hw n (i + 2) (by omega) (by omega)
    unfold prs
    by_cases c : i + 1 < (w.length : Int)
    · rw [if_pos c, List.any_cons, Bool.or_eq_true, ih, evenPair_pr hw h0 c]
      constructor
      · rintro (h | ⟨j, h, h2⟩)
        · exact ⟨0, by omega, by simpa using h⟩
        · exact ⟨j + 1, by omega, by rw [show i + 2 * ((j + 1 : Nat) : Int) = i + 2 + 2 * j by omega]; exact h2⟩
      · rintro ⟨j, h, h2⟩
        cases j with
        | zero => exact .inl (by simpa using h2)
        | succ j => exact .inr ⟨j, by omega, by rw [show i + 2 + 2 * (j : Int) = i + 2 * ((j + 1 : Nat) : Int) by omega]; exact h2⟩
    · rw [if_neg c]
      constructor
      · intro h; simp at h
      · rintro ⟨j, h, _⟩; omega
/-- Every step is over an odd number. -/
def odds (w : List Int) (i : Int) : Prop := AllFrom (fun i => ¬ evenAt w (i - 1)) i w.length
theorem odds_iff {l : List Int} (hc : circuitsOk l = true) : odds (way l) 1 ↔ (pairs l 0).any evenPair = false ∧ (pairs l 1).any evenPair = false := by
  have hw := way_small hc
  have h0 := any_prs hw (l.length + 2) 0 (by omega) (by rw [way_length]; omega)
  have h1 := any_prs hw (l.length + 2) 1 (by omega) (by rw [way_length]; omega)
  unfold pairs
  rw [← Bool.not_eq_true, ← Bool.not_eq_true, h0, h1]
  constructor
  · intro h
    refine ⟨?_, ?_⟩
    · rintro ⟨j, a, b⟩
      have : ¬ evenAt (way l) (2 * (j : Int) + 1 - 1) := h (2 * j + 1) (by omega) (by omega)
      rw [show (2 * (j : Int) + 1 - 1) = 0 + 2 * j by omega] at this
      exact this b
    · rintro ⟨j, a, b⟩
      have : ¬ evenAt (way l) (2 * (j : Int) + 2 - 1) := h (2 * j + 2) (by omega) (by omega)
      rw [show (2 * (j : Int) + 2 - 1) = 1 + 2 * j by omega] at this
      exact this b
  · rintro ⟨a, b⟩ i hi hil he
    by_cases c : i % 2 = 1
    · refine a ⟨((i - 1) / 2).toNat, by omega, ?_⟩
      rw [show (0 + 2 * (((i - 1) / 2).toNat : Int)) = i - 1 by omega]
      exact he
    · refine b ⟨((i - 2) / 2).toNat, by omega, ?_⟩
      rw [show (1 + 2 * (((i - 2) / 2).toNat : Int)) = i - 1 by omega]
      exact he
theorem sOdd_go (l w : List Int) (hw : w.length ≤ 100) (B : Nat) : ∀ (d k : Nat) (i : Int), 1 ≤ i → i ≤ (w.length : Int) → (w.length : Int) - i = d → B + d + 1 ≤ k →
    (odds w i → ∀ r, (∀ K, B ≤ K → spec_IsLabyrinth.l1 K l 0 = some r) → spec_IsLabyrinth.l0 k l w i = some r) ∧ (¬ odds w i → spec_IsLabyrinth.l0 k l w i = some false) := by
  intro d
  induction d with
  | zero =>
    intro k i h0 h1 hd hk
    obtain ⟨k, rfl⟩ : ∃ m, k = m + 1 := ⟨k - 1, by omega⟩
    refine ⟨fun _ r hr => ?_, fun h => absurd (allFrom_end (by omega)) h⟩
    unfold spec_IsLabyrinth.l0
    rw [if_neg (by omega), hr k (by omega)]
  | succ d ih =>
    intro k i h0 h1 hd hk
    obtain ⟨k, rfl⟩ : ∃ m, k = m + 1 := ⟨k - 1, by omega⟩
    obtain ⟨ihA, ihB⟩ := ih k (i + 1) (by omega) (by omega) (by omega) (by omega)
    unfold odds at *
    rw [allFrom_step (by omega)]
    unfold spec_IsLabyrinth.l0
    rw [if_pos (by omega), if_pos (by omega), w64 (x := i - 1) (by omega) (by omega), if_pos (by omega), if_pos (by omega), w64 (x := i + 1) (by omega) (by omega)]
    have e : evenAt w (i - 1) ↔ Int.tmod (wrap64 (rd w i - rd w (i - 1))) 2 = 0 := by
      unfold evenAt
      rw [show i - 1 + 1 = i by omega]
    by_cases c : Int.tmod (wrap64 (rd w i - rd w (i - 1))) 2 = 0
    · rw [if_pos c]
      exact ⟨fun h => absurd (e.2 c) h.1, fun _ => rfl⟩
    · rw [if_neg c]
      exact ⟨fun h r hr => ihA h.2 r hr, fun h => ihB (fun z => h ⟨fun y => c (e.1 y), z⟩)⟩
theorem sNo_in (l : List Int) (s : Int) (P : List (List Int)) (hP : P.length ≤ 100) (i : Int) (hi0 : 0 ≤ i) (hi : i < (P.length : Int)) (B : Nat) : ∀ (d k : Nat) (j : Int), 0 ≤ j → j ≤ i → i - j = d → B + d + 8 ≤ k →
    (AllFrom (fun j => crossP (rd_L2 P i) (rd_L2 P j) = false) j i → ∀ r, (∀ K, B ≤ K → spec_IsLabyrinth.l2 K l s P (i + 1) = some r) → spec_IsLabyrinth.l3 k l s P i j = some r) ∧
    (¬ AllFrom (fun j => crossP (rd_L2 P i) (rd_L2 P j) = false) j i → spec_IsLabyrinth.l3 k l s P i j = some false) := by
  intro d
  induction d with
  | zero =>
    intro k j h0 h1 hd hk
    obtain ⟨k, rfl⟩ : ∃ m, k = m + 1 := ⟨k - 1, by omega⟩
    refine ⟨fun _ r hr => ?_, fun h => absurd (allFrom_end (by omega)) h⟩
    unfold spec_IsLabyrinth.l3
    rw [if_neg (by omega), w64 (by omega) (by omega), hr k (by omega)]
  | succ d ih =>
    intro k j h0 h1 hd hk
    obtain ⟨k, rfl⟩ : ∃ m, k = m + 1 := ⟨k - 1, by omega⟩
    obtain ⟨ihA, ihB⟩ := ih k (j + 1) (by omega) (by omega) (by omega) (by omega)
    have e : spec_IsLabyrinth.l3 (k + 1) l s P i j = if crossP (rd_L2 P i) (rd_L2 P j) = true then some false else spec_IsLabyrinth.l3 k l s P i (j + 1) := by
      rw [spec_IsLabyrinth.l3]
      rw [if_pos (by omega), if_pos hi0, if_pos hi, if_pos h0, if_pos (by omega), sCrossPairs k _ _ (by omega), w64 (by omega) (by omega)]
      rfl
    rw [e, allFrom_step (by omega)]
    by_cases c : crossP (rd_L2 P i) (rd_L2 P j) = true
    · rw [if_pos c]
      exact ⟨fun h => absurd h.1 (by rw [c]; simp), fun _ => rfl⟩
    · rw [if_neg c]
      have c' : crossP (rd_L2 P i) (rd_L2 P j) = false := by simpa using c
      exact ⟨fun h r hr => ihA h.2 r hr, fun h => ihB (fun z => h ⟨c', z⟩)⟩
theorem sNo_out (l : List Int) (s : Int) (hs : s = 0 ∨ s = 1) (P : List (List Int)) (hP : P.length ≤ 100) (B : Nat) : ∀ (d k : Nat) (i : Int), 0 ≤ i → i ≤ (P.length : Int) → (P.length : Int) - i = d → B + 120 * d + 2 ≤ k →
    (noX P i → ∀ r, (∀ K, B ≤ K → spec_IsLabyrinth.l1 K l (s + 1) = some r) → spec_IsLabyrinth.l2 k l s P i = some r) ∧ (¬ noX P i → spec_IsLabyrinth.l2 k l s P i = some false) := by
  intro d
  induction d with
  | zero =>
    intro k i h0 h1 hd hk
    obtain ⟨k, rfl⟩ : ∃ m, k = m + 1 := ⟨k - 1, by omega⟩
    refine ⟨fun _ r hr => ?_, fun h => absurd (allFrom_end (by omega)) h⟩
    unfold spec_IsLabyrinth.l2
    rw [if_neg (by omega), w64 (by omega) (by omega), hr k (by omega)]
  | succ d ih =>
    intro k i h0 h1 hd hk
    obtain ⟨k, rfl⟩ : ∃ m, k = m + 1 := ⟨k - 1, by omega⟩
    have e : spec_IsLabyrinth.l2 (k + 1) l s P i = spec_IsLabyrinth.l3 k l s P i 0 := by
      rw [spec_IsLabyrinth.l2]
      rw [if_pos (by omega)]
    have hin := sNo_in l s P hP i h0 (by omega) (B + 120 * d + 2) i.toNat k 0 (by omega) h0 (by omega) (by omega)
    unfold noX
    rw [e, allFrom_step (by omega)]
    by_cases q : noQ P i
    · have q2 := hin.1 q
      constructor
      · intro h r hr
        exact q2 r (fun K hK => (ih K (i + 1) (by omega) (by omega) (by omega) hK).1 h.2 r hr)
      · intro h
        exact q2 false (fun K hK => (ih K (i + 1) (by omega) (by omega) (by omega) hK).2 (fun z => h ⟨q, z⟩))
    · exact ⟨fun h => absurd h.1 q, fun _ => hin.2 q⟩
theorem sLab_round (l : List Int) (s : Int) (hc : circuitsOk l = true) (hs : s = 0 ∨ s = 1) (B k : Nat) (hB : 50 ≤ B) (hk : B + 1400 ≤ k) :
    (noX (pairs l s) 0 → ∀ r, (∀ K, B ≤ K → spec_IsLabyrinth.l1 K l (s + 1) = some r) → spec_IsLabyrinth.l1 k l s = some r) ∧ (¬ noX (pairs l s) 0 → spec_IsLabyrinth.l1 k l s = some false) := by
  have hl := pairs_length hc s
  obtain ⟨k, rfl⟩ : ∃ m, k = m + 1 := ⟨k - 1, by omega⟩
  have h := sNo_out l s hs (pairs l s) (by omega) B (pairs l s).length k 0 (by omega) (by omega) (by omega) (by omega)
  have e : spec_IsLabyrinth.l1 (k + 1) l s = spec_IsLabyrinth.l2 k l s (pairs l s) 0 := by
    rw [spec_IsLabyrinth.l1]
    rw [if_pos (by omega), sPairs k l s hc hs (by omega)]
    rfl
  rw [e]
  exact h
open Classical in
theorem sIsLab (k : Nat) (l : List Int) (hl : l.length ≤ 2000000) (hk : 2 * l.length + 4000 ≤ k) : spec_IsLabyrinth.f k l = some (labOk l) := by
  unfold spec_IsLabyrinth.f labOk
  rw [sCircuitsOk k l (by omega) (by omega)]
  simp only [Option.bind_some]
  by_cases hc : circuitsOk l = true
  · have h9 := circuits_len hc
    rw [if_pos hc, hc, Bool.true_and, if_pos (by simp; omega)]
    rw [if_pos (by simp; omega)]
    show spec_IsLabyrinth.l0 k l (way l) 1 = _
    have hO := sOdd_go l (way l) (by rw [way_length]; omega) 3000 (l.length + 1) k 1 (by omega) (by rw [way_length]; omega) (by rw [way_length]; omega) (by omega)
    have hi := odds_iff hc
    by_cases o : odds (way l) 1
    · rw [(hi.1 o).1, (hi.1 o).2]
      simp only [Bool.not_false, Bool.and_true]
      refine hO.1 o _ (fun K hK => ?_)
      have h0 := sLab_round l 0 hc (.inl rfl) 1500 K (by omega) (by omega)
      by_cases n0 : noX (pairs l 0) 0
      · rw [decide_eq_true n0, Bool.true_and]
        refine h0.1 n0 _ (fun K2 hK2 => ?_)
        have h1 := sLab_round l 1 hc (.inr rfl) 50 K2 (by omega) (by omega)
        by_cases n1 : noX (pairs l 1) 0
        · rw [decide_eq_true n1]
          refine h1.1 n1 _ (fun K3 hK3 => ?_)
          obtain ⟨K3, rfl⟩ : ∃ m, K3 = m + 1 := ⟨K3 - 1, by omega⟩
          rw [spec_IsLabyrinth.l1, if_neg (by omega)]
        · rw [decide_eq_false n1]
          exact h1.2 n1
      · rw [decide_eq_false n0, Bool.false_and]
        exact h0.2 n0
    · rw [hO.2 o]
      congr 1
      have : (pairs l 0).any evenPair = true ∨ (pairs l 1).any evenPair = true := by
        cases a : (pairs l 0).any evenPair with
        | true => exact .inl rfl
        | false =>
          cases b : (pairs l 1).any evenPair with
          | true => exact .inr rfl
          | false => exact absurd (hi.2 ⟨a, b⟩) o
      rcases this with e | e <;> rw [e] <;> simp
  · rw [if_neg hc]
    have hc' : circuitsOk l = false := by simpa using hc
    rw [hc']
    rfl
end Go.Proofs.Ytekgbinadmjapab.L
