/- Pairs of steps: the program and the reference tell the same. -/
import Derived.Test.YtkkjlbpffcdlfaaXimplStepPairs
import Derived.Test.YtkkjlbpffcdlfaaXspecStepPairs
import Derived.Test.YtkkjlbpffcdlfaaLCircuits
namespace Go.Proofs.Ytkkjlbpffcdlfaa.L
open Go.RowKit Go.Proofs.Ytkkjlbpffcdlfaa.X Go.Proofs.YtkkjlbpffcdlfaaW.PrintWords Go.Proofs.YtkkjlbpffcdlfaaW.PrintLast Go.Proofs.YtkkjlbpffcdlfaaW.PrintMore
set_option linter.unusedSimpArgs false
set_option linter.unusedVariables false

/-- The way through a labyrinth: from outside to the middle. -/
def way (l : List Int) : List Int := ([0] ++ l) ++ [wrap64 ((l.length : Int) + 1)]
def pr (w : List Int) (i : Int) : List Int := [mn (rd w i) (rd w (i + 1)), mx (rd w i) (rd w (i + 1))]
def prs (w : List Int) : Nat → Int → List (List Int)
  | 0, _ => []
  | n + 1, i => if i + 1 < (w.length : Int) then pr w i :: prs w n (i + 2) else []
theorem way_length (l : List Int) : (way l).length = l.length + 2 := by simp [way]
theorem prs_end (w : List Int) : ∀ (n : Nat) (i : Int), (w.length : Int) ≤ i + 1 → prs w n i = []
  | 0, _, _ => rfl
  | n + 1, i, h => by unfold prs; rw [if_neg (by omega)]
theorem iPairs_go (w : List Int) (hw : w.length ≤ 100) : ∀ (n k : Nat) (acc : List (List Int)) (i : Int), 0 ≤ i → i ≤ 200 → (w.length : Int) - i ≤ n → n < k → acc.length + n ≤ 1000 →
    impl_StepPairs.l0 k w acc i = some (acc ++ prs w n i) := by
  intro n
  induction n with
  | zero =>
    intro k acc i h0 h2 h1 hk ha
    obtain ⟨k, rfl⟩ := kpos hk
    unfold impl_StepPairs.l0
    rw [w64 (by omega) (by omega), if_neg (by omega)]
    simp [prs]
  | succ n ih =>
    intro k acc i h0 h2 h1 hk ha
    obtain ⟨k, rfl⟩ := kpos hk
    unfold impl_StepPairs.l0
    rw [w64 (x := (w.length : Int) - 1) (by omega) (by omega)]
    by_cases c : i < (w.length : Int) - 1
    · rw [if_pos c, if_pos h0, if_pos (by omega), w64 (x := i + 1) (by omega) (by omega), if_pos (by omega), if_pos (by omega), if_pos (by omega), w64 (x := i + 2) (by omega) (by omega), ih k _ (i + 2) (by omega) (by omega) (by omega) (by omega) (by simp; omega)]
      rw [show prs w (n + 1) i = pr w i :: prs w n (i + 2) from by unfold prs; rw [if_pos (by omega)]; cases n <;> rfl]
      simp [pr]
    · rw [if_neg c, prs_end w _ i (by omega)]
      simp
theorem sPairs_go (w : List Int) (hw : w.length ≤ 100) : ∀ (n k : Nat) (acc : List (List Int)) (i : Int), 0 ≤ i → i ≤ 200 → (w.length : Int) - i ≤ n → n < k → acc.length + n ≤ 1000 →
    spec_StepPairs.l0 k acc w i = some (acc ++ prs w n i) := by
  intro n
  induction n with
  | zero =>
    intro k acc i h0 h2 h1 hk ha
    obtain ⟨k, rfl⟩ := kpos hk
    unfold spec_StepPairs.l0
    rw [w64 (by omega) (by omega), if_neg (by omega)]
    simp [prs]
  | succ n ih =>
    intro k acc i h0 h2 h1 hk ha
    obtain ⟨k, rfl⟩ := kpos hk
    unfold spec_StepPairs.l0
    rw [w64 (x := i + 1) (by omega) (by omega)]
    by_cases c : i + 1 < (w.length : Int)
    · rw [if_pos c, if_pos h0, if_pos (by omega), if_pos (by omega), if_pos (by omega), w64 (x := i + 2) (by omega) (by omega), ih k _ (i + 2) (by omega) (by omega) (by omega) (by omega) (by simp; omega)]
      rw [show prs w (n + 1) i = pr w i :: prs w n (i + 2) from by unfold prs; rw [if_pos c]; cases n <;> rfl]
      simp [pr]
    · rw [if_neg c, prs_end w _ i (by omega)]
      simp
def pairs (l : List Int) (s : Int) : List (List Int) := prs (way l) (l.length + 2) s
theorem iPairs (k : Nat) (l : List Int) (s : Int) (hc : circuitsOk l = true) (hs : s = 0 ∨ s = 1) (hk : 40 ≤ k) : impl_StepPairs.f k l s = some (pairs l s) := by
  have hl := circuits_len hc
  obtain ⟨k, rfl⟩ : ∃ m, k = m + 1 := ⟨k - 1, by omega⟩
  have hj : impl_StepPairs.j0 (k + 1) l s false = some (pairs l s) := by
    simp only [impl_StepPairs.j0, Bool.false_eq_true, if_false, Option.bind_some]
    rw [if_pos (by simp; omega)]
    rw [if_pos (by simp; omega)]
    have := iPairs_go (way l) (by rw [way_length]; omega) (l.length + 2) k [] s (by omega) (by omega) (by rw [way_length]; omega) (by omega) (by simp; omega)
    rw [List.nil_append] at this
    exact this
  unfold impl_StepPairs.f
  rw [iCircuitsOk (k + 1) l (by omega) (by omega), hc]
  simp only [Option.bind_some, if_true]
  rcases hs with rfl | rfl
  · rw [if_pos rfl, hj]
  · rw [if_neg (by omega)]
    exact hj
theorem sPairs (k : Nat) (l : List Int) (s : Int) (hc : circuitsOk l = true) (hs : s = 0 ∨ s = 1) (hk : 40 ≤ k) : spec_StepPairs.f k l s = some (pairs l s) := by
  have hl := circuits_len hc
  obtain ⟨k, rfl⟩ : ∃ m, k = m + 1 := ⟨k - 1, by omega⟩
  unfold spec_StepPairs.f
  rw [sCircuitsOk (k + 1) l (by omega) (by omega), hc]
  simp only [Option.bind_some, if_true]
  rw [sIn' s 0 1, decide_eq_true (by omega)]
  simp only [Option.bind_some, Bool.not_true, spec_StepPairs.j0, Bool.false_eq_true, if_false]
  rw [if_pos (by simp; omega)]
  rw [if_pos (by simp; omega)]
  have := sPairs_go (way l) (by rw [way_length]; omega) (l.length + 2) k [] s (by omega) (by omega) (by rw [way_length]; omega) (by omega) (by simp; omega)
  rw [List.nil_append] at this
  exact this
theorem prs_length (w : List Int) : ∀ (n : Nat) (i : Int), (prs w n i).length ≤ n
  | 0, _ => by simp [prs]
  | n + 1, i => by
    have := prs_length w n (i + 2)
    unfold prs
    split <;> simp <;> omega
theorem pairs_length {l : List Int} (hc : circuitsOk l = true) (s : Int) : (pairs l s).length ≤ 11 := by
  have := circuits_len hc
  exact Nat.le_trans (prs_length _ _ _) (by omega)
end Go.Proofs.Ytkkjlbpffcdlfaa.L
