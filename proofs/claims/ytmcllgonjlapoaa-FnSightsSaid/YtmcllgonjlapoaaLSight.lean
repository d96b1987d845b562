/- What is seen from a cell in a direction. -/
import Derived.Test.YtmcllgonjlapoaaXimplSightFrom
import Derived.Test.YtmcllgonjlapoaaXspecSightFrom
import Derived.Test.YtmcllgonjlapoaaLStep
namespace Go.Proofs.Ytmcllgonjlapoaa.L
open Go.RowKit Go.Proofs.Ytmcllgonjlapoaa.X Go.Proofs.YtmcllgonjlapoaaW.PrintWords Go.Proofs.YtmcllgonjlapoaaW.PrintLast Go.Proofs.YtmcllgonjlapoaaW.PrintMore
set_option linter.unusedSimpArgs false
set_option linter.unusedVariables false

/-- The cells from c on, in a direction, in at most n steps. -/
def sightGo (w h o d : Int) : Nat → Int → List Int
  | 0, _ => []
  | n + 1, c => if 0 ≤ c then c :: sightGo w h o d n (step w h o c d) else []
def sight (w h o c d : Int) : List Int := if has w h o c = true then sightGo w h o d 17 (step w h o c d) else []
/-- How far it can be. -/
def ahead (d c : Int) : Nat := if c < 0 then 0 else if d = 0 ∨ d = 3 then (c + 1).toNat else (16 - c).toNat
theorem nb_mono {w h c d : Int} (hn : nb w h c d ≠ -1) : (d = 0 ∨ d = 3) ∧ nb w h c d < c ∨ ¬ (d = 0 ∨ d = 3) ∧ c < nb w h c d := by
  unfold nb at hn ⊢
  by_cases hc : isCell w h c = true
  · rw [if_pos hc] at hn ⊢
    obtain ⟨hg, _, _, _⟩ := isCell_ok hc
    rw [gridOk_iff] at hg
    by_cases d0 : d = 0 ∧ 0 < c / w
    · rw [if_pos d0] at hn ⊢; omega
    · rw [if_neg d0] at hn ⊢
      by_cases d1 : d = 1 ∧ c % w < w - 1
      · rw [if_pos d1] at hn ⊢; omega
      · rw [if_neg d1] at hn ⊢
        by_cases d2 : d = 2 ∧ c / w < h - 1
        · rw [if_pos d2] at hn ⊢; omega
        · rw [if_neg d2] at hn ⊢
          by_cases d3 : d = 3 ∧ 0 < c % w
          · rw [if_pos d3] at hn ⊢; omega
          · rw [if_neg d3] at hn; exact absurd rfl hn
  · rw [if_neg hc] at hn; exact absurd rfl hn
theorem ahead_step (w h o c d : Int) (hc : 0 ≤ c) (h15 : c ≤ 15) : ahead d (step w h o c d) < ahead d c := by
  have hp : 0 < ahead d c := by unfold ahead; rw [if_neg (by omega)]; split <;> omega
  rcases step_range w h o c d with e | ⟨_, _, hc', hn, _⟩
  · rw [e]; exact hp
  · have h1 := isCell_ok hc'
    have hm := nb_mono (w := w) (h := h) (c := c) (d := d) (by omega)
    rw [hn] at hm
    generalize step w h o c d = x at *
    unfold ahead
    have n1 : ¬ x < 0 := by omega
    have n2 : ¬ c < 0 := by omega
    rw [if_neg n1, if_neg n2]
    rcases hm with ⟨a, b⟩ | ⟨a, b⟩
    · rw [if_pos a, if_pos a]; omega
    · rw [if_neg a, if_neg a]; omega
theorem ahead_le (d c : Int) (h15 : c ≤ 15) : ahead d c ≤ 16 := by
  unfold ahead
  split
  · omega
  · split <;> omega
theorem sightGo_length (w h o d : Int) : ∀ (n : Nat) (c : Int), (sightGo w h o d n c).length ≤ n
  | 0, c => Nat.le_refl _
  | n + 1, c => by
    unfold sightGo
    split
    · simp only [List.length_cons]; exact Nat.succ_le_succ (sightGo_length w h o d n _)
    · simp
theorem sight_length (w h o c d : Int) : (sight w h o c d).length ≤ 17 := by
  unfold sight
  split
  · exact sightGo_length _ _ _ _ _ _
  · simp
theorem iSight_go (w h o d : Int) : ∀ (n k : Nat) (c : Int) (acc : List Int), c ≤ 15 → ahead d c ≤ n → n + 5 ≤ k → acc.length + n ≤ 1000 →
    impl_SightFrom.l0 k c d acc w h o = some (acc ++ sightGo w h o d n c) := by
  intro n
  induction n with
  | zero =>
    intro k c acc h15 ha hk hl
    obtain ⟨k, rfl⟩ : ∃ m, k = m + 1 := ⟨k - 1, by omega⟩
    have hc : c < 0 := by
      unfold ahead at ha
      split at ha
      · assumption
      · split at ha <;> omega
    simp only [impl_SightFrom.l0]
    rw [if_neg (by omega)]
    simp [sightGo]
  | succ n ih =>
    intro k c acc h15 ha hk hl
    obtain ⟨k, rfl⟩ : ∃ m, k = m + 1 := ⟨k - 1, by omega⟩
    simp only [impl_SightFrom.l0, sightGo]
    by_cases hc : 0 ≤ c
    · have h1 := ahead_step w h o c d hc h15
      rw [if_pos hc, if_pos hc, if_pos (by omega), iStep k w h o c d (by omega)]
      simp only [Option.bind_some]
      rw [ih k _ _ (step_lt w h o c d).2 (by omega) (by omega) (by simp; omega)]
      simp
    · rw [if_neg hc, if_neg hc]
      simp
theorem iSight (k : Nat) (w h o c d : Int) (hk : 30 ≤ k) : impl_SightFrom.f k w h o c d = some (sight w h o c d) := by
  unfold impl_SightFrom.f sight
  rw [iisIn1, iStep k w h o c d (by omega)]
  simp only [Option.bind_some]
  by_cases h1 : has w h o c = true
  · have h2 := ahead_le d _ (step_lt w h o c d).2
    rw [if_pos h1, if_pos h1, iSight_go w h o d 17 k _ [] (step_lt w h o c d).2 (by omega) (by omega) (by simp)]
    simp
  · rw [if_neg h1, if_neg h1]
theorem sSight_go (w h o d : Int) : ∀ (n k : Nat) (c : Int) (acc : List Int), c ≤ 15 → ahead d c ≤ n → n + 5 ≤ k → acc.length + n ≤ 1000 →
    spec_SightFrom.l0 k d acc c w h o = some (acc ++ sightGo w h o d n c) := by
  intro n
  induction n with
  | zero =>
    intro k c acc h15 ha hk hl
    obtain ⟨k, rfl⟩ : ∃ m, k = m + 1 := ⟨k - 1, by omega⟩
    have hc : c < 0 := by
      unfold ahead at ha
      split at ha
      · assumption
      · split at ha <;> omega
    simp only [spec_SightFrom.l0]
    rw [if_neg (by omega)]
    simp [sightGo]
  | succ n ih =>
    intro k c acc h15 ha hk hl
    obtain ⟨k, rfl⟩ : ∃ m, k = m + 1 := ⟨k - 1, by omega⟩
    simp only [spec_SightFrom.l0, sightGo]
    by_cases hc : 0 ≤ c
    · have h1 := ahead_step w h o c d hc h15
      rw [if_pos hc, if_pos hc, if_pos (by omega), sStep k w h o c d (by omega)]
      simp only [Option.bind_some]
      rw [ih k _ _ (step_lt w h o c d).2 (by omega) (by omega) (by simp; omega)]
      simp
    · rw [if_neg hc, if_neg hc]
      simp
theorem sSight (k : Nat) (w h o c d : Int) (hk : 30 ≤ k) : spec_SightFrom.f k w h o c d = some (sight w h o c d) := by
  unfold spec_SightFrom.f sight
  rw [sHas, sStep k w h o c d (by omega)]
  simp only [Option.bind_some]
  by_cases h1 : has w h o c = true
  · have h2 := ahead_le d _ (step_lt w h o c d).2
    rw [if_pos h1, if_pos h1, sSight_go w h o d 17 k _ [] (step_lt w h o c d).2 (by omega) (by omega) (by simp)]
    simp
  · rw [if_neg h1, if_neg h1]
end Go.Proofs.Ytmcllgonjlapoaa.L
