/- The program's StepPairs returns what the reference's returns, for all arguments, in new memory. No conditions beyond the given bounds on the size of what comes in. -/
import Derived.Test.YtkkjlbpffcdlfaaXlawsFnExactStepPairs
import Derived.Test.YtkkjlbpffcdlfaaLPairs
import Derived.Test.YtkkjlbpffcdlfaaLMarkSS
namespace Go.Proofs.Ytkkjlbpffcdlfaa.Pure
open Go.RowKit Go.Proofs.Ytkkjlbpffcdlfaa.X Go.Proofs.Ytkkjlbpffcdlfaa.L Go.Proofs.YtkkjlbpffcdlfaaW.PrintWords Go.Proofs.YtkkjlbpffcdlfaaW.PrintLast
set_option linter.unusedSimpArgs false
set_option linter.unusedVariables false

theorem prs_two (w : List Int) : ∀ (n : Nat) (i : Int), ∀ r ∈ prs w n i, r.length ≤ 2
  | 0, _ => by simp [prs]
  | n + 1, i => by
    have ih := prs_two w n (i + 2)
    unfold prs
    split
    · intro r hr
      rcases List.mem_cons.1 hr with rfl | hr
      · simp [pr]
      · exact ih r hr
    · intro r hr
      cases hr
noncomputable def stepPairs (l : List Int) (s : Int) : List (List Int) := if circuitsOk l = true ∧ (s = 0 ∨ s = 1) then pairs l s else []
theorem stepPairs_small (l : List Int) (s : Int) : (stepPairs l s).length ≤ 11 ∧ ∀ r ∈ stepPairs l s, r.length ≤ 2 := by
  unfold stepPairs
  split
  · rename_i h
    exact ⟨pairs_length h.1 s, prs_two _ _ _⟩
  · exact ⟨by simp, fun r hr => by cases hr⟩
theorem iStepPairs (k : Nat) (l : List Int) (s : Int) (hl : l.length ≤ 2000000) (hk : 2 * l.length + 100 ≤ k) : impl_StepPairs.f k l s = some (stepPairs l s) := by
  unfold stepPairs
  by_cases h : circuitsOk l = true ∧ (s = 0 ∨ s = 1)
  · rw [if_pos h]
    exact iPairs k l s h.1 h.2 (by omega)
  · rw [if_neg h]
    obtain ⟨k, rfl⟩ : ∃ m, k = m + 1 := ⟨k - 1, by omega⟩
    unfold impl_StepPairs.f
    rw [iCircuitsOk (k + 1) l (by omega) (by omega), Option.bind_some]
    have no : impl_StepPairs.j0 (k + 1) l s true = some [] := by rw [impl_StepPairs.j0, if_pos rfl]
    by_cases hc : circuitsOk l = true
    · rw [if_pos hc, if_neg (fun e => h ⟨hc, .inl e⟩), bne_iff_ne.2 (fun e => h ⟨hc, .inr e⟩)]
      exact no
    · rw [if_neg hc]
      exact no
theorem sStepPairs (k : Nat) (l : List Int) (s : Int) (hl : l.length ≤ 2000000) (hk : 2 * l.length + 100 ≤ k) : spec_StepPairs.f k l s = some (stepPairs l s) := by
  unfold stepPairs
  by_cases h : circuitsOk l = true ∧ (s = 0 ∨ s = 1)
  · rw [if_pos h]
    exact sPairs k l s h.1 h.2 (by omega)
  · rw [if_neg h]
    obtain ⟨k, rfl⟩ : ∃ m, k = m + 1 := ⟨k - 1, by omega⟩
    unfold spec_StepPairs.f
    rw [Option.bind_some, sCircuitsOk (k + 1) l (by omega) (by omega), Option.bind_some]
    have no : spec_StepPairs.j0 (k + 1) l s [] true = some [] := by rw [spec_StepPairs.j0, if_pos rfl]
    by_cases hc : circuitsOk l = true
    · rw [if_pos hc, sIn' s 0 1, decide_eq_false (fun e => h ⟨hc, by omega⟩)]
      exact no
    · rw [if_neg hc]
      exact no
theorem main (l : List Int) (s : Int) (hl : l.length ≤ 1048576) (k : Nat) (hk : 2 * l.length + 200 ≤ k) : laws_FnExactStepPairs.f k l s = some true := by
  obtain ⟨k, rfl⟩ : ∃ m, k = m + 1 := ⟨k - 1, by omega⟩
  obtain ⟨h1, h2⟩ := stepPairs_small l s
  have hT := fun k (hk : l.length < k) => toIntS k l (by omega) hk
  have hE := fun k (hk : 20 ≤ k) => eqIntSS k (stepPairs l s) 2 (by omega) h2 (by omega) (by omega)
  have hM := fun k (hk : 20 ≤ k) => markSS k (stepPairs l s) 2 h2 (by omega) (by omega) (by omega)
  have hH := fun k (hk : 20 ≤ k) => heldSS k (stepPairs l s) 2 h2 (by omega) (by omega) (by omega)
  have ht := totSS_le 2 _ h2
  unfold laws_FnExactStepPairs.f
  rw [if_neg (by omega), hT (k + 1) (by omega), Option.bind_some, sStepPairs (k + 1) l s (by omega) (by omega), Option.bind_some, Option.bind_some, iStepPairs (k + 1) l s (by omega) (by omega), Option.bind_some, hE (k + 1) (by omega), Option.bind_some, if_pos rfl, Option.bind_some, eqIntS (k + 1) l l (by omega) (by omega), Option.bind_some, decide_eq_true rfl, if_pos rfl, markIntS (k + 1) l 1 (by omega) (by omega) (by omega) (by omega), Option.bind_some]
  simp only []
  rw [if_neg (by omega), Option.bind_some, laws_FnExactStepPairs.j0, if_neg (by simp), hM k (by omega), Option.bind_some]
  simp only []
  rw [hH k (by omega), Option.bind_some, if_neg (by omega), if_pos rfl, hT k (by omega), Option.bind_some, iStepPairs k l s (by omega) (by omega), Option.bind_some, hE k (by omega), Option.bind_some, if_pos rfl, Option.bind_some, if_neg (by omega), if_pos rfl]
theorem FnExactStepPairs : laws_FnExactStepPairs.Pure := by
  intro l s _ _ _ _
  refine ⟨2 * l.length + 200, ?_⟩
  by_cases hl : (l.length : Int) > 1048576
  · unfold laws_FnExactStepPairs.f
    rw [if_pos hl]
  · exact main l s (by omega) _ (Nat.le_refl _)
end Go.Proofs.Ytkkjlbpffcdlfaa.Pure
