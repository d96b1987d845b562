/- Ways: the program and the reference compute the same. -/
import Derived.Test.YtnfclfpicemojaaXcstep
import Derived.Test.YtnfclfpicemojaaLStep
namespace Go.Proofs.Ytnfclfpicemojaa.L
open Go.RowKit Go.Proofs.Ytnfclfpicemojaa.X Go.Proofs.YtnfclfpicemojaaW.PrintWords Go.Proofs.YtnfclfpicemojaaW.PrintLast Go.Proofs.YtnfclfpicemojaaW.PrintMore
set_option linter.unusedSimpArgs false
set_option linter.unusedVariables false

theorem iWays_go (w h o c : Int) : ∀ (n k : Nat) (acc : List Int) (d : Int), 0 ≤ d → d ≤ 4 → 4 - d = n → n + 5 ≤ k → acc.length + n ≤ 100 →
    impl_WaysFrom.l0 k c acc d w h o = some (acc ++ (([0, 1, 2, 3] : List Int).drop d.toNat).filter fun d => decide (0 ≤ step w h o c d)) := by
  intro n
  induction n with
  | zero =>
    intro k acc d h0 h1 hd hk ha
    obtain ⟨k, rfl⟩ : ∃ m, k = m + 1 := ⟨k - 1, by omega⟩
    simp only [impl_WaysFrom.l0]
    rw [if_neg (by omega), show d = 4 by omega]
    simp
  | succ n ih =>
    intro k acc d h0 h1 hd hk ha
    obtain ⟨k, rfl⟩ : ∃ m, k = m + 1 := ⟨k - 1, by omega⟩
    simp only [impl_WaysFrom.l0]
    rw [if_pos (by omega), iStep k w h o c d (by omega), drop_dirs d h0 (by omega), w64 (by omega) (by omega)]
    simp only [Option.bind_some, List.filter_cons]
    by_cases hs : step w h o c d ≥ 0
    · rw [if_pos hs, if_pos (by omega), ih k _ (d + 1) (by omega) (by omega) (by omega) (by omega) (by simp; omega), if_pos (by simpa using hs)]
      simp
    · rw [if_neg hs, ih k _ (d + 1) (by omega) (by omega) (by omega) (by omega) (by omega), if_neg (by simpa using hs)]
theorem iWaysFrom (k : Nat) (w h o c : Int) (hk : 9 ≤ k) : impl_WaysFrom.f k w h o c = some (ways w h o c) := by
  unfold impl_WaysFrom.f ways
  rw [iWays_go w h o c 4 k [] 0 (by omega) (by omega) (by omega) (by omega) (by simp)]
  rfl
theorem ways_tell {w h o c : Int} : (∀ t ∈ ways w h o c, 0 ≤ t ∧ t ≤ 3 ∧ 0 ≤ step w h o c t) ∧ (ways w h o c).length ≤ 4 := by
  unfold ways
  refine ⟨fun t ht => ?_, Nat.le_trans (List.length_filter_le _ _) (by simp)⟩
  rw [List.mem_filter] at ht
  have h1 := ht.1
  simp only [List.mem_cons, List.not_mem_nil, or_false] at h1
  exact ⟨by omega, by omega, of_decide_eq_true ht.2⟩
end Go.Proofs.Ytnfclfpicemojaa.L
