/- Steps, cells of a valid maze, walkers: the program and the reference compute the same. -/
import Derived.Test.YtgnnkjgfkdaddaaDoorXcin
import Derived.Test.YtgnnkjgfkdaddaaDoorXcstep
import Derived.Test.YtgnnkjgfkdaddaaDoorLGrid
namespace Go.Proofs.YtgnnkjgfkdaddaaDoor.L
open Go.RowKit Go.Proofs.YtgnnkjgfkdaddaaDoor.X Go.Proofs.YtgnnkjgfkdaddaaDoorW.PrintWords Go.Proofs.YtgnnkjgfkdaddaaDoorW.PrintLast Go.Proofs.YtgnnkjgfkdaddaaDoorW.PrintMore
set_option linter.unusedSimpArgs false
set_option linter.unusedVariables false

theorem step_eq (w h o c d : Int) (hm : mazeOk w h o = true) : step w h o c d = if 0 ≤ gapAt w h c d ∧ bit o (gapAt w h c d) = true then nb w h c d else -1 := by
  unfold step; simp [hm]
theorem step_no (w h o c d : Int) (hm : mazeOk w h o = false) : step w h o c d = -1 := by unfold step; simp [hm]
theorem iStep (k : Nat) (w h o c d : Int) (hk : 4 ≤ k) : impl_Step.f k w h o c d = some (step w h o c d) := by
  unfold impl_Step.f
  simp only [iMazeOk, Option.bind_some, iGapAt k w h c d hk, iNeighbor k w h c d hk]
  cases hm : mazeOk w h o with
  | false => rw [step_no _ _ _ _ _ hm]; simp
  | true =>
    obtain ⟨_, ho, _, ho'⟩ := mazeOk_ok hm
    have h1 := gapAt_range w h c d
    have h2 := gaps_range w h
    rw [if_pos rfl, iisOpen w h o _ ho (by omega) (by omega), step_eq _ _ _ _ _ hm]
    simp only [Option.bind_some, Bool.and_eq_true, decide_eq_true_eq]
    split <;> rfl
theorem sStep (k : Nat) (w h o c d : Int) (hk : 4 ≤ k) : spec_Step.f k w h o c d = some (step w h o c d) := by
  unfold spec_Step.f
  simp only [sMazeOk, Option.bind_some, sGapAt k w h c d hk, sNeighbor k w h c d hk, sIsPassage]
  cases hm : mazeOk w h o with
  | false => rw [step_no _ _ _ _ _ hm]; simp
  | true =>
    have h1 := gapAt_range w h c d
    rw [step_eq _ _ _ _ _ hm]
    have e : isGap w h (gapAt w h c d) = decide (0 ≤ gapAt w h c d) := by unfold isGap; rw [decide_eq_decide]; omega
    simp only [e, if_true, Bool.true_and]
    by_cases hb : 0 ≤ gapAt w h c d ∧ bit o (gapAt w h c d) = true
    · simp [hb]
    · rw [if_neg hb]
      rcases Decidable.not_and_iff_not_or_not.1 hb with h | h <;> simp [h]
theorem step_range (w h o c d : Int) : step w h o c d = -1 ∨ (mazeOk w h o = true ∧ isCell w h c = true ∧ isCell w h (step w h o c d) = true ∧ nb w h c d = step w h o c d ∧ 0 ≤ gapAt w h c d ∧ bit o (gapAt w h c d) = true) := by
  unfold step
  split
  · rename_i hc
    rcases nb_range w h c d with e | ⟨h1, h2⟩
    · exact .inl e
    · exact .inr ⟨hc.1, h1, h2, rfl, hc.2⟩
  · exact .inl rfl
theorem step_lt (w h o c d : Int) : -1 ≤ step w h o c d ∧ step w h o c d ≤ 15 := by
  rcases step_range w h o c d with e | ⟨_, _, e, _⟩
  · rw [e]; omega
  · have := isCell_ok e; omega
theorem step_dir (w h o c d : Int) (hd : d < 0 ∨ 3 < d) : step w h o c d = -1 := by
  rcases step_range w h o c d with e | ⟨_, _, e, e2, _⟩
  · exact e
  · have h1 : nb w h c d = -1 := by
      unfold nb
      split <;> (repeat' split) <;> omega
    omega

def has (w h o c : Int) : Bool := mazeOk w h o && isCell w h c
theorem isCell_grid {w h c : Int} (h1 : isCell w h c = true) : 0 ≤ c ∧ c ≤ 15 := by have := isCell_ok h1; omega
theorem has_parts {w h o c : Int} (h1 : has w h o c = true) : mazeOk w h o = true ∧ isCell w h c = true := by unfold has at h1; simpa using h1
theorem isCellB_is (w h c : Int) : isCellB w h c = isCell w h c := by
  have := isCellB_eq w h c
  rw [iisCell] at this
  exact (Option.some.inj this).symm
theorem iisIn (w h o : Int) (l : List Int) : impl_isIn.f w h o l = some (mazeOk w h o && l.all (isCell w h)) := by
  unfold impl_isIn.f
  rw [iMazeOk]
  simp only [Option.bind_some]
  cases mazeOk w h o with
  | false => simp
  | true =>
    simp only [if_true, Bool.true_and, Option.some.injEq, isCellB_is]
    induction l with
    | nil => rfl
    | cons x l ih => simp only [List.any_cons, List.all_cons, Bool.not_or, ih, Bool.not_not]
theorem iisIn1 (w h o c : Int) : impl_isIn.f w h o [c] = some (has w h o c) := by rw [iisIn]; simp [has]
theorem iisIn2 (w h o a b : Int) : impl_isIn.f w h o [a, b] = some (mazeOk w h o && (isCell w h a && isCell w h b)) := by rw [iisIn]; simp
theorem sHas (w h o c : Int) : spec_l04Has.f w h o c = some (has w h o c) := by
  unfold spec_l04Has.f has
  simp only [sMazeOk, sCountCells, sIn, cell_test, Option.bind_some]
  cases mazeOk w h o <;> simp
def walkerOk (w h o c d : Int) : Bool := has w h o c && decide (0 ≤ d ∧ d ≤ 3)
theorem walkerOk_parts {w h o c d : Int} (h1 : walkerOk w h o c d = true) : has w h o c = true ∧ 0 ≤ d ∧ d ≤ 3 := by unfold walkerOk at h1; simpa using h1
theorem drop_dirs (d : Int) (h0 : 0 ≤ d) (h3 : d ≤ 3) : ([0, 1, 2, 3] : List Int).drop d.toNat = d :: ([0, 1, 2, 3] : List Int).drop (d + 1).toNat := by
  obtain rfl | rfl | rfl | rfl : d = 0 ∨ d = 1 ∨ d = 2 ∨ d = 3 := by omega
  all_goals rfl
theorem turn_add {f n : Int} (h0 : 0 ≤ f) (h1 : f ≤ 3) (h2 : 0 ≤ n) (h3 : n ≤ 3) : Int.tmod (wrap64 (f + n)) 4 = (f + n) % 4 := by
  rw [w64 (by omega) (by omega)]
  exact Int.tmod_eq_emod_of_nonneg (by omega)
theorem rd_memL {l : List Int} {i : Int} (h0 : 0 ≤ i) (h1 : i < (l.length : Int)) : rd l i ∈ l := by
  rw [rd_get h0 h1]
  exact List.getElem_mem _
end Go.Proofs.YtgnnkjgfkdaddaaDoor.L
