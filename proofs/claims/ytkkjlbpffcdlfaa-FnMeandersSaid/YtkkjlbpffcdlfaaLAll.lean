/- All arch systems: the program's sorted list is the reference's, order by order; and pairs of them, counted. -/
import Derived.Test.YtkkjlbpffcdlfaaXcgrid
import Derived.Test.YtkkjlbpffcdlfaaXimplAllArches
import Derived.Test.YtkkjlbpffcdlfaaXimplCountMeanders
import Derived.Test.YtkkjlbpffcdlfaaXspecAllArches
import Derived.Test.YtkkjlbpffcdlfaaLBase
namespace Go.Proofs.Ytkkjlbpffcdlfaa.L
open Go.RowKit Go.Proofs.Ytkkjlbpffcdlfaa.X Go.Proofs.YtkkjlbpffcdlfaaW.PrintWords Go.Proofs.YtkkjlbpffcdlfaaW.PrintLast Go.Proofs.YtkkjlbpffcdlfaaW.PrintMore
set_option linter.unusedSimpArgs false
set_option linter.unusedVariables false

theorem lift {α : Type} {f : Nat → Option α} (h : ∀ k, LeO (f k) (f (k + 1))) {k m : Nat} (hk : k ≤ m) {r : α} (e : f k = some r) : f m = some r := by
  obtain ⟨d, rfl⟩ : ∃ d, m = k + d := ⟨m - k, by omega⟩
  induction d with
  | zero => exact e
  | succ d ih => exact h (k + d) r (ih (by omega))
/-- One order, looked at. -/
def chkAll (n : Int) : Bool := match spec_AllArches.f 400 n, impl_arches.f 400 (wrap64 (2 * n)) 0 with
  | some S, some L => L.isPerm S && (decide (S.Pairwise fun a b => AA.le a b = true) && (decide (0 < S.length ∧ S.length ≤ 42) && S.all fun r => decide (r.length = (2 * n).toNat)))
  | _, _ => false
set_option maxRecDepth 100000 in
theorem chk_all : (chkAll 1 && chkAll 2 && chkAll 3 && chkAll 4 && chkAll 5) = true := by decide +kernel
theorem all_of_chk {n : Int} (h0 : 1 ≤ n) (h1 : n ≤ 5) (hc : chkAll n = true) : ∃ S, (∀ k, 400 ≤ k → impl_AllArches.f k n = some S ∧ spec_AllArches.f k n = some S) ∧ 0 < S.length ∧ S.length ≤ 42 ∧ ∀ r ∈ S, r.length = (2 * n).toNat := by
  unfold chkAll at hc
  cases hs : spec_AllArches.f 400 n with
  | none => rw [hs] at hc; cases hc
  | some S =>
    cases hl : impl_arches.f 400 (wrap64 (2 * n)) 0 with
    | none => rw [hs, hl] at hc; cases hc
    | some L =>
      rw [hs, hl] at hc
      simp only [Bool.and_eq_true, decide_eq_true_eq, List.all_eq_true] at hc
      obtain ⟨hp, hw, ⟨hl0, hl1⟩, hr⟩ := hc
      have hp := List.isPerm_iff.1 hp
      have e : L.mergeSort AA.le = S := List.Perm.eq_of_pairwise (le := fun a b => AA.le a b = true) (fun a b _ _ p q => AA.cmp_eq a b (by
        have p' : AA.cmp a b ≤ 0 := of_decide_eq_true p
        have q' : AA.cmp b a ≤ 0 := of_decide_eq_true q
        have := AA.cmp_swap a b
        omega)) (List.pairwise_mergeSort AA.le_tr AA.le_tot L) hw ((List.mergeSort_perm L AA.le).trans hp)
      refine ⟨S, fun k hk => ⟨lift (fun k => impl_AllArches.mono n k) hk ?_, lift (fun k => spec_AllArches.mono n k) hk hs⟩, hl0, hl1, hr⟩
      unfold impl_AllArches.f
      rw [if_neg (by omega), if_neg (by omega), hl, Option.bind_some, if_pos, e]
      have hll := hp.length_eq
      refine ⟨by omega, by omega, fun r hr' => ?_⟩
      have := hr r (hp.mem_iff.1 hr')
      omega
theorem all_arches {n : Int} (h0 : 1 ≤ n) (h1 : n ≤ 5) : ∃ S, (∀ k, 400 ≤ k → impl_AllArches.f k n = some S ∧ spec_AllArches.f k n = some S) ∧ 0 < S.length ∧ S.length ≤ 42 ∧ ∀ r ∈ S, r.length = (2 * n).toNat := by
  have h := chk_all
  simp only [Bool.and_eq_true] at h
  obtain ⟨⟨⟨⟨c1, c2⟩, c3⟩, c4⟩, c5⟩ := h
  refine all_of_chk h0 h1 ?_
  obtain rfl | rfl | rfl | rfl | rfl : n = 1 ∨ n = 2 ∨ n = 3 ∨ n = 4 ∨ n = 5 := by omega
  · exact c1
  · exact c2
  · exact c3
  · exact c4
  · exact c5
theorem no_arches {n : Int} (h : ¬ (1 ≤ n ∧ n ≤ 5)) (k : Nat) : impl_AllArches.f k n = some [] ∧ spec_AllArches.f k n = some [] := by
  unfold impl_AllArches.f spec_AllArches.f spec_l01In.f
  refine ⟨?_, ?_⟩
  · by_cases c : n < 1
    · rw [if_pos c]
    · rw [if_neg c, if_pos (by omega)]
  · by_cases c : n ≥ 1
    · rw [if_pos c, Option.bind_some, decide_eq_false (by omega)]
      rfl
    · rw [if_neg c, Option.bind_some]
      rfl
end Go.Proofs.Ytkkjlbpffcdlfaa.L
