/- Hedges: what HedgeOk computes, and the copying, counting and comparing of hedges. -/
import Derived.Test.YtgfhpjnofmbcoaaXchedge
import Derived.Test.YtgfhpjnofmbcoaaLGrid
namespace Go.Proofs.Ytgfhpjnofmbcoaa.L
open Go.RowKit Go.Proofs.Ytgfhpjnofmbcoaa.X Go.Proofs.YtgfhpjnofmbcoaaW.PrintWords Go.Proofs.YtgfhpjnofmbcoaaW.PrintLast Go.Proofs.YtgfhpjnofmbcoaaW.PrintMore
set_option linter.unusedSimpArgs false
set_option linter.unusedVariables false

def hedgeOk (w h o : Int) (g : List Int) (lim : Int) : Bool := mazeOk w h o && (decide (1 ≤ lim ∧ lim ≤ 20) && (decide ((g.length : Int) = gaps w h) && g.all fun n => decide (0 ≤ n ∧ n ≤ 1000)))
theorem hedgeOk_parts {w h o : Int} {g : List Int} {lim : Int} (hh : hedgeOk w h o g lim = true) : mazeOk w h o = true ∧ 1 ≤ lim ∧ lim ≤ 20 ∧ (g.length : Int) = gaps w h ∧ ∀ n ∈ g, 0 ≤ n ∧ n ≤ 1000 := by
  unfold hedgeOk at hh
  simp only [Bool.and_eq_true, decide_eq_true_eq, List.all_eq_true] at hh
  exact ⟨hh.1, hh.2.1.1, hh.2.1.2, hh.2.2.1, hh.2.2.2⟩
theorem iHedgeOk (w h o : Int) (g : List Int) (lim : Int) : impl_HedgeOk.f w h o g lim = some (hedgeOk w h o g lim) := by
  unfold impl_HedgeOk.f hedgeOk contains_HedgeOk.f
  simp only [iMazeOk, iCountGaps, Option.bind_some]
  cases mazeOk w h o with
  | false => simp
  | true =>
    simp only [if_true, Bool.true_and]
    by_cases h1 : lim < 1
    · rw [if_pos h1]; have h4 : ¬ (1 ≤ lim ∧ lim ≤ 20) := by omega
      simp [h4]
    · rw [if_neg h1]
      by_cases h2 : lim > 20
      · rw [if_pos h2]; have h4 : ¬ (1 ≤ lim ∧ lim ≤ 20) := by omega
        simp [h4]
      · rw [if_neg h2]
        by_cases h3 : (g.length : Int) = gaps w h
        · rw [if_pos h3]
          have e : (!(g.any fun x => decide (x < 0) || decide (x > 1000))) = g.all fun n => decide (0 ≤ n ∧ n ≤ 1000) := by
            rw [List.any_eq_not_all_not, Bool.not_not]
            congr 1
            funext n
            rw [Bool.eq_iff_iff]
            simp <;> omega
          rw [e]
          have h4 : 1 ≤ lim ∧ lim ≤ 20 := by omega
          simp [h3, h4]
        · rw [if_neg h3]; simp [h3]
end Go.Proofs.Ytgfhpjnofmbcoaa.L
