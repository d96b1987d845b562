/- The program's AllArches returns what the reference's returns, for all arguments, in new memory. No conditions. -/
import Derived.Test.YtkkjlbpffcdlfaaXlawsFnExactAllArches
import Derived.Test.YtkkjlbpffcdlfaaLAll
import Derived.Test.YtkkjlbpffcdlfaaLMarkSS
namespace Go.Proofs.Ytkkjlbpffcdlfaa.Pure
open Go.RowKit Go.Proofs.Ytkkjlbpffcdlfaa.X Go.Proofs.Ytkkjlbpffcdlfaa.L Go.Proofs.YtkkjlbpffcdlfaaW.PrintWords Go.Proofs.YtkkjlbpffcdlfaaW.PrintLast
set_option linter.unusedSimpArgs false
set_option linter.unusedVariables false

theorem main (n : Int) (k : Nat) (hk : 500 ≤ k) : laws_FnExactAllArches.f k n = some true := by
  obtain ⟨S, hi, hs, hl, hr⟩ : ∃ S, impl_AllArches.f k n = some S ∧ spec_AllArches.f k n = some S ∧ S.length ≤ 42 ∧ ∀ r ∈ S, r.length ≤ 10 := by
    by_cases c : 1 ≤ n ∧ n ≤ 5
    · obtain ⟨S, h, _, hl, hr⟩ := all_arches c.1 c.2
      obtain ⟨a, b⟩ := h k (by omega)
      exact ⟨S, a, b, hl, fun r hr' => by have := hr r hr'; omega⟩
    · obtain ⟨a, b⟩ := no_arches c k
      exact ⟨[], a, b, by simp, fun r hr => by cases hr⟩
  have ht := totSS_le 10 S hr
  have hE := eqIntSS k S 10 (by omega) hr (by omega) (by omega)
  have hH := heldSS k S 10 hr (by omega) (by omega) (by omega)
  unfold laws_FnExactAllArches.f
  rw [hs, Option.bind_some, hi, Option.bind_some, hE, Option.bind_some, if_pos rfl, markSS k S 10 hr (by omega) (by omega) (by omega), Option.bind_some]
  simp only []
  rw [hH, Option.bind_some, if_neg (by omega), if_pos rfl, Option.bind_some, hE, Option.bind_some, if_pos rfl, Option.bind_some, if_neg (by omega), if_pos rfl]
theorem FnExactAllArches : laws_FnExactAllArches.Pure := fun n _ => ⟨500, main n 500 (Nat.le_refl _)⟩
end Go.Proofs.Ytkkjlbpffcdlfaa.Pure
