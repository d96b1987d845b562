/- The program's CountMeanders returns what the reference's returns, for all arguments. No conditions. -/
import Derived.Test.YtkkjlbpffcdlfaaXlawsFnExactCountMeanders
import Derived.Test.YtkkjlbpffcdlfaaLCountM
namespace Go.Proofs.Ytkkjlbpffcdlfaa.Pure
open Go.RowKit Go.Proofs.Ytkkjlbpffcdlfaa.X Go.Proofs.Ytkkjlbpffcdlfaa.L Go.Proofs.YtkkjlbpffcdlfaaW.PrintWords Go.Proofs.YtkkjlbpffcdlfaaW.PrintLast
set_option linter.unusedSimpArgs false
set_option linter.unusedVariables false

theorem main (n : Int) (k : Nat) (hk : 4000 ≤ k) : laws_FnExactCountMeanders.f k n = some true := by
  unfold laws_FnExactCountMeanders.f
  obtain ⟨r, h1, h2⟩ := countMeanders k n hk
  rw [h2, Option.bind_some, h1, Option.bind_some, if_pos rfl]
theorem FnExactCountMeanders : laws_FnExactCountMeanders.Pure := fun n _ => ⟨4000, main n 4000 (Nat.le_refl _)⟩
end Go.Proofs.Ytkkjlbpffcdlfaa.Pure
