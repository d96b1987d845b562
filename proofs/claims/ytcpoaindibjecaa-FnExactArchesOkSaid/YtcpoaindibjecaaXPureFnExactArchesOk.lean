/- The program's ArchesOk returns what the reference's returns, for all arguments. No conditions beyond the given bounds on the size of what comes in. -/
import Derived.Test.YtcpoaindibjecaaXlawsFnExactArchesOk
import Derived.Test.YtcpoaindibjecaaLArches
namespace Go.Proofs.Ytcpoaindibjecaa.Pure
open Go.RowKit Go.Proofs.Ytcpoaindibjecaa.X Go.Proofs.Ytcpoaindibjecaa.L Go.Proofs.YtcpoaindibjecaaW.PrintWords Go.Proofs.YtcpoaindibjecaaW.PrintLast

theorem FnExactArchesOk : laws_FnExactArchesOk.Pure := by
  intro l _ _ _
  refine ⟨l.length + 200, ?_⟩
  unfold laws_FnExactArchesOk.f
  by_cases hl : (l.length : Int) > 1048576
  · rw [if_pos hl]
  · rw [if_neg hl]
    simp only [toIntS (l.length + 200) l (by omega) (by omega), Option.bind_some, sArchesOk (l.length + 200) l (by omega) (by omega), iArchesOk (l.length + 200) l (by omega) (by omega), eqIntS (l.length + 200) l l (by omega) (by omega)]
    simp
end Go.Proofs.Ytcpoaindibjecaa.Pure
