/- The program's CountLabyrinths returns what the reference's returns, for all numbers. No conditions. -/
import Derived.Test.YtekgbinadmjapabXlawsFnExactCountLabyrinths
import Derived.Test.YtekgbinadmjapabLCountLab
namespace Go.Proofs.Ytekgbinadmjapab.Pure
open Go.RowKit Go.Proofs.Ytekgbinadmjapab.X Go.Proofs.Ytekgbinadmjapab.L Go.Proofs.YtekgbinadmjapabW.PrintWords Go.Proofs.YtekgbinadmjapabW.PrintLast

theorem FnExactCountLabyrinths : laws_FnExactCountLabyrinths.Pure := by
  intro n _
  refine ⟨5000, ?_⟩
  unfold laws_FnExactCountLabyrinths.f
  rw [sCount, iCount]
  simp only [Option.bind_some, if_true]
end Go.Proofs.Ytekgbinadmjapab.Pure
