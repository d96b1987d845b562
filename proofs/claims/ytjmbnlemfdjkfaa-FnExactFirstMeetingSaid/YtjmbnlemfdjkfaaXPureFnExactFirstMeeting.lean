/- The program's FirstMeeting returns what the reference's returns, for all arguments. No conditions: every grid and every wish. -/
import Derived.Test.YtjmbnlemfdjkfaaXlawsFnExactFirstMeeting
import Derived.Test.YtjmbnlemfdjkfaaLMeet
namespace Go.Proofs.Ytjmbnlemfdjkfaa.Pure
open Go.RowKit Go.Proofs.Ytjmbnlemfdjkfaa.X Go.Proofs.Ytjmbnlemfdjkfaa.L Go.Proofs.YtjmbnlemfdjkfaaW.PrintWords Go.Proofs.YtjmbnlemfdjkfaaW.PrintLast
set_option linter.unusedSimpArgs false

theorem FnExactFirstMeeting : laws_FnExactFirstMeeting.Pure := by
  intro w h a b c d _ _ _ _ _ _
  refine ⟨10000, ?_⟩
  unfold laws_FnExactFirstMeeting.f laws_toGrid.f laws_toWish.f
  simp only [Option.bind_some]
  rw [sFirstMeeting 10000 w h a b c d (by omega)]
  simp only [Option.bind_some]
  rw [iFirstMeeting 10000 w h a b c d (by omega)]
  simp only [Option.bind_some]
  unfold laws_eqMaze.f laws_eqGrid.f
  simp
end Go.Proofs.Ytjmbnlemfdjkfaa.Pure
