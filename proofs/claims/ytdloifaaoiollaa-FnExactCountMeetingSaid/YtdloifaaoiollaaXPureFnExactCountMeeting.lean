/- The program's CountMeeting returns what the reference's returns, for all arguments. No conditions: every grid and every wish. -/
import Derived.Test.YtdloifaaoiollaaXlawsFnExactCountMeeting
import Derived.Test.YtdloifaaoiollaaLMeet
namespace Go.Proofs.Ytdloifaaoiollaa.Pure
open Go.RowKit Go.Proofs.Ytdloifaaoiollaa.X Go.Proofs.Ytdloifaaoiollaa.L Go.Proofs.YtdloifaaoiollaaW.PrintWords Go.Proofs.YtdloifaaoiollaaW.PrintLast

theorem FnExactCountMeeting : laws_FnExactCountMeeting.Pure := by
  intro w h a b c d _ _ _ _ _ _
  refine ⟨10000, ?_⟩
  unfold laws_FnExactCountMeeting.f laws_toGrid.f laws_toWish.f
  simp only [Option.bind_some]
  rw [sCountMeeting 10000 w h a b c d (by omega), iCountMeeting 10000 w h a b c d (by omega)]
  simp
end Go.Proofs.Ytdloifaaoiollaa.Pure
