/- The program's MeetsWish returns what the reference's returns, for all arguments. No conditions: every maze and every wish. -/
import Derived.Test.YtdloifaaoiollaaXlawsFnExactMeetsWish
import Derived.Test.YtdloifaaoiollaaLMeet
namespace Go.Proofs.Ytdloifaaoiollaa.Pure
open Go.RowKit Go.Proofs.Ytdloifaaoiollaa.X Go.Proofs.Ytdloifaaoiollaa.L Go.Proofs.YtdloifaaoiollaaW.PrintWords Go.Proofs.YtdloifaaoiollaaW.PrintLast

theorem FnExactMeetsWish : laws_FnExactMeetsWish.Pure := by
  intro w h o a b c d _ _ _ _ _ _ _
  refine ⟨10000, ?_⟩
  unfold laws_FnExactMeetsWish.f laws_toMaze.f laws_toGrid.f laws_toWish.f
  simp only [Option.bind_some]
  rw [sMeets 10000 w h o a b c d (by omega), iMeets 10000 w h o a b c d (by omega)]
  simp
end Go.Proofs.Ytdloifaaoiollaa.Pure
