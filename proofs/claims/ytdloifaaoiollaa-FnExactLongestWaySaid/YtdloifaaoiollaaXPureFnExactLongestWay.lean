/- The program's LongestWay returns what the reference's returns, for all arguments. No conditions: every grid and all numbers. -/
import Derived.Test.YtdloifaaoiollaaXlawsFnExactLongestWay
import Derived.Test.YtdloifaaoiollaaLWish
namespace Go.Proofs.Ytdloifaaoiollaa.Pure
open Go.RowKit Go.Proofs.Ytdloifaaoiollaa.X Go.Proofs.Ytdloifaaoiollaa.L Go.Proofs.YtdloifaaoiollaaW.PrintWords Go.Proofs.YtdloifaaoiollaaW.PrintLast

theorem FnExactLongestWay : laws_FnExactLongestWay.Pure := by
  intro w h a b _ _ _ _
  refine ⟨10000, ?_⟩
  unfold laws_FnExactLongestWay.f laws_toGrid.f
  simp only [Option.bind_some]
  rw [sLongest 10000 w h a b (by omega), iLongest 10000 w h a b (by omega)]
  simp
end Go.Proofs.Ytdloifaaoiollaa.Pure
