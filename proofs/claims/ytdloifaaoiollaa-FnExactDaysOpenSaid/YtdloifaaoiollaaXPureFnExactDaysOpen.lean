/- The program's DaysOpen returns what the reference's returns, for all arguments. No conditions beyond the given bounds on the size of what comes in. -/
import Derived.Test.YtdloifaaoiollaaXlawsFnExactDaysOpen
import Derived.Test.YtdloifaaoiollaaLDays
namespace Go.Proofs.Ytdloifaaoiollaa.Pure
open Go.RowKit Go.Proofs.Ytdloifaaoiollaa.X Go.Proofs.Ytdloifaaoiollaa.L Go.Proofs.YtdloifaaoiollaaW.PrintWords Go.Proofs.YtdloifaaoiollaaW.PrintLast

theorem FnExactDaysOpen : laws_FnExactDaysOpen.Pure := by
  intro w h o g lim a _ _ _ hm hm8 _ _ _
  refine ⟨g.length + 800, ?_⟩
  unfold laws_FnExactDaysOpen.f
  rw [szHedge w h o g lim (by omega)]
  simp only [Option.bind_some]
  by_cases hl : g.length ≤ 1048576
  · rw [if_pos hl, if_neg (by omega), toHedge (g.length + 800) w h o g lim (by omega) (by omega)]
    simp only [Option.bind_some]
    rw [sDaysOpen (g.length + 800) w h o g lim a (by omega) (by omega), iDaysOpen (g.length + 800) w h o g lim a (by omega)]
    simp only [Option.bind_some]
    rw [if_pos trivial, eqHedge (g.length + 800) w h o g lim w h o g lim (by omega) (by omega)]
    simp
  · rw [if_neg hl, if_pos (by omega)]
end Go.Proofs.Ytdloifaaoiollaa.Pure
