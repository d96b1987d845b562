/- The program's TrappedCells returns what the reference's returns, for all arguments. No conditions beyond the given bounds on the size of what comes in. -/
import Derived.Test.YtlfomjhjeknnmaaXlawsFnExactTrappedCells
import Derived.Test.YtlfomjhjeknnmaaLTrap
namespace Go.Proofs.Ytlfomjhjeknnmaa.Pure
open Go.RowKit Go.Proofs.Ytlfomjhjeknnmaa.X Go.Proofs.Ytlfomjhjeknnmaa.L Go.Proofs.YtlfomjhjeknnmaaW.PrintWords Go.Proofs.YtlfomjhjeknnmaaW.PrintLast

theorem FnExactTrappedCells : laws_FnExactTrappedCells.Pure := by
  intro w h o p l b _ _ _ _ hm _
  refine ⟨l.length + 1400, ?_⟩
  unfold laws_FnExactTrappedCells.f
  rw [szTimed w h o p l hm]
  simp only [Option.bind_some]
  by_cases hl : l.length ≤ 1048576
  · rw [if_pos hl, if_neg (by omega)]
    have hn : (trapped w h o p (l.map cvG) b).length ≤ 16 := by
      have hr := cells_range w h
      unfold trapped
      split
      · have := trapGo_len w h o p (l.map cvG) b (cells w h).toNat 0
        omega
      · simp
    have hE := fun n (hn' : 1000 ≤ n) => eqIntS n (trapped w h o p (l.map cvG) b) (trapped w h o p (l.map cvG) b) (by omega) (by omega)
    obtain ⟨y, hM⟩ := markTimed (l.length + 1400) w h o p (l.map cvG) (by simp; omega) (by simp)
    have hM2 := markIntS (l.length + 1399) (trapped w h o p (l.map cvG) b) 1 (by omega) (by omega) (by omega) (by omega)
    have hH := heldIntS (l.length + 1399) (trapped w h o p (l.map cvG) b).length 1 (by omega) (by omega) (by omega) (by omega)
    simp only [toTimed (l.length + 1400) w h o p l hl (by omega), sTrappedCells w h o p b _ (l.length + 1400) (by omega), iTrappedCells w h o p b _ (l.length + 1400) (by omega), hE (l.length + 1400) (by omega), hM, Option.bind_some, decide_true, if_true, eqTimed (l.length + 1400) w h o p (l.map cvG) (by simp; omega) (by simp), Bool.not_true]
    rw [if_neg (by omega)]
    simp only [laws_FnExactTrappedCells.j0, Bool.false_eq_true, if_false, hM2, hH, toTimed (l.length + 1399) w h o p l hl (by omega), iTrappedCells w h o p b _ (l.length + 1399) (by omega), hE (l.length + 1399) (by omega), Option.bind_some, decide_true, if_true]
    rw [if_neg (by omega), if_neg (by omega)]
  · rw [if_neg hl, if_pos (by omega)]
end Go.Proofs.Ytlfomjhjeknnmaa.Pure
