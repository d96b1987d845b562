/- The program's MazeAtTime returns what the reference's returns, for all arguments. No conditions beyond the given bounds on the size of what comes in. -/
import Derived.Test.YtekgbinadmjapaaXlawsFnExactMazeAtTime
import Derived.Test.YtekgbinadmjapaaLMoment
namespace Go.Proofs.Ytekgbinadmjapaa.Pure
open Go.RowKit Go.Proofs.Ytekgbinadmjapaa.X Go.Proofs.Ytekgbinadmjapaa.L Go.Proofs.YtekgbinadmjapaaW.PrintWords Go.Proofs.YtekgbinadmjapaaW.PrintLast

theorem FnExactMazeAtTime : laws_FnExactMazeAtTime.Pure := by
  intro w h o p l m _ _ _ _ hm _
  refine ⟨l.length + 24, ?_⟩
  unfold laws_FnExactMazeAtTime.f
  rw [szTimed w h o p l hm]
  simp only [Option.bind_some]
  by_cases hl : l.length ≤ 1048576
  · rw [if_pos hl, if_neg (by omega)]
    have eM : ∀ (a b c : Int), laws_eqMaze.f a b c a b c = some true := fun a b c => by unfold laws_eqMaze.f laws_eqGrid.f; simp
    simp only [toTimed (l.length + 24) w h o p l hl (by omega), sMazeAtTime (l.length + 24) w h o p m _ (by omega), iMazeAtTime (l.length + 24) w h o p m _ (by omega), eM, Option.bind_some, if_true, bne_self_eq_false, laws_FnExactMazeAtTime.j0, Bool.false_eq_true, if_false, toTimed (l.length + 23) w h o p l hl (by omega), eqTimed (l.length + 23) w h o p (l.map cvG) (by simp; omega) (by simp)]
  · rw [if_neg hl, if_pos (by omega)]
end Go.Proofs.Ytekgbinadmjapaa.Pure
