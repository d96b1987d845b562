/- The program's FollowTurns returns what the reference's returns, for all arguments, in new memory. No conditions beyond the given bounds on the size of what comes in. -/
import Derived.Test.YtekgbinadmjapaaXlawsFnExactFollowTurns
import Derived.Test.YtekgbinadmjapaaLFollow
namespace Go.Proofs.Ytekgbinadmjapaa.Pure
open Go.RowKit Go.Proofs.Ytekgbinadmjapaa.X Go.Proofs.Ytekgbinadmjapaa.L Go.Proofs.YtekgbinadmjapaaW.PrintWords Go.Proofs.YtekgbinadmjapaaW.PrintLast

theorem FnExactFollowTurns : laws_FnExactFollowTurns.Pure := by
  intro w h o c f l _ _ _ _ _ _ _ _
  refine ⟨l.length + 13, ?_⟩
  unfold laws_FnExactFollowTurns.f laws_toMaze.f laws_toGrid.f laws_toWalker.f
  by_cases hl : (l.length : Int) > 1048576
  · rw [if_pos hl]
  · rw [if_neg hl]
    have hn := followTurns_length w h o c f l
    have hT := toIntS (l.length + 13) l (by omega) (by omega)
    have hT1 := toIntS (l.length + 12) l (by omega) (by omega)
    have hS := sFollow (l.length + 13) w h o c f l (by omega) (by omega)
    have hI := iFollow (l.length + 13) w h o c f l (by omega)
    have hI1 := iFollow (l.length + 12) w h o c f l (by omega)
    have hEl := eqIntS (l.length + 13) l l (by omega) (by omega)
    have hE := eqIntS (l.length + 13) (followTurns w h o c f l) (followTurns w h o c f l) (by omega) (by omega)
    have hE1 := eqIntS (l.length + 12) (followTurns w h o c f l) (followTurns w h o c f l) (by omega) (by omega)
    have hM := markIntS (l.length + 13) l 1 (by omega) (by omega) (by omega) (by omega)
    have hM1 := markIntS (l.length + 12) (followTurns w h o c f l) 1 (by omega) (by omega) (by omega) (by omega)
    have hH := heldIntS (l.length + 12) (followTurns w h o c f l).length 1 (by omega) (by omega) (by omega) (by omega)
    simp only [hT, hS, hI, hE, hEl, hM, Option.bind_some, decide_true, if_true, Bool.not_true]
    rw [if_neg (by omega)]
    simp only [laws_FnExactFollowTurns.j0, laws_toMaze.f, laws_toGrid.f, laws_toWalker.f, Bool.false_eq_true, if_false, hM1, hH, hT1, hI1, hE1, Option.bind_some, decide_true, if_true]
    rw [if_neg (by omega), if_neg (by omega)]
end Go.Proofs.Ytekgbinadmjapaa.Pure
