/- The program's GrowHedge returns what the reference's returns, for all arguments, in new memory. No conditions beyond the given bounds on the size of what comes in. -/
import Derived.Test.YtekgbinadmjapaaXlawsFnExactGrowHedge
import Derived.Test.YtekgbinadmjapaaLCut
namespace Go.Proofs.Ytekgbinadmjapaa.Pure
open Go.RowKit Go.Proofs.Ytekgbinadmjapaa.X Go.Proofs.Ytekgbinadmjapaa.L Go.Proofs.YtekgbinadmjapaaW.PrintWords Go.Proofs.YtekgbinadmjapaaW.PrintLast

theorem FnExactGrowHedge : laws_FnExactGrowHedge.Pure := by
  intro w h o g lim a _ _ _ hm hm8 _ _ _
  refine ⟨g.length + 13, ?_⟩
  unfold laws_FnExactGrowHedge.f
  rw [szHedge w h o g lim (by omega)]
  simp only [Option.bind_some]
  by_cases hl : g.length ≤ 1048576
  · rw [if_pos hl, if_neg (by omega)]
    obtain ⟨g', b, hr, hg⟩ := growHedge_form w h o g lim a
    have hS := sGrowHedge (g.length + 13) w h o g lim a (by omega) (by omega)
    have hI := iGrowHedge (g.length + 13) w h o g lim a (by omega) (by omega)
    have hI' := iGrowHedge (g.length + 11) w h o g lim a (by omega) (by omega)
    rw [hr] at hS hI hI'
    have hT := toHedge (g.length + 13) w h o g lim (by omega) (by omega)
    have hT1 := toHedge (g.length + 12) w h o g lim (by omega) (by omega)
    have hT2 := toHedge (g.length + 11) w h o g lim (by omega) (by omega)
    have hE := eqHedge (g.length + 13) w h o g' lim w h o g' lim (by omega) (by omega)
    have hE1 := eqHedge (g.length + 12) w h o g' lim w h o g' lim (by omega) (by omega)
    have hE2 := eqHedge (g.length + 11) w h o g' lim w h o g' lim (by omega) (by omega)
    have hEa := eqHedge (g.length + 12) w h o g lim w h o g lim (by omega) (by omega)
    have hM := markHedge (g.length + 12) w h o g lim (by omega) (by omega)
    have hM1 := markHedge (g.length + 11) w h o g' lim (by omega) (by omega)
    have hH := heldHedge (g.length + 11) w h o g'.length lim (by omega) (by omega)
    have hH1 := heldHedge (g.length + 10) w h o g'.length lim (by omega) (by omega)
    simp only [hT, hS, hI, hE, Option.bind_some, decide_true, and_self, if_true, bne_self_eq_false]
    simp only [laws_FnExactGrowHedge.j0, Bool.false_eq_true, if_false, hT1, hEa, hM, hE1, Option.bind_some, decide_true, and_self, if_true, bne_self_eq_false]
    rw [if_neg (by omega)]
    simp only [laws_FnExactGrowHedge.j1, Bool.false_eq_true, if_false, hM1, hH, hT2, hI', hE2, Option.bind_some, decide_true, and_self, if_true, bne_self_eq_false]
    rw [if_neg (by omega)]
    simp only [laws_FnExactGrowHedge.j2, Bool.false_eq_true, if_false, hH1, Option.bind_some, if_true]
    rw [if_neg (by omega)]
  · rw [if_neg hl, if_pos (by omega)]
end Go.Proofs.Ytekgbinadmjapaa.Pure
