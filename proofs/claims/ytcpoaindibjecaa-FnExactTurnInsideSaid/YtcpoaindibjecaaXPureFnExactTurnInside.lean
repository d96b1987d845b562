/- The program's TurnInside returns what the reference's returns, for all arguments, in new memory. No conditions beyond the given bounds on the size of what comes in. -/
import Derived.Test.YtcpoaindibjecaaXx33
import Derived.Test.YtcpoaindibjecaaLCircuits
namespace Go.Proofs.Ytcpoaindibjecaa.Pure
open Go.RowKit Go.Proofs.Ytcpoaindibjecaa.X Go.Proofs.Ytcpoaindibjecaa.L Go.Proofs.YtcpoaindibjecaaW.PrintWords Go.Proofs.YtcpoaindibjecaaW.PrintLast

theorem FnExactTurnInside : laws_FnExactTurnInside.Pure := by
  intro l _ _ _
  refine ⟨3 * l.length + 10, ?_⟩
  unfold laws_FnExactTurnInside.f
  by_cases hl : (l.length : Int) > 1048576
  · rw [if_pos hl]
  · rw [if_neg hl]
    have hl' : l.length ≤ 1048576 := by omega
    obtain ⟨r, hr⟩ : ∃ r, r = (if circuitsOk l = true then turnInside l else []) := ⟨_, rfl⟩
    have hlen : r.length ≤ l.length := by
      rw [hr]; split
      · rw [turnInside_length]; omega
      · simp
    have hT := toIntS (3 * l.length + 10) l (by omega) (by omega)
    have hT' := toIntS (3 * l.length + 9) l (by omega) (by omega)
    have hS := sTurnInside (3 * l.length + 10) l (by omega) (by omega)
    have hI := iTurnInside (3 * l.length + 10) l (by omega) (by omega)
    have hI' := iTurnInside (3 * l.length + 9) l (by omega) (by omega)
    rw [← hr] at hS hI hI'
    have hE := eqIntS (3 * l.length + 10) r r (by omega) (by omega)
    have hE' := eqIntS (3 * l.length + 9) r r (by omega) (by omega)
    have hEl := eqIntS (3 * l.length + 10) l l (by omega) (by omega)
    have hM := markIntS (3 * l.length + 10) l 1 (by omega) (by omega) (by omega) (by omega)
    have hMr := markIntS (3 * l.length + 9) r 1 (by omega) (by omega) (by omega) (by omega)
    have hH := heldIntS (3 * l.length + 9) r.length 1 (by omega) (by omega) (by omega) (by omega)
    simp only [hT, hS, hI, hE, hEl, hM, Option.bind_some, decide_true, if_true]
    rw [if_neg (by omega)]
    simp only [laws_FnExactTurnInside.j0, Bool.not_true, Bool.false_eq_true, if_false, hMr, hH, hT', hI', hE', Option.bind_some, decide_true, if_true]
    rw [if_neg (by omega), if_neg (by omega)]
end Go.Proofs.Ytcpoaindibjecaa.Pure
