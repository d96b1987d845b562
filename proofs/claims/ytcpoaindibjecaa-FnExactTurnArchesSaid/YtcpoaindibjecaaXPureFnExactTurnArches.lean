/- The program's TurnArches returns what the reference's returns, for all arguments, in new memory. No conditions beyond the given bounds on the size of what comes in. -/
import Derived.Test.YtcpoaindibjecaaXlawsFnExactTurnArches
import Derived.Test.YtcpoaindibjecaaLArches
namespace Go.Proofs.Ytcpoaindibjecaa.Pure
open Go.RowKit Go.Proofs.Ytcpoaindibjecaa.X Go.Proofs.Ytcpoaindibjecaa.L Go.Proofs.YtcpoaindibjecaaW.PrintWords Go.Proofs.YtcpoaindibjecaaW.PrintLast

theorem FnExactTurnArches : laws_FnExactTurnArches.Pure := by
  intro l _ _ _
  refine ⟨l.length + 201, ?_⟩
  unfold laws_FnExactTurnArches.f
  by_cases hl : (l.length : Int) > 1048576
  · rw [if_pos hl]
  · rw [if_neg hl]
    obtain ⟨r, hr⟩ : ∃ r, r = (if archesOk l = true then turnArches l else []) := ⟨_, rfl⟩
    have hlen : r.length ≤ l.length := by
      rw [hr]; split
      · rw [turnArches_length]; omega
      · simp
    have hT := toIntS (l.length + 201) l (by omega) (by omega)
    have hT' := toIntS (l.length + 200) l (by omega) (by omega)
    have hS := sTurnArches (l.length + 201) l (by omega) (by omega)
    have hI := iTurnArches (l.length + 201) l (by omega) (by omega)
    have hI' := iTurnArches (l.length + 200) l (by omega) (by omega)
    rw [← hr] at hS hI hI'
    have hE := eqIntS (l.length + 201) r r (by omega) (by omega)
    have hE' := eqIntS (l.length + 200) r r (by omega) (by omega)
    have hEl := eqIntS (l.length + 201) l l (by omega) (by omega)
    have hM := markIntS (l.length + 201) l 1 (by omega) (by omega) (by omega) (by omega)
    have hMr := markIntS (l.length + 200) r 1 (by omega) (by omega) (by omega) (by omega)
    have hH := heldIntS (l.length + 200) r.length 1 (by omega) (by omega) (by omega) (by omega)
    simp only [hT, hS, hI, hE, hEl, hM, Option.bind_some, decide_true, if_true]
    rw [if_neg (by omega)]
    simp only [laws_FnExactTurnArches.j0, Bool.not_true, Bool.false_eq_true, if_false, hMr, hH, hT', hI', hE', Option.bind_some, decide_true, if_true]
    rw [if_neg (by omega), if_neg (by omega)]
end Go.Proofs.Ytcpoaindibjecaa.Pure
