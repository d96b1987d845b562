/- The program's IsMeander returns what the reference's returns, for all arguments. No conditions beyond the given bounds on the size of what comes in. -/
import Derived.Test.YtcpoaindibjecaaXlawsFnExactIsMeander
import Derived.Test.YtcpoaindibjecaaLLoops
namespace Go.Proofs.Ytcpoaindibjecaa.Pure
open Go.RowKit Go.Proofs.Ytcpoaindibjecaa.X Go.Proofs.Ytcpoaindibjecaa.L Go.Proofs.YtcpoaindibjecaaW.PrintWords Go.Proofs.YtcpoaindibjecaaW.PrintLast

theorem FnExactIsMeander : laws_FnExactIsMeander.Pure := by
  intro a b _ _ _ _ _ _
  refine ⟨a.length + b.length + 200, ?_⟩
  unfold laws_FnExactIsMeander.f
  by_cases ha : (a.length : Int) > 1048576
  · rw [if_pos ha]
  · rw [if_neg ha]
    by_cases hb : (b.length : Int) > 1048576
    · rw [if_pos hb]
    · rw [if_neg hb]
      obtain ⟨r, h1, h2⟩ := isMeander (a.length + b.length + 200) a b (by omega) (by omega) (by omega)
      simp only [toIntS (a.length + b.length + 200) a (by omega) (by omega), toIntS (a.length + b.length + 200) b (by omega) (by omega), Option.bind_some, h1, h2, eqIntS (a.length + b.length + 200) a a (by omega) (by omega), eqIntS (a.length + b.length + 200) b b (by omega) (by omega)]
      simp
end Go.Proofs.Ytcpoaindibjecaa.Pure
