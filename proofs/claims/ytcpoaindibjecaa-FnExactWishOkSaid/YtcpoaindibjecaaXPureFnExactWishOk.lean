/- The program's WishOk returns what the reference's returns, for all arguments. No conditions: every grid and every wish. -/
import Derived.Test.YtcpoaindibjecaaXx34
import Derived.Test.YtcpoaindibjecaaLG0
namespace Go.Proofs.Ytcpoaindibjecaa.Pure
open Go.RowKit Go.Proofs.Ytcpoaindibjecaa.X Go.Proofs.Ytcpoaindibjecaa.L Go.Proofs.YtcpoaindibjecaaW.PrintWords Go.Proofs.YtcpoaindibjecaaW.PrintLast

def wishOk (w h a b c d : Int) : Bool := gridOk w h && (isCell w h a && (isCell w h b && (decide (0 ≤ c ∧ c ≤ 20) && decide (0 ≤ d ∧ d ≤ 20))))
theorem iWishOk (w h a b c d : Int) : impl_WishOk.f w h a b c d = some (wishOk w h a b c d) := by
  unfold impl_WishOk.f wishOk impl_isFew.f
  simp only [iGridOk, iisCell, Option.bind_some, ite_some_bool]
  cases gridOk w h <;> cases isCell w h a <;> cases isCell w h b <;> try (simp; done)
theorem sWishOk (w h a b c d : Int) : spec_WishOk.f w h a b c d = some (wishOk w h a b c d) := by
  unfold spec_WishOk.f wishOk
  simp only [sGridOk, sCountCells, sIn, cell_test, Option.bind_some]
  cases gridOk w h <;> cases isCell w h a <;> cases isCell w h b <;> try (simp; done)
  by_cases h1 : 0 ≤ c ∧ c ≤ 20 <;> by_cases h2 : 0 ≤ d ∧ d ≤ 20 <;> simp [h1, h2]

theorem FnExactWishOk : laws_FnExactWishOk.Pure := by
  intro w h a b c d _ _ _ _ _ _
  unfold laws_FnExactWishOk.f laws_toGrid.f laws_toWish.f
  simp only [Option.bind_some, sWishOk, iWishOk]
  simp
end Go.Proofs.Ytcpoaindibjecaa.Pure
