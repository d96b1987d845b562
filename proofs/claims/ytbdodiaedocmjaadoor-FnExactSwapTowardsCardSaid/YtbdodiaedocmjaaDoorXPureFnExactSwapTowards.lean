/- The program's SwapTowards returns what the reference's returns, for all arguments. -/
import Derived.Test.YtbdodiaedocmjaaDoorXlawsFnExactSwapTowards
import Derived.Test.YtbdodiaedocmjaaDoorLSwapTo
namespace Go.Proofs.YtbdodiaedocmjaaDoor.Pure
open Go.RowKit Go.Proofs.YtbdodiaedocmjaaDoor.X Go.Proofs.YtbdodiaedocmjaaDoor.L Go.Proofs.YtbdodiaedocmjaaDoorW.PrintWords Go.Proofs.YtbdodiaedocmjaaDoorW.PrintLast

theorem eqMz (w h o w' h' o' : Int) : laws_eqMaze.f w h o w' h' o' = some (decide (w = w' ∧ h = h' ∧ o = o')) := by
  unfold laws_eqMaze.f laws_eqGrid.f
  by_cases a : w = w' <;> by_cases b : h = h' <;> by_cases c : o = o' <;> simp [a, b, c]
theorem FnExactSwapTowards : laws_FnExactSwapTowards.Pure := by
  intro w h a w' h' b _ _ _ _ _ _
  refine ⟨1000, ?_⟩
  generalize hk : (1000 : Nat) = k
  have key : ∃ r : Int × Int × Int × Bool, impl_SwapTowards.f k w h a w' h' b = some r ∧ spec_SwapTowards.f k w h a w' h' b = some r := by
    by_cases hz : apartG w h a w' h' b ≤ 0
    · exact ⟨_, towards_no k (by omega) hz⟩
    · obtain ⟨rfl, rfl, p, q, n⟩ := apart_pos hz
      obtain ⟨o, f, _⟩ := towards p q n
      exact ⟨_, f k (by omega)⟩
  obtain ⟨⟨r1, r2, r3, r4⟩, hi, hs⟩ := key
  unfold laws_FnExactSwapTowards.f laws_toMaze.f laws_toGrid.f
  simp only [Option.bind_some, hi, hs, eqMz, and_self, decide_true, if_true, bne_self_eq_false, Bool.false_eq_true, if_false]
end Go.Proofs.YtbdodiaedocmjaaDoor.Pure
