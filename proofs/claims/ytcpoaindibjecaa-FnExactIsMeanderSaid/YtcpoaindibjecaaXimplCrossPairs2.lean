-- Written by a program of this session (xprint.py), out of the translation and of hand-written contracts. Lean checks it.
import Derived.Test.YtcpoaindibjecaaX0
namespace Go.Proofs.Ytcpoaindibjecaa.X
open Go.RowKit Go.Proofs.YtcpoaindibjecaaW.PrintWords Go.Proofs.YtcpoaindibjecaaW.PrintLast Go.Proofs.YtcpoaindibjecaaW.PrintMore
attribute [local go_sem] max2_int min2_int max_two min_two max_three min_three max_four min_four   -- for this text's walks alone
set_option linter.unusedVariables false
set_option linter.unusedSimpArgs false

/-! ### impl_CrossPairs_2: function 68 (by hand) -/
set_option maxHeartbeats 1000000 in
theorem impl_CrossPairs_2.calls (B C : Nat) (lo hi x : Int) (w : World) (h0 : w.cell? ⟨B, 0, none⟩ = some (.int .i64 lo)) (h1 : w.cell? ⟨C, 0, none⟩ = some (.int .i64 hi)) :
  Calls Try.prog 68 #[.int .i64 x, .pointer (some ⟨B, 0, none⟩), .pointer (some ⟨C, 0, none⟩)] w fun e w' => e = .returned (.bool (decide (x < lo) || decide (x > hi))) ∧ w' = w := by
 by_cases c : x < lo
 ·go_enter Try.func68, Try.ntmps68
  go_wp2
  go_ret
  exact ⟨by simp <;> omega, rfl⟩
 ·by_cases d : hi < x
  all_goals
   go_enter Try.func68, Try.ntmps68
   go_wp2
   go_ret
   exact ⟨by simp <;> omega, rfl⟩
theorem impl_CrossPairs_2.callsb (B C : Nat) (lo hi x : Int) (b : Bool) (w : World) (hb : Aside0 ((decide (x < lo) || decide (x > hi)) = b)) (h0 : w.cell? ⟨B, 0, none⟩ = some (.int .i64 lo)) (h1 : w.cell? ⟨C, 0, none⟩ = some (.int .i64 hi)) :
  Calls Try.prog 68 #[.int .i64 x, .pointer (some ⟨B, 0, none⟩), .pointer (some ⟨C, 0, none⟩)] w fun e w' => e = .returned (.bool b) ∧ w' = w := by
 rw [← hb.out]
 exact impl_CrossPairs_2.calls B C lo hi x w h0 h1

end Go.Proofs.Ytcpoaindibjecaa.X
