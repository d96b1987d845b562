/- The program's EnteredFrom returns what the reference's returns, for all arguments, in new memory. No conditions. -/
import Derived.Test.YtdloifaaoiollaaXlawsFnExactEnteredFrom
import Derived.Test.YtdloifaaoiollaaLThread
namespace Go.Proofs.Ytdloifaaoiollaa.Pure
open Go.RowKit Go.Proofs.Ytdloifaaoiollaa.X Go.Proofs.Ytdloifaaoiollaa.L Go.Proofs.YtdloifaaoiollaaW.PrintWords Go.Proofs.YtdloifaaoiollaaW.PrintLast
set_option linter.unusedSimpArgs false

theorem both (w h o st : Int) : ∃ l : List Int, l.length ≤ 31 ∧ (∀ k, 300 ≤ k → impl_EnteredFrom.f k w h o st = some l) ∧ (∀ k, 400 ≤ k → spec_EnteredFrom.f k w h o st = some l) := by
  by_cases ha : has w h o st = true
  · obtain ⟨R, hi, hs, L, hl⟩ := thread_fin ha
    refine ⟨R.2.1, by have := L.inv.len; have := cells_range w h; omega, fun k hk => ?_, fun k hk => ?_⟩
    · unfold impl_EnteredFrom.f
      rw [hi k hk]
      rfl
    · unfold spec_EnteredFrom.f
      rw [sHas]
      simp only [Option.bind_some]
      rw [if_pos ha, hs k hk]
      rfl
  · refine ⟨[], by simp, fun k hk => ?_, fun k hk => ?_⟩
    · unfold impl_EnteredFrom.f impl_thread.f
      rw [iisIn1]
      simp only [Option.bind_some]
      rw [if_neg ha]
      rfl
    · unfold spec_EnteredFrom.f
      rw [sHas]
      simp only [Option.bind_some]
      rw [if_neg ha]
theorem FnExactEnteredFrom : laws_FnExactEnteredFrom.Pure := by
  intro w h o st _ _ _ _
  refine ⟨500, ?_⟩
  obtain ⟨l, hl, hi, hs⟩ := both w h o st
  unfold laws_FnExactEnteredFrom.f laws_toMaze.f laws_toGrid.f
  simp only [Option.bind_some, hi 500 (by omega), hs 500 (by omega), eqIntS 500 l l (by omega) (by omega), markIntS 500 l 1 (by omega) (by omega) (by omega) (by omega), heldIntS 500 l.length 1 (by omega) (by omega) (by omega) (by omega), decide_true, if_true]
  rw [if_neg (by omega), if_neg (by omega)]
end Go.Proofs.Ytdloifaaoiollaa.Pure
