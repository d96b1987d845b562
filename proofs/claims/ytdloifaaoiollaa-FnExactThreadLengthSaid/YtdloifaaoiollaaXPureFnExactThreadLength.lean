/- The program's ThreadLength returns what the reference's returns, for all arguments. No conditions. -/
import Derived.Test.YtdloifaaoiollaaXlawsFnExactThreadLength
import Derived.Test.YtdloifaaoiollaaLThread
namespace Go.Proofs.Ytdloifaaoiollaa.Pure
open Go.RowKit Go.Proofs.Ytdloifaaoiollaa.X Go.Proofs.Ytdloifaaoiollaa.L Go.Proofs.YtdloifaaoiollaaW.PrintWords Go.Proofs.YtdloifaaoiollaaW.PrintLast
set_option linter.unusedSimpArgs false

theorem both (w h o st : Int) : ∃ v : Int, (∀ k, 300 ≤ k → impl_ThreadLength.f k w h o st = some v) ∧ (∀ k, 3000 ≤ k → spec_ThreadLength.f k w h o st = some v) := by
  by_cases ha : has w h o st = true
  · obtain ⟨R, hi, hs, L, hl⟩ := thread_fin ha
    have hcr := cells_range w h
    have hsc := (has_parts ha).2
    refine ⟨R.2.2, fun k hk => ?_, fun k hk => ?_⟩
    · unfold impl_ThreadLength.f
      rw [hi k hk]
      rfl
    · unfold spec_ThreadLength.f spec_EnteredFrom.f
      rw [sHas]
      simp only [Option.bind_some]
      rw [if_pos ha, if_pos ha, hs k (by omega)]
      simp only [Option.bind_some]
      exact sLen_go w h st R.2.1 R.2.2 (by have := L.mol; have := start_cnt hsc; omega) hsc L.inv (cells w h).toNat k 0 0 (by omega) (by omega) (by omega) (by omega) (by omega) L.inv.mo0 (fun x c hx hlt => by have := cellD_lt hx; omega)
  · refine ⟨-1, fun k hk => ?_, fun k hk => ?_⟩
    · unfold impl_ThreadLength.f impl_thread.f
      rw [iisIn1]
      simp only [Option.bind_some]
      rw [if_neg ha]
      rfl
    · unfold spec_ThreadLength.f
      rw [sHas]
      simp only [Option.bind_some]
      rw [if_neg ha]
theorem FnExactThreadLength : laws_FnExactThreadLength.Pure := by
  intro w h o st _ _ _ _
  refine ⟨4000, ?_⟩
  obtain ⟨v, hi, hs⟩ := both w h o st
  unfold laws_FnExactThreadLength.f laws_toMaze.f laws_toGrid.f
  simp only [Option.bind_some, hi 4000 (by omega), hs 4000 (by omega), if_true]
end Go.Proofs.Ytdloifaaoiollaa.Pure
