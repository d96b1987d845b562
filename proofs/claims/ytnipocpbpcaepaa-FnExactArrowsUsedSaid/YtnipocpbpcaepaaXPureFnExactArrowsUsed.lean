/- The program's ArrowsUsed returns what the reference's returns, for all arguments, and leaves them as they were. No conditions beyond the given bounds on the size of what comes in. -/
import Derived.Test.YtnipocpbpcaepaaXlawsFnExactArrowsUsed
import Derived.Test.YtnipocpbpcaepaaLPopLaw
import Derived.Test.YtnipocpbpcaepaaLRowsIn
namespace Go.Proofs.Ytnipocpbpcaepaa.Pure
open Go.RowKit Go.Proofs.Ytnipocpbpcaepaa.X Go.Proofs.Ytnipocpbpcaepaa.L Go.Proofs.YtnipocpbpcaepaaW.PrintWords Go.Proofs.YtnipocpbpcaepaaW.PrintLast
set_option linter.unusedSimpArgs false
set_option linter.unusedVariables false

theorem FnExactArrowsUsed : laws_FnExactArrowsUsed.Pure := by
  intro w h A l _ _ hA hr _ _ _
  by_cases z : (l.length : Int) > 1048576
  · refine ⟨0, ?_⟩
    unfold laws_FnExactArrowsUsed.f
    rw [if_pos z]
  · obtain ⟨s, e1, e2⟩ := szIntSS A (by unfold maxLen at hA; omega) (fun r hr' => by have := hr r hr'; unfold maxLen at this; omega)
    by_cases y : s < 0
    · refine ⟨1048577, ?_⟩
      unfold laws_FnExactArrowsUsed.f
      rw [if_neg z, e1 1048577 (by omega), Option.bind_some, if_pos y]
    · obtain ⟨hA2, hr2⟩ := e2 (by omega)
      obtain ⟨r, ⟨K1, h1⟩, K2, h2⟩ := used_both (w := w) (h := h) l hA2 hr2 (by omega)
      obtain ⟨K, hK⟩ : ∃ K, K1 + K2 + 3000001 = K := ⟨_, rfl⟩
      have h1' : impl_ArrowsUsed.f K w h A l = some r := h1 K (by omega)
      have h2' : spec_ArrowsUsed.f K w h A l = some r := h2 K (by omega)
      refine ⟨K, ?_⟩
      unfold laws_FnExactArrowsUsed.f
      rw [if_neg z, e1 _ (by omega), Option.bind_some, if_neg y]
      show ((laws_toIntSS.f K A).bind _) = _
      rw [toIntSS _ A hA2 hr2 (by omega), Option.bind_some, toIntS _ l (by omega) (by omega), Option.bind_some]
      show ((spec_ArrowsUsed.f K w h A l).bind _) = _
      rw [h2', Option.bind_some, Option.bind_some, Option.bind_some]
      show ((impl_ArrowsUsed.f K w h A l).bind _) = _
      rw [h1', Option.bind_some, if_pos rfl, Option.bind_some, eqqIntSS _ A hA2 hr2 (by omega), Option.bind_some, if_pos rfl, Option.bind_some, eqIntS _ l l (by omega) (by omega), Option.bind_some, decide_eq_true rfl, if_pos rfl]
end Go.Proofs.Ytnipocpbpcaepaa.Pure
