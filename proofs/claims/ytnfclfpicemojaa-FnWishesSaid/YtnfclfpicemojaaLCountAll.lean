/- The number of all perfect mazes over the nine small grids, as the determinant gives it and as the list has it. -/
import Derived.Test.YtnfclfpicemojaaXimplCountAll
import Derived.Test.YtnfclfpicemojaaLWish
namespace Go.Proofs.Ytnfclfpicemojaa.L
open Go.RowKit Go.Proofs.Ytnfclfpicemojaa.X Go.Proofs.YtnfclfpicemojaaW.PrintWords Go.Proofs.YtnfclfpicemojaaW.PrintLast Go.Proofs.YtnfclfpicemojaaW.PrintMore
set_option linter.unusedSimpArgs false
set_option linter.unusedVariables false

def treesN (w h : Int) : Nat := (l12 w h (fullO w h).toNat (gaps w h).toNat 0 (cells w h - 1).toNat).length
theorem treesN_eq : ∀ w h : Fin 3, treesN (1 + (w.val : Int)) (1 + (h.val : Int)) = ([1, 1, 1, 1, 4, 15, 1, 15, 192] : List Nat).getD (w.val * 3 + h.val) 0 := by decide +kernel
theorem countAll_dec : ∀ w h : Fin 3, impl_CountAll.f 10000 (1 + (w.val : Int)) (1 + (h.val : Int)) = some (([1, 1, 1, 1, 4, 15, 1, 15, 192] : List Int).getD (w.val * 3 + h.val) 0) := by decide +kernel
theorem counts_same : ∀ w h : Fin 3, (([1, 1, 1, 1, 4, 15, 1, 15, 192] : List Int).getD (w.val * 3 + h.val) 0) = ((([1, 1, 1, 1, 4, 15, 1, 15, 192] : List Nat).getD (w.val * 3 + h.val) 0 : Nat) : Int) := by decide
theorem countAll_eq (w h : Int) (w1 : 1 ≤ w) (w2 : w ≤ 3) (h1 : 1 ≤ h) (h2 : h ≤ 3) : impl_CountAll.f 10000 w h = some ((allTrees w h).length : Int) := by
  have hg : gridOk w h = true := gridOk_iff.2 (by omega)
  have f := full_ok hg
  have e : (allTrees w h).length = treesN w h := by
    unfold allTrees treesN
    rw [List.length_map, trees_eq f.1]
  obtain ⟨a, rfl⟩ : ∃ a : Fin 3, w = 1 + (a.val : Int) := ⟨⟨(w - 1).toNat, by omega⟩, by show w = 1 + (((w - 1).toNat : Nat) : Int); omega⟩
  obtain ⟨b, rfl⟩ : ∃ b : Fin 3, h = 1 + (b.val : Int) := ⟨⟨(h - 1).toNat, by omega⟩, by show h = 1 + (((h - 1).toNat : Nat) : Int); omega⟩
  rw [e, countAll_dec, treesN_eq, counts_same]
end Go.Proofs.Ytnfclfpicemojaa.L
