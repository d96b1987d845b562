/- Crossing pairs: the program and the reference compute the same. -/
import Derived.Test.YtkkjlbpffcdlfaaXccross
import Derived.Test.YtkkjlbpffcdlfaaLBase
namespace Go.Proofs.Ytkkjlbpffcdlfaa.L
open Go.RowKit Go.Proofs.Ytkkjlbpffcdlfaa.X Go.Proofs.YtkkjlbpffcdlfaaW.PrintWords Go.Proofs.YtkkjlbpffcdlfaaW.PrintLast Go.Proofs.YtkkjlbpffcdlfaaW.PrintMore
set_option linter.unusedSimpArgs false
set_option linter.unusedVariables false

def crossP (l0 l1 : List Int) : Bool := if l0.length = 2 ∧ l1.length = 2 then crossB (mn (rd l0 0) (rd l0 1)) (mx (rd l0 0) (rd l0 1)) (rd l1 0) (rd l1 1) else false
theorem iCrossPairs (l0 l1 : List Int) : impl_CrossPairs.f l0 l1 = some (crossP l0 l1) := by
  unfold impl_CrossPairs.f crossP
  by_cases h : l0.length = 2 ∧ l1.length = 2
  · rw [if_pos h, if_pos h]
  · rw [if_neg h, if_neg h]
theorem sCross_round (k : Nat) (l : List Int) (lo hi a b i : Int) (hl : l.length = 2) (h0 : 0 ≤ i) (h1 : i < 2) (ha : 0 ≤ a ∧ a ≤ 2) (hb : 0 ≤ b ∧ b ≤ 2) :
    spec_CrossPairs.l0 (k + 2) l lo hi a b i = spec_CrossPairs.l0 k l lo hi (a + if lo < rd l i ∧ rd l i < hi then 1 else 0) (b + if rd l i < lo ∨ hi < rd l i then 1 else 0) (i + 1) := by
  rw [spec_CrossPairs.l0]
  simp only [spec_CrossPairs.j2]
  rw [w64 (x := a + 1) (by omega) (by omega), w64 (x := b + 1) (by omega) (by omega), w64 (x := i + 1) (by omega) (by omega)]
  rw [if_pos h1, if_pos h0, if_pos (by omega)]
  by_cases c1 : rd l i > lo <;> by_cases c2 : rd l i < hi <;> by_cases c3 : rd l i < lo <;> by_cases c4 : rd l i > hi <;> simp [c1, c2, c3, c4, h0, show i < (l.length : Int) by omega] <;> (try (split <;> first | rfl | omega))
theorem sCrossPairs (k : Nat) (l0 l1 : List Int) (hk : 6 ≤ k) : spec_CrossPairs.f k l0 l1 = some (crossP l0 l1) := by
  obtain ⟨k, rfl⟩ : ∃ m, k = m + 6 := ⟨k - 6, by omega⟩
  unfold spec_CrossPairs.f crossP
  by_cases h0 : l0.length = 2
  · rw [if_pos (by omega)]
    by_cases h1 : l1.length = 2
    · rw [if_pos ⟨h0, h1⟩]
      simp only [spec_CrossPairs.j0]
      rw [if_neg (by simp; omega), if_pos (by omega), if_pos (by omega)]
      have hle : mn (rd l0 0) (rd l0 1) ≤ mx (rd l0 0) (rd l0 1) := by unfold mn mx; split <;> split <;> omega
      generalize mn (rd l0 0) (rd l0 1) = lo at hle ⊢
      generalize mx (rd l0 0) (rd l0 1) = hi at hle ⊢
      rw [sCross_round (k + 3) l1 lo hi 0 0 0 h1 (by omega) (by omega) (by omega) (by omega), sCross_round (k + 1) l1 lo hi _ _ (0 + 1) h1 (by omega) (by omega) (by split <;> omega) (by split <;> omega)]
      rw [spec_CrossPairs.l0, if_neg (by omega)]
      simp only [show (0 : Int) + 1 = 1 from rfl]
      generalize rd l1 0 = x
      generalize rd l1 1 = y
      unfold crossB
      by_cases a1 : lo < x <;> by_cases a2 : x < hi <;> by_cases a3 : x < lo <;> by_cases a4 : hi < x <;> by_cases b1 : lo < y <;> by_cases b2 : y < hi <;> by_cases b3 : y < lo <;> by_cases b4 : hi < y <;> first | (exfalso; omega) | simp [a1, a2, a3, a4, b1, b2, b3, b4]
    · rw [if_neg (fun z => h1 z.2)]
      simp only [spec_CrossPairs.j0]
      rw [if_pos (by simp; omega)]
  · rw [if_neg (by omega), if_neg (fun z => h0 z.1)]
    simp only [spec_CrossPairs.j0, if_true]
end Go.Proofs.Ytkkjlbpffcdlfaa.L
