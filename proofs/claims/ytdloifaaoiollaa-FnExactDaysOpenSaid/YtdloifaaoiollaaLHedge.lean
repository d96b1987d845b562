/- Hedges: what HedgeOk computes, and the copying, counting and comparing of hedges. -/
import Derived.Test.YtdloifaaoiollaaXchedge
import Derived.Test.YtdloifaaoiollaaLGrid
namespace Go.Proofs.Ytdloifaaoiollaa.L
open Go.RowKit Go.Proofs.Ytdloifaaoiollaa.X Go.Proofs.YtdloifaaoiollaaW.PrintWords Go.Proofs.YtdloifaaoiollaaW.PrintLast Go.Proofs.YtdloifaaoiollaaW.PrintMore
set_option linter.unusedSimpArgs false
set_option linter.unusedVariables false

def hedgeOk (w h o : Int) (g : List Int) (lim : Int) : Bool := mazeOk w h o && (decide (1 ≤ lim ∧ lim ≤ 20) && (decide ((g.length : Int) = gaps w h) && g.all fun n => decide (0 ≤ n ∧ n ≤ 1000)))
theorem hedgeOk_parts {w h o : Int} {g : List Int} {lim : Int} (hh : hedgeOk w h o g lim = true) : mazeOk w h o = true ∧ 1 ≤ lim ∧ lim ≤ 20 ∧ (g.length : Int) = gaps w h ∧ ∀ n ∈ g, 0 ≤ n ∧ n ≤ 1000 := by
  unfold hedgeOk at hh
  simp only [Bool.and_eq_true, decide_eq_true_eq, List.all_eq_true] at hh
  exact ⟨hh.1, hh.2.1.1, hh.2.1.2, hh.2.2.1, hh.2.2.2⟩
theorem iHedgeOk (w h o : Int) (g : List Int) (lim : Int) : impl_HedgeOk.f w h o g lim = some (hedgeOk w h o g lim) := by
  unfold impl_HedgeOk.f hedgeOk contains_HedgeOk.f
  simp only [iMazeOk, iCountGaps, Option.bind_some]
  cases mazeOk w h o with
  | false => simp
  | true =>
    simp only [if_true, Bool.true_and]
    by_cases h1 : lim < 1
    · rw [if_pos h1]; have h4 : ¬ (1 ≤ lim ∧ lim ≤ 20) := by omega
      simp [h4]
    · rw [if_neg h1]
      by_cases h2 : lim > 20
      · rw [if_pos h2]; have h4 : ¬ (1 ≤ lim ∧ lim ≤ 20) := by omega
        simp [h4]
      · rw [if_neg h2]
        by_cases h3 : (g.length : Int) = gaps w h
        · rw [if_pos h3]
          have e : (!(g.any fun x => decide (x < 0) || decide (x > 1000))) = g.all fun n => decide (0 ≤ n ∧ n ≤ 1000) := by
            rw [List.any_eq_not_all_not, Bool.not_not]
            congr 1
            funext n
            rw [Bool.eq_iff_iff]
            simp <;> omega
          rw [e]
          have h4 : 1 ≤ lim ∧ lim ≤ 20 := by omega
          simp [h3, h4]
        · rw [if_neg h3]; simp [h3]
theorem sHedgeOk_go (w h o : Int) (g : List Int) (lim : Int) (hl : g.length ≤ 140737488355328) : ∀ (d k : Nat) (i : Int), 0 ≤ i → i ≤ (g.length : Int) → (g.length : Int) - i = d → d < k →
    spec_HedgeOk.l0 k i w h o g lim = some ((g.drop i.toNat).all (fun n => decide (0 ≤ n ∧ n ≤ 1000)) && (mazeOk w h o && (decide (1 ≤ lim ∧ lim ≤ 20) && decide ((g.length : Int) = gaps w h)))) := by
  intro d
  induction d with
  | zero =>
    intro k i h0 h1 hd hk
    obtain ⟨k, rfl⟩ := kpos hk
    simp only [spec_HedgeOk.l0]
    rw [if_neg (by omega), List.drop_of_length_le (by omega)]
    simp only [sMazeOk, sIn, sCountGaps, Option.bind_some, List.all_nil, Bool.true_and]
    cases mazeOk w h o with
    | false => simp
    | true =>
      by_cases h1 : 1 ≤ lim ∧ lim ≤ 20
      · by_cases h2 : (g.length : Int) = gaps w h <;> simp [h1, h2]
      · simp [h1]
  | succ d ih =>
    intro k i h0 h1 hd hk
    obtain ⟨k, rfl⟩ := kpos hk
    simp only [spec_HedgeOk.l0]
    rw [if_pos (by omega), if_pos h0, sIn, w64 (by omega) (by omega), ih k (i + 1) (by omega) (by omega) (by omega) (by omega), drop_cons h0 (by omega)]
    simp only [Option.bind_some, List.all_cons]
    by_cases h : 0 ≤ rd g i ∧ rd g i ≤ 1000 <;> simp [h]
theorem sHedgeOk (k : Nat) (w h o : Int) (g : List Int) (lim : Int) (hl : g.length ≤ 140737488355328) (hk : g.length < k) : spec_HedgeOk.f k w h o g lim = some (hedgeOk w h o g lim) := by
  unfold spec_HedgeOk.f hedgeOk
  rw [sHedgeOk_go w h o g lim hl g.length k 0 (by omega) (by omega) (by omega) hk]
  simp only [Int.toNat_zero, List.drop_zero, Option.some.injEq]
  cases mazeOk w h o <;> cases (g.all fun n => decide (0 ≤ n ∧ n ≤ 1000)) <;> simp
theorem toHedge (k : Nat) (w h o : Int) (g : List Int) (lim : Int) (hl : g.length ≤ 35184372088832) (hk : g.length < k) : laws_toHedge.f k w h o g lim = some (w, h, o, g, lim) := by
  unfold laws_toHedge.f laws_toMaze.f laws_toGrid.f
  simp only [toIntS k g hl hk, Option.bind_some]
theorem szHedge (w h o : Int) (g : List Int) (lim : Int) (hl : g.length ≤ 140737488355328) : laws_szHedge.f w h o g lim 1048576 = some (if g.length ≤ 1048576 then 1048576 - (g.length : Int) else -1) := by
  unfold laws_szHedge.f laws_szIntS.f
  rw [w64 (by omega) (by omega)]
  by_cases h : g.length ≤ 1048576
  · rw [if_neg (by omega), if_pos h]
    simp only [Option.bind_some]
    rw [if_neg (by omega)]
  · rw [if_pos (by omega), if_neg h]
    simp
theorem eqMaze (w h o w' h' o' : Int) : laws_eqMaze.f w h o w' h' o' = some (decide (w = w' ∧ h = h' ∧ o = o')) := by
  unfold laws_eqMaze.f laws_eqGrid.f
  by_cases a : w = w' <;> by_cases b : h = h' <;> by_cases c : o = o' <;> simp [a, b, c]
theorem eqHedge (k : Nat) (w h o : Int) (g : List Int) (lim : Int) (w' h' o' : Int) (g' : List Int) (lim' : Int) (hl : g.length ≤ 140737488355328) (hk : g.length < k) :
    laws_eqHedge.f k w h o g lim w' h' o' g' lim' = some (decide (w = w' ∧ h = h' ∧ o = o' ∧ g = g' ∧ lim = lim')) := by
  unfold laws_eqHedge.f
  simp only [eqMaze, eqIntS k g g' hl hk, Option.bind_some, decide_eq_true_eq]
  by_cases a : w = w' ∧ h = h' ∧ o = o'
  · rw [if_pos a]
    obtain ⟨a, b, c⟩ := a
    by_cases d : g = g' <;> by_cases e : lim = lim' <;> simp [a, b, c, d, e]
  · rw [if_neg a]
    have : ¬ (w = w' ∧ h = h' ∧ o = o' ∧ g = g' ∧ lim = lim') := fun z => a ⟨z.1, z.2.1, z.2.2.1⟩
    simp [this]
end Go.Proofs.Ytdloifaaoiollaa.L
