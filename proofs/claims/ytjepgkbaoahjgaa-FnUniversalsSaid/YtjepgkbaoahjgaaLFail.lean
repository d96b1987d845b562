/- The first perfect maze and walker for which turns fail: the program and the reference look in the same order. -/
import Derived.Test.YtjepgkbaoahjgaaXcfail
import Derived.Test.YtjepgkbaoahjgaaXcfollow
import Derived.Test.YtjepgkbaoahjgaaXimplIsUniversal
import Derived.Test.YtjepgkbaoahjgaaLTrees
import Derived.Test.YtjepgkbaoahjgaaLCover
namespace Go.Proofs.Ytjepgkbaoahjgaa.L
open Go.RowKit Go.Proofs.Ytjepgkbaoahjgaa.X Go.Proofs.YtjepgkbaoahjgaaW.PrintWords Go.Proofs.YtjepgkbaoahjgaaW.PrintLast Go.Proofs.YtjepgkbaoahjgaaW.PrintMore
set_option linter.unusedSimpArgs false
set_option linter.unusedVariables false

def failIn (m : SM) (l : List Int) : Nat → Int → Option Int
  | 0, _ => none
  | n + 1, i => if covers m.f0.f0 m.f0.f1 m.f1 (i / 4) (i % 4) l = true then failIn m l n (i + 1) else some i
abbrev FF := Int × Int × Int × Int × Int × Bool
def ffOf (m : SM) (r : FF) : Option Int → FF
  | none => r
  | some i => (m.f0.f0, m.f0.f1, m.f1, i / 4, i % 4, true)
def failGo (l : List Int) (c : Nat) : List SM → FF
  | [] => (0, 0, 0, 0, 0, false)
  | m :: r => ffOf m (failGo l c r) (failIn m l c 0)
def few7 (w h : Int) (l : List Int) : Bool := gridOk w h && (decide (gaps w h ≤ 7) && turnsOk l)
def ff (w h : Int) (l : List Int) : FF := if few7 w h l = true then failGo l (4 * (cells w h).toNat) ((trees w h (fullO w h)).map (mkM w h)) else (0, 0, 0, 0, 0, false)
theorem few7_parts {w h : Int} {l : List Int} (z : few7 w h l = true) : gridOk w h = true ∧ gaps w h ≤ 7 ∧ turnsOk l = true := by
  unfold few7 at z
  simp only [Bool.and_eq_true, decide_eq_true_eq] at z
  exact z
theorem full_trees {w h : Int} (hg : gridOk w h = true) (h7 : gaps w h ≤ 7) : treeList w h (fullO w h) = (trees w h (fullO w h)).map (mkM w h) ∧ (fullO w h).toNat ≤ 127 ∧ ((trees w h (fullO w h)).map (mkM w h)).length ≤ 128 := by
  have f := full_ok hg
  have hgr := gaps_range w h
  have hp := Nat.pow_le_pow_right (show 0 < 2 by decide) (show (gaps w h).toNat ≤ 7 by omega)
  refine ⟨?_, by omega, ?_⟩
  · unfold treeList
    rw [if_pos ⟨f.1, by omega⟩]
  · rw [List.length_map]
    unfold trees
    refine Nat.le_trans (List.length_filter_le _ _) ?_
    rw [List.length_range]
    omega
theorem rdT_get' {l : List SM} {i : Int} (h0 : 0 ≤ i) (h1 : i < (l.length : Int)) : l.drop i.toNat = rd_T30 l i :: l.drop (i + 1).toNat := by
  rw [List.drop_eq_getElem_cons (show i.toNat < l.length by omega), show (i + 1).toNat = i.toNat + 1 by omega]
  congr 1
  unfold rd_T30
  rw [List.getD_eq_getElem?_getD, List.getElem?_eq_getElem (show i.toNat < l.length by omega)]
  rfl
theorem icanTry (w h : Int) (l : List Int) : impl_canTry.f w h l = some (few7 w h l) := by
  unfold impl_canTry.f few7
  rw [iGridOk, iCountGaps, iareTurns]
  simp only [Option.bind_some]
  cases gridOk w h
  · simp
  · by_cases z : gaps w h ≤ 7 <;> simp [z]
theorem iff_in (w h : Int) (l : List Int) (hl : l.length ≤ 400) (L : List SM) (m : SM) (j : Int) (R : FF) (K : Nat) (hK : 1000 ≤ K) (H : ∀ k, K ≤ k → impl_FirstFailure.l0 k l L (L.length : Int) (wrap64 (j + 1)) w h = some R) :
    ∀ (n k : Nat) (i : Int), 0 ≤ i → 4 * cells w h - i = n → K + n + 1 ≤ k → impl_FirstFailure.l1 k l i L (L.length : Int) j w h m.f0.f0 m.f0.f1 m.f1 = some (ffOf m R (failIn m l n i)) := by
  have hr := cells_range w h
  intro n
  induction n with
  | zero =>
    intro k i h0 hn hk
    obtain ⟨k, rfl⟩ : ∃ m, k = m + 1 := ⟨k - 1, by omega⟩
    rw [impl_FirstFailure.l1, iCountCells]
    simp only [Option.bind_some]
    rw [w64 (x := 4 * cells w h) (by omega) (by omega), if_neg (by omega), H k (by omega)]
    rfl
  | succ n ih =>
    intro k i h0 hn hk
    obtain ⟨k, rfl⟩ : ∃ m, k = m + 1 := ⟨k - 1, by omega⟩
    rw [impl_FirstFailure.l1, iCountCells]
    simp only [Option.bind_some]
    rw [w64 (x := 4 * cells w h) (by omega) (by omega), if_pos (by omega), tdiv_nn h0, tmod_nn h0, w64 (x := i / 4) (by omega) (by omega), w64 (x := i + 1) (by omega) (by omega), iCovers k _ _ _ _ _ l (by omega) (by omega)]
    simp only [Option.bind_some]
    rw [failIn]
    by_cases c : covers m.f0.f0 m.f0.f1 m.f1 (i / 4) (i % 4) l = true
    · rw [if_pos c, if_pos c]
      exact ih k (i + 1) (by omega) (by omega) (by omega)
    · rw [if_neg c, if_neg c]
      rfl
theorem iff_out (w h : Int) (l : List Int) (hl : l.length ≤ 400) (L : List SM) (hL : L.length ≤ 1000) : ∀ (d k : Nat) (j : Int), 0 ≤ j → j ≤ (L.length : Int) → (L.length : Int) - j = d → 70 * d + 1002 ≤ k →
    impl_FirstFailure.l0 k l L (L.length : Int) j w h = some (failGo l (4 * (cells w h).toNat) (L.drop j.toNat)) := by
  have hr := cells_range w h
  intro d
  induction d with
  | zero =>
    intro k j h0 h1 hd hk
    obtain ⟨k, rfl⟩ : ∃ m, k = m + 1 := ⟨k - 1, by omega⟩
    rw [impl_FirstFailure.l0, if_neg (by omega), List.drop_of_length_le (by omega)]
    rfl
  | succ d ih =>
    intro k j h0 h1 hd hk
    obtain ⟨k, rfl⟩ : ∃ m, k = m + 1 := ⟨k - 1, by omega⟩
    rw [impl_FirstFailure.l0, if_pos (by omega), if_pos h0, if_pos (by omega), rdT_get' h0 (by omega), failGo]
    exact iff_in w h l hl L _ j _ (70 * d + 1002) (by omega) (fun k hk => by rw [w64 (by omega) (by omega)]; exact ih k (j + 1) (by omega) (by omega) (by omega) hk) (4 * (cells w h).toNat) k 0 (by omega) (by omega) (by omega)
theorem iFF (k : Nat) (w h : Int) (l : List Int) (hk : 11000 ≤ k) : impl_FirstFailure.f k w h l = some (ff w h l) := by
  unfold impl_FirstFailure.f ff
  rw [icanTry]
  simp only [Option.bind_some]
  by_cases z : few7 w h l = true
  · obtain ⟨hg, h7, ht⟩ := few7_parts z
    obtain ⟨e, hf, hL⟩ := full_trees hg h7
    rw [if_pos z, if_pos z, iFullMaze, if_pos hg]
    simp only [Option.bind_some]
    rw [iListTrees k w h (fullO w h) (by omega), e]
    simp only [Option.bind_some]
    have := iff_out w h l (turnsOk_parts ht).1 _ (show ((trees w h (fullO w h)).map (mkM w h)).length ≤ 1000 by omega) ((trees w h (fullO w h)).map (mkM w h)).length k 0 (by omega) (by omega) (by omega) (by omega)
    simpa using this
  · rw [if_neg z, if_neg z]
def universal (w h : Int) (l : List Int) : Bool := few7 w h l && !(ff w h l).2.2.2.2.2
theorem iUniversal (k : Nat) (w h : Int) (l : List Int) (hk : 11000 ≤ k) : impl_IsUniversal.f k w h l = some (universal w h l) := by
  unfold impl_IsUniversal.f universal
  rw [iFF k w h l hk, icanTry]
  simp only [Option.bind_some]
  cases few7 w h l <;> simp
end Go.Proofs.Ytjepgkbaoahjgaa.L
