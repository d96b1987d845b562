/- The tree of a thread, as the program makes it: one round a cell. -/
import Derived.Test.YtceikdeladdbpaaXimplThreadTree
import Derived.Test.YtceikdeladdbpaaLThread
import Derived.Test.YtceikdeladdbpaaLTrees
namespace Go.Proofs.Ytceikdeladdbpaa.Pure
open Go.RowKit Go.Proofs.Ytceikdeladdbpaa.X Go.Proofs.Ytceikdeladdbpaa.L Go.Proofs.YtceikdeladdbpaaW.PrintWords Go.Proofs.YtceikdeladdbpaaW.PrintLast
set_option linter.unusedSimpArgs false
set_option linter.unusedVariables false
def dirTo (w h a b : Int) : Int := if nb w h a 0 = b then 0 else if nb w h a 1 = b then 1 else if nb w h a 2 = b then 2 else if nb w h a 3 = b then 3 else -1
def gapTo (w h a b : Int) : Int := gapAt w h a (dirTo w h a b)
def treeAdd (w h c f o : Int) : Int := if 0 ≤ f ∧ isGap w h (gapTo w h f c) = true then withO o (gapTo w h f c) true else o
def treeGo (w h : Int) : List Int → Int → Int → Int
  | [], _, o => o
  | f :: r, i, o => treeGo w h r (i + 1) (treeAdd w h i f o)
def in1 (w h c f d o : Int) : Int := if 0 ≤ f ∧ nb w h c d = f then withO o (gapAt w h c d) true else o
set_option maxRecDepth 100000 in
theorem facts0 : ∀ (x y : Fin 4) (c f : Fin 16), isCell ((x.val : Int) + 1) ((y.val : Int) + 1) (c.val : Int) = true → isCell ((x.val : Int) + 1) ((y.val : Int) + 1) (f.val : Int) = true →
    (isGap ((x.val : Int) + 1) ((y.val : Int) + 1) (gapTo ((x.val : Int) + 1) ((y.val : Int) + 1) (f.val : Int) (c.val : Int)) = false ∧ ∀ d : Fin 4, nb ((x.val : Int) + 1) ((y.val : Int) + 1) (c.val : Int) (d.val : Int) ≠ (f.val : Int)) ∨
    (isGap ((x.val : Int) + 1) ((y.val : Int) + 1) (gapTo ((x.val : Int) + 1) ((y.val : Int) + 1) (f.val : Int) (c.val : Int)) = true ∧ ∃ d : Fin 4, nb ((x.val : Int) + 1) ((y.val : Int) + 1) (c.val : Int) (d.val : Int) = (f.val : Int) ∧ gapAt ((x.val : Int) + 1) ((y.val : Int) + 1) (c.val : Int) (d.val : Int) = gapTo ((x.val : Int) + 1) ((y.val : Int) + 1) (f.val : Int) (c.val : Int) ∧ ∀ e : Fin 4, e ≠ d → nb ((x.val : Int) + 1) ((y.val : Int) + 1) (c.val : Int) (e.val : Int) ≠ (f.val : Int)) := by
  decide +kernel
theorem facts {w h c f : Int} (hc : isCell w h c = true) (hf : isCell w h f = true) :
    (isGap w h (gapTo w h f c) = false ∧ ∀ d : Fin 4, nb w h c (d.val : Int) ≠ f) ∨
    (isGap w h (gapTo w h f c) = true ∧ ∃ d : Fin 4, nb w h c (d.val : Int) = f ∧ gapAt w h c (d.val : Int) = gapTo w h f c ∧ ∀ e : Fin 4, e ≠ d → nb w h c (e.val : Int) ≠ f) := by
  obtain ⟨hg, c0, c1, c2⟩ := isCell_ok hc
  obtain ⟨_, f0, f1, f2⟩ := isCell_ok hf
  have hg' := gridOk_iff.1 hg
  have := facts0 ⟨(w - 1).toNat, by omega⟩ ⟨(h - 1).toNat, by omega⟩ ⟨c.toNat, by omega⟩ ⟨f.toNat, by omega⟩
  simp only [] at this
  rw [show (((w - 1).toNat : Nat) : Int) + 1 = w by omega, show (((h - 1).toNat : Nat) : Int) + 1 = h by omega, show ((c.toNat : Nat) : Int) = c by omega, show ((f.toNat : Nat) : Int) = f by omega] at this
  exact this hc hf
theorem in_all {w h c f o : Int} (hc : isCell w h c = true) (hf : f < 0 ∨ isCell w h f = true) :
    in1 w h c f 3 (in1 w h c f 2 (in1 w h c f 1 (in1 w h c f 0 o))) = treeAdd w h c f o ∧ ∀ d : Fin 4, 0 ≤ f → nb w h c (d.val : Int) = f → isGap w h (gapAt w h c (d.val : Int)) = true := by
  by_cases h0 : 0 ≤ f
  · have hf' : isCell w h f = true := by rcases hf with z | z; omega; exact z
    rcases facts hc hf' with ⟨g0, hn⟩ | ⟨g1, d, hd, hgd, hne⟩
    · refine ⟨?_, fun d _ z => absurd z (hn d)⟩
      have n0 : nb w h c 0 ≠ f := hn 0
      have n1 : nb w h c 1 ≠ f := hn 1
      have n2 : nb w h c 2 ≠ f := hn 2
      have n3 : nb w h c 3 ≠ f := hn 3
      simp [in1, treeAdd, n0, n1, n2, n3, g0]
    · refine ⟨?_, fun e _ z => ?_⟩
      · match d, hd, hgd, hne with
        | 0, hd, hgd, hne =>
          have m : nb w h c 0 = f := hd
          have n1 : nb w h c 1 ≠ f := hne 1 (by decide)
          have n2 : nb w h c 2 ≠ f := hne 2 (by decide)
          have n3 : nb w h c 3 ≠ f := hne 3 (by decide)
          have hgd : gapAt w h c 0 = gapTo w h f c := hgd
          simp only [in1, treeAdd, m, n1, n2, n3, g1, h0, hgd, and_self, and_false, if_true, if_false]
        | 1, hd, hgd, hne =>
          have m : nb w h c 1 = f := hd
          have n0 : nb w h c 0 ≠ f := hne 0 (by decide)
          have n2 : nb w h c 2 ≠ f := hne 2 (by decide)
          have n3 : nb w h c 3 ≠ f := hne 3 (by decide)
          have hgd : gapAt w h c 1 = gapTo w h f c := hgd
          simp only [in1, treeAdd, m, n0, n2, n3, g1, h0, hgd, and_self, and_false, if_true, if_false]
        | 2, hd, hgd, hne =>
          have m : nb w h c 2 = f := hd
          have n0 : nb w h c 0 ≠ f := hne 0 (by decide)
          have n1 : nb w h c 1 ≠ f := hne 1 (by decide)
          have n3 : nb w h c 3 ≠ f := hne 3 (by decide)
          have hgd : gapAt w h c 2 = gapTo w h f c := hgd
          simp only [in1, treeAdd, m, n0, n1, n3, g1, h0, hgd, and_self, and_false, if_true, if_false]
        | 3, hd, hgd, hne =>
          have m : nb w h c 3 = f := hd
          have n0 : nb w h c 0 ≠ f := hne 0 (by decide)
          have n1 : nb w h c 1 ≠ f := hne 1 (by decide)
          have n2 : nb w h c 2 ≠ f := hne 2 (by decide)
          have hgd : gapAt w h c 3 = gapTo w h f c := hgd
          simp only [in1, treeAdd, m, n0, n1, n2, g1, h0, hgd, and_self, and_false, if_true, if_false]
      · by_cases q : e = d
        · subst q
          rw [hgd]
          exact g1
        · exact absurd z (hne e q)
  · refine ⟨?_, fun d z _ => absurd z h0⟩
    simp [in1, treeAdd, h0]
theorem treeAdd_ok {w h c f o : Int} (hm : mazeOk w h o = true) : mazeOk w h (treeAdd w h c f o) = true := by
  unfold treeAdd
  split
  · next z => exact mazeOk_with true hm z.2
  · exact hm
theorem in1_ok {w h c f d o : Int} (hm : mazeOk w h o = true) (hg : 0 ≤ f → nb w h c d = f → isGap w h (gapAt w h c d) = true) : mazeOk w h (in1 w h c f d o) = true := by
  unfold in1
  split
  · next z => exact mazeOk_with true hm (hg z.1 z.2)
  · exact hm
theorem round (k : Nat) (hk : 5 ≤ k) (w h c f d n i o oo : Int) (l : List Int) (hd : 0 ≤ d ∧ d ≤ 3) (hm : mazeOk w h oo = true) (hg : 0 ≤ f → nb w h c d = f → isGap w h (gapAt w h c d) = true) :
    impl_ThreadTree.l1 (k + 2) c f d l n i w h o w h oo = impl_ThreadTree.l1 k c f (d + 1) l n i w h o w h (in1 w h c f d oo) := by
  have hmm := mazeOk_ok hm
  have hgr := gaps_range w h
  rw [impl_ThreadTree.l1, if_pos hd.2]
  unfold in1
  by_cases h0 : 0 ≤ f
  · rw [if_pos (show f ≥ 0 from h0), iNeighbor (k + 1) w h c d (by omega)]
    simp only [Option.bind_some]
    rw [impl_ThreadTree.j2]
    by_cases e : nb w h c d = f
    · have gg := hg h0 e
      unfold isGap at gg
      have gg := of_decide_eq_true gg
      rw [if_pos (show (nb w h c d == f) = true by rw [e]; exact beq_self_eq_true f), iGapAt k w h c d (by omega)]
      simp only [Option.bind_some]
      rw [iWith w h oo _ true hmm.2.1 hmm.2.2.2 gg.1 (by omega)]
      simp only [Option.bind_some]
      rw [if_pos ⟨h0, e⟩, w64 (by omega) (by omega)]
    · rw [if_neg (show ¬ (nb w h c d == f) = true by rw [beq_iff_eq]; exact e), if_neg (fun z => e z.2), w64 (by omega) (by omega)]
  · rw [if_neg (show ¬ f ≥ 0 from h0), impl_ThreadTree.j2, if_neg (by simp), if_neg (fun z => h0 z.1), w64 (by omega) (by omega)]
theorem inner (k : Nat) (hk : 5 ≤ k) (w h c f n i o oo : Int) (l : List Int) (hi : 0 ≤ i ∧ i ≤ 100) (hc : isCell w h c = true) (hf : f < 0 ∨ isCell w h f = true) (hm : mazeOk w h oo = true) :
    impl_ThreadTree.l1 (k + 9) c f 0 l n i w h o w h oo = impl_ThreadTree.l0 k l n (i + 1) w h o w h (treeAdd w h c f oo) := by
  obtain ⟨e, hg⟩ := in_all (o := oo) hc hf
  have g0 : 0 ≤ f → nb w h c 0 = f → isGap w h (gapAt w h c 0) = true := hg 0
  have g1 : 0 ≤ f → nb w h c 1 = f → isGap w h (gapAt w h c 1) = true := hg 1
  have g2 : 0 ≤ f → nb w h c 2 = f → isGap w h (gapAt w h c 2) = true := hg 2
  have g3 : 0 ≤ f → nb w h c 3 = f → isGap w h (gapAt w h c 3) = true := hg 3
  have m1 := in1_ok hm g0
  have m2 := in1_ok m1 g1
  have m3 := in1_ok m2 g2
  rw [round (k + 7) (by omega) w h c f 0 n i o oo l (by omega) hm g0, show (0 : Int) + 1 = 1 by omega, round (k + 5) (by omega) w h c f 1 n i o _ l (by omega) m1 g1, show (1 : Int) + 1 = 2 by omega, round (k + 3) (by omega) w h c f 2 n i o _ l (by omega) m2 g2, show (2 : Int) + 1 = 3 by omega, round (k + 1) (by omega) w h c f 3 n i o _ l (by omega) m3 g3, show (3 : Int) + 1 = 4 by omega, e, impl_ThreadTree.l1, if_neg (by omega), w64 (by omega) (by omega)]
theorem iTree_go (w h o : Int) (l : List Int) (hl : (l.length : Int) = cells w h) (hr : ∀ n, isCell w h n = true → -1 ≤ rd l n ∧ (0 ≤ rd l n → isCell w h (rd l n) = true)) : ∀ (m k : Nat) (i oo : Int), 0 ≤ i → i ≤ (l.length : Int) → (l.length : Int) - i = m → 10 * m + 300 ≤ k → mazeOk w h oo = true →
    impl_ThreadTree.l0 k l (l.length : Int) i w h o w h oo = some (w, h, treeGo w h (l.drop i.toNat) i oo, perfect w h (treeGo w h (l.drop i.toNat) i oo)) := by
  have hcr := cells_range w h
  intro m
  induction m with
  | zero =>
    intro k i oo h0 h1 hd hk hm
    obtain ⟨k, rfl⟩ : ∃ z, k = z + 1 := ⟨k - 1, by omega⟩
    rw [impl_ThreadTree.l0, if_neg (by omega), iPerfect k w h oo (by omega), List.drop_of_length_le (by omega)]
    rfl
  | succ m ih =>
    intro k i oo h0 h1 hd hk hm
    obtain ⟨k, rfl⟩ : ∃ z, k = z + 10 := ⟨k - 10, by omega⟩
    have hc : isCell w h i = true := by unfold isCell; exact decide_eq_true ⟨h0, by omega⟩
    have hf : rd l i < 0 ∨ isCell w h (rd l i) = true := by
      by_cases z : 0 ≤ rd l i
      · exact .inr ((hr i hc).2 z)
      · exact .inl (by omega)
    rw [impl_ThreadTree.l0, if_pos (by omega), if_pos h0, if_pos (by omega), inner k (by omega) w h i (rd l i) _ i o oo l (by omega) hc hf hm, drop_cons h0 (by omega), ih k (i + 1) _ (by omega) (by omega) (by omega) (by omega) (treeAdd_ok hm)]
    rfl
end Go.Proofs.Ytceikdeladdbpaa.Pure
