/- The program's ThreadTree returns what the reference's returns, for all arguments. No conditions. -/
import Derived.Test.YtjmbnlemfdjkfaaXlawsFnExactThreadTree
import Derived.Test.YtjmbnlemfdjkfaaXspecl14Direction
import Derived.Test.YtjmbnlemfdjkfaaLThread
import Derived.Test.YtjmbnlemfdjkfaaLTrees
namespace Go.Proofs.Ytjmbnlemfdjkfaa.Pure
open Go.RowKit Go.Proofs.Ytjmbnlemfdjkfaa.X Go.Proofs.Ytjmbnlemfdjkfaa.L Go.Proofs.YtjmbnlemfdjkfaaW.PrintWords Go.Proofs.YtjmbnlemfdjkfaaW.PrintLast
set_option linter.unusedSimpArgs false
set_option linter.unusedVariables false

theorem both (w h o st : Int) (ha : has w h o st = true) : ∃ l : List Int, (l.length : Int) = cells w h ∧ (∀ n, isCell w h n = true → -1 ≤ rd l n ∧ (0 ≤ rd l n → isCell w h (rd l n) = true)) ∧ (∀ k, 300 ≤ k → ∃ R, impl_thread.f k w h o st = some (some R) ∧ R.2.1 = l) ∧ (∀ k, 400 ≤ k → spec_EnteredFrom.f k w h o st = some l) := by
  obtain ⟨R, hi, hs, L, hl⟩ := thread_fin ha
  refine ⟨R.2.1, L.inv.len, L.inv.rng, fun k hk => ⟨R, hi k hk, rfl⟩, fun k hk => ?_⟩
  unfold spec_EnteredFrom.f
  rw [sHas]
  simp only [Option.bind_some]
  rw [if_pos ha, hs k hk]
  rfl
def dirTo (w h a b : Int) : Int := if nb w h a 0 = b then 0 else if nb w h a 1 = b then 1 else if nb w h a 2 = b then 2 else if nb w h a 3 = b then 3 else -1
def gapTo (w h a b : Int) : Int := gapAt w h a (dirTo w h a b)
def treeAdd (w h c f o : Int) : Int := if 0 ≤ f ∧ isGap w h (gapTo w h f c) = true then withO o (gapTo w h f c) true else o
def treeGo (w h : Int) : List Int → Int → Int → Int
  | [], _, o => o
  | f :: r, i, o => treeGo w h r (i + 1) (treeAdd w h i f o)
def in1 (w h c f d o : Int) : Int := if 0 ≤ f ∧ nb w h c d = f then withO o (gapAt w h c d) true else o
set_option maxRecDepth 100000 in
theorem facts0 : ∀ (x y : Fin 4) (c f : Fin 16), isCell ((x.val : Int) + 1) ((y.val : Int) + 1) (c.val : Int) = true → isCell ((x.val : Int) + 1) ((y.val : Int) + 1) (f.val : Int) = true →
    (isGap ((x.val : Int) + 1) ((y.val : Int) + 1) (gapTo ((x.val : Int) + 1) ((y.val : Int) + 1) (f.val : Int) (c.val : Int)) = false ∧ ∀ d : Fin 4, nb ((x.val : Int) + 1) ((y.val : Int) + 1) (c.val : Int) (d.val : Int) ≠ (f.val : Int)) ∨
    (isGap ((x.val : Int) + 1) ((y.val : Int) + 1) (gapTo ((x.val : Int) + 1) ((y.val : Int) + 1) (f.val : Int) (c.val : Int)) = true ∧ ∃ d : Fin 4, nb ((x.val : Int) + 1) ((y.val : Int) + 1) (c.val : Int) (d.val : Int) = (f.val : Int) ∧ gapAt ((x.val : Int) + 1) ((y.val : Int) + 1) (c.val : Int) (d.val : Int) = gapTo ((x.val : Int) + 1) ((y.val : Int) + 1) (f.val : Int) (c.val : Int) ∧ ∀ e : Fin 4, e ≠ d → nb ((x.val : Int) + 1) ((y.val : Int) + 1) (c.val : Int) (e.val : Int) ≠ (f.val : Int)) := by
  decide +kernel
theorem facts {w h c f : Int} (hc : isCell w h c = true) (hf : isCell w h f = true) :
    (isGap w h (gapTo w h f c) = false ∧ ∀ d : Fin 4, nb w h c (d.val : Int) ≠ f) ∨
    (isGap w h (gapTo w h f c) = true ∧ ∃ d : Fin 4, nb w h c (d.val : Int) = f ∧ gapAt w h c (d.val : Int) = gapTo w h f c ∧ ∀ e : Fin 4, e ≠ d → nb w h c (e.val : Int) ≠ f) := by
  obtain ⟨hg, c0, c1, c2⟩ := isCell_ok hc
  obtain ⟨_, f0, f1, f2⟩ := isCell_ok hf
  have hg' := gridOk_iff.1 hg
  have := facts0 ⟨(w - 1).toNat, by omega⟩ ⟨(h - 1).toNat, by omega⟩ ⟨c.toNat, by omega⟩ ⟨f.toNat, by omega⟩
  simp only [] at this
  rw [show (((w - 1).toNat : Nat) : Int) + 1 = w by omega, show (((h - 1).toNat : Nat) : Int) + 1 = h by omega, show ((c.toNat : Nat) : Int) = c by omega, show ((f.toNat : Nat) : Int) = f by omega] at this
  exact this hc hf
theorem in_all {w h c f o : Int} (hc : isCell w h c = true) (hf : f < 0 ∨ isCell w h f = true) :
    in1 w h c f 3 (in1 w h c f 2 (in1 w h c f 1 (in1 w h c f 0 o))) = treeAdd w h c f o ∧ ∀ d : Fin 4, 0 ≤ f → nb w h c (d.val : Int) = f → isGap w h (gapAt w h c (d.val : Int)) = true := by
  by_cases h0 : 0 ≤ f
  · have hf' : isCell w h f = true := by rcases hf with z | z; omega; exact z
    rcases facts hc hf' with ⟨g0, hn⟩ | ⟨g1, d, hd, hgd, hne⟩
    · refine ⟨?_, fun d _ z => absurd z (hn d)⟩
      have n0 : nb w h c 0 ≠ f := hn 0
      have n1 : nb w h c 1 ≠ f := hn 1
      have n2 : nb w h c 2 ≠ f := hn 2
      have n3 : nb w h c 3 ≠ f := hn 3
      simp [in1, treeAdd, n0, n1, n2, n3, g0]
    · refine ⟨?_, fun e _ z => ?_⟩
      · match d, hd, hgd, hne with
        | 0, hd, hgd, hne =>
          have m : nb w h c 0 = f := hd
          have n1 : nb w h c 1 ≠ f := hne 1 (by decide)
          have n2 : nb w h c 2 ≠ f := hne 2 (by decide)
          have n3 : nb w h c 3 ≠ f := hne 3 (by decide)
          have hgd : gapAt w h c 0 = gapTo w h f c := hgd
          simp only [in1, treeAdd, m, n1, n2, n3, g1, h0, hgd, and_self, and_false, if_true, if_false]
        | 1, hd, hgd, hne =>
          have m : nb w h c 1 = f := hd
          have n0 : nb w h c 0 ≠ f := hne 0 (by decide)
          have n2 : nb w h c 2 ≠ f := hne 2 (by decide)
          have n3 : nb w h c 3 ≠ f := hne 3 (by decide)
          have hgd : gapAt w h c 1 = gapTo w h f c := hgd
          simp only [in1, treeAdd, m, n0, n2, n3, g1, h0, hgd, and_self, and_false, if_true, if_false]
        | 2, hd, hgd, hne =>
          have m : nb w h c 2 = f := hd
          have n0 : nb w h c 0 ≠ f := hne 0 (by decide)
          have n1 : nb w h c 1 ≠ f := hne 1 (by decide)
          have n3 : nb w h c 3 ≠ f := hne 3 (by decide)
          have hgd : gapAt w h c 2 = gapTo w h f c := hgd
          simp only [in1, treeAdd, m, n0, n1, n3, g1, h0, hgd, and_self, and_false, if_true, if_false]
        | 3, hd, hgd, hne =>
          have m : nb w h c 3 = f := hd
          have n0 : nb w h c 0 ≠ f := hne 0 (by decide)
          have n1 : nb w h c 1 ≠ f := hne 1 (by decide)
          have n2 : nb w h c 2 ≠ f := hne 2 (by decide)
          have hgd : gapAt w h c 3 = gapTo w h f c := hgd
          simp only [in1, treeAdd, m, n0, n1, n2, g1, h0, hgd, and_self, and_false, if_true, if_false]
      · by_cases q : e = d
        · subst q
          rw [hgd]
          exact g1
        · exact absurd z (hne e q)
  · refine ⟨?_, fun d z _ => absurd z h0⟩
    simp [in1, treeAdd, h0]
theorem treeAdd_ok {w h c f o : Int} (hm : mazeOk w h o = true) : mazeOk w h (treeAdd w h c f o) = true := by
  unfold treeAdd
  split
  · next z => exact mazeOk_with true hm z.2
  · exact hm
theorem in1_ok {w h c f d o : Int} (hm : mazeOk w h o = true) (hg : 0 ≤ f → nb w h c d = f → isGap w h (gapAt w h c d) = true) : mazeOk w h (in1 w h c f d o) = true := by
  unfold in1
  split
  · next z => exact mazeOk_with true hm (hg z.1 z.2)
  · exact hm
theorem round (k : Nat) (hk : 5 ≤ k) (w h c f d n i o oo : Int) (l : List Int) (hd : 0 ≤ d ∧ d ≤ 3) (hm : mazeOk w h oo = true) (hg : 0 ≤ f → nb w h c d = f → isGap w h (gapAt w h c d) = true) :
    impl_ThreadTree.l1 (k + 2) c f d l n i w h o w h oo = impl_ThreadTree.l1 k c f (d + 1) l n i w h o w h (in1 w h c f d oo) := by
  have hmm := mazeOk_ok hm
  have hgr := gaps_range w h
  rw [impl_ThreadTree.l1, if_pos hd.2]
  unfold in1
  by_cases h0 : 0 ≤ f
  · rw [if_pos (show f ≥ 0 from h0), iNeighbor (k + 1) w h c d (by omega)]
    simp only [Option.bind_some]
    rw [impl_ThreadTree.j2]
    by_cases e : nb w h c d = f
    · have gg := hg h0 e
      unfold isGap at gg
      have gg := of_decide_eq_true gg
      rw [if_pos (show (nb w h c d == f) = true by rw [e]; exact beq_self_eq_true f), iGapAt k w h c d (by omega)]
      simp only [Option.bind_some]
      rw [iWith w h oo _ true hmm.2.1 hmm.2.2.2 gg.1 (by omega)]
      simp only [Option.bind_some]
      rw [if_pos ⟨h0, e⟩, w64 (by omega) (by omega)]
    · rw [if_neg (show ¬ (nb w h c d == f) = true by rw [beq_iff_eq]; exact e), if_neg (fun z => e z.2), w64 (by omega) (by omega)]
  · rw [if_neg (show ¬ f ≥ 0 from h0), impl_ThreadTree.j2, if_neg (by simp), if_neg (fun z => h0 z.1), w64 (by omega) (by omega)]
theorem inner (k : Nat) (hk : 5 ≤ k) (w h c f n i o oo : Int) (l : List Int) (hi : 0 ≤ i ∧ i ≤ 100) (hc : isCell w h c = true) (hf : f < 0 ∨ isCell w h f = true) (hm : mazeOk w h oo = true) :
    impl_ThreadTree.l1 (k + 9) c f 0 l n i w h o w h oo = impl_ThreadTree.l0 k l n (i + 1) w h o w h (treeAdd w h c f oo) := by
  obtain ⟨e, hg⟩ := in_all (o := oo) hc hf
  have g0 : 0 ≤ f → nb w h c 0 = f → isGap w h (gapAt w h c 0) = true := hg 0
  have g1 : 0 ≤ f → nb w h c 1 = f → isGap w h (gapAt w h c 1) = true := hg 1
  have g2 : 0 ≤ f → nb w h c 2 = f → isGap w h (gapAt w h c 2) = true := hg 2
  have g3 : 0 ≤ f → nb w h c 3 = f → isGap w h (gapAt w h c 3) = true := hg 3
  have m1 := in1_ok hm g0
  have m2 := in1_ok m1 g1
  have m3 := in1_ok m2 g2
  rw [round (k + 7) (by omega) w h c f 0 n i o oo l (by omega) hm g0, show (0 : Int) + 1 = 1 by omega, round (k + 5) (by omega) w h c f 1 n i o _ l (by omega) m1 g1, show (1 : Int) + 1 = 2 by omega, round (k + 3) (by omega) w h c f 2 n i o _ l (by omega) m2 g2, show (2 : Int) + 1 = 3 by omega, round (k + 1) (by omega) w h c f 3 n i o _ l (by omega) m3 g3, show (3 : Int) + 1 = 4 by omega, e, impl_ThreadTree.l1, if_neg (by omega), w64 (by omega) (by omega)]
theorem iTree_go (w h o : Int) (l : List Int) (hl : (l.length : Int) = cells w h) (hr : ∀ n, isCell w h n = true → -1 ≤ rd l n ∧ (0 ≤ rd l n → isCell w h (rd l n) = true)) : ∀ (m k : Nat) (i oo : Int), 0 ≤ i → i ≤ (l.length : Int) → (l.length : Int) - i = m → 10 * m + 300 ≤ k → mazeOk w h oo = true →
    impl_ThreadTree.l0 k l (l.length : Int) i w h o w h oo = some (w, h, treeGo w h (l.drop i.toNat) i oo, perfect w h (treeGo w h (l.drop i.toNat) i oo)) := by
  have hcr := cells_range w h
  intro m
  induction m with
  | zero =>
    intro k i oo h0 h1 hd hk hm
    obtain ⟨k, rfl⟩ : ∃ z, k = z + 1 := ⟨k - 1, by omega⟩
    rw [impl_ThreadTree.l0, if_neg (by omega), iPerfect k w h oo (by omega), List.drop_of_length_le (by omega)]
    rfl
  | succ m ih =>
    intro k i oo h0 h1 hd hk hm
    obtain ⟨k, rfl⟩ : ∃ z, k = z + 10 := ⟨k - 10, by omega⟩
    have hc : isCell w h i = true := by unfold isCell; exact decide_eq_true ⟨h0, by omega⟩
    have hf : rd l i < 0 ∨ isCell w h (rd l i) = true := by
      by_cases z : 0 ≤ rd l i
      · exact .inr ((hr i hc).2 z)
      · exact .inl (by omega)
    rw [impl_ThreadTree.l0, if_pos (by omega), if_pos h0, if_pos (by omega), inner k (by omega) w h i (rd l i) _ i o oo l (by omega) hc hf hm, drop_cons h0 (by omega), ih k (i + 1) _ (by omega) (by omega) (by omega) (by omega) (treeAdd_ok hm)]
    rfl
theorem sDir_one (k : Nat) (w h a b x : Int) (hx : 0 ≤ x ∧ x ≤ 3) (hk : 4 ≤ k) : spec_l14Direction.l0 (k + 1) a b x w h = if nb w h a x = b then some x else spec_l14Direction.l0 k a b (x + 1) w h := by
  rw [spec_l14Direction.l0, if_pos hx.2, sNeighbor k w h a x (by omega)]
  simp only [Option.bind_some]
  rw [w64 (by omega) (by omega)]
theorem sDir (k : Nat) (w h a b : Int) (hk : 20 ≤ k) : spec_l14Direction.f k w h a b = some (dirTo w h a b) := by
  obtain ⟨k, rfl⟩ : ∃ z, k = z + 5 := ⟨k - 5, by omega⟩
  have last : spec_l14Direction.l0 (k + 1) a b 4 w h = some (-1) := by
    rw [spec_l14Direction.l0, if_neg (by omega)]
  unfold spec_l14Direction.f dirTo
  rw [sDir_one (k + 4) w h a b 0 (by omega) (by omega), show (0 : Int) + 1 = 1 by omega, sDir_one (k + 3) w h a b 1 (by omega) (by omega), show (1 : Int) + 1 = 2 by omega, sDir_one (k + 2) w h a b 2 (by omega) (by omega), show (2 : Int) + 1 = 3 by omega, sDir_one (k + 1) w h a b 3 (by omega) (by omega), show (3 : Int) + 1 = 4 by omega, last]
  by_cases a0 : nb w h a 0 = b
  · rw [if_pos a0, if_pos a0]
  · rw [if_neg a0, if_neg a0]
    by_cases a1 : nb w h a 1 = b
    · rw [if_pos a1, if_pos a1]
    · rw [if_neg a1, if_neg a1]
      by_cases a2 : nb w h a 2 = b
      · rw [if_pos a2, if_pos a2]
      · rw [if_neg a2, if_neg a2]
        by_cases a3 : nb w h a 3 = b
        · rw [if_pos a3, if_pos a3]
        · rw [if_neg a3, if_neg a3]
theorem sTree_go (w h o : Int) (l : List Int) (hl : (l.length : Int) = cells w h) : ∀ (m k : Nat) (i oo : Int), 0 ≤ i → i ≤ (l.length : Int) → (l.length : Int) - i = m → m + 300 ≤ k → mazeOk w h oo = true →
    spec_ThreadTree.l0 k l i w h o w h oo = some (w, h, treeGo w h (l.drop i.toNat) i oo, perfect w h (treeGo w h (l.drop i.toNat) i oo)) := by
  have hcr := cells_range w h
  intro m
  induction m with
  | zero =>
    intro k i oo h0 h1 hd hk hm
    obtain ⟨k, rfl⟩ : ∃ z, k = z + 1 := ⟨k - 1, by omega⟩
    rw [spec_ThreadTree.l0, if_neg (by omega), sPerfect k w h oo (by omega), List.drop_of_length_le (by omega)]
    rfl
  | succ m ih =>
    intro k i oo h0 h1 hd hk hm
    obtain ⟨k, rfl⟩ : ∃ z, k = z + 1 := ⟨k - 1, by omega⟩
    have key := ih k (i + 1) (treeAdd w h i (rd l i) oo) (by omega) (by omega) (by omega) (by omega) (treeAdd_ok hm)
    rw [spec_ThreadTree.l0, if_pos (by omega), if_pos h0, drop_cons h0 (by omega), treeGo, w64 (x := i + 1) (by omega) (by omega)]
    by_cases z : 0 ≤ rd l i
    · rw [if_pos (show rd l i ≥ 0 from z), sDir k w h _ i (by omega)]
      simp only [Option.bind_some]
      rw [sGapAt k w h _ _ (by omega)]
      simp only [Option.bind_some]
      by_cases g : isGap w h (gapTo w h (rd l i) i) = true
      · rw [show treeAdd w h i (rd l i) oo = withO oo (gapTo w h (rd l i) i) true from if_pos ⟨z, g⟩] at key ⊢
        have q := sSetGap k w h oo (gapTo w h (rd l i) i) true (by omega) hm g
        unfold gapTo at q key ⊢
        rw [q]
        simp only [Option.bind_some]
        exact key
      · rw [show treeAdd w h i (rd l i) oo = oo from if_neg (fun y => g y.2)] at key ⊢
        have q := sSetGap_no k w h oo (gapTo w h (rd l i) i) true (by omega) (.inr (by simpa using g))
        unfold gapTo at q
        rw [q]
        simp only [Option.bind_some]
        exact key
    · rw [show treeAdd w h i (rd l i) oo = oo from if_neg (fun y => z y.1)] at key ⊢
      rw [if_neg (show ¬ rd l i ≥ 0 from z)]
      exact key
theorem FnExactThreadTree : laws_FnExactThreadTree.Pure := by
  intro w h o st _ _ _ _
  refine ⟨2000, ?_⟩
  unfold laws_FnExactThreadTree.f laws_toMaze.f laws_toGrid.f
  simp only [Option.bind_some]
  have key : ∃ r, spec_ThreadTree.f 2000 w h o st = some r ∧ impl_ThreadTree.f 2000 w h o st = some r := by
    by_cases ha : has w h o st = true
    · obtain ⟨l, hl, hr, hi, hs⟩ := both w h o st ha
      obtain ⟨R, hR, rfl⟩ := hi 2000 (by omega)
      have hcr := cells_range w h
      have hm : mazeOk w h 0 = true := by
        have hg := (mazeOk_ok (has_parts ha).1).1
        have hp := pow_le_24 (gaps_range w h).1 (gaps_range w h).2
        unfold mazeOk
        rw [hg, Bool.true_and]
        exact decide_eq_true ⟨by omega, by omega⟩
      refine ⟨(w, h, treeGo w h R.2.1 0 0, perfect w h (treeGo w h R.2.1 0 0)), ?_, ?_⟩
      rotate_left
      · unfold impl_ThreadTree.f
        rw [hR]
        simp only [Option.bind_some]
        exact iTree_go w h o R.2.1 hl hr R.2.1.length 2000 0 0 (by omega) (by omega) (by omega) (by omega) hm
      · unfold spec_ThreadTree.f
        rw [sHas]
        simp only [Option.bind_some]
        rw [if_pos ha, hs 2000 (by omega)]
        simp only [Option.bind_some]
        exact sTree_go w h o R.2.1 hl R.2.1.length 2000 0 0 (by omega) (by omega) (by omega) (by omega) hm
    · refine ⟨(0, 0, 0, false), ?_, ?_⟩
      · unfold spec_ThreadTree.f
        rw [sHas]
        simp only [Option.bind_some]
        rw [if_neg ha]
      · unfold impl_ThreadTree.f impl_thread.f
        rw [iisIn1]
        simp only [Option.bind_some]
        rw [if_neg ha]
        rfl
  obtain ⟨r, e1, e2⟩ := key
  rw [e1, e2]
  simp only [Option.bind_some]
  unfold laws_eqMaze.f laws_eqGrid.f
  simp
end Go.Proofs.Ytjmbnlemfdjkfaa.Pure
