/- A drawn timetable is valid. -/
import Derived.Test.YtlfomjhjeknnmaaXspecDrawTimed
import Derived.Test.YtlfomjhjeknnmaaXspecl01Once
import Derived.Test.YtlfomjhjeknnmaaXspecl29Timed
import Derived.Test.YtlfomjhjeknnmaaLTree
import Derived.Test.YtlfomjhjeknnmaaLTimed
namespace Go.Proofs.Ytlfomjhjeknnmaa.L
open Go.RowKit Go.Proofs.Ytlfomjhjeknnmaa.X Go.Proofs.YtlfomjhjeknnmaaW.PrintWords Go.Proofs.YtlfomjhjeknnmaaW.PrintLast Go.Proofs.YtlfomjhjeknnmaaW.PrintMore
set_option linter.unusedSimpArgs false
set_option linter.unusedVariables false

theorem once_ok (s : List Int) (i h n : Int) (h0 : 0 ≤ i) (h1 : i ≤ (s.length : Int)) (hl : s.length ≤ 140737488355328) (hn : 1 ≤ n) (hn2 : n ≤ 256) : ∃ b i' h', spec_l01Once.f s i h n = some (b, i', h') ∧ 0 ≤ i' ∧ i' ≤ (s.length : Int) := by
  obtain ⟨v, i', h', e, _, _, c, d⟩ := below_ok s i h n h0 h1 hl hn hn2
  unfold spec_l01Once.f
  rw [e]
  exact ⟨_, _, _, rfl, c, d⟩
/-- Gates that have been drawn below gap x. -/
structure GInv (w h o p : Int) (l : List Gt) (x : Int) : Prop where
  len : l.length ≤ 5
  all : AllFrom (gateOk w h o p l) 0 l.length
  low : ∀ y ∈ l, y.f0 < x
theorem gt_app {l m : List Gt} {i : Int} (h0 : 0 ≤ i) (h1 : i < (l.length : Int)) : gt (l ++ m) i = gt l i := by
  rw [gt_get h0 (by rw [List.length_append]; omega), gt_get h0 h1, List.getElem_append_left]
theorem gt_mem {l : List Gt} {i : Int} (h0 : 0 ≤ i) (h1 : i < (l.length : Int)) : gt l i ∈ l := by
  rw [gt_get h0 h1]
  exact List.getElem_mem _
theorem GInv.snoc {w h o p : Int} {l : List Gt} {x t : Int} (I : GInv w h o p l x) (h5 : l.length < 5) (hp : isPass w h o x = true) (t0 : 0 ≤ t) (t1 : t < 2 ^ p.toNat) : GInv w h o p (l ++ [(⟨x, t⟩ : Gt)]) (x + 1) := by
  have last : gt (l ++ [(⟨x, t⟩ : Gt)]) (l.length : Int) = ⟨x, t⟩ := by
    rw [gt_get (by omega) (by rw [List.length_append, List.length_singleton]; omega)]
    simp
  refine ⟨by rw [List.length_append, List.length_singleton]; omega, fun i h0 h1 => ?_, fun y hy => ?_⟩
  · rw [List.length_append, List.length_singleton] at h1
    by_cases e : i = (l.length : Int)
    · subst e
      unfold gateOk
      rw [last]
      refine ⟨hp, fun h2 => ?_, t0, t1⟩
      rw [gt_app (by omega) (by omega)]
      exact I.low _ (gt_mem (by omega) (by omega))
    · have := I.all i h0 (by omega)
      unfold gateOk at this ⊢
      rw [gt_app h0 (by omega)]
      refine ⟨this.1, fun h2 => ?_, this.2.2⟩
      rw [gt_app (by omega) (by omega)]
      exact this.2.1 h2
  · rcases List.mem_append.1 hy with hy | hy
    · have := I.low y hy; omega
    · rw [List.mem_singleton.1 hy]
      show x < x + 1
      omega
theorem GInv.up {w h o p : Int} {l : List Gt} {x : Int} (I : GInv w h o p l x) : GInv w h o p l (x + 1) := ⟨I.len, I.all, fun y hy => by have := I.low y hy; omega⟩
open Classical in
theorem gates_go (s : List Int) (hs : s.length ≤ 140737488355328) (w h o p : Int) (hm : mazeOk w h o = true) (hp0 : 1 ≤ p) (hp1 : p ≤ 6) : ∀ (d K : Nat) (x i g : Int) (l : List Gt), 0 ≤ x → gaps w h - x = d → 2 * d + 2 ≤ K → 0 ≤ i → i ≤ (s.length : Int) → GInv w h o p l x →
    ∃ l' i' g', spec_l29Timed.l0 K (gaps w h) x s i g w h o w h o p l = some (w, h, o, p, l', i', g') ∧ timedOk w h o p l' = true ∧ 0 ≤ i' ∧ i' ≤ (s.length : Int) := by
  have hr := gaps_range w h
  have hmo := mazeOk_ok hm
  have hpw := pow_le_24 (n := p) (by omega) (by omega)
  have fin : ∀ (K : Nat) (x i g : Int) (l : List Gt), 0 ≤ i → i ≤ (s.length : Int) → GInv w h o p l x → ∃ l' i' g', spec_l29Timed.j3 (K + 1) (gaps w h) x false s i g w h o w h o p l = some (w, h, o, p, l', i', g') ∧ timedOk w h o p l' = true ∧ 0 ≤ i' ∧ i' ≤ (s.length : Int) := fun K x i g l i0 i1 I => by
    rw [spec_l29Timed.j3, if_neg (by simp)]
    refine ⟨l, i, g, rfl, ?_, i0, i1⟩
    unfold timedOk
    exact decide_eq_true ⟨hm, ⟨hp0, hp1⟩, by have := I.len; omega, I.all⟩
  intro d
  induction d with
  | zero =>
    intro K x i g l h0 hd hK i0 i1 I
    obtain ⟨K, rfl⟩ : ∃ m, K = m + 2 := ⟨K - 2, by omega⟩
    rw [spec_l29Timed.l0, if_neg (by omega)]
    exact fin K x i g l i0 i1 I
  | succ d ih =>
    intro K x i g l h0 hd hK i0 i1 I
    obtain ⟨K, rfl⟩ : ∃ m, K = m + 2 := ⟨K - 2, by omega⟩
    rw [spec_l29Timed.l0, if_pos (by omega)]
    by_cases h5 : (l.length : Int) < 5
    · rw [decide_eq_true h5, spec_l29Timed.j3, if_pos rfl, sBit o x hmo.2.1 (by omega) h0 (by omega), Option.bind_some, w64 (x := x + 1) (by omega) (by omega)]
      by_cases hb : bit o x = true
      · rw [if_pos hb]
        obtain ⟨b, i2, g2, e2, c2, d2⟩ := once_ok s i g 3 i0 i1 hs (by omega) (by omega)
        rw [e2]
        simp only [Option.bind_some]
        cases b with
        | true =>
          have hp6 : (2 : Int) ^ p.toNat ≤ 64 := by
            obtain rfl | rfl | rfl | rfl | rfl | rfl : p = 1 ∨ p = 2 ∨ p = 3 ∨ p = 4 ∨ p = 5 ∨ p = 6 := by omega
            all_goals decide
          obtain ⟨t, i3, g3, e3, a3, b3, c3, d3⟩ := below_ok s i2 g2 (2 ^ p.toNat) c2 d2 hs (by omega) (by omega)
          rw [if_pos rfl, if_pos (by omega), shl_one (by omega) (by omega), e3]
          simp only [Option.bind_some]
          rw [if_pos (show l.length < 8796093022208 by omega)]
          have hpass : isPass w h o x = true := by
            unfold isPass
            rw [hm, hb]
            unfold isGap
            rw [decide_eq_true (⟨h0, by omega⟩ : 0 ≤ x ∧ x < gaps w h)]
            rfl
          exact ih K (x + 1) i3 g3 _ (by omega) (by omega) (by omega) c3 d3 (I.snoc (by omega) hpass a3 b3)
        | false =>
          rw [if_neg (by simp)]
          exact ih K (x + 1) i2 g2 l (by omega) (by omega) (by omega) c2 d2 I.up
      · rw [if_neg hb]
        exact ih K (x + 1) i g l (by omega) (by omega) (by omega) i0 i1 I.up
    · rw [decide_eq_false h5]
      exact fin K x i g l i0 i1 I
theorem draw_timed (s : List Int) (hs : s.length ≤ 140737488355328) (i g : Int) (h0 : 0 ≤ i) (h1 : i ≤ (s.length : Int)) (K : Nat) (hK : 1300 ≤ K) :
    ∃ w h o p l i' g', spec_l29Timed.f K s i g = some (w, h, o, p, l, i', g') ∧ timedOk w h o p l = true ∧ 0 ≤ i' ∧ i' ≤ (s.length : Int) := by
  obtain ⟨v1, i1, g1, e1, a1, b1, c1, d1⟩ := below_ok s i g 3 h0 h1 hs (by omega) (by omega)
  obtain ⟨v2, i2, g2, e2, a2, b2, c2, d2⟩ := below_ok s i1 g1 3 c1 d1 hs (by omega) (by omega)
  have hg : gridOk (1 + v1) (1 + v2) = true := gridOk_iff.2 (by omega)
  obtain ⟨o, i3, g3, e3, hm, c3, d3⟩ := draw_tree (1 + v1) (1 + v2) hg s hs i2 g2 c2 d2 K (by omega)
  have hr := gaps_range (1 + v1) (1 + v2)
  unfold spec_l29Timed.f
  rw [e1]
  simp only [Option.bind_some]
  rw [e2]
  simp only [Option.bind_some]
  rw [w64 (x := 1 + v1) (by omega) (by omega), w64 (x := 1 + v2) (by omega) (by omega), e3]
  simp only [Option.bind_some]
  rw [sCountGaps]
  simp only [Option.bind_some]
  have fin : ∀ (K : Nat) (o i g : Int), 1000 ≤ K → mazeOk (1 + v1) (1 + v2) o = true → 0 ≤ i → i ≤ (s.length : Int) → ∃ w h o' p l i' g', spec_l29Timed.j1 (K + 1) (gaps (1 + v1) (1 + v2)) s i g (1 + v1) (1 + v2) o = some (w, h, o', p, l, i', g') ∧ timedOk w h o' p l = true ∧ 0 ≤ i' ∧ i' ≤ (s.length : Int) := fun K o i g hK hm i0 i1 => by
    obtain ⟨v, i4, g4, e4, a4, b4, c4, d4⟩ := below_ok s i g 6 i0 i1 hs (by omega) (by omega)
    rw [spec_l29Timed.j1, e4]
    simp only [Option.bind_some]
    rw [w64 (x := 1 + v) (by omega) (by omega)]
    obtain ⟨l', i5, g5, e5, ht, c5, d5⟩ := gates_go s hs (1 + v1) (1 + v2) o (1 + v) hm (by omega) (by omega) (gaps (1 + v1) (1 + v2)).toNat K 0 i4 g4 [] (by omega) (by omega) (by omega) c4 d4 ⟨by simp, fun j a b => by simp at b; omega, fun y hy => by cases hy⟩
    exact ⟨_, _, _, _, _, _, _, e5, ht, c5, d5⟩
  obtain ⟨K, rfl⟩ : ∃ m, K = m + 2 := ⟨K - 2, by omega⟩
  have fin0 : ∀ (o i g : Int), mazeOk (1 + v1) (1 + v2) o = true → 0 ≤ i → i ≤ (s.length : Int) → ∃ w h o' p l i' g', spec_l29Timed.j0 (K + 2) (gaps (1 + v1) (1 + v2)) false s i g (1 + v1) (1 + v2) o = some (w, h, o', p, l, i', g') ∧ timedOk w h o' p l = true ∧ 0 ≤ i' ∧ i' ≤ (s.length : Int) := fun o i g hm i0 i1 => by
    rw [spec_l29Timed.j0, if_neg (by simp)]
    exact fin K o i g (by omega) hm i0 i1
  by_cases hz : gaps (1 + v1) (1 + v2) > 0
  · rw [if_pos hz]
    obtain ⟨b, i4, g4, e4, c4, d4⟩ := once_ok s i3 g3 2 c3 d3 hs (by omega) (by omega)
    rw [e4]
    simp only [Option.bind_some]
    cases b with
    | false => exact fin0 o i4 g4 hm c4 d4
    | true =>
      obtain ⟨v, i5, g5, e5, a5, b5, c5, d5⟩ := below_ok s i4 g4 (gaps (1 + v1) (1 + v2)) c4 d4 hs (by omega) (by omega)
      have hgap : isGap (1 + v1) (1 + v2) v = true := by unfold isGap; exact decide_eq_true ⟨a5, b5⟩
      rw [spec_l29Timed.j0, if_pos rfl, e5]
      simp only [Option.bind_some]
      rw [sSetGap _ _ _ o v true (by omega) hm hgap]
      simp only [Option.bind_some]
      exact fin K _ i5 g5 (by omega) (mazeOk_with true hm hgap) c5 d5
  · rw [if_neg hz]
    exact fin0 o i3 g3 hm c3 d3
theorem draw_times (s : List Int) (hs : s.length ≤ 140737488355328) (K : Nat) (hK : 4100 ≤ K) :
    ∃ w h o p l a b, spec_DrawTimed.f K s = some (w, h, o, p, l, a, b) ∧ timedOk w h o p l = true ∧ isCell w h a = true ∧ isCell w h b = true := by
  obtain ⟨g, e1⟩ := new_ok K s (by omega)
  obtain ⟨w, h, o, p, l, i2, g2, e2, ht, c2, d2⟩ := draw_timed s hs 0 g (by omega) (by omega) K (by omega)
  have hc := cells_pos (mazeOk_ok (timedOk_parts ht).1).1
  have hcr := cells_range w h
  obtain ⟨a, i3, g3, e3, a3, b3, c3, d3⟩ := below_ok s i2 g2 (cells w h) c2 d2 hs (by omega) (by omega)
  obtain ⟨b, i4, g4, e4, a4, b4, c4, d4⟩ := below_ok s i3 g3 (cells w h) c3 d3 hs (by omega) (by omega)
  refine ⟨w, h, o, p, l, a, b, ?_, ht, cell_of a3 b3, cell_of a4 b4⟩
  unfold spec_DrawTimed.f
  rw [e1]
  simp only [Option.bind_some]
  rw [e2]
  simp only [Option.bind_some]
  rw [sCountCells]
  simp only [Option.bind_some]
  rw [e3]
  simp only [Option.bind_some]
  rw [e4]
  rfl
end Go.Proofs.Ytlfomjhjeknnmaa.L
