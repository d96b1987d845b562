/- What is drawn for the arrows: a grid, good arrows, two orders of cells. -/
import Derived.Test.YtnipocpbpcaepaaXcstep
import Derived.Test.YtnipocpbpcaepaaXspecDrawArrows
import Derived.Test.YtnipocpbpcaepaaXspecFullMaze
import Derived.Test.YtnipocpbpcaepaaXspecl15Arrows
import Derived.Test.YtnipocpbpcaepaaXspecl15Cells
import Derived.Test.YtnipocpbpcaepaaLFree
import Derived.Test.YtnipocpbpcaepaaLPopLaw
import Derived.Test.YtnipocpbpcaepaaLDrawMaze
namespace Go.Proofs.Ytnipocpbpcaepaa.L
open Go.RowKit Go.Proofs.Ytnipocpbpcaepaa.X Go.Proofs.YtnipocpbpcaepaaW.PrintWords Go.Proofs.YtnipocpbpcaepaaW.PrintLast Go.Proofs.YtnipocpbpcaepaaW.PrintMore
set_option linter.unusedSimpArgs false
set_option linter.unusedVariables false

section
variable {w h : Int} {s : List Int}
theorem ways_nb {o c d : Int} (hd : d ∈ ways w h o c) : 0 ≤ nb w h c d := by
  unfold ways at hd
  have h0 := of_decide_eq_true (List.mem_filter.1 hd).2
  rcases step_range w h o c d with e | e
  · omega
  · rw [e.2.2.2.1]
    exact h0
theorem ways_le (o c : Int) : (ways w h o c).length ≤ 4 := by
  unfold ways
  exact List.length_filter_le _ _
/-- A row of arrows of one cell. -/
def RowOk (w h c : Int) (r : List Int) : Prop := r.length ≤ 60 ∧ (∀ d ∈ r, 0 ≤ nb w h c d) ∧ (c = 0 → r = [])
def Good (w h : Int) (X : List (List Int)) : Prop := ∀ (j : Nat) (hj : j < X.length), RowOk w h (j : Int) X[j]
theorem arr_inner (hs : s.length ≤ 140737488355328) (X : List (List Int)) (hX : X.length ≤ 16) (c n : Int) (h0 : 0 ≤ c) (hc : c ≤ 16) (hn : n ≤ 30) (o : Int) : ∀ (d : Nat) (x : List Int) (j i g : Int), 0 ≤ j → 30 - j = d → (x.length : Int) = j → (∀ t ∈ x, 0 ≤ nb w h c t) → (c = 0 → x = []) → 0 ≤ i → i ≤ (s.length : Int) →
    ∃ row i' g', RowOk w h c row ∧ 0 ≤ i' ∧ i' ≤ (s.length : Int) ∧ ∀ r, Ev (fun k => spec_l15Arrows.l0 k (X ++ [row]) (c + 1) s i' g' w h) r → Ev (fun k => spec_l15Arrows.l1 k X c x n (ways w h o c) j s i g w h) r
  | d, x, j, i, g, hj, hd, hx, ht, hz, i0, i1 => by
    have stop : (∀ k, spec_l15Arrows.l1 (k + 1) X c x n (ways w h o c) j s i g w h = if X.length < 5864062014805 then (spec_l15Arrows.l0 k (X ++ [x]) (wrap64 (c + 1)) s i g w h) else none) → ∃ row i' g', RowOk w h c row ∧ 0 ≤ i' ∧ i' ≤ (s.length : Int) ∧ ∀ r, Ev (fun k => spec_l15Arrows.l0 k (X ++ [row]) (c + 1) s i' g' w h) r → Ev (fun k => spec_l15Arrows.l1 k X c x n (ways w h o c) j s i g w h) r := fun hh => by
      refine ⟨x, i, g, ⟨by omega, ht, hz⟩, i0, i1, fun r e => Ev.to 0 (fun k _ => ?_) e⟩
      show spec_l15Arrows.l1 (k + 1) X c x n (ways w h o c) j s i g w h = _
      rw [hh k, if_pos (by omega), w64 (by omega) (by omega)]
    by_cases a1 : j < n
    · by_cases a2 : c > 0
      · by_cases a3 : ((ways w h o c).length : Int) > 0
        · cases d with
          | zero => omega
          | succ d =>
            have hwl := ways_le (w := w) (h := h) o c
            obtain ⟨v, i', g', e, v0, v1, i0', i1'⟩ := below_ok s i g ((ways w h o c).length : Int) i0 i1 hs (by omega) (by omega)
            obtain ⟨row, i2, g2, r1, r2, r3, r4⟩ := arr_inner hs X hX c n h0 hc hn o d (x ++ [rd (ways w h o c) v]) (j + 1) i' g' (by omega) (by omega) (by simp; omega) (fun t htm => by
              rcases List.mem_append.1 htm with z | z
              · exact ht t z
              · rw [List.mem_singleton.1 z]
                exact ways_nb (rd_memL v0 v1)) (fun z => absurd z (by omega)) i0' i1'
            refine ⟨row, i2, g2, r1, r2, r3, fun r e2 => Ev.to 0 (fun k _ => ?_) (r4 r e2)⟩
            show spec_l15Arrows.l1 (k + 1) X c x n (ways w h o c) j s i g w h = _
            rw [spec_l15Arrows.l1, if_pos a1, if_pos a2, if_pos a3, e, Option.bind_some]
            simp only []
            rw [if_pos v0, if_pos v1, if_pos (by omega), w64 (by omega) (by omega)]
        · exact stop fun k => by rw [spec_l15Arrows.l1, if_pos a1, if_pos a2, if_neg a3]
      · exact stop fun k => by rw [spec_l15Arrows.l1, if_pos a1, if_neg a2]
    · exact stop fun k => by rw [spec_l15Arrows.l1, if_neg a1]
theorem arr_outer (hs : s.length ≤ 140737488355328) (hg : gridOk w h = true) : ∀ (d : Nat) (X : List (List Int)) (i g : Int), cells w h - (X.length : Int) = d → Good w h X → 0 ≤ i → i ≤ (s.length : Int) →
    ∃ A i' g', Ev (fun k => spec_l15Arrows.l0 k X (X.length : Int) s i g w h) (A, i', g') ∧ (A.length : Int) = cells w h ∧ Good w h A ∧ 0 ≤ i' ∧ i' ≤ (s.length : Int)
  | 0, X, i, g, hd, hX, i0, i1 => ⟨X, i, g, Ev.fin 0 fun k _ => by
      show spec_l15Arrows.l0 (k + 1) X (X.length : Int) s i g w h = _
      rw [spec_l15Arrows.l0, sCountCells, Option.bind_some, if_neg (by omega)], by omega, hX, i0, i1⟩
  | d + 1, X, i, g, hd, hX, i0, i1 => by
    have hcr := cells_range w h
    obtain ⟨v, ia, ga, ea, v0, v1, ia0, ia1⟩ := below_ok s i g 12 i0 i1 hs (by omega) (by omega)
    obtain ⟨n, ib, gb, eb, n0, ib0, ib1⟩ := pick_ok s ia ga ia0 ia1 hs [30, 30, 30, v] (by simp) (by simp)
    have hn : n ≤ 30 := by
      simp at n0
      rcases n0 with z | z <;> omega
    obtain ⟨o, eo, mo⟩ := full_maze hg
    obtain ⟨row, ic, gc, r1, r2, r3, r4⟩ := arr_inner (w := w) (h := h) hs X (by omega) (X.length : Int) n (by omega) (by omega) hn o 30 [] 0 ib gb (Int.le_refl _) (by omega) (by simp) (fun t z => by cases z) (fun _ => rfl) ib0 ib1
    obtain ⟨A, i', g', e, f1, f2, f3, f4⟩ := arr_outer hs hg d (X ++ [row]) ic gc (by rw [List.length_append, List.length_singleton]; push_cast; omega) (fun j hj => by
      by_cases z : j < X.length
      · rw [List.getElem_append_left z]
        exact hX j z
      · have : j = X.length := by rw [List.length_append, List.length_singleton] at hj; omega
        subst this
        rw [List.getElem_append_right (Nat.le_refl _)]
        simpa using r1) r2 r3
    rw [List.length_append, List.length_singleton, show (((X.length + 1 : Nat)) : Int) = (X.length : Int) + 1 by push_cast; rfl] at e
    refine ⟨A, i', g', Ev.to 9 (fun k hk => ?_) (r4 _ e), f1, f2, f3, f4⟩
    show spec_l15Arrows.l0 (k + 1) X (X.length : Int) s i g w h = _
    rw [spec_l15Arrows.l0, sCountCells, Option.bind_some, if_pos (by omega), ea, Option.bind_some]
    simp only []
    rw [eb, Option.bind_some, eo, Option.bind_some]
    simp only []
    rw [sWaysFrom k w h o _ hk, Option.bind_some]
theorem cells_go (hs : s.length ≤ 140737488355328) (hg : gridOk w h = true) (n : Int) (hn : n ≤ 6) : ∀ (d : Nat) (x : List Int) (i g : Int), 0 ≤ i → i ≤ (s.length : Int) → 6 - (x.length : Int) = d → (∀ c ∈ x, isCell w h c = true) →
    ∃ l i' g', Ev (fun k => spec_l15Cells.l0 k x n (x.length : Int) s i g w h) (l, i', g') ∧ (∀ c ∈ l, isCell w h c = true) ∧ l.length ≤ 6 ∧ 0 ≤ i' ∧ i' ≤ (s.length : Int)
  | d, x, i, g, i0, i1, hd, hx => by
    by_cases z : (x.length : Int) < n
    · cases d with
      | zero => omega
      | succ d =>
        have hcr := cells_range w h
        have hcp := cells_pos hg
        have hmx : mx 1 (cells w h) = cells w h := by unfold mx; split <;> omega
        obtain ⟨v, ia, ga, ea, v0, v1, ia0, ia1⟩ := below_ok s i g (cells w h) i0 i1 hs (by omega) (by omega)
        obtain ⟨l, i', g', e, f1, f2, f3, f4⟩ := cells_go hs hg n hn d (x ++ [v]) ia ga ia0 ia1 (by rw [List.length_append, List.length_singleton]; push_cast; omega) (fun c hc => by
          rcases List.mem_append.1 hc with y | y
          · exact hx c y
          · rw [List.mem_singleton.1 y]
            exact cell_of v0 v1)
        rw [List.length_append, List.length_singleton, show (((x.length + 1 : Nat)) : Int) = (x.length : Int) + 1 by push_cast; rfl] at e
        refine ⟨l, i', g', Ev.to 0 (fun k _ => ?_) e, f1, f2, f3, f4⟩
        show spec_l15Cells.l0 (k + 1) x n (x.length : Int) s i g w h = _
        rw [spec_l15Cells.l0, if_pos z, sCountCells, Option.bind_some, hmx, ea, Option.bind_some]
        simp only []
        rw [if_pos (by omega), w64 (by omega) (by omega)]
    · refine ⟨x, i, g, Ev.fin 0 fun k _ => ?_, hx, by omega, i0, i1⟩
      show spec_l15Cells.l0 (k + 1) x n (x.length : Int) s i g w h = _
      rw [spec_l15Cells.l0, if_neg z]
theorem cells_ev (hs : s.length ≤ 140737488355328) (hg : gridOk w h = true) (i g : Int) (i0 : 0 ≤ i) (i1 : i ≤ (s.length : Int)) : ∃ l i' g', Ev (fun k => spec_l15Cells.f k s i g w h) (l, i', g') ∧ ordOk w h l ∧ 0 ≤ i' ∧ i' ≤ (s.length : Int) := by
  obtain ⟨n, ia, ga, ea, n0, n1, ia0, ia1⟩ := below_ok s i g 6 i0 i1 hs (by omega) (by omega)
  obtain ⟨l, i', g', e, f1, f2, f3, f4⟩ := cells_go (w := w) (h := h) hs hg n (by omega) 6 [] ia ga ia0 ia1 (by simp) (fun c z => by cases z)
  refine ⟨l, i', g', Ev.cong 0 (fun k _ => ?_) e, ⟨f1, by omega⟩, f3, f4⟩
  show spec_l15Cells.f k s i g w h = _
  unfold spec_l15Cells.f
  rw [ea, Option.bind_some]
  rfl
end
/-- What is drawn: a grid, good arrows, two orders of cells. -/
theorem draw_ev (s : List Int) (hs : s.length ≤ 140737488355328) : ∃ w h A a b, Ev (fun k => spec_DrawArrows.f k s) (w, h, A, a, b) ∧ AOk w h A ∧ ordOk w h a ∧ ordOk w h b := by
  obtain ⟨h0, e0⟩ : ∃ h0, ∀ k, 4001 < k → ∃ q, spec_l01New.f k s = some (s, 0, q) := ⟨0, fun k hk => new_ok k s hk⟩
  obtain ⟨q, hq⟩ := new_ok 4002 s (by omega)
  have hq2 : ∀ k, 4002 ≤ k → spec_l01New.f k s = some (s, 0, q) := fun k hk => by
    induction hk with
    | refl => exact hq
    | step _ ih => exact spec_l01New.mono _ _ _ ih
  obtain ⟨w, h, i1, g1, e1, hg, a1, b1⟩ := grid_ok s 0 q (Int.le_refl _) (by omega) hs
  obtain ⟨A, i2, g2, e2, hl, hG, a2, b2⟩ := arr_outer (w := w) (h := h) hs hg (cells w h).toNat [] i1 g1 (by have := cells_range w h; simp; omega) (fun j hj => by simp at hj) a1 b1
  obtain ⟨a, i3, g3, e3, oa, a3, b3⟩ := cells_ev (w := w) (h := h) hs hg i2 g2 a2 b2
  obtain ⟨b, i4, g4, e4, ob, a4, b4⟩ := cells_ev (w := w) (h := h) hs hg i3 g3 a3 b3
  have key : ∀ c, isCell w h c = true → RowOk w h c (rows A c) := fun c hc => by
    have hcl := cellD_lt hc
    have h1 : c.toNat < A.length := by omega
    have := hG c.toNat h1
    rw [show ((c.toNat : Nat) : Int) = c by omega] at this
    unfold rows rdOf
    rw [List.getD_eq_getElem?_getD, List.getElem?_eq_getElem h1]
    exact this
  have hz : isCell w h 0 = true := cell_of (Int.le_refl _) (by have := cells_pos hg; omega)
  refine ⟨w, h, A, a, b, ?_, ⟨hg, hl, (key 0 hz).2.2 rfl, fun c hc => (key c hc).1, fun c hc => (key c hc).2.1⟩, oa, ob⟩
  refine Ev.bind (F := fun k => spec_l01New.f k s) (x := (s, 0, q)) ⟨4002, hq2⟩ (Ev.cong 0 (fun k _ => ?_) (Ev.bind (F := fun k => spec_l15Arrows.f k s i1 g1 w h) (G := fun k (bt511 : List (List Int) × Int × Int) => ((spec_l15Cells.f k s bt511.2.1 bt511.2.2 w h).bind fun bt516 => ((spec_l15Cells.f k s bt516.2.1 bt516.2.2 w h).bind fun bt521 => (some (w, h, bt511.1, bt516.1, bt521.1))))) (x := (A, i2, g2)) e2 (Ev.bind (F := fun k => spec_l15Cells.f k s i2 g2 w h) (G := fun k (bt516 : List Int × Int × Int) => ((spec_l15Cells.f k s bt516.2.1 bt516.2.2 w h).bind fun bt521 => (some (w, h, A, bt516.1, bt521.1)))) (x := (a, i3, g3)) e3 (Ev.bind (F := fun k => spec_l15Cells.f k s i3 g3 w h) (G := fun k (bt521 : List Int × Int × Int) => (some (w, h, A, a, bt521.1))) (x := (b, i4, g4)) e4 ⟨0, fun k _ => rfl⟩))))
  show ((spec_l02Grid.f s 0 q).bind _) = _
  rw [e1, Option.bind_some]
end Go.Proofs.Ytnipocpbpcaepaa.L
