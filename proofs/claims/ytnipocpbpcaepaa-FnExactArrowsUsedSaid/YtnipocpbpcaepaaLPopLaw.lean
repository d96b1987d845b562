/- PopMaze and ArrowsUsed: what both return, for all arguments. -/
import Derived.Test.YtnipocpbpcaepaaXimplArrowsOk
import Derived.Test.YtnipocpbpcaepaaXimplArrowsUsed
import Derived.Test.YtnipocpbpcaepaaXimplpopped
import Derived.Test.YtnipocpbpcaepaaXlawsszIntSS
import Derived.Test.YtnipocpbpcaepaaXlawstoIntSS
import Derived.Test.YtnipocpbpcaepaaXspecArrowsOk
import Derived.Test.YtnipocpbpcaepaaXspecArrowsUsed
import Derived.Test.YtnipocpbpcaepaaXspecl15Order
import Derived.Test.YtnipocpbpcaepaaXspecl15Pop
import Derived.Test.YtnipocpbpcaepaaLPopRun
namespace Go.Proofs.Ytnipocpbpcaepaa.L
open Go.RowKit Go.Proofs.Ytnipocpbpcaepaa.X Go.Proofs.YtnipocpbpcaepaaW.PrintWords Go.Proofs.YtnipocpbpcaepaaW.PrintLast Go.Proofs.YtnipocpbpcaepaaW.PrintMore
set_option linter.unusedSimpArgs false
set_option linter.unusedVariables false

section
variable {w h : Int} {A : List (List Int)}
/-- The arrows of one cell are good. -/
def pr (w h : Int) (A : List (List Int)) (c : Int) : Prop := (rows A c).length ≤ 60 ∧ ∀ d ∈ rows A c, 0 ≤ nb w h c d
theorem aokI (hA : A.length ≤ 1048576) : ∀ (d : Nat) (c : Int), 0 ≤ c → (A.length : Int) - c = d → ∃ r : Bool, Ev (fun k => aok.l0 k w h A c) r ∧ (r = true ↔ AllFrom (pr w h A) c A.length)
  | 0, c, h0, hd => ⟨true, Ev.fin 0 fun k _ => by
      show aok.l0 (k + 1) w h A c = _
      rw [aok.l0, if_neg (by omega)], ⟨fun _ => allFrom_end (by omega), fun _ => rfl⟩⟩
  | d + 1, c, h0, hd => by
    have hc : c < (A.length : Int) := by omega
    have hall : ∀ k, 4 ≤ k → aok.all k w h c (rows A c) = true := fun k hk => by
      unfold aok.all
      rw [List.all_eq_true]
      intro x _
      rw [iNeighbor k w h c x hk]
      rfl
    have hbad : ∀ k, 4 ≤ k → (aok.bad k w h c (rows A c) = true ↔ ∃ d ∈ rows A c, nb w h c d < 0) := fun k hk => by
      unfold aok.bad
      rw [List.any_eq_true]
      constructor
      · rintro ⟨x, hx, e⟩
        rw [iNeighbor k w h c x hk] at e
        exact ⟨x, hx, of_decide_eq_true e⟩
      · rintro ⟨x, hx, e⟩
        refine ⟨x, hx, ?_⟩
        rw [iNeighbor k w h c x hk]
        exact decide_eq_true e
    by_cases h1 : (60 : Int) < ((rows A c).length : Int)
    · refine ⟨false, Ev.fin 0 fun k _ => ?_, fun e => (by cases e), fun e => ?_⟩
      · show aok.l0 (k + 1) w h A c = _
        rw [aok.l0, if_pos hc, rl_rows, if_pos h1]
      · have := (e c (Int.le_refl _) hc).1
        omega
    · by_cases h2 : ∃ d ∈ rows A c, nb w h c d < 0
      · refine ⟨false, Ev.fin 4 fun k hk => ?_, fun e => (by cases e), fun e => ?_⟩
        · show aok.l0 (k + 1) w h A c = _
          rw [aok.l0, if_pos hc, rl_rows, if_neg h1, if_pos (hall k hk), if_pos ((hbad k hk).2 h2)]
        · obtain ⟨x, hx, hx2⟩ := h2
          have := (e c (Int.le_refl _) hc).2 x hx
          omega
      · obtain ⟨r, e1, e2⟩ := aokI hA d (c + 1) (by omega) (by omega)
        refine ⟨r, Ev.to 4 (fun k hk => ?_) e1, ?_⟩
        · show aok.l0 (k + 1) w h A c = _
          rw [aok.l0, if_pos hc, rl_rows, if_neg h1, if_pos (hall k hk), if_neg (fun z => h2 ((hbad k hk).1 z)), w64 (by omega) (by omega)]
        · rw [e2, allFrom_step hc]
          exact ⟨fun z => ⟨⟨by omega, fun x hx => Int.not_lt.1 fun y => h2 ⟨x, hx, y⟩⟩, z⟩, fun z => z.2⟩
theorem innerOk {c : Int} (h0 : 0 ≤ c) (hc : c < (A.length : Int)) (hA : A.length ≤ 1048576) (hp : pr w h A c) {r : Bool} (e : Ev (fun k => spec_ArrowsOk.l0 k A (c + 1) w h) r) : ∀ (d : Nat) (i : Int), 0 ≤ i → ((rows A c).length : Int) - i = d → Ev (fun k => spec_ArrowsOk.l1 k A c i w h) r
  | 0, i, hi, hd => Ev.to 0 (fun k _ => by
      show spec_ArrowsOk.l1 (k + 1) A c i w h = _
      rw [spec_ArrowsOk.l1, if_pos h0, if_pos hc, rl_rows, if_neg (by omega), w64 (by omega) (by omega)]) e
  | d + 1, i, hi, hd => by
    have h60 := hp.1
    have hx := hp.2 _ (rd_memL hi (show i < ((rows A c).length : Int) by omega))
    refine Ev.to 4 (fun k hk => ?_) (innerOk h0 hc hA hp e d (i + 1) (by omega) (by omega))
    show spec_ArrowsOk.l1 (k + 1) A c i w h = _
    rw [spec_ArrowsOk.l1, if_pos h0, if_pos hc, rl_rows, if_pos (by omega), if_pos hi, sNeighbor k w h c _ hk, Option.bind_some, if_neg (by omega), if_neg (by omega), w64 (by omega) (by omega)]
theorem innerBad {c : Int} (h0 : 0 ≤ c) (hc : c < (A.length : Int)) (hr : (rows A c).length ≤ 1048576) : ∀ (d : Nat) (i : Int), 0 ≤ i → ((rows A c).length : Int) - i = d → (0 < d ∧ 60 < (rows A c).length ∨ ∃ j, i ≤ j ∧ j < ((rows A c).length : Int) ∧ nb w h c (rd (rows A c) j) < 0) → Ev (fun k => spec_ArrowsOk.l1 k A c i w h) false
  | 0, i, hi, hd, hb => by
    rcases hb with ⟨z, _⟩ | ⟨j, j0, j1, _⟩
    · omega
    · omega
  | d + 1, i, hi, hd, hb => by
    by_cases h1 : nb w h c (rd (rows A c) i) < 0
    · refine Ev.fin 4 fun k hk => ?_
      show spec_ArrowsOk.l1 (k + 1) A c i w h = _
      rw [spec_ArrowsOk.l1, if_pos h0, if_pos hc, rl_rows, if_pos (by omega), if_pos hi, sNeighbor k w h c _ hk, Option.bind_some, if_pos h1]
    · by_cases h2 : 60 < (rows A c).length
      · refine Ev.fin 4 fun k hk => ?_
        show spec_ArrowsOk.l1 (k + 1) A c i w h = _
        rw [spec_ArrowsOk.l1, if_pos h0, if_pos hc, rl_rows, if_pos (by omega), if_pos hi, sNeighbor k w h c _ hk, Option.bind_some, if_neg h1, if_pos (by omega)]
      · obtain ⟨j, j0, j1, j2⟩ : ∃ j, i ≤ j ∧ j < ((rows A c).length : Int) ∧ nb w h c (rd (rows A c) j) < 0 := by
          rcases hb with ⟨_, z⟩ | z
          · exact absurd z h2
          · exact z
        have hne : i ≠ j := fun z => h1 (by rw [z]; exact j2)
        refine Ev.to 4 (fun k hk => ?_) (innerBad h0 hc hr d (i + 1) (by omega) (by omega) (Or.inr ⟨j, by omega, j1, j2⟩))
        show spec_ArrowsOk.l1 (k + 1) A c i w h = _
        rw [spec_ArrowsOk.l1, if_pos h0, if_pos hc, rl_rows, if_pos (by omega), if_pos hi, sNeighbor k w h c _ hk, Option.bind_some, if_neg h1, if_neg (by omega), w64 (by omega) (by omega)]
theorem aokS (hA : A.length ≤ 1048576) (hr : ∀ r ∈ A, r.length ≤ 1048576) : ∀ (d : Nat) (c : Int), 0 ≤ c → (A.length : Int) - c = d → ∃ r : Bool, Ev (fun k => spec_ArrowsOk.l0 k A c w h) r ∧ (r = true ↔ AllFrom (pr w h A) c A.length)
  | 0, c, h0, hd => ⟨true, Ev.fin 0 fun k _ => by
      show spec_ArrowsOk.l0 (k + 1) A c w h = _
      rw [spec_ArrowsOk.l0, if_neg (by omega)], ⟨fun _ => allFrom_end (by omega), fun _ => rfl⟩⟩
  | d + 1, c, h0, hd => by
    have hc : c < (A.length : Int) := by omega
    have hrl : (rows A c).length ≤ 1048576 := by
      unfold rows rdOf
      rw [List.getD_eq_getElem?_getD, List.getElem?_eq_getElem (show c.toNat < A.length by omega)]
      exact hr _ (List.getElem_mem _)
    have hstep : ∀ r, Ev (fun k => spec_ArrowsOk.l1 k A c 0 w h) r → Ev (fun k => spec_ArrowsOk.l0 k A c w h) r := fun r e => Ev.to 0 (fun k _ => by
      show spec_ArrowsOk.l0 (k + 1) A c w h = _
      rw [spec_ArrowsOk.l0, if_pos hc]) e
    by_cases hp : pr w h A c
    · obtain ⟨r, e1, e2⟩ := aokS hA hr d (c + 1) (by omega) (by omega)
      refine ⟨r, hstep r (innerOk h0 hc hA hp e1 (rows A c).length 0 (Int.le_refl _) (by omega)), ?_⟩
      rw [e2, allFrom_step hc]
      exact ⟨fun z => ⟨hp, z⟩, fun z => z.2⟩
    · refine ⟨false, hstep _ (innerBad h0 hc hrl (rows A c).length 0 (Int.le_refl _) (by omega) ?_), fun e => (by cases e), fun e => absurd (e c (Int.le_refl _) hc) hp⟩
      by_cases h60 : (rows A c).length ≤ 60
      · obtain ⟨x, hx, hx2⟩ : ∃ d ∈ rows A c, nb w h c d < 0 := Classical.byContradiction fun z => hp ⟨h60, fun d hd => Int.not_lt.1 fun y => z ⟨d, hd, y⟩⟩
        obtain ⟨j, j0, j1, rfl⟩ := mem_rd hx
        exact Or.inr ⟨j, j0, j1, hx2⟩
      · exact Or.inl ⟨by omega, by omega⟩
theorem aok_iff : AOk w h A ↔ gridOk w h = true ∧ (A.length : Int) = cells w h ∧ (rows A 0).length = 0 ∧ AllFrom (pr w h A) 0 A.length := by
  constructor
  · intro a
    refine ⟨a.grid, a.len, by rw [a.root]; rfl, fun c c0 c1 => ?_⟩
    have hc : isCell w h c = true := cell_of c0 (by have := a.len; omega)
    exact ⟨a.most c hc, a.dir c hc⟩
  · rintro ⟨a, b, c, d⟩
    have key : ∀ x, isCell w h x = true → pr w h A x := fun x hx => by
      have := cellD_lt hx
      exact d x this.1 (by omega)
    exact ⟨a, b, List.length_eq_zero_iff.1 c, fun x hx => (key x hx).1, fun x hx => (key x hx).2⟩
theorem arrows_both (hA : A.length ≤ 1048576) (hr : ∀ r ∈ A, r.length ≤ 1048576) : ∃ r : Bool, Ev (fun k => impl_ArrowsOk.f k w h A) r ∧ Ev (fun k => spec_ArrowsOk.f k w h A) r ∧ (r = true ↔ AOk w h A) := by
  rw [aok_iff]
  have hI : ∀ k, impl_ArrowsOk.f k w h A = (aok.head w h A).bind fun b => if b = true then some false else aok.l0 k w h A 0 := fun k => rfl
  by_cases g : gridOk w h = true
  · have hcp := cells_pos g
    have hcr := cells_range w h
    by_cases l : (A.length : Int) = cells w h
    · have hh : aok.head w h A = some (decide (((rows A 0).length : Int) > 0)) := by
        unfold aok.head
        rw [iGridOk, Option.bind_some, if_pos g, iCountCells, Option.bind_some, if_pos l, if_pos (by omega), rl_rows]
      have hs : ∀ k, spec_ArrowsOk.f k w h A = spec_ArrowsOk.j0 k A (decide (((rows A 0).length : Int) > 0)) w h := fun k => by
        unfold spec_ArrowsOk.f
        rw [sGridOk, Option.bind_some, if_pos g, sCountCells, Option.bind_some, if_pos l, if_pos (by omega), rl_rows]
      by_cases z : (rows A 0).length = 0
      · have hz : decide (((rows A 0).length : Int) > 0) = false := decide_eq_false (by omega)
        obtain ⟨r1, e1, e2⟩ := aokI (w := w) (h := h) hA A.length 0 (Int.le_refl _) (by omega)
        obtain ⟨r2, e3, e4⟩ := aokS (w := w) (h := h) hA hr A.length 0 (Int.le_refl _) (by omega)
        have he : r1 = r2 := by
          cases r1 <;> cases r2 <;> simp_all
        subst he
        refine ⟨r1, Ev.cong 0 (fun k _ => ?_) e1, Ev.cong 0 (fun k _ => hs k) (Ev.to 0 (fun k _ => ?_) e3), ?_⟩
        · show impl_ArrowsOk.f k w h A = _
          rw [hI, hh, Option.bind_some, hz]
          rfl
        · show spec_ArrowsOk.j0 (k + 1) A (decide (((rows A 0).length : Int) > 0)) w h = _
          rw [hz, spec_ArrowsOk.j0]
          rfl
        · rw [e2]
          exact ⟨fun y => ⟨g, l, z, y⟩, fun y => y.2.2.2⟩
      · have hz : decide (((rows A 0).length : Int) > 0) = true := decide_eq_true (by omega)
        refine ⟨false, ⟨0, fun k _ => ?_⟩, Ev.cong 0 (fun k _ => hs k) (Ev.fin 0 fun k _ => ?_), fun e => (by cases e), fun e => absurd e.2.2.1 z⟩
        · show impl_ArrowsOk.f k w h A = _
          rw [hI, hh, Option.bind_some, hz]
          rfl
        · show spec_ArrowsOk.j0 (k + 1) A (decide (((rows A 0).length : Int) > 0)) w h = _
          rw [hz, spec_ArrowsOk.j0]
          rfl
    · refine ⟨false, ⟨0, fun k _ => ?_⟩, Ev.fin 0 fun k _ => ?_, fun e => (by cases e), fun e => absurd e.2.1 l⟩
      · show impl_ArrowsOk.f k w h A = _
        rw [hI]
        unfold aok.head
        rw [iGridOk, Option.bind_some, if_pos g, iCountCells, Option.bind_some, if_neg l, Option.bind_some]
        rfl
      · show spec_ArrowsOk.f (k + 1) w h A = _
        unfold spec_ArrowsOk.f
        rw [sGridOk, Option.bind_some, if_pos g, sCountCells, Option.bind_some, if_neg l, spec_ArrowsOk.j0]
        rfl
  · refine ⟨false, ⟨0, fun k _ => ?_⟩, Ev.fin 0 fun k _ => ?_, fun e => (by cases e), fun e => absurd e.1 g⟩
    · show impl_ArrowsOk.f k w h A = _
      rw [hI]
      unfold aok.head
      rw [iGridOk, Option.bind_some, if_neg g, Option.bind_some]
      rfl
    · show spec_ArrowsOk.f (k + 1) w h A = _
      unfold spec_ArrowsOk.f
      rw [sGridOk, Option.bind_some, if_neg g, spec_ArrowsOk.j0]
      rfl
theorem order_ev (l : List Int) (hl : l.length ≤ 1048576) : ∀ (d : Nat) (j : Int), 0 ≤ j → (l.length : Int) - j = d → ∃ r : Bool, Ev (fun k => spec_l15Order.l0 k l j w h) r ∧ (r = true ↔ AllFrom (fun i => isCell w h (rd l i) = true) j l.length ∧ l.length ≤ 100)
  | 0, j, h0, hd => ⟨decide ((l.length : Int) ≤ 100), Ev.fin 0 fun k _ => by
      show spec_l15Order.l0 (k + 1) l j w h = _
      rw [spec_l15Order.l0, if_neg (by omega)], by
      rw [decide_eq_true_eq]
      exact ⟨fun z => ⟨allFrom_end (by omega), by omega⟩, fun z => by have := z.2; omega⟩⟩
  | d + 1, j, h0, hd => by
    have hj : j < (l.length : Int) := by omega
    have hs : ∀ k, spec_l15Order.l0 (k + 1) l j w h = if isCell w h (rd l j) = true then spec_l15Order.l0 k l (j + 1) w h else some false := fun k => by
      rw [spec_l15Order.l0, if_pos hj, if_pos h0, sCountCells, Option.bind_some, sIn, Option.bind_some, cell_test, w64 (by omega) (by omega)]
    by_cases c : isCell w h (rd l j) = true
    · obtain ⟨r, e1, e2⟩ := order_ev l hl d (j + 1) (by omega) (by omega)
      refine ⟨r, Ev.to 0 (fun k _ => ?_) e1, ?_⟩
      · show spec_l15Order.l0 (k + 1) l j w h = _
        rw [hs, if_pos c]
      · rw [e2, allFrom_step hj]
        exact ⟨fun z => ⟨⟨c, z.1⟩, z.2⟩, fun z => ⟨z.1.2, z.2⟩⟩
    · refine ⟨false, Ev.fin 0 fun k _ => ?_, fun e => (by cases e), fun e => absurd (e.1 j (Int.le_refl _) hj) c⟩
      show spec_l15Order.l0 (k + 1) l j w h = _
      rw [hs, if_neg c]
def ordOk (w h : Int) (l : List Int) : Prop := (∀ x ∈ l, isCell w h x = true) ∧ l.length ≤ 100
theorem order_both (l : List Int) (hl : l.length ≤ 1048576) : ∃ r : Bool, Ev (fun k => spec_l15Order.f k w h l) r ∧ (r = true ↔ ordOk w h l) := by
  obtain ⟨r, e1, e2⟩ := order_ev (w := w) (h := h) l hl l.length 0 (Int.le_refl _) (by omega)
  refine ⟨r, e1, ?_⟩
  rw [e2]
  unfold ordOk
  constructor
  · rintro ⟨a, b⟩
    refine ⟨fun x hx => ?_, b⟩
    obtain ⟨i, i0, i1, rfl⟩ := mem_rd hx
    exact a i i0 i1
  · rintro ⟨a, b⟩
    exact ⟨fun i i0 i1 => a _ (rd_memL i0 i1), b⟩
theorem popd_cell (c : Int) : popd.cell w h c = isCell w h c := by
  have e := popd.cell_eq w h c
  rw [iisCell] at e
  exact (Option.some.inj e).symm
/-- Are the arguments refused: the same in both. -/
theorem head_ev (l : List Int) (hA : A.length ≤ 1048576) (hr : ∀ r ∈ A, r.length ≤ 1048576) : ∃ b : Bool, Ev (fun k => popd.head k w h A l) b ∧ (b = false ↔ AOk w h A ∧ ordOk w h l) := by
  obtain ⟨r, e1, _, e3⟩ := arrows_both (w := w) (h := h) hA hr
  cases r with
  | false =>
    refine ⟨true, Ev.bind (G := fun k t => if t = true then (if (100 : Int) < (l.length : Int) then some true else some (l.any fun c => !popd.cell w h c)) else some true) e1 ⟨0, fun k _ => rfl⟩, fun e => (by cases e), fun e => ?_⟩
    have := e3.2 e.1
    cases this
  | true =>
    have ha := e3.1 rfl
    refine ⟨if (100 : Int) < (l.length : Int) then true else l.any fun c => !popd.cell w h c, Ev.bind (G := fun k t => if t = true then (if (100 : Int) < (l.length : Int) then some true else some (l.any fun c => !popd.cell w h c)) else some true) e1 ⟨0, fun k _ => ?_⟩, ?_⟩
    · show (if true = true then _ else _) = _
      rw [if_pos rfl]
      split <;> rfl
    · unfold ordOk
      by_cases z : (100 : Int) < (l.length : Int)
      · rw [if_pos z]
        exact ⟨fun e => (by cases e), fun e => absurd e.2.2 (by omega)⟩
      · rw [if_neg z, List.any_eq_false]
        constructor
        · intro e
          refine ⟨ha, fun x hx => ?_, by omega⟩
          have := e x hx
          rw [popd_cell] at this
          simpa using this
        · rintro ⟨_, e, _⟩ x hx
          rw [popd_cell, e x hx]
          simp
/-- The reference appends every cell to the order. -/
theorem app_ev (A : List (List Int)) (l : List Int) (hA : A.length ≤ 1000) (hl : l.length ≤ 1000) (u : List Int) (ins : List Bool) (r : Int × Int × Int × Int × Bool) (e : Ev (fun k => spec_l15Pop.l1 k A (ordAll A l) u ins 0 0 w h w h 0) r) : ∀ (d n : Nat), n ≤ A.length → A.length - n = d →
    Ev (fun k => spec_l15Pop.l0 k A (l ++ (List.range n).map fun j : Nat => (j : Int)) u ins 0 (n : Int) w h w h 0) r
  | 0, n, hn, hd => by
    have : n = A.length := by omega
    subst this
    refine Ev.to 0 (fun k _ => ?_) e
    show spec_l15Pop.l0 (k + 1) A _ u ins 0 (A.length : Int) w h w h 0 = _
    rw [spec_l15Pop.l0, if_neg (by omega)]
    rfl
  | d + 1, n, hn, hd => by
    refine Ev.to 0 (fun k _ => ?_) (app_ev A l hA hl u ins r e d (n + 1) (by omega) (by omega))
    show spec_l15Pop.l0 (k + 1) A _ u ins 0 (n : Int) w h w h 0 = _
    rw [spec_l15Pop.l0, if_pos (by omega), if_pos (by simp; omega), w64 (by omega) (by omega), List.append_assoc, List.range_succ, List.map_append]
    rfl
theorem specPop_ev (a : AOk w h A) {l : List Int} (hl : l.length ≤ 100) {r : Int × Int × Int × Int × Bool} (e : Ev (fun k => spec_l15Pop.l1 k A (ordAll A l) (u0 A) (ins0 A) 0 0 w h w h 0) r) : Ev (fun k => spec_l15Pop.f k w h A l) r := by
  have hcr := cells_range w h
  have hcp := cells_pos a.grid
  have hla := a.len
  have h1 := app_ev (w := w) (h := h) A l (by omega) (by omega) (u0 A) (ins0 A) r e A.length 0 (by omega) (by omega)
  rw [List.range_zero, List.map_nil, List.append_nil] at h1
  refine Ev.cong 0 (fun k _ => ?_) h1
  show spec_l15Pop.f k w h A l = _
  unfold spec_l15Pop.f
  rw [if_pos (by omega), Int.toNat_natCast, if_pos (by omega), if_pos (by omega), Option.bind_some, if_pos (by rw [List.length_replicate]; omega)]
  rfl
theorem popped_ev (a : AOk w h A) {l : List Int} (hA : A.length ≤ 1048576) (hr : ∀ r ∈ A, r.length ≤ 1048576) (ho : ordOk w h l) {r : Int × Int × Int × Int × Bool} (e : Ev (fun k => popd.tail k w h (cells w h) A (ordAll A l)) r) : Ev (fun k => impl_popped.f k w h A l) r := by
  obtain ⟨b, hb, hb2⟩ := head_ev (w := w) (h := h) l hA hr
  have hbf := hb2.2 ⟨a, ho⟩
  subst hbf
  have hcr := cells_range w h
  have hcp := cells_pos a.grid
  have hla := a.len
  have hol := ho.2
  refine Ev.bind (F := fun k => popd.head k w h A l) (G := fun k b => if b = true then some (0, 0, 0, -1, false) else ((impl_CountCells.f w h).bind fun n => if 0 < n then (if n ≤ 1000000 then ((slices_Clone_int_int.f l).bind fun q1 => (impl_upTo.f k n).bind fun q2 => if q1.length + q2.length ≤ 1000000 then popd.tail k w h n A (q1 ++ q2) else none) else none) else none)) hb (Ev.cong 100 (fun k hk => ?_) e)
  show (if false = true then _ else _) = _
  rw [if_neg (by simp), iCountCells, Option.bind_some, if_pos (by omega), if_pos (by omega)]
  unfold slices_Clone_int_int.f
  rw [if_pos (by omega), Option.bind_some]
  have hu := iUpTo k A.length (by omega) (by omega)
  rw [hla] at hu
  rw [hu, Option.bind_some, if_pos (by rw [List.length_map, List.length_range]; omega)]
  rfl
theorem popped_no {l : List Int} (hA : A.length ≤ 1048576) (hr : ∀ r ∈ A, r.length ≤ 1048576) (z : ¬ (AOk w h A ∧ ordOk w h l)) : Ev (fun k => impl_popped.f k w h A l) (0, 0, 0, -1, false) := by
  obtain ⟨b, hb, hb2⟩ := head_ev (w := w) (h := h) l hA hr
  have hbt : b = true := by
    cases b with
    | true => rfl
    | false => exact absurd (hb2.1 rfl) z
  subst hbt
  exact Ev.bind (F := fun k => popd.head k w h A l) (G := fun k b => if b = true then some (0, 0, 0, -1, false) else ((impl_CountCells.f w h).bind fun n => if 0 < n then (if n ≤ 1000000 then ((slices_Clone_int_int.f l).bind fun q1 => (impl_upTo.f k n).bind fun q2 => if q1.length + q2.length ≤ 1000000 then popd.tail k w h n A (q1 ++ q2) else none) else none) else none)) hb ⟨0, fun k _ => rfl⟩
/-- What both do: one answer of the program's, and the reference's two. -/
theorem both (l : List Int) (hA : A.length ≤ 1048576) (hr : ∀ r ∈ A, r.length ≤ 1048576) (hl : l.length ≤ 1048576) :
    (∃ o n : Int, Ev (fun k => impl_popped.f k w h A l) (w, h, o, n, true) ∧ Ev (fun k => spec_ArrowsOk.f k w h A) true ∧ Ev (fun k => spec_l15Order.f k w h l) true ∧ Ev (fun k => spec_l15Pop.f k w h A l) (w, h, o, n, true)) ∨
    (∃ o : Int, Ev (fun k => impl_popped.f k w h A l) (0, 0, 0, -1, false) ∧ Ev (fun k => spec_ArrowsOk.f k w h A) true ∧ Ev (fun k => spec_l15Order.f k w h l) true ∧ Ev (fun k => spec_l15Pop.f k w h A l) (w, h, o, 0, false)) ∨
    (Ev (fun k => impl_popped.f k w h A l) (0, 0, 0, -1, false) ∧ (Ev (fun k => spec_ArrowsOk.f k w h A) false ∨ Ev (fun k => spec_ArrowsOk.f k w h A) true ∧ Ev (fun k => spec_l15Order.f k w h l) false)) := by
  obtain ⟨r1, _, s1, s2⟩ := arrows_both (w := w) (h := h) hA hr
  obtain ⟨r2, t1, t2⟩ := order_both (w := w) (h := h) l hl
  by_cases z : AOk w h A ∧ ordOk w h l
  · have e1 := s2.2 z.1
    have e2 := t2.2 z.2
    subst e1
    subst e2
    obtain ⟨tn, ts⟩ := tail_ev z.1 z.2.2 z.2.1
    cases hR : runA w h A (ordAll A l) (u0 A) (ins0 A) 0 with
    | none =>
      obtain ⟨f1, o', f2⟩ := tn hR
      exact Or.inr (Or.inl ⟨o', popped_ev z.1 hA hr z.2 f1, s1, t1, specPop_ev z.1 z.2.2 f2⟩)
    | some x =>
      obtain ⟨u', ins', o'⟩ := x
      obtain ⟨f1, f2⟩ := ts u' ins' o' hR
      exact Or.inl ⟨o', u'.sum, popped_ev z.1 hA hr z.2 f1, s1, t1, specPop_ev z.1 z.2.2 f2⟩
  · refine Or.inr (Or.inr ⟨popped_no hA hr z, ?_⟩)
    cases r1 with
    | false => exact Or.inl s1
    | true =>
      cases r2 with
      | false => exact Or.inr ⟨s1, t1⟩
      | true => exact absurd ⟨s2.1 rfl, t2.1 rfl⟩ z
theorem sUsed_yes (l : List Int) (hl : l.length ≤ 1048576) {r : Int × Int × Int × Int × Bool} (e1 : Ev (fun k => spec_ArrowsOk.f k w h A) true) (e2 : Ev (fun k => spec_l15Order.f k w h l) true) (e3 : Ev (fun k => spec_l15Pop.f k w h A l) r) :
    Ev (fun k => spec_ArrowsUsed.f k w h A l) (if r.2.2.2.2 = true then r.2.2.2.1 else -1) := by
  refine Ev.bind (F := fun k => spec_ArrowsOk.f k w h A) (G := fun k t => if t = true then ((spec_l15Order.f k w h l).bind fun t504 => (spec_ArrowsUsed.j0 k A l (!t504) w h)) else (spec_ArrowsUsed.j0 k A l true w h)) e1 ?_
  refine Ev.cong 0 (fun k _ => by show (if true = true then _ else _) = _; rw [if_pos rfl]) (Ev.bind (F := fun k => spec_l15Order.f k w h l) (G := fun k t504 => (spec_ArrowsUsed.j0 k A l (!t504) w h)) e2 ?_)
  refine Ev.to 0 (fun k _ => ?_) (Ev.bind (F := fun k => spec_l15Pop.f k w h A l) (G := fun k bt510 => (if bt510.2.2.2.2 = true then (some bt510.2.2.2.1) else (some (-1)))) e3 ⟨0, fun k _ => by split <;> rfl⟩)
  show spec_ArrowsUsed.j0 (k + 1) A l (!true) w h = _
  rw [spec_ArrowsUsed.j0, if_neg (by simp), Option.bind_some, if_pos (by simp; omega), List.nil_append]
theorem sUsed_no (l : List Int) (e : Ev (fun k => spec_ArrowsOk.f k w h A) false ∨ Ev (fun k => spec_ArrowsOk.f k w h A) true ∧ Ev (fun k => spec_l15Order.f k w h l) false) : Ev (fun k => spec_ArrowsUsed.f k w h A l) (-1) := by
  rcases e with e1 | ⟨e1, e2⟩
  · refine Ev.bind (F := fun k => spec_ArrowsOk.f k w h A) (G := fun k t => if t = true then ((spec_l15Order.f k w h l).bind fun t504 => (spec_ArrowsUsed.j0 k A l (!t504) w h)) else (spec_ArrowsUsed.j0 k A l true w h)) e1 (Ev.fin 0 fun k _ => ?_)
    show (if false = true then _ else _) = _
    rw [if_neg (by simp), spec_ArrowsUsed.j0, if_pos rfl]
  · refine Ev.bind (F := fun k => spec_ArrowsOk.f k w h A) (G := fun k t => if t = true then ((spec_l15Order.f k w h l).bind fun t504 => (spec_ArrowsUsed.j0 k A l (!t504) w h)) else (spec_ArrowsUsed.j0 k A l true w h)) e1 ?_
    refine Ev.cong 0 (fun k _ => by show (if true = true then _ else _) = _; rw [if_pos rfl]) (Ev.bind (F := fun k => spec_l15Order.f k w h l) (G := fun k t504 => (spec_ArrowsUsed.j0 k A l (!t504) w h)) e2 (Ev.fin 0 fun k _ => ?_))
    show spec_ArrowsUsed.j0 (k + 1) A l (!false) w h = _
    rw [spec_ArrowsUsed.j0, if_pos (show (!false) = true from rfl)]
theorem iUsed {l : List Int} {a b c d : Int} {e : Bool} (x : Ev (fun k => impl_popped.f k w h A l) (a, b, c, d, e)) : Ev (fun k => impl_ArrowsUsed.f k w h A l) d :=
  Ev.bind (F := fun k => impl_popped.f k w h A l) (G := fun k bt502 => (some bt502.2.2.2.1)) x ⟨0, fun k _ => rfl⟩
theorem used_both (l : List Int) (hA : A.length ≤ 1048576) (hr : ∀ r ∈ A, r.length ≤ 1048576) (hl : l.length ≤ 1048576) : ∃ r, Ev (fun k => impl_ArrowsUsed.f k w h A l) r ∧ Ev (fun k => spec_ArrowsUsed.f k w h A l) r := by
  rcases both (w := w) (h := h) l hA hr hl with ⟨o, n, f1, f2, f3, f4⟩ | ⟨o, f1, f2, f3, f4⟩ | ⟨f1, f2⟩
  · exact ⟨_, iUsed f1, sUsed_yes l hl f2 f3 f4⟩
  · exact ⟨_, iUsed f1, sUsed_yes l hl f2 f3 f4⟩
  · exact ⟨_, iUsed f1, sUsed_no l f2⟩
end
end Go.Proofs.Ytnipocpbpcaepaa.L
