/- Whatever cells begin, the arrows make the same perfect maze and as many are used: for all arguments. No conditions beyond the given bounds on the size of what comes in. -/
import Derived.Test.YtnipocpbpcaepaaXlawsFnArrows
import Derived.Test.YtnipocpbpcaepaaLArrowDraw
namespace Go.Proofs.Ytnipocpbpcaepaa.L
open Go.RowKit Go.Proofs.Ytnipocpbpcaepaa.X Go.Proofs.YtnipocpbpcaepaaW.PrintWords Go.Proofs.YtnipocpbpcaepaaW.PrintLast Go.Proofs.YtnipocpbpcaepaaW.PrintMore
set_option linter.unusedSimpArgs false
set_option linter.unusedVariables false

theorem rows_small {w h : Int} {A : List (List Int)} (a : AOk w h A) : A.length ≤ 1048576 ∧ ∀ r ∈ A, r.length ≤ 1048576 := by
  have hla := a.len
  have hcr := cells_range w h
  refine ⟨by omega, fun r hr => ?_⟩
  obtain ⟨n, hn, rfl⟩ := List.getElem_of_mem hr
  have := a.most (n : Int) (cell_of (by omega) (by omega))
  unfold rows rdOf at this
  rw [List.getD_eq_getElem?_getD, Int.toNat_natCast, List.getElem?_eq_getElem hn] at this
  simp at this
  omega
theorem law_ev {w h : Int} {A : List (List Int)} (aok : AOk w h A) {a b : List Int} (oa : ordOk w h a) (ob : ordOk w h b) :
    ∃ (t : Bool) (x1 x2 x3 n : Int), Ev (fun k => impl_PopMaze.f k w h A a) (x1, x2, x3, t) ∧ Ev (fun k => impl_PopMaze.f k w h A b) (x1, x2, x3, t) ∧ Ev (fun k => impl_ArrowsUsed.f k w h A a) n ∧ Ev (fun k => impl_ArrowsUsed.f k w h A b) n ∧ (t = true → perfect x1 x2 x3 = true) ∧ (decide (n ≥ 0)) = t := by
  obtain ⟨hA, hr⟩ := rows_small aok
  obtain ⟨an, asx⟩ := tail_impl aok oa.2 oa.1
  obtain ⟨bn, bs⟩ := tail_impl aok ob.2 ob.1
  cases ea : runA w h A (ordAll A a) (u0 A) (ins0 A) 0 with
  | none =>
    have eb : runA w h A (ordAll A b) (u0 A) (ins0 A) 0 = none := by
      cases eb : runA w h A (ordAll A b) (u0 A) (ins0 A) 0 with
      | none => rfl
      | some x =>
        obtain ⟨u, i, o⟩ := x
        exact absurd ea (never_none aok ob.1 oa.1 eb)
    have pa := popped_ev aok hA hr oa (an ea)
    have pb := popped_ev aok hA hr ob (bn eb)
    exact ⟨false, 0, 0, 0, -1, iPop pa, iPop pb, iUsed pa, iUsed pb, fun e => (by cases e), rfl⟩
  | some x =>
    obtain ⟨u, i, o⟩ := x
    cases eb : runA w h A (ordAll A b) (u0 A) (ins0 A) 0 with
    | none => exact absurd eb (never_none aok oa.1 ob.1 ea)
    | some y =>
      obtain ⟨u2, i2, o2⟩ := y
      obtain ⟨e1, e2⟩ := same_end aok oa.1 ob.1 ea eb
      subst e1
      subst e2
      have pa := popped_ev aok hA hr oa (asx _ _ _ ea)
      have pb := popped_ev aok hA hr ob (bs _ _ _ eb)
      obtain ⟨k1, p1, m1, q1, _⟩ := (run_pops aok (ordAll A a) (u0 A) (ins0 A) 0 (ord_cells aok oa.1) (mid0 aok)).2 _ _ _ ea
      refine ⟨true, w, h, o, u.sum, iPop pa, iPop pb, iUsed pa, iUsed pb, fun _ => end_perfect aok m1 (fun x hx => q1 x (order_all aok a x hx)), ?_⟩
      have hs := sum_le 60 u (fun x hx => by
        obtain ⟨i, i0, i1, rfl⟩ := mem_rd hx
        have hul := m1.ulen
        have hci : isCell w h i = true := cell_of i0 (by omega)
        have h1 := m1.unn i hci
        have h2 := aok.most i hci
        omega)
      exact decide_eq_true hs.1
end Go.Proofs.Ytnipocpbpcaepaa.L
namespace Go.Proofs.Ytnipocpbpcaepaa.Pure
open Go.RowKit Go.Proofs.Ytnipocpbpcaepaa.X Go.Proofs.Ytnipocpbpcaepaa.L Go.Proofs.YtnipocpbpcaepaaW.PrintLast

theorem FnArrows : laws_FnArrows.Pure := by
  intro s hs1 hs2 _
  obtain ⟨bg, hb⟩ : ∃ bg, laws_big.f s = some bg := by
    unfold laws_big.f
    first | exact ⟨_, rfl⟩ | (split <;> exact ⟨_, rfl⟩)
  cases bg with
  | true =>
    refine ⟨0, ?_⟩
    unfold laws_FnArrows.f
    rw [hb, Option.bind_some, if_pos rfl]
  | false =>
    obtain ⟨w, h, A, a, b, ⟨K0, h0⟩, aok, oa, ob⟩ := draw_ev s (by omega)
    obtain ⟨t, x1, x2, x3, n, ⟨K1, h1⟩, ⟨K2, h2⟩, ⟨K3, h3⟩, ⟨K4, h4⟩, hp, ht⟩ := law_ev aok oa ob
    obtain ⟨hA, hr⟩ := rows_small aok
    obtain ⟨r, ⟨K5, h5⟩, hr2⟩ := arrows_impl (w := w) (h := h) hA
    have hrt := hr2.2 aok
    subst hrt
    obtain ⟨K, hK⟩ : ∃ K, K0 + K1 + K2 + K3 + K4 + K5 + 300 = K := ⟨_, rfl⟩
    have g0 : spec_DrawArrows.f K s = some (w, h, A, a, b) := h0 K (by omega)
    have g1 : impl_PopMaze.f K w h A a = some (x1, x2, x3, t) := h1 K (by omega)
    have g2 : impl_PopMaze.f K w h A b = some (x1, x2, x3, t) := h2 K (by omega)
    have g3 : impl_ArrowsUsed.f K w h A a = some n := h3 K (by omega)
    have g4 : impl_ArrowsUsed.f K w h A b = some n := h4 K (by omega)
    have g5 : impl_ArrowsOk.f K w h A = some true := h5 K (by omega)
    refine ⟨K, ?_⟩
    unfold laws_FnArrows.f
    rw [hb, Option.bind_some, if_neg (by simp), g0, Option.bind_some]
    simp only []
    rw [g1, Option.bind_some, g2, Option.bind_some, g3, Option.bind_some]
    simp only [beq_self_eq_true, Bool.and_self, if_true, ht, g4, g5, Option.bind_some]
    cases t with
    | true =>
      rw [if_pos rfl, iPerfect K x1 x2 x3 (by omega), hp rfl, Option.bind_some, if_pos rfl]
    | false => rw [if_neg (by simp)]
end Go.Proofs.Ytnipocpbpcaepaa.Pure
