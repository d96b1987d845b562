/- PopMaze and ArrowsUsed: what both return, for all arguments. -/
import Derived.Test.YtnipocpbpcaepaaXimplArrowsOk
import Derived.Test.YtnipocpbpcaepaaXimplArrowsUsed
import Derived.Test.YtnipocpbpcaepaaXimplPopMaze
import Derived.Test.YtnipocpbpcaepaaXimplpopped
import Derived.Test.YtnipocpbpcaepaaLPopRun
namespace Go.Proofs.Ytnipocpbpcaepaa.L
open Go.RowKit Go.Proofs.Ytnipocpbpcaepaa.X Go.Proofs.YtnipocpbpcaepaaW.PrintWords Go.Proofs.YtnipocpbpcaepaaW.PrintLast Go.Proofs.YtnipocpbpcaepaaW.PrintMore
set_option linter.unusedSimpArgs false
set_option linter.unusedVariables false

section
variable {w h : Int} {A : List (List Int)}
/-- The arrows of one cell are good. -/
def pr (w h : Int) (A : List (List Int)) (c : Int) : Prop := (rows A c).length ≤ 60 ∧ ∀ d ∈ rows A c, 0 ≤ nb w h c d
theorem aokI (hA : A.length ≤ 1048576) : ∀ (d : Nat) (c : Int), 0 ≤ c → (A.length : Int) - c = d → ∃ r : Bool, Ev (fun k => aok.l0 k w h A c) r ∧ (r = true ↔ AllFrom (pr w h A) c A.length)
  | 0, c, h0, hd => ⟨true, Ev.fin 0 fun k _ => by
      show aok.l0 (k + 1) w h A c = _
      rw [aok.l0, if_neg (by omega)], ⟨fun _ => allFrom_end (by omega), fun _ => rfl⟩⟩
  | d + 1, c, h0, hd => by
    have hc : c < (A.length : Int) := by omega
    have hall : ∀ k, 4 ≤ k → aok.all k w h c (rows A c) = true := fun k hk => by
      unfold aok.all
      rw [List.all_eq_true]
      intro x _
      rw [iNeighbor k w h c x hk]
      rfl
    have hbad : ∀ k, 4 ≤ k → (aok.bad k w h c (rows A c) = true ↔ ∃ d ∈ rows A c, nb w h c d < 0) := fun k hk => by
      unfold aok.bad
      rw [List.any_eq_true]
      constructor
      · rintro ⟨x, hx, e⟩
        rw [iNeighbor k w h c x hk] at e
        exact ⟨x, hx, of_decide_eq_true e⟩
      · rintro ⟨x, hx, e⟩
        refine ⟨x, hx, ?_⟩
        rw [iNeighbor k w h c x hk]
        exact decide_eq_true e
    by_cases h1 : (60 : Int) < ((rows A c).length : Int)
    · refine ⟨false, Ev.fin 0 fun k _ => ?_, fun e => (by cases e), fun e => ?_⟩
      · show aok.l0 (k + 1) w h A c = _
        rw [aok.l0, if_pos hc, rl_rows, if_pos h1]
      · have := (e c (Int.le_refl _) hc).1
        omega
    · by_cases h2 : ∃ d ∈ rows A c, nb w h c d < 0
      · refine ⟨false, Ev.fin 4 fun k hk => ?_, fun e => (by cases e), fun e => ?_⟩
        · show aok.l0 (k + 1) w h A c = _
          rw [aok.l0, if_pos hc, rl_rows, if_neg h1, if_pos (hall k hk), if_pos ((hbad k hk).2 h2)]
        · obtain ⟨x, hx, hx2⟩ := h2
          have := (e c (Int.le_refl _) hc).2 x hx
          omega
      · obtain ⟨r, e1, e2⟩ := aokI hA d (c + 1) (by omega) (by omega)
        refine ⟨r, Ev.to 4 (fun k hk => ?_) e1, ?_⟩
        · show aok.l0 (k + 1) w h A c = _
          rw [aok.l0, if_pos hc, rl_rows, if_neg h1, if_pos (hall k hk), if_neg (fun z => h2 ((hbad k hk).1 z)), w64 (by omega) (by omega)]
        · rw [e2, allFrom_step hc]
          exact ⟨fun z => ⟨⟨by omega, fun x hx => Int.not_lt.1 fun y => h2 ⟨x, hx, y⟩⟩, z⟩, fun z => z.2⟩
theorem aok_iff : AOk w h A ↔ gridOk w h = true ∧ (A.length : Int) = cells w h ∧ (rows A 0).length = 0 ∧ AllFrom (pr w h A) 0 A.length := by
  constructor
  · intro a
    refine ⟨a.grid, a.len, by rw [a.root]; rfl, fun c c0 c1 => ?_⟩
    have hc : isCell w h c = true := cell_of c0 (by have := a.len; omega)
    exact ⟨a.most c hc, a.dir c hc⟩
  · rintro ⟨a, b, c, d⟩
    have key : ∀ x, isCell w h x = true → pr w h A x := fun x hx => by
      have := cellD_lt hx
      exact d x this.1 (by omega)
    exact ⟨a, b, List.length_eq_zero_iff.1 c, fun x hx => (key x hx).1, fun x hx => (key x hx).2⟩
theorem arrows_impl (hA : A.length ≤ 1048576) : ∃ r : Bool, Ev (fun k => impl_ArrowsOk.f k w h A) r ∧ (r = true ↔ AOk w h A) := by
  rw [aok_iff]
  have hI : ∀ k, impl_ArrowsOk.f k w h A = (aok.head w h A).bind fun b => if b = true then some false else aok.l0 k w h A 0 := fun k => rfl
  by_cases g : gridOk w h = true
  · have hcp := cells_pos g
    by_cases l : (A.length : Int) = cells w h
    · have hh : aok.head w h A = some (decide (((rows A 0).length : Int) > 0)) := by
        unfold aok.head
        rw [iGridOk, Option.bind_some, if_pos g, iCountCells, Option.bind_some, if_pos l, if_pos (by omega), rl_rows]
      by_cases z : (rows A 0).length = 0
      · have hz : decide (((rows A 0).length : Int) > 0) = false := decide_eq_false (by omega)
        obtain ⟨r1, e1, e2⟩ := aokI (w := w) (h := h) hA A.length 0 (Int.le_refl _) (by omega)
        refine ⟨r1, Ev.cong 0 (fun k _ => ?_) e1, ?_⟩
        · show impl_ArrowsOk.f k w h A = _
          rw [hI, hh, Option.bind_some, hz]
          rfl
        · rw [e2]
          exact ⟨fun y => ⟨g, l, z, y⟩, fun y => y.2.2.2⟩
      · have hz : decide (((rows A 0).length : Int) > 0) = true := decide_eq_true (by omega)
        refine ⟨false, ⟨0, fun k _ => ?_⟩, fun e => (by cases e), fun e => absurd e.2.2.1 z⟩
        show impl_ArrowsOk.f k w h A = _
        rw [hI, hh, Option.bind_some, hz]
        rfl
    · refine ⟨false, ⟨0, fun k _ => ?_⟩, fun e => (by cases e), fun e => absurd e.2.1 l⟩
      show impl_ArrowsOk.f k w h A = _
      rw [hI]
      unfold aok.head
      rw [iGridOk, Option.bind_some, if_pos g, iCountCells, Option.bind_some, if_neg l, Option.bind_some]
      rfl
  · refine ⟨false, ⟨0, fun k _ => ?_⟩, fun e => (by cases e), fun e => absurd e.1 g⟩
    show impl_ArrowsOk.f k w h A = _
    rw [hI]
    unfold aok.head
    rw [iGridOk, Option.bind_some, if_neg g, Option.bind_some]
    rfl
def ordOk (w h : Int) (l : List Int) : Prop := (∀ x ∈ l, isCell w h x = true) ∧ l.length ≤ 100
theorem popd_cell (c : Int) : popd.cell w h c = isCell w h c := by
  have e := popd.cell_eq w h c
  rw [iisCell] at e
  exact (Option.some.inj e).symm
/-- Are the arguments refused: the same in both. -/
theorem head_ev (l : List Int) (hA : A.length ≤ 1048576) (hr : ∀ r ∈ A, r.length ≤ 1048576) : ∃ b : Bool, Ev (fun k => popd.head k w h A l) b ∧ (b = false ↔ AOk w h A ∧ ordOk w h l) := by
  obtain ⟨r, e1, e3⟩ := arrows_impl (w := w) (h := h) hA
  cases r with
  | false =>
    refine ⟨true, Ev.bind (G := fun k t => if t = true then (if (100 : Int) < (l.length : Int) then some true else some (l.any fun c => !popd.cell w h c)) else some true) e1 ⟨0, fun k _ => rfl⟩, fun e => (by cases e), fun e => ?_⟩
    have := e3.2 e.1
    cases this
  | true =>
    have ha := e3.1 rfl
    refine ⟨if (100 : Int) < (l.length : Int) then true else l.any fun c => !popd.cell w h c, Ev.bind (G := fun k t => if t = true then (if (100 : Int) < (l.length : Int) then some true else some (l.any fun c => !popd.cell w h c)) else some true) e1 ⟨0, fun k _ => ?_⟩, ?_⟩
    · show (if true = true then _ else _) = _
      rw [if_pos rfl]
      split <;> rfl
    · unfold ordOk
      by_cases z : (100 : Int) < (l.length : Int)
      · rw [if_pos z]
        exact ⟨fun e => (by cases e), fun e => absurd e.2.2 (by omega)⟩
      · rw [if_neg z, List.any_eq_false]
        constructor
        · intro e
          refine ⟨ha, fun x hx => ?_, by omega⟩
          have := e x hx
          rw [popd_cell] at this
          simpa using this
        · rintro ⟨_, e, _⟩ x hx
          rw [popd_cell, e x hx]
          simp
theorem popped_ev (a : AOk w h A) {l : List Int} (hA : A.length ≤ 1048576) (hr : ∀ r ∈ A, r.length ≤ 1048576) (ho : ordOk w h l) {r : Int × Int × Int × Int × Bool} (e : Ev (fun k => popd.tail k w h (cells w h) A (ordAll A l)) r) : Ev (fun k => impl_popped.f k w h A l) r := by
  obtain ⟨b, hb, hb2⟩ := head_ev (w := w) (h := h) l hA hr
  have hbf := hb2.2 ⟨a, ho⟩
  subst hbf
  have hcr := cells_range w h
  have hcp := cells_pos a.grid
  have hla := a.len
  have hol := ho.2
  refine Ev.bind (F := fun k => popd.head k w h A l) (G := fun k b => if b = true then some (0, 0, 0, -1, false) else ((impl_CountCells.f w h).bind fun n => if 0 < n then (if n ≤ 1000000 then ((slices_Clone_int_int.f l).bind fun q1 => (impl_upTo.f k n).bind fun q2 => if q1.length + q2.length ≤ 1000000 then popd.tail k w h n A (q1 ++ q2) else none) else none) else none)) hb (Ev.cong 100 (fun k hk => ?_) e)
  show (if false = true then _ else _) = _
  rw [if_neg (by simp), iCountCells, Option.bind_some, if_pos (by omega), if_pos (by omega)]
  unfold slices_Clone_int_int.f
  rw [if_pos (by omega), Option.bind_some]
  have hu := iUpTo k A.length (by omega) (by omega)
  rw [hla] at hu
  rw [hu, Option.bind_some, if_pos (by rw [List.length_map, List.length_range]; omega)]
  rfl
theorem popped_no {l : List Int} (hA : A.length ≤ 1048576) (hr : ∀ r ∈ A, r.length ≤ 1048576) (z : ¬ (AOk w h A ∧ ordOk w h l)) : Ev (fun k => impl_popped.f k w h A l) (0, 0, 0, -1, false) := by
  obtain ⟨b, hb, hb2⟩ := head_ev (w := w) (h := h) l hA hr
  have hbt : b = true := by
    cases b with
    | true => rfl
    | false => exact absurd (hb2.1 rfl) z
  subst hbt
  exact Ev.bind (F := fun k => popd.head k w h A l) (G := fun k b => if b = true then some (0, 0, 0, -1, false) else ((impl_CountCells.f w h).bind fun n => if 0 < n then (if n ≤ 1000000 then ((slices_Clone_int_int.f l).bind fun q1 => (impl_upTo.f k n).bind fun q2 => if q1.length + q2.length ≤ 1000000 then popd.tail k w h n A (q1 ++ q2) else none) else none) else none)) hb ⟨0, fun k _ => rfl⟩
theorem iPop {l : List Int} {a b c d : Int} {e : Bool} (x : Ev (fun k => impl_popped.f k w h A l) (a, b, c, d, e)) : Ev (fun k => impl_PopMaze.f k w h A l) (a, b, c, e) :=
  Ev.bind (F := fun k => impl_popped.f k w h A l) (G := fun k bt503 => (some (bt503.1, bt503.2.1, bt503.2.2.1, bt503.2.2.2.2))) x ⟨0, fun k _ => rfl⟩
theorem iUsed {l : List Int} {a b c d : Int} {e : Bool} (x : Ev (fun k => impl_popped.f k w h A l) (a, b, c, d, e)) : Ev (fun k => impl_ArrowsUsed.f k w h A l) d :=
  Ev.bind (F := fun k => impl_popped.f k w h A l) (G := fun k bt502 => (some bt502.2.2.2.1)) x ⟨0, fun k _ => rfl⟩
end
end Go.Proofs.Ytnipocpbpcaepaa.L
