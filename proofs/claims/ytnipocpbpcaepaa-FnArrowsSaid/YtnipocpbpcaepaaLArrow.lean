/- Mazes from arrows: one walk, circle by circle, and what it leaves. Plain Lean over lists. -/

import Derived.Test.YtnipocpbpcaepaaLGraph
namespace Go.Proofs.Ytnipocpbpcaepaa.L
open Go.RowKit Go.Proofs.Ytnipocpbpcaepaa.X Go.Proofs.YtnipocpbpcaepaaW.PrintWords Go.Proofs.YtnipocpbpcaepaaW.PrintLast Go.Proofs.YtnipocpbpcaepaaW.PrintMore
set_option linter.unusedSimpArgs false
set_option linter.unusedVariables false

def rows (A : List (List Int)) (c : Int) : List Int := rdOf [] A c
def lastC (P : List Int) : Int := rd P ((P.length : Int) - 1)
def arrow (A : List (List Int)) (u : List Int) (c : Int) : Int := rd (rows A c) (rd u c)
def nxt (w h : Int) (A : List (List Int)) (u : List Int) (c : Int) : Int := nb w h c (arrow A u c)
def inc : List Int → List Int → List Int
  | [], u => u
  | p :: ps, u => inc ps (u.set p.toNat (rd u p + 1))
/-- One walk: none where the rounds are used up; 'some none' where a cell has no arrow left. -/
def wl (w h : Int) (A : List (List Int)) (ins : List Bool) : Nat → List Int → List Int → Option (Option (List Int × List Int))
  | 0, _, _ => none
  | n + 1, P, u => if rd u (lastC P) < ((rows A (lastC P)).length : Int) then
      if rdOf false ins (nxt w h A u (lastC P)) = true then some (some (P, u))
      else if nxt w h A u (lastC P) ∈ P then wl w h A ins n (P.take (P.idxOf (nxt w h A u (lastC P)) + 1)) (inc (P.drop (P.idxOf (nxt w h A u (lastC P)))) u)
      else wl w h A ins n (P ++ [nxt w h A u (lastC P)]) u
    else some none
def mark (w h : Int) (A : List (List Int)) (u : List Int) : List Int → List Bool → Int → List Bool × Int
  | [], ins, o => (ins, o)
  | c :: cs, ins, o => mark w h A u cs (ins.set c.toNat true) (withO o (gapAt w h c (arrow A u c)) true)
/-- All walks, in an order of cells: what is used up, and the maze; none where a cell has no arrow left. -/
def runA (w h : Int) (A : List (List Int)) : List Int → List Int → List Bool → Int → Option (List Int × List Bool × Int)
  | [], u, ins, o => some (u, ins, o)
  | c :: cs, u, ins, o => if rdOf false ins c = true then runA w h A cs u ins o else
      match wl w h A ins 20000 [c] u with
      | some (some (P, u')) => runA w h A cs u' (mark w h A u' P ins o).1 (mark w h A u' P ins o).2
      | _ => none
def arrowsOk (w h : Int) (A : List (List Int)) : Bool := gridOk w h && (decide ((A.length : Int) = cells w h) && (decide ((rows A 0).length = 0) && (List.range A.length).all fun c => decide ((rows A (c : Int)).length ≤ 60) && (rows A (c : Int)).all fun d => decide (0 ≤ nb w h (c : Int) d)))
structure AOk (w h : Int) (A : List (List Int)) : Prop where
  grid : gridOk w h = true
  len : (A.length : Int) = cells w h
  root : rows A 0 = []
  most : ∀ c, isCell w h c = true → (rows A c).length ≤ 60
  dir : ∀ c, isCell w h c = true → ∀ d ∈ rows A c, 0 ≤ nb w h c d
theorem arrowsOk_iff {w h : Int} {A : List (List Int)} : arrowsOk w h A = true ↔ AOk w h A := by
  unfold arrowsOk
  rw [Bool.and_eq_true, Bool.and_eq_true, Bool.and_eq_true, decide_eq_true_eq, decide_eq_true_eq, List.all_eq_true]
  constructor
  · rintro ⟨a, b, c, d⟩
    have key : ∀ x, isCell w h x = true → (rows A x).length ≤ 60 ∧ ∀ t ∈ rows A x, 0 ≤ nb w h x t := fun x hx => by
      have hl := cellD_lt hx
      have := d x.toNat (List.mem_range.2 (by omega))
      rw [show ((x.toNat : Nat) : Int) = x by omega, Bool.and_eq_true, decide_eq_true_eq, List.all_eq_true] at this
      exact ⟨this.1, fun t ht => of_decide_eq_true (this.2 t ht)⟩
    exact ⟨a, b, List.length_eq_zero_iff.1 c, fun x hx => (key x hx).1, fun x hx => (key x hx).2⟩
  · rintro ⟨a, b, c, d, e⟩
    refine ⟨a, b, by rw [c]; rfl, fun x hx => ?_⟩
    have hx' : isCell w h (x : Int) = true := cell_of (by omega) (by have := List.mem_range.1 hx; omega)
    rw [Bool.and_eq_true, decide_eq_true_eq, List.all_eq_true]
    exact ⟨d _ hx', fun t ht => decide_eq_true (e _ hx' t ht)⟩
theorem AOk.zero {w h : Int} {A : List (List Int)} (a : AOk w h A) : isCell w h 0 = true := cell_of (Int.le_refl _) (by have := cells_pos a.grid; omega)
/-- The state between two walks. -/
structure Mid (w h : Int) (A : List (List Int)) (u : List Int) (ins : List Bool) (o : Int) : Prop where
  ulen : (u.length : Int) = cells w h
  ilen : (ins.length : Int) = cells w h
  unn : ∀ c, isCell w h c = true → 0 ≤ rd u c ∧ rd u c ≤ ((rows A c).length : Int)
  root : rdOf false ins 0 = true
  up : ∃ dep : Int → Nat, ∀ c, isCell w h c = true → rdOf false ins c = true → c ≠ 0 → rd u c < ((rows A c).length : Int) ∧ rdOf false ins (nxt w h A u c) = true ∧ dep (nxt w h A u c) < dep c
  okm : mazeOk w h o = true
  bits : ∀ g, isGap w h g = true → (bit o g = true ↔ ∃ c, isCell w h c = true ∧ rdOf false ins c = true ∧ c ≠ 0 ∧ gapAt w h c (arrow A u c) = g)
theorem arrow_mem {A : List (List Int)} {u : List Int} {c : Int} (h0 : 0 ≤ rd u c) (h1 : rd u c < ((rows A c).length : Int)) : arrow A u c ∈ rows A c := rd_memL h0 h1
theorem nxt_cell {w h : Int} {A : List (List Int)} (a : AOk w h A) {u : List Int} {c : Int} (hc : isCell w h c = true) (h0 : 0 ≤ rd u c) (h1 : rd u c < ((rows A c).length : Int)) : isCell w h (nxt w h A u c) = true ∧ 0 ≤ nxt w h A u c := by
  have h2 := a.dir c hc _ (arrow_mem h0 h1)
  unfold nxt
  rcases nb_range w h c (arrow A u c) with e | ⟨_, e⟩
  · omega
  · exact ⟨e, h2⟩
theorem nb_dir {w h c t : Int} (h0 : 0 ≤ nb w h c t) : 0 ≤ t ∧ t ≤ 3 := by
  refine Classical.byContradiction fun z => ?_
  have : nb w h c t = -1 := by
    unfold nb
    by_cases hc : isCell w h c = true
    · rw [if_pos hc, if_neg (fun y => by have := y.1; omega), if_neg (fun y => by have := y.1; omega), if_neg (fun y => by have := y.1; omega), if_neg (fun y => by have := y.1; omega)]
    · rw [if_neg hc]
  omega
/-- The state within a walk. -/
structure PathI (w h : Int) (A : List (List Int)) (ins : List Bool) (P u : List Int) : Prop where
  ne : P ≠ []
  nod : P.Nodup
  cel : ∀ c ∈ P, isCell w h c = true ∧ rdOf false ins c = false
  lnk : ∀ j : Int, 0 ≤ j → j + 1 < (P.length : Int) → rd u (rd P j) < ((rows A (rd P j)).length : Int) ∧ nxt w h A u (rd P j) = rd P (j + 1)
theorem PathI.le16 {w h : Int} {A : List (List Int)} {ins : List Bool} {P u : List Int} (p : PathI w h A ins P u) : P.length ≤ 16 := nodup_le 16 P p.nod fun x hx => by
  have h1 := cellD_lt (p.cel x hx).1
  have h2 := cells_range w h
  omega
theorem inc_length : ∀ (ps u : List Int), (inc ps u).length = u.length
  | [], u => rfl
  | p :: ps, u => by rw [inc, inc_length ps, List.length_set]
theorem inc_rd {w h : Int} : ∀ (ps u : List Int), (u.length : Int) = cells w h → ps.Nodup → (∀ p ∈ ps, isCell w h p = true) → ∀ c, isCell w h c = true → rd (inc ps u) c = if c ∈ ps then rd u c + 1 else rd u c
  | [], u, _, _, _, c, _ => by simp [inc]
  | p :: ps, u, hl, hn, hc, c, hcc => by
    have hp := hc p List.mem_cons_self
    rw [List.nodup_cons] at hn
    have hpl := cellD_lt hp
    have hcl := cellD_lt hcc
    rw [inc, inc_rd ps _ (by rw [List.length_set]; exact hl) hn.2 (fun q hq => hc q (List.mem_cons_of_mem _ hq)) c hcc, rd_set hpl.1 (by omega) hcl.1]
    by_cases e : c = p
    · subst e
      rw [if_neg hn.1, if_pos rfl, if_pos List.mem_cons_self]
    · rw [if_neg e]
      by_cases q : c ∈ ps
      · rw [if_pos q, if_pos (List.mem_cons_of_mem _ q)]
      · rw [if_neg q, if_neg (by rw [List.mem_cons]; rintro (z | z); exact e z; exact q z)]
end Go.Proofs.Ytnipocpbpcaepaa.L
