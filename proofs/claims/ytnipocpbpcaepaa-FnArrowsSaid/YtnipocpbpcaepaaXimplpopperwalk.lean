-- Written by a program of this session (xprint.py), out of the translation and of hand-written contracts. Lean checks it.
import Derived.Test.YtnipocpbpcaepaaX0
import Derived.Test.YtnipocpbpcaepaaXcints
import Derived.Test.YtnipocpbpcaepaaXcnbr
import Derived.Test.YtnipocpbpcaepaaXimplwith
namespace Go.Proofs.Ytnipocpbpcaepaa.X
open Go.RowKit Go.Proofs.YtnipocpbpcaepaaW.PrintWords Go.Proofs.YtnipocpbpcaepaaW.PrintLast Go.Proofs.YtnipocpbpcaepaaW.PrintMore
attribute [local go_sem] max2_int min2_int max_two min_two max_three min_three max_four min_four   -- for this text's walks alone
set_option linter.unusedVariables false
set_option linter.unusedSimpArgs false

/-! ### impl_popper_walk: function 48 (by hand) -/
/-- The state of a walk by arrows, in memory: rows of arrows that came in, two rows that are written in place, and a maze. -/
structure PS (w0 W : World) (g gu gi cu ci : Nat) (Aa : Option Addr) (ca : Nat) (A : List (List Int)) (u : List Int) (ins : List Bool) (m0 m1 o : Int) : Prop where
 blk : W.heap[g]? = some (.cells #[.slice Aa A.length ca, .slice (some ⟨gu, 0, none⟩) u.length cu, .slice (some ⟨gi, 0, none⟩) ins.length ci, .int .i64 m0, .int .i64 m1, .int .i64 o] 68 (0, 0))
 use : Kd.R (Kd.int .i64) 3 W w0.heap.size (fun k => k = gu) (.slice (some ⟨gu, 0, none⟩) u.length cu) u
 inn : Kd.R Kd.bool 4 W w0.heap.size (fun k => k = gi) (.slice (some ⟨gi, 0, none⟩) ins.length ci) ins
 arr : Kd.C (Kd.slice 3 (Kd.int .i64)) w0 Aa A.length A
 cap : A.length ≤ ca
 ge : w0.heap.size ≤ g
 uge : w0.heap.size ≤ gu
 ige : w0.heap.size ≤ gi
 ult : gu < W.heap.size
 ilt : gi < W.heap.size
 gneu : g ≠ gu
 gnei : g ≠ gi
 unei : gu ≠ gi
 bel : Below w0.heap.size w0 W
section
variable {w0 W W' : World} {g gu gi cu ci ca : Nat} {Aa : Option Addr} {A : List (List Int)} {u : List Int} {ins : List Bool} {m0 m1 o : Int}
theorem PS.below (h : PS w0 W g gu gi cu ci Aa ca A u ins m0 m1 o) (hb : Below W.heap.size W W') : PS w0 W' g gu gi cu ci Aa ca A u ins m0 m1 o :=
 ⟨blk_below h.blk hb, Kd.R_below h.use hb, Kd.R_below h.inn hb, h.arr, h.cap, h.ge, h.uge, h.ige, Nat.lt_of_lt_of_le h.ult hb.size, Nat.lt_of_lt_of_le h.ilt hb.size, h.gneu, h.gnei, h.unei, below_step h.bel hb⟩
theorem PS.grown (h : PS w0 W g gu gi cu ci Aa ca A u ins m0 m1 o) {row : Option Nat} (hg : W.grownBy W' row) (hb : Below w0.heap.size w0 W') (n1 : some g ≠ row) (n2 : some gu ≠ row) (n3 : some gi ≠ row) : PS w0 W' g gu gi cu ci Aa ca A u ins m0 m1 o :=
 ⟨blk_grown h.blk hg n1, Kd.R_step h.use (fun k hk hl => hg.block k hl (by rw [hk]; exact n2)), Kd.R_step h.inn (fun k hk hl => hg.block k hl (by rw [hk]; exact n3)), h.arr, h.cap, h.ge, h.uge, h.ige, Nat.lt_of_lt_of_le h.ult hg.size, Nat.lt_of_lt_of_le h.ilt hg.size, h.gneu, h.gnei, h.unei, hb⟩
theorem PS.putu (h : PS w0 W g gu gi cu ci Aa ca A u ins m0 m1 o) (i v : Int) : PS w0 (W.setCell ⟨gu, i.toNat, none⟩ (.int .i64 v)) g gu gi cu ci Aa ca A (u.set i.toNat v) ins m0 m1 o := by
 refine ⟨?_, ?_, Kd.R_far (p := ⟨gu, i.toNat, none⟩) h.inn (fun k hk => by rw [hk]; exact fun z => h.unei z.symm) _, h.arr, h.cap, h.ge, h.uge, h.ige, by have := h.ult; simpa [World.setCell] using this, by have := h.ilt; simpa [World.setCell] using this, h.gneu, h.gnei, h.unei, below_set h.bel h.uge⟩
 ·rw [List.length_set]
  exact blk_far h.blk h.gneu _
 ·have := (Kd.R_putg h.use i v).1
  rw [List.length_set]
  exact this
theorem PS.puti (h : PS w0 W g gu gi cu ci Aa ca A u ins m0 m1 o) (i : Int) (v : Bool) : PS w0 (W.setCell ⟨gi, i.toNat, none⟩ (.bool v)) g gu gi cu ci Aa ca A u (ins.set i.toNat v) m0 m1 o := by
 refine ⟨?_, Kd.R_far (p := ⟨gi, i.toNat, none⟩) h.use (fun k hk => by rw [hk]; exact h.unei) _, ?_, h.arr, h.cap, h.ge, h.uge, h.ige, by have := h.ult; simpa [World.setCell] using this, by have := h.ilt; simpa [World.setCell] using this, h.gneu, h.gnei, h.unei, below_set h.bel h.ige⟩
 ·rw [List.length_set]
  exact blk_far h.blk h.gnei _
 ·have := (Kd.R_putg h.inn i v).1
  rw [List.length_set]
  exact this
theorem PS.putm (h : PS w0 W g gu gi cu ci Aa ca A u ins m0 m1 o) (a b c : Int) : PS w0 (((W.setCell ⟨g, 3, none⟩ (.int .i64 a)).setCell ⟨g, 4, none⟩ (.int .i64 b)).setCell ⟨g, 5, none⟩ (.int .i64 c)) g gu gi cu ci Aa ca A u ins a b c := by
 have ne : ∀ k, k = gu → k ≠ g := fun k hk => by rw [hk]; exact fun z => h.gneu z.symm
 have ne' : ∀ k, k = gi → k ≠ g := fun k hk => by rw [hk]; exact fun z => h.gnei z.symm
 refine ⟨?_, Kd.R_far (p := ⟨g, 5, none⟩) (Kd.R_far (p := ⟨g, 4, none⟩) (Kd.R_far (p := ⟨g, 3, none⟩) h.use ne _) ne _) ne _, Kd.R_far (p := ⟨g, 5, none⟩) (Kd.R_far (p := ⟨g, 4, none⟩) (Kd.R_far (p := ⟨g, 3, none⟩) h.inn ne' _) ne' _) ne' _, h.arr, h.cap, h.ge, h.uge, h.ige, by have := h.ult; simpa [World.setCell] using this, by have := h.ilt; simpa [World.setCell] using this, h.gneu, h.gnei, h.unei, below_set (below_set (below_set h.bel h.ge) h.ge) h.ge⟩
 exact blk_put (blk_put (blk_put h.blk 3 _ rfl) 4 _ rfl) 5 _ rfl
theorem PS.reads (h : PS w0 W g gu gi cu ci Aa ca A u ins m0 m1 o) : Kd.C (Kd.slice 3 (Kd.int .i64)) W Aa A.length A := Kd.C_below h.arr h.bel
end
def pop.l1 : Nat → List Int → Int → List Int → Option (List Int)
 | 0, _, _, _ => none
 | k + 1, q, j, u => if j < (q.length : Int) then (if 0 ≤ rd q j then (if rd q j < (u.length : Int) then pop.l1 k q (wrap64 (j + 1)) (u.set (rd q j).toNat (wrap64 (rd u (rd q j) + 1))) else none) else none) else some u
def pop.l2 : Nat → List (List Int) → List Int → List Int → Int → List Bool → Int → Int → Int → Option (List Bool × Int × Int × Int)
 | 0, _, _, _, _, _, _, _, _ => none
 | k + 1, A, u, P, j, ins, m0, m1, o => if j < (P.length : Int) then (if 0 ≤ rd P j then (if rd P j < (ins.length : Int) then (if rd P j < (A.length : Int) then (if rd P j < (u.length : Int) then (if 0 ≤ rd u (rd P j) then (if rd u (rd P j) < ((rd_L1 A (rd P j)).length : Int) then ((impl_GapAt.f k m0 m1 (rd P j) (rd (rd_L1 A (rd P j)) (rd u (rd P j)))).bind fun gp => (impl_with.f m0 m1 o gp true).bind fun r => pop.l2 k A u P (wrap64 (j + 1)) (ins.set (rd P j).toNat true) r.1 r.2.1 r.2.2) else none) else none) else none) else none) else none) else none) else some (ins, m0, m1, o)
def pop.l0 : Nat → List (List Int) → List Int → List Int → List Bool → Int → Int → Int → Option (Bool × List Int × List Bool × Int × Int × Int)
 | 0, _, _, _, _, _, _, _ => none
 | k + 1, A, P, u, ins, m0, m1, o => if 0 < (P.length : Int) then (if 0 ≤ rd P ((P.length : Int) - 1) then (if rd P ((P.length : Int) - 1) < (u.length : Int) then (if rd P ((P.length : Int) - 1) < (A.length : Int) then (if rd u (rd P ((P.length : Int) - 1)) ≥ ((rd_L1 A (rd P ((P.length : Int) - 1))).length : Int) then some (false, u, ins, m0, m1, o) else (if 0 ≤ rd u (rd P ((P.length : Int) - 1)) then ((impl_Neighbor.f k m0 m1 (rd P ((P.length : Int) - 1)) (rd (rd_L1 A (rd P ((P.length : Int) - 1))) (rd u (rd P ((P.length : Int) - 1))))).bind fun x => if 0 ≤ x then (if x < (ins.length : Int) then (if rdOf false ins x = true then ((pop.l2 k A u P 0 ins m0 m1 o).bind fun R => some (true, u, R)) else ((slices_Index_int_int.f k P x).bind fun i => if i < 0 then (if P.length < 17592186044415 then pop.l0 k A (P ++ [x]) u ins m0 m1 o else none) else (if i < (P.length : Int) then ((pop.l1 k (P.drop i.toNat) 0 u).bind fun u' => pop.l0 k A (P.take (i + 1).toNat) u' ins m0 m1 o) else none))) else none) else none) else none)) else none) else none) else none) else none
theorem pop.mono1 : ∀ (k : Nat) (q : List Int) (j : Int) (u : List Int), LeO (pop.l1 k q j u) (pop.l1 (k + 1) q j u)
 | 0, _, _, _ => fun r h => by simp [pop.l1] at h
 | k + 1, q, j, u => by
  have ih := pop.mono1 k
  unfold pop.l1
  exact LeO.ite (LeO.ite (LeO.ite (ih _ _ _) (LeO.refl _)) (LeO.refl _)) (LeO.refl _)
theorem pop.mono2 : ∀ (k : Nat) (A : List (List Int)) (u P : List Int) (j : Int) (ins : List Bool) (m0 m1 o : Int), LeO (pop.l2 k A u P j ins m0 m1 o) (pop.l2 (k + 1) A u P j ins m0 m1 o)
 | 0, _, _, _, _, _, _, _, _ => fun r h => by simp [pop.l2] at h
 | k + 1, A, u, P, j, ins, m0, m1, o => by
  have ih := pop.mono2 k
  unfold pop.l2
  exact LeO.ite (LeO.ite (LeO.ite (LeO.ite (LeO.ite (LeO.ite (LeO.ite (LeO.bind (impl_GapAt.mono _ _ _ _ _) (fun g => LeO.bind (LeO.refl _) (fun r => ih _ _ _ _ _ _ _ _))) (LeO.refl _)) (LeO.refl _)) (LeO.refl _)) (LeO.refl _)) (LeO.refl _)) (LeO.refl _)) (LeO.refl _)
theorem pop.mono : ∀ (k : Nat) (A : List (List Int)) (P u : List Int) (ins : List Bool) (m0 m1 o : Int), LeO (pop.l0 k A P u ins m0 m1 o) (pop.l0 (k + 1) A P u ins m0 m1 o)
 | 0, _, _, _, _, _, _, _ => fun r h => by simp [pop.l0] at h
 | k + 1, A, P, u, ins, m0, m1, o => by
  have ih := pop.mono k
  unfold pop.l0
  exact LeO.ite (LeO.ite (LeO.ite (LeO.ite (LeO.ite (LeO.refl _) (LeO.ite (LeO.bind (impl_Neighbor.mono _ _ _ _ _) (fun x => LeO.ite (LeO.ite (LeO.ite (LeO.bind (pop.mono2 _ _ _ _ _ _ _ _ _) (fun R => LeO.refl _)) (LeO.bind (slices_Index_int_int.mono _ _ _) (fun i => LeO.ite (LeO.ite (ih _ _ _ _ _ _ _) (LeO.refl _)) (LeO.ite (LeO.bind (pop.mono1 _ _ _ _) (fun u' => ih _ _ _ _ _ _ _)) (LeO.refl _))))) (LeO.refl _)) (LeO.refl _))) (LeO.refl _))) (LeO.refl _)) (LeO.refl _)) (LeO.refl _)) (LeO.refl _)
/-- What was there stays, but for the blocks of the state. -/
structure Kp (w w' : World) (g gu gi : Nat) : Prop where
 old : ∀ j, j < w.heap.size → j ≠ g → j ≠ gu → j ≠ gi → w'.heap[j]? = w.heap[j]?
 size : w.heap.size ≤ w'.heap.size
theorem Kp.refl (w : World) (g gu gi : Nat) : Kp w w g gu gi := ⟨fun _ _ _ _ _ => rfl, Nat.le_refl _⟩
theorem Kp.trans {w w1 w2 : World} {g gu gi : Nat} (h : Kp w w1 g gu gi) (k : Kp w1 w2 g gu gi) : Kp w w2 g gu gi := ⟨fun j hj a b c => (k.old j (Nat.lt_of_lt_of_le hj h.size) a b c).trans (h.old j hj a b c), Nat.le_trans h.size k.size⟩
theorem Kp.below {w w1 w2 : World} {g gu gi : Nat} (h : Kp w w1 g gu gi) (hb : Below w1.heap.size w1 w2) : Kp w w2 g gu gi := h.trans ⟨fun j hj _ _ _ => hb.block j hj, hb.size⟩
theorem Kp.setu {w w1 : World} {g gu gi : Nat} (h : Kp w w1 g gu gi) (i : Nat) (v : Value) : Kp w (w1.setCell ⟨gu, i, none⟩ v) g gu gi := h.trans ⟨fun j hj _ b _ => Below.heap_setCell w1 ⟨gu, i, none⟩ v j b, by simp [World.setCell]⟩
theorem Kp.seti {w w1 : World} {g gu gi : Nat} (h : Kp w w1 g gu gi) (i : Nat) (v : Value) : Kp w (w1.setCell ⟨gi, i, none⟩ v) g gu gi := h.trans ⟨fun j hj _ _ c => Below.heap_setCell w1 ⟨gi, i, none⟩ v j c, by simp [World.setCell]⟩
theorem Kp.setg {w w1 : World} {g gu gi : Nat} (h : Kp w w1 g gu gi) (i : Nat) (v : Value) : Kp w (w1.setCell ⟨g, i, none⟩ v) g gu gi := h.trans ⟨fun j hj a _ _ => Below.heap_setCell w1 ⟨g, i, none⟩ v j a, by simp [World.setCell]⟩
theorem Kp.grown {w w1 w2 : World} {g gu gi : Nat} {row : Option Nat} (h : Kp w w1 g gu gi) (hg : w1.grownBy w2 row) (hr : ∀ k, row = some k → w.heap.size ≤ k) : Kp w w2 g gu gi := ⟨fun j hj a b c => (hg.block j (Nat.lt_of_lt_of_le hj h.size) (fun z => by have := hr j z.symm; omega)).trans (h.old j hj a b c), Nat.le_trans h.size hg.size⟩
def pop.T3 : Bool × List (List Nat × List Nat) := (true, [([], []), ([0], [0]), ([1], [1]), ([2], [2]), ([], []), ([3, 4], [3, 4]), ([5], [5]), ([], []), ([7], [7]), ([8], [8]), ([9], [9]), ([], []), ([10, 11], [10, 11]), ([12], [12]), ([13], [13]), ([6, 14], [6, 14])])
def pop.B3 : List Nat := [0, 1, 3, 7, 0, 31, 63, 0, 128, 384, 896, 0, 3968, 8064, 16256, 32767]
theorem pop.tab3 : rtab .any (opsOf Try.f48 3) = pop.T3 := by kernel_rfl
theorem pop.bits3 : waitsOk pop.T3.2 pop.B3 = true := by kernel_rfl
def pop.T5 : Bool × List (List Nat × List Nat) := (true, [([], []), ([0], [0]), ([1], [1]), ([2], [2]), ([3], [3]), ([], []), ([], []), ([6], [6]), ([7], [7]), ([8], [8]), ([], []), ([9, 10], [9, 10]), ([11], [11]), ([], []), ([13], [13]), ([14], [14]), ([15], [15]), ([], []), ([16, 17], [16, 17]), ([18], [18]), ([12, 19], [12, 19]), ([20], [20]), ([4, 5, 21], [4, 5, 21]), ([22, 22, 0, 1, 2, 3, 4, 5, 6, 7, 8, 9, 10, 11, 12, 13, 14, 15, 16, 17, 18, 19, 20, 21, 22], [22])])
def pop.B5 : List Nat := [0, 1, 3, 7, 15, 0, 0, 64, 192, 448, 0, 1984, 4032, 0, 8192, 24576, 57344, 0, 253952, 516096, 1048512, 2097088, 4194303, 8388607]
theorem pop.tab5 : rtab .any (opsOf Try.f48 5) = pop.T5 := by kernel_rfl
theorem pop.bits5 : waitsOk pop.T5.2 pop.B5 = true := by kernel_rfl
def pop.T20 : Bool × List (List Nat × List Nat) := (true, [([], []), ([], []), ([1], [1]), ([2], [2]), ([3], [3]), ([], []), ([5], [5]), ([6], [6]), ([7], [7]), ([8], [8]), ([], []), ([], []), ([11], [11]), ([12], [12]), ([13], [13]), ([], []), ([14, 15], [14, 15]), ([16], [16]), ([], []), ([18], [18]), ([19], [19]), ([20], [20]), ([], []), ([21, 22], [21, 22]), ([23], [23]), ([17, 24], [17, 24]), ([25], [25]), ([9, 10, 26], [9, 10, 26]), ([4, 27, 27], [4, 27]), ([0, 0, 1, 2, 3, 4, 5, 6, 7, 8, 9, 10, 11, 12, 13, 14, 15, 16, 17, 18, 19, 20, 21, 22, 23, 24, 25, 26, 27, 28], [0]), ([29, 0, 1, 2, 3, 4, 5, 6, 7, 8, 9, 10, 11, 12, 13, 14, 15, 16, 17, 18, 19, 20, 21, 22, 23, 24, 25, 26, 27, 28], [29]), ([30, 28, 28, 0, 1, 2, 3, 4, 5, 6, 7, 8, 9, 10, 11, 12, 13, 14, 15, 16, 17, 18, 19, 20, 21, 22, 23, 24, 25, 26, 27, 28], [28, 30])])
def pop.B20 : List Nat := [0, 0, 2, 6, 14, 0, 32, 96, 224, 480, 0, 0, 2048, 6144, 14336, 0, 63488, 129024, 0, 262144, 786432, 1835008, 0, 8126464, 16515072, 33552384, 67106816, 134217696, 268435454, 536870911, 1073741823, 2147483647]
theorem pop.tab20 : rtab .any (opsOf Try.f48 20) = pop.T20 := by kernel_rfl
theorem pop.bits20 : waitsOk pop.T20.2 pop.B20 = true := by kernel_rfl
section
variable {w0 W : World} {g gu gi cu ci ca : Nat} {Aa : Option Addr} {A : List (List Int)} {u : List Int} {ins : List Bool} {m0 m1 o : Int}
theorem PS.c0 (h : PS w0 W g gu gi cu ci Aa ca A u ins m0 m1 o) : W.cell? ⟨g, 0, none⟩ = some (.slice Aa A.length ca) := (blk_cell h.blk 0).trans rfl
theorem PS.c1 (h : PS w0 W g gu gi cu ci Aa ca A u ins m0 m1 o) : W.cell? ⟨g, 1, none⟩ = some (.slice (some ⟨gu, 0, none⟩) u.length cu) := (blk_cell h.blk 1).trans rfl
theorem PS.c2 (h : PS w0 W g gu gi cu ci Aa ca A u ins m0 m1 o) : W.cell? ⟨g, 2, none⟩ = some (.slice (some ⟨gi, 0, none⟩) ins.length ci) := (blk_cell h.blk 2).trans rfl
theorem PS.c3 (h : PS w0 W g gu gi cu ci Aa ca A u ins m0 m1 o) : W.cell? ⟨g, 3, none⟩ = some (.int .i64 m0) := (blk_cell h.blk 3).trans rfl
theorem PS.c4 (h : PS w0 W g gu gi cu ci Aa ca A u ins m0 m1 o) : W.cell? ⟨g, 4, none⟩ = some (.int .i64 m1) := (blk_cell h.blk 4).trans rfl
theorem PS.c5 (h : PS w0 W g gu gi cu ci Aa ca A u ins m0 m1 o) : W.cell? ⟨g, 5, none⟩ = some (.int .i64 o) := (blk_cell h.blk 5).trans rfl
theorem PS.uc (h : PS w0 W g gu gi cu ci Aa ca A u ins m0 m1 o) (c : Int) (h0 : 0 ≤ c) (h1 : c < (u.length : Int)) : W.cell? (⟨gu, c.toNat, none⟩ : Addr) = some (.int .i64 (rd u c)) := by
 exact (Kd.R_celln (0 : Int) h.use c h0 h1).1
theorem PS.ic (h : PS w0 W g gu gi cu ci Aa ca A u ins m0 m1 o) (c : Int) (h0 : 0 ≤ c) (h1 : c < (ins.length : Int)) : W.cell? (⟨gi, c.toNat, none⟩ : Addr) = some (.bool (rdOf false ins c)) ∧ W.frozen? ⟨gi, c.toNat, none⟩ = false := Kd.R_celln false h.inn c h0 h1
theorem PS.drew (h : PS w0 W g gu gi cu ci Aa ca A u ins m0 m1 o) : PS w0 W.drew g gu gi cu ci Aa ca A u ins m0 m1 o := h.below (below_drew1 (Below.refl _ _))
theorem Kp.drew {w w1 : World} {g gu gi : Nat} (h : Kp w w1 g gu gi) : Kp w w1.drew g gu gi := h.below (below_drew1 (Below.refl _ _))
theorem pop.bel {W' : World} (hB : Below w0.heap.size w0 W) {row : Option Nat} (hg : W.grownBy W' row) (hj : ∀ q, row = some q → w0.heap.size ≤ q) : Below w0.heap.size w0 W' :=
 ⟨hg.os.trans hB.os, hg.tape.trans hB.tape, hg.output.trans hB.output, Nat.le_trans hB.size hg.size, fun i hi => (hg.block i (Nat.lt_of_lt_of_le hi hB.size) (fun e => by have := hj i e.symm; omega)).trans (hB.block i hi)⟩
theorem at_keep {W W' : World} {ad : Addr} {v : Value} (hb : Below W.heap.size W W') (h : W.cell? ad = some v) : W'.cell? ad = some v := (hb.cell (World.block_lt_of_cell? _ _ h)).trans h
end
set_option maxHeartbeats 8000000 in
set_option maxRecDepth 100000 in
theorem pop_walk (k : Nat) (w0 w : World) (g gu gi cu ci ca : Nat) (Aa : Option Addr) (A : List (List Int)) (u : List Int) (ins : List Bool) (m0 m1 o cell : Int) (b : Bool) (u' : List Int) (ins' : List Bool) (m0' m1' o' : Int)
  (hS : PS w0 w g gu gi cu ci Aa ca A u ins m0 m1 o) (h : pop.l0 k A [cell] u ins m0 m1 o = some (b, u', ins', m0', m1', o')) :
  Calls Try.prog 48 #[.pointer (some ⟨g, 0, none⟩), .int .i64 cell] w fun e w' => e = .returned (.bool b) ∧ PS w0 w' g gu gi cu ci Aa ca A u' ins' m0' m1' o' ∧ Kp w w' g gu gi := by
 have hu1 := Try.underlying25
 have hu2 := Try.underlying68
 have hu3 := Try.underlying36
 have hu4 := Try.underlying28
 have hu5 := Try.underlying63
 have hu6 := Try.underlying24
 have HS := Aside0.mk hS
 have H' := Aside0.mk h
 have HK := Aside0.mk (Kp.refl w g gu gi)
 have HGL := Aside0.mk (blk_lt hS.blk)
 have HUL := Aside0.mk hS.ult
 have HIL := Aside0.mk hS.ilt
 have HWL := Aside0.mk hS.bel.size
 clear hS h
 go_enter Try.func48, Try.ntmps48
 go_wp2_with ((with_reducible refine gw_ ?_); first | ((with_reducible refine gate_dst (N := 14) rfl ?_); refine Kd.R_lit (w0 := w) (Kd.int .i64) w.heap.size 3 ?hg (N := 14) ?hd (xs := ([cell] : List Int)) (inner := [.int .i64 cell]) (ok := fun j => w.heap.size ≤ j) (okp := fun _ => False) ?hr ?hp (fun _ hk => hk.elim) (Nat.le_refl _) (Below.refl _ _) (Nat.le_refl _) (by simp) ?_; (case hd => rfl); (case hg => rfl); (case hr => first | (go_simp; done) | (go_simp; rfl)); (case hp => exact (Reps.one (show Kd.M (Kd.int .i64) _ _ _ cell [.int .i64 cell] from rfl) (Reps.none _ _))); intro v503 w9 ho10 hb hg_ hnew_; clear hg_ hnew_; have HP := Aside0.mk ho10; replace HS := Aside0.mk (HS.out.below hb); replace HK := Aside0.mk (HK.out.below hb); clear hb ho10))
 go_loopg [5] k (fun kq s5 w' => ∃ (P u2 : List Int), Aside0 (pop.l0 kq A P u2 ins m0 m1 o = some (b, u', ins', m0', m1', o')) ∧ Aside0 (kq ≤ k) ∧ Aside0 (PS w0 w' g gu gi cu ci Aa ca A u2 ins m0 m1 o) ∧ Aside0 (Kd.R (Kd.int .i64) 3 w' w.heap.size (fun j => w.heap.size ≤ j) s5 P) ∧ Aside0 (Kp w w' g gu gi))
 case atStart => exact ⟨[cell], u, H', ⟨Nat.le_refl _⟩, HS, HP, HK⟩
 case round =>
  clear H' HS HP HK
  obtain ⟨P, u2, HA, HK1, HS, HP, HK⟩ := hrel
  cases gk with
  | zero => exact absurd HA.out (by simp [pop.l0])
  | succ k1 =>
   have H := HA.out
   clear HA
   simp only [pop.l0] at H
   by_cases d0 : 0 < (P.length : Int)
   ·rw [if_pos d0] at H
    obtain ⟨c, hc⟩ : ∃ c, rd P ((P.length : Int) - 1) = c := ⟨_, rfl⟩
    rw [hc] at H
    by_cases d1 : 0 ≤ c
    ·rw [if_pos d1] at H
     by_cases d2 : c < (u2.length : Int)
     ·rw [if_pos d2] at H
      by_cases d3 : c < (A.length : Int)
      ·rw [if_pos d3] at H
       obtain ⟨Ap, cp, e5⟩ := Kd.R_slice HP.out
       have hlp := (Kd.R_reads' (e5 ▸ HP.out)).2.1
       subst e5
       obtain ⟨ad, hae, hx⟩ := Kd.at_int (Kd.R_reads' HP.out).2.2 ((P.length : Int) - 1) (by omega) (by omega)
       subst hae
       rw [hc] at hx
       have hmx := Kd.C_max (Kd.R_reads' HP.out).2.2
       have hw1 : wrap64 ((P.length : Int) - 1) = (P.length : Int) - 1 := by unfold wrap64; omega
       rw [← hw1] at hx
       have D1 := Aside0.mk d1
       have D2 := Aside0.mk d2
       have D3 := Aside0.mk d3
       have HC := Aside0.mk hc
       have HLP := Aside0.mk hlp
       have HMX := Aside0.mk hmx
       have e0 : (0 : Int) ≤ wrap64 ((P.length : Int) - 1) := by rw [hw1]; omega
       have e1 : wrap64 ((P.length : Int) - 1) < (P.length : Int) := by rw [hw1]; omega
       have D0 := Aside0.mk d0
       clear hlp hmx
       replace e0 := eq_true e0
       replace e1 := eq_true e1
       have H2 := Aside0.mk H
       clear d0 d1 d2 d3 hc H hw1
       go_upto_region 3 with (fail)
       have H := H2.out
       clear H2 e0 e1 hx
       obtain ⟨ad2, A2, c2, hAa, hr, hr2, hr3⟩ := at_L1 HS.out.reads c D1.out D3.out
       have HR2 := Aside0.mk hr2
       have HR3 := Aside0.mk hr3
       clear hr2 hr3
       have h0 := HS.out.c0
       rw [hAa] at h0
       have p1 := eq_true D1.out
       have p2 := eq_true D2.out
       have p3 := eq_true D3.out
       have hfs1 := HS.out.uc c D1.out D2.out
       have h1 := HS.out.c1
       by_cases d4 : rd u2 c ≥ ((rd_L1 A c).length : Int)
       ·rw [if_pos d4] at H
        have d4b : decide (rd u2 c ≥ ((rd_L1 A c).length : Int)) = true := decide_eq_true d4
        have HE := Aside0.mk H
        clear H d4
        refine start_ (n := 16) (S := fun w' => w'.cell? ⟨g, 1, none⟩ = some (.slice (some ⟨gu, 0, none⟩) u2.length cu) ∧ w'.cell? (⟨gu, c.toNat, none⟩ : Addr) = some (.int .i64 (rd u2 c)) ∧ w'.cell? ⟨g, 0, none⟩ = some (.slice (some ad2) A.length ca) ∧ w'.cell? (ad2.add c.toNat) = some (.slice A2 (rd_L1 A c).length c2)) (ds := []) #[false, false, false, false, false, false, false, false, false, false, false, false, false, false, false, false] (by kernel_rfl) rfl rfl ⟨h1, hfs1, h0, hr⟩ (fun hHeld => ?_); refine with_tabW pop.tab3 pop.bits3 (fun HT_ HW_ => ?_)
        replace HS := Aside0.mk HS.out.drew
        replace HK := Aside0.mk HK.out.drew
        replace HP := Aside0.mk (Kd.R_drew HP.out)
        refine pv_ (i := 0) (N := some 21) HT_.out ?_
        refine pv_ (i := 1) (N := some 22) HT_.out ?_
        refine pv_ (i := 2) (N := some 23) HT_.out ?_
        refine pv_ (i := 4) (N := some 25) HT_.out ?_
        refine pv_ (i := 7) (N := some 28) HT_.out ?_
        refine pv_ (i := 8) (N := some 29) HT_.out ?_
        refine pv_ (i := 9) (N := some 30) HT_.out ?_
        refine pv_ (i := 11) (N := some 32) HT_.out ?_
        refine tv4_ (i := 3) (N := some 24) HT_.out HW_.out hHeld ?_
        refine pv_ (i := 5) (N := some 26) HT_.out ?_
        refine tv4_ (i := 6) (N := some 27) HT_.out HW_.out hHeld ?_
        refine tv4_ (i := 10) (N := some 31) HT_.out HW_.out hHeld ?_
        refine pv_ (i := 12) (N := some 33) HT_.out ?_
        refine tv4_ (i := 13) (N := some 34) HT_.out HW_.out hHeld ?_
        refine pv_ (i := 14) (N := some 35) HT_.out ?_
        refine pv_ (i := 15) (N := some 36) HT_.out ?_
        refine done_ (done_of HT_.out (by kernel_rfl)) ?_
        clear hHeld HT_ HW_ h0 h1 hfs1 hr
        go_wp2
        go_ret
        have hE := Option.some.inj HE.out
        simp only [Prod.mk.injEq] at hE
        obtain ⟨rfl, rfl, rfl, rfl, rfl, rfl⟩ := hE
        exact ⟨rfl, HS.out, HK.out⟩
       ·rw [if_neg d4] at H
        have d4b : decide (rd u2 c ≥ ((rd_L1 A c).length : Int)) = false := decide_eq_false d4
        have D4 : Aside0 (rd u2 c < ((rd_L1 A c).length : Int)) := ⟨by omega⟩
        clear d4
        by_cases d5 : 0 ≤ rd u2 c
        ·rw [if_pos d5] at H
         obtain ⟨x, hn, H⟩ := Option.bind_eq_some_iff.mp H
         have D5 := Aside0.mk d5
         have HN := Aside0.mk hn
         have H2 := Aside0.mk H
         clear d5 hn H
         refine start_ (n := 16) (S := fun w' => w'.cell? ⟨g, 1, none⟩ = some (.slice (some ⟨gu, 0, none⟩) u2.length cu) ∧ w'.cell? (⟨gu, c.toNat, none⟩ : Addr) = some (.int .i64 (rd u2 c)) ∧ w'.cell? ⟨g, 0, none⟩ = some (.slice (some ad2) A.length ca) ∧ w'.cell? (ad2.add c.toNat) = some (.slice A2 (rd_L1 A c).length c2)) (ds := []) #[false, false, false, false, false, false, false, false, false, false, false, false, false, false, false, false] (by kernel_rfl) rfl rfl ⟨h1, hfs1, h0, hr⟩ (fun hHeld => ?_); refine with_tabW pop.tab3 pop.bits3 (fun HT_ HW_ => ?_)
         replace HS := Aside0.mk HS.out.drew
         replace HK := Aside0.mk HK.out.drew
         replace HP := Aside0.mk (Kd.R_drew HP.out)
         replace HR3 := Aside0.mk (Kd.C_drew HR3.out)
         refine pv_ (i := 0) (N := some 21) HT_.out ?_
         refine pv_ (i := 1) (N := some 22) HT_.out ?_
         refine pv_ (i := 2) (N := some 23) HT_.out ?_
         refine pv_ (i := 4) (N := some 25) HT_.out ?_
         refine pv_ (i := 7) (N := some 28) HT_.out ?_
         refine pv_ (i := 8) (N := some 29) HT_.out ?_
         refine pv_ (i := 9) (N := some 30) HT_.out ?_
         refine pv_ (i := 11) (N := some 32) HT_.out ?_
         refine tv4_ (i := 3) (N := some 24) HT_.out HW_.out hHeld ?_
         refine pv_ (i := 5) (N := some 26) HT_.out ?_
         refine tv4_ (i := 6) (N := some 27) HT_.out HW_.out hHeld ?_
         refine tv4_ (i := 10) (N := some 31) HT_.out HW_.out hHeld ?_
         refine pv_ (i := 12) (N := some 33) HT_.out ?_
         refine tv4_ (i := 13) (N := some 34) HT_.out HW_.out hHeld ?_
         refine pv_ (i := 14) (N := some 35) HT_.out ?_
         refine pv_ (i := 15) (N := some 36) HT_.out ?_
         refine done_ (done_of HT_.out (by kernel_rfl)) ?_
         obtain ⟨q1, q2, q3, q4⟩ := hHeld
         clear HT_ HW_ h0 h1 hfs1 hr d4b
         go_upto_region 5 with (fail)
         have H := H2.out
         clear H2
         obtain ⟨ad4, hA2, hx4⟩ := Kd.at_int HR3.out (rd u2 c) D5.out D4.out
         subst hA2
         have p4 := eq_true D5.out
         have p5 := eq_true D4.out
         refine start_ (n := 24) (S := fun w' => w'.cell? ⟨g, 3, none⟩ = some (.int .i64 m0) ∧ w'.cell? ⟨g, 4, none⟩ = some (.int .i64 m1) ∧ w'.cell? ⟨g, 0, none⟩ = some (.slice (some ad2) A.length ca) ∧ w'.cell? (ad2.add c.toNat) = some (.slice (some ad4) (rd_L1 A c).length c2) ∧ w'.cell? ⟨g, 1, none⟩ = some (.slice (some ⟨gu, 0, none⟩) u2.length cu) ∧ w'.cell? (⟨gu, c.toNat, none⟩ : Addr) = some (.int .i64 (rd u2 c)) ∧ w'.cell? (ad4.add (rd u2 c).toNat) = some (.int .i64 (rd (rd_L1 A c) (rd u2 c))) ∧ True ∧ True ∧ True ∧ True) (ds := []) #[false, false, false, false, false, false, false, false, false, false, false, false, false, false, false, false, false, false, false, false, false, false, false, false] (by kernel_rfl) rfl rfl ⟨HS.out.c3, HS.out.c4, q3, q4, q1, q2, hx4, trivial, trivial, trivial, trivial⟩ (fun hHeld => ?_); refine with_tabW pop.tab5 pop.bits5 (fun HT_ HW_ => ?_)
         clear q1 q2 q3 q4 hx4
         replace HS := Aside0.mk HS.out.drew
         replace HK := Aside0.mk HK.out.drew
         replace HP := Aside0.mk (Kd.R_drew HP.out)
         refine pv_ (i := 0) (N := some 37) HT_.out ?_
         refine pv_ (i := 1) (N := some 38) HT_.out ?_
         refine pv_ (i := 2) (N := some 39) HT_.out ?_
         refine pv_ (i := 3) (N := some 40) HT_.out ?_
         refine pv_ (i := 5) (N := some 42) HT_.out ?_
         refine pv_ (i := 6) (N := some 43) HT_.out ?_
         refine pv_ (i := 7) (N := some 44) HT_.out ?_
         refine pv_ (i := 8) (N := some 45) HT_.out ?_
         refine pv_ (i := 10) (N := some 47) HT_.out ?_
         refine pv_ (i := 13) (N := some 50) HT_.out ?_
         refine pv_ (i := 14) (N := some 51) HT_.out ?_
         refine pv_ (i := 15) (N := some 52) HT_.out ?_
         refine pv_ (i := 17) (N := some 54) HT_.out ?_
         refine tv11_ (i := 4) (N := some 41) HT_.out HW_.out hHeld ?_
         refine tv11_ (i := 9) (N := some 46) HT_.out HW_.out hHeld ?_
         refine pv_ (i := 11) (N := some 48) HT_.out ?_
         refine tv11_ (i := 12) (N := some 49) HT_.out HW_.out hHeld ?_
         refine tv11_ (i := 16) (N := some 53) HT_.out HW_.out hHeld ?_
         refine pv_ (i := 18) (N := some 55) HT_.out ?_
         refine tv11_ (i := 19) (N := some 56) HT_.out HW_.out hHeld ?_
         refine pv_ (i := 20) (N := some 57) HT_.out ?_
         refine tv11_ (i := 21) (N := some 58) HT_.out HW_.out hHeld ?_
         refine ov_ (i := 22) (N := some 59) HT_.out (fun K hK => ?_)
         refine gq_ Try.func37 #[.agg #[.int .i64 m0, .int .i64 m1], .int .i64 c, .int .i64 (rd (rd_L1 A c) (rd u2 c))] ?_
         with_reducible refine (impl_Neighbor.calls k1 m0 m1 c (rd (rd_L1 A c) (rd u2 c)) x _ HN.out).mono ?_
         rintro e w51 ⟨rfl, hb⟩
         have hS4 := at_keep hb hHeld.2.2.2.1
         have hS7 := at_keep hb hHeld.2.2.2.2.2.2.1
         refine ⟨_, rfl, ?_⟩
         replace HP := Aside0.mk (Kd.R_below HP.out hb)
         replace HS := Aside0.mk (HS.out.below hb)
         replace HK := Aside0.mk (HK.out.below hb)
         clear hb
         have h0 := HS.out.c0
         rw [hAa] at h0
         refine hK.out _ _ ⟨HS.out.c3, HS.out.c4, h0, hS4, HS.out.c1, HS.out.uc c D1.out D2.out, hS7, trivial, trivial, trivial, trivial⟩ (fun hHeld => ?_)
         clear hK K
         refine nm_ ?_
         refine pv_ (i := 23) (N := some 7) HT_.out ?_
         refine done_ (done_of HT_.out (by kernel_rfl)) ?_
         clear hHeld HT_ HW_ h0 hS4 hS7 p4 p5
         by_cases d6 : 0 ≤ x
         ·rw [if_pos d6] at H
          by_cases d7 : x < (ins.length : Int)
          ·rw [if_pos d7] at H
           have D6 := Aside0.mk d6
           have D7 := Aside0.mk d7
           have p6 := eq_true d6
           have p7 := eq_true d7
           obtain ⟨hci, _⟩ := HS.out.ic x D6.out D7.out
           have h2 := HS.out.c2
           clear d6 d7
           by_cases d8 : rdOf false ins x = true
           ·rw [if_pos d8] at H
            have d8b := d8
            obtain ⟨⟨ri, r0, r1, r2⟩, hl2, H⟩ := Option.bind_eq_some_iff.mp H
            have HL2 := Aside0.mk hl2
            have HE := Aside0.mk H
            rw [d8] at hci
            clear hl2 H d8
            go_wp2_with (fail)
            clear hci h2 p6 p7 d8b
            go_loopg [100] k1 (fun kq s100 w' => ∃ (j a0 a1 a2 : Int) (ins2 : List Bool), s100 = .int .i64 j ∧ Aside0 (pop.l2 kq A u2 P j ins2 a0 a1 a2 = some (ri, r0, r1, r2)) ∧ Aside0 (kq ≤ k1) ∧ Aside0 (0 ≤ j) ∧ Aside0 (PS w0 w' g gu gi cu ci Aa ca A u2 ins2 a0 a1 a2) ∧ Aside0 (Kd.R (Kd.int .i64) 3 w' w.heap.size (fun j => w.heap.size ≤ j) (.slice (some ad) P.length cp) P) ∧ Aside0 (Kp w w' g gu gi))
            case atStart => exact ⟨0, m0, m1, o, ins, rfl, HL2, ⟨Nat.le_refl _⟩, ⟨Int.le_refl _⟩, HS, HP, HK⟩
            case round =>
             clear HL2 HS HP HK
             obtain ⟨j, a0, a1, a2, ins2, rfl, HA, HK2, HJ, HS, HP, HK⟩ := hrel
             cases gk with
             | zero => exact absurd HA.out (by simp [pop.l2])
             | succ k2 =>
              have H := HA.out
              clear HA
              simp only [pop.l2] at H
              by_cases f0 : j < (P.length : Int)
              ·rw [if_pos f0] at H
               obtain ⟨c', hc'⟩ : ∃ c', rd P j = c' := ⟨_, rfl⟩
               rw [hc'] at H
               by_cases f1 : 0 ≤ c'
               ·rw [if_pos f1] at H
                by_cases f2 : c' < (ins2.length : Int)
                ·rw [if_pos f2] at H
                 by_cases f3 : c' < (A.length : Int)
                 ·rw [if_pos f3] at H
                  by_cases f4 : c' < (u2.length : Int)
                  ·rw [if_pos f4] at H
                   by_cases f5 : 0 ≤ rd u2 c'
                   ·rw [if_pos f5] at H
                    by_cases f6 : rd u2 c' < ((rd_L1 A c').length : Int)
                    ·rw [if_pos f6] at H
                     obtain ⟨gp, hgp, H⟩ := Option.bind_eq_some_iff.mp H
                     obtain ⟨⟨s0, s1, s2⟩, hwi, H⟩ := Option.bind_eq_some_iff.mp H
                     have HG := Aside0.mk hgp
                     have HW : Aside0 (impl_with.f a0 a1 a2 gp true = some (s0, s1, s2)) := ⟨hwi⟩
                     have H2 : Aside0 (pop.l2 k2 A u2 P (wrap64 (j + 1)) (ins2.set c'.toNat true) s0 s1 s2 = some (ri, r0, r1, r2)) := ⟨H⟩
                     have F0 := Aside0.mk f0
                     have F1 := Aside0.mk f1
                     have F2 := Aside0.mk f2
                     have F3 := Aside0.mk f3
                     have F4 := Aside0.mk f4
                     have F5 := Aside0.mk f5
                     have F6 := Aside0.mk f6
                     have f0b : decide (j < (P.length : Int)) = true := decide_eq_true f0
                     clear hgp hwi H f0 f1 f2 f3 f4 f5 f6
                     obtain ⟨ad', hae, hx⟩ := Kd.at_int (Kd.R_reads' HP.out).2.2 j HJ.out F0.out
                     cases hae
                     rw [hc'] at hx
                     obtain ⟨hci, hcf⟩ := HS.out.ic c' F1.out F2.out
                     have h2 := HS.out.c2
                     have pj := eq_true HJ.out
                     have pl := eq_true F0.out
                     have p1 := eq_true F1.out
                     have p2 := eq_true F2.out
                     go_upto_region 20 with ((with_reducible refine gate_store (t := 4) (p := 109) rfl ?_); refine store_event (t := 4) (p := 109) (v := ?vo_w48) (w1 := (wr.setCell ⟨gi, c'.toNat, none⟩ (.bool true))) ?hg ?ho ?hn ?hr ?_; (case ho => rfl); (case hg => rfl); (case hn => rfl); (case hr => first | (go_simp; done) | (go_simp; rfl)); intro w48 hw; replace HS := Aside0.mk (show PS w0 w48 g gu gi cu ci Aa ca A u2 (ins2.set c'.toNat true) a0 a1 a2 from by rw [hw]; exact HS.out.puti c' true); replace HP := Aside0.mk (show Kd.R (Kd.int .i64) 3 w48 w.heap.size (fun j => w.heap.size ≤ j) (.slice (some ad) P.length cp) P from by rw [hw]; exact Kd.R_far (p := ⟨gi, c'.toNat, none⟩) HP.out (fun q hq e => by have := HIL.out; have e' : q = gi := e; omega) _); replace HK := Aside0.mk (show Kp w w48 g gu gi from by rw [hw]; exact HK.out.seti c'.toNat (.bool true)); clear hw hx hci hcf h2)
                     obtain ⟨ad2, A2, c2, hAa, hr, hr2, hr3⟩ := at_L1 HS.out.reads c' F1.out F3.out
                     obtain ⟨ad4, hA2, hx4⟩ := Kd.at_int hr3 (rd u2 c') F5.out F6.out
                     subst hA2
                     clear hr2 hr3
                     have h0 := HS.out.c0
                     rw [hAa] at h0
                     have p3 := eq_true F3.out
                     have p4 := eq_true F4.out
                     have p5 := eq_true F5.out
                     have p6 := eq_true F6.out
                     have hfs1 := HS.out.uc c' F1.out F4.out
                     refine start_ (n := 32) (S := fun w' => w'.cell? ⟨g, 3, none⟩ = some (.int .i64 a0) ∧ w'.cell? ⟨g, 4, none⟩ = some (.int .i64 a1) ∧ w'.cell? ⟨g, 0, none⟩ = some (.slice (some ad2) A.length ca) ∧ w'.cell? (ad2.add c'.toNat) = some (.slice (some ad4) (rd_L1 A c').length c2) ∧ w'.cell? ⟨g, 1, none⟩ = some (.slice (some ⟨gu, 0, none⟩) u2.length cu) ∧ w'.cell? (⟨gu, c'.toNat, none⟩ : Addr) = some (.int .i64 (rd u2 c')) ∧ w'.cell? (ad4.add (rd u2 c').toNat) = some (.int .i64 (rd (rd_L1 A c') (rd u2 c'))) ∧ w'.cell? ⟨g, 5, none⟩ = some (.int .i64 a2) ∧ True ∧ True ∧ True) (ds := [31]) #[false, false, false, false, false, false, false, false, false, false, false, false, false, false, false, false, false, false, false, false, false, false, false, false, false, false, false, false, false, false, false, false] (by kernel_rfl) rfl rfl ⟨HS.out.c3, HS.out.c4, h0, hr, HS.out.c1, hfs1, hx4, HS.out.c5, trivial, trivial, trivial⟩ (fun hHeld => ?_); refine with_tabW pop.tab20 pop.bits20 (fun HT_ HW_ => ?_)
                     clear hr hx4 h0 hfs1
                     replace HS := Aside0.mk HS.out.drew
                     replace HK := Aside0.mk HK.out.drew
                     replace HP := Aside0.mk (Kd.R_drew HP.out)
                     refine pv_ (i := 0) (N := some 110) HT_.out ?_
                     refine pv_ (i := 1) (N := some 111) HT_.out ?_
                     refine pv_ (i := 2) (N := some 112) HT_.out ?_
                     refine pv_ (i := 3) (N := some 113) HT_.out ?_
                     refine pv_ (i := 5) (N := some 115) HT_.out ?_
                     refine pv_ (i := 6) (N := some 116) HT_.out ?_
                     refine pv_ (i := 7) (N := some 117) HT_.out ?_
                     refine pv_ (i := 8) (N := some 118) HT_.out ?_
                     refine pv_ (i := 10) (N := some 120) HT_.out ?_
                     refine pv_ (i := 11) (N := some 121) HT_.out ?_
                     refine pv_ (i := 12) (N := some 122) HT_.out ?_
                     refine pv_ (i := 13) (N := some 123) HT_.out ?_
                     refine pv_ (i := 15) (N := some 125) HT_.out ?_
                     refine pv_ (i := 18) (N := some 128) HT_.out ?_
                     refine pv_ (i := 19) (N := some 129) HT_.out ?_
                     refine pv_ (i := 20) (N := some 130) HT_.out ?_
                     refine pv_ (i := 22) (N := some 132) HT_.out ?_
                     refine tv11_ (i := 4) (N := some 114) HT_.out HW_.out hHeld ?_
                     refine tv11_ (i := 9) (N := some 119) HT_.out HW_.out hHeld ?_
                     refine tv11_ (i := 14) (N := some 124) HT_.out HW_.out hHeld ?_
                     refine pv_ (i := 16) (N := some 126) HT_.out ?_
                     refine tv11_ (i := 17) (N := some 127) HT_.out HW_.out hHeld ?_
                     refine tv11_ (i := 21) (N := some 131) HT_.out HW_.out hHeld ?_
                     refine pv_ (i := 23) (N := some 133) HT_.out ?_
                     refine tv11_ (i := 24) (N := some 134) HT_.out HW_.out hHeld ?_
                     refine pv_ (i := 25) (N := some 135) HT_.out ?_
                     refine tv11_ (i := 26) (N := some 136) HT_.out HW_.out hHeld ?_
                     refine ov_ (i := 27) (N := some 137) HT_.out (fun K hK => ?_)
                     refine gq_ Try.func63 #[.agg #[.int .i64 a0, .int .i64 a1], .int .i64 c', .int .i64 (rd (rd_L1 A c') (rd u2 c'))] ?_
                     with_reducible refine (impl_GapAt.calls k2 a0 a1 c' (rd (rd_L1 A c') (rd u2 c')) gp _ HG.out).mono ?_
                     rintro e w51 ⟨rfl, hb⟩
                     have hS4 := at_keep hb hHeld.2.2.2.1
                     have hS7 := at_keep hb hHeld.2.2.2.2.2.2.1
                     refine ⟨_, rfl, ?_⟩
                     replace HP := Aside0.mk (Kd.R_below HP.out hb)
                     replace HS := Aside0.mk (HS.out.below hb)
                     replace HK := Aside0.mk (HK.out.below hb)
                     clear hb
                     have h0 := HS.out.c0
                     rw [hAa] at h0
                     refine hK.out _ _ ⟨HS.out.c3, HS.out.c4, h0, hS4, HS.out.c1, HS.out.uc c' F1.out F4.out, hS7, HS.out.c5, trivial, trivial, trivial⟩ (fun hHeld => ?_)
                     clear hK K h0 hS4 hS7
                     refine nm_ ?_
                     refine ov_ (i := 28) (N := some 138) HT_.out (fun K hK => ?_)
                     refine gq_ Try.func62 #[.agg #[.int .i64 a0, .int .i64 a1, .int .i64 a2], .int .i64 gp, .bool true] ?_
                     with_reducible refine (impl_with.calls a0 a1 a2 gp true s0 s1 s2 _ HW.out).mono ?_
                     rintro e w51 ⟨rfl, hb⟩
                     have hS4 := at_keep hb hHeld.2.2.2.1
                     have hS7 := at_keep hb hHeld.2.2.2.2.2.2.1
                     refine ⟨_, rfl, ?_⟩
                     replace HP := Aside0.mk (Kd.R_below HP.out hb)
                     replace HS := Aside0.mk (HS.out.below hb)
                     replace HK := Aside0.mk (HK.out.below hb)
                     clear hb
                     have h0 := HS.out.c0
                     rw [hAa] at h0
                     refine hK.out _ _ ⟨HS.out.c3, HS.out.c4, h0, hS4, HS.out.c1, HS.out.uc c' F1.out F4.out, hS7, HS.out.c5, trivial, trivial, trivial⟩ (fun hHeld => ?_)
                     clear hK K h0 hS4 hS7
                     refine nm_ ?_
                     refine pv_ (i := 29) (N := some 139) HT_.out ?_
                     refine pv_ (i := 30) (N := some 140) HT_.out ?_
                     refine last_ (i := 31) (N := none) #[true, true, true, true, true, true, true, true, true, true, true, true, true, true, true, true, true, true, true, true, true, true, true, true, true, true, true, true, true, true, true, true] rfl rfl (one_of HT_.out (by kernel_rfl)) (by decide) (fun K hK => ?_)
                     have z3 := HS.out.c3
                     have z4 := HS.out.c4
                     have z5 := HS.out.c5
                     have y3 := blk_frozen HS.out.blk 3
                     have y4 := blk_frozen HS.out.blk 4
                     have y5 := blk_frozen HS.out.blk 5
                     refine skip_ (w1 := ?_) (by rfl) rfl ?_ ?_
                     rotate_left
                     ·go_simp
                      rfl
                     refine hK.out _ _ ?_
                     clear hK K z3 z4 z5 y3 y4 y5 hHeld
                     refine done_ (done_of HT_.out (by kernel_rfl)) ?_
                     clear HT_ HW_ p3 p4 p5 p6
                     have hmx := HMX.out
                     have hj := HJ.out
                     have hl := F0.out
                     have HJ2 : Aside0 (0 ≤ wrap64 (j + 1)) := ⟨by unfold wrap64; omega⟩
                     clear hmx hj hl
                     go_wp2
                     go_roundg k2
                     case measure => exact Nat.lt_succ_self _
                     case rel => exact ⟨wrap64 (j + 1), s0, s1, s2, _, rfl, H2, ⟨Nat.le_of_succ_le HK2.out⟩, HJ2, ⟨HS.out.putm s0 s1 s2⟩, ⟨Kd.R_far (p := ⟨g, 5, none⟩) (Kd.R_far (p := ⟨g, 4, none⟩) (Kd.R_far (p := ⟨g, 3, none⟩) HP.out (fun q hq e => by have := HGL.out; have e' : q = g := e; omega) _) (fun q hq e => by have := HGL.out; have e' : q = g := e; omega) _) (fun q hq e => by have := HGL.out; have e' : q = g := e; omega) _⟩, ⟨((HK.out.setg 3 _).setg 4 _).setg 5 _⟩⟩
                    ·rw [if_neg f6] at H
                     cases H
                   ·rw [if_neg f5] at H
                    cases H
                  ·rw [if_neg f4] at H
                   cases H
                 ·rw [if_neg f3] at H
                  cases H
                ·rw [if_neg f2] at H
                 cases H
               ·rw [if_neg f1] at H
                cases H
              ·rw [if_neg f0] at H
               have f0b : decide (j < (P.length : Int)) = false := decide_eq_false f0
               have HR := Aside0.mk (Option.some.inj H)
               clear f0 H
               go_wp2
               go_ret
               have hE := Option.some.inj HE.out
               have hR := HR.out
               simp only [Prod.mk.injEq] at hE hR
               obtain ⟨rfl, rfl, rfl, rfl, rfl, rfl⟩ := hE
               obtain ⟨rfl, rfl, rfl, rfl⟩ := hR
               exact ⟨rfl, HS.out, HK.out⟩
           ·rw [if_neg d8] at H
            have d8b : rdOf false ins x = false := by simpa using d8
            have H2 := Aside0.mk H
            rw [d8b] at hci
            clear H d8 d8b
            go_upto_region 7 with (fail)
            clear hci h2 p6 p7
            have H := H2.out
            obtain ⟨i, hi, H⟩ := Option.bind_eq_some_iff.mp H
            have HI := Aside0.mk hi
            clear hi H2
            by_cases d9 : i < 0
            ·rw [if_pos d9] at H
             have d9b : decide (i < 0) = true := decide_eq_true d9
             by_cases d10 : P.length < 17592186044415
             ·rw [if_pos d10] at H
              have D10 := Aside0.mk d10
              have H2 := Aside0.mk H
              clear d9 d10 H
              go_wp2_with ((with_reducible refine gw_ ?_); first | (refine gl_ 69 Try.func61 #[.slice (some ad) P.length cp, .int .i64 x] ?_; (with_reducible refine (slices_Index_int_int.calls k1 (some ad) cp P x i _ (Kd.R_reads' HP.out).2.2 HLP.out HI.out).mono ?_); rintro e w7 ⟨rfl, ⟨nd, rfl⟩⟩; refine ⟨_, rfl, ?_⟩; replace HS := Aside0.mk (HS.out.below (pw_below_drewN (Below.refl _ _) nd)); replace HK := Aside0.mk (HK.out.below (pw_below_drewN (Below.refl _ _) nd)); replace HP := Aside0.mk (Kd.R_drewN HP.out nd)) |
               ((with_reducible refine gate_builtin (b := .append) (xs := #[.tmp 72, .tmp 74]) rfl ?_); at_builtin; refine Kd.R_append (Kd.int .i64) (w0 := ?w0x) w.heap.size rfl (.tmp 72) (.tmp 74) 25 3 (.int .i64 0) 8 rfl Try.underlying25 info3 rfl (by decide) (by omega) (.slice (some ad) P.length cp) P x [.int .i64 x] (fun j => w.heap.size ≤ j) (fun _ => False) rfl rfl ?aP (fun _ hk => hk.elim) ?aF ?aO ?aB ?aS ?aL ?_; (case aB => exact Below.refl _ _); (case aP => exact rfl); (case aF => exact (fun _ hk => Nat.le_trans HK.out.size hk)); (case aO => exact HP.out); (case aS => exact HK.out.size); (case aL => have := D10.out; omega); intro v520 w44 ho hb hg hat; replace HS := Aside0.mk (HS.out.grown hg (pop.bel HS.out.bel hg (fun q hq => Nat.le_trans HWL.out (HP.out.1 q hq))) (fun e => by have : w.heap.size ≤ g := HP.out.1 g e.symm; have := HGL.out; omega) (fun e => by have : w.heap.size ≤ gu := HP.out.1 gu e.symm; have := HUL.out; omega) (fun e => by have : w.heap.size ≤ gi := HP.out.1 gi e.symm; have := HIL.out; omega)); replace HK := Aside0.mk (HK.out.grown hg (fun q hq => HP.out.1 q hq)); have HP2 := Aside0.mk ho; clear HP ho hb hg hat))
              go_roundg k1
              case measure => exact Nat.lt_succ_self _
              case rel => exact ⟨P ++ [x], u2, H2, ⟨Nat.le_of_succ_le HK1.out⟩, HS, HP2, HK⟩
             ·rw [if_neg d10] at H
              cases H
            ·rw [if_neg d9] at H
             have d9b : decide (i < 0) = false := decide_eq_false d9
             have D9 : Aside0 (0 ≤ i) := ⟨by omega⟩
             by_cases d10 : i < (P.length : Int)
             ·rw [if_pos d10] at H
              obtain ⟨u4, hl1, H⟩ := Option.bind_eq_some_iff.mp H
              have D10 := Aside0.mk d10
              have HL1 := Aside0.mk hl1
              have H2 := Aside0.mk H
              clear d9 d10 H hl1
              obtain ⟨ti, hi1⟩ : ∃ i, Try.prog.info? 3 = some i := Option.isSome_iff_exists.1 (by kernel_rfl)
              have hi2 : (Try.prog.info? 3).map (·.size) = some 1 := by kernel_rfl
              rw [hi1] at hi2
              replace hi2 := Option.some.inj hi2
              obtain ⟨Aq, hr1, hr2, hr3⟩ := print_drop_of (P := Try.prog) (Value.int .i64) (0 : Int) 25 3 .i64 hu1 hi1 hi2 (some ad) cp P i D9.out (by have := D10.out; omega) HLP.out
              have HQ : Aside0 (∀ W : World, Kd.C (Kd.int .i64) W (some ad) P.length P → Kd.C (Kd.int .i64) W Aq (P.drop i.toNat).length (P.drop i.toNat)) := ⟨fun W hC => Kd.C_of_reads (h1 := fun _ => rfl) (hr2 W (Kd.reads_of_C hC))⟩
              have HQL := Aside0.mk hr3
              clear hi1 hi2 hr2 hr3
              go_wp2_with ((with_reducible refine gw_ ?_); first | (refine gl_ 69 Try.func61 #[.slice (some ad) P.length cp, .int .i64 x] ?_; (with_reducible refine (slices_Index_int_int.calls k1 (some ad) cp P x i _ (Kd.R_reads' HP.out).2.2 HLP.out HI.out).mono ?_); rintro e w7 ⟨rfl, ⟨nd, rfl⟩⟩; refine ⟨_, rfl, ?_⟩; replace HS := Aside0.mk (HS.out.below (pw_below_drewN (Below.refl _ _) nd)); replace HK := Aside0.mk (HK.out.below (pw_below_drewN (Below.refl _ _) nd)); replace HP := Aside0.mk (Kd.R_drewN HP.out nd)))
              clear hr1
              go_loopg [80] k1 (fun kq s80 w' => ∃ (j : Int) (u3 : List Int), s80 = .int .i64 j ∧ Aside0 (pop.l1 kq (P.drop i.toNat) j u3 = some u4) ∧ Aside0 (kq ≤ k1) ∧ Aside0 (0 ≤ j) ∧ Aside0 (PS w0 w' g gu gi cu ci Aa ca A u3 ins m0 m1 o) ∧ Aside0 (Kd.R (Kd.int .i64) 3 w' w.heap.size (fun j => w.heap.size ≤ j) (.slice (some ad) P.length cp) P) ∧ Aside0 (Kp w w' g gu gi))
              case atStart => exact ⟨0, u2, rfl, HL1, ⟨Nat.le_refl _⟩, ⟨Int.le_refl _⟩, HS, HP, HK⟩
              case round =>
               clear HL1 HS HP HK
               obtain ⟨j, u3, rfl, HA, HK2, HJ, HS, HP, HK⟩ := hrel
               cases gk with
               | zero => exact absurd HA.out (by simp [pop.l1])
               | succ k2 =>
                have H := HA.out
                clear HA
                simp only [pop.l1, List.length_drop] at H
                by_cases f0 : j < ((P.length - i.toNat : Nat) : Int)
                ·rw [if_pos f0] at H
                 obtain ⟨ad', hAq, hx⟩ := Kd.at_int (HQ.out _ (Kd.R_reads' HP.out).2.2) j HJ.out (by rw [List.length_drop]; exact f0)
                 obtain ⟨c', hc'⟩ : ∃ c', rd (P.drop i.toNat) j = c' := ⟨_, rfl⟩
                 rw [hc'] at H hx
                 subst hAq
                 by_cases f1 : 0 ≤ c'
                 ·rw [if_pos f1] at H
                  by_cases f2 : c' < (u3.length : Int)
                  ·rw [if_pos f2] at H
                   have H2 := Aside0.mk H
                   have F0 := Aside0.mk f0
                   have F1 := Aside0.mk f1
                   have F2 := Aside0.mk f2
                   have f0b : decide (j < ((P.length - i.toNat : Nat) : Int)) = true := decide_eq_true f0
                   clear H f0 f1 f2
                   obtain ⟨hcu, hcf⟩ := Kd.R_celln (0 : Int) HS.out.use c' F1.out F2.out
                   replace hcu : wr.cell? ⟨gu, c'.toNat, none⟩ = some (.int .i64 (rd u3 c')) := hcu
                   have h1 := HS.out.c1
                   have pj := eq_true HJ.out
                   have pl := eq_true F0.out
                   have p1 := eq_true F1.out
                   have p2 := eq_true F2.out
                   go_wp2
                   have hmx := HMX.out
                   have hj := HJ.out
                   have hl := F0.out
                   have HJ2 : Aside0 (0 ≤ wrap64 (j + 1)) := ⟨by unfold wrap64; omega⟩
                   clear hmx hj hl
                   go_roundg k2
                   case measure => exact Nat.lt_succ_self _
                   case rel => exact ⟨wrap64 (j + 1), _, rfl, H2, ⟨Nat.le_of_succ_le HK2.out⟩, HJ2, ⟨HS.out.putu c' _⟩, ⟨Kd.R_far (p := ⟨gu, c'.toNat, none⟩) HP.out (fun q hq e => by have := HUL.out; have e' : q = gu := e; omega) _⟩, ⟨HK.out.setu c'.toNat _⟩⟩
                  ·rw [if_neg f2] at H
                   cases H
                 ·rw [if_neg f1] at H
                  cases H
                ·rw [if_neg f0] at H
                 have f0b : decide (j < ((P.length - i.toNat : Nat) : Int)) = false := decide_eq_false f0
                 have hu34 := Option.some.inj H
                 subst hu34
                 clear f0 H
                 obtain ⟨ti, hi1⟩ : ∃ i, Try.prog.info? 3 = some i := Option.isSome_iff_exists.1 (by kernel_rfl)
                 have hmx := HMX.out
                 have hd9 := D9.out
                 have hd10 := D10.out
                 have hw2 : wrap64 (i + 1) = i + 1 := by unfold wrap64; omega
                 have b0 : 0 ≤ wrap64 (i + 1) := by rw [hw2]; omega
                 have b1 : wrap64 (i + 1) ≤ (P.length : Int) := by rw [hw2]; omega
                 have hcut := cut_to (P := Try.prog) 25 3 .i64 hu1 hi1 (some ad) P.length cp (wrap64 (i + 1)) b0 b1 HLP.out
                 have HP2 : Aside0 (Kd.R (Kd.int .i64) 3 wr w.heap.size (fun j => w.heap.size ≤ j) (.slice (some ad) (wrap64 (i + 1)).toNat cp) (P.take (i + 1).toNat)) := ⟨by
                  have := Kd.R_take (m := (wrap64 (i + 1)).toNat) HP.out (by rw [hw2]; omega)
                  rw [show P.take (i + 1).toNat = P.take (wrap64 (i + 1)).toNat from by rw [hw2]]
                  exact this⟩
                 clear hmx hd9 hd10 hw2 hi1
                 go_wp2_with (fail)
                 go_roundg k1
                 case measure => exact Nat.lt_succ_self _
                 case rel => exact ⟨P.take (i + 1).toNat, u3, H2, ⟨Nat.le_of_succ_le HK1.out⟩, HS, HP2, HK⟩
             ·rw [if_neg d10] at H
              cases H
          ·rw [if_neg d7] at H
           cases H
         ·rw [if_neg d6] at H
          cases H
        ·rw [if_neg d5] at H
         cases H
      ·rw [if_neg d3] at H
       cases H
     ·rw [if_neg d2] at H
      cases H
    ·rw [if_neg d1] at H
     cases H
   ·rw [if_neg d0] at H
    cases H

end Go.Proofs.Ytnipocpbpcaepaa.X
