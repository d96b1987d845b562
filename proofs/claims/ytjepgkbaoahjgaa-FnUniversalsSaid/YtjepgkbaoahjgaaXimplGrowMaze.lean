-- Written by a program of this session (xprint.py), out of the translation and of hand-written contracts. Lean checks it.
import Derived.Test.YtjepgkbaoahjgaaX0
import Derived.Test.YtjepgkbaoahjgaaXcgaps
import Derived.Test.YtjepgkbaoahjgaaXcgrid
import Derived.Test.YtjepgkbaoahjgaaXimplEndsOf
import Derived.Test.YtjepgkbaoahjgaaXimplchoosernext
import Derived.Test.YtjepgkbaoahjgaaXimplwith
namespace Go.Proofs.Ytjepgkbaoahjgaa.X
open Go.RowKit Go.Proofs.YtjepgkbaoahjgaaW.PrintWords Go.Proofs.YtjepgkbaoahjgaaW.PrintLast Go.Proofs.YtjepgkbaoahjgaaW.PrintMore
attribute [local go_sem] max2_int min2_int max_two min_two max_three min_three max_four min_four   -- for this text's walks alone
set_option linter.unusedVariables false
set_option linter.unusedSimpArgs false

/-! ### impl_GrowMaze: function 14 (by hand) -/
/-! A set of numbers, kept as a map from int to bool in which each key's element is true. -/
theorem em_law : Go.Maps.Keyed Try.prog 3 := Go.Maps.int_keyed Try.underlying3
theorem em_zero (w : World) : (zeroValue 4).run Try.prog w = .ok (.bool false) w := by kernel_rfl
/-- What a datum says of a list's members. -/
structure EMd (D : DataW Unit) (L : List Int) : Prop where
 map : Go.Maps.IsMap D
 has : ∀ x : Int, (Lit.int .i64 x).wf = true → (Go.Maps.has D (.int .i64 x) = true ↔ x ∈ L)
 one : ∀ x : Int, (Lit.int .i64 x).wf = true → x ∈ L → ∀ z, D.atKey (.int .i64 x) z = .lit (.bool true)
def EM (w : World) (b n : Nat) (L : List Int) : Prop := ∃ D : DataW Unit, w.ownsMap Try.prog 3 (plainElem Try.prog 4) b n D ∧ EMd D L
theorem em_key (x : Int) : WideAt.IsKeyLit (.int .i64 x) := trivial
theorem em_ne {x y : Int} (h : x ≠ y) : (Lit.int .i64 x) ≠ (Lit.int .i64 y) := fun z => h (by injection z)
theorem EMd.empty : EMd (.map []) [] := ⟨Go.Maps.isMap_empty, fun x _ => by simp [Go.Maps.has], fun x _ h => by cases h⟩
theorem EMd.put {D : DataW Unit} {L : List Int} (h : EMd D L) (x : Int) : EMd (D.put (.int .i64 x) (.lit (.bool true))) (x :: L) := by
 refine ⟨h.map.put _ _, fun y hy => ?_, fun y hy hm z => ?_⟩
 ·by_cases e : y = x
  ·subst e
   rw [Go.Maps.has_put_same h.map (em_key y)]
   simp
  ·rw [Go.Maps.has_put_other (em_ne e), h.has y hy, List.mem_cons]
   exact ⟨fun z => .inr z, fun z => z.resolve_left e⟩
 ·by_cases e : y = x
  ·subst e
   exact Go.Maps.atKey_put_same h.map (em_key y) _ _
  ·rw [Go.Maps.atKey_put_other (em_ne e)]
   exact h.one y hy ((List.mem_cons.1 hm).resolve_left e) z
theorem EM.kept {w w' : World} {b n : Nat} {L : List Int} {row : Option Nat} (h : EM w b n L) (hg : w.grownBy w' row) (hne : some b ≠ row) : EM w' b n L := by
 obtain ⟨D, h1, h2⟩ := h
 exact ⟨D, h1.kept hg hne, h2⟩
theorem EM.below {w w' : World} {b n : Nat} {L : List Int} (h : EM w b n L) (hb : Below w.heap.size w w') : EM w' b n L := h.kept (grown_of_below hb none) (by simp)
theorem EM.lt {w : World} {b n : Nat} {L : List Int} (h : EM w b n L) : b < w.heap.size := by
 obtain ⟨D, h1, _⟩ := h
 exact h1.lt
theorem EM.made (w : World) : EM (w.alloc (.map #[] 0)) w.heap.size 0 [] := ⟨_, World.ownsMap_made _ _ _ _, EMd.empty⟩
theorem EM.iff {w : World} {b n : Nat} {L L' : List Int} (h : EM w b n L) (e : ∀ x, x ∈ L ↔ x ∈ L') : EM w b n L' := by
 obtain ⟨D, h1, h2⟩ := h
 exact ⟨D, h1, h2.map, fun x hx => (h2.has x hx).trans (e x), fun x hx hm => h2.one x hx ((e x).2 hm)⟩
theorem em_inv {P : Program} {e : TypeId} (he : P.underlying e = some .bool) {v : Value} {z : DataW Unit × List MemPlace} (h : plainElem P e v = some z) : ∃ c, v = .bool c ∧ z = (.lit (.bool c), []) := by
 unfold plainElem at h
 rw [he] at h
 cases v <;> simp at h
 exact ⟨_, rfl, h.symm⟩
section
variable {ops : Array Oper} {rest : List Oper} {o : Oper} {a : Act} {Q : Exit → Act → World → Prop}
/-- 'm[k]'. -/
theorem em_look (w : World) (hg : o.guard = none) (m x : Operand) (hop : o.op = Op.lookup 57 m x false) (b n : Nat) (L : List Int) (hm : a.eval m = .map (some b)) (hown : EM w b n L) (c : Int) (hx : a.eval x = .int .i64 c) (hw : (Lit.int .i64 c).wf = true)
  (hK : wpList Try.prog ops Q rest (a.put o.dst (.bool (decide (c ∈ L)))) w) : wpList Try.prog ops Q (o :: rest) a w := by
 refine wpList_plain hg fun K' hK' => ?_
 obtain ⟨D, h1, h2⟩ := hown
 obtain ⟨v, ps, hrun, hv⟩ := h1.lookup em_law Try.underlying57 (em_zero w) (plainElem_bool Try.underlying4 false) (Go.Maps.keyOf_int_mk Try.underlying3 hw)
 obtain ⟨c', rfl, hc⟩ := em_inv Try.underlying4 hv
 have e : c' = decide (c ∈ L) := by
  have e1 : D.atKey (.int .i64 c) (.lit (.bool false)) = .lit (.bool c') := congrArg Prod.fst hc
  by_cases q : c ∈ L
  ·rw [h2.one c hw q] at e1
   rw [decide_eq_true q]
   exact (Lit.bool.inj (DataW.lit.inj e1)).symm
  ·have : Go.Maps.has D (.int .i64 c) = false := by
    cases z : Go.Maps.has D (.int .i64 c) with
    | false => rfl
    | true => exact absurd ((h2.has c hw).1 z) q
   rw [Go.Maps.atKey_of_not_has this] at e1
   rw [decide_eq_false q]
   exact (Lit.bool.inj (DataW.lit.inj e1)).symm
 subst e
 unfold Oper.wp
 simp [execOp, hop, hm, hx, hrun, Result.andThen]
 exact hK' _ _ hK
end
/-- A set with as many entries as the list has members. -/
def gm.insL (x : Int) (L : List Int) : List Int := if x ∈ L then L else x :: L
theorem gm.mem_insL {x y : Int} {L : List Int} : y ∈ gm.insL x L ↔ y = x ∨ y ∈ L := by
 unfold gm.insL
 by_cases e : x ∈ L
 ·rw [if_pos e]
  exact ⟨.inr, fun z => z.elim (fun q => q ▸ e) id⟩
 ·rw [if_neg e, List.mem_cons]
def GM (w : World) (b n : Nat) (L : List Int) : Prop := ∃ D : DataW Unit, w.ownsMap Try.prog 3 (plainElem Try.prog 4) b n D ∧ EMd D L ∧ Go.Maps.Tidy D ∧ Go.Maps.size D = L.length
theorem GM.kept {w w' : World} {b n : Nat} {L : List Int} {row : Option Nat} (h : GM w b n L) (hg : w.grownBy w' row) (hne : some b ≠ row) : GM w' b n L := by
 obtain ⟨D, h1, h2⟩ := h
 exact ⟨D, h1.kept hg hne, h2⟩
theorem GM.below {w w' : World} {b n : Nat} {L : List Int} (h : GM w b n L) (hb : Below w.heap.size w w') : GM w' b n L := h.kept (grown_of_below hb none) (by simp)
theorem GM.lt {w : World} {b n : Nat} {L : List Int} (h : GM w b n L) : b < w.heap.size := by
 obtain ⟨D, h1, _⟩ := h
 exact h1.lt
theorem EMd.putL {D : DataW Unit} {L : List Int} (h : EMd D L) (x : Int) : EMd (D.put (.int .i64 x) (.lit (.bool true))) (gm.insL x L) := by
 have h1 := h.put x
 refine ⟨h1.map, fun y hy => (h1.has y hy).trans (by rw [gm.mem_insL, List.mem_cons]), fun y hy hm z => h1.one y hy (by rw [List.mem_cons]; exact gm.mem_insL.1 hm) z⟩
section
variable {ops : Array Oper} {rest : List Oper} {o : Oper} {a : Act} {Q : Exit → Act → World → Prop}
theorem gm_make (w : World) (hg : o.guard = none) (hop : o.op = Op.makeMap 57 none)
  (hK : ∀ b w', b = w.heap.size → GM w' b 0 [] → Below w.heap.size w w' → wpList Try.prog ops Q rest (a.put o.dst (.map (some b))) w') : wpList Try.prog ops Q (o :: rest) a w := by
 refine wpList_plain hg fun K' hK' => ?_
 have hmm := @run_makeMap Try.prog
 unfold Oper.wp
 simp [execOp, hop, hmm, Result.andThen]
 exact hK' _ _ (hK _ _ rfl ⟨_, World.ownsMap_made _ _ _ _, EMd.empty, Go.Maps.tidy_empty, rfl⟩ ((Below.refl _ _).alloc (Nat.le_refl _) _))
theorem gm_store (w : World) (hg : o.guard = none) (m x v : Operand) (hop : o.op = Op.mapUpdate 57 m x v ∨ o.op = Op.insert 57 m x v) (b n : Nat) (L : List Int) (hm : a.eval m = .map (some b)) (hown : GM w b n L) (hn : n < maxLen) (c : Int) (hx : a.eval x = .int .i64 c) (hv : a.eval v = .bool true) (hw : (Lit.int .i64 c).wf = true)
  (hK : ∀ w', GM w' b (n + 1) (gm.insL c L) → w.grownBy w' (some b) → wpList Try.prog ops Q rest (a.put o.dst undef) w') : wpList Try.prog ops Q (o :: rest) a w := by
 refine wpList_plain hg fun K' hK' => ?_
 obtain ⟨D, h1, h2, h3, h4⟩ := hown
 obtain ⟨w', hrun, r1, r2⟩ := h1.update em_law Try.underlying57 hn (Go.Maps.keyOf_int_mk Try.underlying3 hw) (plainElem_bool Try.underlying4 true)
 have hsz : Go.Maps.size (D.put (.int .i64 c) (.lit (.bool true))) = (gm.insL c L).length := by
  rw [Go.Maps.size_put h3, h4]
  unfold gm.insL
  by_cases e : c ∈ L
  ·rw [if_pos ((h2.has c hw).2 e), if_pos e]
  ·rw [if_neg (fun z => e ((h2.has c hw).1 z)), if_neg e]
   rfl
 unfold Oper.wp
 rcases hop with hop | hop
 ·simp [execOp, hop, hm, hx, hv, hrun, Result.andThen]
  exact hK' _ _ (hK w' ⟨_, r1, h2.putL c, h3.put (em_key c) _, hsz⟩ r2)
 ·simp [execOp, hop, hm, hx, hv, hrun, Result.andThen]
  exact hK' _ _ (hK w' ⟨_, r1, h2.putL c, h3.put (em_key c) _, hsz⟩ r2)
theorem gm_look (w : World) (hg : o.guard = none) (m x : Operand) (hop : o.op = Op.lookup 57 m x false) (b n : Nat) (L : List Int) (hm : a.eval m = .map (some b)) (hown : GM w b n L) (c : Int) (hx : a.eval x = .int .i64 c) (hw : (Lit.int .i64 c).wf = true) (r : Bool) (hr : decide (c ∈ L) = r)
  (hK : wpList Try.prog ops Q rest (a.put o.dst (.bool r)) w) : wpList Try.prog ops Q (o :: rest) a w := by
 obtain ⟨D, h1, h2, _⟩ := hown
 exact em_look w hg m x hop b n L hm ⟨D, h1, h2⟩ c hx hw (by rw [hr]; exact hK)
theorem gm_len (w : World) (hg : o.guard = none) (m : Operand) (hop : o.op = Op.call { callee := Callee.builtin Builtin.len, args := #[m], argTypes := #[57] }) (b n : Nat) (L : List Int) (hm : a.eval m = .map (some b)) (hown : GM w b n L)
  (hK : wpList Try.prog ops Q rest (a.put o.dst (.int .i64 (L.length : Int))) w) : wpList Try.prog ops Q (o :: rest) a w := by
 obtain ⟨D, h1, h2, h3, h4⟩ := hown
 exact wpList_len_own w hg m 57 hop 3 4 Try.underlying57 _ b n D hm h1 (by rw [h4]; exact hK)
end
def gm.l1 : Nat → Int → Int → List Int → List Int → Int → Option (List Int)
 | 0, _, _, _, _, _ => none
 | k + 1, g0, g1, L, acc, i => (impl_CountGaps.f g0 g1).bind fun t => if i < t then ((impl_EndsOf.f g0 g1 i).bind fun e => if (Lit.int .i64 e.1).wf = true then (if (Lit.int .i64 e.2).wf = true then (if decide (e.1 ∈ L) = decide (e.2 ∈ L) then gm.l1 k g0 g1 L acc (wrap64 (i + 1)) else (if acc.length < 1000000 then gm.l1 k g0 g1 L (acc ++ [i]) (wrap64 (i + 1)) else none)) else none) else none) else some acc
def gm.l0 : Nat → Int → Int → Int → Int → Int → Nat → List Int → List Int → Option (Int × Int × Int)
 | 0, _, _, _, _, _, _, _, _ => none
 | k + 1, g0, g1, m0, m1, o, n, L, l => (impl_CountCells.f g0 g1).bind fun t => if (L.length : Int) < t then ((gm.l1 k g0 g1 L [] 0).bind fun gs => if 0 < gs.length then (if 0 ≤ (gm.pick l (gs.length : Int)).1 then (if (gm.pick l (gs.length : Int)).1 < (gs.length : Int) then ((impl_EndsOf.f g0 g1 (rd gs (gm.pick l (gs.length : Int)).1)).bind fun e => if (Lit.int .i64 e.1).wf = true then (if (Lit.int .i64 e.2).wf = true then (if n < 1000000 then ((impl_with.f m0 m1 o (rd gs (gm.pick l (gs.length : Int)).1) true).bind fun r => gm.l0 k g0 g1 r.1 r.2.1 r.2.2 (n + 2) (gm.insL e.2 (gm.insL e.1 L)) (gm.pick l (gs.length : Int)).2) else none) else none) else none) else none) else none) else none) else some (m0, m1, o)
def impl_GrowMaze.f (k : Nat) (g0 g1 : Int) (l : List Int) : Option (Int × Int × Int) := (impl_GridOk.f g0 g1).bind fun t => if t = true then gm.l0 k g0 g1 g0 g1 0 1 [0] l else some (0, 0, 0)
theorem gm.mono1 : ∀ (k : Nat) (g0 g1 : Int) (L acc : List Int) (i : Int), LeO (gm.l1 k g0 g1 L acc i) (gm.l1 (k + 1) g0 g1 L acc i)
 | 0, _, _, _, _, _ => fun r h => by simp [gm.l1] at h
 | k + 1, g0, g1, L, acc, i => by
  have ih := gm.mono1 k
  unfold gm.l1
  exact LeO.bind (LeO.refl _) (fun t => LeO.ite (LeO.bind (LeO.refl _) (fun e => LeO.ite (LeO.ite (LeO.ite (ih _ _ _ _ _) (LeO.ite (ih _ _ _ _ _) (LeO.refl _))) (LeO.refl _)) (LeO.refl _))) (LeO.refl _))
theorem gm.mono0 : ∀ (k : Nat) (g0 g1 m0 m1 o : Int) (n : Nat) (L l : List Int), LeO (gm.l0 k g0 g1 m0 m1 o n L l) (gm.l0 (k + 1) g0 g1 m0 m1 o n L l)
 | 0, _, _, _, _, _, _, _, _ => fun r h => by simp [gm.l0] at h
 | k + 1, g0, g1, m0, m1, o, n, L, l => by
  have ih := gm.mono0 k
  unfold gm.l0
  exact LeO.bind (LeO.refl _) (fun t => LeO.ite (LeO.bind (gm.mono1 _ _ _ _ _ _) (fun gs => LeO.ite (LeO.ite (LeO.ite (LeO.bind (LeO.refl _) (fun e => LeO.ite (LeO.ite (LeO.ite (LeO.bind (LeO.refl _) (fun r => ih _ _ _ _ _ _ _ _)) (LeO.refl _)) (LeO.refl _)) (LeO.refl _))) (LeO.refl _)) (LeO.refl _)) (LeO.refl _))) (LeO.refl _))
theorem impl_GrowMaze.mono : ∀ (g0 g1 : Int) (l : List Int) (k : Nat), LeO (impl_GrowMaze.f k g0 g1 l) (impl_GrowMaze.f (k + 1) g0 g1 l) := fun g0 g1 l k => by
 unfold impl_GrowMaze.f
 exact LeO.bind (LeO.refl _) (fun t => LeO.ite (gm.mono0 _ _ _ _ _ _ _ _ _) (LeO.refl _))
/-- What stands in memory while a maze grows: the grid, the result's place, the set, the choices, the maze. -/
structure GS (w0 W : World) (gb rb b q mb : Nat) (g0 g1 m0 m1 o : Int) (n : Nat) (L l : List Int) : Prop where
 G : W.heap[gb]? = some (.cells #[.int .i64 g0, .int .i64 g1] 25 (0, 0))
 R : W.heap[rb]? = some (.cells #[.int .i64 0, .int .i64 0, .int .i64 0] 30 (0, 0))
 E : GM W b n L
 Q : ∃ A c, W.heap[q]? = some (.cells #[.slice A l.length c] 60 (0, 0)) ∧ Kd.C (Kd.int .i64) w0 A l.length l ∧ l.length ≤ c
 M : W.heap[mb]? = some (.cells #[.int .i64 m0, .int .i64 m1, .int .i64 o] 30 (0, 0))
 bel : Below w0.heap.size w0 W
 ge : w0.heap.size ≤ gb
 o1 : gb < rb
 o2 : rb < b
 o3 : b < q
 o4 : q < mb
section
variable {w0 W W' : World} {gb rb b q mb n : Nat} {g0 g1 m0 m1 o : Int} {L l : List Int}
theorem GS.mlt (h : GS w0 W gb rb b q mb g0 g1 m0 m1 o n L l) : mb < W.heap.size := blk_lt h.M
theorem GS.below (h : GS w0 W gb rb b q mb g0 g1 m0 m1 o n L l) (hb : Below W.heap.size W W') : GS w0 W' gb rb b q mb g0 g1 m0 m1 o n L l := by
 obtain ⟨A, c, h1, h2⟩ := h.Q
 exact ⟨blk_below h.G hb, blk_below h.R hb, h.E.below hb, ⟨A, c, blk_below h1 hb, h2⟩, blk_below h.M hb, below_step h.bel hb, h.ge, h.o1, h.o2, h.o3, h.o4⟩
theorem GS.grown (h : GS w0 W gb rb b q mb g0 g1 m0 m1 o n L l) {row : Option Nat} (hg : W.grownBy W' row) (hb : Below w0.heap.size w0 W') (hr : ∀ k, row = some k → mb < k) : GS w0 W' gb rb b q mb g0 g1 m0 m1 o n L l := by
 obtain ⟨A, c, h1, h2⟩ := h.Q
 have ne : ∀ j, j ≤ mb → some j ≠ row := fun j hj e => by have := hr j e.symm; omega
 have := h.o1; have := h.o2; have := h.o3; have := h.o4
 exact ⟨blk_grown h.G hg (ne _ (by omega)), blk_grown h.R hg (ne _ (by omega)), h.E.kept hg (ne _ (by omega)), ⟨A, c, blk_grown h1 hg (ne _ (by omega)), h2⟩, blk_grown h.M hg (ne _ (by omega)), hb, h.ge, h.o1, h.o2, h.o3, h.o4⟩
theorem gm.bel (hB : Below w0.heap.size w0 W) {j : Nat} (hg : W.grownBy W' (some j)) (hj : w0.heap.size ≤ j) : Below w0.heap.size w0 W' :=
 ⟨hg.os.trans hB.os, hg.tape.trans hB.tape, hg.output.trans hB.output, Nat.le_trans hB.size hg.size, fun i hi => (hg.block i (Nat.lt_of_lt_of_le hi hB.size) (fun e => by have := Option.some.inj e; omega)).trans (hB.block i hi)⟩
theorem GS.put (h : GS w0 W gb rb b q mb g0 g1 m0 m1 o n L l) (hg : W.grownBy W' (some b)) {n' : Nat} {L' : List Int} (hE : GM W' b n' L') : GS w0 W' gb rb b q mb g0 g1 m0 m1 o n' L' l := by
 obtain ⟨A, c, h1, h2⟩ := h.Q
 have := h.o1; have := h.o2; have := h.o3; have := h.o4; have := h.ge
 have ne : ∀ j, j ≠ b → some j ≠ some b := fun j hj e => hj (Option.some.inj e)
 exact ⟨blk_grown h.G hg (ne _ (by omega)), blk_grown h.R hg (ne _ (by omega)), hE, ⟨A, c, blk_grown h1 hg (ne _ (by omega)), h2⟩, blk_grown h.M hg (ne _ (by omega)), gm.bel h.bel hg (by omega), h.ge, h.o1, h.o2, h.o3, h.o4⟩
theorem GS.chosen (h : GS w0 W gb rb b q mb g0 g1 m0 m1 o n L l) {N : Int} {e : Ending} (hp : gm.Post w0 W q l N e W') : GS w0 W' gb rb b q mb g0 g1 m0 m1 o n L (gm.pick l N).2 := by
 obtain ⟨_, hg, hQ⟩ := hp
 have := h.o1; have := h.o2; have := h.o3; have := h.o4; have := h.ge
 have ne : ∀ j, j ≠ q → some j ≠ some q := fun j hj e => hj (Option.some.inj e)
 exact ⟨blk_grown h.G hg (ne _ (by omega)), blk_grown h.R hg (ne _ (by omega)), h.E.kept hg (ne _ (by omega)), hQ, blk_grown h.M hg (ne _ (by omega)), gm.bel h.bel hg (by omega), h.ge, h.o1, h.o2, h.o3, h.o4⟩
theorem gm.grown3 (W : World) (mb : Nat) (x y z : Value) : W.grownBy (((W.setCell ⟨mb, 0, none⟩ x).setCell ⟨mb, 1, none⟩ y).setCell ⟨mb, 2, none⟩ z) (some mb) := ((gm.grown_set W mb 0 x).trans (gm.grown_set _ mb 1 y)).trans (gm.grown_set _ mb 2 z)
theorem GS.maze (h : GS w0 W gb rb b q mb g0 g1 m0 m1 o n L l) (x y z : Int) : GS w0 (((W.setCell ⟨mb, 0, none⟩ (.int .i64 x)).setCell ⟨mb, 1, none⟩ (.int .i64 y)).setCell ⟨mb, 2, none⟩ (.int .i64 z)) gb rb b q mb g0 g1 x y z n L l := by
 obtain ⟨A, c, h1, h2⟩ := h.Q
 have hg := gm.grown3 W mb (.int .i64 x) (.int .i64 y) (.int .i64 z)
 have := h.o1; have := h.o2; have := h.o3; have := h.o4; have := h.ge
 have ne : ∀ j, j ≠ mb → some j ≠ some mb := fun j hj e => hj (Option.some.inj e)
 exact ⟨blk_grown h.G hg (ne _ (by omega)), blk_grown h.R hg (ne _ (by omega)), h.E.kept hg (ne _ (by omega)), ⟨A, c, blk_grown h1 hg (ne _ (by omega)), h2⟩, bp3_ h.M, gm.bel h.bel hg (by omega), h.ge, h.o1, h.o2, h.o3, h.o4⟩
end
set_option maxHeartbeats 4000000 in
set_option maxRecDepth 100000 in
theorem gm_no (g0 g1 : Int) (A : Option Addr) (c : Nat) (l : List Int) (w : World) (ht : impl_GridOk.f g0 g1 = some false) :
  Calls Try.prog 14 #[.agg #[.int .i64 g0, .int .i64 g1], .slice A l.length c] w fun e w' => e = .returned (.agg #[.int .i64 0, .int .i64 0, .int .i64 0]) ∧ Below w.heap.size w w' := by
 have hu1 := Try.underlying25
 have hu2 := Try.underlying30
 have A2 := Aside0.mk ht
 have HB := Aside0.mk (Below.refl w.heap.size w)
 clear ht
 go_enter Try.func14, Try.ntmps14
 go_wp2_with ((with_reducible refine gw_ ?_); first | (refine box_ (N := 2) (cs := #[.int .i64 g0, .int .i64 g1]) (t := 25) ?_; intro gb501 hg w17 hbox hb; have BK501 := Aside0.mk (hbox); have GE501 := HB.g0 hg; replace HB := HB.s0 hb; clear hb hbox hg) | (refine box_ (N := 4) (cs := #[.int .i64 0, .int .i64 0, .int .i64 0]) (t := 30) ?_; intro gb502 hg w18 hbox hb; have BK502 := Aside0.mk (hbox); have GE502 := HB.g1 GE501 hg; replace HB := HB.s1 GE501 hb; have NB501_502 := BK501.nl hg; have NB502_501 := BK501.nr hg; replace BK501 := BK501.bb hb; clear hb hbox hg; have hnb19 := NB501_502.out; have hnc19 := NB502_501.out; obtain ⟨hcz20_0, hcz20_1⟩ := cz2_ BK501.out; obtain ⟨hfz20_0, hfz20_1⟩ := fz2_ BK501.out) | (refine gl_ 16 Try.func30 #[.agg #[.int .i64 g0, .int .i64 g1]] ?_; (with_reducible refine (impl_GridOk.calls g0 g1 false _ A2.out).mono ?_); rintro e w21 ⟨rfl, hb⟩; refine ⟨_, rfl, ?_⟩; replace BK501 := BK501.bb hb; replace BK502 := BK502.bb hb; replace HB := HB.s2 GE501 GE502 hb; (try clear hb); obtain ⟨hcz22_0, hcz22_1, hcz22_2⟩ := cz3_ BK502.out; obtain ⟨hfz22_0, hfz22_1, hfz22_2⟩ := fz3_ BK502.out))
 refine bodyPost_ret (results_cell_row rfl _ _ gb502 30 #[.int .i64 0, .int .i64 0, .int .i64 0] (0, 0) _ rfl (bq3_ BK502.out) Try.underlying30 rfl (by kernel_rfl)) rfl ?_
 exact ⟨ex_, hb2_ HB.out GE501.out GE502.out⟩
theorem gm.wf0 : (Lit.int .i64 0).wf = true := by decide
set_option maxHeartbeats 8000000 in
set_option maxRecDepth 100000 in
theorem gm_main (k : Nat) (g0 g1 : Int) (A : Option Addr) (c : Nat) (l : List Int) (r1 r2 r3 : Int) (w : World) (hr0 : Kd.C (Kd.int .i64) w A l.length l) (hc0 : l.length ≤ c) (ht : impl_GridOk.f g0 g1 = some true) (h : gm.l0 k g0 g1 g0 g1 0 1 [0] l = some (r1, r2, r3)) :
  Calls Try.prog 14 #[.agg #[.int .i64 g0, .int .i64 g1], .slice A l.length c] w fun e w' => e = .returned (.agg #[.int .i64 r1, .int .i64 r2, .int .i64 r3]) ∧ Below w.heap.size w w' := by
 have hu1 := Try.underlying25
 have hu2 := Try.underlying30
 have hu3 := Try.underlying60
 have hu4 := Try.underlying26
 have A2 := Aside0.mk ht
 have HR0 := Aside0.mk hr0
 have HC0 := Aside0.mk hc0
 have HB := Aside0.mk (Below.refl w.heap.size w)
 have H' := Aside0.mk h
 clear ht hr0 hc0 h
 go_enter Try.func14, Try.ntmps14
 go_wp2_with ((with_reducible refine gw_ ?_); first | (refine box_ (N := 2) (cs := #[.int .i64 g0, .int .i64 g1]) (t := 25) ?_; intro gb hg w17 hbox hb; have BK1 := Aside0.mk (hbox); have GE1 := HB.g0 hg; replace HB := HB.s0 hb; clear hb hbox hg) | (refine box_ (N := 4) (cs := #[.int .i64 0, .int .i64 0, .int .i64 0]) (t := 30) ?_; intro rb hg w18 hbox hb; have BK2 := Aside0.mk (hbox); have O1 := Aside0.mk (show gb < rb from by rw [hg]; exact blk_lt BK1.out); replace HB := HB.s1 GE1 hb; replace BK1 := BK1.bb hb; clear hb hbox hg; obtain ⟨hcz20_0, hcz20_1⟩ := cz2_ BK1.out; obtain ⟨hfz20_0, hfz20_1⟩ := fz2_ BK1.out) | (refine gl_ 16 Try.func30 #[.agg #[.int .i64 g0, .int .i64 g1]] ?_; (with_reducible refine (impl_GridOk.calls g0 g1 true _ A2.out).mono ?_); rintro e w21 ⟨rfl, hb⟩; refine ⟨_, rfl, ?_⟩; replace BK1 := BK1.bb hb; replace BK2 := BK2.bb hb; replace HB := HB.s1 GE1 hb; (try clear hb); obtain ⟨hcz22_0, hcz22_1⟩ := cz2_ BK1.out; obtain ⟨hfz22_0, hfz22_1⟩ := fz2_ BK1.out) |
  (refine gm_make _ rfl rfl ?_; intro b w9 hbn hM0 hb; have O2 := Aside0.mk (show rb < b from by rw [hbn]; exact blk_lt BK2.out); have EM0 := Aside0.mk hM0; replace BK1 := BK1.bb hb; replace BK2 := BK2.bb hb; replace HB := HB.s1 GE1 hb; clear hb hbn hM0; go_frame) |
  (refine gm_store _ rfl _ _ _ (Or.inr rfl) b 0 [] rfl EM0.out (by decide) 0 rfl rfl gm.wf0 ?_; intro w10 hM1 hgr; have EM1 := Aside0.mk hM1; replace BK1 := Aside0.mk (blk_grown BK1.out hgr (fun e => by have := Option.some.inj e; have := O1.out; have := O2.out; omega)); replace BK2 := Aside0.mk (blk_grown BK2.out hgr (fun e => by have := Option.some.inj e; have := O2.out; omega)); replace HB := Aside0.mk (gm.bel HB.out hgr (by have := GE1.out; have := O1.out; have := O2.out; omega)); clear hM1 hgr EM0; go_frame) |
  (refine box_ (N := 25) (cs := #[.slice A l.length c]) (t := 60) ?_; intro q hg w11 hbox hb; have BK3 := Aside0.mk (hbox); have O3 := Aside0.mk (show b < q from by rw [hg]; exact EM1.out.lt); replace BK1 := BK1.bb hb; replace BK2 := BK2.bb hb; replace HB := HB.s1 GE1 hb; replace EM1 := Aside0.mk (EM1.out.below hb); clear hb hbox hg) |
  (refine box_ (N := 5) (cs := #[.int .i64 0, .int .i64 0, .int .i64 0]) (t := 30) ?_; intro mb hg w12 hbox hb; have BK4 := Aside0.mk (hbox); have O4 := Aside0.mk (show q < mb from by rw [hg]; exact blk_lt BK3.out); replace BK1 := BK1.bb hb; replace BK2 := BK2.bb hb; replace BK3 := BK3.bb hb; replace HB := HB.s1 GE1 hb; replace EM1 := Aside0.mk (EM1.out.below hb); clear hb hbox hg; obtain ⟨u0, u1, u2⟩ := cz3_ BK4.out; obtain ⟨v0, v1, v2⟩ := fz3_ BK4.out))
 have S0 := Aside0.mk (GS.mk (w0 := w) BK1.out BK2.out EM1.out ⟨A, c, BK3.out, HR0.out, HC0.out⟩ BK4.out HB.out GE1.out O1.out O2.out O3.out O4.out).maze
 clear hcz20_0 hcz20_1 hfz20_0 hfz20_1 hcz22_0 hcz22_1 hfz22_0 hfz22_1 u0 u1 u2 v0 v1 v2 BK1 BK2 BK3 BK4 EM1 HB A2 HR0 HC0
 go_loopg [] k (fun kq w' => ∃ (m0 m1 o : Int) (n : Nat) (L l' : List Int), Aside0 (gm.l0 kq g0 g1 m0 m1 o n L l' = some (r1, r2, r3)) ∧ Aside0 (kq ≤ k) ∧ Aside0 (GS w w' gb rb b q mb g0 g1 m0 m1 o n L l'))
 case atStart => exact ⟨g0, g1, 0, 1, [0], l, H', ⟨Nat.le_refl _⟩, ⟨S0.out g0 g1 0⟩⟩
 case round =>
  clear H' S0
  obtain ⟨m0, m1, o, n, L, l', HA, HK, HS⟩ := hrel
  cases gk with
  | zero => exact absurd HA.out (by simp [gm.l0])
  | succ k1 =>
   have H := HA.out
   clear HA
   simp only [gm.l0] at H
   obtain ⟨t, hct, H⟩ := Option.bind_eq_some_iff.mp H
   have HCT := Aside0.mk hct
   clear hct
   obtain ⟨z0, z1⟩ := cz2_ HS.out.G
   obtain ⟨y0, y1⟩ := fz2_ HS.out.G
   by_cases d1 : (L.length : Int) < t
   ·rw [if_pos d1] at H
    obtain ⟨gs, hgs, H⟩ := Option.bind_eq_some_iff.mp H
    by_cases d2 : 0 < gs.length
    ·rw [if_pos d2] at H
     by_cases d3 : 0 ≤ (gm.pick l' (gs.length : Int)).1
     ·rw [if_pos d3] at H
      by_cases d4 : (gm.pick l' (gs.length : Int)).1 < (gs.length : Int)
      ·rw [if_pos d4] at H
       generalize hpk : gm.pick l' (gs.length : Int) = pk at d3 d4 H
       obtain ⟨pv, pl⟩ := pk
       obtain ⟨⟨e1, e2⟩, hen, H⟩ := Option.bind_eq_some_iff.mp H
       by_cases d5 : (Lit.int .i64 e1).wf = true
       ·rw [if_pos d5] at H
        by_cases d6 : (Lit.int .i64 e2).wf = true
        ·rw [if_pos d6] at H
         by_cases d7 : n < 1000000
         ·rw [if_pos d7] at H
          obtain ⟨⟨s1, s2, s3⟩, hwi, H⟩ := Option.bind_eq_some_iff.mp H
          have HGS := Aside0.mk hgs
          have HPK := Aside0.mk hpk
          have HEN : Aside0 (impl_EndsOf.f g0 g1 (rd gs pv) = some (e1, e2)) := ⟨hen⟩
          have HWI : Aside0 (impl_with.f m0 m1 o (rd gs pv) true = some (s1, s2, s3)) := ⟨hwi⟩
          have HH : Aside0 (gm.l0 k1 g0 g1 s1 s2 s3 (n + 2) (gm.insL e2 (gm.insL e1 L)) pl = some (r1, r2, r3)) := ⟨H⟩
          have D2 := Aside0.mk d2
          have D3 : Aside0 (0 ≤ pv) := ⟨d3⟩
          have D4 : Aside0 (pv < (gs.length : Int)) := ⟨d4⟩
          have D5 := Aside0.mk d5
          have D6 := Aside0.mk d6
          have D7 := Aside0.mk d7
          have d1b : decide ((L.length : Int) < t) = true := decide_eq_true d1
          clear hgs hpk hen hwi H d1 d2 d3 d4 d5 d6 d7
          go_wp2_with ((with_reducible refine gw_ ?_); first | (refine gm_len _ rfl _ rfl b n L rfl HS.out.E ?_; go_frame) | (refine gl_ 29 Try.func21 #[.agg #[.int .i64 g0, .int .i64 g1]] ?_; (with_reducible refine (impl_CountCells.calls g0 g1 t _ HCT.out).mono ?_); rintro e w6 ⟨rfl, hb⟩; refine ⟨_, rfl, ?_⟩; replace HS := Aside0.mk (HS.out.below hb); clear hb))
          clear z0 z1 y0 y1 d1b HCT
          go_loopg [8, 9] k1 (fun kq s8 s9 w' => ∃ (acc : List Int) (i : Int), s9 = .int .i64 i ∧ Aside0 (gm.l1 kq g0 g1 L acc i = some gs) ∧ Aside0 (kq ≤ k1) ∧ Aside0 (GS w w' gb rb b q mb g0 g1 m0 m1 o n L l') ∧ Aside0 (Kd.R (Kd.int .i64) 3 w' w.heap.size (fun j => mb < j) s8 acc))
          case atStart => exact ⟨[], 0, rfl, HGS, ⟨Nat.le_refl _⟩, HS, ⟨Kd.R_nil _ _ _ _ _⟩⟩
          case round =>
           clear HS HGS
           obtain ⟨acc, i, rfl, HA, HK1, HS, HO⟩ := hrel
           cases gk with
           | zero => exact absurd HA.out (by simp [gm.l1])
           | succ k2 =>
            have H := HA.out
            clear HA
            simp only [gm.l1] at H
            obtain ⟨tg, hcg, H⟩ := Option.bind_eq_some_iff.mp H
            have HCG := Aside0.mk hcg
            clear hcg
            obtain ⟨z0, z1⟩ := cz2_ HS.out.G
            obtain ⟨y0, y1⟩ := fz2_ HS.out.G
            by_cases f1 : i < tg
            ·rw [if_pos f1] at H
             have f1b : decide (i < tg) = true := decide_eq_true f1
             clear f1
             obtain ⟨⟨x1, x2⟩, hxe, H⟩ := Option.bind_eq_some_iff.mp H
             by_cases f2 : (Lit.int .i64 x1).wf = true
             ·rw [if_pos f2] at H
              by_cases f3 : (Lit.int .i64 x2).wf = true
              ·rw [if_pos f3] at H
               have HXE := Aside0.mk hxe
               have F2 := Aside0.mk f2
               have F3 := Aside0.mk f3
               clear hxe f2 f3
               obtain ⟨p1, hp1⟩ : ∃ p1, decide (x1 ∈ L) = p1 := ⟨_, rfl⟩
               obtain ⟨p2, hp2⟩ : ∃ p2, decide (x2 ∈ L) = p2 := ⟨_, rfl⟩
               rw [hp1, hp2] at H
               have P1 := Aside0.mk hp1
               have P2 := Aside0.mk hp2
               clear hp1 hp2
               by_cases f4 : p1 = p2
               ·rw [if_pos f4] at H
                subst f4
                have H2 := Aside0.mk H
                have f4b : (p1 == p1) = true := by simp
                clear H
                go_wp2_with ((with_reducible refine gw_ ?_); first | (refine gl_ 33 Try.func31 #[.agg #[.int .i64 g0, .int .i64 g1]] ?_; (with_reducible refine (impl_CountGaps.calls g0 g1 tg _ HCG.out).mono ?_); rintro e w7 ⟨rfl, hb⟩; refine ⟨_, rfl, ?_⟩; replace HS := Aside0.mk (HS.out.below hb); replace HO := Aside0.mk (Kd.R_below HO.out hb); clear hb; obtain ⟨z2, z3⟩ := cz2_ HS.out.G) | (refine gl_ 40 Try.func32 #[.agg #[.int .i64 g0, .int .i64 g1], .int .i64 i] ?_; (with_reducible refine (impl_EndsOf.calls g0 g1 i x1 x2 _ HXE.out).mono ?_); rintro e w8 ⟨rfl, hb⟩; refine ⟨_, rfl, ?_⟩; replace HS := Aside0.mk (HS.out.below hb); replace HO := Aside0.mk (Kd.R_below HO.out hb); clear hb) | (refine gm_look _ rfl _ _ rfl b n L rfl HS.out.E x1 rfl F2.out p1 P1.out ?_; go_frame) | (refine gm_look _ rfl _ _ rfl b n L rfl HS.out.E x2 rfl F3.out p1 P2.out ?_; go_frame))
                go_roundg k2
                case measure => exact Nat.lt_succ_self _
                case rel => exact ⟨acc, _, rfl, H2, ⟨Nat.le_of_succ_le HK1.out⟩, HS, HO⟩
               ·rw [if_neg f4] at H
                have f4b : (p1 == p2) = false := by simpa using f4
                clear f4
                by_cases f5 : acc.length < 1000000
                ·rw [if_pos f5] at H
                 have F5 := Aside0.mk f5
                 have H2 := Aside0.mk H
                 clear H f5
                 go_wp2_with ((with_reducible refine gw_ ?_); first | (refine gl_ 33 Try.func31 #[.agg #[.int .i64 g0, .int .i64 g1]] ?_; (with_reducible refine (impl_CountGaps.calls g0 g1 tg _ HCG.out).mono ?_); rintro e w7 ⟨rfl, hb⟩; refine ⟨_, rfl, ?_⟩; replace HS := Aside0.mk (HS.out.below hb); replace HO := Aside0.mk (Kd.R_below HO.out hb); clear hb; obtain ⟨z2, z3⟩ := cz2_ HS.out.G) | (refine gl_ 40 Try.func32 #[.agg #[.int .i64 g0, .int .i64 g1], .int .i64 i] ?_; (with_reducible refine (impl_EndsOf.calls g0 g1 i x1 x2 _ HXE.out).mono ?_); rintro e w8 ⟨rfl, hb⟩; refine ⟨_, rfl, ?_⟩; replace HS := Aside0.mk (HS.out.below hb); replace HO := Aside0.mk (Kd.R_below HO.out hb); clear hb) | (refine gm_look _ rfl _ _ rfl b n L rfl HS.out.E x1 rfl F2.out p1 P1.out ?_; go_frame) | (refine gm_look _ rfl _ _ rfl b n L rfl HS.out.E x2 rfl F3.out p2 P2.out ?_; go_frame) |
                  ((with_reducible refine gate_builtin (b := .append) (xs := #[.tmp 50, .tmp 52]) rfl ?_); at_builtin; refine Kd.R_append (Kd.int .i64) (w0 := w) w.heap.size rfl (.tmp 50) (.tmp 52) 26 3 (.int .i64 0) 8 rfl Try.underlying26 info3 rfl (by decide) (by omega) u8 acc i [.int .i64 i] (fun j => mb < j) (fun _ => False) rfl rfl ?aP (fun _ hk => hk.elim) ?aF ?aO ?aB ?aS ?aL ?_; (case aP => exact rfl); (case aB => exact HS.out.bel); (case aF => exact (fun _ hk => Nat.lt_of_lt_of_le HS.out.mlt hk)); (case aO => exact HO.out); (case aS => exact HS.out.bel.size); (case aL => have := F5.out; omega); intro v520 w44 ho hb hg hat; replace HS := Aside0.mk (HS.out.grown hg hb (fun k hk => HO.out.1 k hk)); have HO2 := Aside0.mk ho; clear HO ho hb hg hat))
                 go_roundg k2
                 case measure => exact Nat.lt_succ_self _
                 case rel => exact ⟨acc ++ [i], _, rfl, H2, ⟨Nat.le_of_succ_le HK1.out⟩, HS, HO2⟩
                ·rw [if_neg f5] at H
                 cases H
              ·rw [if_neg f3] at H
               cases H
             ·rw [if_neg f2] at H
              cases H
            ·rw [if_neg f1] at H
             have f1b : decide (i < tg) = false := decide_eq_false f1
             have hag : acc = gs := Option.some.inj H
             replace HO := Aside0.mk (show Kd.R (Kd.int .i64) 3 _ w.heap.size (fun j => mb < j) u8 gs from by have := HO.out; rw [hag] at this; exact this)
             clear f1 H hag
             obtain ⟨Au, cu, hu8, _, _⟩ := Kd.R_reads HO.out
             subst hu8
             obtain ⟨ad, hae, hx⟩ := Kd.at_int (Kd.R_reads' HO.out).2.2 pv D3.out D4.out
             subst hae
             have p0 := eq_true D3.out
             have p1 := eq_true D4.out
             have hmx : (1000000 : Nat) + 2 < maxLen := by decide
             have MX := Aside0.mk hmx
             clear hx hmx
             go_wp2_with ((with_reducible refine gw_ ?_); first | (refine gl_ 33 Try.func31 #[.agg #[.int .i64 g0, .int .i64 g1]] ?_; (with_reducible refine (impl_CountGaps.calls g0 g1 tg _ HCG.out).mono ?_); rintro e w7 ⟨rfl, hb⟩; refine ⟨_, rfl, ?_⟩; replace HS := Aside0.mk (HS.out.below hb); replace HO := Aside0.mk (Kd.R_below HO.out hb); clear hb) |
              (refine gl_ 58 Try.func33 #[.pointer (some ⟨q, 0, none⟩), .int .i64 (gs.length : Int)] ?_; obtain ⟨Aq, cq, hq1, hq2, hq3⟩ := HS.out.Q; (with_reducible refine (gm.next w _ q Aq cq l' (gs.length : Int) HS.out.bel hq1 hq2 hq3 (by have := D2.out; omega)).mono ?_); clear hq1 hq2 hq3; rintro e w9 hp; have he := hp.1; rw [HPK.out] at he; obtain rfl := he; refine ⟨_, rfl, ?_⟩; have hg := hp.2.1; replace HO := Aside0.mk (Kd.R_step HO.out (fun j hj hl => hg.block j hl (fun e => by have := Option.some.inj e; have := HS.out.o4; omega))); have h9 := HS.out.chosen hp; rw [HPK.out] at h9; replace HS := Aside0.mk h9; clear hp hg h9; obtain ⟨ad2, hae2, hx2⟩ := Kd.at_int (Kd.R_reads' HO.out).2.2 pv D3.out D4.out; cases hae2; obtain ⟨z4, z5⟩ := cz2_ HS.out.G) |
              (refine gl_ 64 Try.func32 #[.agg #[.int .i64 g0, .int .i64 g1], .int .i64 (rd gs pv)] ?_; (with_reducible refine (impl_EndsOf.calls g0 g1 (rd gs pv) e1 e2 _ HEN.out).mono ?_); rintro e w8 ⟨rfl, hb⟩; refine ⟨_, rfl, ?_⟩; replace HS := Aside0.mk (HS.out.below hb); clear hb; obtain ⟨z6, z7, z8⟩ := cz3_ HS.out.M) |
              (refine gl_ 73 Try.func34 #[.agg #[.int .i64 m0, .int .i64 m1, .int .i64 o], .int .i64 (rd gs pv), .bool true] ?_; (with_reducible refine (impl_with.calls m0 m1 o (rd gs pv) true s1 s2 s3 _ HWI.out).mono ?_); rintro e w10 ⟨rfl, hb⟩; refine ⟨_, rfl, ?_⟩; replace HS := Aside0.mk (HS.out.below hb); clear hb; obtain ⟨x6, x7, x8⟩ := cz3_ HS.out.M; obtain ⟨v6, v7, v8⟩ := fz3_ HS.out.M) |
              (refine gm_store _ rfl _ _ _ (Or.inl rfl) b n L rfl (HS.out.maze s1 s2 s3).E (by have := D7.out; have := MX.out; omega) e1 rfl rfl D5.out ?_; intro wA hE hgr; have HSA := Aside0.mk ((HS.out.maze s1 s2 s3).put hgr hE); clear hE hgr; go_frame) |
              (refine gm_store _ rfl _ _ _ (Or.inl rfl) b (n + 1) (gm.insL e1 L) rfl HSA.out.E (by have := D7.out; have := MX.out; omega) e2 rfl rfl D6.out ?_; intro wB hE hgr; have HSB := Aside0.mk (HSA.out.put hgr hE); clear hE hgr; go_frame))
             go_roundg k1
             case measure => exact Nat.lt_succ_self _
             case rel => exact ⟨s1, s2, s3, n + 2, _, pl, HH, ⟨Nat.le_of_succ_le HK.out⟩, HSB⟩
         ·rw [if_neg d7] at H
          cases H
        ·rw [if_neg d6] at H
         cases H
       ·rw [if_neg d5] at H
        cases H
      ·rw [if_neg d4] at H
       cases H
     ·rw [if_neg d3] at H
      cases H
    ·rw [if_neg d2] at H
     cases H
   ·rw [if_neg d1] at H
    have HR := Aside0.mk (Option.some.inj H)
    have d1b : decide ((L.length : Int) < t) = false := decide_eq_false d1
    clear d1 H
    go_wp2_with ((with_reducible refine gw_ ?_); first | (refine gm_len _ rfl _ rfl b n L rfl HS.out.E ?_; go_frame) | (refine gl_ 29 Try.func21 #[.agg #[.int .i64 g0, .int .i64 g1]] ?_; (with_reducible refine (impl_CountCells.calls g0 g1 t _ HCT.out).mono ?_); rintro e w6 ⟨rfl, hb⟩; refine ⟨_, rfl, ?_⟩; replace HS := Aside0.mk (HS.out.below hb); clear hb; obtain ⟨u0, u1, u2⟩ := cz3_ HS.out.M; obtain ⟨x0, x1, x2⟩ := cz3_ HS.out.R; obtain ⟨v0, v1, v2⟩ := fz3_ HS.out.R))
    obtain ⟨e0, e1, e2⟩ : m0 = r1 ∧ m1 = r2 ∧ o = r3 := by simpa using HR.out
    refine bodyPost_ret (results_cell_row rfl _ _ rb 30 #[.int .i64 m0, .int .i64 m1, .int .i64 o] (0, 0) _ rfl (bq3_ HS.out.R) Try.underlying30 rfl (by kernel_rfl)) rfl ?_
    exact ⟨by rw [e0, e1, e2], gm.bel HS.out.bel (gm.grown3 _ rb _ _ _) (by have := HS.out.ge; have := HS.out.o1; omega)⟩
theorem impl_GrowMaze.calls (k : Nat) (g0 g1 : Int) (A : Option Addr) (c : Nat) (l : List Int) (r1 r2 r3 : Int) (w : World) (hr0 : Kd.C (Kd.int .i64) w A l.length l) (hc0 : l.length ≤ c) (h : impl_GrowMaze.f k g0 g1 l = some (r1, r2, r3)) :
  Calls Try.prog 14 #[.agg #[.int .i64 g0, .int .i64 g1], .slice A l.length c] w fun e w' => e = .returned (.agg #[.int .i64 r1, .int .i64 r2, .int .i64 r3]) ∧ Below w.heap.size w w' := by
 unfold impl_GrowMaze.f at h
 obtain ⟨t, ht, h⟩ := Option.bind_eq_some_iff.mp h
 cases t with
 | false =>
  rw [if_neg (by simp)] at h
  have e := Option.some.inj h
  simp only [Prod.mk.injEq] at e
  obtain ⟨rfl, rfl, rfl⟩ := e
  exact gm_no g0 g1 A c l w ht
 | true =>
  rw [if_pos rfl] at h
  exact gm_main k g0 g1 A c l r1 r2 r3 w hr0 hc0 ht h

end Go.Proofs.Ytjepgkbaoahjgaa.X
