-- Written by a program of this session (xprint.py), out of the translation and of hand-written contracts. Lean checks it.
import Derived.Test.YtlfomjhjeknnmaaX0
import Derived.Test.YtlfomjhjeknnmaaXcin
import Derived.Test.YtlfomjhjeknnmaaXcstep
import Derived.Test.YtlfomjhjeknnmaaXimplMazeAtTime
import Derived.Test.YtlfomjhjeknnmaaXimplTimedOk
namespace Go.Proofs.Ytlfomjhjeknnmaa.X
open Go.RowKit Go.Proofs.YtlfomjhjeknnmaaW.PrintWords Go.Proofs.YtlfomjhjeknnmaaW.PrintLast Go.Proofs.YtlfomjhjeknnmaaW.PrintMore
attribute [local go_sem] max2_int min2_int max_two min_two max_three min_three max_four min_four   -- for this text's walks alone
set_option linter.unusedVariables false
set_option linter.unusedSimpArgs false

/-! ### impl_EarliestAt: function 11 (by hand) -/
/-! A set of numbers, kept as a map from int to bool in which each key's element is true. -/
theorem em_law : Go.Maps.Keyed Try.prog 3 := Go.Maps.int_keyed Try.underlying3
theorem em_zero (w : World) : (zeroValue 4).run Try.prog w = .ok (.bool false) w := by kernel_rfl
/-- What a datum says of a list's members. -/
structure EMd (D : DataW Unit) (L : List Int) : Prop where
 map : Go.Maps.IsMap D
 has : ∀ x : Int, (Lit.int .i64 x).wf = true → (Go.Maps.has D (.int .i64 x) = true ↔ x ∈ L)
 one : ∀ x : Int, (Lit.int .i64 x).wf = true → x ∈ L → ∀ z, D.atKey (.int .i64 x) z = .lit (.bool true)
def EM (w : World) (b n : Nat) (L : List Int) : Prop := ∃ D : DataW Unit, w.ownsMap Try.prog 3 (plainElem Try.prog 4) b n D ∧ EMd D L
theorem em_key (x : Int) : WideAt.IsKeyLit (.int .i64 x) := trivial
theorem em_ne {x y : Int} (h : x ≠ y) : (Lit.int .i64 x) ≠ (Lit.int .i64 y) := fun z => h (by injection z)
theorem EMd.empty : EMd (.map []) [] := ⟨Go.Maps.isMap_empty, fun x _ => by simp [Go.Maps.has], fun x _ h => by cases h⟩
theorem EMd.put {D : DataW Unit} {L : List Int} (h : EMd D L) (x : Int) : EMd (D.put (.int .i64 x) (.lit (.bool true))) (x :: L) := by
 refine ⟨h.map.put _ _, fun y hy => ?_, fun y hy hm z => ?_⟩
 ·by_cases e : y = x
  ·subst e
   rw [Go.Maps.has_put_same h.map (em_key y)]
   simp
  ·rw [Go.Maps.has_put_other (em_ne e), h.has y hy, List.mem_cons]
   exact ⟨fun z => .inr z, fun z => z.resolve_left e⟩
 ·by_cases e : y = x
  ·subst e
   exact Go.Maps.atKey_put_same h.map (em_key y) _ _
  ·rw [Go.Maps.atKey_put_other (em_ne e)]
   exact h.one y hy ((List.mem_cons.1 hm).resolve_left e) z
theorem EM.kept {w w' : World} {b n : Nat} {L : List Int} {row : Option Nat} (h : EM w b n L) (hg : w.grownBy w' row) (hne : some b ≠ row) : EM w' b n L := by
 obtain ⟨D, h1, h2⟩ := h
 exact ⟨D, h1.kept hg hne, h2⟩
theorem EM.below {w w' : World} {b n : Nat} {L : List Int} (h : EM w b n L) (hb : Below w.heap.size w w') : EM w' b n L := h.kept (grown_of_below hb none) (by simp)
theorem EM.lt {w : World} {b n : Nat} {L : List Int} (h : EM w b n L) : b < w.heap.size := by
 obtain ⟨D, h1, _⟩ := h
 exact h1.lt
theorem EM.made (w : World) : EM (w.alloc (.map #[] 0)) w.heap.size 0 [] := ⟨_, World.ownsMap_made _ _ _ _, EMd.empty⟩
theorem EM.iff {w : World} {b n : Nat} {L L' : List Int} (h : EM w b n L) (e : ∀ x, x ∈ L ↔ x ∈ L') : EM w b n L' := by
 obtain ⟨D, h1, h2⟩ := h
 exact ⟨D, h1, h2.map, fun x hx => (h2.has x hx).trans (e x), fun x hx hm => h2.one x hx ((e x).2 hm)⟩
theorem em_inv {P : Program} {e : TypeId} (he : P.underlying e = some .bool) {v : Value} {z : DataW Unit × List MemPlace} (h : plainElem P e v = some z) : ∃ c, v = .bool c ∧ z = (.lit (.bool c), []) := by
 unfold plainElem at h
 rw [he] at h
 cases v <;> simp at h
 exact ⟨_, rfl, h.symm⟩
section
variable {ops : Array Oper} {rest : List Oper} {o : Oper} {a : Act} {Q : Exit → Act → World → Prop}
/-- 'm[k] = true', or an entry of a literal. -/
theorem em_store (w : World) (hg : o.guard = none) (m x v : Operand) (hop : o.op = Op.mapUpdate 69 m x v ∨ o.op = Op.insert 69 m x v) (b n : Nat) (L : List Int) (hm : a.eval m = .map (some b)) (hown : EM w b n L) (hn : n < maxLen) (c : Int) (hx : a.eval x = .int .i64 c) (hv : a.eval v = .bool true) (hw : (Lit.int .i64 c).wf = true)
  (hK : ∀ w', EM w' b (n + 1) (c :: L) → w.grownBy w' (some b) → wpList Try.prog ops Q rest (a.put o.dst undef) w') : wpList Try.prog ops Q (o :: rest) a w := by
 refine wpList_plain hg fun K' hK' => ?_
 obtain ⟨D, h1, h2⟩ := hown
 obtain ⟨w', hrun, r1, r2⟩ := h1.update em_law Try.underlying69 hn (Go.Maps.keyOf_int_mk Try.underlying3 hw) (plainElem_bool Try.underlying4 true)
 unfold Oper.wp
 rcases hop with hop | hop
 ·simp [execOp, hop, hm, hx, hv, hrun, Result.andThen]
  exact hK' _ _ (hK w' ⟨_, r1, h2.put c⟩ r2)
 ·simp [execOp, hop, hm, hx, hv, hrun, Result.andThen]
  exact hK' _ _ (hK w' ⟨_, r1, h2.put c⟩ r2)
/-- 'm[k]'. -/
theorem em_look (w : World) (hg : o.guard = none) (m x : Operand) (hop : o.op = Op.lookup 69 m x false) (b n : Nat) (L : List Int) (hm : a.eval m = .map (some b)) (hown : EM w b n L) (c : Int) (hx : a.eval x = .int .i64 c) (hw : (Lit.int .i64 c).wf = true)
  (hK : wpList Try.prog ops Q rest (a.put o.dst (.bool (decide (c ∈ L)))) w) : wpList Try.prog ops Q (o :: rest) a w := by
 refine wpList_plain hg fun K' hK' => ?_
 obtain ⟨D, h1, h2⟩ := hown
 obtain ⟨v, ps, hrun, hv⟩ := h1.lookup em_law Try.underlying69 (em_zero w) (plainElem_bool Try.underlying4 false) (Go.Maps.keyOf_int_mk Try.underlying3 hw)
 obtain ⟨c', rfl, hc⟩ := em_inv Try.underlying4 hv
 have e : c' = decide (c ∈ L) := by
  have e1 : D.atKey (.int .i64 c) (.lit (.bool false)) = .lit (.bool c') := congrArg Prod.fst hc
  by_cases q : c ∈ L
  ·rw [h2.one c hw q] at e1
   rw [decide_eq_true q]
   exact (Lit.bool.inj (DataW.lit.inj e1)).symm
  ·have : Go.Maps.has D (.int .i64 c) = false := by
    cases z : Go.Maps.has D (.int .i64 c) with
    | false => rfl
    | true => exact absurd ((h2.has c hw).1 z) q
   rw [Go.Maps.atKey_of_not_has this] at e1
   rw [decide_eq_false q]
   exact (Lit.bool.inj (DataW.lit.inj e1)).symm
 subst e
 unfold Oper.wp
 simp [execOp, hop, hm, hx, hrun, Result.andThen]
 exact hK' _ _ hK
end
def ea.steps (k : Nat) (m0 m1 o c : Int) : List Int → Option (List Int)
 | [] => some []
 | d :: ds => (impl_Step.f k m0 m1 o c d).bind fun n => if (Lit.int .i64 n).wf = true then ((ea.steps k m0 m1 o c ds).bind fun r => some (n :: r)) else none
def ea.cell (k : Nat) (m0 m1 o c : Int) : Option (List Int) := if (Lit.int .i64 c).wf = true then ((impl_WaysFrom.f k m0 m1 o c).bind fun ds => if ds.length < 1000 then ((ea.steps k m0 m1 o c ds).bind fun r => some (c :: r)) else none) else none
def ea.next (k : Nat) (m0 m1 o : Int) : List Int → Option (List Int)
 | [] => some []
 | c :: cs => (ea.cell k m0 m1 o c).bind fun a => (ea.next k m0 m1 o cs).bind fun b => some (a ++ b)
def ea.l0 : Nat → Int → Int → Int → Int → List S56 → Int → Int → Int → List Int → Option Int
 | 0, _, _, _, _, _, _, _, _, _ => none
 | k + 1, m0, m1, m2, p, l, now, mo, tt, L => if now ≤ wrap64 (mo + 200) then (if tt ∈ L then some now else ((impl_MazeAtTime.f k m0 m1 m2 p l now).bind fun r => (ea.next k r.1 r.2.1 r.2.2.1 L).bind fun L' => if L'.length < 1000000000 then ea.l0 k m0 m1 m2 p l (wrap64 (now + 1)) mo tt L'.eraseDups else none)) else some (-1)
def impl_EarliestAt.f (k : Nat) (m0 m1 m2 p : Int) (l : List S56) (fr mo tt : Int) : Option Int := (impl_TimedOk.f k m0 m1 m2 p l).bind fun t => if t = true then ((impl_isIn.f m0 m1 m2 [fr, tt]).bind fun s => if s = true then (if mo < 0 then some (-1) else (if mo > 500 then some (-1) else (if (Lit.int .i64 fr).wf = true ∧ (Lit.int .i64 tt).wf = true then ea.l0 k m0 m1 m2 p l mo mo tt [fr] else none))) else some (-1)) else some (-1)
theorem ea.mono1 (k : Nat) (m0 m1 o c : Int) : ∀ ds, LeO (ea.steps k m0 m1 o c ds) (ea.steps (k + 1) m0 m1 o c ds)
 | [] => LeO.refl _
 | d :: ds => by
  unfold ea.steps
  exact LeO.bind (impl_Step.mono _ _ _ _ _ _) (fun n => LeO.ite (LeO.bind (ea.mono1 k m0 m1 o c ds) (fun r => LeO.refl _)) (LeO.refl _))
theorem ea.mono2 (k : Nat) (m0 m1 o c : Int) : LeO (ea.cell k m0 m1 o c) (ea.cell (k + 1) m0 m1 o c) := by
 unfold ea.cell
 exact LeO.ite (LeO.bind (impl_WaysFrom.mono _ _ _ _ _) (fun ds => LeO.ite (LeO.bind (ea.mono1 k m0 m1 o c ds) (fun r => LeO.refl _)) (LeO.refl _))) (LeO.refl _)
theorem ea.mono3 (k : Nat) (m0 m1 o : Int) : ∀ cs, LeO (ea.next k m0 m1 o cs) (ea.next (k + 1) m0 m1 o cs)
 | [] => LeO.refl _
 | c :: cs => by
  unfold ea.next
  exact LeO.bind (ea.mono2 k m0 m1 o c) (fun a => LeO.bind (ea.mono3 k m0 m1 o cs) (fun b => LeO.refl _))
theorem ea.mono_l : ∀ (k : Nat) (m0 m1 m2 p : Int) (l : List S56) (now mo tt : Int) (L : List Int), LeO (ea.l0 k m0 m1 m2 p l now mo tt L) (ea.l0 (k + 1) m0 m1 m2 p l now mo tt L)
 | 0, _, _, _, _, _, _, _, _, _ => fun r h => by simp [ea.l0] at h
 | k + 1, m0, m1, m2, p, l, now, mo, tt, L => by
  have ih := ea.mono_l k
  unfold ea.l0
  exact LeO.ite (LeO.ite (LeO.refl _) (LeO.bind (impl_MazeAtTime.mono _ _ _ _ _ _ _) (fun r => LeO.bind (ea.mono3 _ _ _ _ _) (fun L' => LeO.ite (ih _ _ _ _ _ _ _ _ _) (LeO.refl _))))) (LeO.refl _)
theorem impl_EarliestAt.mono : ∀ (m0 m1 m2 p : Int) (l : List S56) (fr mo tt : Int) (k : Nat), LeO (impl_EarliestAt.f k m0 m1 m2 p l fr mo tt) (impl_EarliestAt.f (k + 1) m0 m1 m2 p l fr mo tt) := fun m0 m1 m2 p l fr mo tt k => by
 unfold impl_EarliestAt.f
 exact LeO.bind (impl_TimedOk.mono _ _ _ _ _ _) (fun t => LeO.ite (LeO.bind (LeO.refl _) (fun s => LeO.ite (LeO.ite (LeO.refl _) (LeO.ite (LeO.refl _) (LeO.ite (ea.mono_l _ _ _ _ _ _ _ _ _ _) (LeO.refl _)))) (LeO.refl _))) (LeO.refl _))
theorem ea.steps_at {k : Nat} {m0 m1 o c : Int} : ∀ {ds rs : List Int}, ea.steps k m0 m1 o c ds = some rs → rs.length = ds.length ∧ ∀ j : Nat, j < ds.length → impl_Step.f k m0 m1 o c (ds.getD j 0) = some (rs.getD j 0) ∧ (Lit.int .i64 (rs.getD j 0)).wf = true
 | [], rs, h => by
  obtain rfl := Option.some.inj h
  exact ⟨rfl, fun j hj => by simp at hj⟩
 | d :: ds, rs, h => by
  unfold ea.steps at h
  obtain ⟨n, hn, h⟩ := Option.bind_eq_some_iff.mp h
  by_cases hw : (Lit.int .i64 n).wf = true
  ·rw [if_pos hw] at h
   obtain ⟨r, hr, h⟩ := Option.bind_eq_some_iff.mp h
   obtain rfl := Option.some.inj h
   obtain ⟨i1, i2⟩ := ea.steps_at hr
   refine ⟨by simp [i1], fun j hj => ?_⟩
   cases j with
   | zero => exact ⟨hn, hw⟩
   | succ j => exact i2 j (by simpa using hj)
  ·rw [if_neg hw] at h
   cases h
theorem ea.next_at {k : Nat} {m0 m1 o : Int} : ∀ {cs L' : List Int}, ea.next k m0 m1 o cs = some L' → ∃ f : Int → List Int, (∀ c ∈ cs, ea.cell k m0 m1 o c = some (f c)) ∧ L' = cs.flatMap f
 | [], L', h => by
  obtain rfl := Option.some.inj h
  exact ⟨fun _ => [], fun c hc => (by cases hc), rfl⟩
 | c :: cs, L', h => by
  unfold ea.next at h
  obtain ⟨a, ha, h⟩ := Option.bind_eq_some_iff.mp h
  obtain ⟨b, hb, h⟩ := Option.bind_eq_some_iff.mp h
  obtain rfl := Option.some.inj h
  obtain ⟨f, i1, i2⟩ := ea.next_at hb
  refine ⟨fun x => if x = c then a else f x, fun x hx => ?_, ?_⟩
  ·show ea.cell k m0 m1 o x = some (if x = c then a else f x)
   by_cases e : x = c
   ·rw [if_pos e, e]; exact ha
   ·rw [if_neg e]; exact i1 x ((List.mem_cons.1 hx).resolve_left e)
  ·rw [List.flatMap_cons, if_pos rfl, i2]
   congr 1
   have : ∀ l : List Int, (∀ x ∈ l, ea.cell k m0 m1 o x = some (f x)) → l.flatMap f = l.flatMap (fun x => if x = c then a else f x) := by
    intro l
    induction l with
    | nil => intro _; rfl
    | cons y l ih =>
     intro hl
     rw [List.flatMap_cons, List.flatMap_cons, ih fun x hx => hl x (List.mem_cons_of_mem _ hx)]
     congr 1
     by_cases e : y = c
     ·rw [if_pos e]
      have := hl y List.mem_cons_self
      rw [e, ha] at this
      rw [e]
      exact (Option.some.inj this).symm
     ·rw [if_neg e]
   exact this cs i1
/-- Parts of a list that are told once each are no longer together than the whole. -/
theorem ea.sum_sub (f : Int → List Int) : ∀ (done L : List Int), done.Nodup → (∀ x ∈ done, x ∈ L) → (done.flatMap f).length ≤ (L.flatMap f).length
 | [], L, _, _ => by simp
 | x :: done, L, hn, hs => by
  rw [List.nodup_cons] at hn
  have hx := hs x List.mem_cons_self
  have ih := ea.sum_sub f done (L.erase x) hn.2 fun y hy => (List.mem_erase_of_ne (fun e => hn.1 (by rw [← e]; exact hy))).2 (hs y (List.mem_cons_of_mem _ hy))
  have hp := (List.perm_cons_erase hx).flatMap_right f
  have := hp.length_eq
  rw [List.flatMap_cons, List.length_append] at this ⊢
  omega
section
variable {ops : Array Oper} {rest : List Oper} {o : Oper} {a : Act} {Q : Exit → Act → World → Prop}
theorem em_make (w : World) (hg : o.guard = none) (hop : o.op = Op.makeMap 69 none)
  (hK : ∀ b w', b = w.heap.size → EM w' b 0 [] → Below w.heap.size w w' → w'.heap.size = b + 1 → wpList Try.prog ops Q rest (a.put o.dst (.map (some b))) w') : wpList Try.prog ops Q (o :: rest) a w := by
 refine wpList_plain hg fun K' hK' => ?_
 have hmm := @run_makeMap Try.prog
 unfold Oper.wp
 simp [execOp, hop, hmm, Result.andThen]
 exact hK' _ _ (hK _ _ rfl (EM.made w) ((Below.refl _ _).alloc (Nat.le_refl _) _) (by simp))
theorem em_range (w : World) (hg : o.guard = none) (m : Operand) (hop : o.op = Op.range 69 m) (b n : Nat) (L : List Int) (hm : a.eval m = .map (some b)) (hown : EM w b n L)
  (hK : ∀ (r : Nat) (D : DataW Unit) (w' : World), r = w.heap.size → EMd D L → w'.ranges Try.prog 3 (plainElem Try.prog 4) b r n D (Go.Maps.has D) (Go.Maps.size D) → Below w.heap.size w w' → w'.heap.size = r + 1 → wpList Try.prog ops Q rest (a.put o.dst (.pointer (some ⟨r, 0, none⟩))) w') :
  wpList Try.prog ops Q (o :: rest) a w := by
 obtain ⟨D, h1, h2⟩ := hown
 exact wpList_range_own w hg m 69 hop 3 4 em_law Try.underlying69 _ b n D hm h1 (fun w' r1 r2 r3 => hK _ D w' rfl h2 r1 ⟨r2.os, r2.tape, r2.output, r2.size, fun i hi => r2.block i hi (by simp)⟩ r3)
theorem em_next (w : World) (hg : o.guard = none) (it : Operand) (hop : o.op = Op.next it false) (b r n : Nat) (D : DataW Unit) (L : List Int) (left : Lit → Bool) (cnt : Nat) (hit : a.eval it = .pointer (some ⟨r, 0, none⟩)) (hE : EMd D L) (h : w.ranges Try.prog 3 (plainElem Try.prog 4) b r n D left cnt)
  (hDone : (∀ kl, left kl = false) → wpList Try.prog ops Q rest (a.put o.dst (.tuple #[.bool false])) w)
  (hMore : ∀ (x : Int) (w' : World) (cnt' : Nat), (Lit.int .i64 x).wf = true → left (.int .i64 x) = true → x ∈ L → w'.ranges Try.prog 3 (plainElem Try.prog 4) b r n D (fun z => left z && !z.sameKey (.int .i64 x)) cnt' → cnt' < cnt →
   w.grownBy w' (some r) → w'.heap.size = w.heap.size → (Instr.entry (.pointer (some ⟨r, 0, none⟩))).run Try.prog w' = .ok (.tuple #[.int .i64 x, .bool true]) w' → wpList Try.prog ops Q rest (a.put o.dst (.tuple #[.bool true, .int .i64 x, .bool true])) w') :
  wpList Try.prog ops Q (o :: rest) a w :=
 wpList_next_ranges w hg it hop 3 em_law _ (Value.int .i64) Value.bool (fun key kl hk => by obtain ⟨x, rfl, _⟩ := Go.Maps.keyOf_int_inv Try.underlying3 hk; exact ⟨x, rfl⟩) (fun v y hv => by obtain ⟨c, e, _⟩ := em_inv Try.underlying4 hv; exact ⟨c, e⟩) b r n D left cnt hit h (fun _ hl => hDone hl)
  (fun x c kl y w' cnt' hkey hlk hv hat hrg hlt hgr hsz hen => by
   obtain ⟨x', ex, rfl, hwx⟩ := Go.Maps.keyOf_int_inv Try.underlying3 hkey
   cases ex
   have hL := (hE.has x hwx).1 (Go.Maps.has_true_of_atKey hat)
   have hc : c = true := by
    obtain ⟨c', e1, e2⟩ := em_inv Try.underlying4 hv
    have e3 := (hat (.lit (.bool false))).symm.trans (hE.one x hwx hL _)
    rw [e2] at e3
    cases e1
    exact Lit.bool.inj (DataW.lit.inj e3)
   subst hc
   exact hMore x w' cnt' hwx hlk hL hrg hlt hgr hsz hen)
end
/-- A row of two, just laid. -/
theorem ea_two (w : World) (x y : Int) (t : TypeId) : Kd.C (Kd.int .i64) (w.alloc (.cells #[.int .i64 x, .int .i64 y] t)) (some ⟨w.heap.size, 0, none⟩) ([x, y] : List Int).length [x, y] := by
 refine Kd.C_of_reads (d := 0) (h1 := fun _ => rfl) ⟨rfl, by simp, fun _ => ⟨_, rfl, fun j hj => ?_⟩⟩
 have hj' : j < 2 := hj
 have hn := heap_alloc_new w (.cells #[.int .i64 x, .int .i64 y] t)
 unfold World.cell?
 match j, hj' with
 | 0, _ => show (match (w.alloc (.cells #[.int .i64 x, .int .i64 y] t)).heap[w.heap.size]? with | some (.cells c _ _) => c[0]? | _ => none) = _; rw [hn]; rfl
 | 1, _ => show (match (w.alloc (.cells #[.int .i64 x, .int .i64 y] t)).heap[w.heap.size]? with | some (.cells c _ _) => c[1]? | _ => none) = _; rw [hn]; rfl
/-- The blocks of a round. -/
structure EW (w0 W : World) (g b g1 bn : Nat) (A : Option Addr) (c : Nat) (l : List S56) (m0 m1 m2 p r0 r1 r2 : Int) : Prop where
 blk : W.heap[g]? = some (.cells #[.int .i64 m0, .int .i64 m1, .int .i64 m2, .int .i64 p, .slice A l.length c] 36 (0, 0))
 mz : W.heap[g1]? = some (.cells #[.int .i64 r0, .int .i64 r1, .int .i64 r2] 33 (0, 0))
 bel : Below w0.heap.size w0 W
 ge : w0.heap.size ≤ g
 o1 : g < b
 o2 : b < g1
 o3 : g1 < bn
 lt : bn < W.heap.size
section
variable {w0 W W' : World} {g b g1 bn : Nat} {A : Option Addr} {c : Nat} {l : List S56} {m0 m1 m2 p r0 r1 r2 : Int}
theorem EW.grown (h : EW w0 W g b g1 bn A c l m0 m1 m2 p r0 r1 r2) {row : Option Nat} (hg : W.grownBy W' row) (hr : ∀ k, row = some k → bn ≤ k) : EW w0 W' g b g1 bn A c l m0 m1 m2 p r0 r1 r2 := by
 have h1 := h.o1
 have h2 := h.o2
 have h3 := h.o3
 have h4 := h.ge
 have h5 := h.bel.size
 exact ⟨blk_grown h.blk hg (fun z => by have := hr _ z.symm; omega), blk_grown h.mz hg (fun z => by have := hr _ z.symm; omega), h.bel.grown hg h5 (fun k hk => by have := hr k hk; omega), h.ge, h.o1, h.o2, h.o3, Nat.lt_of_lt_of_le h.lt hg.size⟩
theorem EW.below (h : EW w0 W g b g1 bn A c l m0 m1 m2 p r0 r1 r2) (hb : Below W.heap.size W W') : EW w0 W' g b g1 bn A c l m0 m1 m2 p r0 r1 r2 := h.grown (grown_of_below hb none) (fun k hk => by cases hk)
end
theorem ea.cell_at {k : Nat} {m0 m1 o c : Int} {y : List Int} (h : ea.cell k m0 m1 o c = some y) : (Lit.int .i64 c).wf = true ∧ ∃ ds rs, impl_WaysFrom.f k m0 m1 o c = some ds ∧ ds.length < 1000 ∧ ea.steps k m0 m1 o c ds = some rs ∧ y = c :: rs := by
 unfold ea.cell at h
 by_cases hw : (Lit.int .i64 c).wf = true
 ·rw [if_pos hw] at h
  obtain ⟨ds, hd, h⟩ := Option.bind_eq_some_iff.mp h
  by_cases hl : ds.length < 1000
  ·rw [if_pos hl] at h
   obtain ⟨rs, hs, h⟩ := Option.bind_eq_some_iff.mp h
   exact ⟨hw, ds, rs, hd, hl, hs, (Option.some.inj h).symm⟩
  ·rw [if_neg hl] at h
   cases h
 ·rw [if_neg hw] at h
  cases h
theorem ea.part {f : Int → List Int} {done Rs : List Int} {x : Int} (hn : done.Nodup) (hs : ∀ y ∈ done, y ∈ Rs) (hx : x ∈ Rs) (hx' : x ∉ done) : (done.flatMap f).length + (f x).length ≤ (Rs.flatMap f).length := by
 have h := ea.sum_sub f (done ++ [x]) Rs (List.nodup_append.2 ⟨hn, by simp, fun a ha b hb => by obtain rfl := List.mem_singleton.1 hb; exact fun e => hx' (e ▸ ha)⟩) (fun y hy => (List.mem_append.1 hy).elim (hs y) fun z => by rw [List.mem_singleton.1 z]; exact hx)
 rw [List.flatMap_append, List.length_append] at h
 simpa using h
theorem ea_grow (w : World) (g : Nat) (x y z : Value) : w.grownBy (((w.setCell ⟨g, 0, none⟩ x).setCell ⟨g, 1, none⟩ y).setCell ⟨g, 2, none⟩ z) (some g) := by
 refine ⟨rfl, rfl, rfl, by simp, fun k _ hk => ?_⟩
 have hne : k ≠ g := fun e => hk (by rw [e])
 rw [Below.heap_setCell _ _ _ k hne, Below.heap_setCell _ _ _ k hne, Below.heap_setCell _ _ _ k hne]
theorem ea_lookv {ops : Array Oper} {rest : List Oper} {o : Oper} {a : Act} {Q : Exit → Act → World → Prop} (w : World) (hg : o.guard = none) (m x : Operand) (hop : o.op = Op.lookup 69 m x false) (b n : Nat) (L : List Int) (hm : a.eval m = .map (some b)) (hown : EM w b n L) (c : Int) (hx : a.eval x = .int .i64 c) (hw : (Lit.int .i64 c).wf = true) (v : Bool) (hv : decide (c ∈ L) = v)
  (hK : wpList Try.prog ops Q rest (a.put o.dst (.bool v)) w) : wpList Try.prog ops Q (o :: rest) a w := em_look w hg m x hop b n L hm hown c hx hw (by rw [hv]; exact hK)
theorem ea_same (x y : Int) : (Lit.int .i64 y).sameKey (.int .i64 x) = decide (y = x) := by simp [Lit.sameKey]
section
variable {w0 W8 wA : World} {g b g1 bn n : Nat} {A : Option Addr} {c : Nat} {l : List S56} {m0 m1 m2 p r0 r1 r2 : Int} {L : List Int}
theorem EW.make (hb : Below w0.heap.size w0 W8) (hge : w0.heap.size ≤ g) (hg : W8.heap[g]? = some (.cells #[.int .i64 m0, .int .i64 m1, .int .i64 m2, .int .i64 p, .slice A l.length c] 36 (0, 0))) (hz : W8.heap[g1]? = some (.cells #[.int .i64 0, .int .i64 0, .int .i64 0] 33 (0, 0)))
  (hM : EM W8 b n L) (h1 : g < b) (h2 : b < g1) (hbn : bn = (((W8.setCell ⟨g1, 0, none⟩ (.int .i64 r0)).setCell ⟨g1, 1, none⟩ (.int .i64 r1)).setCell ⟨g1, 2, none⟩ (.int .i64 r2)).heap.size) (hbl : Below (((W8.setCell ⟨g1, 0, none⟩ (.int .i64 r0)).setCell ⟨g1, 1, none⟩ (.int .i64 r1)).setCell ⟨g1, 2, none⟩ (.int .i64 r2)).heap.size (((W8.setCell ⟨g1, 0, none⟩ (.int .i64 r0)).setCell ⟨g1, 1, none⟩ (.int .i64 r1)).setCell ⟨g1, 2, none⟩ (.int .i64 r2)) wA) (hsz : wA.heap.size = bn + 1) :
  EW w0 wA g b g1 bn A c l m0 m1 m2 p r0 r1 r2 ∧ EM wA b n L := by
 have hG := ea_grow W8 g1 (.int .i64 r0) (.int .i64 r1) (.int .i64 r2)
 have hz3 := bp3_ (v0 := .int .i64 r0) (v1 := .int .i64 r1) (v2 := .int .i64 r2) hz
 have hne : g ≠ g1 := by omega
 have h8 := blk_lt hz
 generalize (((W8.setCell ⟨g1, 0, none⟩ (.int .i64 r0)).setCell ⟨g1, 1, none⟩ (.int .i64 r1)).setCell ⟨g1, 2, none⟩ (.int .i64 r2)) = W3 at *
 have e3 := blk_lt hz3
 refine ⟨⟨blk_below (blk_grown hg hG (fun e => hne (Option.some.inj e))) hbl, blk_below hz3 hbl, below_step (hb.grown hG hb.size (fun k hk => by cases hk; omega)) hbl, hge, h1, h2, by omega, by omega⟩, (hM.kept hG (fun e => by have := Option.some.inj e; omega)).below hbl⟩
end
set_option maxHeartbeats 8000000 in
set_option maxRecDepth 100000 in
theorem ea_no1 (k : Nat) (m0 m1 m2 p : Int) (A : Option Addr) (c : Nat) (l : List S56) (fr mo tt : Int) (w : World) (hr0 : Kd.C k56 w A l.length l) (hc0 : l.length ≤ c) (ht : impl_TimedOk.f k m0 m1 m2 p l = some false) :
  Calls Try.prog 11 #[.agg #[.int .i64 m0, .int .i64 m1, .int .i64 m2, .int .i64 p, .slice A l.length c], .int .i64 fr, .int .i64 mo, .int .i64 tt] w fun e w' => e = .returned (.int .i64 (-1)) ∧ Below w.heap.size w w' := by
 have hu1 := Try.underlying36
 have hu2 := Try.underlying33
 have HR0 := Aside0.mk hr0
 have HC0 := Aside0.mk hc0
 have AT := Aside0.mk ht
 clear hr0 hc0 ht
 have HB := Aside0.mk (Below.refl w.heap.size w)
 go_enter Try.func11, Try.ntmps11
 go_wp2_with ((with_reducible refine gw_ ?_); first | (refine box_ (N := 4) (cs := #[.int .i64 m0, .int .i64 m1, .int .i64 m2, .int .i64 p, .slice A l.length c]) (t := 36) ?_; intro gb hg w5 hbox hb; have BK := Aside0.mk hbox; have GE := HB.g0 hg; replace HB := HB.s0 hb; clear hb hbox hg; obtain ⟨z0, z1, z2, z3, z4⟩ := cz5_ BK.out) | (refine gl_ 18 Try.func37 #[.agg #[.int .i64 m0, .int .i64 m1, .int .i64 m2, .int .i64 p, .slice A l.length c]] ?_; (with_reducible refine (impl_TimedOk.calls k m0 m1 m2 p _ _ l false _ ?side1 ?side2 AT.out).mono ?_); (case side1 => exact Kd.C_below HR0.out (hb1_ HB.out GE.out)); (case side2 => exact HC0.out); rintro e w6 ⟨rfl, hb⟩; refine ⟨_, rfl, ?_⟩; replace BK := BK.bb hb; replace HB := HB.s1 GE hb; clear hb))
 go_ret
 exact ⟨rfl, hb1_ HB.out GE.out⟩
set_option maxHeartbeats 8000000 in
set_option maxRecDepth 100000 in
theorem ea_no2 (k : Nat) (m0 m1 m2 p : Int) (A : Option Addr) (c : Nat) (l : List S56) (fr mo tt : Int) (w : World) (hr0 : Kd.C k56 w A l.length l) (hc0 : l.length ≤ c) (ht : impl_TimedOk.f k m0 m1 m2 p l = some true) (hi : impl_isIn.f m0 m1 m2 [fr, tt] = some false) :
  Calls Try.prog 11 #[.agg #[.int .i64 m0, .int .i64 m1, .int .i64 m2, .int .i64 p, .slice A l.length c], .int .i64 fr, .int .i64 mo, .int .i64 tt] w fun e w' => e = .returned (.int .i64 (-1)) ∧ Below w.heap.size w w' := by
 have hu1 := Try.underlying36
 have hu2 := Try.underlying33
 have HR0 := Aside0.mk hr0
 have HC0 := Aside0.mk hc0
 have AT := Aside0.mk ht
 have AI := Aside0.mk hi
 clear hr0 hc0 ht hi
 have HB := Aside0.mk (Below.refl w.heap.size w)
 go_enter Try.func11, Try.ntmps11
 go_wp2_with (first | (go_at_call 38; refine (impl_isIn.calls m0 m1 m2 _ _ [fr, tt] false _ ?side1 ?side2 AI.out).mono ?_; (case side1 => exact ea_two _ fr tt _); (case side2 => exact Nat.le_refl _); rintro e w8 ⟨rfl, hb⟩; replace BK := BK.bb hb; replace HB := HB.s1 GE hb; clear hb) | ((with_reducible refine gw_ ?_); first | (refine box_ (N := 4) (cs := #[.int .i64 m0, .int .i64 m1, .int .i64 m2, .int .i64 p, .slice A l.length c]) (t := 36) ?_; intro gb hg w5 hbox hb; have BK := Aside0.mk hbox; have GE := HB.g0 hg; replace HB := HB.s0 hb; clear hb hbox hg; obtain ⟨z0, z1, z2, z3, z4⟩ := cz5_ BK.out) | (refine gl_ 18 Try.func37 #[.agg #[.int .i64 m0, .int .i64 m1, .int .i64 m2, .int .i64 p, .slice A l.length c]] ?_; (with_reducible refine (impl_TimedOk.calls k m0 m1 m2 p _ _ l true _ ?side1 ?side2 AT.out).mono ?_); (case side1 => exact Kd.C_below HR0.out (hb1_ HB.out GE.out)); (case side2 => exact HC0.out); rintro e w6 ⟨rfl, hb⟩; refine ⟨_, rfl, ?_⟩; replace BK := BK.bb hb; replace HB := HB.s1 GE hb; clear hb; obtain ⟨y0, y1, y2, y3, y4⟩ := cz5_ BK.out)))
 go_ret
 exact ⟨rfl, hb1_ HB.out GE.out⟩
set_option maxHeartbeats 8000000 in
set_option maxRecDepth 100000 in
theorem ea_main (k : Nat) (m0 m1 m2 p : Int) (A : Option Addr) (c : Nat) (l : List S56) (fr mo tt r : Int) (w : World) (hr0 : Kd.C k56 w A l.length l) (hc0 : l.length ≤ c) (ht : impl_TimedOk.f k m0 m1 m2 p l = some true) (hi : impl_isIn.f m0 m1 m2 [fr, tt] = some true)
  (h1 : ¬ mo < 0) (h2 : ¬ 500 < mo) (hwf : (Lit.int .i64 fr).wf = true) (hwt : (Lit.int .i64 tt).wf = true) (h : ea.l0 k m0 m1 m2 p l mo mo tt [fr] = some r) :
  Calls Try.prog 11 #[.agg #[.int .i64 m0, .int .i64 m1, .int .i64 m2, .int .i64 p, .slice A l.length c], .int .i64 fr, .int .i64 mo, .int .i64 tt] w fun e w' => e = .returned (.int .i64 r) ∧ Below w.heap.size w w' := by
 have hu1 := Try.underlying36
 have hu2 := Try.underlying33
 have HR0 := Aside0.mk hr0
 have HC0 := Aside0.mk hc0
 have AT := Aside0.mk ht
 have AI := Aside0.mk hi
 have AW := Aside0.mk hwf
 have AV := Aside0.mk hwt
 have H' := Aside0.mk h
 have c1 : decide (mo < 0) = false := decide_eq_false h1
 have c2 : decide (500 < mo) = false := decide_eq_false h2
 clear hr0 hc0 ht hi h1 h2 hwf hwt h
 have HB := Aside0.mk (Below.refl w.heap.size w)
 go_enter Try.func11, Try.ntmps11
 go_wp2_with (first | (go_at_call 38; refine (impl_isIn.calls m0 m1 m2 _ _ [fr, tt] true _ ?side1 ?side2 AI.out).mono ?_; (case side1 => exact ea_two _ fr tt _); (case side2 => exact Nat.le_refl _); rintro e w8 ⟨rfl, hb⟩; replace BK := BK.bb hb; replace HB := HB.s1 GE hb; clear hb) | ((with_reducible refine gw_ ?_); first | (refine box_ (N := 4) (cs := #[.int .i64 m0, .int .i64 m1, .int .i64 m2, .int .i64 p, .slice A l.length c]) (t := 36) ?_; intro gb hg w5 hbox hb; have BK := Aside0.mk hbox; have GE := HB.g0 hg; replace HB := HB.s0 hb; clear hb hbox hg; obtain ⟨z0, z1, z2, z3, z4⟩ := cz5_ BK.out) | (refine gl_ 18 Try.func37 #[.agg #[.int .i64 m0, .int .i64 m1, .int .i64 m2, .int .i64 p, .slice A l.length c]] ?_; (with_reducible refine (impl_TimedOk.calls k m0 m1 m2 p _ _ l true _ ?side1 ?side2 AT.out).mono ?_); (case side1 => exact Kd.C_below HR0.out (hb1_ HB.out GE.out)); (case side2 => exact HC0.out); rintro e w6 ⟨rfl, hb⟩; refine ⟨_, rfl, ?_⟩; replace BK := BK.bb hb; replace HB := HB.s1 GE hb; clear hb; obtain ⟨y0, y1, y2, y3, y4⟩ := cz5_ BK.out) | (refine em_make _ rfl rfl ?_; intro b w9 hbn hM0 hb _; have GB := Aside0.mk (show gb < b from by rw [hbn]; exact blk_lt BK.out); replace BK := BK.bb hb; replace HB := HB.s1 GE hb; clear hb hbn; go_frame) | (refine em_store _ rfl _ _ _ (Or.inr rfl) b 0 [] rfl hM0 (by decide) fr rfl rfl AW.out ?_; intro w10 hM1 hgr; replace BK := Aside0.mk (blk_grown BK.out hgr (fun e => by have := Option.some.inj e; have := GB.out; omega)); replace HB := Aside0.mk (HB.out.grown hgr HB.out.size (fun j hj => by cases hj; exact Nat.le_of_lt (Nat.lt_of_le_of_lt GE.out GB.out))); clear hgr; go_frame)))
 go_loopg [9, 10] k (fun kq s9 s10 w' => ∃ (b n : Nat) (now : Int) (L Rs : List Int), s9 = .map (some b) ∧ s10 = .int .i64 now ∧ Aside0 (ea.l0 kq m0 m1 m2 p l now mo tt Rs = some r) ∧ Aside0 (kq ≤ k) ∧ Aside0 (EM w' b n L) ∧ Aside0 (∀ x, x ∈ L ↔ x ∈ Rs) ∧ Aside0 (w'.heap[gb]? = some (.cells #[.int .i64 m0, .int .i64 m1, .int .i64 m2, .int .i64 p, .slice A l.length c] 36 (0, 0))) ∧ Aside0 (gb < b) ∧ Aside0 (Below w.heap.size w w'))
 case atStart => exact ⟨b, _, mo, [fr], [fr], rfl, rfl, H', ⟨Nat.le_refl _⟩, ⟨hM1⟩, ⟨fun _ => Iff.rfl⟩, BK, GB, HB⟩
 case round =>
  clear H' c1 c2 z0 z1 z2 z3 z4 y0 y1 y2 y3 y4 hM0 hM1 GB BK HB
  obtain ⟨b1, n1, now, L1, Rs, rfl, rfl, HA, HK, HM, HE, BK, GB, HB⟩ := hrel
  cases gk with
  | zero => exact absurd HA.out (by simp [ea.l0])
  | succ k1 =>
   have H := HA.out
   clear HA
   simp only [ea.l0] at H
   by_cases d1 : now ≤ wrap64 (mo + 200)
   ·rw [if_pos d1] at H
    have d1b : decide (now ≤ wrap64 (mo + 200)) = true := decide_eq_true d1
    clear d1
    by_cases d2 : tt ∈ Rs
    ·rw [if_pos d2] at H
     have HR := Aside0.mk (Option.some.inj H)
     have DV : Aside0 (decide (tt ∈ L1) = true) := ⟨decide_eq_true ((HE.out tt).2 d2)⟩
     clear d2 H
     go_wp2_with ((with_reducible refine gw_ ?_); refine ea_lookv _ rfl _ _ rfl b1 n1 L1 rfl HM.out tt rfl AV.out true DV.out ?_; go_frame)
     go_ret
     exact ⟨by rw [HR.out]; rfl, HB.out⟩
    ·rw [if_neg d2] at H
     obtain ⟨⟨r0, r1, r2, r3⟩, hmz, H⟩ := Option.bind_eq_some_iff.mp H
     obtain ⟨L', hnx, H⟩ := Option.bind_eq_some_iff.mp H
     obtain ⟨f, hf, hL⟩ := ea.next_at hnx
     subst hL
     by_cases d3 : (Rs.flatMap f).length < 1000000000
     ·rw [if_pos d3] at H
      have DV : Aside0 (decide (tt ∈ L1) = false) := ⟨decide_eq_false fun z => d2 ((HE.out tt).1 z)⟩
      have HL := Aside0.mk d3
      have H2 := Aside0.mk H
      have HF := Aside0.mk hf
      have HMZ := Aside0.mk hmz
      clear d2 d3 H hf hnx hmz
      obtain ⟨y0, y1, y2, y3, y4⟩ := cz5_ BK.out
      go_wp2_with ((with_reducible refine gw_ ?_); first | (refine ea_lookv _ rfl _ _ rfl b1 n1 L1 rfl HM.out tt rfl AV.out false DV.out ?_; go_frame) | (refine gl_ 54 Try.func25 #[.agg #[.int .i64 m0, .int .i64 m1, .int .i64 m2, .int .i64 p, .slice A l.length c], .int .i64 now] ?_; (with_reducible refine (impl_MazeAtTime.calls k1 m0 m1 m2 p _ _ l now r0 r1 r2 r3 _ ?side1 ?side2 HMZ.out).mono ?_); (case side1 => exact Kd.C_below HR0.out (hb1_ HB.out GE.out)); (case side2 => exact HC0.out); rintro e w6 ⟨rfl, hb⟩; refine ⟨_, rfl, ?_⟩; replace BK := BK.bb hb; replace HB := HB.s1 GE hb; replace HM := Aside0.mk (HM.out.below hb); clear hb) | (refine box_ (N := 11) (cs := #[.int .i64 0, .int .i64 0, .int .i64 0]) (t := 33) ?_; intro g1 hg w8 hbox hb; have G1 := Aside0.mk (show b1 < g1 from by rw [hg]; exact HM.out.lt); have MZ := Aside0.mk hbox; replace BK := BK.bb hb; replace HB := HB.s1 GE hb; replace HM := Aside0.mk (HM.out.below hb); clear hb hbox hg; obtain ⟨u0, u1, u2⟩ := cz3_ MZ.out; obtain ⟨v0, v1, v2⟩ := fz3_ MZ.out) | (refine em_make _ rfl rfl ?_; intro bn wA hbn hMn hb hs; have EP := EW.make HB.out GE.out BK.out MZ.out HM.out GB.out G1.out hbn hb hs; have EWA := Aside0.mk EP.1; have HMB := Aside0.mk EP.2; have HMN := Aside0.mk hMn; clear hbn hb hs EP hMn; go_frame) | (refine em_range _ rfl _ rfl b1 n1 L1 rfl HMB.out ?_; intro rr D wB hr hD hrg hb hs; have RG := Aside0.mk hrg; have HD := Aside0.mk hD; have RB := Aside0.mk (show bn < rr from by rw [hr]; exact EWA.out.lt); replace EWA := Aside0.mk (EWA.out.below hb); replace HMN := Aside0.mk (HMN.out.below hb); clear hr hrg hD hb hs; go_frame))
      clear y0 y1 y2 y3 y4 u0 u1 u2 v0 v1 v2 d1b
      go_loopg [14] (Go.Maps.size D) (fun gg _ wr => ∃ (left : Lit → Bool) (cnt : Nat) (done : List Int), Aside0 (cnt ≤ gg) ∧ Aside0 (wr.ranges Try.prog 3 (plainElem Try.prog 4) b1 rr n1 D left cnt) ∧ Aside0 (done.Nodup ∧ (∀ x ∈ done, x ∈ Rs) ∧ ∀ x : Int, (Lit.int .i64 x).wf = true → (left (.int .i64 x) = true ↔ x ∈ Rs ∧ x ∉ done)) ∧ Aside0 (EM wr bn (done.flatMap f).length (done.flatMap f).reverse) ∧ Aside0 (EW w wr gb b1 g1 bn A c l m0 m1 m2 p r0 r1 r2))
      case atStart => exact ⟨_, _, [], ⟨Nat.le_refl _⟩, RG, ⟨List.nodup_nil, fun x h => (by cases h), fun x hx => ⟨fun z => ⟨(HE.out x).1 ((HD.out.has x hx).1 z), List.not_mem_nil⟩, fun z => (HD.out.has x hx).2 ((HE.out x).2 z.1)⟩⟩, HMN, EWA⟩
      case round =>
       clear RG HMN EWA HMB HM HB BK MZ GB
       obtain ⟨left, cnt, done, HC, RG, DN, HMN, EWA⟩ := hrel
       go_wp2_with ((with_reducible refine gw_ ?_); refine em_next _ rfl _ rfl b1 rr n1 D L1 left cnt rfl HD.out RG.out ?_ ?_)
       ·intro hl0
        have HN := Aside0.mk hl0
        clear hl0
        go_wp2
        go_roundg k1
        case measure => exact Nat.lt_succ_self _
        case rel =>
         have dn := DN.out
         have hl0 := HN.out
         have e1 := EWA.out.o1
         have e2 := EWA.out.o2
         have e3 := EWA.out.o3
         refine ⟨bn, _, wrap64 (now + 1), (done.flatMap f).reverse, (Rs.flatMap f).eraseDups, rfl, rfl, H2, ⟨Nat.le_of_succ_le HK.out⟩, HMN, ⟨fun x => ?_⟩, ⟨EWA.out.blk⟩, ⟨by omega⟩, ⟨EWA.out.bel⟩⟩
         rw [List.mem_reverse, List.mem_eraseDups, List.mem_flatMap, List.mem_flatMap]
         refine ⟨fun ⟨y, hy, hx⟩ => ⟨y, dn.2.1 y hy, hx⟩, fun ⟨y, hy, hx⟩ => ⟨y, ?_, hx⟩⟩
         refine Classical.byContradiction fun hn => ?_
         have hw := (ea.cell_at (HF.out y hy)).1
         have := (dn.2.2 y hw).2 ⟨hy, hn⟩
         rw [hl0] at this
         cases this
       ·intro x w1 cnt1 hwx hlx hxL hrg1 hlt hgr hsz hen
        have dn := DN.out
        obtain ⟨hxR, hxd⟩ := (dn.2.2 x hwx).1 hlx
        obtain ⟨_, ds, rs, hws, hdl, hst, hfx⟩ := ea.cell_at (HF.out x hxR)
        have hpart := ea.part (f := f) dn.1 dn.2.1 hxR hxd
        have hat := ea.steps_at hst
        have HMX := Aside0.mk (HMN.out.kept hgr (fun e => by have := Option.some.inj e; have := RB.out; omega))
        have EWX := Aside0.mk (EWA.out.grown hgr (fun j hj => by cases hj; exact Nat.le_of_lt RB.out))
        have RGX := Aside0.mk hrg1
        have HX := Aside0.mk hxR
        have HXD := Aside0.mk hxd
        have HWX := Aside0.mk hwx
        have HWS := Aside0.mk hws
        have HFX := Aside0.mk hfx
        have HPA := Aside0.mk hpart
        have HAT := Aside0.mk hat
        have HLT := Aside0.mk hlt
        have HLX := Aside0.mk hlx
        clear dn hxR hxd hws hdl hst hfx hpart hat hgr hsz hrg1 hwx hlx hxL hlt HMN EWA RG
        have hcap : (1000000000 : Nat) < maxLen := by decide
        have CAP := Aside0.mk hcap
        clear hcap
        obtain ⟨y0, y1, y2⟩ := cz3_ EWX.out.mz
        go_wp2_with ((with_reducible refine gw_ ?_); first | (refine em_store _ rfl _ _ _ (Or.inl rfl) bn _ _ rfl HMX.out (by have := HPA.out; have := HL.out; have := CAP.out; omega) x rfl rfl HWX.out ?_; intro w2 hM2 hgr2; have HMY := Aside0.mk hM2; have EWY := Aside0.mk (EWX.out.grown hgr2 (fun j hj => by cases hj; exact Nat.le_refl _)); have RGY := Aside0.mk (RGX.out.kept hgr2 (fun e => by have := Option.some.inj e; have := EWX.out.o2; have := EWX.out.o3; omega) (fun e => by have := Option.some.inj e; have := RB.out; omega)); clear hM2 hgr2 hen y0 y1 y2; obtain ⟨y0, y1, y2⟩ := cz3_ EWY.out.mz; go_frame) | (refine gl_ 68 Try.func39 #[.agg #[.int .i64 r0, .int .i64 r1, .int .i64 r2], .int .i64 x] ?_; (with_reducible refine (impl_WaysFrom.calls k1 r0 r1 r2 x ds _ HWS.out).mono ?_); rintro e w3 ⟨v, rfl, ho, hb⟩; refine ⟨_, rfl, ?_⟩; have HO := Aside0.mk (Kd.R_mono (Kd.R_bound ho) (ok' := fun j => bn < j) (fun j hj => Nat.lt_of_lt_of_le EWY.out.lt hj.2.1)); obtain ⟨Ao, co, eo⟩ := Kd.R_slice HO.out; subst eo; have HMZ := Aside0.mk (HMY.out.below hb); have EWZ := Aside0.mk (EWY.out.below hb); have RGZ := Aside0.mk (RGY.out.kept (grown_of_below hb none) (by simp) (by simp)); clear ho hb))
        go_loopg [70] ds.length (fun gg s70 wr => ∃ i : Int, s70 = .int .i64 i ∧ Aside0 (0 ≤ i ∧ i ≤ (ds.length : Int)) ∧ Aside0 (ds.length - i.toNat ≤ gg) ∧ Aside0 (EM wr bn ((done.flatMap f).length + 1 + i.toNat) ((rs.take i.toNat).reverse ++ x :: (done.flatMap f).reverse)) ∧ Aside0 (Kd.R (Kd.int .i64) 3 wr w2.heap.size (fun i => bn < i) (.slice Ao ds.length co) ds) ∧ Aside0 (wr.ranges Try.prog 3 (plainElem Try.prog 4) b1 rr n1 D (fun z => left z && !z.sameKey (Lit.int IntKind.i64 x)) cnt1) ∧ Aside0 (EW w wr gb b1 g1 bn A c l m0 m1 m2 p r0 r1 r2))
        case atStart => exact ⟨0, rfl, ⟨⟨Int.le_refl _, Int.natCast_nonneg _⟩⟩, ⟨Nat.le_refl _⟩, HMZ, HO, RGZ, EWZ⟩
        case round =>
         clear HMX EWX RGX HMY EWY RGY HMZ EWZ RGZ HO y0 y1 y2
         obtain ⟨i, rfl, HJ, HG, HMN, HO, RG, EWA⟩ := hrel
         by_cases p1 : i < (ds.length : Int)
         ·have p0 : 0 ≤ i := HJ.out.1
          have hlt : i.toNat < ds.length := by omega
          obtain ⟨ad, ea, hx⟩ := Kd.at_int (Kd.R_reads' HO.out).2.2 i p0 p1
          cases ea
          have c1 : decide (i < (ds.length : Int)) = true := decide_eq_true p1
          have hst : impl_Step.f k1 r0 r1 r2 x (rd ds i) = some (rs.getD i.toNat 0) ∧ (Lit.int .i64 (rs.getD i.toNat 0)).wf = true := HAT.out.2 i.toNat hlt
          have hw : wrap64 (i + 1) = i + 1 := by
           have := HPA.out
           have := HL.out
           have := HAT.out.1
           rw [HFX.out, List.length_cons] at *
           unfold wrap64
           omega
          have HST := Aside0.mk hst.1
          have HSW := Aside0.mk hst.2
          have HW := Aside0.mk hw
          have HJL := Aside0.mk hlt
          have HP := Aside0.mk p0
          replace p0 := eq_true p0
          replace p1 := eq_true p1
          clear hst hw hlt
          obtain ⟨y0, y1, y2⟩ := cz3_ EWA.out.mz
          go_wp2_with ((with_reducible refine gw_ ?_); first | (refine gl_ 78 Try.func40 #[.agg #[.int .i64 r0, .int .i64 r1, .int .i64 r2], .int .i64 x, .int .i64 (rd ds i)] ?_; (with_reducible refine (impl_Step.calls k1 r0 r1 r2 x (rd ds i) (rs.getD i.toNat 0) _ HST.out).mono ?_); rintro e w4 ⟨rfl, hb⟩; refine ⟨_, rfl, ?_⟩; have HMX := Aside0.mk (HMN.out.below hb); have EWX := Aside0.mk (EWA.out.below hb); have RGX := Aside0.mk (RG.out.kept (grown_of_below hb none) (by simp) (by simp)); have HOX := Aside0.mk (Kd.R_below HO.out hb); clear hb hx y0 y1 y2) | (refine em_store _ rfl _ _ _ (Or.inl rfl) bn _ _ rfl HMX.out (by have := HPA.out; have := HL.out; have := CAP.out; have := HAT.out.1; have := HJL.out; rw [HFX.out, List.length_cons] at *; omega) (rs.getD i.toNat 0) rfl rfl HSW.out ?_; intro w5 hM5 hgr5; have HMY := Aside0.mk hM5; have EWY := Aside0.mk (EWX.out.grown hgr5 (fun j hj => by cases hj; exact Nat.le_refl _)); have RGY := Aside0.mk (RGX.out.kept hgr5 (fun e => by have := Option.some.inj e; have := EWX.out.o2; have := EWX.out.o3; omega) (fun e => by have := Option.some.inj e; have := RB.out; omega)); have HOY := Aside0.mk (Kd.R_step HOX.out (fun i hi hl => hgr5.block i hl (fun e => by have := Option.some.inj e; omega))); clear hM5 hgr5; go_frame))
          go_roundg (ds.length - (i.toNat + 1))
          case measure => have := HG.out; have := HJL.out; omega
          case rel =>
           have et : (i + 1).toNat = i.toNat + 1 := by have := HP.out; omega
           refine ⟨i + 1, by rw [HW.out], ⟨⟨by have := HP.out; omega, by have := HJL.out; have := HP.out; omega⟩⟩, ⟨by rw [et]; exact Nat.le_refl _⟩, ⟨?_⟩, HOY, RGY, EWY⟩
           rw [et]
           have e := HMY.out
           have hl : i.toNat < rs.length := by rw [HAT.out.1]; exact HJL.out
           have e2 : (rs.take (i.toNat + 1)).reverse = rs.getD i.toNat 0 :: (rs.take i.toNat).reverse := by
            rw [List.take_add_one, List.getElem?_eq_getElem hl, List.reverse_append, List.getD_eq_getElem?_getD, List.getElem?_eq_getElem hl]
            rfl
           rw [e2]
           exact e
         ·have c1 : decide (i < (ds.length : Int)) = false := decide_eq_false p1
          have HE2 : Aside0 (i.toNat = ds.length) := ⟨by have := HJ.out; omega⟩
          clear p1
          go_wp2
          go_roundg cnt1
          case measure => exact Nat.lt_of_lt_of_le HLT.out HC.out
          case rel =>
           have dn := DN.out
           have hxd := HXD.out
           refine ⟨_, cnt1, done ++ [x], ⟨Nat.le_refl _⟩, RG, ⟨List.nodup_append.2 ⟨dn.1, by simp, fun a ha b hb => by obtain rfl := List.mem_singleton.1 hb; exact fun e => hxd (e ▸ ha)⟩, fun y hy => (List.mem_append.1 hy).elim (dn.2.1 y) fun z => by rw [List.mem_singleton.1 z]; exact HX.out, fun y hy => ?_⟩, ⟨?_⟩, EWA⟩
           ·show (left (Lit.int .i64 y) && !(Lit.int .i64 y).sameKey (Lit.int .i64 x)) = true ↔ _
            rw [ea_same, Bool.and_eq_true, dn.2.2 y hy, List.mem_append, List.mem_singleton]
            by_cases e : y = x
            ·simp [e]
            ·simp [e]
           ·have e := HMN.out
            have hl : rs.length = ds.length := HAT.out.1
            have e1 : (done ++ [x]).flatMap f = done.flatMap f ++ (x :: rs) := by
             rw [List.flatMap_append, List.flatMap_singleton, HFX.out]
            rw [HE2.out, ← hl, List.take_length] at e
            rw [e1, List.reverse_append, List.reverse_cons, List.append_assoc, List.length_append, List.length_cons]
            have e3 : (done.flatMap f).length + (rs.length + 1) = (done.flatMap f).length + 1 + rs.length := by omega
            rw [e3]
            exact e
     ·rw [if_neg d3] at H
      cases H
   ·rw [if_neg d1] at H
    have HR := Aside0.mk (Option.some.inj H)
    have d1b : decide (now ≤ wrap64 (mo + 200)) = false := decide_eq_false d1
    clear d1 H
    go_wp2
    go_ret
    exact ⟨by rw [HR.out]; rfl, HB.out⟩
set_option maxHeartbeats 8000000 in
set_option maxRecDepth 100000 in
theorem ea_no3 (k : Nat) (m0 m1 m2 p : Int) (A : Option Addr) (c : Nat) (l : List S56) (fr mo tt : Int) (w : World) (hr0 : Kd.C k56 w A l.length l) (hc0 : l.length ≤ c) (ht : impl_TimedOk.f k m0 m1 m2 p l = some true) (hi : impl_isIn.f m0 m1 m2 [fr, tt] = some true) (h1 : mo < 0) :
  Calls Try.prog 11 #[.agg #[.int .i64 m0, .int .i64 m1, .int .i64 m2, .int .i64 p, .slice A l.length c], .int .i64 fr, .int .i64 mo, .int .i64 tt] w fun e w' => e = .returned (.int .i64 (-1)) ∧ Below w.heap.size w w' := by
 have hu1 := Try.underlying36
 have hu2 := Try.underlying33
 have HR0 := Aside0.mk hr0
 have HC0 := Aside0.mk hc0
 have AT := Aside0.mk ht
 have AI := Aside0.mk hi
 have c1 : decide (mo < 0) = true := decide_eq_true h1
 clear hr0 hc0 ht hi h1
 have HB := Aside0.mk (Below.refl w.heap.size w)
 go_enter Try.func11, Try.ntmps11
 go_wp2_with (first | (go_at_call 38; refine (impl_isIn.calls m0 m1 m2 _ _ [fr, tt] true _ ?side1 ?side2 AI.out).mono ?_; (case side1 => exact ea_two _ fr tt _); (case side2 => exact Nat.le_refl _); rintro e w8 ⟨rfl, hb⟩; replace BK := BK.bb hb; replace HB := HB.s1 GE hb; clear hb) | ((with_reducible refine gw_ ?_); first | (refine box_ (N := 4) (cs := #[.int .i64 m0, .int .i64 m1, .int .i64 m2, .int .i64 p, .slice A l.length c]) (t := 36) ?_; intro gb hg w5 hbox hb; have BK := Aside0.mk hbox; have GE := HB.g0 hg; replace HB := HB.s0 hb; clear hb hbox hg; obtain ⟨z0, z1, z2, z3, z4⟩ := cz5_ BK.out) | (refine gl_ 18 Try.func37 #[.agg #[.int .i64 m0, .int .i64 m1, .int .i64 m2, .int .i64 p, .slice A l.length c]] ?_; (with_reducible refine (impl_TimedOk.calls k m0 m1 m2 p _ _ l true _ ?side1 ?side2 AT.out).mono ?_); (case side1 => exact Kd.C_below HR0.out (hb1_ HB.out GE.out)); (case side2 => exact HC0.out); rintro e w6 ⟨rfl, hb⟩; refine ⟨_, rfl, ?_⟩; replace BK := BK.bb hb; replace HB := HB.s1 GE hb; clear hb; obtain ⟨y0, y1, y2, y3, y4⟩ := cz5_ BK.out)))
 go_ret
 exact ⟨rfl, hb1_ HB.out GE.out⟩
set_option maxHeartbeats 8000000 in
set_option maxRecDepth 100000 in
theorem ea_no4 (k : Nat) (m0 m1 m2 p : Int) (A : Option Addr) (c : Nat) (l : List S56) (fr mo tt : Int) (w : World) (hr0 : Kd.C k56 w A l.length l) (hc0 : l.length ≤ c) (ht : impl_TimedOk.f k m0 m1 m2 p l = some true) (hi : impl_isIn.f m0 m1 m2 [fr, tt] = some true) (h1 : ¬ mo < 0) (h2 : 500 < mo) :
  Calls Try.prog 11 #[.agg #[.int .i64 m0, .int .i64 m1, .int .i64 m2, .int .i64 p, .slice A l.length c], .int .i64 fr, .int .i64 mo, .int .i64 tt] w fun e w' => e = .returned (.int .i64 (-1)) ∧ Below w.heap.size w w' := by
 have hu1 := Try.underlying36
 have hu2 := Try.underlying33
 have HR0 := Aside0.mk hr0
 have HC0 := Aside0.mk hc0
 have AT := Aside0.mk ht
 have AI := Aside0.mk hi
 have c1 : decide (mo < 0) = false := decide_eq_false h1
 have c2 : decide (500 < mo) = true := decide_eq_true h2
 clear hr0 hc0 ht hi h1 h2
 have HB := Aside0.mk (Below.refl w.heap.size w)
 go_enter Try.func11, Try.ntmps11
 go_wp2_with (first | (go_at_call 38; refine (impl_isIn.calls m0 m1 m2 _ _ [fr, tt] true _ ?side1 ?side2 AI.out).mono ?_; (case side1 => exact ea_two _ fr tt _); (case side2 => exact Nat.le_refl _); rintro e w8 ⟨rfl, hb⟩; replace BK := BK.bb hb; replace HB := HB.s1 GE hb; clear hb) | ((with_reducible refine gw_ ?_); first | (refine box_ (N := 4) (cs := #[.int .i64 m0, .int .i64 m1, .int .i64 m2, .int .i64 p, .slice A l.length c]) (t := 36) ?_; intro gb hg w5 hbox hb; have BK := Aside0.mk hbox; have GE := HB.g0 hg; replace HB := HB.s0 hb; clear hb hbox hg; obtain ⟨z0, z1, z2, z3, z4⟩ := cz5_ BK.out) | (refine gl_ 18 Try.func37 #[.agg #[.int .i64 m0, .int .i64 m1, .int .i64 m2, .int .i64 p, .slice A l.length c]] ?_; (with_reducible refine (impl_TimedOk.calls k m0 m1 m2 p _ _ l true _ ?side1 ?side2 AT.out).mono ?_); (case side1 => exact Kd.C_below HR0.out (hb1_ HB.out GE.out)); (case side2 => exact HC0.out); rintro e w6 ⟨rfl, hb⟩; refine ⟨_, rfl, ?_⟩; replace BK := BK.bb hb; replace HB := HB.s1 GE hb; clear hb; obtain ⟨y0, y1, y2, y3, y4⟩ := cz5_ BK.out)))
 go_ret
 exact ⟨rfl, hb1_ HB.out GE.out⟩
theorem impl_EarliestAt.calls (k : Nat) (m0 m1 m2 p : Int) (A : Option Addr) (c : Nat) (l : List S56) (fr mo tt r : Int) (w : World) (hr0 : Kd.C k56 w A l.length l) (hc0 : l.length ≤ c) (h : impl_EarliestAt.f k m0 m1 m2 p l fr mo tt = some r) :
  Calls Try.prog 11 #[.agg #[.int .i64 m0, .int .i64 m1, .int .i64 m2, .int .i64 p, .slice A l.length c], .int .i64 fr, .int .i64 mo, .int .i64 tt] w fun e w' => e = .returned (.int .i64 r) ∧ Below w.heap.size w w' := by
 unfold impl_EarliestAt.f at h
 obtain ⟨t, ht, h⟩ := Option.bind_eq_some_iff.mp h
 cases t with
 | false =>
  rw [if_neg (by simp)] at h
  obtain rfl := Option.some.inj h
  exact ea_no1 k m0 m1 m2 p A c l fr mo tt w hr0 hc0 ht
 | true =>
  rw [if_pos rfl] at h
  obtain ⟨s, hs, h⟩ := Option.bind_eq_some_iff.mp h
  cases s with
  | false =>
   rw [if_neg (by simp)] at h
   obtain rfl := Option.some.inj h
   exact ea_no2 k m0 m1 m2 p A c l fr mo tt w hr0 hc0 ht hs
  | true =>
   rw [if_pos rfl] at h
   by_cases h1 : mo < 0
   ·rw [if_pos h1] at h
    obtain rfl := Option.some.inj h
    exact ea_no3 k m0 m1 m2 p A c l fr mo tt w hr0 hc0 ht hs h1
   ·rw [if_neg h1] at h
    by_cases h2 : mo > 500
    ·rw [if_pos h2] at h
     obtain rfl := Option.some.inj h
     exact ea_no4 k m0 m1 m2 p A c l fr mo tt w hr0 hc0 ht hs h1 h2
    ·rw [if_neg h2] at h
     by_cases h3 : (Lit.int .i64 fr).wf = true ∧ (Lit.int .i64 tt).wf = true
     ·rw [if_pos h3] at h
      exact ea_main k m0 m1 m2 p A c l fr mo tt r w hr0 hc0 ht hs h1 h2 h3.1 h3.2 h
     ·rw [if_neg h3] at h
      cases h

end Go.Proofs.Ytlfomjhjeknnmaa.X
