-- Written by a program of this session (xprint.py), out of the translation and of hand-written contracts. Lean checks it.
import Derived.Test.YtgnnkjgfkdaddaaDoorX0
import Derived.Test.YtgnnkjgfkdaddaaDoorXcgrid
import Derived.Test.YtgnnkjgfkdaddaaDoorXimplCrowdOk
import Derived.Test.YtgnnkjgfkdaddaaDoorXimplMoveOne
import Derived.Test.YtgnnkjgfkdaddaaDoorXimplkeyOf
namespace Go.Proofs.YtgnnkjgfkdaddaaDoor.X
open Go.RowKit Go.Proofs.YtgnnkjgfkdaddaaDoorW.PrintWords Go.Proofs.YtgnnkjgfkdaddaaDoorW.PrintLast Go.Proofs.YtgnnkjgfkdaddaaDoorW.PrintMore
attribute [local go_sem] max2_int min2_int max_two min_two max_three min_three max_four min_four   -- for this text's walks alone
set_option linter.unusedVariables false
set_option linter.unusedSimpArgs false

/-! ### impl_lists: function 13 (by hand) -/
/-! A set of texts, kept as a map from string to bool in which each key's element is true. -/
theorem ls.law : Go.Maps.Keyed Tryd.prog 9 := Go.Maps.string_keyed Tryd.underlying9
theorem ls.zero (w : World) : (zeroValue 4).run Tryd.prog w = .ok (.bool false) w := by kernel_rfl
theorem ls.key (s : ByteArray) (hs : s.size ≤ maxLen) : keyOf Tryd.prog 9 (.string s) = some (.string s.data.toList) := by
 simp [keyOf, Tryd.underlying9, mapKey, hs]
theorem ls.lit (s : List UInt8) : WideAt.IsKeyLit (.string s) := trivial
theorem ls.ne {x y : List UInt8} (h : x ≠ y) : (Lit.string x) ≠ (Lit.string y) := fun z => h (by injection z)
/-- What a datum says of a list's members. -/
structure SMd (D : DataW Unit) (L : List (List UInt8)) : Prop where
 map : Go.Maps.IsMap D
 has : ∀ s : List UInt8, (Go.Maps.has D (.string s) = true ↔ s ∈ L)
 one : ∀ s : List UInt8, s ∈ L → ∀ z, D.atKey (.string s) z = .lit (.bool true)
theorem SMd.empty : SMd (.map []) [] := ⟨Go.Maps.isMap_empty, fun s => by simp [Go.Maps.has], fun s h => by cases h⟩
theorem SMd.put {D : DataW Unit} {L : List (List UInt8)} (h : SMd D L) (x : List UInt8) : SMd (D.put (.string x) (.lit (.bool true))) (x :: L) := by
 refine ⟨h.map.put _ _, fun y => ?_, fun y hm z => ?_⟩
 ·by_cases e : y = x
  ·subst e
   rw [Go.Maps.has_put_same h.map (ls.lit y)]
   simp
  ·rw [Go.Maps.has_put_other (ls.ne e), h.has y, List.mem_cons]
   exact ⟨fun z => .inr z, fun z => z.resolve_left e⟩
 ·by_cases e : y = x
  ·subst e
   exact Go.Maps.atKey_put_same h.map (ls.lit y) _ _
  ·rw [Go.Maps.atKey_put_other (ls.ne e)]
   exact h.one y ((List.mem_cons.1 hm).resolve_left e) z
def SM (w : World) (b n : Nat) (L : List (List UInt8)) : Prop := ∃ D : DataW Unit, w.ownsMap Tryd.prog 9 (plainElem Tryd.prog 4) b n D ∧ SMd D L ∧ Go.Maps.Tidy D ∧ Go.Maps.size D = L.length
theorem SM.kept {w w' : World} {b n : Nat} {L : List (List UInt8)} {row : Option Nat} (h : SM w b n L) (hg : w.grownBy w' row) (hne : some b ≠ row) : SM w' b n L := by
 obtain ⟨D, h1, h2⟩ := h
 exact ⟨D, h1.kept hg hne, h2⟩
theorem SM.below {w w' : World} {b n : Nat} {L : List (List UInt8)} (h : SM w b n L) (hb : Below w.heap.size w w') : SM w' b n L := h.kept (grown_of_below hb none) (by simp)
theorem SM.lt {w : World} {b n : Nat} {L : List (List UInt8)} (h : SM w b n L) : b < w.heap.size := by
 obtain ⟨D, h1, _⟩ := h
 exact h1.lt
theorem ls.inv {P : Program} {e : TypeId} (he : P.underlying e = some .bool) {v : Value} {z : DataW Unit × List MemPlace} (h : plainElem P e v = some z) : ∃ c, v = .bool c ∧ z = (.lit (.bool c), []) := by
 unfold plainElem at h
 rw [he] at h
 cases v <;> simp at h
 exact ⟨_, rfl, h.symm⟩
section
variable {ops : Array Oper} {rest : List Oper} {o : Oper} {a : Act} {Q : Exit → Act → World → Prop}
theorem sm_make (w : World) (hg : o.guard = none) (hop : o.op = Op.makeMap 40 none)
  (hK : ∀ b w', b = w.heap.size → SM w' b 0 [] → Below w.heap.size w w' → wpList Tryd.prog ops Q rest (a.put o.dst (.map (some b))) w') : wpList Tryd.prog ops Q (o :: rest) a w := by
 refine wpList_plain hg fun K' hK' => ?_
 have hmm := @run_makeMap Tryd.prog
 unfold Oper.wp
 simp [execOp, hop, hmm, Result.andThen]
 exact hK' _ _ (hK _ _ rfl ⟨_, World.ownsMap_made _ _ _ _, SMd.empty, Go.Maps.tidy_empty, rfl⟩ ((Below.refl _ _).alloc (Nat.le_refl _) _))
theorem sm_store (w : World) (hg : o.guard = none) (m x v : Operand) (hop : o.op = Op.mapUpdate 40 m x v ∨ o.op = Op.insert 40 m x v) (b n : Nat) (L : List (List UInt8)) (hm : a.eval m = .map (some b)) (hown : SM w b n L) (hn : n < maxLen) (c : ByteArray) (hx : a.eval x = .string c) (hv : a.eval v = .bool true) (hc : c.data.toList ∉ L) (hs : c.size ≤ maxLen)
  (hK : ∀ w', SM w' b (n + 1) (c.data.toList :: L) → w.grownBy w' (some b) → wpList Tryd.prog ops Q rest (a.put o.dst undef) w') : wpList Tryd.prog ops Q (o :: rest) a w := by
 refine wpList_plain hg fun K' hK' => ?_
 obtain ⟨D, h1, h2, h3, h4⟩ := hown
 obtain ⟨w', hrun, r1, r2⟩ := h1.update ls.law Tryd.underlying40 hn (ls.key c hs) (plainElem_bool Tryd.underlying4 true)
 have hsz : Go.Maps.size (D.put (.string c.data.toList) (.lit (.bool true))) = (c.data.toList :: L).length := by
  rw [Go.Maps.size_put h3, h4, if_neg (fun z => hc ((h2.has c.data.toList).1 z))]
  rfl
 unfold Oper.wp
 rcases hop with hop | hop
 ·simp [execOp, hop, hm, hx, hv, hrun, Result.andThen]
  exact hK' _ _ (hK w' ⟨_, r1, h2.put c.data.toList, h3.put (ls.lit c.data.toList) _, hsz⟩ r2)
 ·simp [execOp, hop, hm, hx, hv, hrun, Result.andThen]
  exact hK' _ _ (hK w' ⟨_, r1, h2.put c.data.toList, h3.put (ls.lit c.data.toList) _, hsz⟩ r2)
/-- 'm[k]', an operation that may bear a guard. -/
theorem sm_look (w : World) (hgw : Region.wanted o (yielded ops a.tmps) = true) (m x : Operand) (hop : o.op = Op.lookup 40 m x false) (b n : Nat) (L : List (List UInt8)) (hm : a.eval m = .map (some b)) (hown : SM w b n L) (c : ByteArray) (hx : a.eval x = .string c) (hs : c.size ≤ maxLen) (r : Bool) (hr : decide (c.data.toList ∈ L) = r)
  (hK : wpList Tryd.prog ops Q rest (a.put o.dst (.bool r)) w) : wpList Tryd.prog ops Q (o :: rest) a w := by
 refine BigFrame.wpList_want hgw fun K' hK' => ?_
 obtain ⟨D, h1, h2, _⟩ := hown
 obtain ⟨v, ps, hrun, hv⟩ := h1.lookup ls.law Tryd.underlying40 (ls.zero w) (plainElem_bool Tryd.underlying4 false) (ls.key c hs)
 obtain ⟨c', rfl, hc⟩ := ls.inv Tryd.underlying4 hv
 have e : c' = r := by
  have e1 : D.atKey (.string c.data.toList) (.lit (.bool false)) = .lit (.bool c') := congrArg Prod.fst hc
  by_cases q : c.data.toList ∈ L
  ·rw [h2.one c.data.toList q] at e1
   rw [← hr, decide_eq_true q]
   exact (Lit.bool.inj (DataW.lit.inj e1)).symm
  ·have : Go.Maps.has D (.string c.data.toList) = false := by
    cases z : Go.Maps.has D (.string c.data.toList) with
    | false => rfl
    | true => exact absurd ((h2.has c.data.toList).1 z) q
   rw [Go.Maps.atKey_of_not_has this] at e1
   rw [← hr, decide_eq_false q]
   exact (Lit.bool.inj (DataW.lit.inj e1)).symm
 subst e
 unfold Oper.wp
 simp [execOp, hop, hm, hx, hrun, Result.andThen]
 exact hK' _ _ hK
theorem sm_len (w : World) (hg : o.guard = none) (m : Operand) (hop : o.op = Op.call { callee := Callee.builtin Builtin.len, args := #[m], argTypes := #[40] }) (b n : Nat) (L : List (List UInt8)) (hm : a.eval m = .map (some b)) (hown : SM w b n L)
  (hK : wpList Tryd.prog ops Q rest (a.put o.dst (.int .i64 (L.length : Int))) w) : wpList Tryd.prog ops Q (o :: rest) a w := by
 obtain ⟨D, h1, h2, h3, h4⟩ := hown
 exact wpList_len_own w hg m 40 hop 9 4 Tryd.underlying40 _ b n D hm h1 (by rw [h4]; exact hK)
end
/-- A queue of rows: its cells are the call's own, the rows are only read. -/
structure QS (w0 W : World) (b mb : Nat) (v : Value) (q : List (List Int)) (D : Nat → Prop) (vs : List (List Value)) : Prop where
 own : (Kd.raw 1).Q 26 W w0.heap.size (fun k => mb < k ∧ k ≠ b) v vs
 len : vs.length = q.length
 row : ∀ (j : Nat) (x : List Int), q[j]? = some x → ∃ (A : Option Addr) (c : Nat), vs[j]? = some [Value.slice A x.length c] ∧ x.length ≤ c ∧ Kd.F (Kd.int .i64) W D A x.length x
 apart : ∀ k, D k → k ≠ mb ∧ k ≠ b ∧ some k ≠ v.ownBlock
/-- A row that is only read, apart from the maze, the set and the queue. -/
structure NS (W : World) (b mb : Nat) (v vn : Value) (x : List Int) (A : Option Addr) (c : Nat) (D : Nat → Prop) : Prop where
 val : vn = .slice A x.length c
 cap : x.length ≤ c
 row : Kd.F (Kd.int .i64) W D A x.length x
 apart : ∀ k, D k → k ≠ mb ∧ k ≠ b ∧ some k ≠ v.ownBlock
section
variable {w0 W W' : World} {b mb g off n c : Nat} {v vn : Value} {q : List (List Int)} {x : List Int} {D Dn : Nat → Prop} {vs : List (List Value)} {A : Option Addr}
theorem QS.step (h : QS w0 W b mb v q D vs) (hm : ∀ k, k ≠ mb → k ≠ b → k < W.heap.size → W'.heap[k]? = W.heap[k]?) : QS w0 W' b mb v q D vs :=
 ⟨Kd.Q_step h.own (fun k hk hl => hm k (by have := hk.1; omega) hk.2 hl), h.len, fun j x hx => by
  obtain ⟨A, c, h1, h2, h3⟩ := h.row j x hx
  exact ⟨A, c, h1, h2, Kd.F_step h3 (fun k hk hl => hm k (h.apart k hk).1 (h.apart k hk).2.1 hl)⟩, h.apart⟩
theorem NS.step (h : NS W b mb v vn x A c D) (hm : ∀ k, k ≠ mb → k ≠ b → k < W.heap.size → W'.heap[k]? = W.heap[k]?) : NS W' b mb v vn x A c D :=
 ⟨h.val, h.cap, Kd.F_step h.row (fun k hk hl => hm k (h.apart k hk).1 (h.apart k hk).2.1 hl), h.apart⟩
theorem NS.reads (h : NS W b mb v vn x A c D) : Kd.C (Kd.int .i64) W A x.length x := Kd.F_now h.row
theorem NS.ofR (hR : (Kd.int .i64).R 3 W' W.heap.size (fun _ => True) vn x) (hb : b < W.heap.size) (hm : mb < W.heap.size) (hv : ∀ k, v.ownBlock = some k → k < W.heap.size) : ∃ A c D, NS W' b mb v vn x A c D := by
 obtain ⟨A, c, rfl⟩ := Kd.R_slice hR
 refine ⟨A, c, _, rfl, (Kd.R_reads' hR).2.1, Kd.R_F (Kd.R_bound hR), fun k hk => ?_⟩
 have := hk.2.1
 exact ⟨by omega, by omega, fun e => by have := hv k e.symm; omega⟩
theorem QS.head (h : QS w0 W b mb v (x :: q) D vs) : ∃ (g off cc : Nat) (A : Option Addr) (cx : Nat), v = .slice (some ⟨g, off, none⟩) (x :: q).length cc ∧ W.cell? ⟨g, off, none⟩ = some (.slice A x.length cx) ∧ x.length ≤ cx ∧ Kd.C (Kd.int .i64) W A x.length x := by
 have hl := h.len
 obtain ⟨g, off, cc, rfl, _, _, _⟩ := Kd.Q_form h.own (by rw [hl]; simp)
 obtain ⟨A, cx, h1, h2, h3⟩ := h.row 0 x rfl
 obtain ⟨cs, hcl, hM, hcc, _⟩ := Kd.Q_elem h.own [] 0 (by omega) (by rw [hl]; simp)
 have e : cs = [.slice A x.length cx] := by
  have := hM.1
  rw [this]
  show vs.getD 0 [] = _
  rw [List.getD_eq_getElem?_getD, h1]
  rfl
 subst e
 refine ⟨g, off, cc, A, cx, by rw [hl], ?_, h2, Kd.F_now h3⟩
 have := hcc 0 _ rfl
 simpa using this
theorem QS.drop (h : QS w0 W b mb (.slice (some ⟨g, off, none⟩) n c) (x :: q) D vs) : QS w0 W b mb (.slice (if c = 1 then some ⟨g, off, none⟩ else (some (⟨g, off, none⟩ : Addr)).map (·.add (1 * 1))) (n - 1) (c - 1)) q D (vs.drop 1) := by
 have hl := h.len
 have hd := Kd.Q_drop h.own (k := 1) (by rw [hl]; simp)
 refine ⟨hd, by rw [List.length_drop, hl]; simp, fun j y hj => ?_, fun k hk => ?_⟩
 ·obtain ⟨A, cx, h1, h2, h3⟩ := h.row (j + 1) y (by simpa using hj)
  refine ⟨A, cx, ?_, h2, h3⟩
  rw [List.getElem?_drop, Nat.add_comm]
  exact h1
 ·have h1 := h.apart k hk
  refine ⟨h1.1, h1.2.1, ?_⟩
  split
  ·exact h1.2.2
  ·simpa [Value.ownBlock, Addr.add] using h1.2.2
theorem QS.ltq (h : QS w0 W b mb v q D vs) : ∀ k, v.ownBlock = some k → k < W.heap.size := Kd.Q_lt h.own
theorem QS.okq (h : QS w0 W b mb v q D vs) : ∀ k, v.ownBlock = some k → mb < k ∧ k ≠ b := h.own.1
theorem qs_append {ops : Array Oper} {rest : List Oper} {o : Oper} {a : Act} {Q : Exit → Act → World → Prop} (hgd : o.guard = none) (s t : Operand) (ho : o.op = .call { callee := .builtin .append, args := #[s, t], argTypes := #[37, 37] })
  (hs : a.eval s = v) (ht : a.eval t = .slice (some ⟨W.heap.size, 0, none⟩) 1 1) (h : QS w0 W b mb v q D vs) (hn : NS W b mb v vn x A c Dn) (HB : Below w0.heap.size w0 W) (hb : b < W.heap.size) (hm : mb < W.heap.size) (hl : q.length < 1000000)
  (hK : ∀ v1 w1, (∃ D1 vs1, QS w0 w1 b mb v1 (q ++ [x]) D1 vs1) → Below w0.heap.size w0 w1 → W.grownBy w1 v.ownBlock → wpList Tryd.prog ops Q rest (a.put o.dst v1) w1) : wpList Tryd.prog ops Q (o :: rest) a (W.alloc (.cells [vn].toArray 26)) := by
 have h1 := hn.val
 have hone : ∀ u ∈ [vn], u.oneCell' = true := by
  intro u hu
  rw [List.mem_singleton.1 hu, h1]
  rfl
 refine Kd.Q_append (Kd.raw 1) (w0 := w0) w0.heap.size hgd s t 37 26 (.slice none 0 0) 24 ho Tryd.underlying37 info26 rfl (by decide) (by omega) v vs [vn] [vn] (fun k => mb < k ∧ k ≠ b) (fun _ => False) hs ht ⟨rfl, rfl, hone⟩ (fun _ hk => hk.elim) (fun k hk => ⟨by omega, by omega⟩) h.own HB HB.size (by have := h.len; omega) ?_
 intro v1 w1 hq hb1 hg hat
 refine hK v1 w1 ⟨fun k => (D k ∨ Dn k) ∧ k < W.heap.size, _, hq, by rw [List.length_append, List.length_append, h.len]; rfl, fun j y hj => ?_, fun k hk => ?_⟩ hb1 hg
 ·by_cases hjl : j < q.length
  ·rw [List.getElem?_append_left hjl] at hj
   obtain ⟨A', cx, r1, r2, r3⟩ := h.row j y hj
   refine ⟨A', cx, by rw [List.getElem?_append_left (by rw [h.len]; exact hjl)]; exact r1, r2, ?_⟩
   exact Kd.F_mono (Kd.F_grown (Kd.F_bound r3) hg (fun k hk => (h.apart k hk.1).2.2)) (fun k hk => ⟨.inl hk.1, hk.2⟩)
  ·rw [List.getElem?_append_right (by omega)] at hj
   have hj0 : j - q.length = 0 := by
    have := (List.getElem?_eq_some_iff.1 hj).1
    simp at this
    exact this
   rw [hj0] at hj
   obtain rfl : x = y := by simpa using hj
   refine ⟨A, c, ?_, hn.cap, Kd.F_mono (Kd.F_grown (Kd.F_bound hn.row) hg (fun k hk => (hn.apart k hk.1).2.2)) (fun k hk => ⟨.inr hk.1, hk.2⟩)⟩
   rw [List.getElem?_append_right (by rw [h.len]; omega), h.len, hj0, h1]
   rfl
 ·have h3 : k ≠ mb ∧ k ≠ b ∧ some k ≠ v.ownBlock := hk.1.elim (h.apart k) (hn.apart k)
  refine ⟨h3.1, h3.2.1, ?_⟩
  rcases hat with e | ⟨b', e, hle⟩
  ·rw [e]; exact h3.2.2
  ·rw [e]
   intro z
   have := Option.some.inj z
   have := hk.2
   omega
theorem QS.first (h : QS w0 W b mb v q D vs) (hq : q = x :: q.tail) : ∃ (g off cc : Nat) (A : Option Addr) (cx : Nat), v = .slice (some ⟨g, off, none⟩) q.length cc ∧ W.cell? ⟨g, off, none⟩ = some (.slice A x.length cx) ∧ x.length ≤ cx ∧ Kd.C (Kd.int .i64) W A x.length x := by
 have h' := h
 rw [hq] at h'
 obtain ⟨g, off, cc, A, cx, e, r⟩ := QS.head h'
 rw [← hq] at e
 exact ⟨g, off, cc, A, cx, e, r⟩
end
def lst.l1 : Nat → Int → Int → Int → Int → List (List UInt8) → Nat → List (List Int) → Int → Option (List (List UInt8) × Nat × List (List Int))
 | 0, _, _, _, _, _, _, _, _ => none
 | k + 1, m0, m1, o, N, L, n, q, i => if i < wrap64 (4 * N) then (if 0 < q.length then ((impl_MoveOne.f k m0 m1 o (q.headD []) (wrap64 (Int.tdiv i 4)) (Int.tmod i 4)).bind fun R => if R.2 = true then ((impl_keyOf.f k R.1).bind fun key => if key.size ≤ maxLen then (if key.data.toList ∈ L then lst.l1 k m0 m1 o N L n q (wrap64 (i + 1)) else (if n < 1000000 then (if q.length < 1000000 then lst.l1 k m0 m1 o N (key.data.toList :: L) (n + 1) (q ++ [R.1]) (wrap64 (i + 1)) else none) else none)) else none) else lst.l1 k m0 m1 o N L n q (wrap64 (i + 1))) else none) else some (L, n, q)
def lst.l0 : Nat → Int → Int → Int → Int → List (List UInt8) → Nat → List (List Int) → Option (List (List UInt8) × Nat)
 | 0, _, _, _, _, _, _, _ => none
 | k + 1, m0, m1, o, N, L, n, q => if 0 < q.length then ((lst.l1 k m0 m1 o N L n q 0).bind fun R => if 0 < R.2.2.length then lst.l0 k m0 m1 o N R.1 R.2.1 R.2.2.tail else none) else some (L, n)
def lst.f (k : Nat) (m0 m1 o : Int) (l : List Int) : Option (Option (List (List UInt8))) := (impl_CrowdOk.f m0 m1 o l).bind fun t => if t = true then (if (l.length : Int) > 3 then some none else ((impl_CountCells.f m0 m1).bind fun c => if c > 9 then some none else ((impl_keyOf.f k l).bind fun key => if key.size ≤ maxLen then ((lst.l0 k m0 m1 o (l.length : Int) [key.data.toList] 1 [l]).bind fun R => some (some R.1)) else none))) else some none
theorem lst.mono1 : ∀ (k : Nat) (m0 m1 o N : Int) (L : List (List UInt8)) (n : Nat) (q : List (List Int)) (i : Int), LeO (lst.l1 k m0 m1 o N L n q i) (lst.l1 (k + 1) m0 m1 o N L n q i)
 | 0, _, _, _, _, _, _, _, _ => fun r h => by simp [lst.l1] at h
 | k + 1, m0, m1, o, N, L, n, q, i => by
  have ih := lst.mono1 k
  unfold lst.l1
  exact LeO.ite (LeO.ite (LeO.bind (impl_MoveOne.mono _ _ _ _ _ _ _) (fun R => LeO.ite (LeO.bind (impl_keyOf.mono _ _) (fun key => LeO.ite (LeO.ite (ih _ _ _ _ _ _ _ _) (LeO.ite (LeO.ite (ih _ _ _ _ _ _ _ _) (LeO.refl _)) (LeO.refl _))) (LeO.refl _))) (ih _ _ _ _ _ _ _ _))) (LeO.refl _)) (LeO.refl _)
theorem lst.mono0 : ∀ (k : Nat) (m0 m1 o N : Int) (L : List (List UInt8)) (n : Nat) (q : List (List Int)), LeO (lst.l0 k m0 m1 o N L n q) (lst.l0 (k + 1) m0 m1 o N L n q)
 | 0, _, _, _, _, _, _, _ => fun r h => by simp [lst.l0] at h
 | k + 1, m0, m1, o, N, L, n, q => by
  have ih := lst.mono0 k
  unfold lst.l0
  exact LeO.ite (LeO.bind (lst.mono1 _ _ _ _ _ _ _ _ _) (fun R => LeO.ite (ih _ _ _ _ _ _ _) (LeO.refl _))) (LeO.refl _)
theorem lst.mono : ∀ (m0 m1 o : Int) (l : List Int) (k : Nat), LeO (lst.f k m0 m1 o l) (lst.f (k + 1) m0 m1 o l) := fun m0 m1 o l k => by
 unfold lst.f
 exact LeO.bind (LeO.refl _) (fun t => LeO.ite (LeO.ite (LeO.refl _) (LeO.bind (LeO.refl _) (fun c => LeO.ite (LeO.refl _) (LeO.bind (impl_keyOf.mono _ _) (fun key => LeO.ite (LeO.bind (lst.mono0 _ _ _ _ _ _ _ _) (fun R => LeO.refl _)) (LeO.refl _)))))) (LeO.refl _))
/-- What stands in memory while lists are searched: the maze, the set, the queue. -/
structure LS (w0 W : World) (mb b : Nat) (m0 m1 o : Int) (n : Nat) (L : List (List UInt8)) (v : Value) (q : List (List Int)) : Prop where
 M : W.heap[mb]? = some (.cells #[.int .i64 m0, .int .i64 m1, .int .i64 o] 30 (0, 0))
 E : SM W b n L
 Q : ∃ D vs, QS w0 W b mb v q D vs
 bel : Below w0.heap.size w0 W
 ge : w0.heap.size ≤ mb
 o1 : mb < b
section
variable {w0 W W' : World} {b mb n : Nat} {m0 m1 o : Int} {L : List (List UInt8)} {v : Value} {q : List (List Int)}
theorem LS.mlt (h : LS w0 W mb b m0 m1 o n L v q) : mb < W.heap.size := blk_lt h.M
theorem LS.blt (h : LS w0 W mb b m0 m1 o n L v q) : b < W.heap.size := h.E.lt
theorem LS.c (h : LS w0 W mb b m0 m1 o n L v q) : W.cell? ⟨mb, 0, none⟩ = some (.int .i64 m0) ∧ W.cell? ⟨mb, 1, none⟩ = some (.int .i64 m1) ∧ W.cell? ⟨mb, 2, none⟩ = some (.int .i64 o) := ⟨(blk_cell h.M 0).trans rfl, (blk_cell h.M 1).trans rfl, (blk_cell h.M 2).trans rfl⟩
theorem LS.below (h : LS w0 W mb b m0 m1 o n L v q) (hb : Below W.heap.size W W') : LS w0 W' mb b m0 m1 o n L v q := by
 obtain ⟨D, vs, hq⟩ := h.Q
 exact ⟨blk_below h.M hb, h.E.below hb, ⟨D, vs, hq.step (fun k _ _ hl => hb.block k hl)⟩, below_step h.bel hb, h.ge, h.o1⟩
theorem LS.drewN (h : LS w0 W mb b m0 m1 o n L v q) (m : Nat) : LS w0 (W.drewN m) mb b m0 m1 o n L v q := h.below (pw_below_drewN (Below.refl _ _) m)
theorem LS.drew (h : LS w0 W mb b m0 m1 o n L v q) : LS w0 W.drew mb b m0 m1 o n L v q := h.below (below_drew1 (Below.refl _ _))
theorem lst.bel (hB : Below w0.heap.size w0 W) {row : Option Nat} (hg : W.grownBy W' row) (hj : ∀ j, row = some j → w0.heap.size ≤ j) : Below w0.heap.size w0 W' :=
 ⟨hg.os.trans hB.os, hg.tape.trans hB.tape, hg.output.trans hB.output, Nat.le_trans hB.size hg.size, fun i hi => (hg.block i (Nat.lt_of_lt_of_le hi hB.size) (fun e => by have := hj i e.symm; omega)).trans (hB.block i hi)⟩
theorem LS.put (h : LS w0 W mb b m0 m1 o n L v q) (hg : W.grownBy W' (some b)) {n' : Nat} {L' : List (List UInt8)} (hE : SM W' b n' L') : LS w0 W' mb b m0 m1 o n' L' v q := by
 obtain ⟨D, vs, hq⟩ := h.Q
 have := h.o1; have := h.ge
 exact ⟨blk_grown h.M hg (fun e => by have := Option.some.inj e; omega), hE, ⟨D, vs, hq.step (fun k _ hk hl => hg.block k hl (fun e => hk (Option.some.inj e)))⟩, lst.bel h.bel hg (fun j e => by have := Option.some.inj e; omega), h.ge, h.o1⟩
theorem LS.push (h : LS w0 W mb b m0 m1 o n L v q) {v1 : Value} {q1 : List (List Int)} (hg : W.grownBy W' v.ownBlock) (hb : Below w0.heap.size w0 W') (hQ : ∃ D vs, QS w0 W' b mb v1 q1 D vs) : LS w0 W' mb b m0 m1 o n L v1 q1 := by
 obtain ⟨D, vs, hq⟩ := h.Q
 have := h.o1; have := h.ge
 exact ⟨blk_grown h.M hg (fun e => by have := hq.okq mb e.symm; omega), h.E.kept hg (fun e => (hq.okq b e.symm).2 rfl), hQ, hb, h.ge, h.o1⟩
theorem LS.slice (h : LS w0 W mb b m0 m1 o n L v q) : ∃ A c, v = .slice A q.length c := by
 obtain ⟨D, vs, hq⟩ := h.Q
 obtain ⟨A, c, e, _⟩ := Kd.Q_slice hq.own
 exact ⟨A, c, by rw [e, hq.len]⟩
theorem LS.cut {g off m c : Nat} (h : LS w0 W mb b m0 m1 o n L (.slice (some ⟨g, off, none⟩) m c) q) (hq : 0 < q.length) : LS w0 W mb b m0 m1 o n L (.slice (if c = 1 then some ⟨g, off, none⟩ else (some (⟨g, off, none⟩ : Addr)).map (·.add (1 * 1))) (m - 1) (c - 1)) q.tail := by
 obtain ⟨D, vs, hQ⟩ := h.Q
 cases q with
 | nil => cases hq
 | cons x q => exact ⟨h.M, h.E, ⟨D, _, hQ.drop⟩, h.bel, h.ge, h.o1⟩
theorem LS.first (h : LS w0 W mb b m0 m1 o n L v q) (hq : 0 < q.length) : ∃ (g off cc : Nat) (A : Option Addr) (cx : Nat), v = .slice (some ⟨g, off, none⟩) q.length cc ∧ W.cell? ⟨g, off, none⟩ = some (.slice A (q.headD []).length cx) ∧ (q.headD []).length ≤ cx ∧ Kd.C (Kd.int .i64) W A (q.headD []).length (q.headD []) := by
 obtain ⟨D, vs, hQ⟩ := h.Q
 exact hQ.first (by cases q with | nil => cases hq | cons x q => rfl)
end
theorem LS.ltq {w0 W : World} {b mb n : Nat} {m0 m1 o : Int} {L : List (List UInt8)} {v : Value} {q : List (List Int)} (h : LS w0 W mb b m0 m1 o n L v q) : ∀ k, v.ownBlock = some k → k < W.heap.size := by
 obtain ⟨D, vs, hQ⟩ := h.Q
 exact hQ.ltq
theorem lst.at_keep {W W' : World} {ad : Addr} {v : Value} (hb : Below W.heap.size W W') (h : W.cell? ad = some v) : W'.cell? ad = some v := (hb.cell (World.block_lt_of_cell? _ _ h)).trans h
theorem QS.init {w0 W : World} {b mb : Nat} {v : Value} {A : Option Addr} {c : Nat} {l : List Int} (hR : (Kd.raw 1).R 26 W w0.heap.size (fun k => mb < k ∧ k ≠ b) v [[.slice A l.length c]]) (hC : Kd.C (Kd.int .i64) w0 A l.length l) (hc : l.length ≤ c) (hB : Below w0.heap.size w0 W) (ge : w0.heap.size ≤ mb) (o1 : mb < b) : QS w0 W b mb v [l] (fun k => k < w0.heap.size) [[.slice A l.length c]] := by
 refine ⟨Kd.Q_of_R hR, rfl, fun j x hj => ?_, fun k hk => ⟨by omega, by omega, fun e => ?_⟩⟩
 ·cases j with
  | succ j => simp at hj
  | zero =>
   obtain rfl : l = x := by simpa using hj
   exact ⟨A, c, rfl, hc, Kd.F_below (Kd.C_F (Kd.heap_int .i64) hC) hB⟩
 ·have := Kd.R_base hR k e.symm
  omega
theorem lst.cut (A : Option Addr) (n c : Nat) (hn : 1 ≤ n) : ∃ A', (∀ W, (Instr.slice 37 (.slice A n c) (some (.int .i64 1)) none none).run Tryd.prog W = .ok (.slice A' (n - 1) (c - 1)) W) ∧ A' = (if c = 1 then A else A.map (·.add (1 * 1))) := by
 obtain ⟨ti, hi1⟩ : ∃ i, Tryd.prog.info? 26 = some i := Option.isSome_iff_exists.1 (by kernel_rfl)
 have hi2 : (Tryd.prog.info? 26).map (·.size) = some 1 := by kernel_rfl
 rw [hi1] at hi2
 replace hi2 := Option.some.inj hi2
 exact ⟨_, cut_from (P := Tryd.prog) 37 26 .i64 Tryd.underlying37 hi1 1 hi2 A n c 1 (by omega) (by omega), rfl⟩
def lst.T10 : Bool × List (List Nat × List Nat) := (true, [([], []), ([], []), ([1], [1]), ([2], [2]), ([], []), ([4], [4]), ([], []), ([6], [6]), ([0, 3, 5, 7], [0, 3, 5, 7]), ([8], [8]), ([9], [9]), ([9], [9]), ([10, 8, 0, 1, 2, 3, 4, 5, 6, 7, 8, 9, 10], [10]), ([11, 12, 0, 1, 2, 3, 4, 5, 6, 7, 8, 9, 10, 11, 12], [11])])
def lst.B10 : List Nat := [0, 0, 2, 6, 0, 16, 0, 64, 255, 511, 1023, 1023, 2047, 8191]
theorem lst.tab10 : rtab .any (opsOf Tryd.f13 10) = lst.T10 := by kernel_rfl
theorem lst.bits10 : waitsOk lst.T10.2 lst.B10 = true := by kernel_rfl
set_option maxHeartbeats 8000000 in
set_option maxRecDepth 100000 in
theorem lst_main (k : Nat) (m0 m1 o : Int) (A : Option Addr) (c : Nat) (l : List Int) (cc : Int) (key : ByteArray) (Lf : List (List UInt8)) (nf : Nat) (w : World) (hr0 : Kd.C (Kd.int .i64) w A l.length l) (hc0 : l.length ≤ c) (hok : impl_CrowdOk.f m0 m1 o l = some true) (h3 : ¬ (l.length : Int) > 3) (hcc : impl_CountCells.f m0 m1 = some cc) (h9 : ¬ cc > 9) (hkey : impl_keyOf.f k l = some key) (hks : key.size ≤ maxLen) (h : lst.l0 k m0 m1 o (l.length : Int) [key.data.toList] 1 [l] = some (Lf, nf)) :
  Calls Tryd.prog 13 #[.agg #[.int .i64 m0, .int .i64 m1, .int .i64 o], .slice A l.length c] w fun e w' => (∃ b, e = .returned (.map (some b)) ∧ SM w' b nf Lf) ∧ Below w.heap.size w w' := by
 have hu1 := Tryd.underlying30
 have hu2 := Tryd.underlying28
 have hu3 := Tryd.underlying26
 have hu4 := Tryd.underlying37
 have hu5 := Tryd.underlying40
 have HR0 := Aside0.mk hr0
 have HC0 := Aside0.mk hc0
 have HB := Aside0.mk (Below.refl w.heap.size w)
 have HOK := Aside0.mk hok
 have HCC := Aside0.mk hcc
 have HKEY := Aside0.mk hkey
 have HKS := Aside0.mk hks
 have H' := Aside0.mk h
 have h3b : decide ((l.length : Int) > 3) = false := decide_eq_false h3
 have h9b : decide (cc > 9) = false := decide_eq_false h9
 clear hr0 hc0 hok hcc hkey hks h h3 h9
 go_enter Tryd.func13, Tryd.ntmps13
 go_wp2_with (first | ((with_reducible refine gw_ ?_); first | (refine box_ (N := 2) (cs := #[.int .i64 m0, .int .i64 m1, .int .i64 o]) (t := 30) ?_; intro mb hg w2 hbox hb; have BK := Aside0.mk (hbox); have GE := HB.g0 hg; replace HB := HB.s0 hb; clear hb hbox hg; obtain ⟨z0, z1, z2⟩ := cz3_ BK.out; obtain ⟨y0, y1, y2⟩ := fz3_ BK.out) |
  (refine gl_ 12 Tryd.func21 #[.agg #[.int .i64 m0, .int .i64 m1, .int .i64 o], .slice A l.length c] ?_; (with_reducible refine (impl_CrowdOk.calls m0 m1 o A c l true _ (Kd.C_below HR0.out HB.out) HC0.out HOK.out).mono ?_); rintro e w3 ⟨rfl, hb⟩; refine ⟨_, rfl, ?_⟩; replace BK := BK.bb hb; replace HB := HB.s1 GE hb; clear hb z0 z1 z2 y0 y1 y2; obtain ⟨z0, z1, z2⟩ := cz3_ BK.out; obtain ⟨y0, y1, y2⟩ := fz3_ BK.out) |
  (refine sm_make _ rfl rfl ?_; intro b w5 hbn hM0 hb; have O1 := Aside0.mk (show mb < b from by rw [hbn]; exact blk_lt BK.out); have EM := Aside0.mk hM0; replace BK := BK.bb hb; replace HB := HB.s1 GE hb; clear hb hbn hM0; go_frame) |
  (refine gl_ 27 Tryd.func23 #[.slice A l.length c] ?_; (with_reducible refine (impl_keyOf.calls k A c l key _ (Kd.C_below HR0.out HB.out) HC0.out HKEY.out).mono ?_); rintro e w6 ⟨rfl, hd⟩; refine ⟨_, rfl, ?_⟩; have hb := hd.below; replace BK := BK.bb hb; replace EM := Aside0.mk (EM.out.below hb); replace HB := HB.s1 GE hb; clear hd hb) |
  (refine sm_store _ rfl _ _ _ (Or.inr rfl) b 0 [] rfl EM.out (by decide) key rfl rfl (by simp) HKS.out ?_; intro w7 hM1 hgr; replace EM := Aside0.mk hM1; replace BK := Aside0.mk (blk_grown BK.out hgr (fun e => by have := Option.some.inj e; have := O1.out; omega)); replace HB := Aside0.mk (lst.bel HB.out hgr (fun j e => by have := Option.some.inj e; have := GE.out; have := O1.out; omega)); clear hM1 hgr; go_frame) |
  ((with_reducible refine gate_dst (N := 30) rfl ?_); refine Kd.R_lit (w0 := w) (Kd.raw 1) w.heap.size 26 ?hg (N := 30) ?hd (xs := ([[.slice A l.length c]] : List (List Value))) (inner := [.slice A l.length c]) (ok := fun j => mb < j ∧ j ≠ b) (okp := fun _ => False) ?hr ?hp (fun _ hk => hk.elim) ⟨blk_lt BK.out, fun e => by have := EM.out.lt; omega⟩ HB.out HB.out.size (by simp) ?_; (case hd => rfl); (case hg => rfl); (case hr => first | (go_simp; done) | (go_simp; rfl)); (case hp => exact (Reps.one (show Kd.M (Kd.raw 1) _ _ _ [.slice A l.length c] [.slice A l.length c] from ⟨rfl, rfl, fun u hu => by rw [List.mem_singleton.1 hu]; rfl⟩) (Reps.none _ _))); intro v30 w8 hq hb hg_ hnew_; have HQ := Aside0.mk (QS.init hq HR0.out HC0.out hb GE.out O1.out); replace BK := Aside0.mk (blk_grown BK.out hg_ (by simp)); replace EM := Aside0.mk (EM.out.kept hg_ (by simp)); replace HB := Aside0.mk hb; clear hq hb hg_ hnew_) | fail) |
  (go_at_call 22; (with_reducible refine (impl_CountCells.calls m0 m1 cc _ HCC.out).mono ?_); rintro e w4 ⟨rfl, hb⟩; replace BK := BK.bb hb; replace HB := HB.s1 GE hb; clear hb z0 z1 z2 y0 y1 y2) | fail)
 have S0 := Aside0.mk (LS.mk (w0 := w) BK.out EM.out ⟨_, _, HQ.out⟩ HB.out GE.out O1.out)
 clear BK EM HQ HB HOK HCC HKEY HKS HR0 HC0 h3b h9b
 go_loopg [6] k (fun kq s6 w' => ∃ (L1 : List (List UInt8)) (n1 : Nat) (q1 : List (List Int)), Aside0 (lst.l0 kq m0 m1 o (l.length : Int) L1 n1 q1 = some (Lf, nf)) ∧ Aside0 (kq ≤ k) ∧ Aside0 (LS w w' mb b m0 m1 o n1 L1 s6 q1))
 case atStart => exact ⟨[key.data.toList], 1, [l], H', ⟨Nat.le_refl _⟩, S0⟩
 case round =>
  clear H' S0
  obtain ⟨L1, n1, q1, HA, HK, HS⟩ := hrel
  cases gk with
  | zero => exact absurd HA.out (by simp [lst.l0])
  | succ k1 =>
   have H := HA.out
   clear HA
   simp only [lst.l0] at H
   obtain ⟨Au, cu, hu⟩ := HS.out.slice
   subst hu
   by_cases d0 : 0 < q1.length
   ·rw [if_pos d0] at H
    obtain ⟨⟨L2, n2, q2⟩, hL1, H⟩ := Option.bind_eq_some_iff.mp H
    by_cases d1 : 0 < q2.length
    ·rw [if_pos d1] at H
     have HL1 := Aside0.mk hL1
     have HH : Aside0 (lst.l0 k1 m0 m1 o (l.length : Int) L2 n2 q2.tail = some (Lf, nf)) := ⟨H⟩
     have D1 := Aside0.mk d1
     have d0b : decide ((0 : Int) < (q1.length : Int)) = true := decide_eq_true (by omega)
     have d0c : decide (0 < q1.length) = true := decide_eq_true d0
     clear hL1 H d1 d0
     go_wp2
     go_loopg [6, 7] k1 (fun kq s6 s7 w' => ∃ (La : List (List UInt8)) (na : Nat) (qa : List (List Int)) (i : Int), s7 = .int .i64 i ∧ Aside0 (lst.l1 kq m0 m1 o (l.length : Int) La na qa i = some (L2, n2, q2)) ∧ Aside0 (kq ≤ k1) ∧ Aside0 (LS w w' mb b m0 m1 o na La s6 qa))
     case atStart => exact ⟨L1, n1, q1, 0, rfl, HL1, ⟨Nat.le_refl _⟩, HS⟩
     case round =>
      clear HS HL1
      obtain ⟨La, na, qa, i, rfl, HA, HK1, HS⟩ := hrel
      cases gk with
      | zero => exact absurd HA.out (by simp [lst.l1])
      | succ k2 =>
       have H := HA.out
       clear HA
       simp only [lst.l1] at H
       by_cases f0 : i < wrap64 (4 * (l.length : Int))
       ·rw [if_pos f0] at H
        have f0b : decide (i < wrap64 (4 * (l.length : Int))) = true := decide_eq_true f0
        by_cases f1 : 0 < qa.length
        ·rw [if_pos f1] at H
         obtain ⟨⟨xr, okr⟩, hmv, H⟩ := Option.bind_eq_some_iff.mp H
         obtain ⟨g, off, cq, Ax, cx, hv, hcell, hxc, hxr⟩ := HS.out.first f1
         subst hv
         generalize hx0 : qa.headD [] = x0 at hmv hcell hxc hxr
         have HMV := Aside0.mk hmv
         have HXC := Aside0.mk hxc
         have HXR := Aside0.mk hxr
         have H2 := Aside0.mk H
         have F1 := Aside0.mk f1
         have q0 : ((0 : Int) < (qa.length : Int)) = True := eq_true (by omega)
         have q0n : (0 < qa.length) = True := eq_true f1
         clear hmv hxc hxr H f0 f1 hx0
         go_upto_region 10 with (fail)
         have H := H2.out
         clear H2
         refine start_ (n := 14) (S := fun w' => w'.cell? ⟨mb, 0, none⟩ = some (.int .i64 m0) ∧ w'.cell? ⟨mb, 1, none⟩ = some (.int .i64 m1) ∧ w'.cell? ⟨mb, 2, none⟩ = some (.int .i64 o) ∧ w'.cell? ⟨g, off, none⟩ = some (.slice Ax x0.length cx)) (ds := []) #[false, false, false, false, false, false, false, false, false, false, false, false, false, false] (by kernel_rfl) rfl rfl ⟨HS.out.c.1, HS.out.c.2.1, HS.out.c.2.2, hcell⟩ (fun hHeld => ?_); refine with_tabW lst.tab10 lst.bits10 (fun HT_ HW_ => ?_)
         replace HS := Aside0.mk HS.out.drew
         replace HXR := Aside0.mk (Kd.C_drew HXR.out)
         clear hcell
         refine pv_ (i := 1) (N := some 45) HT_.out ?_
         refine pv_ (i := 2) (N := some 46) HT_.out ?_
         refine pv_ (i := 4) (N := some 48) HT_.out ?_
         refine pv_ (i := 5) (N := some 49) HT_.out ?_
         refine pv_ (i := 6) (N := some 50) HT_.out ?_
         refine pv_ (i := 7) (N := some 51) HT_.out ?_
         refine tv4_ (i := 0) (N := some 44) HT_.out HW_.out hHeld ?_
         refine tv4_ (i := 3) (N := some 47) HT_.out HW_.out hHeld ?_
         refine ov_ (i := 8) (N := some 52) HT_.out (fun K hK => ?_)
         refine gq_ Tryd.func24 #[.agg #[.int .i64 m0, .int .i64 m1, .int .i64 o], .slice Ax x0.length cx, .int .i64 (wrap64 (Int.tdiv i 4)), .int .i64 (Int.tmod i 4)] ?_
         with_reducible refine (impl_MoveOne.calls k2 m0 m1 o Ax cx x0 (wrap64 (Int.tdiv i 4)) (Int.tmod i 4) xr okr _ ?side1 ?side2 HMV.out).mono ?_
         (case side1 => exact HXR.out)
         (case side2 => exact HXC.out)
         rintro e w37 ⟨vn, rfl, hR, hb⟩
         have hS4 := lst.at_keep hb hHeld.2.2.2
         refine ⟨_, rfl, ?_⟩
         obtain ⟨An, cn, Dn, hN⟩ := NS.ofR (v := .slice (some ⟨g, off, none⟩) qa.length cq) (b := b) (mb := mb) hR HS.out.blt HS.out.mlt HS.out.ltq
         obtain rfl := hN.val
         replace HS := Aside0.mk (HS.out.below hb)
         have HN := Aside0.mk hN
         clear hR hb hN
         refine hK.out _ _ ⟨HS.out.c.1, HS.out.c.2.1, HS.out.c.2.2, hS4⟩ (fun hHeld => ?_)
         clear hK K
         refine nm_ ?_
         refine pv_ (i := 9) (N := some 43) HT_.out ?_
         refine pv_ (i := 10) (N := some 53) HT_.out ?_
         refine pv_ (i := 11) (N := some 54) HT_.out ?_
         refine pv_ (i := 12) (N := some 8) HT_.out ?_
         refine pv_ (i := 13) (N := some 9) HT_.out ?_
         refine done_ (done_of HT_.out (by kernel_rfl)) ?_
         clear hHeld HT_ HW_ hS4 HMV HXC HXR
         cases okr with
         | false =>
          rw [if_neg (by simp)] at H
          have H2 := Aside0.mk H
          clear H
          go_wp2
          go_roundg k2
          case measure => exact Nat.lt_succ_self _
          case rel => exact ⟨La, na, qa, _, rfl, H2, ⟨Nat.le_of_succ_le HK1.out⟩, HS⟩
         | true =>
          rw [if_pos rfl] at H
          obtain ⟨key2, hky, H⟩ := Option.bind_eq_some_iff.mp H
          by_cases f2 : key2.size ≤ maxLen
          ·rw [if_pos f2] at H
           have HKY := Aside0.mk hky
           have F2 := Aside0.mk f2
           clear hky f2
           by_cases f3 : key2.data.toList ∈ La
           ·rw [if_pos f3] at H
            have H2 := Aside0.mk H
            have F3 := Aside0.mk (decide_eq_true f3)
            clear H f3
            go_wp2_with (first | ((with_reducible refine gw_ ?_); first | (refine sm_look _ rfl _ _ rfl b na La rfl HS.out.E key2 rfl F2.out true F3.out ?_; go_frame) | fail) | (go_at_call 23; (with_reducible refine (impl_keyOf.calls k2 An cn xr key2 _ HN.out.reads HN.out.cap HKY.out).mono ?_); rintro e w40 ⟨rfl, hd⟩; have hb := hd.below; replace HS := Aside0.mk (HS.out.below hb); replace HN := Aside0.mk (HN.out.step (fun j _ _ hl => hb.block j hl)); clear hd hb) | fail)
            go_roundg k2
            case measure => exact Nat.lt_succ_self _
            case rel => exact ⟨La, na, qa, _, rfl, H2, ⟨Nat.le_of_succ_le HK1.out⟩, HS⟩
           ·rw [if_neg f3] at H
            by_cases f4 : na < 1000000
            ·rw [if_pos f4] at H
             by_cases f5 : qa.length < 1000000
             ·rw [if_pos f5] at H
              have H2 := Aside0.mk H
              have F3 := Aside0.mk (decide_eq_false f3)
              have F4 := Aside0.mk (show na < maxLen from Nat.lt_of_lt_of_le f4 (by decide))
              have F5 := Aside0.mk f5
              clear H f3 f4 f5
              go_wp2_with (first | ((with_reducible refine gw_ ?_); first | (refine sm_look _ rfl _ _ rfl b na La rfl HS.out.E key2 rfl F2.out false F3.out ?_; go_frame) |
               (refine gl_ 65 Tryd.func23 #[.slice An xr.length cn] ?_; (with_reducible refine (impl_keyOf.calls k2 An cn xr key2 _ HN.out.reads HN.out.cap HKY.out).mono ?_); rintro e w41 ⟨rfl, hd⟩; refine ⟨_, rfl, ?_⟩; have hb := hd.below; replace HS := Aside0.mk (HS.out.below hb); replace HN := Aside0.mk (HN.out.step (fun j _ _ hl => hb.block j hl)); clear hd hb) |
               (refine sm_store _ rfl _ _ _ (Or.inl rfl) b na La rfl HS.out.E F4.out key2 rfl rfl (of_decide_eq_false F3.out) F2.out ?_; intro w42 hE hgr; replace HS := Aside0.mk (HS.out.put hgr hE); replace HN := Aside0.mk (HN.out.step (fun j _ hjb hl => hgr.block j hl (fun e => hjb (Option.some.inj e)))); clear hE hgr; go_frame) |
               ((with_reducible refine gate_builtin (b := .append) (xs := #[.tmp 66, .tmp 68]) rfl ?_); at_builtin; obtain ⟨Dq, vsq, hQ⟩ := HS.out.Q; refine qs_append rfl (.tmp 66) (.tmp 68) rfl rfl rfl hQ HN.out HS.out.bel HS.out.blt HS.out.mlt F5.out ?_; intro v69 w43 hQ1 hb1 hg1; replace HS := Aside0.mk (HS.out.push hg1 hb1 hQ1); clear hQ hQ1 hb1 hg1) | fail) |
               (go_at_call 23; (with_reducible refine (impl_keyOf.calls k2 An cn xr key2 _ HN.out.reads HN.out.cap HKY.out).mono ?_); rintro e w40 ⟨rfl, hd⟩; have hb := hd.below; replace HS := Aside0.mk (HS.out.below hb); replace HN := Aside0.mk (HN.out.step (fun j _ _ hl => hb.block j hl)); clear hd hb) | fail)
              go_roundg k2
              case measure => exact Nat.lt_succ_self _
              case rel => exact ⟨_, na + 1, qa ++ [xr], _, rfl, H2, ⟨Nat.le_of_succ_le HK1.out⟩, HS⟩
             ·rw [if_neg f5] at H
              cases H
            ·rw [if_neg f4] at H
             cases H
          ·rw [if_neg f2] at H
           cases H
        ·rw [if_neg f1] at H
         cases H
       ·rw [if_neg f0] at H
        have f0b : decide (i < wrap64 (4 * (l.length : Int))) = false := decide_eq_false f0
        have hz := Option.some.inj H
        simp only [Prod.mk.injEq] at hz
        obtain ⟨e1, e2, e3⟩ := hz
        subst e1
        subst e2
        subst e3
        clear H f0
        obtain ⟨g, off, cq, Ax, cx, hv, _, _, _⟩ := HS.out.first D1.out
        subst hv
        have f1n := D1.out
        obtain ⟨A', hcut, hA'⟩ := lst.cut (some ⟨g, off, none⟩) qa.length cq f1n
        replace HS := Aside0.mk (HS.out.cut D1.out)
        rw [← hA'] at HS
        clear hA'
        go_wp2
        go_roundg k1
        case measure => exact Nat.lt_succ_self _
        case rel => exact ⟨La, na, qa.tail, HH, ⟨Nat.le_of_succ_le HK.out⟩, HS⟩
    ·rw [if_neg d1] at H
     cases H
   ·rw [if_neg d0] at H
    have hz := Option.some.inj H
    simp only [Prod.mk.injEq] at hz
    obtain ⟨e1, e2⟩ := hz
    subst e1
    subst e2
    have d0b : decide ((0 : Int) < (q1.length : Int)) = false := decide_eq_false (by omega)
    have d0c : decide (0 < q1.length) = false := decide_eq_false d0
    clear H d0
    go_wp2
    go_ret
    exact ⟨⟨b, rfl, HS.out.E⟩, HS.out.bel⟩
set_option maxHeartbeats 4000000 in
set_option maxRecDepth 100000 in
theorem lst_no1 (m0 m1 o : Int) (A : Option Addr) (c : Nat) (l : List Int) (w : World) (hr0 : Kd.C (Kd.int .i64) w A l.length l) (hc0 : l.length ≤ c) (hok : impl_CrowdOk.f m0 m1 o l = some false) :
  Calls Tryd.prog 13 #[.agg #[.int .i64 m0, .int .i64 m1, .int .i64 o], .slice A l.length c] w fun e w' => e = .returned (.map none) ∧ Below w.heap.size w w' := by
 have hu1 := Tryd.underlying30
 have HR0 := Aside0.mk hr0
 have HC0 := Aside0.mk hc0
 have HB := Aside0.mk (Below.refl w.heap.size w)
 have HOK := Aside0.mk hok
 clear hr0 hc0 hok
 go_enter Tryd.func13, Tryd.ntmps13
 go_wp2_with ((with_reducible refine gw_ ?_); first | (refine box_ (N := 2) (cs := #[.int .i64 m0, .int .i64 m1, .int .i64 o]) (t := 30) ?_; intro mb hg w2 hbox hb; have BK := Aside0.mk (hbox); have GE := HB.g0 hg; replace HB := HB.s0 hb; clear hb hbox hg; obtain ⟨z0, z1, z2⟩ := cz3_ BK.out; obtain ⟨y0, y1, y2⟩ := fz3_ BK.out) |
  (refine gl_ 12 Tryd.func21 #[.agg #[.int .i64 m0, .int .i64 m1, .int .i64 o], .slice A l.length c] ?_; (with_reducible refine (impl_CrowdOk.calls m0 m1 o A c l false _ (Kd.C_below HR0.out HB.out) HC0.out HOK.out).mono ?_); rintro e w3 ⟨rfl, hb⟩; refine ⟨_, rfl, ?_⟩; replace HB := HB.s1 GE hb; clear hb) | fail)
 go_ret
 exact ⟨rfl, HB.out⟩
set_option maxHeartbeats 4000000 in
set_option maxRecDepth 100000 in
theorem lst_no2 (m0 m1 o : Int) (A : Option Addr) (c : Nat) (l : List Int) (w : World) (hr0 : Kd.C (Kd.int .i64) w A l.length l) (hc0 : l.length ≤ c) (hok : impl_CrowdOk.f m0 m1 o l = some true) (h3 : (l.length : Int) > 3) :
  Calls Tryd.prog 13 #[.agg #[.int .i64 m0, .int .i64 m1, .int .i64 o], .slice A l.length c] w fun e w' => e = .returned (.map none) ∧ Below w.heap.size w w' := by
 have hu1 := Tryd.underlying30
 have HR0 := Aside0.mk hr0
 have HC0 := Aside0.mk hc0
 have HB := Aside0.mk (Below.refl w.heap.size w)
 have HOK := Aside0.mk hok
 have h3b : decide ((3 : Int) < (l.length : Int)) = true := decide_eq_true h3
 clear hr0 hc0 hok h3
 go_enter Tryd.func13, Tryd.ntmps13
 go_wp2_with ((with_reducible refine gw_ ?_); first | (refine box_ (N := 2) (cs := #[.int .i64 m0, .int .i64 m1, .int .i64 o]) (t := 30) ?_; intro mb hg w2 hbox hb; have BK := Aside0.mk (hbox); have GE := HB.g0 hg; replace HB := HB.s0 hb; clear hb hbox hg; obtain ⟨z0, z1, z2⟩ := cz3_ BK.out; obtain ⟨y0, y1, y2⟩ := fz3_ BK.out) |
  (refine gl_ 12 Tryd.func21 #[.agg #[.int .i64 m0, .int .i64 m1, .int .i64 o], .slice A l.length c] ?_; (with_reducible refine (impl_CrowdOk.calls m0 m1 o A c l true _ (Kd.C_below HR0.out HB.out) HC0.out HOK.out).mono ?_); rintro e w3 ⟨rfl, hb⟩; refine ⟨_, rfl, ?_⟩; replace HB := HB.s1 GE hb; clear hb) | fail)
 go_ret
 exact ⟨rfl, HB.out⟩
set_option maxHeartbeats 4000000 in
set_option maxRecDepth 100000 in
theorem lst_no3 (m0 m1 o : Int) (A : Option Addr) (c : Nat) (l : List Int) (cc : Int) (w : World) (hr0 : Kd.C (Kd.int .i64) w A l.length l) (hc0 : l.length ≤ c) (hok : impl_CrowdOk.f m0 m1 o l = some true) (h3 : ¬ (l.length : Int) > 3) (hcc : impl_CountCells.f m0 m1 = some cc) (h9 : cc > 9) :
  Calls Tryd.prog 13 #[.agg #[.int .i64 m0, .int .i64 m1, .int .i64 o], .slice A l.length c] w fun e w' => e = .returned (.map none) ∧ Below w.heap.size w w' := by
 have hu1 := Tryd.underlying30
 have hu2 := Tryd.underlying28
 have HR0 := Aside0.mk hr0
 have HC0 := Aside0.mk hc0
 have HB := Aside0.mk (Below.refl w.heap.size w)
 have HOK := Aside0.mk hok
 have HCC := Aside0.mk hcc
 have h3b : decide ((3 : Int) < (l.length : Int)) = false := decide_eq_false h3
 have h9b : decide ((9 : Int) < cc) = true := decide_eq_true h9
 clear hr0 hc0 hok hcc h3 h9
 go_enter Tryd.func13, Tryd.ntmps13
 go_wp2_with (first | ((with_reducible refine gw_ ?_); first | (refine box_ (N := 2) (cs := #[.int .i64 m0, .int .i64 m1, .int .i64 o]) (t := 30) ?_; intro mb hg w2 hbox hb; have BK := Aside0.mk (hbox); have GE := HB.g0 hg; replace HB := HB.s0 hb; clear hb hbox hg; obtain ⟨z0, z1, z2⟩ := cz3_ BK.out; obtain ⟨y0, y1, y2⟩ := fz3_ BK.out) |
  (refine gl_ 12 Tryd.func21 #[.agg #[.int .i64 m0, .int .i64 m1, .int .i64 o], .slice A l.length c] ?_; (with_reducible refine (impl_CrowdOk.calls m0 m1 o A c l true _ (Kd.C_below HR0.out HB.out) HC0.out HOK.out).mono ?_); rintro e w3 ⟨rfl, hb⟩; refine ⟨_, rfl, ?_⟩; replace BK := BK.bb hb; replace HB := HB.s1 GE hb; clear hb z0 z1 z2 y0 y1 y2; obtain ⟨z0, z1, z2⟩ := cz3_ BK.out; obtain ⟨y0, y1, y2⟩ := fz3_ BK.out) | fail) |
  (go_at_call 22; (with_reducible refine (impl_CountCells.calls m0 m1 cc _ HCC.out).mono ?_); rintro e w4 ⟨rfl, hb⟩; replace HB := HB.s1 GE hb; clear hb z0 z1 z2 y0 y1 y2) | fail)
 go_ret
 exact ⟨rfl, HB.out⟩
/-- What the search hands back. -/
def lst.ret (w' : World) (v : Value) : Option (List (List UInt8)) → Prop
 | none => v = .map none
 | some L => ∃ b n, v = .map (some b) ∧ SM w' b n L
theorem lst.calls (k : Nat) (m0 m1 o : Int) (A : Option Addr) (c : Nat) (l : List Int) (r : Option (List (List UInt8))) (w : World) (hr0 : Kd.C (Kd.int .i64) w A l.length l) (hc0 : l.length ≤ c) (h : lst.f k m0 m1 o l = some r) :
  Calls Tryd.prog 13 #[.agg #[.int .i64 m0, .int .i64 m1, .int .i64 o], .slice A l.length c] w fun e w' => (∃ v, e = .returned v ∧ lst.ret w' v r) ∧ Below w.heap.size w w' := by
 unfold lst.f at h
 obtain ⟨t, ht, h⟩ := Option.bind_eq_some_iff.mp h
 cases t with
 | false =>
  rw [if_neg (by simp)] at h
  obtain rfl := Option.some.inj h
  refine (lst_no1 m0 m1 o A c l w hr0 hc0 ht).mono ?_
  rintro e w' ⟨rfl, hb⟩
  exact ⟨⟨_, rfl, rfl⟩, hb⟩
 | true =>
  rw [if_pos rfl] at h
  by_cases h3 : (l.length : Int) > 3
  ·rw [if_pos h3] at h
   obtain rfl := Option.some.inj h
   refine (lst_no2 m0 m1 o A c l w hr0 hc0 ht h3).mono ?_
   rintro e w' ⟨rfl, hb⟩
   exact ⟨⟨_, rfl, rfl⟩, hb⟩
  ·rw [if_neg h3] at h
   obtain ⟨cc, hcc, h⟩ := Option.bind_eq_some_iff.mp h
   by_cases h9 : cc > 9
   ·rw [if_pos h9] at h
    obtain rfl := Option.some.inj h
    refine (lst_no3 m0 m1 o A c l cc w hr0 hc0 ht h3 hcc h9).mono ?_
    rintro e w' ⟨rfl, hb⟩
    exact ⟨⟨_, rfl, rfl⟩, hb⟩
   ·rw [if_neg h9] at h
    obtain ⟨key, hkey, h⟩ := Option.bind_eq_some_iff.mp h
    by_cases hks : key.size ≤ maxLen
    ·rw [if_pos hks] at h
     obtain ⟨⟨Lf, nf⟩, hl, h⟩ := Option.bind_eq_some_iff.mp h
     obtain rfl := Option.some.inj h
     refine (lst_main k m0 m1 o A c l cc key Lf nf w hr0 hc0 ht h3 hcc h9 hkey hks hl).mono ?_
     rintro e w' ⟨⟨b, rfl, hS⟩, hb⟩
     exact ⟨⟨_, rfl, b, nf, rfl, hS⟩, hb⟩
    ·rw [if_neg hks] at h
     cases h

end Go.Proofs.YtgnnkjgfkdaddaaDoor.X
