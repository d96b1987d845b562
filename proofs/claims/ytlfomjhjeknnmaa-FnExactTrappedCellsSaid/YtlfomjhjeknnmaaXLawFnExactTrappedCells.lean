-- Written by a program of this session (xprint.py), out of the translation and of hand-written contracts. Lean checks it.
import Derived.Test.YtlfomjhjeknnmaaRows
import Derived.Test.YtlfomjhjeknnmaaXlawsFnExactTrappedCells
import Derived.Test.YtlfomjhjeknnmaaXPureFnExactTrappedCells
import Derived.WalkKit
import Derived.ProofKit
import Derived.OpenShut
import Derived.ShutString
import Derived.ChangeOld
import Derived.Below
import Derived.SizedLaws
import Derived.ChangeArms
import Derived.Deep.Slices
import Derived.Deep.Fields
import Derived.ChangeSame
import Derived.Test.YtlfomjhjeknnmaaWd
namespace Go.Proofs.Ytlfomjhjeknnmaa.fnExactTrappedCells
open Go.ChangeShapes Go.WideShapes Go.ChangeAt Go.RowKit Go.Deep Go.Proofs.YtlfomjhjeknnmaaW.PrintWords Go.Proofs.Ytlfomjhjeknnmaa.X
open Go.ChangeMaps (open_string shut_string)
set_option linter.unusedVariables false
theorem own : ownKnob Try.prog.godebug = none := by kernel_rfl
theorem laidOut : laidOutB Try.prog = true := by kernel_rfl
def IsRow (k : IntKind) (w : World) (a : Option Addr) (len cap : Nat) (zs : List Int) : Prop :=
  (a = none ∧ len = 0 ∧ cap = 0 ∧ zs = []) ∨
  ∃ x, a = some x ∧ len ≤ cap ∧ cap ≤ maxLen ∧ zs.length = cap ∧ (∀ i, i < zs.length → w.cell? (x.add i) = some (.int k (zs.getD i 0))) ∧ ∀ n ∈ zs, (Lit.int k n).wf = true
section
variable {H : Type} {enc : TypeId × Value → H} {P : Program} {w : World} {base : Nat} {spare : Nat → Bool} {held : Bool}
theorem open_slice_fields {t e : TypeId} {fs : Array Field} {fuel : Nat} {cs : List Value} {x : DataW H × List MemPlace} (ht : P.underlying t = some (.slice e)) (he : P.underlying e = some (.struct fs))
    (hone : oneCellFields P fs = true) (hC : P.cellsOf e = fs.size) (h : DataW.trod enc P w base spare held fuel t cs = some x) :
    (cs = [.slice none 0 0] ∧ x = (.nil, [])) ∨
    ∃ (a : Addr) (len cap m : Nat) (D : Nat → DataW H) (Pl : Nat → List MemPlace), cs = [.slice (some a) len cap] ∧ base ≤ a.block ∧ len ≤ cap ∧ cap ≤ maxLen ∧ m = (if spare a.block then cap else len) ∧
      x = (.slice ((List.range len).map D) ((List.range (m - len)).map fun j => D (len + j)), MemPlace.row a (m * fs.size) ++ (List.range m).flatMap Pl) ∧
      ∀ i, i < m → ∃ (ys : List (DataW H × List MemPlace)) (n : Nat), D i = .agg (ys.map (·.1)) ∧ Pl i = ys.flatMap (·.2) ∧ ys.length = fs.size ∧
        ∀ (j : Nat) (f : Field), fs[j]? = some f → ∃ (v : Value) (y : DataW H × List MemPlace), w.cell? (a.add (i * fs.size + j)) = some v ∧ ys[j]? = some y ∧ DataW.trod enc P w base spare held n f.type [v] = some y := by
  rcases open_slice ht h with h0 | ⟨a, len, cap, m, n, D, Pl, hcs, hb, hl, hm, hmm, hx, hi⟩
  · exact .inl h0
  · refine .inr ⟨a, len, cap, m, D, Pl, hcs, hb, hl, hm, hmm, by rw [hC] at hx; exact hx, fun i him => ?_⟩
    obtain ⟨cs', hc, ht'⟩ := hi i him
    rw [hC] at hc
    obtain ⟨ys, n', hn', hy, hlen, hyl, hf⟩ := DataW.trod_struct he ht'
    obtain ⟨_, hcl, hat⟩ := World.cells?_some hc
    simp only [Prod.mk.injEq] at hy
    refine ⟨ys, n', hy.1, hy.2, hyl, fun j f hj => ?_⟩
    obtain ⟨ho, hk⟩ := hone_of hone j f hj
    have hjl : j < fs.size := (Array.getElem?_eq_some_iff.1 hj).1
    have hcell := hat j hjl
    have hv : cs'[j]? = some (cs'[j]'(by omega)) := List.getElem?_eq_getElem (by omega)
    have h1 := hf j f hj
    rw [ho, hk] at h1
    have hone' : (cs'.drop j).take 1 = [cs'[j]'(by omega)] := by
      rw [List.drop_eq_getElem_cons (by omega)]
      rfl
    rw [hone'] at h1
    have hys : ys[j]? = some (ys[j]'(by omega)) := List.getElem?_eq_getElem (by omega)
    refine ⟨_, _, ?_, hys, h1.trans hys⟩
    rw [← Go.Deep.add_add, hcell, hv]
end
theorem openRow85 {H : Type} {enc : TypeId × Value → H} {w : World} {base fuel : Nat} {sp : Nat → Bool} {held : Bool} {t : TypeId} {cs : List Value} {x : DataW H × List MemPlace} (ht : Try.prog.underlying t = some (.slice 85)) (h : DataW.trod enc Try.prog w base sp held fuel t cs = some x) :
    ∃ (a : Option Addr) (len cap : Nat) (l : List S85), cs = [.slice a len cap] ∧ Kd.C k85 w a len l ∧ len ≤ cap ∧ len ≤ maxLen ∧ l.length = len := by
  rcases open_slice_fields ht Try.underlying85 (by kernel_rfl) (by kernel_rfl) h with ⟨hcs, _⟩ | ⟨a, len, cap, m, D, Pl, hcs, _, hl, hm, hmm, _, hi⟩
  · exact ⟨none, 0, 0, [], hcs, ⟨rfl, by omega, fun z => absurd z (by omega)⟩, Nat.le_refl _, by unfold maxLen; omega, rfl⟩
  · have hlm : len ≤ m := by rw [hmm]; split <;> omega
    have key : ∀ i, ∃ s : S85, i < len → w.cell? (a.add (i * 2 + 0)) = some (.int .i64 s.f0) ∧ w.cell? (a.add (i * 2 + 1)) = some (.int .i64 s.f1) := by
      intro i
      by_cases hlt : i < len
      · obtain ⟨ys, n, _, _, _, hf⟩ := hi i (by omega)
        obtain ⟨v0, y0, hc0, _, ht0⟩ := hf 0 _ rfl
        obtain ⟨x0, e0, _, _⟩ := DataW.trod_int Try.underlying3 ht0
        simp only [List.cons.injEq, and_true] at e0
        subst e0
        obtain ⟨v1, y1, hc1, _, ht1⟩ := hf 1 _ rfl
        obtain ⟨x1, e1, _, _⟩ := DataW.trod_int Try.underlying3 ht1
        simp only [List.cons.injEq, and_true] at e1
        subst e1
        exact ⟨⟨x0, x1⟩, fun _ => ⟨hc0, hc1⟩⟩
      · exact ⟨z85, fun z => absurd z hlt⟩
    obtain ⟨s, hs⟩ := Classical.axiomOfChoice key
    refine ⟨some a, len, cap, (List.range len).map s, hcs, ⟨by simp, by unfold maxLen at hm; omega, fun hp => ⟨a, rfl, fun j p hj => ?_⟩⟩, hl, by omega, by simp⟩
    have hj' : j < len := by have := (List.getElem?_eq_some_iff.1 hj).1; simpa using this
    rw [List.getElem?_map, List.getElem?_range hj'] at hj
    obtain rfl := Option.some.inj hj
    refine ⟨_, rfl, k85_mk w (s j), fun i u hu => ?_⟩
    have hh := hs j hj'
    match i, hu with
    | 0, hu => simp only [List.getElem?_cons_zero, Option.some.injEq] at hu; subst hu; exact hh.1
    | 1, hu => simp only [List.getElem?_cons_zero, List.getElem?_cons_succ, Option.some.injEq] at hu; subst hu; exact hh.2
    | i + 2, hu => simp at hu
set_option maxRecDepth 100000 in
theorem open28 {H : Type} {enc : TypeId × Value → H} {W : World} {base b0 : Nat} {sp : Nat → Bool} {held : Bool} {r : Reach} {v : Value} {d : DataW H} {p : List MemPlace} (hv : Value.okWide Try.prog W r b0 28 v) (h : DataW.Trod enc Try.prog W base sp held 28 v d p) {ts : List TypeId} {ds : List (DataW H)} {j : Nat} (hsz : (DataW.weightsEach Try.prog ts ds).all (· ≤ reachBytes) = true) (ht : ts[j]? = some 28) (hd : ds[j]? = some d) (hsp : ∀ b, sp b = true) :
    ∃ (a0 : Int) (a1 : Int) (a2 : Int) (a3 : Int) (a4 : Option Addr) (len4 cap4 : Nat) (l4 : List S85), v = .agg #[.int .i64 a0, .int .i64 a1, .int .i64 a2, .int .i64 a3, .slice a4 len4 cap4] ∧ (Lit.int .i64 a0).wf = true ∧ (Lit.int .i64 a1).wf = true ∧ (Lit.int .i64 a2).wf = true ∧ (Lit.int .i64 a3).wf = true ∧ (Kd.C k85 W a4 len4 l4 ∧ len4 ≤ cap4 ∧ len4 ≤ maxLen ∧ l4.length = len4) := by
  obtain ⟨cs, rfl, hcsz⟩ := okWide_struct Try.underlying28 hv
  obtain ⟨l⟩ := cs
  have hC : Try.prog.cellsOf 28 = 5 := by kernel_rfl
  match l, hcsz.trans hC with
  | [c0, c1, c2, c3, c4], _ =>
    obtain ⟨fuel, hf⟩ := h
    obtain ⟨xs1, n1, _, hx1, _, hl1, hg1⟩ := DataW.trod_struct Try.underlying28 hf
    obtain ⟨hd1, _⟩ := Prod.mk.inj hx1
    have hw1 : (DataW.weightsEach Try.prog [25, 3, 26] (xs1.map (·.1))).all (· ≤ reachBytes) = true := by
      rw [List.all_eq_true]; intro n hn
      exact List.all_eq_true.1 hsz n (DataW.weights_mem_each ht hd n (by rw [hd1]; unfold DataW.weights; rw [Try.underlying28]; exact hn))
    have e2 := hg1 0 _ rfl
    have hx2 : ∃ y, xs1[0]? = some y := ⟨_, List.getElem?_eq_getElem (Nat.lt_of_lt_of_eq (by decide : 0 < 3) (Eq.symm hl1))⟩
    obtain ⟨y2, hy2⟩ := hx2
    rw [hy2] at e2
    replace e2 : DataW.trod enc Try.prog W base sp held n1 25 [c0, c1, c2] = some y2 := by
      have hk : Try.prog.cellsOf 25 = 3 := by kernel_rfl
      simpa [hk, Value.cells] using e2
    obtain ⟨xs3, n3, _, hx3, _, hl3, hg3⟩ := DataW.trod_struct Try.underlying25 e2
    have e4 := hg3 0 _ rfl
    have hx4 : ∃ y, xs3[0]? = some y := ⟨_, List.getElem?_eq_getElem (Nat.lt_of_lt_of_eq (by decide : 0 < 2) (Eq.symm hl3))⟩
    obtain ⟨y4, hy4⟩ := hx4
    rw [hy4] at e4
    replace e4 : DataW.trod enc Try.prog W base sp held n3 23 [c0, c1] = some y4 := by
      have hk : Try.prog.cellsOf 23 = 2 := by kernel_rfl
      simpa [hk, Value.cells] using e4
    obtain ⟨xs5, n5, _, hx5, _, hl5, hg5⟩ := DataW.trod_struct Try.underlying23 e4
    have e6 := hg5 0 _ rfl
    have hx6 : ∃ y, xs5[0]? = some y := ⟨_, List.getElem?_eq_getElem (Nat.lt_of_lt_of_eq (by decide : 0 < 2) (Eq.symm hl5))⟩
    obtain ⟨y6, hy6⟩ := hx6
    rw [hy6] at e6
    replace e6 : DataW.trod enc Try.prog W base sp held n5 3 [c0] = some y6 := by
      have hk : Try.prog.cellsOf 3 = 1 := by kernel_rfl
      simpa [hk, Value.cells] using e6
    have e7 := hg5 1 _ rfl
    have hx7 : ∃ y, xs5[1]? = some y := ⟨_, List.getElem?_eq_getElem (Nat.lt_of_lt_of_eq (by decide : 1 < 2) (Eq.symm hl5))⟩
    obtain ⟨y7, hy7⟩ := hx7
    rw [hy7] at e7
    replace e7 : DataW.trod enc Try.prog W base sp held n5 3 [c1] = some y7 := by
      have hk : Try.prog.cellsOf 3 = 1 := by kernel_rfl
      simpa [hk, Value.cells] using e7
    have e8 := hg3 1 _ rfl
    have hx8 : ∃ y, xs3[1]? = some y := ⟨_, List.getElem?_eq_getElem (Nat.lt_of_lt_of_eq (by decide : 1 < 2) (Eq.symm hl3))⟩
    obtain ⟨y8, hy8⟩ := hx8
    rw [hy8] at e8
    replace e8 : DataW.trod enc Try.prog W base sp held n3 3 [c2] = some y8 := by
      have hk : Try.prog.cellsOf 3 = 1 := by kernel_rfl
      simpa [hk, Value.cells] using e8
    have e9 := hg1 1 _ rfl
    have hx9 : ∃ y, xs1[1]? = some y := ⟨_, List.getElem?_eq_getElem (Nat.lt_of_lt_of_eq (by decide : 1 < 3) (Eq.symm hl1))⟩
    obtain ⟨y9, hy9⟩ := hx9
    rw [hy9] at e9
    replace e9 : DataW.trod enc Try.prog W base sp held n1 3 [c3] = some y9 := by
      have hk : Try.prog.cellsOf 3 = 1 := by kernel_rfl
      simpa [hk, Value.cells] using e9
    have e10 := hg1 2 _ rfl
    have hx10 : ∃ y, xs1[2]? = some y := ⟨_, List.getElem?_eq_getElem (Nat.lt_of_lt_of_eq (by decide : 2 < 3) (Eq.symm hl1))⟩
    obtain ⟨y10, hy10⟩ := hx10
    rw [hy10] at e10
    replace e10 : DataW.trod enc Try.prog W base sp held n1 26 [c4] = some y10 := by
      have hk : Try.prog.cellsOf 26 = 1 := by kernel_rfl
      simpa [hk, Value.cells] using e10
    obtain ⟨a0, hc0, _, w0⟩ := DataW.trod_int Try.underlying3 e6
    simp only [List.cons.injEq, and_true] at hc0
    subst hc0
    obtain ⟨a1, hc1, _, w1⟩ := DataW.trod_int Try.underlying3 e7
    simp only [List.cons.injEq, and_true] at hc1
    subst hc1
    obtain ⟨a2, hc2, _, w2⟩ := DataW.trod_int Try.underlying3 e8
    simp only [List.cons.injEq, and_true] at hc2
    subst hc2
    obtain ⟨a3, hc3, _, w3⟩ := DataW.trod_int Try.underlying3 e9
    simp only [List.cons.injEq, and_true] at hc3
    subst hc3
    obtain ⟨a4, len4, cap4, l4, ho4, w4⟩ := openRow85 Try.underlying26 e10
    simp only [List.cons.injEq, and_true] at ho4
    subst ho4
    exact ⟨a0, a1, a2, a3, a4, len4, cap4, l4, rfl, w0, w1, w2, w3, w4⟩
set_option maxRecDepth 100000 in
theorem lifted (os : Os) (started : os.Started) (H : Type) (enc : TypeId × Value → H) :
    ReturnsInHanded {} Try.checked os 5 .any (Rows.fnExactTrappedCellsSpec.pre6 enc Try.prog Try.f5 Rows.fnExactTrappedCellsRow.domain false) (Rows.fnExactTrappedCellsSpec.post enc Try.prog Try.f5 false true false false) := by
  refine returnsInHanded_of_change_sized (C := Try.checked) own started (by kernel_rfl) Try.func5
    (ChangeSpec.witness6 (enc := enc) (C := Try.checked) false ⟨#[], #[.agg #[.int .i64 0, .int .i64 0, .int .i64 0, .int .i64 0, .slice none 0 0], .int .i64 0], []⟩ 8 (by kernel_rfl) (by kernel_rfl) (by kernel_rfl) (by kernel_rfl)) ?_
  intro W base args ds gs before hval0 hW hcnd hsz0 _
  have hsz : (DataW.weightsEach Try.prog (Try.f5.params.toList ++ Rows.fnExactTrappedCellsSpec.plain.varTypes Try.prog) (ds ++ gs)).all (· ≤ reachBytes) = true := hsz0
  have hval : ∀ (j : Nat) t v, Try.f5.params[j]? = some t → args[j]? = some v → Value.okWide Try.prog W .any base t v := hval0
  have hW' := hW
  obtain ⟨p, q, hA0, hV, rfl, hfz, hnd⟩ := hW
  have hA : DataW.TrodAll enc Try.prog W 0 (fun _ => true) true Try.f5.params.toList args.toList ds p := hA0
  rw [Try.params5] at hA hval hsz
  obtain ⟨v0, vs0, d0, ds0, p0, q0, hargs, rfl, rfl, h0, r0⟩ := trodAll_cons hA
  obtain ⟨v1, vs1, d1, ds1, p1, q1, rfl, rfl, rfl, h1, r1⟩ := trodAll_cons r0
  obtain ⟨rfl, rfl, rfl⟩ := trodAll_nil r1
  obtain rfl : args = #[v0, v1] := by cases args; simp_all
  obtain ⟨rfl, rfl⟩ := trodVars_none hV
  have k0 := h0
  have lt0 : ∀ x ∈ p0, x.block < W.heap.size := by obtain ⟨m, hm⟩ := k0; exact DataW.trod_lt m _ _ _ hm
  obtain ⟨a0_0, a0_1, a0_2, a0_3, a0_4, len0_4, cap0_4, l0_4, rfl, w0_0, w0_1, w0_2, w0_3, w0_4⟩ := open28 (hval 0 28 v0 rfl rfl) h0 hsz (j := 0) rfl rfl (fun _ => rfl)
  obtain ⟨a1, rfl, rfl, rfl, w1⟩ := open_int Try.underlying3 (hval 1 3 v1 rfl rfl) h1
  clear hA0 hval0 hsz0 hsz
  refine (X.laws_FnExactTrappedCells.walk Pure.FnExactTrappedCells a0_0 a0_1 a0_2 a0_3 a0_4 len0_4 cap0_4 l0_4 a1 W w0_0 w0_1 w0_2 w0_3 w0_4 w1).mono fun e W' ⟨he, bel⟩ => ?_
  subst he
  exact ⟨_, rfl, _, _, _, [], _, [], hW', trodAll_mk1 (shut_bool Try.underlying4 _), (trodAll_cons_mk (Below.trod laidOut (by kernel_rfl) (of_decide_eq_true (by kernel_rfl)) k0 bel lt0) (trodAll_cons_mk (shut_int Try.underlying3 w1) trodAll_mk0)), rfl, bel.frame _, fun h => by cases h⟩
theorem over : Rows.fnExactTrappedCellsRow.holds Try.pinned (OpenSpec.ofChange Rows.fnExactTrappedCellsSpec) :=
  OpenClaim.holds_of_wide 5 Try.f5 rfl rfl rfl rfl rfl rfl rfl ⟨rfl, rfl, rfl, rfl, rfl⟩ rfl rfl rfl rfl rfl (by kernel_rfl) Try.func5 (by kernel_rfl)
    (of_decide_eq_true (by kernel_rfl)) (by unfold Func.isWrapper; first | (rw [if_pos (by decide +kernel)]; kernel_rfl) | (rw [if_neg (by decide +kernel)]; exact ⟨rfl, rfl⟩))
    (fun os started H enc _ => lifted os started H enc)
theorem proved : Rows.FnExactTrappedCellsSaid := over
#print axioms proved
end Go.Proofs.Ytlfomjhjeknnmaa.fnExactTrappedCells
namespace Go.Proofs.Ytlfomjhjeknnmaa
/-- The row, under a short name, for the claim. -/
theorem fnExactTrappedCells_holds : Rows.FnExactTrappedCellsSaid := fnExactTrappedCells.proved
end Go.Proofs.Ytlfomjhjeknnmaa
