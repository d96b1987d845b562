-- Written by a program of this session (xprint.py), out of the translation and of hand-written contracts. Lean checks it.
import Derived.Test.YtjmbnlemfdjkfaaRows
import Derived.Test.YtjmbnlemfdjkfaaXlawsFnExactFirstMeeting
import Derived.Test.YtjmbnlemfdjkfaaXPureFnExactFirstMeeting
import Derived.WalkKit
import Derived.ProofKit
import Derived.OpenShut
import Derived.ShutString
import Derived.ChangeOld
import Derived.Below
import Derived.SizedLaws
import Derived.ChangeArms
import Derived.Test.YtjmbnlemfdjkfaaWd
namespace Go.Proofs.Ytjmbnlemfdjkfaa.fnExactFirstMeeting
open Go.ChangeShapes Go.WideShapes Go.ChangeAt Go.RowKit
open Go.ChangeMaps (open_string shut_string)
set_option linter.unusedVariables false
theorem own : ownKnob Try.prog.godebug = none := by kernel_rfl
theorem laidOut : laidOutB Try.prog = true := by kernel_rfl
def IsRow (k : IntKind) (w : World) (a : Option Addr) (len cap : Nat) (zs : List Int) : Prop :=
  (a = none ∧ len = 0 ∧ cap = 0 ∧ zs = []) ∨
  ∃ x, a = some x ∧ len ≤ cap ∧ cap ≤ maxLen ∧ zs.length = cap ∧ (∀ i, i < zs.length → w.cell? (x.add i) = some (.int k (zs.getD i 0))) ∧ ∀ n ∈ zs, (Lit.int k n).wf = true
set_option maxRecDepth 100000 in
theorem open23 {H : Type} {enc : TypeId × Value → H} {W : World} {base b0 : Nat} {sp : Nat → Bool} {held : Bool} {r : Reach} {v : Value} {d : DataW H} {p : List MemPlace} (hv : Value.okWide Try.prog W r b0 23 v) (h : DataW.Trod enc Try.prog W base sp held 23 v d p) :
    ∃ (a0 : Int) (a1 : Int), v = .agg #[.int .i64 a0, .int .i64 a1] ∧ (Lit.int .i64 a0).wf = true ∧ (Lit.int .i64 a1).wf = true := by
  obtain ⟨cs, rfl, hcsz⟩ := okWide_struct Try.underlying23 hv
  obtain ⟨l⟩ := cs
  have hC : Try.prog.cellsOf 23 = 2 := by kernel_rfl
  match l, hcsz.trans hC with
  | [c0, c1], _ =>
    obtain ⟨fuel, hf⟩ := h
    obtain ⟨xs1, n1, _, hx1, _, hl1, hg1⟩ := DataW.trod_struct Try.underlying23 hf
    have e2 := hg1 0 _ rfl
    have hx2 : ∃ y, xs1[0]? = some y := ⟨_, List.getElem?_eq_getElem (Nat.lt_of_lt_of_eq (by decide : 0 < 2) (Eq.symm hl1))⟩
    obtain ⟨y2, hy2⟩ := hx2
    rw [hy2] at e2
    replace e2 : DataW.trod enc Try.prog W base sp held n1 3 [c0] = some y2 := by
      have hk : Try.prog.cellsOf 3 = 1 := by kernel_rfl
      simpa [hk, Value.cells] using e2
    have e3 := hg1 1 _ rfl
    have hx3 : ∃ y, xs1[1]? = some y := ⟨_, List.getElem?_eq_getElem (Nat.lt_of_lt_of_eq (by decide : 1 < 2) (Eq.symm hl1))⟩
    obtain ⟨y3, hy3⟩ := hx3
    rw [hy3] at e3
    replace e3 : DataW.trod enc Try.prog W base sp held n1 3 [c1] = some y3 := by
      have hk : Try.prog.cellsOf 3 = 1 := by kernel_rfl
      simpa [hk, Value.cells] using e3
    obtain ⟨a0, hc0, _, w0⟩ := DataW.trod_int Try.underlying3 e2
    simp only [List.cons.injEq, and_true] at hc0
    subst hc0
    obtain ⟨a1, hc1, _, w1⟩ := DataW.trod_int Try.underlying3 e3
    simp only [List.cons.injEq, and_true] at hc1
    subst hc1
    exact ⟨a0, a1, rfl, w0, w1⟩
set_option maxRecDepth 100000 in
theorem open25 {H : Type} {enc : TypeId × Value → H} {W : World} {base b0 : Nat} {sp : Nat → Bool} {held : Bool} {r : Reach} {v : Value} {d : DataW H} {p : List MemPlace} (hv : Value.okWide Try.prog W r b0 25 v) (h : DataW.Trod enc Try.prog W base sp held 25 v d p) :
    ∃ (a0 : Int) (a1 : Int) (a2 : Int) (a3 : Int), v = .agg #[.int .i64 a0, .int .i64 a1, .int .i64 a2, .int .i64 a3] ∧ (Lit.int .i64 a0).wf = true ∧ (Lit.int .i64 a1).wf = true ∧ (Lit.int .i64 a2).wf = true ∧ (Lit.int .i64 a3).wf = true := by
  obtain ⟨cs, rfl, hcsz⟩ := okWide_struct Try.underlying25 hv
  obtain ⟨l⟩ := cs
  have hC : Try.prog.cellsOf 25 = 4 := by kernel_rfl
  match l, hcsz.trans hC with
  | [c0, c1, c2, c3], _ =>
    obtain ⟨fuel, hf⟩ := h
    obtain ⟨xs1, n1, _, hx1, _, hl1, hg1⟩ := DataW.trod_struct Try.underlying25 hf
    have e2 := hg1 0 _ rfl
    have hx2 : ∃ y, xs1[0]? = some y := ⟨_, List.getElem?_eq_getElem (Nat.lt_of_lt_of_eq (by decide : 0 < 4) (Eq.symm hl1))⟩
    obtain ⟨y2, hy2⟩ := hx2
    rw [hy2] at e2
    replace e2 : DataW.trod enc Try.prog W base sp held n1 3 [c0] = some y2 := by
      have hk : Try.prog.cellsOf 3 = 1 := by kernel_rfl
      simpa [hk, Value.cells] using e2
    have e3 := hg1 1 _ rfl
    have hx3 : ∃ y, xs1[1]? = some y := ⟨_, List.getElem?_eq_getElem (Nat.lt_of_lt_of_eq (by decide : 1 < 4) (Eq.symm hl1))⟩
    obtain ⟨y3, hy3⟩ := hx3
    rw [hy3] at e3
    replace e3 : DataW.trod enc Try.prog W base sp held n1 3 [c1] = some y3 := by
      have hk : Try.prog.cellsOf 3 = 1 := by kernel_rfl
      simpa [hk, Value.cells] using e3
    have e4 := hg1 2 _ rfl
    have hx4 : ∃ y, xs1[2]? = some y := ⟨_, List.getElem?_eq_getElem (Nat.lt_of_lt_of_eq (by decide : 2 < 4) (Eq.symm hl1))⟩
    obtain ⟨y4, hy4⟩ := hx4
    rw [hy4] at e4
    replace e4 : DataW.trod enc Try.prog W base sp held n1 3 [c2] = some y4 := by
      have hk : Try.prog.cellsOf 3 = 1 := by kernel_rfl
      simpa [hk, Value.cells] using e4
    have e5 := hg1 3 _ rfl
    have hx5 : ∃ y, xs1[3]? = some y := ⟨_, List.getElem?_eq_getElem (Nat.lt_of_lt_of_eq (by decide : 3 < 4) (Eq.symm hl1))⟩
    obtain ⟨y5, hy5⟩ := hx5
    rw [hy5] at e5
    replace e5 : DataW.trod enc Try.prog W base sp held n1 3 [c3] = some y5 := by
      have hk : Try.prog.cellsOf 3 = 1 := by kernel_rfl
      simpa [hk, Value.cells] using e5
    obtain ⟨a0, hc0, _, w0⟩ := DataW.trod_int Try.underlying3 e2
    simp only [List.cons.injEq, and_true] at hc0
    subst hc0
    obtain ⟨a1, hc1, _, w1⟩ := DataW.trod_int Try.underlying3 e3
    simp only [List.cons.injEq, and_true] at hc1
    subst hc1
    obtain ⟨a2, hc2, _, w2⟩ := DataW.trod_int Try.underlying3 e4
    simp only [List.cons.injEq, and_true] at hc2
    subst hc2
    obtain ⟨a3, hc3, _, w3⟩ := DataW.trod_int Try.underlying3 e5
    simp only [List.cons.injEq, and_true] at hc3
    subst hc3
    exact ⟨a0, a1, a2, a3, rfl, w0, w1, w2, w3⟩
set_option maxRecDepth 100000 in
theorem lifted (os : Os) (started : os.Started) (H : Type) (enc : TypeId × Value → H) :
    ReturnsInHanded {} Try.checked os 3 .any (Rows.fnExactFirstMeetingSpec.pre6 enc Try.prog Try.f3 Rows.fnExactFirstMeetingRow.domain false) (Rows.fnExactFirstMeetingSpec.post enc Try.prog Try.f3 false true false false) := by
  refine returnsInHanded_of_change_sized (C := Try.checked) own started (by kernel_rfl) Try.func3
    (ChangeSpec.witness6 (enc := enc) (C := Try.checked) false ⟨#[], #[.agg #[.int .i64 0, .int .i64 0], .agg #[.int .i64 0, .int .i64 0, .int .i64 0, .int .i64 0]], []⟩ 8 (by kernel_rfl) (by kernel_rfl) (by kernel_rfl) (by kernel_rfl)) ?_
  intro W base args ds gs before hval0 hW hcnd hsz0 _
  have hsz : (DataW.weightsEach Try.prog (Try.f3.params.toList ++ Rows.fnExactFirstMeetingSpec.plain.varTypes Try.prog) (ds ++ gs)).all (· ≤ reachBytes) = true := hsz0
  have hval : ∀ (j : Nat) t v, Try.f3.params[j]? = some t → args[j]? = some v → Value.okWide Try.prog W .any base t v := hval0
  have hW' := hW
  obtain ⟨p, q, hA0, hV, rfl, hfz, hnd⟩ := hW
  have hA : DataW.TrodAll enc Try.prog W 0 (fun _ => true) true Try.f3.params.toList args.toList ds p := hA0
  rw [Try.params3] at hA hval hsz
  obtain ⟨v0, vs0, d0, ds0, p0, q0, hargs, rfl, rfl, h0, r0⟩ := trodAll_cons hA
  obtain ⟨v1, vs1, d1, ds1, p1, q1, rfl, rfl, rfl, h1, r1⟩ := trodAll_cons r0
  obtain ⟨rfl, rfl, rfl⟩ := trodAll_nil r1
  obtain rfl : args = #[v0, v1] := by cases args; simp_all
  obtain ⟨rfl, rfl⟩ := trodVars_none hV
  have k0 := h0
  have lt0 : ∀ x ∈ p0, x.block < W.heap.size := by obtain ⟨m, hm⟩ := k0; exact DataW.trod_lt m _ _ _ hm
  obtain ⟨a0_0, a0_1, rfl, w0_0, w0_1⟩ := open23 (hval 0 23 v0 rfl rfl) h0
  have k1 := h1
  have lt1 : ∀ x ∈ p1, x.block < W.heap.size := by obtain ⟨m, hm⟩ := k1; exact DataW.trod_lt m _ _ _ hm
  obtain ⟨a1_0, a1_1, a1_2, a1_3, rfl, w1_0, w1_1, w1_2, w1_3⟩ := open25 (hval 1 25 v1 rfl rfl) h1
  clear hA0 hval0 hsz0 hsz
  refine (X.laws_FnExactFirstMeeting.walk Pure.FnExactFirstMeeting a0_0 a0_1 a1_0 a1_1 a1_2 a1_3 W w0_0 w0_1 w1_0 w1_1 w1_2 w1_3).mono fun e W' ⟨he, bel⟩ => ?_
  subst he
  exact ⟨_, rfl, _, _, _, [], _, [], hW', trodAll_mk1 (shut_bool Try.underlying4 _), (trodAll_cons_mk (Below.trod laidOut (by kernel_rfl) (of_decide_eq_true (by kernel_rfl)) k0 bel lt0) (trodAll_cons_mk (Below.trod laidOut (by kernel_rfl) (of_decide_eq_true (by kernel_rfl)) k1 bel lt1) trodAll_mk0)), rfl, bel.frame _, fun h => by cases h⟩
theorem over : Rows.fnExactFirstMeetingRow.holds Try.pinned (OpenSpec.ofChange Rows.fnExactFirstMeetingSpec) :=
  OpenClaim.holds_of_wide 3 Try.f3 rfl rfl rfl rfl rfl rfl rfl ⟨rfl, rfl, rfl, rfl, rfl⟩ rfl rfl rfl rfl rfl (by kernel_rfl) Try.func3 (by kernel_rfl)
    (of_decide_eq_true (by kernel_rfl)) (by unfold Func.isWrapper; first | (rw [if_pos (by decide +kernel)]; kernel_rfl) | (rw [if_neg (by decide +kernel)]; exact ⟨rfl, rfl⟩))
    (fun os started H enc _ => lifted os started H enc)
theorem proved : Rows.FnExactFirstMeetingSaid := over
#print axioms proved
end Go.Proofs.Ytjmbnlemfdjkfaa.fnExactFirstMeeting
namespace Go.Proofs.Ytjmbnlemfdjkfaa
/-- The row, under a short name, for the claim. -/
theorem fnExactFirstMeeting_holds : Rows.FnExactFirstMeetingSaid := fnExactFirstMeeting.proved
end Go.Proofs.Ytjmbnlemfdjkfaa
