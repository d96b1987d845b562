-- Written by a program of this session (xprint.py), out of the translation and of hand-written contracts. Lean checks it.
import Derived.Test.YtdloifaaoiollaaRows
import Derived.Test.YtdloifaaoiollaaXlawsFnExactDaysOpen
import Derived.Test.YtdloifaaoiollaaXPureFnExactDaysOpen
import Derived.WalkKit
import Derived.ProofKit
import Derived.OpenShut
import Derived.ShutString
import Derived.ChangeOld
import Derived.Below
import Derived.SizedLaws
import Derived.ChangeArms
import Derived.Test.YtdloifaaoiollaaWd
namespace Go.Proofs.Ytdloifaaoiollaa.fnExactDaysOpen
open Go.ChangeShapes Go.WideShapes Go.ChangeAt Go.RowKit
open Go.ChangeMaps (open_string shut_string)
set_option linter.unusedVariables false
theorem own : ownKnob Try.prog.godebug = none := by kernel_rfl
theorem laidOut : laidOutB Try.prog = true := by kernel_rfl
def IsRow (k : IntKind) (w : World) (a : Option Addr) (len cap : Nat) (zs : List Int) : Prop :=
  (a = none ∧ len = 0 ∧ cap = 0 ∧ zs = []) ∨
  ∃ x, a = some x ∧ len ≤ cap ∧ cap ≤ maxLen ∧ zs.length = cap ∧ (∀ i, i < zs.length → w.cell? (x.add i) = some (.int k (zs.getD i 0))) ∧ ∀ n ∈ zs, (Lit.int k n).wf = true
set_option maxRecDepth 100000 in
theorem open64 {H : Type} {enc : TypeId × Value → H} {W : World} {base b0 : Nat} {sp : Nat → Bool} {held : Bool} {r : Reach} {v : Value} {d : DataW H} {p : List MemPlace} (hv : Value.okWide Try.prog W r b0 64 v) (h : DataW.Trod enc Try.prog W base sp held 64 v d p) {ts : List TypeId} {ds : List (DataW H)} {j : Nat} (hsz : (DataW.weightsEach Try.prog ts ds).all (· ≤ reachBytes) = true) (ht : ts[j]? = some 64) (hd : ds[j]? = some d) (hsp : ∀ b, sp b = true) :
    ∃ (a0 : Int) (a1 : Int) (a2 : Int) (a3 : Option Addr) (len3 cap3 : Nat) (z3 : List Int) (a4 : Int), v = .agg #[.int .i64 a0, .int .i64 a1, .int .i64 a2, .slice a3 len3 cap3, .int .i64 a4] ∧ (Lit.int .i64 a0).wf = true ∧ (Lit.int .i64 a1).wf = true ∧ (Lit.int .i64 a2).wf = true ∧ IsRow .i64 W a3 len3 cap3 z3 ∧ len3 * 8 ≤ 140737488351232 ∧ (Lit.int .i64 a4).wf = true := by
  obtain ⟨cs, rfl, hcsz⟩ := okWide_struct Try.underlying64 hv
  obtain ⟨l⟩ := cs
  have hC : Try.prog.cellsOf 64 = 5 := by kernel_rfl
  match l, hcsz.trans hC with
  | [c0, c1, c2, c3, c4], _ =>
    obtain ⟨fuel, hf⟩ := h
    obtain ⟨xs1, n1, _, hx1, _, hl1, hg1⟩ := DataW.trod_struct Try.underlying64 hf
    obtain ⟨hd1, _⟩ := Prod.mk.inj hx1
    have hw1 : (DataW.weightsEach Try.prog [25, 32, 3] (xs1.map (·.1))).all (· ≤ reachBytes) = true := by
      rw [List.all_eq_true]; intro n hn
      exact List.all_eq_true.1 hsz n (DataW.weights_mem_each ht hd n (by rw [hd1]; unfold DataW.weights; rw [Try.underlying64]; exact hn))
    have e2 := hg1 0 _ rfl
    have hx2 : ∃ y, xs1[0]? = some y := ⟨_, List.getElem?_eq_getElem (Nat.lt_of_lt_of_eq (by decide : 0 < 3) (Eq.symm hl1))⟩
    obtain ⟨y2, hy2⟩ := hx2
    rw [hy2] at e2
    replace e2 : DataW.trod enc Try.prog W base sp held n1 25 [c0, c1, c2] = some y2 := by
      have hk : Try.prog.cellsOf 25 = 3 := by kernel_rfl
      simpa [hk, Value.cells] using e2
    obtain ⟨xs3, n3, _, hx3, _, hl3, hg3⟩ := DataW.trod_struct Try.underlying25 e2
    have e4 := hg3 0 _ rfl
    have hx4 : ∃ y, xs3[0]? = some y := ⟨_, List.getElem?_eq_getElem (Nat.lt_of_lt_of_eq (by decide : 0 < 2) (Eq.symm hl3))⟩
    obtain ⟨y4, hy4⟩ := hx4
    rw [hy4] at e4
    replace e4 : DataW.trod enc Try.prog W base sp held n3 23 [c0, c1] = some y4 := by
      have hk : Try.prog.cellsOf 23 = 2 := by kernel_rfl
      simpa [hk, Value.cells] using e4
    obtain ⟨xs5, n5, _, hx5, _, hl5, hg5⟩ := DataW.trod_struct Try.underlying23 e4
    have e6 := hg5 0 _ rfl
    have hx6 : ∃ y, xs5[0]? = some y := ⟨_, List.getElem?_eq_getElem (Nat.lt_of_lt_of_eq (by decide : 0 < 2) (Eq.symm hl5))⟩
    obtain ⟨y6, hy6⟩ := hx6
    rw [hy6] at e6
    replace e6 : DataW.trod enc Try.prog W base sp held n5 3 [c0] = some y6 := by
      have hk : Try.prog.cellsOf 3 = 1 := by kernel_rfl
      simpa [hk, Value.cells] using e6
    have e7 := hg5 1 _ rfl
    have hx7 : ∃ y, xs5[1]? = some y := ⟨_, List.getElem?_eq_getElem (Nat.lt_of_lt_of_eq (by decide : 1 < 2) (Eq.symm hl5))⟩
    obtain ⟨y7, hy7⟩ := hx7
    rw [hy7] at e7
    replace e7 : DataW.trod enc Try.prog W base sp held n5 3 [c1] = some y7 := by
      have hk : Try.prog.cellsOf 3 = 1 := by kernel_rfl
      simpa [hk, Value.cells] using e7
    have e8 := hg3 1 _ rfl
    have hx8 : ∃ y, xs3[1]? = some y := ⟨_, List.getElem?_eq_getElem (Nat.lt_of_lt_of_eq (by decide : 1 < 2) (Eq.symm hl3))⟩
    obtain ⟨y8, hy8⟩ := hx8
    rw [hy8] at e8
    replace e8 : DataW.trod enc Try.prog W base sp held n3 3 [c2] = some y8 := by
      have hk : Try.prog.cellsOf 3 = 1 := by kernel_rfl
      simpa [hk, Value.cells] using e8
    have e9 := hg1 1 _ rfl
    have hx9 : ∃ y, xs1[1]? = some y := ⟨_, List.getElem?_eq_getElem (Nat.lt_of_lt_of_eq (by decide : 1 < 3) (Eq.symm hl1))⟩
    obtain ⟨y9, hy9⟩ := hx9
    rw [hy9] at e9
    replace e9 : DataW.trod enc Try.prog W base sp held n1 32 [c3] = some y9 := by
      have hk : Try.prog.cellsOf 32 = 1 := by kernel_rfl
      simpa [hk, Value.cells] using e9
    have e10 := hg1 2 _ rfl
    have hx10 : ∃ y, xs1[2]? = some y := ⟨_, List.getElem?_eq_getElem (Nat.lt_of_lt_of_eq (by decide : 2 < 3) (Eq.symm hl1))⟩
    obtain ⟨y10, hy10⟩ := hx10
    rw [hy10] at e10
    replace e10 : DataW.trod enc Try.prog W base sp held n1 3 [c4] = some y10 := by
      have hk : Try.prog.cellsOf 3 = 1 := by kernel_rfl
      simpa [hk, Value.cells] using e10
    obtain ⟨a0, hc0, _, w0⟩ := DataW.trod_int Try.underlying3 e6
    simp only [List.cons.injEq, and_true] at hc0
    subst hc0
    obtain ⟨a1, hc1, _, w1⟩ := DataW.trod_int Try.underlying3 e7
    simp only [List.cons.injEq, and_true] at hc1
    subst hc1
    obtain ⟨a2, hc2, _, w2⟩ := DataW.trod_int Try.underlying3 e8
    simp only [List.cons.injEq, and_true] at hc2
    subst hc2
    have o9 : ∃ a len cap zs, c3 = .slice a len cap ∧ IsRow .i64 W a len cap zs := by
      rcases open_ints Try.underlying32 Try.underlying3 (by kernel_rfl) e9 with ⟨hcs, _⟩ | ⟨x, l, c, zs, hcs, _, hl, hm, hz, _, hcell, hwz⟩
      · simp only [List.cons.injEq, and_true] at hcs
        subst hcs
        exact ⟨_, _, _, [], rfl, .inl ⟨rfl, rfl, rfl, rfl⟩⟩
      · simp only [List.cons.injEq, and_true] at hcs
        subst hcs
        exact ⟨_, _, _, zs, rfl, .inr ⟨_, rfl, hl, hm, by simpa [hsp] using hz, hcell, hwz⟩⟩
    obtain ⟨a3, len3, cap3, z3, rfl, w3⟩ := o9
    have y3 := Go.Proofs.YtdloifaaoiollaaW.PrintWords.sized_ints (ps := y9.2) (d := y9.1) hw1 (j := 1) (t := 32) rfl (by simp [hy9]) Try.underlying32 Try.underlying3 (by kernel_rfl) (B := 8) (by kernel_rfl) ⟨n1, by simpa [Value.cells] using e9⟩
    obtain ⟨a4, hc4, _, w4⟩ := DataW.trod_int Try.underlying3 e10
    simp only [List.cons.injEq, and_true] at hc4
    subst hc4
    exact ⟨a0, a1, a2, a3, len3, cap3, z3, a4, rfl, w0, w1, w2, w3, y3, w4⟩
set_option maxRecDepth 100000 in
theorem lifted (os : Os) (started : os.Started) (H : Type) (enc : TypeId × Value → H) :
    ReturnsInHanded {} Try.checked os 13 .any (Rows.fnExactDaysOpenSpec.pre6 enc Try.prog Try.f13 Rows.fnExactDaysOpenRow.domain false) (Rows.fnExactDaysOpenSpec.post enc Try.prog Try.f13 false true false false) := by
  refine returnsInHanded_of_change_sized (C := Try.checked) own started (by kernel_rfl) Try.func13
    (ChangeSpec.witness6 (enc := enc) (C := Try.checked) false ⟨#[], #[.agg #[.int .i64 0, .int .i64 0, .int .i64 0, .slice none 0 0, .int .i64 0], .int .i64 0], []⟩ 8 (by kernel_rfl) (by kernel_rfl) (by kernel_rfl) (by kernel_rfl)) ?_
  intro W base args ds gs before hval0 hW hcnd hsz0 _
  have hsz : (DataW.weightsEach Try.prog (Try.f13.params.toList ++ Rows.fnExactDaysOpenSpec.plain.varTypes Try.prog) (ds ++ gs)).all (· ≤ reachBytes) = true := hsz0
  have hval : ∀ (j : Nat) t v, Try.f13.params[j]? = some t → args[j]? = some v → Value.okWide Try.prog W .any base t v := hval0
  have hW' := hW
  obtain ⟨p, q, hA0, hV, rfl, hfz, hnd⟩ := hW
  have hA : DataW.TrodAll enc Try.prog W 0 (fun _ => true) true Try.f13.params.toList args.toList ds p := hA0
  rw [Try.params13] at hA hval hsz
  obtain ⟨v0, vs0, d0, ds0, p0, q0, hargs, rfl, rfl, h0, r0⟩ := trodAll_cons hA
  obtain ⟨v1, vs1, d1, ds1, p1, q1, rfl, rfl, rfl, h1, r1⟩ := trodAll_cons r0
  obtain ⟨rfl, rfl, rfl⟩ := trodAll_nil r1
  obtain rfl : args = #[v0, v1] := by cases args; simp_all
  obtain ⟨rfl, rfl⟩ := trodVars_none hV
  have k0 := h0
  have lt0 : ∀ x ∈ p0, x.block < W.heap.size := by obtain ⟨m, hm⟩ := k0; exact DataW.trod_lt m _ _ _ hm
  obtain ⟨a0_0, a0_1, a0_2, a0_3, len0_3, cap0_3, z0_3, a0_4, rfl, w0_0, w0_1, w0_2, w0_3, y0_3, w0_4⟩ := open64 (hval 0 64 v0 rfl rfl) h0 hsz (j := 0) rfl rfl (fun _ => rfl)
  obtain ⟨a1, rfl, rfl, rfl, w1⟩ := open_int Try.underlying3 (hval 1 3 v1 rfl rfl) h1
  clear hA0 hval0 hsz0 hsz
  refine (X.laws_FnExactDaysOpen.walk Pure.FnExactDaysOpen a0_0 a0_1 a0_2 a0_3 len0_3 cap0_3 z0_3 a0_4 a1 W w0_0 w0_1 w0_2 w0_3 y0_3 w0_4 w1).mono fun e W' ⟨he, bel⟩ => ?_
  subst he
  exact ⟨_, rfl, _, _, _, [], _, [], hW', trodAll_mk1 (shut_bool Try.underlying4 _), (trodAll_cons_mk (Below.trod laidOut (by kernel_rfl) (of_decide_eq_true (by kernel_rfl)) k0 bel lt0) (trodAll_cons_mk (shut_int Try.underlying3 w1) trodAll_mk0)), rfl, bel.frame _, fun h => by cases h⟩
theorem over : Rows.fnExactDaysOpenRow.holds Try.pinned (OpenSpec.ofChange Rows.fnExactDaysOpenSpec) :=
  OpenClaim.holds_of_wide 13 Try.f13 rfl rfl rfl rfl rfl rfl rfl ⟨rfl, rfl, rfl, rfl, rfl⟩ rfl rfl rfl rfl rfl (by kernel_rfl) Try.func13 (by kernel_rfl)
    (of_decide_eq_true (by kernel_rfl)) (by unfold Func.isWrapper; first | (rw [if_pos (by decide +kernel)]; kernel_rfl) | (rw [if_neg (by decide +kernel)]; exact ⟨rfl, rfl⟩))
    (fun os started H enc _ => lifted os started H enc)
theorem proved : Rows.FnExactDaysOpenSaid := over
#print axioms proved
end Go.Proofs.Ytdloifaaoiollaa.fnExactDaysOpen
namespace Go.Proofs.Ytdloifaaoiollaa
/-- The row, under a short name, for the claim. -/
theorem fnExactDaysOpen_holds : Rows.FnExactDaysOpenSaid := fnExactDaysOpen.proved
end Go.Proofs.Ytdloifaaoiollaa
