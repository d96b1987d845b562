-- Written by a program of this session (xprint.py), out of the translation and of hand-written contracts. Lean checks it.
import Derived.Test.YtbdodiaedocmjaaDoorRows
import Derived.Test.YtbdodiaedocmjaaDoorTie
import Derived.Test.YtbdodiaedocmjaaDoorCards
import Derived.LaidMore
import Derived.Stop.Joined
import Derived.SevenTiedAt
import Derived.Test.YtbdodiaedocmjaaDoorXlawsFnExactSwapsBetween
import Derived.Test.YtbdodiaedocmjaaDoorXPureFnExactSwapsBetween
import Derived.WalkKit
import Derived.ProofKit
import Derived.OpenShut
import Derived.ShutString
import Derived.ChangeOld
import Derived.Below
import Derived.SizedLaws
import Derived.ChangeArms
import Derived.Test.YtbdodiaedocmjaaDoorWd
namespace Go.Proofs.YtbdodiaedocmjaaDoor.fnExactSwapsBetween
open Go.ChangeShapes Go.WideShapes Go.ChangeAt Go.RowKit
open Go.ChangeMaps (open_string shut_string)
set_option linter.unusedVariables false
theorem own : ownKnob Tryd.prog.godebug = none := by kernel_rfl
def laid2 : List (String × DataW Unit) := [("math/bits.deBruijn32tab", Rows.laid_math_bits_deBruijn32tab), ("math/bits.deBruijn64tab", Rows.laid_math_bits_deBruijn64tab)]
theorem g0 : Tryd.prog.globalNamed "math/bits.deBruijn32tab" = some 0 := by kernel_rfl
theorem g1 : Tryd.prog.globalNamed "math/bits.deBruijn64tab" = some 1 := by kernel_rfl
theorem t1 : (Tryd.prog.globals[1]?).map (·.type) = some 63 := by kernel_rfl
theorem u63 : Tryd.prog.underlying 63 = some (.array 64 5) := by kernel_rfl
theorem uu8 : Tryd.prog.underlying 5 = some (.int .u8) := by kernel_rfl
/-- The door's own heap meets the condition. -/
theorem door_met (os : Os) (args : Array Value) : laidMetH Tryd.prog laid2 ((World.doorLaid Tryd.prog 4000 os).forCall (fun _ _ => 0) ⟨#[], args, []⟩).memory :=
  laidMetH_of_parts3 (fuel := 8) (laidMet_of_run' 8 (by kernel_rfl) (by kernel_rfl)) (by kernel_rfl) (by kernel_rfl)
def tabList {H : Type} : List (DataW H) := Lib.deBruijn64tab.map fun n : Nat => .lit (.int .u8 (n : Int))
theorem laid64 {H : Type} : (Rows.laid_math_bits_deBruijn64tab : DataW H) = .agg tabList := rfl
/-- What the condition gives the walk: the table's cells. -/
theorem of_laid {W : World} (h : laidMetH Tryd.prog laid2 W) : X.TzTab W := by
  rw [MakeChecks.laidMetH_plain _ _ _ (by kernel_rfl)] at h
  obtain ⟨ps, ⟨g0', t0, cs0, f0, p0, q0, hg0, ht0, hv0, hd0, ⟨g1', t1', cs1, f1, p1, q1, hg1, ht1, hv1, hd1, _, _⟩, _⟩, _, _⟩ := h
  obtain rfl := Option.some.inj (g1.symm.trans hg1)
  obtain rfl := Option.some.inj (t1.symm.trans ht1)
  intro j hj
  obtain ⟨xs, m1, rfl, hx1, hlen, hn3, hel⟩ := DataW.trod_array u63 hd1
  have c8 : Tryd.prog.cellsOf 5 = 1 := by kernel_rfl
  have hj64 : j < 64 := hj
  have h0 := hel j hj64
  have hxj : j < xs.length := by omega
  rw [List.getElem?_eq_getElem hxj, c8] at h0
  simp only [Prod.mk.injEq] at hx1
  have hx2 : (tabList : List (DataW Unit)) = xs.map (·.1) := by
    have := hx1.1
    rw [laid64] at this
    injection this
  obtain ⟨k, e1, e2, _⟩ := DataW.trod_int uu8 h0
  have e3 : (xs.map (·.1))[j]? = some (.lit (.int .u8 k)) := by rw [List.getElem?_map, List.getElem?_eq_getElem hxj, e2]; rfl
  rw [← hx2] at e3
  unfold tabList at e3
  rw [List.getElem?_map, List.getElem?_eq_getElem hj] at e3
  have hk := Option.some.inj e3
  injection hk with hk
  injection hk with _ hk
  have hc := World.var?_cell hg1 hv1 j
  rw [hc]
  have e4 : ((cs1.toList.drop (j * 1)).take 1)[0]? = some (.int .u8 k) := by rw [e1]; rfl
  rw [List.getElem?_take_of_lt (by omega), List.getElem?_drop] at e4
  have e5 : cs1[j]? = some (.int .u8 k) := by simpa using e4
  rw [e5]
  subst hk
  rw [show Lib.deBruijn64tab.getD j 0 = Lib.deBruijn64tab[j] by rw [List.getD_eq_getElem?_getD, List.getElem?_eq_getElem hj]; rfl]
  rfl
theorem laidOut : laidOutB Tryd.prog = true := by kernel_rfl
def IsRow (k : IntKind) (w : World) (a : Option Addr) (len cap : Nat) (zs : List Int) : Prop :=
  (a = none ∧ len = 0 ∧ cap = 0 ∧ zs = []) ∨
  ∃ x, a = some x ∧ len ≤ cap ∧ cap ≤ maxLen ∧ zs.length = cap ∧ (∀ i, i < zs.length → w.cell? (x.add i) = some (.int k (zs.getD i 0))) ∧ ∀ n ∈ zs, (Lit.int k n).wf = true
set_option maxRecDepth 100000 in
theorem open25 {H : Type} {enc : TypeId × Value → H} {W : World} {base b0 : Nat} {sp : Nat → Bool} {held : Bool} {r : Reach} {v : Value} {d : DataW H} {p : List MemPlace} (hv : Value.okWide Tryd.prog W r b0 25 v) (h : DataW.Trod enc Tryd.prog W base sp held 25 v d p) :
    ∃ (a0 : Int) (a1 : Int) (a2 : Int), v = .agg #[.int .i64 a0, .int .i64 a1, .int .i64 a2] ∧ (Lit.int .i64 a0).wf = true ∧ (Lit.int .i64 a1).wf = true ∧ (Lit.int .i64 a2).wf = true := by
  obtain ⟨cs, rfl, hcsz⟩ := okWide_struct Tryd.underlying25 hv
  obtain ⟨l⟩ := cs
  have hC : Tryd.prog.cellsOf 25 = 3 := by kernel_rfl
  match l, hcsz.trans hC with
  | [c0, c1, c2], _ =>
    obtain ⟨fuel, hf⟩ := h
    obtain ⟨xs1, n1, _, hx1, _, hl1, hg1⟩ := DataW.trod_struct Tryd.underlying25 hf
    have e2 := hg1 0 _ rfl
    have hx2 : ∃ y, xs1[0]? = some y := ⟨_, List.getElem?_eq_getElem (Nat.lt_of_lt_of_eq (by decide : 0 < 2) (Eq.symm hl1))⟩
    obtain ⟨y2, hy2⟩ := hx2
    rw [hy2] at e2
    replace e2 : DataW.trod enc Tryd.prog W base sp held n1 23 [c0, c1] = some y2 := by
      have hk : Tryd.prog.cellsOf 23 = 2 := by kernel_rfl
      simpa [hk, Value.cells] using e2
    obtain ⟨xs3, n3, _, hx3, _, hl3, hg3⟩ := DataW.trod_struct Tryd.underlying23 e2
    have e4 := hg3 0 _ rfl
    have hx4 : ∃ y, xs3[0]? = some y := ⟨_, List.getElem?_eq_getElem (Nat.lt_of_lt_of_eq (by decide : 0 < 2) (Eq.symm hl3))⟩
    obtain ⟨y4, hy4⟩ := hx4
    rw [hy4] at e4
    replace e4 : DataW.trod enc Tryd.prog W base sp held n3 3 [c0] = some y4 := by
      have hk : Tryd.prog.cellsOf 3 = 1 := by kernel_rfl
      simpa [hk, Value.cells] using e4
    have e5 := hg3 1 _ rfl
    have hx5 : ∃ y, xs3[1]? = some y := ⟨_, List.getElem?_eq_getElem (Nat.lt_of_lt_of_eq (by decide : 1 < 2) (Eq.symm hl3))⟩
    obtain ⟨y5, hy5⟩ := hx5
    rw [hy5] at e5
    replace e5 : DataW.trod enc Tryd.prog W base sp held n3 3 [c1] = some y5 := by
      have hk : Tryd.prog.cellsOf 3 = 1 := by kernel_rfl
      simpa [hk, Value.cells] using e5
    have e6 := hg1 1 _ rfl
    have hx6 : ∃ y, xs1[1]? = some y := ⟨_, List.getElem?_eq_getElem (Nat.lt_of_lt_of_eq (by decide : 1 < 2) (Eq.symm hl1))⟩
    obtain ⟨y6, hy6⟩ := hx6
    rw [hy6] at e6
    replace e6 : DataW.trod enc Tryd.prog W base sp held n1 3 [c2] = some y6 := by
      have hk : Tryd.prog.cellsOf 3 = 1 := by kernel_rfl
      simpa [hk, Value.cells] using e6
    obtain ⟨a0, hc0, _, w0⟩ := DataW.trod_int Tryd.underlying3 e4
    simp only [List.cons.injEq, and_true] at hc0
    subst hc0
    obtain ⟨a1, hc1, _, w1⟩ := DataW.trod_int Tryd.underlying3 e5
    simp only [List.cons.injEq, and_true] at hc1
    subst hc1
    obtain ⟨a2, hc2, _, w2⟩ := DataW.trod_int Tryd.underlying3 e6
    simp only [List.cons.injEq, and_true] at hc2
    subst hc2
    exact ⟨a0, a1, a2, rfl, w0, w1, w2⟩
set_option maxRecDepth 100000 in
theorem lifted (os : Os) (started : os.Started) (H : Type) (enc : TypeId × Value → H) :
    ReturnsInHanded {} Tryd.checked os 4 .any (fun w args => (Rows.fnExactSwapsBetweenSpec.pre enc Tryd.prog Tryd.f4 [] false w args ∧ laidMetH Tryd.prog laid2 w) ∧ sizedMet enc Tryd.prog Tryd.f4 (OpenSpec.ofChange Rows.fnExactSwapsBetweenSpec) false w args) (Rows.fnExactSwapsBetweenSpec.post enc Tryd.prog Tryd.f4 false true false false) := by
  refine returnsInHanded_of_change_and (C := Tryd.checked) (X := fun w _ => laidMetH Tryd.prog laid2 w) (fun _ _ _ hh h => h.of_heap hh) own started (by kernel_rfl) Tryd.func4
    (ChangeSpec.witness_shaped (enc := enc) (C := Tryd.checked) (os := os) (X := fun w _ => laidMetH Tryd.prog laid2 w) false (World.doorLaid Tryd.prog 4000 os) #[.agg #[.int .i64 0, .int .i64 0, .int .i64 0], .agg #[.int .i64 0, .int .i64 0, .int .i64 0]] 8 rfl (World.shaped_of_RefB (by kernel_rfl) (by kernel_rfl)) (by kernel_rfl) (by kernel_rfl) (by kernel_rfl) (door_met os _)) ?_
  intro W base args ds gs before hval0 hW _ _ hL hsz0
  have hval : ∀ (j : Nat) t v, Tryd.f4.params[j]? = some t → args[j]? = some v → Value.okWide Tryd.prog W .any base t v := hval0
  have hW' := hW
  obtain ⟨p, q, hA0, hV, rfl, hfz, hnd⟩ := hW
  have hA : DataW.TrodAll enc Tryd.prog W 0 (fun _ => true) true Tryd.f4.params.toList args.toList ds p := hA0
  rw [Tryd.params4] at hA hval
  obtain ⟨v0, vs0, d0, ds0, p0, q0, hargs, rfl, rfl, h0, r0⟩ := trodAll_cons hA
  obtain ⟨v1, vs1, d1, ds1, p1, q1, rfl, rfl, rfl, h1, r1⟩ := trodAll_cons r0
  obtain ⟨rfl, rfl, rfl⟩ := trodAll_nil r1
  obtain rfl : args = #[v0, v1] := by cases args; simp_all
  obtain ⟨rfl, rfl⟩ := trodVars_none hV
  have k0 := h0
  have lt0 : ∀ x ∈ p0, x.block < W.heap.size := by obtain ⟨m, hm⟩ := k0; exact DataW.trod_lt m _ _ _ hm
  obtain ⟨a0_0, a0_1, a0_2, rfl, w0_0, w0_1, w0_2⟩ := open25 (hval 0 25 v0 rfl rfl) h0
  have k1 := h1
  have lt1 : ∀ x ∈ p1, x.block < W.heap.size := by obtain ⟨m, hm⟩ := k1; exact DataW.trod_lt m _ _ _ hm
  obtain ⟨a1_0, a1_1, a1_2, rfl, w1_0, w1_1, w1_2⟩ := open25 (hval 1 25 v1 rfl rfl) h1
  clear hA0 hval0
  refine (X.laws_FnExactSwapsBetween.walk Pure.FnExactSwapsBetween a0_0 a0_1 a0_2 a1_0 a1_1 a1_2 W w0_0 w0_1 w0_2 w1_0 w1_1 w1_2 (of_laid hL)).mono fun e W' ⟨he, bel⟩ => ?_
  subst he
  exact ⟨_, rfl, _, _, _, [], _, [], hW', trodAll_mk1 (shut_bool Tryd.underlying4 _), (trodAll_cons_mk (Below.trod laidOut (by kernel_rfl) (of_decide_eq_true (by kernel_rfl)) k0 bel lt0) (trodAll_cons_mk (Below.trod laidOut (by kernel_rfl) (of_decide_eq_true (by kernel_rfl)) k1 bel lt1) trodAll_mk0)), rfl, bel.frame _, fun h => by cases h⟩
theorem over : Rows.fnExactSwapsBetweenRow.holds Tryd.pinned (OpenSpec.ofChange Rows.fnExactSwapsBetweenSpec) :=
  OpenClaim.holds_of_wide 4 Tryd.f4 rfl rfl rfl rfl rfl rfl rfl ⟨rfl, rfl, rfl, rfl, rfl⟩ rfl rfl rfl rfl rfl (by kernel_rfl) Tryd.func4 (by kernel_rfl)
    (of_decide_eq_true (by kernel_rfl)) (by unfold Func.isWrapper; first | (rw [if_pos (by decide +kernel)]; kernel_rfl) | (rw [if_neg (by decide +kernel)]; exact ⟨rfl, rfl⟩))
    (fun os started H enc _ => lifted os started H enc)
theorem proved : Rows.FnExactSwapsBetweenSaid := over
#print axioms proved
end Go.Proofs.YtbdodiaedocmjaaDoor.fnExactSwapsBetween
namespace Go.Proofs.YtbdodiaedocmjaaDoor
/-- The row's statement. -/
theorem fnExactSwapsBetween_said : Rows.FnExactSwapsBetweenSaid := fnExactSwapsBetween.proved
theorem fnExactSwapsBetween_holds : Rows.FnExactSwapsBetweenCardSaid :=
  Claim7.holds_tied_plain_at .later [] [.data, .data] true (true, "a6256209d3a1fe13e39192223de372b8efce35010d7ad1b9bab66ec27574b121") false
    fnExactSwapsBetween_said (fun _ h => by cases h) (by kernel_rfl) (fun _ h => by cases h) fnExactSwapsBetween_row_tie rfl ⟨rfl, rfl⟩ (by kernel_rfl) rfl
    (fun f fn hf hfn => by
      obtain rfl : f = 4 := Option.some.inj ((show Tryd.prog.funcNamed "loop.example/g00990/laws.FnExactSwapsBetween" = some 4 by kernel_rfl).symm.trans hf) |>.symm
      obtain rfl : fn = Tryd.f4 := (Option.some.inj (Tryd.func4.symm.trans hfn)).symm
      exact ⟨by kernel_rfl, fun j t ht => by
        rw [Tryd.params4] at ht
        have hm : t ∈ [25, 25] := by simpa using Array.mem_of_getElem? ht
        have hall : ([25, 25].all fun u => !Tryd.prog.wantsStandIn u) = true := by kernel_rfl
        exact (show Tryd.prog.wantsStandIn t = false by simpa using List.all_eq_true.1 hall t hm)⟩)
    (by kernel_rfl)
end Go.Proofs.YtbdodiaedocmjaaDoor
