-- Written by a program of this session (xprint.py), out of the translation and of hand-written contracts. Lean checks it.
import Derived.Test.YtgnnkjgfkdaddaaDoorRows
import Derived.Test.YtgnnkjgfkdaddaaDoorTie
import Derived.Test.YtgnnkjgfkdaddaaDoorCards
import Derived.LaidMore
import Derived.Stop.Joined
import Derived.SevenTiedAt
import Derived.Test.YtgnnkjgfkdaddaaDoorXlawsFnExactCountReached
import Derived.Test.YtgnnkjgfkdaddaaDoorXPureFnExactCountReached
import Derived.WalkKit
import Derived.ProofKit
import Derived.OpenShut
import Derived.ShutString
import Derived.ChangeOld
import Derived.Below
import Derived.SizedLaws
import Derived.ChangeArms
import Derived.Test.YtgnnkjgfkdaddaaDoorWd
namespace Go.Proofs.YtgnnkjgfkdaddaaDoor.fnExactCountReached
open Go.ChangeShapes Go.WideShapes Go.ChangeAt Go.RowKit
open Go.ChangeMaps (open_string shut_string)
set_option linter.unusedVariables false
theorem own : ownKnob Tryd.prog.godebug = none := by kernel_rfl
def laid2 : List (String × DataW Unit) := [("math/bits.deBruijn32tab", Rows.laid_math_bits_deBruijn32tab), ("math/bits.deBruijn64tab", Rows.laid_math_bits_deBruijn64tab), ("internal/strconv.uint64pow10", Rows.laid_internal_strconv_uint64pow10)]
/-- The door's own heap meets the condition. -/
theorem door_met (os : Os) (args : Array Value) : laidMetH Tryd.prog laid2 ((World.doorLaid Tryd.prog 4000 os).forCall (fun _ _ => 0) ⟨#[], args, []⟩).memory :=
  laidMetH_of_parts3 (fuel := 8) (laidMet_of_run' 8 (by kernel_rfl) (by kernel_rfl)) (by kernel_rfl) (by kernel_rfl)
theorem laidOut : laidOutB Tryd.prog = true := by kernel_rfl
def IsRow (k : IntKind) (w : World) (a : Option Addr) (len cap : Nat) (zs : List Int) : Prop :=
  (a = none ∧ len = 0 ∧ cap = 0 ∧ zs = []) ∨
  ∃ x, a = some x ∧ len ≤ cap ∧ cap ≤ maxLen ∧ zs.length = cap ∧ (∀ i, i < zs.length → w.cell? (x.add i) = some (.int k (zs.getD i 0))) ∧ ∀ n ∈ zs, (Lit.int k n).wf = true
set_option maxRecDepth 100000 in
theorem open25 {H : Type} {enc : TypeId × Value → H} {W : World} {base b0 : Nat} {sp : Nat → Bool} {held : Bool} {r : Reach} {v : Value} {d : DataW H} {p : List MemPlace} (hv : Value.okWide Tryd.prog W r b0 25 v) (h : DataW.Trod enc Tryd.prog W base sp held 25 v d p) :
    ∃ (a0 : Int) (a1 : Int) (a2 : Int), v = .agg #[.int .i64 a0, .int .i64 a1, .int .i64 a2] ∧ (Lit.int .i64 a0).wf = true ∧ (Lit.int .i64 a1).wf = true ∧ (Lit.int .i64 a2).wf = true := by
  obtain ⟨cs, rfl, hcsz⟩ := okWide_struct Tryd.underlying25 hv
  obtain ⟨l⟩ := cs
  have hC : Tryd.prog.cellsOf 25 = 3 := by kernel_rfl
  match l, hcsz.trans hC with
  | [c0, c1, c2], _ =>
    obtain ⟨fuel, hf⟩ := h
    obtain ⟨xs1, n1, _, hx1, _, hl1, hg1⟩ := DataW.trod_struct Tryd.underlying25 hf
    have e2 := hg1 0 _ rfl
    have hx2 : ∃ y, xs1[0]? = some y := ⟨_, List.getElem?_eq_getElem (Nat.lt_of_lt_of_eq (by decide : 0 < 2) (Eq.symm hl1))⟩
    obtain ⟨y2, hy2⟩ := hx2
    rw [hy2] at e2
    replace e2 : DataW.trod enc Tryd.prog W base sp held n1 23 [c0, c1] = some y2 := by
      have hk : Tryd.prog.cellsOf 23 = 2 := by kernel_rfl
      simpa [hk, Value.cells] using e2
    obtain ⟨xs3, n3, _, hx3, _, hl3, hg3⟩ := DataW.trod_struct Tryd.underlying23 e2
    have e4 := hg3 0 _ rfl
    have hx4 : ∃ y, xs3[0]? = some y := ⟨_, List.getElem?_eq_getElem (Nat.lt_of_lt_of_eq (by decide : 0 < 2) (Eq.symm hl3))⟩
    obtain ⟨y4, hy4⟩ := hx4
    rw [hy4] at e4
    replace e4 : DataW.trod enc Tryd.prog W base sp held n3 3 [c0] = some y4 := by
      have hk : Tryd.prog.cellsOf 3 = 1 := by kernel_rfl
      simpa [hk, Value.cells] using e4
    have e5 := hg3 1 _ rfl
    have hx5 : ∃ y, xs3[1]? = some y := ⟨_, List.getElem?_eq_getElem (Nat.lt_of_lt_of_eq (by decide : 1 < 2) (Eq.symm hl3))⟩
    obtain ⟨y5, hy5⟩ := hx5
    rw [hy5] at e5
    replace e5 : DataW.trod enc Tryd.prog W base sp held n3 3 [c1] = some y5 := by
      have hk : Tryd.prog.cellsOf 3 = 1 := by kernel_rfl
      simpa [hk, Value.cells] using e5
    have e6 := hg1 1 _ rfl
    have hx6 : ∃ y, xs1[1]? = some y := ⟨_, List.getElem?_eq_getElem (Nat.lt_of_lt_of_eq (by decide : 1 < 2) (Eq.symm hl1))⟩
    obtain ⟨y6, hy6⟩ := hx6
    rw [hy6] at e6
    replace e6 : DataW.trod enc Tryd.prog W base sp held n1 3 [c2] = some y6 := by
      have hk : Tryd.prog.cellsOf 3 = 1 := by kernel_rfl
      simpa [hk, Value.cells] using e6
    obtain ⟨a0, hc0, _, w0⟩ := DataW.trod_int Tryd.underlying3 e4
    simp only [List.cons.injEq, and_true] at hc0
    subst hc0
    obtain ⟨a1, hc1, _, w1⟩ := DataW.trod_int Tryd.underlying3 e5
    simp only [List.cons.injEq, and_true] at hc1
    subst hc1
    obtain ⟨a2, hc2, _, w2⟩ := DataW.trod_int Tryd.underlying3 e6
    simp only [List.cons.injEq, and_true] at hc2
    subst hc2
    exact ⟨a0, a1, a2, rfl, w0, w1, w2⟩
set_option maxRecDepth 100000 in
theorem lifted (os : Os) (started : os.Started) (H : Type) (enc : TypeId × Value → H) :
    ReturnsInHanded {} Tryd.checked os 3 .any (fun w args => (Rows.fnExactCountReachedSpec.pre enc Tryd.prog Tryd.f3 [] false w args ∧ laidMetH Tryd.prog laid2 w) ∧ sizedMet enc Tryd.prog Tryd.f3 (OpenSpec.ofChange Rows.fnExactCountReachedSpec) false w args) (Rows.fnExactCountReachedSpec.post enc Tryd.prog Tryd.f3 false true false false) := by
  refine returnsInHanded_of_change_and (C := Tryd.checked) (X := fun w _ => laidMetH Tryd.prog laid2 w) (fun _ _ _ hh h => h.of_heap hh) own started (by kernel_rfl) Tryd.func3
    (ChangeSpec.witness_shaped (enc := enc) (C := Tryd.checked) (os := os) (X := fun w _ => laidMetH Tryd.prog laid2 w) false (World.doorLaid Tryd.prog 4000 os) #[.agg #[.int .i64 0, .int .i64 0, .int .i64 0], .slice none 0 0] 8 rfl (World.shaped_of_RefB (by kernel_rfl) (by kernel_rfl)) (by kernel_rfl) (by kernel_rfl) (by kernel_rfl) (door_met os _)) ?_
  intro W base args ds gs before hval0 hW hcnd hsz0 hL _
  have hsz : (DataW.weightsEach Tryd.prog (Tryd.f3.params.toList ++ Rows.fnExactCountReachedSpec.plain.varTypes Tryd.prog) (ds ++ gs)).all (· ≤ reachBytes) = true := hsz0
  have hval : ∀ (j : Nat) t v, Tryd.f3.params[j]? = some t → args[j]? = some v → Value.okWide Tryd.prog W .any base t v := hval0
  have hW' := hW
  obtain ⟨p, q, hA0, hV, rfl, hfz, hnd⟩ := hW
  have hA : DataW.TrodAll enc Tryd.prog W 0 (fun _ => true) true Tryd.f3.params.toList args.toList ds p := hA0
  rw [Tryd.params3] at hA hval hsz
  obtain ⟨v0, vs0, d0, ds0, p0, q0, hargs, rfl, rfl, h0, r0⟩ := trodAll_cons hA
  obtain ⟨v1, vs1, d1, ds1, p1, q1, rfl, rfl, rfl, h1, r1⟩ := trodAll_cons r0
  obtain ⟨rfl, rfl, rfl⟩ := trodAll_nil r1
  obtain rfl : args = #[v0, v1] := by cases args; simp_all
  obtain ⟨rfl, rfl⟩ := trodVars_none hV
  have k0 := h0
  have lt0 : ∀ x ∈ p0, x.block < W.heap.size := by obtain ⟨m, hm⟩ := k0; exact DataW.trod_lt m _ _ _ hm
  obtain ⟨a0_0, a0_1, a0_2, rfl, w0_0, w0_1, w0_2⟩ := open25 (hval 0 25 v0 rfl rfl) h0
  obtain ⟨a1, len1, cap1, rfl⟩ := okWide_slice Tryd.underlying26 (hval 1 26 v1 rfl rfl)
  have k1 := h1
  have lt1 : ∀ x ∈ p1, x.block < W.heap.size := by obtain ⟨m, hm⟩ := k1; exact DataW.trod_lt m _ _ _ hm
  obtain ⟨z1, w1⟩ : ∃ zs, IsRow .i64 W a1 len1 cap1 zs := by
    obtain ⟨fuel, hf⟩ := h1
    rcases open_ints Tryd.underlying26 Tryd.underlying3 (by kernel_rfl) hf with ⟨hcs, _⟩ | ⟨x, l, c, zs, hcs, _, hl, hm, hz, _, hcell, hwz⟩
    · simp [Value.cells] at hcs
      obtain ⟨rfl, rfl, rfl⟩ := hcs
      exact ⟨[], .inl ⟨rfl, rfl, rfl, rfl⟩⟩
    · simp [Value.cells] at hcs
      obtain ⟨rfl, rfl, rfl⟩ := hcs
      exact ⟨zs, .inr ⟨_, rfl, hl, hm, by simpa using hz, hcell, hwz⟩⟩
  have y1 : len1 * 8 ≤ 140737488351232 := Go.Proofs.YtgnnkjgfkdaddaaDoorW.PrintWords.sized_ints hsz (j := 1) (t := 26) rfl rfl Tryd.underlying26 Tryd.underlying3 (by kernel_rfl) (by kernel_rfl) h1
  clear hA0 hval0 hsz0 hsz
  refine (X.laws_FnExactCountReached.walk Pure.FnExactCountReached a0_0 a0_1 a0_2 a1 len1 cap1 z1 W w0_0 w0_1 w0_2 w1 y1).mono fun e W' ⟨he, bel⟩ => ?_
  subst he
  exact ⟨_, rfl, _, _, _, [], _, [], hW', trodAll_mk1 (shut_bool Tryd.underlying4 _), (trodAll_cons_mk (Below.trod laidOut (by kernel_rfl) (of_decide_eq_true (by kernel_rfl)) k0 bel lt0) (trodAll_cons_mk (Below.trod laidOut (by kernel_rfl) (of_decide_eq_true (by kernel_rfl)) k1 bel lt1) trodAll_mk0)), rfl, bel.frame _, fun h => by cases h⟩
theorem over : Rows.fnExactCountReachedRow.holds Tryd.pinned (OpenSpec.ofChange Rows.fnExactCountReachedSpec) :=
  OpenClaim.holds_of_wide 3 Tryd.f3 rfl rfl rfl rfl rfl rfl rfl ⟨rfl, rfl, rfl, rfl, rfl⟩ rfl rfl rfl rfl rfl (by kernel_rfl) Tryd.func3 (by kernel_rfl)
    (of_decide_eq_true (by kernel_rfl)) (by unfold Func.isWrapper; first | (rw [if_pos (by decide +kernel)]; kernel_rfl) | (rw [if_neg (by decide +kernel)]; exact ⟨rfl, rfl⟩))
    (fun os started H enc _ => lifted os started H enc)
theorem proved : Rows.FnExactCountReachedSaid := over
#print axioms proved
end Go.Proofs.YtgnnkjgfkdaddaaDoor.fnExactCountReached
namespace Go.Proofs.YtgnnkjgfkdaddaaDoor
/-- The row's statement. -/
theorem fnExactCountReached_said : Rows.FnExactCountReachedSaid := fnExactCountReached.proved
theorem fnExactCountReached_holds : Rows.FnExactCountReachedCardSaid :=
  Claim7.holds_tied_plain_at .later [] [.data, .data, .data] true (true, "378c5098444dcbe3c753fab24c9a551e860c143a7cf5cbbb373acae676d92b98") false
    fnExactCountReached_said (fun _ h => by cases h) (by kernel_rfl) (fun _ h => by cases h) fnExactCountReached_row_tie rfl ⟨rfl, rfl⟩ (by kernel_rfl) rfl
    (fun f fn hf hfn => by
      obtain rfl : f = 3 := Option.some.inj ((show Tryd.prog.funcNamed "loop.example/g00990/laws.FnExactCountReached" = some 3 by kernel_rfl).symm.trans hf) |>.symm
      obtain rfl : fn = Tryd.f3 := (Option.some.inj (Tryd.func3.symm.trans hfn)).symm
      exact ⟨by kernel_rfl, fun j t ht => by
        rw [Tryd.params3] at ht
        have hm : t ∈ [25, 26] := by simpa using Array.mem_of_getElem? ht
        have hall : ([25, 26].all fun u => !Tryd.prog.wantsStandIn u) = true := by kernel_rfl
        exact (show Tryd.prog.wantsStandIn t = false by simpa using List.all_eq_true.1 hall t hm)⟩)
    (by kernel_rfl)
end Go.Proofs.YtgnnkjgfkdaddaaDoor
