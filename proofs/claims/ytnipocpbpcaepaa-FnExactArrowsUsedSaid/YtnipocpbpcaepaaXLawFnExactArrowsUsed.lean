-- Written by a program of this session (xprint.py), out of the translation and of hand-written contracts. Lean checks it.
import Derived.Test.YtnipocpbpcaepaaRows
import Derived.Test.YtnipocpbpcaepaaXlawsFnExactArrowsUsed
import Derived.Test.YtnipocpbpcaepaaXPureFnExactArrowsUsed
import Derived.WalkKit
import Derived.ProofKit
import Derived.OpenShut
import Derived.ShutString
import Derived.ChangeOld
import Derived.Below
import Derived.SizedLaws
import Derived.ChangeArms
import Derived.Deep.Matrix
import Derived.Test.YtnipocpbpcaepaaWd
namespace Go.Proofs.Ytnipocpbpcaepaa.fnExactArrowsUsed
open Go.ChangeShapes Go.WideShapes Go.ChangeAt Go.RowKit Go.Deep Go.Proofs.YtnipocpbpcaepaaW.PrintWords Go.Proofs.Ytnipocpbpcaepaa.X
open Go.ChangeMaps (open_string shut_string)
set_option linter.unusedVariables false
theorem own : ownKnob Try.prog.godebug = none := by kernel_rfl
theorem laidOut : laidOutB Try.prog = true := by kernel_rfl
def IsRow (k : IntKind) (w : World) (a : Option Addr) (len cap : Nat) (zs : List Int) : Prop :=
  (a = none ∧ len = 0 ∧ cap = 0 ∧ zs = []) ∨
  ∃ x, a = some x ∧ len ≤ cap ∧ cap ≤ maxLen ∧ zs.length = cap ∧ (∀ i, i < zs.length → w.cell? (x.add i) = some (.int k (zs.getD i 0))) ∧ ∀ n ∈ zs, (Lit.int k n).wf = true
theorem openRows25 {H : Type} {enc : TypeId × Value → H} {w : World} {base fuel : Nat} {held : Bool} {t : TypeId} {cs : List Value} {x : DataW H × List MemPlace} (ht : Try.prog.underlying t = some (.slice 25)) (h : DataW.trod enc Try.prog w base (fun _ => true) held fuel t cs = some x) :
    ∃ (a : Option Addr) (len cap : Nat) (l : List (List Int)), cs = [.slice a len cap] ∧ Kd.C (Kd.slice 3 (Kd.int .i64)) w a len l ∧ len ≤ cap ∧ len ≤ maxLen ∧ l.length = len ∧ ∀ r ∈ l, r.length ≤ maxLen := by
  rcases open_int_rows ht Try.underlying25 Try.underlying3 (by kernel_rfl) (by kernel_rfl) h with ⟨hcs, _⟩ | ⟨a, len, cap, Ar, L, C, Z, hcs, _, hl, hm, _, hi⟩
  · exact ⟨none, 0, 0, [], hcs, ⟨rfl, by omega, fun z => absurd z (by omega)⟩, Nat.le_refl _, by unfold maxLen; omega, rfl, fun r hr => by cases hr⟩
  · have hlen : ∀ r, r < len → ((Z r).take (L r)).length = L r := fun r hr => by
      obtain ⟨_, h1, _, h3, _⟩ := hi r (by omega)
      rw [List.length_take, h3]
      omega
    refine ⟨some a, len, cap, (List.range len).map fun r => (Z r).take (L r), hcs, ⟨by simp, by unfold maxLen at hm; omega, fun hp => ⟨a, rfl, fun j p hj => ?_⟩⟩, hl, by omega, by simp, fun r hr => ?_⟩
    · have hj' : j < len := by have := (List.getElem?_eq_some_iff.1 hj).1; simpa using this
      rw [List.getElem?_map, List.getElem?_range hj'] at hj
      obtain rfl := Option.some.inj hj
      obtain ⟨h0, h1, h2, h3, _, h5, h6⟩ := hi j (by omega)
      refine ⟨[.slice (Ar j) ((Z j).take (L j)).length (C j)], rfl, ⟨Ar j, C j, rfl, by rw [hlen j hj']; exact h1, ?_⟩, fun i u hu => ?_⟩
      · refine Kd.C_of_reads (d := (0 : Int)) (h1 := fun _ => rfl) ⟨rfl, by rw [hlen j hj']; unfold maxLen at h2; omega, fun hp0 => ?_⟩
        rw [hlen j hj'] at hp0 ⊢
        cases hA : Ar j with
        | none => exact absurd (h5 hA) (by omega)
        | some a' =>
          refine ⟨a', rfl, fun c hc => ?_⟩
          rw [(h6 a' hA).2 c (by omega)]
          have e1 : ((Z j).take (L j)).getD c 0 = (Z j).getD c 0 := by
            rw [List.getD_eq_getElem?_getD, List.getD_eq_getElem?_getD, List.getElem?_take, if_pos hc]
          rw [e1]
      · cases i with
        | zero =>
          rw [List.getElem?_cons_zero] at hu
          obtain rfl := Option.some.inj hu
          show w.cell? (a.add (j * 1 + 0)) = _
          rw [Nat.mul_one, Nat.add_zero, h0, hlen j hj']
        | succ i => simp at hu
    · obtain ⟨j, hj, rfl⟩ := List.mem_map.1 hr
      have hj' : j < len := by simpa using hj
      obtain ⟨_, h1, h2, _⟩ := hi j (by omega)
      rw [hlen j hj']
      omega
set_option maxRecDepth 100000 in
theorem open23 {H : Type} {enc : TypeId × Value → H} {W : World} {base b0 : Nat} {sp : Nat → Bool} {held : Bool} {r : Reach} {v : Value} {d : DataW H} {p : List MemPlace} (hv : Value.okWide Try.prog W r b0 23 v) (h : DataW.Trod enc Try.prog W base sp held 23 v d p) :
    ∃ (a0 : Int) (a1 : Int), v = .agg #[.int .i64 a0, .int .i64 a1] ∧ (Lit.int .i64 a0).wf = true ∧ (Lit.int .i64 a1).wf = true := by
  obtain ⟨cs, rfl, hcsz⟩ := okWide_struct Try.underlying23 hv
  obtain ⟨l⟩ := cs
  have hC : Try.prog.cellsOf 23 = 2 := by kernel_rfl
  match l, hcsz.trans hC with
  | [c0, c1], _ =>
    obtain ⟨fuel, hf⟩ := h
    obtain ⟨xs1, n1, _, hx1, _, hl1, hg1⟩ := DataW.trod_struct Try.underlying23 hf
    have e2 := hg1 0 _ rfl
    have hx2 : ∃ y, xs1[0]? = some y := ⟨_, List.getElem?_eq_getElem (Nat.lt_of_lt_of_eq (by decide : 0 < 2) (Eq.symm hl1))⟩
    obtain ⟨y2, hy2⟩ := hx2
    rw [hy2] at e2
    replace e2 : DataW.trod enc Try.prog W base sp held n1 3 [c0] = some y2 := by
      have hk : Try.prog.cellsOf 3 = 1 := by kernel_rfl
      simpa [hk, Value.cells] using e2
    have e3 := hg1 1 _ rfl
    have hx3 : ∃ y, xs1[1]? = some y := ⟨_, List.getElem?_eq_getElem (Nat.lt_of_lt_of_eq (by decide : 1 < 2) (Eq.symm hl1))⟩
    obtain ⟨y3, hy3⟩ := hx3
    rw [hy3] at e3
    replace e3 : DataW.trod enc Try.prog W base sp held n1 3 [c1] = some y3 := by
      have hk : Try.prog.cellsOf 3 = 1 := by kernel_rfl
      simpa [hk, Value.cells] using e3
    obtain ⟨a0, hc0, _, w0⟩ := DataW.trod_int Try.underlying3 e2
    simp only [List.cons.injEq, and_true] at hc0
    subst hc0
    obtain ⟨a1, hc1, _, w1⟩ := DataW.trod_int Try.underlying3 e3
    simp only [List.cons.injEq, and_true] at hc1
    subst hc1
    exact ⟨a0, a1, rfl, w0, w1⟩
set_option maxRecDepth 100000 in
theorem lifted (os : Os) (started : os.Started) (H : Type) (enc : TypeId × Value → H) :
    ReturnsInHanded {} Try.checked os 3 .any (Rows.fnExactArrowsUsedSpec.pre6 enc Try.prog Try.f3 Rows.fnExactArrowsUsedRow.domain false) (Rows.fnExactArrowsUsedSpec.post enc Try.prog Try.f3 false true false false) := by
  refine returnsInHanded_of_change_sized (C := Try.checked) own started (by kernel_rfl) Try.func3
    (ChangeSpec.witness6 (enc := enc) (C := Try.checked) false ⟨#[], #[.agg #[.int .i64 0, .int .i64 0], .slice none 0 0, .slice none 0 0], []⟩ 8 (by kernel_rfl) (by kernel_rfl) (by kernel_rfl) (by kernel_rfl)) ?_
  intro W base args ds gs before hval0 hW hcnd hsz0 _
  have hsz : (DataW.weightsEach Try.prog (Try.f3.params.toList ++ Rows.fnExactArrowsUsedSpec.plain.varTypes Try.prog) (ds ++ gs)).all (· ≤ reachBytes) = true := hsz0
  have hval : ∀ (j : Nat) t v, Try.f3.params[j]? = some t → args[j]? = some v → Value.okWide Try.prog W .any base t v := hval0
  have hW' := hW
  obtain ⟨p, q, hA0, hV, rfl, hfz, hnd⟩ := hW
  have hA : DataW.TrodAll enc Try.prog W 0 (fun _ => true) true Try.f3.params.toList args.toList ds p := hA0
  rw [Try.params3] at hA hval hsz
  obtain ⟨v0, vs0, d0, ds0, p0, q0, hargs, rfl, rfl, h0, r0⟩ := trodAll_cons hA
  obtain ⟨v1, vs1, d1, ds1, p1, q1, rfl, rfl, rfl, h1, r1⟩ := trodAll_cons r0
  obtain ⟨v2, vs2, d2, ds2, p2, q2, rfl, rfl, rfl, h2, r2⟩ := trodAll_cons r1
  obtain ⟨rfl, rfl, rfl⟩ := trodAll_nil r2
  obtain rfl : args = #[v0, v1, v2] := by cases args; simp_all
  obtain ⟨rfl, rfl⟩ := trodVars_none hV
  have k0 := h0
  have lt0 : ∀ x ∈ p0, x.block < W.heap.size := by obtain ⟨m, hm⟩ := k0; exact DataW.trod_lt m _ _ _ hm
  obtain ⟨a0_0, a0_1, rfl, w0_0, w0_1⟩ := open23 (hval 0 23 v0 rfl rfl) h0
  obtain ⟨a1, len1, cap1, rfl⟩ := okWide_slice Try.underlying24 (hval 1 24 v1 rfl rfl)
  have k1 := h1
  have lt1 : ∀ x ∈ p1, x.block < W.heap.size := by obtain ⟨m, hm⟩ := k1; exact DataW.trod_lt m _ _ _ hm
  obtain ⟨l1, w1⟩ : ∃ l : List (List Int), Kd.C (Kd.slice 3 (Kd.int .i64)) W a1 len1 l ∧ len1 ≤ cap1 ∧ len1 ≤ maxLen ∧ l.length = len1 ∧ ∀ r ∈ l, r.length ≤ maxLen := by
    obtain ⟨fuel, hf⟩ := h1
    obtain ⟨a, len, cap, l, hcs, hh⟩ := openRows25 Try.underlying24 hf
    simp [Value.cells] at hcs
    obtain ⟨rfl, rfl, rfl⟩ := hcs
    exact ⟨l, hh⟩
  obtain ⟨a2, len2, cap2, rfl⟩ := okWide_slice Try.underlying25 (hval 2 25 v2 rfl rfl)
  have k2 := h2
  have lt2 : ∀ x ∈ p2, x.block < W.heap.size := by obtain ⟨m, hm⟩ := k2; exact DataW.trod_lt m _ _ _ hm
  obtain ⟨z2, w2⟩ : ∃ zs, IsRow .i64 W a2 len2 cap2 zs := by
    obtain ⟨fuel, hf⟩ := h2
    rcases open_ints Try.underlying25 Try.underlying3 (by kernel_rfl) hf with ⟨hcs, _⟩ | ⟨x, l, c, zs, hcs, _, hl, hm, hz, _, hcell, hwz⟩
    · simp [Value.cells] at hcs
      obtain ⟨rfl, rfl, rfl⟩ := hcs
      exact ⟨[], .inl ⟨rfl, rfl, rfl, rfl⟩⟩
    · simp [Value.cells] at hcs
      obtain ⟨rfl, rfl, rfl⟩ := hcs
      exact ⟨zs, .inr ⟨_, rfl, hl, hm, by simpa using hz, hcell, hwz⟩⟩
  have y2 : len2 * 8 ≤ 140737488351232 := Go.Proofs.YtnipocpbpcaepaaW.PrintWords.sized_ints hsz (j := 2) (t := 25) rfl rfl Try.underlying25 Try.underlying3 (by kernel_rfl) (by kernel_rfl) h2
  clear hA0 hval0 hsz0 hsz
  refine (X.laws_FnExactArrowsUsed.walk Pure.FnExactArrowsUsed a0_0 a0_1 a1 len1 cap1 l1 a2 len2 cap2 z2 W w0_0 w0_1 w1 w2 y2).mono fun e W' ⟨he, bel⟩ => ?_
  subst he
  exact ⟨_, rfl, _, _, _, [], _, [], hW', trodAll_mk1 (shut_bool Try.underlying4 _), (trodAll_cons_mk (Below.trod laidOut (by kernel_rfl) (of_decide_eq_true (by kernel_rfl)) k0 bel lt0) (trodAll_cons_mk (Below.trod laidOut (by kernel_rfl) (of_decide_eq_true (by kernel_rfl)) k1 bel lt1) (trodAll_cons_mk (Below.trod laidOut (by kernel_rfl) (of_decide_eq_true (by kernel_rfl)) k2 bel lt2) trodAll_mk0))), rfl, bel.frame _, fun h => by cases h⟩
theorem over : Rows.fnExactArrowsUsedRow.holds Try.pinned (OpenSpec.ofChange Rows.fnExactArrowsUsedSpec) :=
  OpenClaim.holds_of_wide 3 Try.f3 rfl rfl rfl rfl rfl rfl rfl ⟨rfl, rfl, rfl, rfl, rfl⟩ rfl rfl rfl rfl rfl (by kernel_rfl) Try.func3 (by kernel_rfl)
    (of_decide_eq_true (by kernel_rfl)) (by unfold Func.isWrapper; first | (rw [if_pos (by decide +kernel)]; kernel_rfl) | (rw [if_neg (by decide +kernel)]; exact ⟨rfl, rfl⟩))
    (fun os started H enc _ => lifted os started H enc)
theorem proved : Rows.FnExactArrowsUsedSaid := over
#print axioms proved
end Go.Proofs.Ytnipocpbpcaepaa.fnExactArrowsUsed
namespace Go.Proofs.Ytnipocpbpcaepaa
/-- The row, under a short name, for the claim. -/
theorem fnExactArrowsUsed_holds : Rows.FnExactArrowsUsedSaid := fnExactArrowsUsed.proved
end Go.Proofs.Ytnipocpbpcaepaa
