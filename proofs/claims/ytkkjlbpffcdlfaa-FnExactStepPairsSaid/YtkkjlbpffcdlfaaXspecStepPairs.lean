-- Written by a program of this session (xprint.py), out of the translation and of hand-written contracts. Lean checks it.
import Derived.Test.YtkkjlbpffcdlfaaX0
import Derived.Test.YtkkjlbpffcdlfaaXcgrid
import Derived.Test.YtkkjlbpffcdlfaaXspecCircuitsOk
namespace Go.Proofs.Ytkkjlbpffcdlfaa.X
open Go.RowKit Go.Proofs.YtkkjlbpffcdlfaaW.PrintWords Go.Proofs.YtkkjlbpffcdlfaaW.PrintLast Go.Proofs.YtkkjlbpffcdlfaaW.PrintMore
attribute [local go_sem] max2_int min2_int max_two min_two max_three min_three max_four min_four   -- for this text's walks alone
set_option linter.unusedVariables false
set_option linter.unusedSimpArgs false

/-! ### spec_StepPairs: function 7 -/
mutual
def spec_StepPairs.j0 : Nat → List Int → Int → List (List Int) → Bool → Option ((List (List Int)))
 | 0, _, _, _, _ => none
 | k + 1, x0, x1, x5, x16 => if x16 = true then (some x5) else ((some (([0] : List Int) : List Int)).bind fun y506 => (if y506.length + x0.length < 17592186044416 then ((some (y506 ++ x0 : List Int)).bind fun y509 => (if y509.length < 17592186044416 then (spec_StepPairs.l0 k x5 (y509 ++ [wrap64 ((x0.length : Int) + 1)]) x1) else (none))) else (none)))
def spec_StepPairs.l0 : Nat → List (List Int) → List Int → Int → Option ((List (List Int)))
 | 0, _, _, _ => none
 | k + 1, x5, x6, x7 => if (wrap64 (x7 + 1)) < (x6.length : Int) then (if 0 ≤ x7 then (if x7 < (x6.length : Int) then (if 0 ≤ (wrap64 (x7 + 1)) then (if x5.length < 5864062014805 then (spec_StepPairs.l0 k (x5 ++ [(([mn (rd x6 x7) (rd x6 (wrap64 (x7 + 1))), mx (rd x6 x7) (rd x6 (wrap64 (x7 + 1)))] : List Int))]) x6 (wrap64 (x7 + 2))) else (none)) else (none)) else (none)) else (none)) else (some x5)
end
def spec_StepPairs.f (k : Nat) (l0 : List Int) (a1 : Int) : Option ((List (List Int))) := (some (([] : List (List Int)) : List (List Int))).bind fun y501 => ((spec_CircuitsOk.f k l0).bind fun t504 => (if t504 = true then ((spec_l01In.f a1 0 1).bind fun t505 => (spec_StepPairs.j0 k l0 a1 y501 (!t505))) else (spec_StepPairs.j0 k l0 a1 y501 true)))
theorem spec_StepPairs.mono_l : ∀ k, (∀ y0 y1 y2 y3, LeO (spec_StepPairs.j0 k y0 y1 y2 y3) (spec_StepPairs.j0 (k + 1) y0 y1 y2 y3)) ∧ (∀ y0 y1 y2, LeO (spec_StepPairs.l0 k y0 y1 y2) (spec_StepPairs.l0 (k + 1) y0 y1 y2))
 | 0 => ⟨fun _ _ _ _ r h => by simp [spec_StepPairs.j0] at h, fun _ _ _ r h => by simp [spec_StepPairs.l0] at h⟩
 | k + 1 => by
  obtain ⟨ih0, ih1⟩ := spec_StepPairs.mono_l k
  refine ⟨?_, ?_⟩
  ·intro y0 y1 y2 y3
   unfold spec_StepPairs.j0
   repeat' first
   | (with_reducible exact ih0 ..)
   | (with_reducible exact ih1 ..)
   | (with_reducible exact spec_CircuitsOk.mono ..)
   | (with_reducible first | exact lr_ _ | exact ln_ _ | refine li_ ?_ ?_ | refine lb_ ?_ fun _ => ?_)
   | exact ih0 ..
   | exact ih1 ..
   | exact spec_CircuitsOk.mono ..
   | exact ln_ _ | refine li_ ?_ ?_ | refine lb_ ?_ fun _ => ?_
  ·intro y0 y1 y2
   unfold spec_StepPairs.l0
   repeat' first
   | (with_reducible exact ih0 ..)
   | (with_reducible exact ih1 ..)
   | (with_reducible exact spec_CircuitsOk.mono ..)
   | (with_reducible first | exact lr_ _ | exact ln_ _ | refine li_ ?_ ?_ | refine lb_ ?_ fun _ => ?_)
   | exact ih0 ..
   | exact ih1 ..
   | exact spec_CircuitsOk.mono ..
   | exact ln_ _ | refine li_ ?_ ?_ | refine lb_ ?_ fun _ => ?_
theorem spec_StepPairs.mono : ∀ a0 a1 k, LeO (spec_StepPairs.f k a0 a1) (spec_StepPairs.f (k + 1) a0 a1) := by
 intro a0 a1 k
 obtain ⟨ih0, ih1⟩ := spec_StepPairs.mono_l k
 unfold spec_StepPairs.f
 repeat' first
   | (with_reducible exact ih0 ..)
   | (with_reducible exact ih1 ..)
   | (with_reducible exact spec_CircuitsOk.mono ..)
   | (with_reducible first | exact lr_ _ | exact ln_ _ | refine li_ ?_ ?_ | refine lb_ ?_ fun _ => ?_)
   | exact ih0 ..
   | exact ih1 ..
   | exact spec_CircuitsOk.mono ..
   | exact ln_ _ | refine li_ ?_ ?_ | refine lb_ ?_ fun _ => ?_
def spec_StepPairs.T8 : Bool × List (List Nat × List Nat) := (true, [([], []), ([], []), ([], []), ([1, 2], [1, 2]), ([3], [3]), ([], []), ([], []), ([6], [6]), ([5, 7], [5, 7]), ([8], [8]), ([4, 9], [4, 9]), ([], []), ([], []), ([11, 12], [11, 12]), ([13], [13]), ([], []), ([], []), ([16], [16]), ([15, 17], [15, 17]), ([18], [18]), ([14, 19], [14, 19]), ([10, 20], [10, 20]), ([21], [21]), ([0, 22], [0, 22]), ([23, 23, 0, 1, 2, 3, 4, 5, 6, 7, 8, 9, 10, 11, 12, 13, 14, 15, 16, 17, 18, 19, 20, 21, 22, 23], [0, 23])])
def spec_StepPairs.B8 : List Nat := [0, 0, 0, 6, 14, 0, 0, 64, 224, 480, 1022, 0, 0, 6144, 14336, 0, 0, 65536, 229376, 491520, 1046528, 2097150, 4194302, 8388607, 16777215]
theorem spec_StepPairs.tab8 : rtab .any (opsOf Try.f7 8) = spec_StepPairs.T8 := by kernel_rfl
theorem spec_StepPairs.bits8 : waitsOk spec_StepPairs.T8.2 spec_StepPairs.B8 = true := by kernel_rfl
set_option maxHeartbeats 8000000 in
set_option maxRecDepth 100000 in
theorem spec_StepPairs.calls (k : Nat) (A0 : Option Addr) (c0 : Nat) (l0 : List Int) (a1 : Int) (r : List (List Int)) (w : World) (hr0 : Kd.C (Kd.int .i64) w A0 l0.length l0) (hc0 : l0.length ≤ c0) (h : spec_StepPairs.f k l0 a1 = some r) :
  Calls Try.prog 7 #[.slice A0 l0.length c0, .int .i64 a1] w fun e w' => ∃ v0_ : Value, e = .returned (v0_) ∧ Kd.S (Kd.slice 3 (Kd.int .i64)) 22 w' w.heap.size (fun _ => True) v0_ r ∧ Below w.heap.size w w' := by
 have HR0 := Aside0.mk hr0
 have HC0 := Aside0.mk hc0
 clear hr0 hc0
 have HB := Aside0.mk (Below.refl w.heap.size w)
 have H : ((some (([] : List (List Int)) : List (List Int))).bind fun y501 => ((spec_CircuitsOk.f k l0).bind fun t504 => (if t504 = true then ((spec_l01In.f a1 0 1).bind fun t505 => (spec_StepPairs.j0 k l0 a1 y501 (!t505))) else (spec_StepPairs.j0 k l0 a1 y501 true)))) = some r := h
 clear h
 obtain ⟨y501, hy501⟩ : ∃ y_ : List (List Int), y_ = (([] : List (List Int))) := ⟨_, rfl⟩
 replace H : ((spec_CircuitsOk.f k l0).bind fun t504 => (if t504 = true then ((spec_l01In.f a1 0 1).bind fun t505 => (spec_StepPairs.j0 k l0 a1 y501 (!t505))) else (spec_StepPairs.j0 k l0 a1 y501 true))) = some r := by first | (rw [hy501]; with_reducible exact H) | (have H2_ := (Option.bind_some _ _).symm.trans H; rw [hy501]; with_reducible exact H2_) | (have H2_ := (Option.bind_some _ _).symm.trans H; with_reducible exact H2_) | with_reducible exact H | (rw [hy501]; exact H) | exact H
 have Ny501 := Aside0.mk hy501
 clear hy501
 have HC3 := Aside0.mk H
 clear H
 go_enter Try.func7, Try.ntmps7
 go_upto_region 2 with (first | ((with_reducible refine gate_dst (N := 8) rfl ?_); refine Kd.S_lit (Kd.slice 3 (Kd.int .i64)) _ 22 ?hg (N := 8) ?hd (xs := ([] : List (List Int))) (inner := []) (ok := fun _ => True) (okp := fun _ => True) ?hr ?hp (fun _ hk => hk) trivial (Below.refl _ _) (Nat.le_refl _) (by simp) ?_; (case hd => rfl); (case hg => rfl); (case hr => first | (go_simp; done) | (go_simp; rfl)); (case hp => exact (Reps.none _ _)); intro v502 w4 ho5 hb hg_ hnew_; clear hg_ hnew_; (first | rw [← Ny501.out] at ho5 | (simp only [Int.reduceToNat] at ho5; rw [← Ny501.out] at ho5)); have HO503 := Aside0.mk (Kd.S_lower ho5 (below_size (hb0_ HB.out))); replace HB := HB.s0 hb; clear hb ho5))
 (try simp only [Act.put, List.setIfInBounds_toArray, List.set_cons_zero, List.set_cons_succ])
 go_cut [16] (fun v16 wc => ∃ (kq : Nat) (x16_2 : Bool), v16 = .bool x16_2 ∧ Aside0 (spec_StepPairs.j0 kq l0 a1 y501 x16_2 = some r) ∧ Aside0 (kq ≤ k) ∧ Aside0 (Kd.S (Kd.slice 3 (Kd.int .i64)) 22 wc w.heap.size (fun _ => True) v502 y501) ∧ Aside0 (Below w.heap.size w wc))
 case first =>
  have H := HC3.out
  clear HC3
  replace H := Option.bind_eq_some_iff.mp H
  obtain ⟨t504, A60, H⟩ := H
  replace H : (if t504 = true then ((spec_l01In.f a1 0 1).bind fun t505 => (spec_StepPairs.j0 k l0 a1 y501 (!t505))) else (spec_StepPairs.j0 k l0 a1 y501 true)) = some r := H
  have A6 := Aside0.mk A60
  clear A60
  by_cases c7 : t504 = true
  ·subst c7
   have H1 : ((spec_l01In.f a1 0 1).bind fun t505 => (spec_StepPairs.j0 k l0 a1 y501 (!t505))) = some r := by rw [if_pos rfl] at H; exact H
   clear H
   have H := H1
   clear H1
   replace H := Option.bind_eq_some_iff.mp H
   obtain ⟨t505, A80, H⟩ := H
   replace H : (spec_StepPairs.j0 k l0 a1 y501 (!t505)) = some r := H
   have A8 := Aside0.mk A80
   clear A80
   have H' := Aside0.mk H
   clear H
   go_wp2_with (first | (refine gl_ 10 Try.func27 #[.slice A0 l0.length c0] ?_; (with_reducible refine (spec_CircuitsOk.calls k _ _ l0 true _ ?side1 ?side2 A6.out).mono ?_); (case side1 => repeat (first | exact (Kd.C_below HR0.out HB.out) | (with_reducible refine Kd.C_alloc ?_ _) | (with_reducible refine Kd.C_drewN ?_ _) | (with_reducible refine Kd.C_drew ?_))); (case side2 => exact HC0.out); rintro e w' ⟨rfl, ⟨nd, rfl⟩⟩; refine ⟨_, rfl, ?_⟩) | (go_at_call 28; (with_reducible refine (spec_l01In.calls a1 0 1 t505 _ A8.out).mono ?_); rintro e w' ⟨rfl, ⟨nd, rfl⟩⟩))
   go_meet
   case rel => exact ⟨_, (!t505), (by first | rfl | (simp; done) | (simp [*]; done)), H', ⟨by first | omega | exact Nat.le_refl _⟩, ⟨by (with_reducible repeat (first | apply Kd.S_alloc | apply Kd.S_drewN | apply Kd.S_drew)); exact HO503.out⟩, ⟨hb0_ HB.out⟩⟩
  ·replace c7 := Bool.eq_false_iff.mpr c7
   subst c7
   have H1 : (spec_StepPairs.j0 k l0 a1 y501 true) = some r := by rw [if_neg (show ¬ (false = true) by decide)] at H; exact H
   clear H
   have H := H1
   clear H1
   have H' := Aside0.mk H
   clear H
   go_wp2_with (first | (refine gl_ 10 Try.func27 #[.slice A0 l0.length c0] ?_; (with_reducible refine (spec_CircuitsOk.calls k _ _ l0 false _ ?side1 ?side2 A6.out).mono ?_); (case side1 => repeat (first | exact (Kd.C_below HR0.out HB.out) | (with_reducible refine Kd.C_alloc ?_ _) | (with_reducible refine Kd.C_drewN ?_ _) | (with_reducible refine Kd.C_drew ?_))); (case side2 => exact HC0.out); rintro e w' ⟨rfl, ⟨nd, rfl⟩⟩; refine ⟨_, rfl, ?_⟩))
   go_meet
   case rel => exact ⟨_, (true), (by first | rfl | (simp; done) | (simp [*]; done)), H', ⟨by first | omega | exact Nat.le_refl _⟩, ⟨by (with_reducible repeat (first | apply Kd.S_alloc | apply Kd.S_drewN | apply Kd.S_drew)); exact HO503.out⟩, ⟨hb0_ HB.out⟩⟩
 case rest =>
  clear HC3
  try clear c2
  try clear p2
  try clear c7
  obtain ⟨kq, x16_2, rfl, HA, HJ2, HO_5, HB⟩ := hcut
  cases kq with
  | zero => exact absurd HA.out (by simp [spec_StepPairs.j0])
  | succ kj2 =>
   have H := HA.out
   clear HA
   simp only [spec_StepPairs.j0] at H
   by_cases c9 : x16_2 = true
   ·subst c9
    have H1 : (some y501) = some r := by rw [if_pos rfl] at H; exact H
    clear H
    have H := H1
    clear H1
    obtain rfl := Option.some.inj H
    go_wp2
    go_ret
    exact ⟨_, ex_, by (with_reducible repeat (first | apply Kd.S_alloc | apply Kd.S_drewN | apply Kd.S_drew)); exact HO_5.out, hb0_ HB.out⟩
   ·replace c9 := Bool.eq_false_iff.mpr c9
    subst c9
    have H1 : ((some (([0] : List Int) : List Int)).bind fun y506 => (if y506.length + l0.length < 17592186044416 then ((some (y506 ++ l0 : List Int)).bind fun y509 => (if y509.length < 17592186044416 then (spec_StepPairs.l0 kj2 y501 (y509 ++ [wrap64 ((l0.length : Int) + 1)]) a1) else (none))) else (none))) = some r := by rw [if_neg (show ¬ (false = true) by decide)] at H; exact H
    clear H
    have H := H1
    clear H1
    obtain ⟨y506, hy506⟩ : ∃ y_ : List Int, y_ = (([0] : List Int)) := ⟨_, rfl⟩
    replace H : (if y506.length + l0.length < 17592186044416 then ((some (y506 ++ l0 : List Int)).bind fun y509 => (if y509.length < 17592186044416 then (spec_StepPairs.l0 kj2 y501 (y509 ++ [wrap64 ((l0.length : Int) + 1)]) a1) else (none))) else (none)) = some r := by first | (rw [hy506]; with_reducible exact H) | (have H2_ := (Option.bind_some _ _).symm.trans H; rw [hy506]; with_reducible exact H2_) | (have H2_ := (Option.bind_some _ _).symm.trans H; with_reducible exact H2_) | with_reducible exact H | (rw [hy506]; exact H) | exact H
    have Ny506 := Aside0.mk hy506
    clear hy506
    by_cases c10 : y506.length + l0.length < 17592186044416
    ·rw [if_pos c10] at H
     have LMc10 := Aside0.mk c10
     clear c10
     obtain ⟨y509, hy509⟩ : ∃ y_ : List Int, y_ = (y506 ++ l0) := ⟨_, rfl⟩
     replace H : (if y509.length < 17592186044416 then (spec_StepPairs.l0 kj2 y501 (y509 ++ [wrap64 ((l0.length : Int) + 1)]) a1) else (none)) = some r := by first | (rw [hy509]; with_reducible exact H) | (have H2_ := (Option.bind_some _ _).symm.trans H; rw [hy509]; with_reducible exact H2_) | (have H2_ := (Option.bind_some _ _).symm.trans H; with_reducible exact H2_) | with_reducible exact H | (rw [hy509]; exact H) | exact H
     have Ny509 := Aside0.mk hy509
     clear hy509
     by_cases c11 : y509.length < 17592186044416
     ·rw [if_pos c11] at H
      have LMc11 := Aside0.mk c11
      clear c11
      obtain ⟨y512, hy512⟩ : ∃ y_ : List Int, y_ = (y509 ++ [wrap64 ((l0.length : Int) + 1)]) := ⟨_, rfl⟩
      replace H : (spec_StepPairs.l0 kj2 y501 y512 a1) = some r := by first | (rw [hy512]; with_reducible exact H) | (have H2_ := (Option.bind_some _ _).symm.trans H; rw [hy512]; with_reducible exact H2_) | (have H2_ := (Option.bind_some _ _).symm.trans H; with_reducible exact H2_) | with_reducible exact H | (rw [hy512]; exact H) | exact H
      have Ny512 := Aside0.mk hy512
      clear hy512
      have H' := Aside0.mk H
      clear H
      go_wp2_with (first | ((with_reducible refine gate_dst (N := 18) rfl ?_); refine Kd.R_lit (Kd.int .i64) _ 3 ?hg (N := 18) ?hd (xs := ([0] : List Int)) (inner := [.int .i64 0]) (ok := fun _ => True) (okp := fun _ => True) ?hr ?hp (fun _ hk => hk) trivial (Below.refl _ _) (Nat.le_refl _) (by simp) ?_; (case hd => rfl); (case hg => rfl); (case hr => first | (go_simp; done) | (go_simp; rfl)); (case hp => exact (Reps.one (show Kd.M (Kd.int .i64) _ _ _ 0 [.int .i64 0] from rfl) (Reps.none _ _))); intro v507 w12 ho13 hb hg_ hnew_; clear hg_ hnew_; (first | rw [← Ny506.out] at ho13 | (simp only [Int.reduceToNat] at ho13; rw [← Ny506.out] at ho13)); replace HO_5 := Aside0.mk (Kd.S_elder' (by (with_reducible repeat (first | apply Kd.S_alloc | apply Kd.S_drewN | apply Kd.S_drew)); exact HO_5.out) (Kd.R_base ho13) hb); have HO508 := Aside0.mk (Kd.R_lower ho13 (below_size (hb0_ HB.out))); replace HB := HB.s0 hb; clear hb ho13) | ((with_reducible refine gate_builtin (b := .append) (xs := #[.tmp 18, .tmp 19]) rfl ?_); at_builtin; refine Kd.R_append_rows (Kd.int .i64) (w0 := w) w.heap.size rfl (.tmp 18) (.tmp 19) 22 3 (.int .i64 0) 8 rfl Try.underlying22 info3 rfl (by decide) (by omega) v507 y506 l0 _ _ _ (fun _ => True) (fun _ => False) rfl rfl ?aO ?aR (fun _ _ h => h) (fun _ h => h.elim) ?aF ?aB ?aS ?aL ?_; (case aR => repeat (first | exact (Kd.C_below HR0.out HB.out) | (with_reducible refine Kd.C_alloc ?_ _) | (with_reducible refine Kd.C_drewN ?_ _) | (with_reducible refine Kd.C_drew ?_))); (case aB => exact (hb0_ HB.out)); (case aF => exact (fun _ _ => trivial)); (case aO => exact (kr_ HO508.out)); (case aS => exact (below_size (hb0_ HB.out))); (case aL => have := LMc10.out; omega); intro v510 w14 ho hb hg hat; rw [← Ny509.out] at ho; replace HO_5 := Aside0.mk (Kd.S_after (ok := (fun _ => True)) (by (with_reducible repeat (first | apply Kd.S_alloc | apply Kd.S_drewN | apply Kd.S_drew)); exact HO_5.out) hg hat); replace HB := Aside0.mk (hb); have HO511 := Aside0.mk (ho); clear HO508; clear ho hb hg hat) | ((with_reducible refine gate_builtin (b := .append) (xs := #[.tmp 20, .tmp 24]) rfl ?_); at_builtin; refine Kd.R_append (Kd.int .i64) (w0 := w) w.heap.size rfl (.tmp 20) (.tmp 24) 22 3 (.int .i64 0) 8 rfl Try.underlying22 info3 rfl (by decide) (by omega) v510 y509 (wrap64 ((l0.length : Int) + 1)) [.int .i64 (wrap64 ((l0.length : Int) + 1))] (fun _ => True) (fun _ => False) rfl rfl ?aP (fun _ hk => hk.elim) ?aF ?aO ?aB ?aS ?aL ?_; (case aP => exact rfl); (case aB => exact (hb0_ HB.out)); (case aF => exact (fun _ _ => trivial)); (case aO => exact (kr_ HO511.out)); (case aS => exact (below_size (hb0_ HB.out))); (case aL => have := LMc11.out; omega); intro v513 w15 ho hb hg hat; rw [← Ny512.out] at ho; replace HO_5 := Aside0.mk (Kd.S_after (ok := (fun _ => True)) (by (with_reducible repeat (first | apply Kd.S_alloc | apply Kd.S_drewN | apply Kd.S_drew)); exact HO_5.out) hg hat); replace HB := Aside0.mk (hb); have HO514 := Aside0.mk (ho); clear HO511; clear ho hb hg hat))
      go_loopg [5, 7] kj2 (fun kq v5 v7 w' => ∃ (x5_2 : List (List Int)) (x7_2 : Int), v7 = .int .i64 x7_2 ∧ Aside0 (spec_StepPairs.l0 kq x5_2 y512 x7_2 = some r) ∧ Aside0 (kq ≤ kj2) ∧ Aside0 (Kd.S (Kd.slice 3 (Kd.int .i64)) 22 w' w.heap.size (fun k_ => some k_ ≠ (v513 : Value).ownBlock) v5 x5_2) ∧ Aside0 (Kd.R (Kd.int .i64) 3 w' w.heap.size (fun _ => True) v513 y512) ∧ Aside0 (Below w.heap.size w w'))
      case atStart => exact ⟨(y501), (a1), (by first | rfl | (simp; done) | (simp [*]; done)), H', ⟨Nat.le_refl _⟩, ⟨by (with_reducible repeat (first | apply Kd.S_alloc | apply Kd.S_drewN | apply Kd.S_drew)); exact Kd.S_mono HO_5.out (fun _ hk => hk.2)⟩, ⟨kr_ HO514.out⟩, ⟨hb0_ HB.out⟩⟩
      case round =>
       clear H'
       try clear c1
       try clear c2
       try clear p2
       try clear p6
       try clear c7
       try clear c9
       try clear c10
       try clear c11
       try clear p2
       obtain ⟨x5_2, x7_2, rfl, HA, HK2, HO_5, HO_6, HB⟩ := hrel
       cases gk with
       | zero => exact absurd HA.out (by simp [spec_StepPairs.l0])
       | succ k2 =>
        have H := HA.out
        clear HA
        simp only [spec_StepPairs.l0] at H
        by_cases c16 : (wrap64 (x7_2 + 1)) < (y512.length : Int)
        ·rw [if_pos c16] at H
         have c16b0 : decide ((wrap64 (x7_2 + 1)) < (y512.length : Int)) = true := decide_eq_true c16
         clear c16
         by_cases c17 : 0 ≤ x7_2
         ·rw [if_pos c17] at H
          have c17b0 : decide (0 ≤ x7_2) = true := decide_eq_true c17
          clear c17
          by_cases c18 : x7_2 < (y512.length : Int)
          ·rw [if_pos c18] at H
           have c18b0 : decide (x7_2 < (y512.length : Int)) = true := decide_eq_true c18
           clear c18
           obtain ⟨ji19, hji19⟩ : ∃ j_ : Int, (wrap64 (x7_2 + 1)) = j_ := ⟨_, rfl⟩
           replace H : (if 0 ≤ (ji19) then (if x5_2.length < 5864062014805 then (spec_StepPairs.l0 k2 (x5_2 ++ [(([mn (rd y512 x7_2) (rd y512 (ji19)), mx (rd y512 x7_2) (rd y512 (ji19))] : List Int))]) y512 (wrap64 (x7_2 + 2))) else (none)) else (none)) = some r := by first | (rw [hji19] at H; exact H) | (simp only [hji19] at H ⊢; exact H)
           (try rw [hji19] at c16b0)
           have hji19w : (IntKind.i64.wrap (x7_2 + 1)) = ji19 := (i64_w _).trans hji19
           by_cases c20 : 0 ≤ (ji19)
           ·rw [if_pos c20] at H
            have c20b0 : decide (0 ≤ (ji19)) = true := decide_eq_true c20
            clear c20
            obtain ⟨ji21, hji21⟩ : ∃ j_ : Int, (mn (rd y512 x7_2) (rd y512 (ji19))) = j_ := ⟨_, rfl⟩
            replace H : (if x5_2.length < 5864062014805 then (spec_StepPairs.l0 k2 (x5_2 ++ [(([ji21, mx (rd y512 x7_2) (rd y512 (ji19))] : List Int))]) y512 (wrap64 (x7_2 + 2))) else (none)) = some r := by first | (rw [hji21] at H; exact H) | (simp only [hji21] at H ⊢; exact H)
            have hji21_ : (if (rd y512 (ji19)) < (rd y512 x7_2) then (rd y512 (ji19)) else (rd y512 x7_2)) = ji21 := hji21
            obtain ⟨ji22, hji22⟩ : ∃ j_ : Int, (mx (rd y512 x7_2) (rd y512 (ji19))) = j_ := ⟨_, rfl⟩
            replace H : (if x5_2.length < 5864062014805 then (spec_StepPairs.l0 k2 (x5_2 ++ [(([ji21, ji22] : List Int))]) y512 (wrap64 (x7_2 + 2))) else (none)) = some r := by first | (rw [hji22] at H; exact H) | (simp only [hji22] at H ⊢; exact H)
            have hji22_ : (if (rd y512 x7_2) < (rd y512 (ji19)) then (rd y512 (ji19)) else (rd y512 x7_2)) = ji22 := hji22
            obtain ⟨y519, hy519⟩ : ∃ y_ : List Int, y_ = (([ji21, ji22] : List Int)) := ⟨_, rfl⟩
            replace H : (if x5_2.length < 5864062014805 then (spec_StepPairs.l0 k2 (x5_2 ++ [y519]) y512 (wrap64 (x7_2 + 2))) else (none)) = some r := by first | (rw [hy519]; with_reducible exact H) | (have H2_ := (Option.bind_some _ _).symm.trans H; rw [hy519]; with_reducible exact H2_) | (have H2_ := (Option.bind_some _ _).symm.trans H; with_reducible exact H2_) | with_reducible exact H | (rw [hy519]; exact H) | exact H
            have Ny519 := Aside0.mk hy519
            clear hy519
            by_cases c23 : x5_2.length < 5864062014805
            ·rw [if_pos c23] at H
             have LMc23 := Aside0.mk c23
             clear c23
             obtain ⟨y522, hy522⟩ : ∃ y_ : List (List Int), y_ = (x5_2 ++ [y519]) := ⟨_, rfl⟩
             replace H : (spec_StepPairs.l0 k2 y522 y512 (wrap64 (x7_2 + 2))) = some r := by first | (rw [hy522]; with_reducible exact H) | (have H2_ := (Option.bind_some _ _).symm.trans H; rw [hy522]; with_reducible exact H2_) | (have H2_ := (Option.bind_some _ _).symm.trans H; with_reducible exact H2_) | with_reducible exact H | (rw [hy522]; exact H) | exact H
             have Ny522 := Aside0.mk hy522
             clear hy522
             have H' := Aside0.mk H
             clear H
             obtain ⟨Ao24, co24, eo24⟩ := Kd.R_slice HO_6.out
             subst eo24
             try go_wp2
             replace HO_5 := Aside0.mk (Kd.S_drew HO_5.out)
             replace HO_6 := Aside0.mk (Kd.R_drew HO_6.out)
             replace HB := Aside0.mk (below_drew1 HB.out)
             have p515 : 0 ≤ (x7_2 : Int) := of_decide_eq_true (as_)
             have q515 : x7_2 < (y512.length : Int) := of_decide_eq_true (as_)
             obtain ⟨ad515, e515, hx515_0⟩ := Kd.at_int (Kd.R_reads' HO_6.out).2.2 x7_2 p515 q515
             cases e515
             replace p515 := eq_true p515
             replace q515 := eq_true q515
             have p516 : 0 ≤ ((ji19) : Int) := of_decide_eq_true (as_)
             have q516 : (ji19) < (y512.length : Int) := of_decide_eq_true (as_)
             obtain ⟨ad516, e516, hx516_0⟩ := Kd.at_int (Kd.R_reads' HO_6.out).2.2 (ji19) p516 q516
             obtain rfl : ad515 = ad516 := (by injection e516)
             replace p516 := eq_true p516
             replace q516 := eq_true q516
             have p517 : 0 ≤ (x7_2 : Int) := of_decide_eq_true (as_)
             have q517 : x7_2 < (y512.length : Int) := of_decide_eq_true (as_)
             obtain ⟨ad517, e517, hx517_0⟩ := Kd.at_int (Kd.R_reads' HO_6.out).2.2 x7_2 p517 q517
             obtain rfl : ad515 = ad517 := (by injection e517)
             replace p517 := eq_true p517
             replace q517 := eq_true q517
             have p518 : 0 ≤ ((ji19) : Int) := of_decide_eq_true (as_)
             have q518 : (ji19) < (y512.length : Int) := of_decide_eq_true (as_)
             obtain ⟨ad518, e518, hx518_0⟩ := Kd.at_int (Kd.R_reads' HO_6.out).2.2 (ji19) p518 q518
             obtain rfl : ad515 = ad518 := (by injection e518)
             replace p518 := eq_true p518
             replace q518 := eq_true q518
             refine start_ (n := 25) (S := fun w' => w'.cell? (ad515.add (x7_2).toNat) = some (.int .i64 (rd y512 x7_2)) ∧ w'.cell? (ad515.add ((ji19)).toNat) = some (.int .i64 (rd y512 (ji19))) ∧ w'.cell? (ad515.add (x7_2).toNat) = some (.int .i64 (rd y512 x7_2)) ∧ w'.cell? (ad515.add ((ji19)).toNat) = some (.int .i64 (rd y512 (ji19)))) (ds := [22, 23]) #[false, false, false, false, false, false, false, false, false, false, false, false, false, false, false, false, false, false, false, false, false, false, false, false, false] (by kernel_rfl) rfl rfl ⟨hx515_0, hx516_0, hx517_0, hx518_0⟩ (fun hHeld => ?_); refine with_tabW spec_StepPairs.tab8 spec_StepPairs.bits8 (fun HT_ HW_ => ?_)
             generalize wr.drew = w25 at HO_5 HO_6 HB hx515_0 hx516_0 hx517_0 hx518_0 hHeld ⊢
             refine pv_ (i := 0) (N := some 34) HT_.out ?_
             refine pv_ (i := 1) (N := some 35) HT_.out ?_
             refine pv_ (i := 2) (N := some 36) HT_.out ?_
             refine pv_ (i := 3) (N := some 37) HT_.out ?_
             refine pv_ (i := 5) (N := some 39) HT_.out ?_
             refine pv_ (i := 6) (N := some 40) HT_.out ?_
             refine pv_ (i := 7) (N := some 41) HT_.out ?_
             refine pv_ (i := 8) (N := some 42) HT_.out ?_
             refine pv_ (i := 11) (N := some 45) HT_.out ?_
             refine pv_ (i := 12) (N := some 46) HT_.out ?_
             refine pv_ (i := 13) (N := some 47) HT_.out ?_
             refine pv_ (i := 15) (N := some 49) HT_.out ?_
             refine pv_ (i := 16) (N := some 50) HT_.out ?_
             refine pv_ (i := 17) (N := some 51) HT_.out ?_
             refine pv_ (i := 18) (N := some 52) HT_.out ?_
             refine tv4_ (i := 4) (N := some 38) HT_.out HW_.out hHeld ?_
             refine tv4_ (i := 9) (N := some 43) HT_.out HW_.out hHeld ?_
             refine pv_ (i := 10) (N := some 44) HT_.out ?_
             refine tv4_ (i := 14) (N := some 48) HT_.out HW_.out hHeld ?_
             refine tv4_ (i := 19) (N := some 53) HT_.out HW_.out hHeld ?_
             refine pv_ (i := 20) (N := some 54) HT_.out ?_
             refine ov_ (i := 21) (N := some 55) HT_.out (fun K hK => ?_)
             refine Kd.R_lit_step (Kd.int .i64) _ 3 ?hg (N := 55) ?hd (xs := ([ji21, ji22] : List Int)) (inner := [.int .i64 ji21, .int .i64 ji22]) (ok := fun _ => True) (okp := fun _ => True) ?hr ?hp (fun _ hk => hk) trivial (Below.refl _ _) (Nat.le_refl _) (by simp) ?_; (case hd => rfl); (case hg => rfl); (case hr => first | (go_simp; done) | (go_simp; rfl)); (case hp => exact (Reps.one (show Kd.M (Kd.int .i64) _ _ _ ji21 [.int .i64 ji21] from rfl) (Reps.one (show Kd.M (Kd.int .i64) _ _ _ ji22 [.int .i64 ji22] from rfl) (Reps.none _ _))))
             intro v520 w26 ho27 hb hg_ hnew_
             have HS0_ := (hb.cell (World.block_lt_of_cell? _ _ (hHeld.1))).trans (hHeld.1)
             have HS1_ := (hb.cell (World.block_lt_of_cell? _ _ (hHeld.2.1))).trans (hHeld.2.1)
             have HS2_ := (hb.cell (World.block_lt_of_cell? _ _ (hHeld.2.2.1))).trans (hHeld.2.2.1)
             have HS3_ := (hb.cell (World.block_lt_of_cell? _ _ (hHeld.2.2.2))).trans (hHeld.2.2.2)
             clear hg_ hnew_
             (first | rw [← Ny519.out] at ho27 | (simp only [Int.reduceToNat] at ho27; rw [← Ny519.out] at ho27))
             have n0_ := Aside0.mk (Kd.S_elder' (by (with_reducible repeat (first | apply Kd.S_alloc | apply Kd.S_drewN | apply Kd.S_drew)); exact HO_5.out) (Kd.R_base ho27) hb)
             have n1_ := Aside0.mk (Kd.R_elder' (kr_ HO_6.out) (Kd.R_base ho27) hb)
             have n2_ := Aside0.mk (Kd.R_lower (Kd.R_new' ho27 (Kd.R_lt (kr_ HO_6.out))) (below_size (hb0_ HB.out)))
             have n3_ := HB.s0 hb
             clear HO_5
             clear HO_6
             clear HB
             have HO_5 := n0_
             have HO_6 := n1_
             have HO521 := n2_
             have HB := n3_
             clear n0_ n1_ n2_ n3_
             clear hb ho27
             obtain ⟨Ao29, co29, eo29⟩ := Kd.R_slice HO521.out
             (first | subst eo29 | (injection eo29 with f1_ f2_ f3_; have f4_ := f1_.symm; have f5_ := f3_.symm; clear f1_ f2_ f3_; subst f4_; subst f5_))
             refine hK.out _ _ ⟨HS0_, HS1_, HS2_, HS3_⟩ (fun hHeld => ?_)
             clear hK K
             refine nm_ ?_
             refine last_ (i := 22) (N := some 56) #[true, true, true, true, true, true, true, true, true, true, true, true, true, true, true, true, true, true, true, true, true, true, true, false, false] rfl rfl (one_of HT_.out (by kernel_rfl)) (by decide) (fun K hK => ?_)
             refine value_ (w1 := ?_) (v := ?_) (by rfl) rfl ?_ ?_
             rotate_left 2
             ·go_simp
              constructor
              ·rfl
              ·rfl
             refine hK.out _ _ ?_
             clear hK K
             refine nm_ ?_
             refine last_ (i := 23) (N := some 57) #[true, true, true, true, true, true, true, true, true, true, true, true, true, true, true, true, true, true, true, true, true, true, true, true, false] rfl rfl (one_of HT_.out (by kernel_rfl)) (by decide) (fun K hK => ?_)
             refine Kd.S_append_step (Kd.slice 3 (Kd.int .i64)) (w0 := w) w.heap.size (by rfl) (.tmp 34) (.tmp 56) 23 22 (.slice none 0 0) 24 rfl Try.underlying23 info22 rfl (by decide) (by omega) u5 x5_2 y519 [.slice Ao29 y519.length co29] (fun k_ => some k_ ≠ (.slice (some ad515) y512.length co24 : Value).ownBlock) (fun k_ => some k_ = (.slice Ao29 y519.length co29 : Value).ownBlock) rfl rfl ?aP (fun k_ hk_ => ((Kd.R_mono (ok' := fun k_ => ((fun k_ => some k_ ≠ (.slice (some ad515) y512.length co24 : Value).ownBlock)) k_ ∧ some k_ ≠ (u5 : Value).ownBlock) (Kd.R_apart' (HO521.out) (Kd.S_typed HO_5.out) (by decide)) (fun k_ hk => ⟨hk.1.2, hk.2⟩))).1 k_ hk_.symm) ?aF ?aO ?aB ?aS ?aL ?_
             (case aP => exact Kd.M_row (Kd.R_mono (Kd.R_tight rfl (Kd.R_mono (ok' := fun k_ => ((fun k_ => some k_ ≠ (.slice (some ad515) y512.length co24 : Value).ownBlock)) k_ ∧ some k_ ≠ (u5 : Value).ownBlock) (Kd.R_apart' (HO521.out) (Kd.S_typed HO_5.out) (by decide)) (fun k_ hk => ⟨hk.1.2, hk.2⟩))) (fun _ h_ => h_)))
             (case aB => exact (hb0_ HB.out))
             (case aF => exact (fun k_ hk => Kd.fresh' (Kd.R_lt (kr_ HO_6.out)) k_ hk))
             (case aO => exact (by (with_reducible repeat (first | apply Kd.S_alloc | apply Kd.S_drewN | apply Kd.S_drew)); exact Kd.S_mono HO_5.out (fun k_ hk => ⟨hk.1, fun e_ => hk.2 e_⟩)))
             (case aS => exact (below_size (hb0_ HB.out)))
             (case aL => have := LMc23.out; omega)
             intro v523 w28 ho hb hg hat
             rw [← Ny522.out] at ho
             replace HO_6 := Aside0.mk (Kd.R_over' (kr_ HO_6.out) (Kd.S_typed (by (with_reducible repeat (first | apply Kd.S_alloc | apply Kd.S_drewN | apply Kd.S_drew)); exact HO_5.out)) (by decide) hg)
             replace HB := Aside0.mk (hb)
             have HO524 := Aside0.mk (ho)
             clear HO_5
             clear HO521
             clear ho hb hg hat
             refine hK.out _ _ ?_
             clear hK K
             refine nm_ ?_
             refine pv_ (i := 24) (N := some 5) HT_.out ?_
             refine done_ (done_of HT_.out (by kernel_rfl)) ?_
             try go_wp2
             go_roundg k2
             case measure => have := HJ2.out; have := HK2.out; omega
             case rel => exact ⟨(y522), (wrap64 (x7_2 + 2)), (by first | rfl | (simp; done) | (simp [*]; done)), H', ⟨by have := HJ2.out; have := HK2.out; omega⟩, ⟨by (with_reducible repeat (first | apply Kd.S_alloc | apply Kd.S_drewN | apply Kd.S_drew)); exact HO524.out⟩, ⟨by (with_reducible repeat (first | apply Kd.R_alloc | apply Kd.R_drewN | apply Kd.R_drew)); exact Kd.R_mono HO_6.out (fun _ hk => trivial)⟩, ⟨hb0_ HB.out⟩⟩
            ·rw [if_neg c23] at H
             exact absurd H (by simp)
           ·rw [if_neg c20] at H
            exact absurd H (by simp)
          ·rw [if_neg c18] at H
           exact absurd H (by simp)
         ·rw [if_neg c17] at H
          exact absurd H (by simp)
        ·rw [if_neg c16] at H
         have c16b0 : decide ((wrap64 (x7_2 + 1)) < (y512.length : Int)) = false := decide_eq_false c16
         clear c16
         obtain rfl := Option.some.inj H
         obtain ⟨Ao30, co30, eo30⟩ := Kd.R_slice HO_6.out
         subst eo30
         go_wp2
         go_ret
         exact ⟨_, ex_, by (with_reducible repeat (first | apply Kd.S_alloc | apply Kd.S_drewN | apply Kd.S_drew)); exact Kd.S_mono HO_5.out (fun _ hk => trivial), hb0_ HB.out⟩
     ·rw [if_neg c11] at H
      exact absurd H (by simp)
    ·rw [if_neg c10] at H
     exact absurd H (by simp)

end Go.Proofs.Ytkkjlbpffcdlfaa.X
