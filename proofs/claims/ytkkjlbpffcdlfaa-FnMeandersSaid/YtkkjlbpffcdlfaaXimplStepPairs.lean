-- Written by a program of this session (xprint.py), out of the translation and of hand-written contracts. Lean checks it.
import Derived.Test.YtkkjlbpffcdlfaaX0
import Derived.Test.YtkkjlbpffcdlfaaXimplCircuitsOk
namespace Go.Proofs.Ytkkjlbpffcdlfaa.X
open Go.RowKit Go.Proofs.YtkkjlbpffcdlfaaW.PrintWords Go.Proofs.YtkkjlbpffcdlfaaW.PrintLast Go.Proofs.YtkkjlbpffcdlfaaW.PrintMore
attribute [local go_sem] max2_int min2_int max_two min_two max_three min_three max_four min_four   -- for this text's walks alone
set_option linter.unusedVariables false
set_option linter.unusedSimpArgs false

/-! ### impl_StepPairs: function 9 -/
mutual
def impl_StepPairs.j0 : Nat → List Int → Int → Bool → Option ((List (List Int)))
 | 0, _, _, _ => none
 | k + 1, x0, x1, x18 => if x18 = true then (some ([] : List (List Int))) else ((some (([0] : List Int) : List Int)).bind fun y502 => (if y502.length + x0.length < 17592186044416 then ((some (y502 ++ x0 : List Int)).bind fun y505 => (if y505.length < 17592186044416 then (impl_StepPairs.l0 k (y505 ++ [wrap64 ((x0.length : Int) + 1)]) ([] : List (List Int)) x1) else (none))) else (none)))
def impl_StepPairs.l0 : Nat → List Int → List (List Int) → Int → Option ((List (List Int)))
 | 0, _, _, _ => none
 | k + 1, x5, x6, x7 => if x7 < (wrap64 ((x5.length : Int) - 1)) then (if 0 ≤ x7 then (if x7 < (x5.length : Int) then (if 0 ≤ (wrap64 (x7 + 1)) then (if (wrap64 (x7 + 1)) < (x5.length : Int) then (if x6.length < 5864062014805 then (impl_StepPairs.l0 k x5 (x6 ++ [(([mn (rd x5 x7) (rd x5 (wrap64 (x7 + 1))), mx (rd x5 x7) (rd x5 (wrap64 (x7 + 1)))] : List Int))]) (wrap64 (x7 + 2))) else (none)) else (none)) else (none)) else (none)) else (none)) else (some x6)
end
def impl_StepPairs.f (k : Nat) (l0 : List Int) (a1 : Int) : Option ((List (List Int))) := (impl_CircuitsOk.f k l0).bind fun t501 => (if t501 = true then (if a1 = 0 then (impl_StepPairs.j0 k l0 a1 false) else (impl_StepPairs.j0 k l0 a1 (a1 != 1))) else (impl_StepPairs.j0 k l0 a1 true))
theorem impl_StepPairs.mono_l : ∀ k, (∀ y0 y1 y2, LeO (impl_StepPairs.j0 k y0 y1 y2) (impl_StepPairs.j0 (k + 1) y0 y1 y2)) ∧ (∀ y0 y1 y2, LeO (impl_StepPairs.l0 k y0 y1 y2) (impl_StepPairs.l0 (k + 1) y0 y1 y2))
 | 0 => ⟨fun _ _ _ r h => by simp [impl_StepPairs.j0] at h, fun _ _ _ r h => by simp [impl_StepPairs.l0] at h⟩
 | k + 1 => by
  obtain ⟨ih0, ih1⟩ := impl_StepPairs.mono_l k
  refine ⟨?_, ?_⟩
  ·intro y0 y1 y2
   unfold impl_StepPairs.j0
   repeat' first
   | (with_reducible exact ih0 ..)
   | (with_reducible exact ih1 ..)
   | (with_reducible exact impl_CircuitsOk.mono ..)
   | (with_reducible first | exact lr_ _ | exact ln_ _ | refine li_ ?_ ?_ | refine lb_ ?_ fun _ => ?_)
   | exact ih0 ..
   | exact ih1 ..
   | exact impl_CircuitsOk.mono ..
   | exact ln_ _ | refine li_ ?_ ?_ | refine lb_ ?_ fun _ => ?_
  ·intro y0 y1 y2
   unfold impl_StepPairs.l0
   repeat' first
   | (with_reducible exact ih0 ..)
   | (with_reducible exact ih1 ..)
   | (with_reducible exact impl_CircuitsOk.mono ..)
   | (with_reducible first | exact lr_ _ | exact ln_ _ | refine li_ ?_ ?_ | refine lb_ ?_ fun _ => ?_)
   | exact ih0 ..
   | exact ih1 ..
   | exact impl_CircuitsOk.mono ..
   | exact ln_ _ | refine li_ ?_ ?_ | refine lb_ ?_ fun _ => ?_
theorem impl_StepPairs.mono : ∀ a0 a1 k, LeO (impl_StepPairs.f k a0 a1) (impl_StepPairs.f (k + 1) a0 a1) := by
 intro a0 a1 k
 obtain ⟨ih0, ih1⟩ := impl_StepPairs.mono_l k
 unfold impl_StepPairs.f
 repeat' first
   | (with_reducible exact ih0 ..)
   | (with_reducible exact ih1 ..)
   | (with_reducible exact impl_CircuitsOk.mono ..)
   | (with_reducible first | exact lr_ _ | exact ln_ _ | refine li_ ?_ ?_ | refine lb_ ?_ fun _ => ?_)
   | exact ih0 ..
   | exact ih1 ..
   | exact impl_CircuitsOk.mono ..
   | exact ln_ _ | refine li_ ?_ ?_ | refine lb_ ?_ fun _ => ?_
def impl_StepPairs.T8 : Bool × List (List Nat × List Nat) := (true, [([], []), ([], []), ([], []), ([1, 2], [1, 2]), ([3], [3]), ([], []), ([], []), ([6], [6]), ([5, 7], [5, 7]), ([8], [8]), ([4, 9], [4, 9]), ([], []), ([], []), ([11, 12], [11, 12]), ([13], [13]), ([], []), ([], []), ([16], [16]), ([15, 17], [15, 17]), ([18], [18]), ([14, 19], [14, 19]), ([10, 20], [10, 20]), ([21], [21]), ([0, 22], [0, 22]), ([23, 23, 0, 1, 2, 3, 4, 5, 6, 7, 8, 9, 10, 11, 12, 13, 14, 15, 16, 17, 18, 19, 20, 21, 22, 23], [0, 23])])
def impl_StepPairs.B8 : List Nat := [0, 0, 0, 6, 14, 0, 0, 64, 224, 480, 1022, 0, 0, 6144, 14336, 0, 0, 65536, 229376, 491520, 1046528, 2097150, 4194302, 8388607, 16777215]
theorem impl_StepPairs.tab8 : rtab .any (opsOf Try.f9 8) = impl_StepPairs.T8 := by kernel_rfl
theorem impl_StepPairs.bits8 : waitsOk impl_StepPairs.T8.2 impl_StepPairs.B8 = true := by kernel_rfl
set_option maxHeartbeats 8000000 in
set_option maxRecDepth 100000 in
theorem impl_StepPairs.calls (k : Nat) (A0 : Option Addr) (c0 : Nat) (l0 : List Int) (a1 : Int) (r : List (List Int)) (w : World) (hr0 : Kd.C (Kd.int .i64) w A0 l0.length l0) (hc0 : l0.length ≤ c0) (h : impl_StepPairs.f k l0 a1 = some r) :
  Calls Try.prog 9 #[.slice A0 l0.length c0, .int .i64 a1] w fun e w' => ∃ v0_ : Value, e = .returned (v0_) ∧ Kd.S (Kd.slice 3 (Kd.int .i64)) 22 w' w.heap.size (fun _ => True) v0_ r ∧ Below w.heap.size w w' := by
 have HR0 := Aside0.mk hr0
 have HC0 := Aside0.mk hc0
 clear hr0 hc0
 have HB := Aside0.mk (Below.refl w.heap.size w)
 have H : ((impl_CircuitsOk.f k l0).bind fun t501 => (if t501 = true then (if a1 = 0 then (impl_StepPairs.j0 k l0 a1 false) else (impl_StepPairs.j0 k l0 a1 (a1 != 1))) else (impl_StepPairs.j0 k l0 a1 true))) = some r := h
 clear h
 have HC3 := Aside0.mk H
 clear H
 go_enter Try.func9, Try.ntmps9
 go_upto_region 1 with (fail)
 go_cut [18] (fun v18 wc => ∃ (kq : Nat) (x18_2 : Bool), v18 = .bool x18_2 ∧ Aside0 (impl_StepPairs.j0 kq l0 a1 x18_2 = some r) ∧ Aside0 (kq ≤ k) ∧ Aside0 (Below w.heap.size w wc))
 case first =>
  have H := HC3.out
  clear HC3
  replace H := Option.bind_eq_some_iff.mp H
  obtain ⟨t501, A40, H⟩ := H
  replace H : (if t501 = true then (if a1 = 0 then (impl_StepPairs.j0 k l0 a1 false) else (impl_StepPairs.j0 k l0 a1 (a1 != 1))) else (impl_StepPairs.j0 k l0 a1 true)) = some r := H
  have A4 := Aside0.mk A40
  clear A40
  by_cases c5 : t501 = true
  ·subst c5
   have H1 : (if a1 = 0 then (impl_StepPairs.j0 k l0 a1 false) else (impl_StepPairs.j0 k l0 a1 (a1 != 1))) = some r := by rw [if_pos rfl] at H; exact H
   clear H
   have H := H1
   clear H1
   by_cases c6 : a1 = 0
   ·rw [if_pos c6] at H
    have c6b0 : (a1 == 0) = true := beq_iff_eq.mpr c6
    have c6b1 : (a1 != 0) = false := bne_eq_false_iff_eq.mpr c6
    clear c6
    (first | rw [c6b0] | (simp only [i64_w, i32_w]; rw [c6b0]) | skip)
    have H' := Aside0.mk H
    clear H
    go_wp2_with (first | (refine gl_ 9 Try.func29 #[.slice A0 l0.length c0] ?_; (with_reducible refine (impl_CircuitsOk.calls k _ _ l0 true _ ?side1 ?side2 A4.out).mono ?_); (case side1 => repeat (first | exact (Kd.C_below HR0.out HB.out) | (with_reducible refine Kd.C_alloc ?_ _) | (with_reducible refine Kd.C_drewN ?_ _) | (with_reducible refine Kd.C_drew ?_))); (case side2 => exact HC0.out); rintro e w' ⟨rfl, ⟨nd, rfl⟩⟩; refine ⟨_, rfl, ?_⟩))
    go_meet
    case rel => exact ⟨_, (false), (by first | rfl | (simp; done) | (simp [*]; done)), H', ⟨by first | omega | exact Nat.le_refl _⟩, ⟨hb0_ HB.out⟩⟩
   ·rw [if_neg c6] at H
    have c6b0 : (a1 == 0) = false := beq_eq_false_iff_ne.mpr c6
    have c6b1 : (a1 != 0) = true := bne_iff_ne.mpr c6
    (first | rw [c6b0] | (simp only [i64_w, i32_w]; rw [c6b0]) | skip)
    have H' := Aside0.mk H
    clear H
    go_wp2_with (first | (refine gl_ 9 Try.func29 #[.slice A0 l0.length c0] ?_; (with_reducible refine (impl_CircuitsOk.calls k _ _ l0 true _ ?side1 ?side2 A4.out).mono ?_); (case side1 => repeat (first | exact (Kd.C_below HR0.out HB.out) | (with_reducible refine Kd.C_alloc ?_ _) | (with_reducible refine Kd.C_drewN ?_ _) | (with_reducible refine Kd.C_drew ?_))); (case side2 => exact HC0.out); rintro e w' ⟨rfl, ⟨nd, rfl⟩⟩; refine ⟨_, rfl, ?_⟩))
    go_meet
    case rel => exact ⟨_, ((a1 != 1)), (by first | rfl | (simp; done) | (simp [*]; done)), H', ⟨by first | omega | exact Nat.le_refl _⟩, ⟨hb0_ HB.out⟩⟩
  ·replace c5 := Bool.eq_false_iff.mpr c5
   subst c5
   have H1 : (impl_StepPairs.j0 k l0 a1 true) = some r := by rw [if_neg (show ¬ (false = true) by decide)] at H; exact H
   clear H
   have H := H1
   clear H1
   have H' := Aside0.mk H
   clear H
   go_wp2_with (first | (refine gl_ 9 Try.func29 #[.slice A0 l0.length c0] ?_; (with_reducible refine (impl_CircuitsOk.calls k _ _ l0 false _ ?side1 ?side2 A4.out).mono ?_); (case side1 => repeat (first | exact (Kd.C_below HR0.out HB.out) | (with_reducible refine Kd.C_alloc ?_ _) | (with_reducible refine Kd.C_drewN ?_ _) | (with_reducible refine Kd.C_drew ?_))); (case side2 => exact HC0.out); rintro e w' ⟨rfl, ⟨nd, rfl⟩⟩; refine ⟨_, rfl, ?_⟩))
   go_meet
   case rel => exact ⟨_, (true), (by first | rfl | (simp; done) | (simp [*]; done)), H', ⟨by first | omega | exact Nat.le_refl _⟩, ⟨hb0_ HB.out⟩⟩
 case rest =>
  clear HC3
  try clear c2
  try clear p2
  try clear c5
  try clear c6
  try clear c6b0
  try clear c6b1
  obtain ⟨kq, x18_2, rfl, HA, HJ2, HB⟩ := hcut
  cases kq with
  | zero => exact absurd HA.out (by simp [impl_StepPairs.j0])
  | succ kj2 =>
   have H := HA.out
   clear HA
   simp only [impl_StepPairs.j0] at H
   by_cases c7 : x18_2 = true
   ·subst c7
    have H1 : (some ([] : List (List Int))) = some r := by rw [if_pos rfl] at H; exact H
    clear H
    have H := H1
    clear H1
    obtain rfl := Option.some.inj H
    go_wp2
    go_ret
    exact ⟨_, ex_, by first | exact Kd.S_nil _ _ _ _ _ | exact Kd.N_nil _ _ _ _ _ | exact Kd.V_nil _ _ _ _ _ | exact Kd.Q_nil _ _ _ _ _ | exact Kd.R_nil _ _ _ _ _, hb0_ HB.out⟩
   ·replace c7 := Bool.eq_false_iff.mpr c7
    subst c7
    have H1 : ((some (([0] : List Int) : List Int)).bind fun y502 => (if y502.length + l0.length < 17592186044416 then ((some (y502 ++ l0 : List Int)).bind fun y505 => (if y505.length < 17592186044416 then (impl_StepPairs.l0 kj2 (y505 ++ [wrap64 ((l0.length : Int) + 1)]) ([] : List (List Int)) a1) else (none))) else (none))) = some r := by rw [if_neg (show ¬ (false = true) by decide)] at H; exact H
    clear H
    have H := H1
    clear H1
    obtain ⟨y502, hy502⟩ : ∃ y_ : List Int, y_ = (([0] : List Int)) := ⟨_, rfl⟩
    replace H : (if y502.length + l0.length < 17592186044416 then ((some (y502 ++ l0 : List Int)).bind fun y505 => (if y505.length < 17592186044416 then (impl_StepPairs.l0 kj2 (y505 ++ [wrap64 ((l0.length : Int) + 1)]) ([] : List (List Int)) a1) else (none))) else (none)) = some r := by first | (rw [hy502]; with_reducible exact H) | (have H2_ := (Option.bind_some _ _).symm.trans H; rw [hy502]; with_reducible exact H2_) | (have H2_ := (Option.bind_some _ _).symm.trans H; with_reducible exact H2_) | with_reducible exact H | (rw [hy502]; exact H) | exact H
    have Ny502 := Aside0.mk hy502
    clear hy502
    by_cases c8 : y502.length + l0.length < 17592186044416
    ·rw [if_pos c8] at H
     have LMc8 := Aside0.mk c8
     clear c8
     obtain ⟨y505, hy505⟩ : ∃ y_ : List Int, y_ = (y502 ++ l0) := ⟨_, rfl⟩
     replace H : (if y505.length < 17592186044416 then (impl_StepPairs.l0 kj2 (y505 ++ [wrap64 ((l0.length : Int) + 1)]) ([] : List (List Int)) a1) else (none)) = some r := by first | (rw [hy505]; with_reducible exact H) | (have H2_ := (Option.bind_some _ _).symm.trans H; rw [hy505]; with_reducible exact H2_) | (have H2_ := (Option.bind_some _ _).symm.trans H; with_reducible exact H2_) | with_reducible exact H | (rw [hy505]; exact H) | exact H
     have Ny505 := Aside0.mk hy505
     clear hy505
     by_cases c9 : y505.length < 17592186044416
     ·rw [if_pos c9] at H
      have LMc9 := Aside0.mk c9
      clear c9
      obtain ⟨y508, hy508⟩ : ∃ y_ : List Int, y_ = (y505 ++ [wrap64 ((l0.length : Int) + 1)]) := ⟨_, rfl⟩
      replace H : (impl_StepPairs.l0 kj2 y508 ([] : List (List Int)) a1) = some r := by first | (rw [hy508]; with_reducible exact H) | (have H2_ := (Option.bind_some _ _).symm.trans H; rw [hy508]; with_reducible exact H2_) | (have H2_ := (Option.bind_some _ _).symm.trans H; with_reducible exact H2_) | with_reducible exact H | (rw [hy508]; exact H) | exact H
      have Ny508 := Aside0.mk hy508
      clear hy508
      have H' := Aside0.mk H
      clear H
      go_wp2_with (first | ((with_reducible refine gate_dst (N := 19) rfl ?_); refine Kd.R_lit (Kd.int .i64) _ 3 ?hg (N := 19) ?hd (xs := ([0] : List Int)) (inner := [.int .i64 0]) (ok := fun _ => True) (okp := fun _ => True) ?hr ?hp (fun _ hk => hk) trivial (Below.refl _ _) (Nat.le_refl _) (by simp) ?_; (case hd => rfl); (case hg => rfl); (case hr => first | (go_simp; done) | (go_simp; rfl)); (case hp => exact (Reps.one (show Kd.M (Kd.int .i64) _ _ _ 0 [.int .i64 0] from rfl) (Reps.none _ _))); intro v503 w10 ho11 hb hg_ hnew_; clear hg_ hnew_; (first | rw [← Ny502.out] at ho11 | (simp only [Int.reduceToNat] at ho11; rw [← Ny502.out] at ho11)); have HO504 := Aside0.mk (Kd.R_lower ho11 (below_size (hb0_ HB.out))); replace HB := HB.s0 hb; clear hb ho11) | ((with_reducible refine gate_builtin (b := .append) (xs := #[.tmp 19, .tmp 20]) rfl ?_); at_builtin; refine Kd.R_append_rows (Kd.int .i64) (w0 := w) w.heap.size rfl (.tmp 19) (.tmp 20) 22 3 (.int .i64 0) 8 rfl Try.underlying22 info3 rfl (by decide) (by omega) v503 y502 l0 _ _ _ (fun _ => True) (fun _ => False) rfl rfl ?aO ?aR (fun _ _ h => h) (fun _ h => h.elim) ?aF ?aB ?aS ?aL ?_; (case aR => repeat (first | exact (Kd.C_below HR0.out HB.out) | (with_reducible refine Kd.C_alloc ?_ _) | (with_reducible refine Kd.C_drewN ?_ _) | (with_reducible refine Kd.C_drew ?_))); (case aB => exact (hb0_ HB.out)); (case aF => exact (fun _ _ => trivial)); (case aO => exact (kr_ HO504.out)); (case aS => exact (below_size (hb0_ HB.out))); (case aL => have := LMc8.out; omega); intro v506 w12 ho hb hg hat; rw [← Ny505.out] at ho; replace HB := Aside0.mk (hb); have HO507 := Aside0.mk (ho); clear HO504; clear ho hb hg hat) | ((with_reducible refine gate_builtin (b := .append) (xs := #[.tmp 21, .tmp 25]) rfl ?_); at_builtin; refine Kd.R_append (Kd.int .i64) (w0 := w) w.heap.size rfl (.tmp 21) (.tmp 25) 22 3 (.int .i64 0) 8 rfl Try.underlying22 info3 rfl (by decide) (by omega) v506 y505 (wrap64 ((l0.length : Int) + 1)) [.int .i64 (wrap64 ((l0.length : Int) + 1))] (fun _ => True) (fun _ => False) rfl rfl ?aP (fun _ hk => hk.elim) ?aF ?aO ?aB ?aS ?aL ?_; (case aP => exact rfl); (case aB => exact (hb0_ HB.out)); (case aF => exact (fun _ _ => trivial)); (case aO => exact (kr_ HO507.out)); (case aS => exact (below_size (hb0_ HB.out))); (case aL => have := LMc9.out; omega); intro v509 w13 ho hb hg hat; rw [← Ny508.out] at ho; replace HB := Aside0.mk (hb); have HO510 := Aside0.mk (ho); clear HO507; clear ho hb hg hat))
      go_loopg [6, 7] kj2 (fun kq v6 v7 w' => ∃ (x6_2 : List (List Int)) (x7_2 : Int), v7 = .int .i64 x7_2 ∧ Aside0 (impl_StepPairs.l0 kq y508 x6_2 x7_2 = some r) ∧ Aside0 (kq ≤ kj2) ∧ Aside0 (Kd.R (Kd.int .i64) 3 w' w.heap.size (fun _ => True) v509 y508) ∧ Aside0 (Kd.S (Kd.slice 3 (Kd.int .i64)) 22 w' w.heap.size (fun k_ => some k_ ≠ (v509 : Value).ownBlock) v6 x6_2) ∧ Aside0 (Below w.heap.size w w'))
      case atStart => exact ⟨(([] : List (List Int))), (a1), (by first | rfl | (simp; done) | (simp [*]; done)), H', ⟨Nat.le_refl _⟩, ⟨kr_ HO510.out⟩, ⟨by first | exact Kd.S_nil _ _ _ _ _ | exact Kd.N_nil _ _ _ _ _ | exact Kd.V_nil _ _ _ _ _ | exact Kd.Q_nil _ _ _ _ _ | exact Kd.R_nil _ _ _ _ _⟩, ⟨hb0_ HB.out⟩⟩
      case round =>
       clear H'
       try clear c2
       try clear p2
       try clear c5
       try clear c6
       try clear c6b0
       try clear c6b1
       try clear p6
       try clear c7
       try clear c8
       try clear c9
       try clear p2
       obtain ⟨x6_2, x7_2, rfl, HA, HK2, HO_5, HO_6, HB⟩ := hrel
       cases gk with
       | zero => exact absurd HA.out (by simp [impl_StepPairs.l0])
       | succ k2 =>
        have H := HA.out
        clear HA
        simp only [impl_StepPairs.l0] at H
        by_cases c14 : x7_2 < (wrap64 ((y508.length : Int) - 1))
        ·rw [if_pos c14] at H
         have c14b0 : decide (x7_2 < (wrap64 ((y508.length : Int) - 1))) = true := decide_eq_true c14
         clear c14
         by_cases c15 : 0 ≤ x7_2
         ·rw [if_pos c15] at H
          have c15b0 : decide (0 ≤ x7_2) = true := decide_eq_true c15
          clear c15
          by_cases c16 : x7_2 < (y508.length : Int)
          ·rw [if_pos c16] at H
           have c16b0 : decide (x7_2 < (y508.length : Int)) = true := decide_eq_true c16
           clear c16
           obtain ⟨ji17, hji17⟩ : ∃ j_ : Int, (wrap64 (x7_2 + 1)) = j_ := ⟨_, rfl⟩
           replace H : (if 0 ≤ (ji17) then (if (ji17) < (y508.length : Int) then (if x6_2.length < 5864062014805 then (impl_StepPairs.l0 k2 y508 (x6_2 ++ [(([mn (rd y508 x7_2) (rd y508 (ji17)), mx (rd y508 x7_2) (rd y508 (ji17))] : List Int))]) (wrap64 (x7_2 + 2))) else (none)) else (none)) else (none)) = some r := by first | (rw [hji17] at H; exact H) | (simp only [hji17] at H ⊢; exact H)
           have hji17w : (IntKind.i64.wrap (x7_2 + 1)) = ji17 := (i64_w _).trans hji17
           by_cases c18 : 0 ≤ (ji17)
           ·rw [if_pos c18] at H
            have c18b0 : decide (0 ≤ (ji17)) = true := decide_eq_true c18
            clear c18
            by_cases c19 : (ji17) < (y508.length : Int)
            ·rw [if_pos c19] at H
             have c19b0 : decide ((ji17) < (y508.length : Int)) = true := decide_eq_true c19
             clear c19
             obtain ⟨ji20, hji20⟩ : ∃ j_ : Int, (mn (rd y508 x7_2) (rd y508 (ji17))) = j_ := ⟨_, rfl⟩
             replace H : (if x6_2.length < 5864062014805 then (impl_StepPairs.l0 k2 y508 (x6_2 ++ [(([ji20, mx (rd y508 x7_2) (rd y508 (ji17))] : List Int))]) (wrap64 (x7_2 + 2))) else (none)) = some r := by first | (rw [hji20] at H; exact H) | (simp only [hji20] at H ⊢; exact H)
             have hji20_ : (if (rd y508 (ji17)) < (rd y508 x7_2) then (rd y508 (ji17)) else (rd y508 x7_2)) = ji20 := hji20
             obtain ⟨ji21, hji21⟩ : ∃ j_ : Int, (mx (rd y508 x7_2) (rd y508 (ji17))) = j_ := ⟨_, rfl⟩
             replace H : (if x6_2.length < 5864062014805 then (impl_StepPairs.l0 k2 y508 (x6_2 ++ [(([ji20, ji21] : List Int))]) (wrap64 (x7_2 + 2))) else (none)) = some r := by first | (rw [hji21] at H; exact H) | (simp only [hji21] at H ⊢; exact H)
             have hji21_ : (if (rd y508 x7_2) < (rd y508 (ji17)) then (rd y508 (ji17)) else (rd y508 x7_2)) = ji21 := hji21
             obtain ⟨y515, hy515⟩ : ∃ y_ : List Int, y_ = (([ji20, ji21] : List Int)) := ⟨_, rfl⟩
             replace H : (if x6_2.length < 5864062014805 then (impl_StepPairs.l0 k2 y508 (x6_2 ++ [y515]) (wrap64 (x7_2 + 2))) else (none)) = some r := by first | (rw [hy515]; with_reducible exact H) | (have H2_ := (Option.bind_some _ _).symm.trans H; rw [hy515]; with_reducible exact H2_) | (have H2_ := (Option.bind_some _ _).symm.trans H; with_reducible exact H2_) | with_reducible exact H | (rw [hy515]; exact H) | exact H
             have Ny515 := Aside0.mk hy515
             clear hy515
             by_cases c22 : x6_2.length < 5864062014805
             ·rw [if_pos c22] at H
              have LMc22 := Aside0.mk c22
              clear c22
              obtain ⟨y518, hy518⟩ : ∃ y_ : List (List Int), y_ = (x6_2 ++ [y515]) := ⟨_, rfl⟩
              replace H : (impl_StepPairs.l0 k2 y508 y518 (wrap64 (x7_2 + 2))) = some r := by first | (rw [hy518]; with_reducible exact H) | (have H2_ := (Option.bind_some _ _).symm.trans H; rw [hy518]; with_reducible exact H2_) | (have H2_ := (Option.bind_some _ _).symm.trans H; with_reducible exact H2_) | with_reducible exact H | (rw [hy518]; exact H) | exact H
              have Ny518 := Aside0.mk hy518
              clear hy518
              have H' := Aside0.mk H
              clear H
              obtain ⟨Ao23, co23, eo23⟩ := Kd.R_slice HO_5.out
              subst eo23
              try go_wp2
              replace HO_5 := Aside0.mk (Kd.R_drew HO_5.out)
              replace HO_6 := Aside0.mk (Kd.S_drew HO_6.out)
              replace HB := Aside0.mk (below_drew1 HB.out)
              have p511 : 0 ≤ (x7_2 : Int) := of_decide_eq_true (as_)
              have q511 : x7_2 < (y508.length : Int) := of_decide_eq_true (as_)
              obtain ⟨ad511, e511, hx511_0⟩ := Kd.at_int (Kd.R_reads' HO_5.out).2.2 x7_2 p511 q511
              cases e511
              replace p511 := eq_true p511
              replace q511 := eq_true q511
              have p512 : 0 ≤ ((ji17) : Int) := of_decide_eq_true (as_)
              have q512 : (ji17) < (y508.length : Int) := of_decide_eq_true (as_)
              obtain ⟨ad512, e512, hx512_0⟩ := Kd.at_int (Kd.R_reads' HO_5.out).2.2 (ji17) p512 q512
              obtain rfl : ad511 = ad512 := (by injection e512)
              replace p512 := eq_true p512
              replace q512 := eq_true q512
              have p513 : 0 ≤ (x7_2 : Int) := of_decide_eq_true (as_)
              have q513 : x7_2 < (y508.length : Int) := of_decide_eq_true (as_)
              obtain ⟨ad513, e513, hx513_0⟩ := Kd.at_int (Kd.R_reads' HO_5.out).2.2 x7_2 p513 q513
              obtain rfl : ad511 = ad513 := (by injection e513)
              replace p513 := eq_true p513
              replace q513 := eq_true q513
              have p514 : 0 ≤ ((ji17) : Int) := of_decide_eq_true (as_)
              have q514 : (ji17) < (y508.length : Int) := of_decide_eq_true (as_)
              obtain ⟨ad514, e514, hx514_0⟩ := Kd.at_int (Kd.R_reads' HO_5.out).2.2 (ji17) p514 q514
              obtain rfl : ad511 = ad514 := (by injection e514)
              replace p514 := eq_true p514
              replace q514 := eq_true q514
              refine start_ (n := 25) (S := fun w' => w'.cell? (ad511.add (x7_2).toNat) = some (.int .i64 (rd y508 x7_2)) ∧ w'.cell? (ad511.add ((ji17)).toNat) = some (.int .i64 (rd y508 (ji17))) ∧ w'.cell? (ad511.add (x7_2).toNat) = some (.int .i64 (rd y508 x7_2)) ∧ w'.cell? (ad511.add ((ji17)).toNat) = some (.int .i64 (rd y508 (ji17)))) (ds := [22, 23]) #[false, false, false, false, false, false, false, false, false, false, false, false, false, false, false, false, false, false, false, false, false, false, false, false, false] (by kernel_rfl) rfl rfl ⟨hx511_0, hx512_0, hx513_0, hx514_0⟩ (fun hHeld => ?_); refine with_tabW impl_StepPairs.tab8 impl_StepPairs.bits8 (fun HT_ HW_ => ?_)
              generalize wr.drew = w24 at HO_5 HO_6 HB hx511_0 hx512_0 hx513_0 hx514_0 hHeld ⊢
              refine pv_ (i := 0) (N := some 35) HT_.out ?_
              refine pv_ (i := 1) (N := some 36) HT_.out ?_
              refine pv_ (i := 2) (N := some 37) HT_.out ?_
              refine pv_ (i := 3) (N := some 38) HT_.out ?_
              refine pv_ (i := 5) (N := some 40) HT_.out ?_
              refine pv_ (i := 6) (N := some 41) HT_.out ?_
              refine pv_ (i := 7) (N := some 42) HT_.out ?_
              refine pv_ (i := 8) (N := some 43) HT_.out ?_
              refine pv_ (i := 11) (N := some 46) HT_.out ?_
              refine pv_ (i := 12) (N := some 47) HT_.out ?_
              refine pv_ (i := 13) (N := some 48) HT_.out ?_
              refine pv_ (i := 15) (N := some 50) HT_.out ?_
              refine pv_ (i := 16) (N := some 51) HT_.out ?_
              refine pv_ (i := 17) (N := some 52) HT_.out ?_
              refine pv_ (i := 18) (N := some 53) HT_.out ?_
              refine tv4_ (i := 4) (N := some 39) HT_.out HW_.out hHeld ?_
              refine tv4_ (i := 9) (N := some 44) HT_.out HW_.out hHeld ?_
              refine pv_ (i := 10) (N := some 45) HT_.out ?_
              refine tv4_ (i := 14) (N := some 49) HT_.out HW_.out hHeld ?_
              refine tv4_ (i := 19) (N := some 54) HT_.out HW_.out hHeld ?_
              refine pv_ (i := 20) (N := some 55) HT_.out ?_
              refine ov_ (i := 21) (N := some 56) HT_.out (fun K hK => ?_)
              refine Kd.R_lit_step (Kd.int .i64) _ 3 ?hg (N := 56) ?hd (xs := ([ji20, ji21] : List Int)) (inner := [.int .i64 ji20, .int .i64 ji21]) (ok := fun _ => True) (okp := fun _ => True) ?hr ?hp (fun _ hk => hk) trivial (Below.refl _ _) (Nat.le_refl _) (by simp) ?_; (case hd => rfl); (case hg => rfl); (case hr => first | (go_simp; done) | (go_simp; rfl)); (case hp => exact (Reps.one (show Kd.M (Kd.int .i64) _ _ _ ji20 [.int .i64 ji20] from rfl) (Reps.one (show Kd.M (Kd.int .i64) _ _ _ ji21 [.int .i64 ji21] from rfl) (Reps.none _ _))))
              intro v516 w25 ho26 hb hg_ hnew_
              have HS0_ := (hb.cell (World.block_lt_of_cell? _ _ (hHeld.1))).trans (hHeld.1)
              have HS1_ := (hb.cell (World.block_lt_of_cell? _ _ (hHeld.2.1))).trans (hHeld.2.1)
              have HS2_ := (hb.cell (World.block_lt_of_cell? _ _ (hHeld.2.2.1))).trans (hHeld.2.2.1)
              have HS3_ := (hb.cell (World.block_lt_of_cell? _ _ (hHeld.2.2.2))).trans (hHeld.2.2.2)
              clear hg_ hnew_
              (first | rw [← Ny515.out] at ho26 | (simp only [Int.reduceToNat] at ho26; rw [← Ny515.out] at ho26))
              have n0_ := Aside0.mk (Kd.R_elder' (kr_ HO_5.out) (Kd.R_base ho26) hb)
              have n1_ := Aside0.mk (Kd.S_elder' (by (with_reducible repeat (first | apply Kd.S_alloc | apply Kd.S_drewN | apply Kd.S_drew)); exact HO_6.out) (Kd.R_base ho26) hb)
              have n2_ := Aside0.mk (Kd.R_lower (Kd.R_new' ho26 (Kd.R_lt (kr_ HO_5.out))) (below_size (hb0_ HB.out)))
              have n3_ := HB.s0 hb
              clear HO_5
              clear HO_6
              clear HB
              have HO_5 := n0_
              have HO_6 := n1_
              have HO517 := n2_
              have HB := n3_
              clear n0_ n1_ n2_ n3_
              clear hb ho26
              obtain ⟨Ao28, co28, eo28⟩ := Kd.R_slice HO517.out
              (first | subst eo28 | (injection eo28 with f1_ f2_ f3_; have f4_ := f1_.symm; have f5_ := f3_.symm; clear f1_ f2_ f3_; subst f4_; subst f5_))
              refine hK.out _ _ ⟨HS0_, HS1_, HS2_, HS3_⟩ (fun hHeld => ?_)
              clear hK K
              refine nm_ ?_
              refine last_ (i := 22) (N := some 57) #[true, true, true, true, true, true, true, true, true, true, true, true, true, true, true, true, true, true, true, true, true, true, true, false, false] rfl rfl (one_of HT_.out (by kernel_rfl)) (by decide) (fun K hK => ?_)
              refine value_ (w1 := ?_) (v := ?_) (by rfl) rfl ?_ ?_
              rotate_left 2
              ·go_simp
               constructor
               ·rfl
               ·rfl
              refine hK.out _ _ ?_
              clear hK K
              refine nm_ ?_
              refine last_ (i := 23) (N := some 58) #[true, true, true, true, true, true, true, true, true, true, true, true, true, true, true, true, true, true, true, true, true, true, true, true, false] rfl rfl (one_of HT_.out (by kernel_rfl)) (by decide) (fun K hK => ?_)
              refine Kd.S_append_step (Kd.slice 3 (Kd.int .i64)) (w0 := w) w.heap.size (by rfl) (.tmp 35) (.tmp 57) 23 22 (.slice none 0 0) 24 rfl Try.underlying23 info22 rfl (by decide) (by omega) u6 x6_2 y515 [.slice Ao28 y515.length co28] (fun k_ => some k_ ≠ (.slice (some ad511) y508.length co23 : Value).ownBlock) (fun k_ => some k_ = (.slice Ao28 y515.length co28 : Value).ownBlock) rfl rfl ?aP (fun k_ hk_ => ((Kd.R_mono (ok' := fun k_ => ((fun k_ => some k_ ≠ (.slice (some ad511) y508.length co23 : Value).ownBlock)) k_ ∧ some k_ ≠ (u6 : Value).ownBlock) (Kd.R_apart' (HO517.out) (Kd.S_typed HO_6.out) (by decide)) (fun k_ hk => ⟨hk.1.2, hk.2⟩))).1 k_ hk_.symm) ?aF ?aO ?aB ?aS ?aL ?_
              (case aP => exact Kd.M_row (Kd.R_mono (Kd.R_tight rfl (Kd.R_mono (ok' := fun k_ => ((fun k_ => some k_ ≠ (.slice (some ad511) y508.length co23 : Value).ownBlock)) k_ ∧ some k_ ≠ (u6 : Value).ownBlock) (Kd.R_apart' (HO517.out) (Kd.S_typed HO_6.out) (by decide)) (fun k_ hk => ⟨hk.1.2, hk.2⟩))) (fun _ h_ => h_)))
              (case aB => exact (hb0_ HB.out))
              (case aF => exact (fun k_ hk => Kd.fresh' (Kd.R_lt (kr_ HO_5.out)) k_ hk))
              (case aO => exact (by (with_reducible repeat (first | apply Kd.S_alloc | apply Kd.S_drewN | apply Kd.S_drew)); exact Kd.S_mono HO_6.out (fun k_ hk => ⟨hk.1, fun e_ => hk.2 e_⟩)))
              (case aS => exact (below_size (hb0_ HB.out)))
              (case aL => have := LMc22.out; omega)
              intro v519 w27 ho hb hg hat
              rw [← Ny518.out] at ho
              replace HO_5 := Aside0.mk (Kd.R_over' (kr_ HO_5.out) (Kd.S_typed (by (with_reducible repeat (first | apply Kd.S_alloc | apply Kd.S_drewN | apply Kd.S_drew)); exact HO_6.out)) (by decide) hg)
              replace HB := Aside0.mk (hb)
              have HO520 := Aside0.mk (ho)
              clear HO_6
              clear HO517
              clear ho hb hg hat
              refine hK.out _ _ ?_
              clear hK K
              refine nm_ ?_
              refine pv_ (i := 24) (N := some 6) HT_.out ?_
              refine done_ (done_of HT_.out (by kernel_rfl)) ?_
              try go_wp2
              go_roundg k2
              case measure => have := HJ2.out; have := HK2.out; omega
              case rel => exact ⟨(y518), (wrap64 (x7_2 + 2)), (by first | rfl | (simp; done) | (simp [*]; done)), H', ⟨by have := HJ2.out; have := HK2.out; omega⟩, ⟨by (with_reducible repeat (first | apply Kd.R_alloc | apply Kd.R_drewN | apply Kd.R_drew)); exact Kd.R_mono HO_5.out (fun _ hk => trivial)⟩, ⟨by (with_reducible repeat (first | apply Kd.S_alloc | apply Kd.S_drewN | apply Kd.S_drew)); exact HO520.out⟩, ⟨hb0_ HB.out⟩⟩
             ·rw [if_neg c22] at H
              exact absurd H (by simp)
            ·rw [if_neg c19] at H
             exact absurd H (by simp)
           ·rw [if_neg c18] at H
            exact absurd H (by simp)
          ·rw [if_neg c16] at H
           exact absurd H (by simp)
         ·rw [if_neg c15] at H
          exact absurd H (by simp)
        ·rw [if_neg c14] at H
         have c14b0 : decide (x7_2 < (wrap64 ((y508.length : Int) - 1))) = false := decide_eq_false c14
         clear c14
         obtain rfl := Option.some.inj H
         obtain ⟨Ao29, co29, eo29⟩ := Kd.R_slice HO_5.out
         subst eo29
         go_wp2
         go_ret
         exact ⟨_, ex_, by (with_reducible repeat (first | apply Kd.S_alloc | apply Kd.S_drewN | apply Kd.S_drew)); exact Kd.S_mono HO_6.out (fun _ hk => trivial), hb0_ HB.out⟩
     ·rw [if_neg c9] at H
      exact absurd H (by simp)
    ·rw [if_neg c8] at H
     exact absurd H (by simp)

end Go.Proofs.Ytkkjlbpffcdlfaa.X
