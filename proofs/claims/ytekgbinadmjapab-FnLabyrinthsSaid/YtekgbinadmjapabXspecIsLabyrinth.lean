-- Written by a program of this session (xprint.py), out of the translation and of hand-written contracts. Lean checks it.
import Derived.Test.YtekgbinadmjapabX0
import Derived.Test.YtekgbinadmjapabXccross
import Derived.Test.YtekgbinadmjapabXspecCircuitsOk
import Derived.Test.YtekgbinadmjapabXspecStepPairs
namespace Go.Proofs.Ytekgbinadmjapab.X
open Go.RowKit Go.Proofs.YtekgbinadmjapabW.PrintWords Go.Proofs.YtekgbinadmjapabW.PrintLast Go.Proofs.YtekgbinadmjapabW.PrintMore
attribute [local go_sem] max2_int min2_int max_two min_two max_three min_three max_four min_four   -- for this text's walks alone
set_option linter.unusedVariables false
set_option linter.unusedSimpArgs false

/-! ### spec_IsLabyrinth: function 17 -/
mutual
def spec_IsLabyrinth.l0 : Nat → List Int → List Int → Int → Option (Bool)
 | 0, _, _, _ => none
 | k + 1, x0, x3, x4 => if x4 < (x3.length : Int) then (if 0 ≤ x4 then (if 0 ≤ (wrap64 (x4 - 1)) then (if (wrap64 (x4 - 1)) < (x3.length : Int) then (if (Int.tmod (wrap64 ((rd x3 x4) - (rd x3 (wrap64 (x4 - 1))))) 2) = 0 then (some false) else (spec_IsLabyrinth.l0 k x0 x3 (wrap64 (x4 + 1)))) else (none)) else (none)) else (none)) else (spec_IsLabyrinth.l1 k x0 0)
def spec_IsLabyrinth.l1 : Nat → List Int → Int → Option (Bool)
 | 0, _, _ => none
 | k + 1, x0, x5 => if x5 < 2 then ((spec_StepPairs.f k x0 x5).bind fun t513 => (spec_IsLabyrinth.l2 k x0 x5 t513 0)) else (some true)
def spec_IsLabyrinth.l2 : Nat → List Int → Int → List (List Int) → Int → Option (Bool)
 | 0, _, _, _, _ => none
 | k + 1, x0, x5, x6, x7 => if x7 < (x6.length : Int) then (spec_IsLabyrinth.l3 k x0 x5 x6 x7 0) else (spec_IsLabyrinth.l1 k x0 (wrap64 (x5 + 1)))
def spec_IsLabyrinth.l3 : Nat → List Int → Int → List (List Int) → Int → Int → Option (Bool)
 | 0, _, _, _, _, _ => none
 | k + 1, x0, x5, x6, x7, x8 => if x8 < x7 then (if 0 ≤ x7 then (if x7 < (x6.length : Int) then (if 0 ≤ x8 then (if x8 < (x6.length : Int) then ((spec_CrossPairs.f k (rd_L2 x6 x7) (rd_L2 x6 x8)).bind fun t518 => (if t518 = true then (some false) else (spec_IsLabyrinth.l3 k x0 x5 x6 x7 (wrap64 (x8 + 1))))) else (none)) else (none)) else (none)) else (none)) else (spec_IsLabyrinth.l2 k x0 x5 x6 (wrap64 (x7 + 1)))
end
def spec_IsLabyrinth.f (k : Nat) (l0 : List Int) : Option (Bool) := (spec_CircuitsOk.f k l0).bind fun t501 => (if t501 = true then ((some (([0] : List Int) : List Int)).bind fun y502 => (if y502.length + l0.length < 17592186044416 then ((some (y502 ++ l0 : List Int)).bind fun y505 => (if y505.length < 17592186044416 then (spec_IsLabyrinth.l0 k l0 (y505 ++ [wrap64 ((l0.length : Int) + 1)]) 1) else (none))) else (none))) else (some false))
theorem spec_IsLabyrinth.mono_l : ∀ k, (∀ y0 y1 y2, LeO (spec_IsLabyrinth.l0 k y0 y1 y2) (spec_IsLabyrinth.l0 (k + 1) y0 y1 y2)) ∧ (∀ y0 y1, LeO (spec_IsLabyrinth.l1 k y0 y1) (spec_IsLabyrinth.l1 (k + 1) y0 y1)) ∧ (∀ y0 y1 y2 y3, LeO (spec_IsLabyrinth.l2 k y0 y1 y2 y3) (spec_IsLabyrinth.l2 (k + 1) y0 y1 y2 y3)) ∧ (∀ y0 y1 y2 y3 y4, LeO (spec_IsLabyrinth.l3 k y0 y1 y2 y3 y4) (spec_IsLabyrinth.l3 (k + 1) y0 y1 y2 y3 y4))
 | 0 => ⟨fun _ _ _ r h => by simp [spec_IsLabyrinth.l0] at h, fun _ _ r h => by simp [spec_IsLabyrinth.l1] at h, fun _ _ _ _ r h => by simp [spec_IsLabyrinth.l2] at h, fun _ _ _ _ _ r h => by simp [spec_IsLabyrinth.l3] at h⟩
 | k + 1 => by
  obtain ⟨ih0, ih1, ih2, ih3⟩ := spec_IsLabyrinth.mono_l k
  refine ⟨?_, ?_, ?_, ?_⟩
  ·intro y0 y1 y2
   unfold spec_IsLabyrinth.l0
   repeat' first
   | (with_reducible exact ih0 _ _ _)
   | (with_reducible exact ih1 _ _)
   | (with_reducible exact ih2 _ _ _ _)
   | (with_reducible exact ih3 _ _ _ _ _)
   | (with_reducible exact spec_CircuitsOk.mono _ _)
   | (with_reducible exact spec_CrossPairs.mono _ _ _)
   | (with_reducible exact spec_StepPairs.mono _ _ _)
   | (with_reducible exact LeO.refl _)
   | (with_reducible exact LeO.none _)
   | (with_reducible refine LeO.ite ?_ ?_)
   | (with_reducible refine LeO.bind ?_ (fun _ => ?_))
   | exact ih0 _ _ _
   | exact ih1 _ _
   | exact ih2 _ _ _ _
   | exact ih3 _ _ _ _ _
   | exact spec_CircuitsOk.mono _ _
   | exact spec_CrossPairs.mono _ _ _
   | exact spec_StepPairs.mono _ _ _
   | exact LeO.none _
   | refine LeO.ite ?_ ?_
   | refine LeO.bind ?_ (fun _ => ?_)
  ·intro y0 y1
   unfold spec_IsLabyrinth.l1
   repeat' first
   | (with_reducible exact ih0 _ _ _)
   | (with_reducible exact ih1 _ _)
   | (with_reducible exact ih2 _ _ _ _)
   | (with_reducible exact ih3 _ _ _ _ _)
   | (with_reducible exact spec_CircuitsOk.mono _ _)
   | (with_reducible exact spec_CrossPairs.mono _ _ _)
   | (with_reducible exact spec_StepPairs.mono _ _ _)
   | (with_reducible exact LeO.refl _)
   | (with_reducible exact LeO.none _)
   | (with_reducible refine LeO.ite ?_ ?_)
   | (with_reducible refine LeO.bind ?_ (fun _ => ?_))
   | exact ih0 _ _ _
   | exact ih1 _ _
   | exact ih2 _ _ _ _
   | exact ih3 _ _ _ _ _
   | exact spec_CircuitsOk.mono _ _
   | exact spec_CrossPairs.mono _ _ _
   | exact spec_StepPairs.mono _ _ _
   | exact LeO.none _
   | refine LeO.ite ?_ ?_
   | refine LeO.bind ?_ (fun _ => ?_)
  ·intro y0 y1 y2 y3
   unfold spec_IsLabyrinth.l2
   repeat' first
   | (with_reducible exact ih0 _ _ _)
   | (with_reducible exact ih1 _ _)
   | (with_reducible exact ih2 _ _ _ _)
   | (with_reducible exact ih3 _ _ _ _ _)
   | (with_reducible exact spec_CircuitsOk.mono _ _)
   | (with_reducible exact spec_CrossPairs.mono _ _ _)
   | (with_reducible exact spec_StepPairs.mono _ _ _)
   | (with_reducible exact LeO.refl _)
   | (with_reducible exact LeO.none _)
   | (with_reducible refine LeO.ite ?_ ?_)
   | (with_reducible refine LeO.bind ?_ (fun _ => ?_))
   | exact ih0 _ _ _
   | exact ih1 _ _
   | exact ih2 _ _ _ _
   | exact ih3 _ _ _ _ _
   | exact spec_CircuitsOk.mono _ _
   | exact spec_CrossPairs.mono _ _ _
   | exact spec_StepPairs.mono _ _ _
   | exact LeO.none _
   | refine LeO.ite ?_ ?_
   | refine LeO.bind ?_ (fun _ => ?_)
  ·intro y0 y1 y2 y3 y4
   unfold spec_IsLabyrinth.l3
   repeat' first
   | (with_reducible exact ih0 _ _ _)
   | (with_reducible exact ih1 _ _)
   | (with_reducible exact ih2 _ _ _ _)
   | (with_reducible exact ih3 _ _ _ _ _)
   | (with_reducible exact spec_CircuitsOk.mono _ _)
   | (with_reducible exact spec_CrossPairs.mono _ _ _)
   | (with_reducible exact spec_StepPairs.mono _ _ _)
   | (with_reducible exact LeO.refl _)
   | (with_reducible exact LeO.none _)
   | (with_reducible refine LeO.ite ?_ ?_)
   | (with_reducible refine LeO.bind ?_ (fun _ => ?_))
   | exact ih0 _ _ _
   | exact ih1 _ _
   | exact ih2 _ _ _ _
   | exact ih3 _ _ _ _ _
   | exact spec_CircuitsOk.mono _ _
   | exact spec_CrossPairs.mono _ _ _
   | exact spec_StepPairs.mono _ _ _
   | exact LeO.none _
   | refine LeO.ite ?_ ?_
   | refine LeO.bind ?_ (fun _ => ?_)
theorem spec_IsLabyrinth.mono : ∀ a0 k, LeO (spec_IsLabyrinth.f k a0) (spec_IsLabyrinth.f (k + 1) a0) := by
 intro a0 k
 obtain ⟨ih0, ih1, ih2, ih3⟩ := spec_IsLabyrinth.mono_l k
 unfold spec_IsLabyrinth.f
 repeat' first
   | (with_reducible exact ih0 _ _ _)
   | (with_reducible exact ih1 _ _)
   | (with_reducible exact ih2 _ _ _ _)
   | (with_reducible exact ih3 _ _ _ _ _)
   | (with_reducible exact spec_CircuitsOk.mono _ _)
   | (with_reducible exact spec_CrossPairs.mono _ _ _)
   | (with_reducible exact spec_StepPairs.mono _ _ _)
   | (with_reducible exact LeO.refl _)
   | (with_reducible exact LeO.none _)
   | (with_reducible refine LeO.ite ?_ ?_)
   | (with_reducible refine LeO.bind ?_ (fun _ => ?_))
   | exact ih0 _ _ _
   | exact ih1 _ _
   | exact ih2 _ _ _ _
   | exact ih3 _ _ _ _ _
   | exact spec_CircuitsOk.mono _ _
   | exact spec_CrossPairs.mono _ _ _
   | exact spec_StepPairs.mono _ _ _
   | exact LeO.none _
   | refine LeO.ite ?_ ?_
   | refine LeO.bind ?_ (fun _ => ?_)
def spec_IsLabyrinth.T7 : Bool × List (List Nat × List Nat) := (true, [([], []), ([], []), ([0, 1], [0, 1]), ([2], [2]), ([], []), ([], []), ([5], [5]), ([4, 6], [4, 6]), ([7], [7]), ([3, 8], [3, 8]), ([9], [9]), ([10], [10])])
def spec_IsLabyrinth.B7 : List Nat := [0, 0, 3, 7, 0, 0, 32, 112, 240, 511, 1023, 2047]
theorem spec_IsLabyrinth.tab7 : rtab .any (opsOf Try.f17 7) = spec_IsLabyrinth.T7 := by kernel_rfl
theorem spec_IsLabyrinth.bits7 : waitsOk spec_IsLabyrinth.T7.2 spec_IsLabyrinth.B7 = true := by kernel_rfl
def spec_IsLabyrinth.T19 : Bool × List (List Nat × List Nat) := (true, [([], []), ([], []), ([0, 1], [0, 1]), ([2], [2]), ([], []), ([], []), ([4, 5], [4, 5]), ([6], [6]), ([3, 7], [3, 7])])
def spec_IsLabyrinth.B19 : List Nat := [0, 0, 3, 7, 0, 0, 48, 112, 255]
theorem spec_IsLabyrinth.tab19 : rtab .any (opsOf Try.f17 19) = spec_IsLabyrinth.T19 := by kernel_rfl
theorem spec_IsLabyrinth.bits19 : waitsOk spec_IsLabyrinth.T19.2 spec_IsLabyrinth.B19 = true := by kernel_rfl
set_option maxHeartbeats 8000000 in
set_option maxRecDepth 100000 in
theorem spec_IsLabyrinth.calls (k : Nat) (A0 : Option Addr) (c0 : Nat) (l0 : List Int) (r : Bool) (w : World) (hr0 : Kd.C (Kd.int .i64) w A0 l0.length l0) (hc0 : l0.length ≤ c0) (h : spec_IsLabyrinth.f k l0 = some r) :
  Calls Try.prog 17 #[.slice A0 l0.length c0] w fun e w' => e = .returned (.bool r) ∧ Below w.heap.size w w' := by
 have HR0 := Aside0.mk hr0
 have HC0 := Aside0.mk hc0
 clear hr0 hc0
 have HB := Aside0.mk (Below.refl w.heap.size w)
 have H : ((spec_CircuitsOk.f k l0).bind fun t501 => (if t501 = true then ((some (([0] : List Int) : List Int)).bind fun y502 => (if y502.length + l0.length < 17592186044416 then ((some (y502 ++ l0 : List Int)).bind fun y505 => (if y505.length < 17592186044416 then (spec_IsLabyrinth.l0 k l0 (y505 ++ [wrap64 ((l0.length : Int) + 1)]) 1) else (none))) else (none))) else (some false))) = some r := h
 clear h
 replace H := Option.bind_eq_some_iff.mp H
 obtain ⟨t501, A20, H⟩ := H
 replace H : (if t501 = true then ((some (([0] : List Int) : List Int)).bind fun y502 => (if y502.length + l0.length < 17592186044416 then ((some (y502 ++ l0 : List Int)).bind fun y505 => (if y505.length < 17592186044416 then (spec_IsLabyrinth.l0 k l0 (y505 ++ [wrap64 ((l0.length : Int) + 1)]) 1) else (none))) else (none))) else (some false)) = some r := H
 have A2 := Aside0.mk A20
 clear A20
 by_cases c3 : t501 = true
 ·subst c3
  have H1 : ((some (([0] : List Int) : List Int)).bind fun y502 => (if y502.length + l0.length < 17592186044416 then ((some (y502 ++ l0 : List Int)).bind fun y505 => (if y505.length < 17592186044416 then (spec_IsLabyrinth.l0 k l0 (y505 ++ [wrap64 ((l0.length : Int) + 1)]) 1) else (none))) else (none))) = some r := by rw [if_pos rfl] at H; exact H
  clear H
  have H := H1
  clear H1
  obtain ⟨y502, hy502⟩ : ∃ y_ : List Int, y_ = (([0] : List Int)) := ⟨_, rfl⟩
  replace H : (if y502.length + l0.length < 17592186044416 then ((some (y502 ++ l0 : List Int)).bind fun y505 => (if y505.length < 17592186044416 then (spec_IsLabyrinth.l0 k l0 (y505 ++ [wrap64 ((l0.length : Int) + 1)]) 1) else (none))) else (none)) = some r := by first | (rw [hy502]; with_reducible exact H) | (have H2_ := (Option.bind_some _ _).symm.trans H; rw [hy502]; with_reducible exact H2_) | (have H2_ := (Option.bind_some _ _).symm.trans H; with_reducible exact H2_) | with_reducible exact H | (rw [hy502]; exact H) | exact H
  have Ny502 := Aside0.mk hy502
  clear hy502
  by_cases c4 : y502.length + l0.length < 17592186044416
  ·rw [if_pos c4] at H
   have LMc4 := Aside0.mk c4
   clear c4
   obtain ⟨y505, hy505⟩ : ∃ y_ : List Int, y_ = (y502 ++ l0) := ⟨_, rfl⟩
   replace H : (if y505.length < 17592186044416 then (spec_IsLabyrinth.l0 k l0 (y505 ++ [wrap64 ((l0.length : Int) + 1)]) 1) else (none)) = some r := by first | (rw [hy505]; with_reducible exact H) | (have H2_ := (Option.bind_some _ _).symm.trans H; rw [hy505]; with_reducible exact H2_) | (have H2_ := (Option.bind_some _ _).symm.trans H; with_reducible exact H2_) | with_reducible exact H | (rw [hy505]; exact H) | exact H
   have Ny505 := Aside0.mk hy505
   clear hy505
   by_cases c5 : y505.length < 17592186044416
   ·rw [if_pos c5] at H
    have LMc5 := Aside0.mk c5
    clear c5
    obtain ⟨y508, hy508⟩ : ∃ y_ : List Int, y_ = (y505 ++ [wrap64 ((l0.length : Int) + 1)]) := ⟨_, rfl⟩
    replace H : (spec_IsLabyrinth.l0 k l0 y508 1) = some r := by first | (rw [hy508]; with_reducible exact H) | (have H2_ := (Option.bind_some _ _).symm.trans H; rw [hy508]; with_reducible exact H2_) | (have H2_ := (Option.bind_some _ _).symm.trans H; with_reducible exact H2_) | with_reducible exact H | (rw [hy508]; exact H) | exact H
    have Ny508 := Aside0.mk hy508
    clear hy508
    have H' := Aside0.mk H
    clear H
    go_enter Try.func17, Try.ntmps17
    go_wp2_with (first | ((with_reducible refine gate_callee (f := 40) rfl ?_); refine goesL_ (some 10) rfl rfl Try.func40 (by kernel_rfl) rfl #[.slice A0 l0.length c0] rfl (ml_) ?_; (with_reducible refine (spec_CircuitsOk.calls k _ _ l0 true _ ?side1 ?side2 A2.out).mono ?_); (case side1 => repeat (first | exact HR0.out | (with_reducible refine Kd.C_alloc ?_ _) | (with_reducible refine Kd.C_drewN ?_ _) | (with_reducible refine Kd.C_drew ?_))); (case side2 => exact HC0.out); rintro e w' ⟨rfl, ⟨nd, rfl⟩⟩; refine ⟨_, rfl, ?_⟩) | ((with_reducible refine gate_dst (N := 12) rfl ?_); refine Kd.R_lit (Kd.int .i64) _ 3 ?hg (N := 12) ?hd (xs := ([0] : List Int)) (inner := [.int .i64 0]) (ok := fun _ => True) (okp := fun _ => True) ?hr ?hp (fun _ hk => hk) trivial (Below.refl _ _) (Nat.le_refl _) (by simp) ?_; (case hd => rfl); (case hg => rfl); (case hr => first | (go_simp; done) | (go_simp; rfl)); (case hp => exact (Reps.one (show Kd.M (Kd.int .i64) _ _ _ 0 [.int .i64 0] from rfl) (Reps.none _ _))); intro v503 w6 ho7 hb hg_ hnew_; clear hg_ hnew_; (first | rw [← Ny502.out] at ho7 | (simp only [Int.reduceToNat] at ho7; rw [← Ny502.out] at ho7)); have HO504 := Aside0.mk (Kd.R_lower ho7 (below_size (hb0_ HB.out))); replace HB := Aside0.mk (below_step (hb0_ HB.out) hb); clear hb ho7) | ((with_reducible refine gate_builtin (b := .append) (xs := #[.tmp 12, .tmp 13]) rfl ?_); at_builtin; refine Kd.R_append_rows (Kd.int .i64) (w0 := w) w.heap.size rfl (.tmp 12) (.tmp 13) 24 3 (.int .i64 0) 8 rfl Try.underlying24 info3 rfl (by decide) (by omega) v503 y502 l0 _ _ _ (fun _ => True) (fun _ => False) rfl rfl ?aO ?aR (fun _ _ h => h) (fun _ h => h.elim) ?aF ?aB ?aS ?aL ?_; (case aR => repeat (first | exact (Kd.C_below HR0.out HB.out) | (with_reducible refine Kd.C_alloc ?_ _) | (with_reducible refine Kd.C_drewN ?_ _) | (with_reducible refine Kd.C_drew ?_))); (case aB => exact (hb0_ HB.out)); (case aF => exact (fun _ _ => trivial)); (case aO => exact (kr_ HO504.out)); (case aS => exact (below_size (hb0_ HB.out))); (case aL => have := LMc4.out; omega); intro v506 w8 ho hb hg hat; rw [← Ny505.out] at ho; replace HB := Aside0.mk (hb); have HO507 := Aside0.mk (ho); clear HO504; clear ho hb hg hat) | ((with_reducible refine gate_builtin (b := .append) (xs := #[.tmp 14, .tmp 18]) rfl ?_); at_builtin; refine Kd.R_append (Kd.int .i64) (w0 := w) w.heap.size rfl (.tmp 14) (.tmp 18) 24 3 (.int .i64 0) 8 rfl Try.underlying24 info3 rfl (by decide) (by omega) v506 y505 (wrap64 ((l0.length : Int) + 1)) [.int .i64 (wrap64 ((l0.length : Int) + 1))] (fun _ => True) (fun _ => False) rfl rfl ?aP (fun _ hk => hk.elim) ?aF ?aO ?aB ?aS ?aL ?_; (case aP => exact rfl); (case aB => exact (hb0_ HB.out)); (case aF => exact (fun _ _ => trivial)); (case aO => exact (kr_ HO507.out)); (case aS => exact (below_size (hb0_ HB.out))); (case aL => have := LMc5.out; omega); intro v509 w9 ho hb hg hat; rw [← Ny508.out] at ho; replace HB := Aside0.mk (hb); have HO510 := Aside0.mk (ho); clear HO507; clear ho hb hg hat))
    go_loopg [4] k (fun kq v4 w' => ∃ (x4_1 : Int), v4 = .int .i64 x4_1 ∧ Aside0 (spec_IsLabyrinth.l0 kq l0 y508 x4_1 = some r) ∧ Aside0 (kq ≤ k) ∧ Aside0 (Kd.R (Kd.int .i64) 3 w' w.heap.size (fun _ => True) v509 y508) ∧ Aside0 (Below w.heap.size w w'))
    case atStart => exact ⟨(1), (by first | rfl | (simp; done) | (simp [*]; done)), H', ⟨Nat.le_refl _⟩, ⟨kr_ HO510.out⟩, ⟨hb0_ HB.out⟩⟩
    case round =>
     clear H'
     try clear c1
     try clear p2
     try clear c3
     try clear c4
     try clear c5
     try clear p6
     obtain ⟨x4_1, rfl, HA, HK1, HO_3, HB⟩ := hrel
     cases gk with
     | zero => exact absurd HA.out (by simp [spec_IsLabyrinth.l0])
     | succ k1 =>
      have H := HA.out
      clear HA
      simp only [spec_IsLabyrinth.l0] at H
      by_cases c10 : x4_1 < (y508.length : Int)
      ·rw [if_pos c10] at H
       have c10b0 : decide (x4_1 < (y508.length : Int)) = true := decide_eq_true c10
       clear c10
       by_cases c11 : 0 ≤ x4_1
       ·rw [if_pos c11] at H
        have c11b0 : decide (0 ≤ x4_1) = true := decide_eq_true c11
        clear c11
        obtain ⟨ji12, hji12⟩ : ∃ j_ : Int, (wrap64 (x4_1 - 1)) = j_ := ⟨_, rfl⟩
        replace H : (if 0 ≤ (ji12) then (if (ji12) < (y508.length : Int) then (if (Int.tmod (wrap64 ((rd y508 x4_1) - (rd y508 (ji12)))) 2) = 0 then (some false) else (spec_IsLabyrinth.l0 k1 l0 y508 (wrap64 (x4_1 + 1)))) else (none)) else (none)) = some r := by first | (rw [hji12] at H; exact H) | (simp only [hji12] at H ⊢; exact H)
        have hji12w : (IntKind.i64.wrap (x4_1 - 1)) = ji12 := (i64_w _).trans hji12
        by_cases c13 : 0 ≤ (ji12)
        ·rw [if_pos c13] at H
         have c13b0 : decide (0 ≤ (ji12)) = true := decide_eq_true c13
         clear c13
         by_cases c14 : (ji12) < (y508.length : Int)
         ·rw [if_pos c14] at H
          have c14b0 : decide ((ji12) < (y508.length : Int)) = true := decide_eq_true c14
          clear c14
          by_cases c15 : (Int.tmod (wrap64 ((rd y508 x4_1) - (rd y508 (ji12)))) 2) = 0
          ·rw [if_pos c15] at H
           have c15b0 : ((Int.tmod (wrap64 ((rd y508 x4_1) - (rd y508 (ji12)))) 2) == 0) = true := beq_iff_eq.mpr c15
           have c15b1 : ((Int.tmod (wrap64 ((rd y508 x4_1) - (rd y508 (ji12)))) 2) != 0) = false := bne_eq_false_iff_eq.mpr c15
           clear c15
           obtain rfl := Option.some.inj H
           obtain ⟨Ao16, co16, eo16⟩ := Kd.R_slice HO_3.out
           subst eo16
           try go_wp2
           replace HO_3 := Aside0.mk (Kd.R_drew HO_3.out)
           replace HB := Aside0.mk (below_drew1 HB.out)
           have p511 : 0 ≤ (x4_1 : Int) := of_decide_eq_true (as_)
           have q511 : x4_1 < (y508.length : Int) := of_decide_eq_true (as_)
           obtain ⟨ad511, e511, hx511_0⟩ := Kd.at_int (Kd.R_reads' HO_3.out).2.2 x4_1 p511 q511
           cases e511
           replace p511 := eq_true p511
           replace q511 := eq_true q511
           have p512 : 0 ≤ ((ji12) : Int) := of_decide_eq_true (as_)
           have q512 : (ji12) < (y508.length : Int) := of_decide_eq_true (as_)
           obtain ⟨ad512, e512, hx512_0⟩ := Kd.at_int (Kd.R_reads' HO_3.out).2.2 (ji12) p512 q512
           obtain rfl : ad511 = ad512 := (by injection e512)
           replace p512 := eq_true p512
           replace q512 := eq_true q512
           refine start_ (n := 12) (S := fun w' => w'.cell? (ad511.add (x4_1).toNat) = some (.int .i64 (rd y508 x4_1)) ∧ w'.cell? (ad511.add ((ji12)).toNat) = some (.int .i64 (rd y508 (ji12)))) (ds := []) #[false, false, false, false, false, false, false, false, false, false, false, false] (by kernel_rfl) rfl rfl ⟨hx511_0, hx512_0⟩ (fun hHeld => ?_); refine with_tabW spec_IsLabyrinth.tab7 spec_IsLabyrinth.bits7 (fun HT_ HW_ => ?_)
           generalize wr.drew = w17 at HO_3 HB hx511_0 hx512_0 hHeld ⊢
           refine pv_ (i := 0) (N := some 26) HT_.out ?_
           refine pv_ (i := 1) (N := some 27) HT_.out ?_
           refine pv_ (i := 2) (N := some 28) HT_.out ?_
           refine pv_ (i := 4) (N := some 30) HT_.out ?_
           refine pv_ (i := 5) (N := some 31) HT_.out ?_
           refine pv_ (i := 6) (N := some 32) HT_.out ?_
           refine pv_ (i := 7) (N := some 33) HT_.out ?_
           refine tv2_ (i := 3) (N := some 29) HT_.out HW_.out hHeld ?_
           refine tv2_ (i := 8) (N := some 34) HT_.out HW_.out hHeld ?_
           refine pv_ (i := 9) (N := some 35) HT_.out ?_
           refine pv_ (i := 10) (N := some 36) HT_.out ?_
           refine pv_ (i := 11) (N := some 37) HT_.out ?_
           refine done_ (done_of HT_.out (by kernel_rfl)) ?_
           try go_wp2
           go_ret
           exact ⟨by first | rfl | (simp [errW_none, errW_some] <;> rfl) | (simp only [← hji12]; first | rfl | (simp [errW_none, errW_some] <;> rfl)) | (simp [*, errW_none, errW_some] <;> rfl), hb0_ HB.out⟩
          ·rw [if_neg c15] at H
           have c15b0 : ((Int.tmod (wrap64 ((rd y508 x4_1) - (rd y508 (ji12)))) 2) == 0) = false := beq_eq_false_iff_ne.mpr c15
           have c15b1 : ((Int.tmod (wrap64 ((rd y508 x4_1) - (rd y508 (ji12)))) 2) != 0) = true := bne_iff_ne.mpr c15
           have H' := Aside0.mk H
           clear H
           obtain ⟨Ao18, co18, eo18⟩ := Kd.R_slice HO_3.out
           subst eo18
           try go_wp2
           replace HO_3 := Aside0.mk (Kd.R_drew HO_3.out)
           replace HB := Aside0.mk (below_drew1 HB.out)
           have p511 : 0 ≤ (x4_1 : Int) := of_decide_eq_true (as_)
           have q511 : x4_1 < (y508.length : Int) := of_decide_eq_true (as_)
           obtain ⟨ad511, e511, hx511_0⟩ := Kd.at_int (Kd.R_reads' HO_3.out).2.2 x4_1 p511 q511
           cases e511
           replace p511 := eq_true p511
           replace q511 := eq_true q511
           have p512 : 0 ≤ ((ji12) : Int) := of_decide_eq_true (as_)
           have q512 : (ji12) < (y508.length : Int) := of_decide_eq_true (as_)
           obtain ⟨ad512, e512, hx512_0⟩ := Kd.at_int (Kd.R_reads' HO_3.out).2.2 (ji12) p512 q512
           obtain rfl : ad511 = ad512 := (by injection e512)
           replace p512 := eq_true p512
           replace q512 := eq_true q512
           refine start_ (n := 12) (S := fun w' => w'.cell? (ad511.add (x4_1).toNat) = some (.int .i64 (rd y508 x4_1)) ∧ w'.cell? (ad511.add ((ji12)).toNat) = some (.int .i64 (rd y508 (ji12)))) (ds := []) #[false, false, false, false, false, false, false, false, false, false, false, false] (by kernel_rfl) rfl rfl ⟨hx511_0, hx512_0⟩ (fun hHeld => ?_); refine with_tabW spec_IsLabyrinth.tab7 spec_IsLabyrinth.bits7 (fun HT_ HW_ => ?_)
           generalize wr.drew = w19 at HO_3 HB hx511_0 hx512_0 hHeld ⊢
           refine pv_ (i := 0) (N := some 26) HT_.out ?_
           refine pv_ (i := 1) (N := some 27) HT_.out ?_
           refine pv_ (i := 2) (N := some 28) HT_.out ?_
           refine pv_ (i := 4) (N := some 30) HT_.out ?_
           refine pv_ (i := 5) (N := some 31) HT_.out ?_
           refine pv_ (i := 6) (N := some 32) HT_.out ?_
           refine pv_ (i := 7) (N := some 33) HT_.out ?_
           refine tv2_ (i := 3) (N := some 29) HT_.out HW_.out hHeld ?_
           refine tv2_ (i := 8) (N := some 34) HT_.out HW_.out hHeld ?_
           refine pv_ (i := 9) (N := some 35) HT_.out ?_
           refine pv_ (i := 10) (N := some 36) HT_.out ?_
           refine pv_ (i := 11) (N := some 37) HT_.out ?_
           refine done_ (done_of HT_.out (by kernel_rfl)) ?_
           try go_wp2
           go_roundg k1
           case measure => have := HK1.out; omega
           case rel => exact ⟨(wrap64 (x4_1 + 1)), (by first | rfl | (simp; done) | (simp [*]; done)), H', ⟨by have := HK1.out; omega⟩, ⟨kr_ HO_3.out⟩, ⟨hb0_ HB.out⟩⟩
         ·rw [if_neg c14] at H
          exact absurd H (by simp)
        ·rw [if_neg c13] at H
         exact absurd H (by simp)
       ·rw [if_neg c11] at H
        exact absurd H (by simp)
      ·rw [if_neg c10] at H
       have c10b0 : decide (x4_1 < (y508.length : Int)) = false := decide_eq_false c10
       clear c10
       have H' := Aside0.mk H
       clear H
       obtain ⟨Ao20, co20, eo20⟩ := Kd.R_slice HO_3.out
       subst eo20
       go_wp2
       go_loopg [5] k1 (fun kq v5 w' => ∃ (x5_2 : Int), v5 = .int .i64 x5_2 ∧ Aside0 (spec_IsLabyrinth.l1 kq l0 x5_2 = some r) ∧ Aside0 (kq ≤ k1) ∧ Aside0 (Below w.heap.size w w'))
       case atStart => exact ⟨(0), (by first | rfl | (simp; done) | (simp [*]; done)), H', ⟨Nat.le_refl _⟩, ⟨hb0_ HB.out⟩⟩
       case round =>
        clear H'
        try clear c1
        try clear p2
        try clear c3
        try clear c4
        try clear c5
        try clear p5
        try clear q5
        try clear hx5
        try clear p6
        try clear c10
        try clear c10b0
        try clear c11
        try clear c11b0
        try clear c13
        try clear c13b0
        try clear c14
        try clear c14b0
        try clear c15
        try clear c15b0
        try clear c15b1
        try clear c17
        try clear hx511_0
        try clear hx512_0
        try clear p2
        try clear p511
        try clear p512
        try clear p6
        try clear q511
        try clear q512
        obtain ⟨x5_2, rfl, HA, HK2, HB⟩ := hrel
        cases gk with
        | zero => exact absurd HA.out (by simp [spec_IsLabyrinth.l1])
        | succ k2 =>
         have H := HA.out
         clear HA
         simp only [spec_IsLabyrinth.l1] at H
         by_cases c21 : x5_2 < 2
         ·rw [if_pos c21] at H
          have c21b0 : decide (x5_2 < 2) = true := decide_eq_true c21
          clear c21
          replace H := Option.bind_eq_some_iff.mp H
          obtain ⟨t513, A220, H⟩ := H
          replace H : (spec_IsLabyrinth.l2 k2 l0 x5_2 t513 0) = some r := H
          have A22 := Aside0.mk A220
          clear A220
          have H' := Aside0.mk H
          clear H
          go_wp2_with (first | ((with_reducible refine gate_callee (f := 41) rfl ?_); refine goesL_ (some 44) rfl rfl Try.func41 (by kernel_rfl) rfl #[.slice A0 l0.length c0, .int .i64 x5_2] rfl (ml_) ?_; (with_reducible refine (spec_StepPairs.calls k2 _ _ l0 x5_2 t513 _ ?side1 ?side2 A22.out).mono ?_); (case side1 => repeat (first | exact (Kd.C_below HR0.out HB.out) | (with_reducible refine Kd.C_alloc ?_ _) | (with_reducible refine Kd.C_drewN ?_ _) | (with_reducible refine Kd.C_drew ?_))); (case side2 => exact HC0.out); rintro e w23 ⟨v514, rfl, ho0, hb⟩; refine ⟨_, rfl, ?_⟩; have HO515 := Aside0.mk (Kd.S_lower ho0 (below_size (hb0_ HB.out))); replace HB := Aside0.mk (below_step (hb0_ HB.out) hb); (try clear hb); (try clear hb2); (try clear hk); (try clear hi); (try clear ho0)))
          go_loopg [7] k2 (fun kq v7 w' => ∃ (x7_3 : Int), v7 = .int .i64 x7_3 ∧ Aside0 (spec_IsLabyrinth.l2 kq l0 x5_2 t513 x7_3 = some r) ∧ Aside0 (kq ≤ k2) ∧ Aside0 (Kd.S (Kd.slice 3 (Kd.int .i64)) 24 w' w.heap.size (fun _ => True) v514 t513) ∧ Aside0 (Below w.heap.size w w'))
          case atStart => exact ⟨(0), (by first | rfl | (simp; done) | (simp [*]; done)), H', ⟨Nat.le_refl _⟩, ⟨by (with_reducible repeat (first | apply Kd.S_alloc | apply Kd.S_drewN | apply Kd.S_drew)); exact HO515.out⟩, ⟨hb0_ HB.out⟩⟩
          case round =>
           clear H'
           try clear c1
           try clear c2
           try clear p2
           try clear c3
           try clear c4
           try clear c5
           try clear p5
           try clear q5
           try clear hx5
           try clear p6
           try clear c10
           try clear c10b0
           try clear c11
           try clear c11b0
           try clear c13
           try clear c13b0
           try clear c14
           try clear c14b0
           try clear c15
           try clear c15b0
           try clear c15b1
           try clear c17
           try clear c21
           try clear c21b0
           try clear hx511_0
           try clear hx512_0
           try clear p2
           try clear p5
           try clear p511
           try clear p512
           try clear p6
           try clear q5
           try clear q511
           try clear q512
           obtain ⟨x7_3, rfl, HA, HK3, HO_6, HB⟩ := hrel
           cases gk with
           | zero => exact absurd HA.out (by simp [spec_IsLabyrinth.l2])
           | succ k3 =>
            have H := HA.out
            clear HA
            simp only [spec_IsLabyrinth.l2] at H
            by_cases c24 : x7_3 < (t513.length : Int)
            ·rw [if_pos c24] at H
             have c24b0 : decide (x7_3 < (t513.length : Int)) = true := decide_eq_true c24
             clear c24
             have H' := Aside0.mk H
             clear H
             obtain ⟨Ao25, co25, eo25⟩ := Kd.S_slice HO_6.out
             subst eo25
             go_wp2
             go_loopg [8] k3 (fun kq v8 w' => ∃ (x8_4 : Int), v8 = .int .i64 x8_4 ∧ Aside0 (spec_IsLabyrinth.l3 kq l0 x5_2 t513 x7_3 x8_4 = some r) ∧ Aside0 (kq ≤ k3) ∧ Aside0 (Kd.S (Kd.slice 3 (Kd.int .i64)) 24 w' w.heap.size (fun _ => True) (.slice Ao25 t513.length co25) t513) ∧ Aside0 (Below w.heap.size w w'))
             case atStart => exact ⟨(0), (by first | rfl | (simp; done) | (simp [*]; done)), H', ⟨Nat.le_refl _⟩, ⟨by (with_reducible repeat (first | apply Kd.S_alloc | apply Kd.S_drewN | apply Kd.S_drew)); exact HO_6.out⟩, ⟨hb0_ HB.out⟩⟩
             case round =>
              clear H'
              try clear c1
              try clear c2
              try clear p2
              try clear c3
              try clear c4
              try clear c5
              try clear p5
              try clear q5
              try clear hx5
              try clear p6
              try clear c10
              try clear c10b0
              try clear c11
              try clear c11b0
              try clear c13
              try clear c13b0
              try clear c14
              try clear c14b0
              try clear c15
              try clear c15b0
              try clear c15b1
              try clear c17
              try clear c21
              try clear c21b0
              try clear c24
              try clear c24b0
              try clear hx511_0
              try clear hx512_0
              try clear p2
              try clear p5
              try clear p511
              try clear p512
              try clear p6
              try clear q5
              try clear q511
              try clear q512
              obtain ⟨x8_4, rfl, HA, HK4, HO_6, HB⟩ := hrel
              cases gk with
              | zero => exact absurd HA.out (by simp [spec_IsLabyrinth.l3])
              | succ k4 =>
               have H := HA.out
               clear HA
               simp only [spec_IsLabyrinth.l3] at H
               by_cases c26 : x8_4 < x7_3
               ·rw [if_pos c26] at H
                have c26b0 : decide (x8_4 < x7_3) = true := decide_eq_true c26
                clear c26
                by_cases c27 : 0 ≤ x7_3
                ·rw [if_pos c27] at H
                 have c27b0 : decide (0 ≤ x7_3) = true := decide_eq_true c27
                 clear c27
                 by_cases c28 : x7_3 < (t513.length : Int)
                 ·rw [if_pos c28] at H
                  have c28b0 : decide (x7_3 < (t513.length : Int)) = true := decide_eq_true c28
                  clear c28
                  by_cases c29 : 0 ≤ x8_4
                  ·rw [if_pos c29] at H
                   have c29b0 : decide (0 ≤ x8_4) = true := decide_eq_true c29
                   clear c29
                   by_cases c30 : x8_4 < (t513.length : Int)
                   ·rw [if_pos c30] at H
                    have c30b0 : decide (x8_4 < (t513.length : Int)) = true := decide_eq_true c30
                    clear c30
                    replace H := Option.bind_eq_some_iff.mp H
                    obtain ⟨t518, A310, H⟩ := H
                    replace H : (if t518 = true then (some false) else (spec_IsLabyrinth.l3 k4 l0 x5_2 t513 x7_3 (wrap64 (x8_4 + 1)))) = some r := H
                    have A31 := Aside0.mk A310
                    clear A310
                    by_cases c32 : t518 = true
                    ·subst c32
                     have H1 : (some false) = some r := by rw [if_pos rfl] at H; exact H
                     clear H
                     have H := H1
                     clear H1
                     obtain rfl := Option.some.inj H
                     try go_wp2
                     replace HO_6 := Aside0.mk (Kd.S_drew HO_6.out)
                     replace HB := Aside0.mk (below_drew1 HB.out)
                     have p516 : 0 ≤ (x7_3 : Int) := of_decide_eq_true (as_)
                     have q516 : x7_3 < (t513.length : Int) := of_decide_eq_true (as_)
                     obtain ⟨ad516, A516_0, c516_0, e516, hx516_0, hl516_0, hi516_0⟩ := at_L2 (Kd.S_reads' HO_6.out).2.2 x7_3 p516 q516
                     cases e516
                     obtain ⟨ce516, hce516, hMe516, hcc516⟩ := Kd.S_get HO_6.out [] x7_3 p516 (by first | exact q516 | exact of_decide_eq_true (as_) | (have e_ := (Kd.S_reads' HO_6.out).1; omega))
                     obtain ⟨ve516_0, rfl, ge516_0⟩ := hMe516
                     have hv516_0 := hcc516 0 _ rfl
                     rw [Nat.add_zero, show ((Kd.slice 3 (Kd.int .i64))).sz = 1 from rfl, Nat.mul_one] at hv516_0
                     replace hv516_0 := Option.some.inj (hv516_0.symm.trans hx516_0)
                     rw [hv516_0] at ge516_0
                     have HL516_0 := Aside0.mk (show Kd.R (Kd.int .i64) 3 _ _ _ _ (rd_L2 t513 x7_3) from ge516_0)
                     clear hv516_0 ge516_0
                     clear hcc516 hce516
                     have HR516_0 := Aside0.mk hi516_0
                     have HC516_0 := Aside0.mk hl516_0
                     clear hi516_0 hl516_0
                     replace p516 := eq_true p516
                     replace q516 := eq_true q516
                     have p517 : 0 ≤ (x8_4 : Int) := of_decide_eq_true (as_)
                     have q517 : x8_4 < (t513.length : Int) := of_decide_eq_true (as_)
                     obtain ⟨ad517, A517_0, c517_0, e517, hx517_0, hl517_0, hi517_0⟩ := at_L2 (Kd.S_reads' HO_6.out).2.2 x8_4 p517 q517
                     obtain rfl : ad516 = ad517 := (by injection e517)
                     obtain ⟨ce517, hce517, hMe517, hcc517⟩ := Kd.S_get HO_6.out [] x8_4 p517 (by first | exact q517 | exact of_decide_eq_true (as_) | (have e_ := (Kd.S_reads' HO_6.out).1; omega))
                     obtain ⟨ve517_0, rfl, ge517_0⟩ := hMe517
                     have hv517_0 := hcc517 0 _ rfl
                     rw [Nat.add_zero, show ((Kd.slice 3 (Kd.int .i64))).sz = 1 from rfl, Nat.mul_one] at hv517_0
                     replace hv517_0 := Option.some.inj (hv517_0.symm.trans hx517_0)
                     rw [hv517_0] at ge517_0
                     have HL517_0 := Aside0.mk (show Kd.R (Kd.int .i64) 3 _ _ _ _ (rd_L2 t513 x8_4) from ge517_0)
                     clear hv517_0 ge517_0
                     clear hcc517 hce517
                     have HR517_0 := Aside0.mk hi517_0
                     have HC517_0 := Aside0.mk hl517_0
                     clear hi517_0 hl517_0
                     replace p517 := eq_true p517
                     replace q517 := eq_true q517
                     refine start_ (n := 9) (S := fun w' => w'.cell? (ad516.add (x7_3).toNat) = some (.slice A516_0 (rd_L2 t513 x7_3).length c516_0) ∧ w'.cell? (ad516.add (x8_4).toNat) = some (.slice A517_0 (rd_L2 t513 x8_4).length c517_0)) (ds := []) #[false, false, false, false, false, false, false, false, false] (by kernel_rfl) rfl rfl ⟨hx516_0, hx517_0⟩ (fun hHeld => ?_); refine with_tabW spec_IsLabyrinth.tab19 spec_IsLabyrinth.bits19 (fun HT_ HW_ => ?_)
                     generalize wr.drew = w33 at HO_6 HB HL516_0 HL517_0 HR516_0 HR517_0 hx516_0 hx517_0 hHeld ⊢
                     refine pv_ (i := 0) (N := some 56) HT_.out ?_
                     refine pv_ (i := 1) (N := some 57) HT_.out ?_
                     refine pv_ (i := 2) (N := some 58) HT_.out ?_
                     refine pv_ (i := 4) (N := some 60) HT_.out ?_
                     refine pv_ (i := 5) (N := some 61) HT_.out ?_
                     refine pv_ (i := 6) (N := some 62) HT_.out ?_
                     refine tv2_ (i := 3) (N := some 59) HT_.out HW_.out hHeld ?_
                     refine tv2_ (i := 7) (N := some 63) HT_.out HW_.out hHeld ?_
                     refine ov_ (i := 8) (N := some 64) HT_.out (fun K hK => ?_)
                     refine goes_ Try.func42 (by kernel_rfl) rfl #[.slice A516_0 (rd_L2 t513 x7_3).length c516_0, .slice A517_0 (rd_L2 t513 x8_4).length c517_0] (by rfl) rfl rfl (ml_) ?_
                     with_reducible refine (spec_CrossPairs.calls k4 _ _ (rd_L2 t513 x7_3) _ _ (rd_L2 t513 x8_4) true _ ?side1 ?side2 ?side3 ?side4 A31.out).mono ?_
                     (case side1 => repeat (first | exact (by repeat (first | (with_reducible exact HR516_0.out) | (with_reducible refine Kd.C_alloc ?_ _) | (with_reducible refine Kd.C_drewN ?_ _) | (with_reducible refine Kd.C_drew ?_) | exact HR516_0.out)) | (with_reducible refine Kd.C_alloc ?_ _) | (with_reducible refine Kd.C_drewN ?_ _) | (with_reducible refine Kd.C_drew ?_)))
                     (case side2 => exact HC516_0.out)
                     (case side3 => repeat (first | exact (by repeat (first | (with_reducible exact HR517_0.out) | (with_reducible refine Kd.C_alloc ?_ _) | (with_reducible refine Kd.C_drewN ?_ _) | (with_reducible refine Kd.C_drew ?_) | exact HR517_0.out)) | (with_reducible refine Kd.C_alloc ?_ _) | (with_reducible refine Kd.C_drewN ?_ _) | (with_reducible refine Kd.C_drew ?_)))
                     (case side4 => exact HC517_0.out)
                     rintro e w34 ⟨rfl, hb⟩
                     have HS0_ := (hb.cell (World.block_lt_of_cell? _ _ (hHeld.1))).trans (hHeld.1)
                     have HS1_ := (hb.cell (World.block_lt_of_cell? _ _ (hHeld.2))).trans (hHeld.2)
                     refine ⟨_, rfl, ?_⟩
                     replace HO_6 := Aside0.mk (Kd.S_below (by (with_reducible repeat (first | apply Kd.S_alloc | apply Kd.S_drewN | apply Kd.S_drew)); exact HO_6.out) hb)
                     replace HL516_0 := Aside0.mk (Kd.R_below (kr_ HL516_0.out) hb)
                     replace HL517_0 := Aside0.mk (Kd.R_below (kr_ HL517_0.out) hb)
                     replace HR516_0 := Aside0.mk (Kd.C_below (by repeat (first | (with_reducible exact HR516_0.out) | (with_reducible refine Kd.C_alloc ?_ _) | (with_reducible refine Kd.C_drewN ?_ _) | (with_reducible refine Kd.C_drew ?_) | exact HR516_0.out)) hb)
                     replace HR517_0 := Aside0.mk (Kd.C_below (by repeat (first | (with_reducible exact HR517_0.out) | (with_reducible refine Kd.C_alloc ?_ _) | (with_reducible refine Kd.C_drewN ?_ _) | (with_reducible refine Kd.C_drew ?_) | exact HR517_0.out)) hb)
                     replace HB := Aside0.mk (below_step (hb0_ HB.out) hb)
                     (try clear hb)
                     (try clear hb2)
                     (try clear hk)
                     (try clear hi)
                     refine hK.out _ _ ⟨HS0_, HS1_⟩ (fun hHeld => ?_)
                     clear hK K
                     refine norm_ (a' := ?_) ?_ ?_
                     rotate_left
                     ·show Act.put _ (some 64) _ = _
                      simp only [Act.put, List.setIfInBounds_toArray, List.set_cons_zero, List.set_cons_succ, i64_w, i32_w]
                      rfl
                     refine done_ (done_of HT_.out (by kernel_rfl)) ?_
                     try go_wp2
                     go_ret
                     exact ⟨by first | rfl | (simp [errW_none, errW_some] <;> rfl) | (simp [*, errW_none, errW_some] <;> rfl), hb0_ HB.out⟩
                    ·replace c32 := Bool.eq_false_iff.mpr c32
                     subst c32
                     have H1 : (spec_IsLabyrinth.l3 k4 l0 x5_2 t513 x7_3 (wrap64 (x8_4 + 1))) = some r := by rw [if_neg (show ¬ (false = true) by decide)] at H; exact H
                     clear H
                     have H := H1
                     clear H1
                     have H' := Aside0.mk H
                     clear H
                     try go_wp2
                     replace HO_6 := Aside0.mk (Kd.S_drew HO_6.out)
                     replace HB := Aside0.mk (below_drew1 HB.out)
                     have p516 : 0 ≤ (x7_3 : Int) := of_decide_eq_true (as_)
                     have q516 : x7_3 < (t513.length : Int) := of_decide_eq_true (as_)
                     obtain ⟨ad516, A516_0, c516_0, e516, hx516_0, hl516_0, hi516_0⟩ := at_L2 (Kd.S_reads' HO_6.out).2.2 x7_3 p516 q516
                     cases e516
                     obtain ⟨ce516, hce516, hMe516, hcc516⟩ := Kd.S_get HO_6.out [] x7_3 p516 (by first | exact q516 | exact of_decide_eq_true (as_) | (have e_ := (Kd.S_reads' HO_6.out).1; omega))
                     obtain ⟨ve516_0, rfl, ge516_0⟩ := hMe516
                     have hv516_0 := hcc516 0 _ rfl
                     rw [Nat.add_zero, show ((Kd.slice 3 (Kd.int .i64))).sz = 1 from rfl, Nat.mul_one] at hv516_0
                     replace hv516_0 := Option.some.inj (hv516_0.symm.trans hx516_0)
                     rw [hv516_0] at ge516_0
                     have HL516_0 := Aside0.mk (show Kd.R (Kd.int .i64) 3 _ _ _ _ (rd_L2 t513 x7_3) from ge516_0)
                     clear hv516_0 ge516_0
                     clear hcc516 hce516
                     have HR516_0 := Aside0.mk hi516_0
                     have HC516_0 := Aside0.mk hl516_0
                     clear hi516_0 hl516_0
                     replace p516 := eq_true p516
                     replace q516 := eq_true q516
                     have p517 : 0 ≤ (x8_4 : Int) := of_decide_eq_true (as_)
                     have q517 : x8_4 < (t513.length : Int) := of_decide_eq_true (as_)
                     obtain ⟨ad517, A517_0, c517_0, e517, hx517_0, hl517_0, hi517_0⟩ := at_L2 (Kd.S_reads' HO_6.out).2.2 x8_4 p517 q517
                     obtain rfl : ad516 = ad517 := (by injection e517)
                     obtain ⟨ce517, hce517, hMe517, hcc517⟩ := Kd.S_get HO_6.out [] x8_4 p517 (by first | exact q517 | exact of_decide_eq_true (as_) | (have e_ := (Kd.S_reads' HO_6.out).1; omega))
                     obtain ⟨ve517_0, rfl, ge517_0⟩ := hMe517
                     have hv517_0 := hcc517 0 _ rfl
                     rw [Nat.add_zero, show ((Kd.slice 3 (Kd.int .i64))).sz = 1 from rfl, Nat.mul_one] at hv517_0
                     replace hv517_0 := Option.some.inj (hv517_0.symm.trans hx517_0)
                     rw [hv517_0] at ge517_0
                     have HL517_0 := Aside0.mk (show Kd.R (Kd.int .i64) 3 _ _ _ _ (rd_L2 t513 x8_4) from ge517_0)
                     clear hv517_0 ge517_0
                     clear hcc517 hce517
                     have HR517_0 := Aside0.mk hi517_0
                     have HC517_0 := Aside0.mk hl517_0
                     clear hi517_0 hl517_0
                     replace p517 := eq_true p517
                     replace q517 := eq_true q517
                     refine start_ (n := 9) (S := fun w' => w'.cell? (ad516.add (x7_3).toNat) = some (.slice A516_0 (rd_L2 t513 x7_3).length c516_0) ∧ w'.cell? (ad516.add (x8_4).toNat) = some (.slice A517_0 (rd_L2 t513 x8_4).length c517_0)) (ds := []) #[false, false, false, false, false, false, false, false, false] (by kernel_rfl) rfl rfl ⟨hx516_0, hx517_0⟩ (fun hHeld => ?_); refine with_tabW spec_IsLabyrinth.tab19 spec_IsLabyrinth.bits19 (fun HT_ HW_ => ?_)
                     generalize wr.drew = w35 at HO_6 HB HL516_0 HL517_0 HR516_0 HR517_0 hx516_0 hx517_0 hHeld ⊢
                     refine pv_ (i := 0) (N := some 56) HT_.out ?_
                     refine pv_ (i := 1) (N := some 57) HT_.out ?_
                     refine pv_ (i := 2) (N := some 58) HT_.out ?_
                     refine pv_ (i := 4) (N := some 60) HT_.out ?_
                     refine pv_ (i := 5) (N := some 61) HT_.out ?_
                     refine pv_ (i := 6) (N := some 62) HT_.out ?_
                     refine tv2_ (i := 3) (N := some 59) HT_.out HW_.out hHeld ?_
                     refine tv2_ (i := 7) (N := some 63) HT_.out HW_.out hHeld ?_
                     refine ov_ (i := 8) (N := some 64) HT_.out (fun K hK => ?_)
                     refine goes_ Try.func42 (by kernel_rfl) rfl #[.slice A516_0 (rd_L2 t513 x7_3).length c516_0, .slice A517_0 (rd_L2 t513 x8_4).length c517_0] (by rfl) rfl rfl (ml_) ?_
                     with_reducible refine (spec_CrossPairs.calls k4 _ _ (rd_L2 t513 x7_3) _ _ (rd_L2 t513 x8_4) false _ ?side1 ?side2 ?side3 ?side4 A31.out).mono ?_
                     (case side1 => repeat (first | exact (by repeat (first | (with_reducible exact HR516_0.out) | (with_reducible refine Kd.C_alloc ?_ _) | (with_reducible refine Kd.C_drewN ?_ _) | (with_reducible refine Kd.C_drew ?_) | exact HR516_0.out)) | (with_reducible refine Kd.C_alloc ?_ _) | (with_reducible refine Kd.C_drewN ?_ _) | (with_reducible refine Kd.C_drew ?_)))
                     (case side2 => exact HC516_0.out)
                     (case side3 => repeat (first | exact (by repeat (first | (with_reducible exact HR517_0.out) | (with_reducible refine Kd.C_alloc ?_ _) | (with_reducible refine Kd.C_drewN ?_ _) | (with_reducible refine Kd.C_drew ?_) | exact HR517_0.out)) | (with_reducible refine Kd.C_alloc ?_ _) | (with_reducible refine Kd.C_drewN ?_ _) | (with_reducible refine Kd.C_drew ?_)))
                     (case side4 => exact HC517_0.out)
                     rintro e w36 ⟨rfl, hb⟩
                     have HS0_ := (hb.cell (World.block_lt_of_cell? _ _ (hHeld.1))).trans (hHeld.1)
                     have HS1_ := (hb.cell (World.block_lt_of_cell? _ _ (hHeld.2))).trans (hHeld.2)
                     refine ⟨_, rfl, ?_⟩
                     replace HO_6 := Aside0.mk (Kd.S_below (by (with_reducible repeat (first | apply Kd.S_alloc | apply Kd.S_drewN | apply Kd.S_drew)); exact HO_6.out) hb)
                     replace HL516_0 := Aside0.mk (Kd.R_below (kr_ HL516_0.out) hb)
                     replace HL517_0 := Aside0.mk (Kd.R_below (kr_ HL517_0.out) hb)
                     replace HR516_0 := Aside0.mk (Kd.C_below (by repeat (first | (with_reducible exact HR516_0.out) | (with_reducible refine Kd.C_alloc ?_ _) | (with_reducible refine Kd.C_drewN ?_ _) | (with_reducible refine Kd.C_drew ?_) | exact HR516_0.out)) hb)
                     replace HR517_0 := Aside0.mk (Kd.C_below (by repeat (first | (with_reducible exact HR517_0.out) | (with_reducible refine Kd.C_alloc ?_ _) | (with_reducible refine Kd.C_drewN ?_ _) | (with_reducible refine Kd.C_drew ?_) | exact HR517_0.out)) hb)
                     replace HB := Aside0.mk (below_step (hb0_ HB.out) hb)
                     (try clear hb)
                     (try clear hb2)
                     (try clear hk)
                     (try clear hi)
                     refine hK.out _ _ ⟨HS0_, HS1_⟩ (fun hHeld => ?_)
                     clear hK K
                     refine norm_ (a' := ?_) ?_ ?_
                     rotate_left
                     ·show Act.put _ (some 64) _ = _
                      simp only [Act.put, List.setIfInBounds_toArray, List.set_cons_zero, List.set_cons_succ, i64_w, i32_w]
                      rfl
                     refine done_ (done_of HT_.out (by kernel_rfl)) ?_
                     try go_wp2
                     go_roundg k4
                     case measure => have := HK1.out; have := HK2.out; have := HK3.out; have := HK4.out; omega
                     case rel => exact ⟨(wrap64 (x8_4 + 1)), (by first | rfl | (simp; done) | (simp [*]; done)), H', ⟨by have := HK1.out; have := HK2.out; have := HK3.out; have := HK4.out; omega⟩, ⟨by (with_reducible repeat (first | apply Kd.S_alloc | apply Kd.S_drewN | apply Kd.S_drew)); exact HO_6.out⟩, ⟨hb0_ HB.out⟩⟩
                   ·rw [if_neg c30] at H
                    exact absurd H (by simp)
                  ·rw [if_neg c29] at H
                   exact absurd H (by simp)
                 ·rw [if_neg c28] at H
                  exact absurd H (by simp)
                ·rw [if_neg c27] at H
                 exact absurd H (by simp)
               ·rw [if_neg c26] at H
                have c26b0 : decide (x8_4 < x7_3) = false := decide_eq_false c26
                clear c26
                have H' := Aside0.mk H
                clear H
                go_wp2
                go_roundg k4
                case measure => have := HK1.out; have := HK2.out; have := HK3.out; have := HK4.out; omega
                case rel => exact ⟨(wrap64 (x7_3 + 1)), (by first | rfl | (simp; done) | (simp [*]; done)), H', ⟨by have := HK1.out; have := HK2.out; have := HK3.out; have := HK4.out; omega⟩, ⟨by (with_reducible repeat (first | apply Kd.S_alloc | apply Kd.S_drewN | apply Kd.S_drew)); exact HO_6.out⟩, ⟨hb0_ HB.out⟩⟩
            ·rw [if_neg c24] at H
             have c24b0 : decide (x7_3 < (t513.length : Int)) = false := decide_eq_false c24
             clear c24
             have H' := Aside0.mk H
             clear H
             obtain ⟨Ao37, co37, eo37⟩ := Kd.S_slice HO_6.out
             subst eo37
             go_wp2
             go_roundg k3
             case measure => have := HK1.out; have := HK2.out; have := HK3.out; omega
             case rel => exact ⟨(wrap64 (x5_2 + 1)), (by first | rfl | (simp; done) | (simp [*]; done)), H', ⟨by have := HK1.out; have := HK2.out; have := HK3.out; omega⟩, ⟨hb0_ HB.out⟩⟩
         ·rw [if_neg c21] at H
          have c21b0 : decide (x5_2 < 2) = false := decide_eq_false c21
          clear c21
          obtain rfl := Option.some.inj H
          go_wp2
          go_ret
          exact ⟨by first | rfl | (simp [errW_none, errW_some] <;> rfl) | (simp [*, errW_none, errW_some] <;> rfl), hb0_ HB.out⟩
   ·rw [if_neg c5] at H
    exact absurd H (by simp)
  ·rw [if_neg c4] at H
   exact absurd H (by simp)
 ·replace c3 := Bool.eq_false_iff.mpr c3
  subst c3
  have H1 : (some false) = some r := by rw [if_neg (show ¬ (false = true) by decide)] at H; exact H
  clear H
  have H := H1
  clear H1
  obtain rfl := Option.some.inj H
  go_enter Try.func17, Try.ntmps17
  go_wp2_with (first | ((with_reducible refine gate_callee (f := 40) rfl ?_); refine goesL_ (some 10) rfl rfl Try.func40 (by kernel_rfl) rfl #[.slice A0 l0.length c0] rfl (ml_) ?_; (with_reducible refine (spec_CircuitsOk.calls k _ _ l0 false _ ?side1 ?side2 A2.out).mono ?_); (case side1 => repeat (first | exact HR0.out | (with_reducible refine Kd.C_alloc ?_ _) | (with_reducible refine Kd.C_drewN ?_ _) | (with_reducible refine Kd.C_drew ?_))); (case side2 => exact HC0.out); rintro e w' ⟨rfl, ⟨nd, rfl⟩⟩; refine ⟨_, rfl, ?_⟩))
  go_ret
  exact ⟨by first | rfl | (simp [errW_none, errW_some] <;> rfl) | (simp [*, errW_none, errW_some] <;> rfl), hb0_ HB.out⟩

end Go.Proofs.Ytekgbinadmjapab.X
