-- Written by a program of this session (xprint.py), out of the translation and of hand-written contracts. Lean checks it.
import Derived.Test.YtkkjlbpffcdlfaaX0
import Derived.Test.YtkkjlbpffcdlfaaXimplAllArches
import Derived.Test.YtkkjlbpffcdlfaaXimplIsMeander
namespace Go.Proofs.Ytkkjlbpffcdlfaa.X
open Go.RowKit Go.Proofs.YtkkjlbpffcdlfaaW.PrintWords Go.Proofs.YtkkjlbpffcdlfaaW.PrintLast Go.Proofs.YtkkjlbpffcdlfaaW.PrintMore
attribute [local go_sem] max2_int min2_int max_two min_two max_three min_three max_four min_four   -- for this text's walks alone
set_option linter.unusedVariables false
set_option linter.unusedSimpArgs false

/-! ### impl_CountMeanders: function 18 -/
mutual
def impl_CountMeanders.j0 : Nat → Int → Bool → Option (Int)
 | 0, _, _ => none
 | k + 1, x0, x14 => if x14 = true then (some 0) else ((impl_AllArches.f k x0).bind fun t501 => (impl_CountMeanders.l0 k t501 0 t501 (t501.length : Int) 0))
def impl_CountMeanders.l0 : Nat → List (List Int) → Int → List (List Int) → Int → Int → Option (Int)
 | 0, _, _, _, _, _ => none
 | k + 1, x3, x4, x17, x18, x19 => if x19 < x18 then (if 0 ≤ x19 then (if x19 < (x17.length : Int) then (impl_CountMeanders.l1 k x3 x4 (rd_L1 x17 x19) x17 x18 x19 x3 (x3.length : Int) 0) else (none)) else (none)) else (some x4)
def impl_CountMeanders.l1 : Nat → List (List Int) → Int → List Int → List (List Int) → Int → Int → List (List Int) → Int → Int → Option (Int)
 | 0, _, _, _, _, _, _, _, _, _ => none
 | k + 1, x3, x4, x6, x17, x18, x19, x23, x24, x25 => if x25 < x24 then (if 0 ≤ x25 then (if x25 < (x23.length : Int) then ((impl_IsMeander.f k x6 (rd_L1 x23 x25)).bind fun t506 => (if t506 = true then (impl_CountMeanders.l1 k x3 (wrap64 (x4 + 1)) x6 x17 x18 x19 x23 x24 (wrap64 (x25 + 1))) else (impl_CountMeanders.l1 k x3 x4 x6 x17 x18 x19 x23 x24 (wrap64 (x25 + 1))))) else (none)) else (none)) else (impl_CountMeanders.l0 k x3 x4 x17 x18 (wrap64 (x19 + 1)))
end
def impl_CountMeanders.f (k : Nat) (a0 : Int) : Option (Int) := if a0 < 1 then (impl_CountMeanders.j0 k a0 true) else (impl_CountMeanders.j0 k a0 (decide (a0 > 4)))
theorem impl_CountMeanders.mono_l : ∀ k, (∀ y0 y1, LeO (impl_CountMeanders.j0 k y0 y1) (impl_CountMeanders.j0 (k + 1) y0 y1)) ∧ (∀ y0 y1 y2 y3 y4, LeO (impl_CountMeanders.l0 k y0 y1 y2 y3 y4) (impl_CountMeanders.l0 (k + 1) y0 y1 y2 y3 y4)) ∧ (∀ y0 y1 y2 y3 y4 y5 y6 y7 y8, LeO (impl_CountMeanders.l1 k y0 y1 y2 y3 y4 y5 y6 y7 y8) (impl_CountMeanders.l1 (k + 1) y0 y1 y2 y3 y4 y5 y6 y7 y8))
 | 0 => ⟨fun _ _ r h => by simp [impl_CountMeanders.j0] at h, fun _ _ _ _ _ r h => by simp [impl_CountMeanders.l0] at h, fun _ _ _ _ _ _ _ _ _ r h => by simp [impl_CountMeanders.l1] at h⟩
 | k + 1 => by
  obtain ⟨ih0, ih1, ih2⟩ := impl_CountMeanders.mono_l k
  refine ⟨?_, ?_, ?_⟩
  ·intro y0 y1
   unfold impl_CountMeanders.j0
   repeat' first
   | (with_reducible exact ih0 ..)
   | (with_reducible exact ih1 ..)
   | (with_reducible exact ih2 ..)
   | (with_reducible exact impl_AllArches.mono ..)
   | (with_reducible exact impl_IsMeander.mono ..)
   | (with_reducible first | exact lr_ _ | exact ln_ _ | refine li_ ?_ ?_ | refine lb_ ?_ fun _ => ?_)
   | exact ih0 ..
   | exact ih1 ..
   | exact ih2 ..
   | exact impl_AllArches.mono ..
   | exact impl_IsMeander.mono ..
   | exact ln_ _ | refine li_ ?_ ?_ | refine lb_ ?_ fun _ => ?_
  ·intro y0 y1 y2 y3 y4
   unfold impl_CountMeanders.l0
   repeat' first
   | (with_reducible exact ih0 ..)
   | (with_reducible exact ih1 ..)
   | (with_reducible exact ih2 ..)
   | (with_reducible exact impl_AllArches.mono ..)
   | (with_reducible exact impl_IsMeander.mono ..)
   | (with_reducible first | exact lr_ _ | exact ln_ _ | refine li_ ?_ ?_ | refine lb_ ?_ fun _ => ?_)
   | exact ih0 ..
   | exact ih1 ..
   | exact ih2 ..
   | exact impl_AllArches.mono ..
   | exact impl_IsMeander.mono ..
   | exact ln_ _ | refine li_ ?_ ?_ | refine lb_ ?_ fun _ => ?_
  ·intro y0 y1 y2 y3 y4 y5 y6 y7 y8
   unfold impl_CountMeanders.l1
   repeat' first
   | (with_reducible exact ih0 ..)
   | (with_reducible exact ih1 ..)
   | (with_reducible exact ih2 ..)
   | (with_reducible exact impl_AllArches.mono ..)
   | (with_reducible exact impl_IsMeander.mono ..)
   | (with_reducible first | exact lr_ _ | exact ln_ _ | refine li_ ?_ ?_ | refine lb_ ?_ fun _ => ?_)
   | exact ih0 ..
   | exact ih1 ..
   | exact ih2 ..
   | exact impl_AllArches.mono ..
   | exact impl_IsMeander.mono ..
   | exact ln_ _ | refine li_ ?_ ?_ | refine lb_ ?_ fun _ => ?_
theorem impl_CountMeanders.mono : ∀ a0 k, LeO (impl_CountMeanders.f k a0) (impl_CountMeanders.f (k + 1) a0) := by
 intro a0 k
 obtain ⟨ih0, ih1, ih2⟩ := impl_CountMeanders.mono_l k
 unfold impl_CountMeanders.f
 repeat' first
   | (with_reducible exact ih0 ..)
   | (with_reducible exact ih1 ..)
   | (with_reducible exact ih2 ..)
   | (with_reducible exact impl_AllArches.mono ..)
   | (with_reducible exact impl_IsMeander.mono ..)
   | (with_reducible first | exact lr_ _ | exact ln_ _ | refine li_ ?_ ?_ | refine lb_ ?_ fun _ => ?_)
   | exact ih0 ..
   | exact ih1 ..
   | exact ih2 ..
   | exact impl_AllArches.mono ..
   | exact impl_IsMeander.mono ..
   | exact ln_ _ | refine li_ ?_ ?_ | refine lb_ ?_ fun _ => ?_
set_option maxHeartbeats 8000000 in
set_option maxRecDepth 100000 in
theorem impl_CountMeanders.calls (k : Nat) (a0 : Int) (r : Int) (w : World) (h : impl_CountMeanders.f k a0 = some r) :
  Calls Try.prog 18 #[.int .i64 a0] w fun e w' => e = .returned (.int .i64 r) ∧ Below w.heap.size w w' := by
 have HB := Aside0.mk (Below.refl w.heap.size w)
 have H : (if a0 < 1 then (impl_CountMeanders.j0 k a0 true) else (impl_CountMeanders.j0 k a0 (decide (a0 > 4)))) = some r := h
 clear h
 have HC2 := Aside0.mk H
 clear H
 go_enter Try.func18, Try.ntmps18
 go_upto_region 1 with (fail)
 go_cut [14] (fun v14 wc => ∃ (kq : Nat) (x14_1 : Bool), v14 = .bool x14_1 ∧ Aside0 (impl_CountMeanders.j0 kq a0 x14_1 = some r) ∧ Aside0 (kq ≤ k) ∧ Aside0 (Below w.heap.size w wc))
 case first =>
  have H := HC2.out
  clear HC2
  by_cases c3 : a0 < 1
  ·rw [if_pos c3] at H
   have c3b0 : decide (a0 < 1) = true := decide_eq_true c3
   clear c3
   (first | rw [c3b0] | (simp only [i64_w, i32_w]; rw [c3b0]) | skip)
   have H' := Aside0.mk H
   clear H
   go_wp2
   go_meet
   case rel => exact ⟨_, (true), (by first | rfl | (simp; done) | (simp [*]; done)), H', ⟨by first | omega | exact Nat.le_refl _⟩, ⟨hb0_ HB.out⟩⟩
  ·rw [if_neg c3] at H
   have c3b0 : decide (a0 < 1) = false := decide_eq_false c3
   clear c3
   (first | rw [c3b0] | (simp only [i64_w, i32_w]; rw [c3b0]) | skip)
   have H' := Aside0.mk H
   clear H
   go_wp2
   go_meet
   case rel => exact ⟨_, (decide (a0 > 4)), (by first | rfl | (simp; done) | (simp [*]; done)), H', ⟨by first | omega | exact Nat.le_refl _⟩, ⟨hb0_ HB.out⟩⟩
 case rest =>
  clear HC2
  try clear c1
  try clear p2
  try clear c3
  try clear c3b0
  obtain ⟨kq, x14_1, rfl, HA, HJ1, HB⟩ := hcut
  cases kq with
  | zero => exact absurd HA.out (by simp [impl_CountMeanders.j0])
  | succ kj1 =>
   have H := HA.out
   clear HA
   simp only [impl_CountMeanders.j0] at H
   by_cases c4 : x14_1 = true
   ·subst c4
    have H1 : (some 0) = some r := by rw [if_pos rfl] at H; exact H
    clear H
    have H := H1
    clear H1
    obtain rfl := Option.some.inj H
    go_wp2
    go_ret
    exact ⟨ex_, hb0_ HB.out⟩
   ·replace c4 := Bool.eq_false_iff.mpr c4
    subst c4
    have H1 : ((impl_AllArches.f kj1 a0).bind fun t501 => (impl_CountMeanders.l0 kj1 t501 0 t501 (t501.length : Int) 0)) = some r := by rw [if_neg (show ¬ (false = true) by decide)] at H; exact H
    clear H
    have H := H1
    clear H1
    replace H := Option.bind_eq_some_iff.mp H
    obtain ⟨t501, A50, H⟩ := H
    replace H : (impl_CountMeanders.l0 kj1 t501 0 t501 (t501.length : Int) 0) = some r := H
    have A5 := Aside0.mk A50
    clear A50
    have H' := Aside0.mk H
    clear H
    go_wp2_with (first | (refine gl_ 16 Try.func16 #[.int .i64 a0] ?_; (with_reducible refine (impl_AllArches.calls kj1 a0 t501 _ A5.out).mono ?_); rintro e w6 ⟨v502, rfl, ho0, hb⟩; refine ⟨_, rfl, ?_⟩; have HO503 := Aside0.mk (Kd.S_lower ho0 (below_size (hb0_ HB.out))); replace HB := HB.s0 hb; (try clear hb); (try clear ho0); obtain ⟨Ao7, co7, eo7⟩ := Kd.S_slice HO503.out; subst eo7))
    go_loopg [4, 19] kj1 (fun kq v4 v19 w' => ∃ (x4_2 : Int) (x19_2 : Int), v4 = .int .i64 x4_2 ∧ v19 = .int .i64 x19_2 ∧ Aside0 (impl_CountMeanders.l0 kq t501 x4_2 t501 (t501.length : Int) x19_2 = some r) ∧ Aside0 (kq ≤ kj1) ∧ Aside0 (Kd.S (Kd.slice 3 (Kd.int .i64)) 22 w' w.heap.size (fun _ => True) (.slice Ao7 t501.length co7) t501) ∧ Aside0 (Kd.S (Kd.slice 3 (Kd.int .i64)) 22 w' w.heap.size (fun _ => True) (.slice Ao7 t501.length co7) t501) ∧ Aside0 (Below w.heap.size w w'))
    case atStart => exact ⟨(0), (0), (by first | rfl | (simp; done) | (simp [*]; done)), (by first | rfl | (simp; done) | (simp [*]; done)), H', ⟨Nat.le_refl _⟩, ⟨by (with_reducible repeat (first | apply Kd.S_alloc | apply Kd.S_drewN | apply Kd.S_drew)); exact HO503.out⟩, ⟨by (with_reducible repeat (first | apply Kd.S_alloc | apply Kd.S_drewN | apply Kd.S_drew)); exact HO503.out⟩, ⟨hb0_ HB.out⟩⟩
    case round =>
     clear H'
     try clear c1
     try clear p2
     try clear c3
     try clear c3b0
     try clear c4
     try clear p2
     obtain ⟨x4_2, x19_2, rfl, rfl, HA, HK2, HO_3, HO_17, HB⟩ := hrel
     cases gk with
     | zero => exact absurd HA.out (by simp [impl_CountMeanders.l0])
     | succ k2 =>
      have H := HA.out
      clear HA
      simp only [impl_CountMeanders.l0] at H
      by_cases c8 : x19_2 < (t501.length : Int)
      ·rw [if_pos c8] at H
       have c8b0 : decide (x19_2 < (t501.length : Int)) = true := decide_eq_true c8
       clear c8
       by_cases c9 : 0 ≤ x19_2
       ·rw [if_pos c9] at H
        have c9b0 : decide (0 ≤ x19_2) = true := decide_eq_true c9
        clear c9
        by_cases c10 : x19_2 < (t501.length : Int)
        ·rw [if_pos c10] at H
         have c10b0 : decide (x19_2 < (t501.length : Int)) = true := decide_eq_true c10
         clear c10
         have H' := Aside0.mk H
         clear H
         have p504 : 0 ≤ (x19_2 : Int) := of_decide_eq_true (as_)
         have q504 : x19_2 < (t501.length : Int) := of_decide_eq_true (as_)
         obtain ⟨ad504, A504_0, c504_0, e504, hx504_0, hl504_0, hi504_0⟩ := at_L1 (Kd.S_reads' HO_17.out).2.2 x19_2 p504 q504
         cases e504
         obtain ⟨ce504, hce504, hMe504, hcc504⟩ := Kd.S_get HO_17.out [] x19_2 p504 (by first | exact q504 | exact of_decide_eq_true (as_) | (have e_ := (Kd.S_reads' HO_17.out).1; omega))
         obtain ⟨ve504_0, rfl, ge504_0⟩ := hMe504
         have hv504_0 := hcc504 0 _ rfl
         rw [Nat.add_zero, show ((Kd.slice 3 (Kd.int .i64))).sz = 1 from rfl, Nat.mul_one] at hv504_0
         replace hv504_0 := Option.some.inj (hv504_0.symm.trans hx504_0)
         rw [hv504_0] at ge504_0
         have HL504_0 := Aside0.mk (show Kd.R (Kd.int .i64) 3 _ _ _ _ (rd_L1 t501 x19_2) from ge504_0)
         clear hv504_0 ge504_0
         clear hcc504 hce504
         have HR504_0 := Aside0.mk hi504_0
         have HC504_0 := Aside0.mk hl504_0
         clear hi504_0 hl504_0
         replace p504 := eq_true p504
         replace q504 := eq_true q504
         go_wp2
         go_loopg [4, 25] k2 (fun kq v4 v25 w' => ∃ (x4_3 : Int) (x25_3 : Int), v4 = .int .i64 x4_3 ∧ v25 = .int .i64 x25_3 ∧ Aside0 (impl_CountMeanders.l1 kq t501 x4_3 (rd_L1 t501 x19_2) t501 (t501.length : Int) x19_2 t501 (t501.length : Int) x25_3 = some r) ∧ Aside0 (kq ≤ k2) ∧ Aside0 (Kd.S (Kd.slice 3 (Kd.int .i64)) 22 w' w.heap.size (fun _ => True) (.slice (some ad504) t501.length co7) t501) ∧ Aside0 (Kd.S (Kd.slice 3 (Kd.int .i64)) 22 w' w.heap.size (fun _ => True) (.slice (some ad504) t501.length co7) t501) ∧ Aside0 (Kd.S (Kd.slice 3 (Kd.int .i64)) 22 w' w.heap.size (fun _ => True) (.slice (some ad504) t501.length co7) t501) ∧ Aside0 (Kd.C (Kd.int .i64) w' A504_0 (rd_L1 t501 x19_2).length (rd_L1 t501 x19_2)) ∧ Aside0 (Below w.heap.size w w'))
         case atStart => exact ⟨(x4_2), (0), (by first | rfl | (simp; done) | (simp [*]; done)), (by first | rfl | (simp; done) | (simp [*]; done)), H', ⟨Nat.le_refl _⟩, ⟨by (with_reducible repeat (first | apply Kd.S_alloc | apply Kd.S_drewN | apply Kd.S_drew)); exact HO_3.out⟩, ⟨by (with_reducible repeat (first | apply Kd.S_alloc | apply Kd.S_drewN | apply Kd.S_drew)); exact HO_17.out⟩, ⟨by (with_reducible repeat (first | apply Kd.S_alloc | apply Kd.S_drewN | apply Kd.S_drew)); exact HO_3.out⟩, ⟨by repeat (first | (with_reducible exact HR504_0.out) | (with_reducible refine Kd.C_alloc ?_ _) | (with_reducible refine Kd.C_drewN ?_ _) | (with_reducible refine Kd.C_drew ?_) | exact HR504_0.out)⟩, ⟨hb0_ HB.out⟩⟩
         case round =>
          clear H'
          try clear c1
          try clear p2
          try clear c3
          try clear c3b0
          try clear c4
          try clear c5
          try clear p5
          try clear q5
          try clear hx5
          try clear c8
          try clear c8b0
          try clear c9
          try clear c9b0
          try clear c10
          try clear c10b0
          try clear hx504_0
          try clear p2
          try clear p504
          try clear q504
          obtain ⟨x4_3, x25_3, rfl, rfl, HA, HK3, HO_3, HO_17, HO_23, HR504_0, HB⟩ := hrel
          cases gk with
          | zero => exact absurd HA.out (by simp [impl_CountMeanders.l1])
          | succ k3 =>
           have H := HA.out
           clear HA
           simp only [impl_CountMeanders.l1] at H
           by_cases c11 : x25_3 < (t501.length : Int)
           ·rw [if_pos c11] at H
            have c11b0 : decide (x25_3 < (t501.length : Int)) = true := decide_eq_true c11
            clear c11
            by_cases c12 : 0 ≤ x25_3
            ·rw [if_pos c12] at H
             have c12b0 : decide (0 ≤ x25_3) = true := decide_eq_true c12
             clear c12
             by_cases c13 : x25_3 < (t501.length : Int)
             ·rw [if_pos c13] at H
              have c13b0 : decide (x25_3 < (t501.length : Int)) = true := decide_eq_true c13
              clear c13
              replace H := Option.bind_eq_some_iff.mp H
              obtain ⟨t506, A140, H⟩ := H
              replace H : (if t506 = true then (impl_CountMeanders.l1 k3 t501 (wrap64 (x4_3 + 1)) (rd_L1 t501 x19_2) t501 (t501.length : Int) x19_2 t501 (t501.length : Int) (wrap64 (x25_3 + 1))) else (impl_CountMeanders.l1 k3 t501 x4_3 (rd_L1 t501 x19_2) t501 (t501.length : Int) x19_2 t501 (t501.length : Int) (wrap64 (x25_3 + 1)))) = some r := H
              have A14 := Aside0.mk A140
              clear A140
              by_cases c15 : t506 = true
              ·subst c15
               have H1 : (impl_CountMeanders.l1 k3 t501 (wrap64 (x4_3 + 1)) (rd_L1 t501 x19_2) t501 (t501.length : Int) x19_2 t501 (t501.length : Int) (wrap64 (x25_3 + 1))) = some r := by rw [if_pos rfl] at H; exact H
               clear H
               have H := H1
               clear H1
               have H' := Aside0.mk H
               clear H
               have p505 : 0 ≤ (x25_3 : Int) := of_decide_eq_true (as_)
               have q505 : x25_3 < (t501.length : Int) := of_decide_eq_true (as_)
               obtain ⟨ad505, A505_0, c505_0, e505, hx505_0, hl505_0, hi505_0⟩ := at_L1 (Kd.S_reads' HO_23.out).2.2 x25_3 p505 q505
               obtain rfl : ad504 = ad505 := (by injection e505)
               obtain ⟨ce505, hce505, hMe505, hcc505⟩ := Kd.S_get HO_23.out [] x25_3 p505 (by first | exact q505 | exact of_decide_eq_true (as_) | (have e_ := (Kd.S_reads' HO_23.out).1; omega))
               obtain ⟨ve505_0, rfl, ge505_0⟩ := hMe505
               have hv505_0 := hcc505 0 _ rfl
               rw [Nat.add_zero, show ((Kd.slice 3 (Kd.int .i64))).sz = 1 from rfl, Nat.mul_one] at hv505_0
               replace hv505_0 := Option.some.inj (hv505_0.symm.trans hx505_0)
               rw [hv505_0] at ge505_0
               have HL505_0 := Aside0.mk (show Kd.R (Kd.int .i64) 3 _ _ _ _ (rd_L1 t501 x25_3) from ge505_0)
               clear hv505_0 ge505_0
               clear hcc505 hce505
               have HR505_0 := Aside0.mk hi505_0
               have HC505_0 := Aside0.mk hl505_0
               clear hi505_0 hl505_0
               replace p505 := eq_true p505
               replace q505 := eq_true q505
               go_wp2_with (first | (refine gl_ 31 Try.func25 #[.slice A504_0 (rd_L1 t501 x19_2).length c504_0, .slice A505_0 (rd_L1 t501 x25_3).length c505_0] ?_; (with_reducible refine (impl_IsMeander.calls k3 _ _ (rd_L1 t501 x19_2) _ _ (rd_L1 t501 x25_3) true _ ?side1 ?side2 ?side3 ?side4 A14.out).mono ?_); (case side1 => repeat (first | exact HR504_0.out | exact (Kd.C_below HR504_0.out HB.out) | (with_reducible refine Kd.C_alloc ?_ _) | (with_reducible refine Kd.C_drewN ?_ _) | (with_reducible refine Kd.C_drew ?_))); (case side2 => exact HC504_0.out); (case side3 => repeat (first | exact (by repeat (first | (with_reducible exact HR505_0.out) | (with_reducible refine Kd.C_alloc ?_ _) | (with_reducible refine Kd.C_drewN ?_ _) | (with_reducible refine Kd.C_drew ?_) | exact HR505_0.out)) | (with_reducible refine Kd.C_alloc ?_ _) | (with_reducible refine Kd.C_drewN ?_ _) | (with_reducible refine Kd.C_drew ?_))); (case side4 => exact HC505_0.out); rintro e w16 ⟨rfl, hb⟩; refine ⟨_, rfl, ?_⟩; replace HO_3 := Aside0.mk (Kd.S_below (by (with_reducible repeat (first | apply Kd.S_alloc | apply Kd.S_drewN | apply Kd.S_drew)); exact HO_3.out) hb); replace HO_17 := Aside0.mk (Kd.S_below (by (with_reducible repeat (first | apply Kd.S_alloc | apply Kd.S_drewN | apply Kd.S_drew)); exact HO_17.out) hb); replace HO_23 := Aside0.mk (Kd.S_below (by (with_reducible repeat (first | apply Kd.S_alloc | apply Kd.S_drewN | apply Kd.S_drew)); exact HO_23.out) hb); replace HL505_0 := HL505_0.kb hb; replace HR504_0 := Aside0.mk (Kd.C_below (by repeat (first | (with_reducible exact HR504_0.out) | (with_reducible refine Kd.C_alloc ?_ _) | (with_reducible refine Kd.C_drewN ?_ _) | (with_reducible refine Kd.C_drew ?_) | exact HR504_0.out)) hb); replace HR505_0 := Aside0.mk (Kd.C_below (by repeat (first | (with_reducible exact HR505_0.out) | (with_reducible refine Kd.C_alloc ?_ _) | (with_reducible refine Kd.C_drewN ?_ _) | (with_reducible refine Kd.C_drew ?_) | exact HR505_0.out)) hb); replace HB := HB.s0 hb))
               go_roundg k3
               case measure => have := HJ1.out; have := HK2.out; have := HK3.out; omega
               case rel => exact ⟨(wrap64 (x4_3 + 1)), (wrap64 (x25_3 + 1)), (by first | rfl | (simp; done) | (simp [*]; done)), (by first | rfl | (simp; done) | (simp [*]; done)), H', ⟨by have := HJ1.out; have := HK2.out; have := HK3.out; omega⟩, ⟨by (with_reducible repeat (first | apply Kd.S_alloc | apply Kd.S_drewN | apply Kd.S_drew)); exact HO_3.out⟩, ⟨by (with_reducible repeat (first | apply Kd.S_alloc | apply Kd.S_drewN | apply Kd.S_drew)); exact HO_17.out⟩, ⟨by (with_reducible repeat (first | apply Kd.S_alloc | apply Kd.S_drewN | apply Kd.S_drew)); exact HO_23.out⟩, ⟨by repeat (first | (with_reducible exact HR504_0.out) | (with_reducible refine Kd.C_alloc ?_ _) | (with_reducible refine Kd.C_drewN ?_ _) | (with_reducible refine Kd.C_drew ?_) | exact HR504_0.out)⟩, ⟨hb0_ HB.out⟩⟩
              ·replace c15 := Bool.eq_false_iff.mpr c15
               subst c15
               have H1 : (impl_CountMeanders.l1 k3 t501 x4_3 (rd_L1 t501 x19_2) t501 (t501.length : Int) x19_2 t501 (t501.length : Int) (wrap64 (x25_3 + 1))) = some r := by rw [if_neg (show ¬ (false = true) by decide)] at H; exact H
               clear H
               have H := H1
               clear H1
               have H' := Aside0.mk H
               clear H
               have p505 : 0 ≤ (x25_3 : Int) := of_decide_eq_true (as_)
               have q505 : x25_3 < (t501.length : Int) := of_decide_eq_true (as_)
               obtain ⟨ad505, A505_0, c505_0, e505, hx505_0, hl505_0, hi505_0⟩ := at_L1 (Kd.S_reads' HO_23.out).2.2 x25_3 p505 q505
               obtain rfl : ad504 = ad505 := (by injection e505)
               obtain ⟨ce505, hce505, hMe505, hcc505⟩ := Kd.S_get HO_23.out [] x25_3 p505 (by first | exact q505 | exact of_decide_eq_true (as_) | (have e_ := (Kd.S_reads' HO_23.out).1; omega))
               obtain ⟨ve505_0, rfl, ge505_0⟩ := hMe505
               have hv505_0 := hcc505 0 _ rfl
               rw [Nat.add_zero, show ((Kd.slice 3 (Kd.int .i64))).sz = 1 from rfl, Nat.mul_one] at hv505_0
               replace hv505_0 := Option.some.inj (hv505_0.symm.trans hx505_0)
               rw [hv505_0] at ge505_0
               have HL505_0 := Aside0.mk (show Kd.R (Kd.int .i64) 3 _ _ _ _ (rd_L1 t501 x25_3) from ge505_0)
               clear hv505_0 ge505_0
               clear hcc505 hce505
               have HR505_0 := Aside0.mk hi505_0
               have HC505_0 := Aside0.mk hl505_0
               clear hi505_0 hl505_0
               replace p505 := eq_true p505
               replace q505 := eq_true q505
               go_wp2_with (first | (refine gl_ 31 Try.func25 #[.slice A504_0 (rd_L1 t501 x19_2).length c504_0, .slice A505_0 (rd_L1 t501 x25_3).length c505_0] ?_; (with_reducible refine (impl_IsMeander.calls k3 _ _ (rd_L1 t501 x19_2) _ _ (rd_L1 t501 x25_3) false _ ?side1 ?side2 ?side3 ?side4 A14.out).mono ?_); (case side1 => repeat (first | exact HR504_0.out | exact (Kd.C_below HR504_0.out HB.out) | (with_reducible refine Kd.C_alloc ?_ _) | (with_reducible refine Kd.C_drewN ?_ _) | (with_reducible refine Kd.C_drew ?_))); (case side2 => exact HC504_0.out); (case side3 => repeat (first | exact (by repeat (first | (with_reducible exact HR505_0.out) | (with_reducible refine Kd.C_alloc ?_ _) | (with_reducible refine Kd.C_drewN ?_ _) | (with_reducible refine Kd.C_drew ?_) | exact HR505_0.out)) | (with_reducible refine Kd.C_alloc ?_ _) | (with_reducible refine Kd.C_drewN ?_ _) | (with_reducible refine Kd.C_drew ?_))); (case side4 => exact HC505_0.out); rintro e w17 ⟨rfl, hb⟩; refine ⟨_, rfl, ?_⟩; replace HO_3 := Aside0.mk (Kd.S_below (by (with_reducible repeat (first | apply Kd.S_alloc | apply Kd.S_drewN | apply Kd.S_drew)); exact HO_3.out) hb); replace HO_17 := Aside0.mk (Kd.S_below (by (with_reducible repeat (first | apply Kd.S_alloc | apply Kd.S_drewN | apply Kd.S_drew)); exact HO_17.out) hb); replace HO_23 := Aside0.mk (Kd.S_below (by (with_reducible repeat (first | apply Kd.S_alloc | apply Kd.S_drewN | apply Kd.S_drew)); exact HO_23.out) hb); replace HL505_0 := HL505_0.kb hb; replace HR504_0 := Aside0.mk (Kd.C_below (by repeat (first | (with_reducible exact HR504_0.out) | (with_reducible refine Kd.C_alloc ?_ _) | (with_reducible refine Kd.C_drewN ?_ _) | (with_reducible refine Kd.C_drew ?_) | exact HR504_0.out)) hb); replace HR505_0 := Aside0.mk (Kd.C_below (by repeat (first | (with_reducible exact HR505_0.out) | (with_reducible refine Kd.C_alloc ?_ _) | (with_reducible refine Kd.C_drewN ?_ _) | (with_reducible refine Kd.C_drew ?_) | exact HR505_0.out)) hb); replace HB := HB.s0 hb))
               go_roundg k3
               case measure => have := HJ1.out; have := HK2.out; have := HK3.out; omega
               case rel => exact ⟨(x4_3), (wrap64 (x25_3 + 1)), (by first | rfl | (simp; done) | (simp [*]; done)), (by first | rfl | (simp; done) | (simp [*]; done)), H', ⟨by have := HJ1.out; have := HK2.out; have := HK3.out; omega⟩, ⟨by (with_reducible repeat (first | apply Kd.S_alloc | apply Kd.S_drewN | apply Kd.S_drew)); exact HO_3.out⟩, ⟨by (with_reducible repeat (first | apply Kd.S_alloc | apply Kd.S_drewN | apply Kd.S_drew)); exact HO_17.out⟩, ⟨by (with_reducible repeat (first | apply Kd.S_alloc | apply Kd.S_drewN | apply Kd.S_drew)); exact HO_23.out⟩, ⟨by repeat (first | (with_reducible exact HR504_0.out) | (with_reducible refine Kd.C_alloc ?_ _) | (with_reducible refine Kd.C_drewN ?_ _) | (with_reducible refine Kd.C_drew ?_) | exact HR504_0.out)⟩, ⟨hb0_ HB.out⟩⟩
             ·rw [if_neg c13] at H
              exact absurd H (by simp)
            ·rw [if_neg c12] at H
             exact absurd H (by simp)
           ·rw [if_neg c11] at H
            have c11b0 : decide (x25_3 < (t501.length : Int)) = false := decide_eq_false c11
            clear c11
            have H' := Aside0.mk H
            clear H
            go_wp2
            go_roundg k3
            case measure => have := HJ1.out; have := HK2.out; have := HK3.out; omega
            case rel => exact ⟨(x4_3), (wrap64 (x19_2 + 1)), (by first | rfl | (simp; done) | (simp [*]; done)), (by first | rfl | (simp; done) | (simp [*]; done)), H', ⟨by have := HJ1.out; have := HK2.out; have := HK3.out; omega⟩, ⟨by (with_reducible repeat (first | apply Kd.S_alloc | apply Kd.S_drewN | apply Kd.S_drew)); exact HO_3.out⟩, ⟨by (with_reducible repeat (first | apply Kd.S_alloc | apply Kd.S_drewN | apply Kd.S_drew)); exact HO_17.out⟩, ⟨hb0_ HB.out⟩⟩
        ·rw [if_neg c10] at H
         exact absurd H (by simp)
       ·rw [if_neg c9] at H
        exact absurd H (by simp)
      ·rw [if_neg c8] at H
       have c8b0 : decide (x19_2 < (t501.length : Int)) = false := decide_eq_false c8
       clear c8
       obtain rfl := Option.some.inj H
       go_wp2
       go_ret
       exact ⟨ex_, hb0_ HB.out⟩

end Go.Proofs.Ytkkjlbpffcdlfaa.X
