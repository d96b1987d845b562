-- Written by a program of this session (xprint.py), out of the translation and of hand-written contracts. Lean checks it.
import Derived.Test.YtkkjlbpffcdlfaaX0
namespace Go.Proofs.Ytkkjlbpffcdlfaa.X
open Go.RowKit Go.Proofs.YtkkjlbpffcdlfaaW.PrintWords Go.Proofs.YtkkjlbpffcdlfaaW.PrintLast Go.Proofs.YtkkjlbpffcdlfaaW.PrintMore
attribute [local go_sem] max2_int min2_int max_two min_two max_three min_three max_four min_four   -- for this text's walks alone
set_option linter.unusedVariables false
set_option linter.unusedSimpArgs false

/-! ### spec_CrossPairs: function 54 -/
mutual
def spec_CrossPairs.j0 : Nat → List Int → List Int → Bool → Option (Bool)
 | 0, _, _, _ => none
 | k + 1, x0, x1, x17 => if x17 = true then (some false) else (if 0 < (x0.length : Int) then (if 1 < (x0.length : Int) then (spec_CrossPairs.l0 k x1 (mn (rd x0 0) (rd x0 1)) (mx (rd x0 0) (rd x0 1)) 0 0 0) else (none)) else (none))
def spec_CrossPairs.l0 : Nat → List Int → Int → Int → Int → Int → Int → Option (Bool)
 | 0, _, _, _, _, _, _ => none
 | k + 1, x1, x5, x6, x7, x8, x9 => if x9 < 2 then (if 0 ≤ x9 then (if x9 < (x1.length : Int) then (if (rd x1 x9) > x5 then (spec_CrossPairs.j2 k x1 x5 x6 x7 x8 x9 (decide ((rd x1 x9) < x6))) else (spec_CrossPairs.j2 k x1 x5 x6 x7 x8 x9 false)) else (none)) else (none)) else (if x7 = 1 then (some (x8 == 1)) else (some false))
def spec_CrossPairs.j2 : Nat → List Int → Int → Int → Int → Int → Int → Bool → Option (Bool)
 | 0, _, _, _, _, _, _, _ => none
 | k + 1, x1, x5, x6, x7, x8, x9, x49 => if x49 = true then (if 0 ≤ x9 then (if x9 < (x1.length : Int) then (if (rd x1 x9) < x5 then (spec_CrossPairs.l0 k x1 x5 x6 (wrap64 (x7 + 1)) (wrap64 (x8 + 1)) (wrap64 (x9 + 1))) else (if (rd x1 x9) > x6 then (spec_CrossPairs.l0 k x1 x5 x6 (wrap64 (x7 + 1)) (wrap64 (x8 + 1)) (wrap64 (x9 + 1))) else (spec_CrossPairs.l0 k x1 x5 x6 (wrap64 (x7 + 1)) x8 (wrap64 (x9 + 1))))) else (none)) else (none)) else (if 0 ≤ x9 then (if x9 < (x1.length : Int) then (if (rd x1 x9) < x5 then (spec_CrossPairs.l0 k x1 x5 x6 x7 (wrap64 (x8 + 1)) (wrap64 (x9 + 1))) else (if (rd x1 x9) > x6 then (spec_CrossPairs.l0 k x1 x5 x6 x7 (wrap64 (x8 + 1)) (wrap64 (x9 + 1))) else (spec_CrossPairs.l0 k x1 x5 x6 x7 x8 (wrap64 (x9 + 1))))) else (none)) else (none))
end
def spec_CrossPairs.f (k : Nat) (l0 : List Int) (l1 : List Int) : Option (Bool) := if (l0.length : Int) = 2 then (spec_CrossPairs.j0 k l0 l1 ((l1.length : Int) != 2)) else (spec_CrossPairs.j0 k l0 l1 true)
theorem spec_CrossPairs.mono_l : ∀ k, (∀ y0 y1 y2, LeO (spec_CrossPairs.j0 k y0 y1 y2) (spec_CrossPairs.j0 (k + 1) y0 y1 y2)) ∧ (∀ y0 y1 y2 y3 y4 y5, LeO (spec_CrossPairs.l0 k y0 y1 y2 y3 y4 y5) (spec_CrossPairs.l0 (k + 1) y0 y1 y2 y3 y4 y5)) ∧ (∀ y0 y1 y2 y3 y4 y5 y6, LeO (spec_CrossPairs.j2 k y0 y1 y2 y3 y4 y5 y6) (spec_CrossPairs.j2 (k + 1) y0 y1 y2 y3 y4 y5 y6))
 | 0 => ⟨fun _ _ _ r h => by simp [spec_CrossPairs.j0] at h, fun _ _ _ _ _ _ r h => by simp [spec_CrossPairs.l0] at h, fun _ _ _ _ _ _ _ r h => by simp [spec_CrossPairs.j2] at h⟩
 | k + 1 => by
  obtain ⟨ih0, ih1, ih2⟩ := spec_CrossPairs.mono_l k
  refine ⟨?_, ?_, ?_⟩
  ·intro y0 y1 y2
   unfold spec_CrossPairs.j0
   repeat' first
   | (with_reducible exact ih0 ..)
   | (with_reducible exact ih1 ..)
   | (with_reducible exact ih2 ..)
   | (with_reducible first | exact lr_ _ | exact ln_ _ | refine li_ ?_ ?_ | refine lb_ ?_ fun _ => ?_)
   | exact ih0 ..
   | exact ih1 ..
   | exact ih2 ..
   | exact ln_ _ | refine li_ ?_ ?_ | refine lb_ ?_ fun _ => ?_
  ·intro y0 y1 y2 y3 y4 y5
   unfold spec_CrossPairs.l0
   repeat' first
   | (with_reducible exact ih0 ..)
   | (with_reducible exact ih1 ..)
   | (with_reducible exact ih2 ..)
   | (with_reducible first | exact lr_ _ | exact ln_ _ | refine li_ ?_ ?_ | refine lb_ ?_ fun _ => ?_)
   | exact ih0 ..
   | exact ih1 ..
   | exact ih2 ..
   | exact ln_ _ | refine li_ ?_ ?_ | refine lb_ ?_ fun _ => ?_
  ·intro y0 y1 y2 y3 y4 y5 y6
   unfold spec_CrossPairs.j2
   repeat' first
   | (with_reducible exact ih0 ..)
   | (with_reducible exact ih1 ..)
   | (with_reducible exact ih2 ..)
   | (with_reducible first | exact lr_ _ | exact ln_ _ | refine li_ ?_ ?_ | refine lb_ ?_ fun _ => ?_)
   | exact ih0 ..
   | exact ih1 ..
   | exact ih2 ..
   | exact ln_ _ | refine li_ ?_ ?_ | refine lb_ ?_ fun _ => ?_
theorem spec_CrossPairs.mono : ∀ a0 a1 k, LeO (spec_CrossPairs.f k a0 a1) (spec_CrossPairs.f (k + 1) a0 a1) := by
 intro a0 a1 k
 obtain ⟨ih0, ih1, ih2⟩ := spec_CrossPairs.mono_l k
 unfold spec_CrossPairs.f
 repeat' first
   | (with_reducible exact ih0 ..)
   | (with_reducible exact ih1 ..)
   | (with_reducible exact ih2 ..)
   | (with_reducible first | exact lr_ _ | exact ln_ _ | refine li_ ?_ ?_ | refine lb_ ?_ fun _ => ?_)
   | exact ih0 ..
   | exact ih1 ..
   | exact ih2 ..
   | exact ln_ _ | refine li_ ?_ ?_ | refine lb_ ?_ fun _ => ?_
set_option maxHeartbeats 8000000 in
set_option maxRecDepth 100000 in
theorem spec_CrossPairs.calls (k : Nat) (A0 : Option Addr) (c0 : Nat) (l0 : List Int) (A1 : Option Addr) (c1 : Nat) (l1 : List Int) (r : Bool) (w : World) (hr0 : Kd.C (Kd.int .i64) w A0 l0.length l0) (hc0 : l0.length ≤ c0) (hr1 : Kd.C (Kd.int .i64) w A1 l1.length l1) (hc1 : l1.length ≤ c1) (h : spec_CrossPairs.f k l0 l1 = some r) :
  Calls Try.prog 54 #[.slice A0 l0.length c0, .slice A1 l1.length c1] w fun e w' => e = .returned (.bool r) ∧ Below w.heap.size w w' := by
 have HR0 := Aside0.mk hr0
 have HC0 := Aside0.mk hc0
 clear hr0 hc0
 have HR1 := Aside0.mk hr1
 have HC1 := Aside0.mk hc1
 clear hr1 hc1
 have HB := Aside0.mk (Below.refl w.heap.size w)
 have H : (if (l0.length : Int) = 2 then (spec_CrossPairs.j0 k l0 l1 ((l1.length : Int) != 2)) else (spec_CrossPairs.j0 k l0 l1 true)) = some r := h
 clear h
 have HC3 := Aside0.mk H
 clear H
 go_enter Try.func54, Try.ntmps54
 go_upto_region 1 with (fail)
 repeat (go_quiet (fail); go_upto_region 1 with (fail))
 go_cut [17] (fun v17 wc => ∃ (kq : Nat) (x17_2 : Bool), v17 = .bool x17_2 ∧ Aside0 (spec_CrossPairs.j0 kq l0 l1 x17_2 = some r) ∧ Aside0 (kq ≤ k) ∧ Aside0 (Below w.heap.size w wc))
 case first =>
  have H := HC3.out
  clear HC3
  by_cases c4 : (l0.length : Int) = 2
  ·rw [if_pos c4] at H
   have c4b0 : ((l0.length : Int) == 2) = true := beq_iff_eq.mpr c4
   have c4b1 : ((l0.length : Int) != 2) = false := bne_eq_false_iff_eq.mpr c4
   clear c4
   (first | rw [c4b0] | (simp only [i64_w, i32_w]; rw [c4b0]) | skip)
   have H' := Aside0.mk H
   clear H
   go_wp2
   repeat (go_quiet (fail); try go_wp2)
   go_meet
   case rel => exact ⟨_, (((l1.length : Int) != 2)), (by first | rfl | (simp; done) | (simp [*]; done)), H', ⟨by first | omega | exact Nat.le_refl _⟩, ⟨hb0_ HB.out⟩⟩
  ·rw [if_neg c4] at H
   have c4b0 : ((l0.length : Int) == 2) = false := beq_eq_false_iff_ne.mpr c4
   have c4b1 : ((l0.length : Int) != 2) = true := bne_iff_ne.mpr c4
   (first | rw [c4b0] | (simp only [i64_w, i32_w]; rw [c4b0]) | skip)
   have H' := Aside0.mk H
   clear H
   go_wp2
   repeat (go_quiet (fail); try go_wp2)
   go_meet
   case rel => exact ⟨_, (true), (by first | rfl | (simp; done) | (simp [*]; done)), H', ⟨by first | omega | exact Nat.le_refl _⟩, ⟨hb0_ HB.out⟩⟩
 case rest =>
  clear HC3
  try clear c1
  try clear p2
  try clear c4
  try clear c4b0
  try clear c4b1
  obtain ⟨kq, x17_2, rfl, HA, HJ2, HB⟩ := hcut
  cases kq with
  | zero => exact absurd HA.out (by simp [spec_CrossPairs.j0])
  | succ kj2 =>
   have H := HA.out
   clear HA
   simp only [spec_CrossPairs.j0] at H
   by_cases c5 : x17_2 = true
   ·subst c5
    have H1 : (some false) = some r := by rw [if_pos rfl] at H; exact H
    clear H
    have H := H1
    clear H1
    obtain rfl := Option.some.inj H
    go_wp2
    repeat (go_quiet (fail); try go_wp2)
    go_ret
    exact ⟨ex_, hb0_ HB.out⟩
   ·replace c5 := Bool.eq_false_iff.mpr c5
    subst c5
    have H1 : (if 0 < (l0.length : Int) then (if 1 < (l0.length : Int) then (spec_CrossPairs.l0 kj2 l1 (mn (rd l0 0) (rd l0 1)) (mx (rd l0 0) (rd l0 1)) 0 0 0) else (none)) else (none)) = some r := by rw [if_neg (show ¬ (false = true) by decide)] at H; exact H
    clear H
    have H := H1
    clear H1
    by_cases c6 : 0 < (l0.length : Int)
    ·rw [if_pos c6] at H
     have c6b0 : decide (0 < (l0.length : Int)) = true := decide_eq_true c6
     have c6b1 : decide (0 < l0.length) = true := decide_eq_true (by omega)
     clear c6
     by_cases c7 : 1 < (l0.length : Int)
     ·rw [if_pos c7] at H
      have c7b0 : decide (1 < (l0.length : Int)) = true := decide_eq_true c7
      have c7b1 : decide (1 < l0.length) = true := decide_eq_true (by omega)
      clear c7
      obtain ⟨ji8, hji8⟩ : ∃ j_ : Int, (mn (rd l0 0) (rd l0 1)) = j_ := ⟨_, rfl⟩
      replace H : (spec_CrossPairs.l0 kj2 l1 ji8 (mx (rd l0 0) (rd l0 1)) 0 0 0) = some r := by first | (rw [hji8] at H; exact H) | (simp only [hji8] at H ⊢; exact H)
      have hji8_ : (if (rd l0 1) < (rd l0 0) then (rd l0 1) else (rd l0 0)) = ji8 := hji8
      obtain ⟨ji9, hji9⟩ : ∃ j_ : Int, (mx (rd l0 0) (rd l0 1)) = j_ := ⟨_, rfl⟩
      replace H : (spec_CrossPairs.l0 kj2 l1 ji8 ji9 0 0 0) = some r := by first | (rw [hji9] at H; exact H) | (simp only [hji9] at H ⊢; exact H)
      have hji9_ : (if (rd l0 0) < (rd l0 1) then (rd l0 1) else (rd l0 0)) = ji9 := hji9
      have H' := Aside0.mk H
      clear H
      have p501 : 0 ≤ (0 : Int) := (by omega)
      have q501 : 0 < (l0.length : Int) := of_decide_eq_true (as_)
      obtain ⟨ad501, e501, hx501_0⟩ := Kd.at_int HR0.out 0 p501 q501
      cases e501
      have qi501 : (0 < l0.length) = True := eq_true (by omega)
      (try rw [show ((0 : Int)).toNat = 0 from rfl] at hx501_0)
      (try rw [Addr.add_zero'] at hx501_0)
      replace hx501_0 := (HB.out.cell (World.block_lt_of_cell? w _ hx501_0)).trans hx501_0
      replace p501 := eq_true p501
      replace q501 := eq_true q501
      have p502 : 0 ≤ (1 : Int) := (by omega)
      have q502 : 1 < (l0.length : Int) := of_decide_eq_true (as_)
      obtain ⟨ad502, e502, hx502_0⟩ := Kd.at_int HR0.out 1 p502 q502
      obtain rfl : ad501 = ad502 := (by injection e502)
      (try simp only [show (1 : Int).toNat = 1 from rfl, Nat.reduceMul, Nat.reduceEqDiff, Go.Addr.add, ↓reduceIte] at hx502_0)
      have qi502 : (1 < l0.length) = True := eq_true (by omega)
      (try rw [show ((1 : Int)).toNat = 1 from rfl] at hx502_0)
      replace hx502_0 := (HB.out.cell (World.block_lt_of_cell? w _ hx502_0)).trans hx502_0
      replace p502 := eq_true p502
      replace q502 := eq_true q502
      have p503 : 0 ≤ (0 : Int) := (by omega)
      have q503 : 0 < (l0.length : Int) := of_decide_eq_true (as_)
      obtain ⟨ad503, e503, hx503_0⟩ := Kd.at_int HR0.out 0 p503 q503
      obtain rfl : ad501 = ad503 := (by injection e503)
      have qi503 : (0 < l0.length) = True := eq_true (by omega)
      (try rw [show ((0 : Int)).toNat = 0 from rfl] at hx503_0)
      (try rw [Addr.add_zero'] at hx503_0)
      replace hx503_0 := (HB.out.cell (World.block_lt_of_cell? w _ hx503_0)).trans hx503_0
      replace p503 := eq_true p503
      replace q503 := eq_true q503
      have p504 : 0 ≤ (1 : Int) := (by omega)
      have q504 : 1 < (l0.length : Int) := of_decide_eq_true (as_)
      obtain ⟨ad504, e504, hx504_0⟩ := Kd.at_int HR0.out 1 p504 q504
      obtain rfl : ad501 = ad504 := (by injection e504)
      (try simp only [show (1 : Int).toNat = 1 from rfl, Nat.reduceMul, Nat.reduceEqDiff, Go.Addr.add, ↓reduceIte] at hx504_0)
      have qi504 : (1 < l0.length) = True := eq_true (by omega)
      (try rw [show ((1 : Int)).toNat = 1 from rfl] at hx504_0)
      replace hx504_0 := (HB.out.cell (World.block_lt_of_cell? w _ hx504_0)).trans hx504_0
      replace p504 := eq_true p504
      replace q504 := eq_true q504
      go_wp2
      repeat (go_quiet (fail); try go_wp2)
      go_loopg [7, 8, 9] kj2 (fun kq v7 v8 v9 w' => ∃ (x7_2 : Int) (x8_2 : Int) (x9_2 : Int), v7 = .int .i64 x7_2 ∧ v8 = .int .i64 x8_2 ∧ v9 = .int .i64 x9_2 ∧ Aside0 (spec_CrossPairs.l0 kq l1 ji8 ji9 x7_2 x8_2 x9_2 = some r) ∧ Aside0 (kq ≤ kj2) ∧ Aside0 (Below w.heap.size w w'))
      case atStart => exact ⟨(0), (0), (0), (by first | rfl | (simp; done) | (simp [*]; done)), (by first | rfl | (simp; done) | (simp [*]; done)), (by first | rfl | (simp; done) | (simp [*]; done)), H', ⟨Nat.le_refl _⟩, ⟨hb0_ HB.out⟩⟩
      case round =>
       clear H'
       try clear c1
       try clear p2
       try clear c4
       try clear c4b0
       try clear c4b1
       try clear c5
       try clear p5
       try clear q5
       try clear hx5
       try clear qi5
       try clear c6
       try clear c6b0
       try clear c6b1
       try clear c7
       try clear c7b0
       try clear c7b1
       try clear hx501_0
       try clear hx502_0
       try clear hx503_0
       try clear hx504_0
       try clear p2
       try clear p501
       try clear p502
       try clear p503
       try clear p504
       try clear q501
       try clear q502
       try clear q503
       try clear q504
       obtain ⟨x7_2, x8_2, x9_2, rfl, rfl, rfl, HA, HK2, HB⟩ := hrel
       cases gk with
       | zero => exact absurd HA.out (by simp [spec_CrossPairs.l0])
       | succ k2 =>
        have H := HA.out
        clear HA
        simp only [spec_CrossPairs.l0] at H
        by_cases c10 : x9_2 < 2
        ·rw [if_pos c10] at H
         have c10b0 : decide (x9_2 < 2) = true := decide_eq_true c10
         clear c10
         have HC11 := Aside0.mk H
         clear H
         go_upto_region 10 with (fail)
         repeat (go_quiet (fail); go_upto_region 10 with (fail))
         go_cut [49] (fun v49 wc => ∃ (kq : Nat) (x49_10 : Bool), v49 = .bool x49_10 ∧ Aside0 (spec_CrossPairs.j2 kq l1 ji8 ji9 x7_2 x8_2 x9_2 x49_10 = some r) ∧ Aside0 (kq ≤ k2) ∧ Aside0 (Below w.heap.size w wc))
         case first =>
          have H := HC11.out
          clear HC11
          by_cases c12 : 0 ≤ x9_2
          ·rw [if_pos c12] at H
           have c12b0 : decide (0 ≤ x9_2) = true := decide_eq_true c12
           clear c12
           (first | rw [c12b0] | (simp only [i64_w, i32_w]; rw [c12b0]) | skip)
           by_cases c13 : x9_2 < (l1.length : Int)
           ·rw [if_pos c13] at H
            have c13b0 : decide (x9_2 < (l1.length : Int)) = true := decide_eq_true c13
            clear c13
            by_cases c14 : (rd l1 x9_2) > ji8
            ·rw [if_pos c14] at H
             have c14b0 : decide (ji8 < (rd l1 x9_2)) = true := decide_eq_true c14
             clear c14
             have H' := Aside0.mk H
             clear H
             have p505 : 0 ≤ (x9_2 : Int) := of_decide_eq_true (as_)
             have q505 : x9_2 < (l1.length : Int) := of_decide_eq_true (as_)
             obtain ⟨ad505, e505, hx505_0⟩ := Kd.at_int HR1.out x9_2 p505 q505
             cases e505
             replace hx505_0 := (HB.out.cell (World.block_lt_of_cell? w _ hx505_0)).trans hx505_0
             replace p505 := eq_true p505
             replace q505 := eq_true q505
             have p506 : 0 ≤ (x9_2 : Int) := of_decide_eq_true (as_)
             have q506 : x9_2 < (l1.length : Int) := of_decide_eq_true (as_)
             obtain ⟨ad506, e506, hx506_0⟩ := Kd.at_int HR1.out x9_2 p506 q506
             obtain rfl : ad505 = ad506 := (by injection e506)
             replace hx506_0 := (HB.out.cell (World.block_lt_of_cell? w _ hx506_0)).trans hx506_0
             replace p506 := eq_true p506
             replace q506 := eq_true q506
             go_wp2
             repeat (go_quiet (fail); try go_wp2)
             go_meet
             case rel => exact ⟨_, (decide ((rd l1 x9_2) < ji9)), (by first | rfl | (simp; done) | (simp only [← hji9] <;> (first | rfl | simp)) | (simp [*]; done)), H', ⟨by have := HJ2.out; have := HK2.out; first | omega | exact Nat.le_refl _⟩, ⟨hb0_ HB.out⟩⟩
            ·rw [if_neg c14] at H
             have c14b0 : decide (ji8 < (rd l1 x9_2)) = false := decide_eq_false c14
             clear c14
             have H' := Aside0.mk H
             clear H
             have p505 : 0 ≤ (x9_2 : Int) := of_decide_eq_true (as_)
             have q505 : x9_2 < (l1.length : Int) := of_decide_eq_true (as_)
             obtain ⟨ad505, e505, hx505_0⟩ := Kd.at_int HR1.out x9_2 p505 q505
             cases e505
             replace hx505_0 := (HB.out.cell (World.block_lt_of_cell? w _ hx505_0)).trans hx505_0
             replace p505 := eq_true p505
             replace q505 := eq_true q505
             go_wp2
             repeat (go_quiet (fail); try go_wp2)
             go_meet
             case rel => exact ⟨_, (false), (by first | rfl | (simp; done) | (simp [*]; done)), H', ⟨by have := HJ2.out; have := HK2.out; first | omega | exact Nat.le_refl _⟩, ⟨hb0_ HB.out⟩⟩
           ·rw [if_neg c13] at H
            exact absurd H (by simp)
          ·rw [if_neg c12] at H
           exact absurd H (by simp)
         case rest =>
          clear HC11
          try clear c1
          try clear p2
          try clear c4
          try clear c4b0
          try clear c4b1
          try clear c5
          try clear p5
          try clear q5
          try clear hx5
          try clear qi5
          try clear c6
          try clear c6b0
          try clear c6b1
          try clear c7
          try clear c7b0
          try clear c7b1
          try clear c10
          try clear c10b0
          try clear c12
          try clear c12b0
          try clear c13
          try clear c13b0
          try clear c14
          try clear c14b0
          try clear hx501_0
          try clear hx502_0
          try clear hx503_0
          try clear hx504_0
          try clear hx505_0
          try clear hx506_0
          try clear p2
          try clear p5
          try clear p501
          try clear p502
          try clear p503
          try clear p504
          try clear p505
          try clear p506
          try clear q5
          try clear q501
          try clear q502
          try clear q503
          try clear q504
          try clear q505
          try clear q506
          obtain ⟨kq, x49_10, rfl, HA, HJ10, HB⟩ := hcut
          cases kq with
          | zero => exact absurd HA.out (by simp [spec_CrossPairs.j2])
          | succ kj10 =>
           have H := HA.out
           clear HA
           simp only [spec_CrossPairs.j2] at H
           by_cases c15 : x49_10 = true
           ·subst c15
            have H1 : (if 0 ≤ x9_2 then (if x9_2 < (l1.length : Int) then (if (rd l1 x9_2) < ji8 then (spec_CrossPairs.l0 kj10 l1 ji8 ji9 (wrap64 (x7_2 + 1)) (wrap64 (x8_2 + 1)) (wrap64 (x9_2 + 1))) else (if (rd l1 x9_2) > ji9 then (spec_CrossPairs.l0 kj10 l1 ji8 ji9 (wrap64 (x7_2 + 1)) (wrap64 (x8_2 + 1)) (wrap64 (x9_2 + 1))) else (spec_CrossPairs.l0 kj10 l1 ji8 ji9 (wrap64 (x7_2 + 1)) x8_2 (wrap64 (x9_2 + 1))))) else (none)) else (none)) = some r := by rw [if_pos rfl] at H; exact H
            clear H
            have H := H1
            clear H1
            by_cases c16 : 0 ≤ x9_2
            ·rw [if_pos c16] at H
             have c16b0 : decide (0 ≤ x9_2) = true := decide_eq_true c16
             clear c16
             by_cases c17 : x9_2 < (l1.length : Int)
             ·rw [if_pos c17] at H
              have c17b0 : decide (x9_2 < (l1.length : Int)) = true := decide_eq_true c17
              clear c17
              by_cases c18 : (rd l1 x9_2) < ji8
              ·rw [if_pos c18] at H
               have c18b0 : decide ((rd l1 x9_2) < ji8) = true := decide_eq_true c18
               clear c18
               have H' := Aside0.mk H
               clear H
               have p507 : 0 ≤ (x9_2 : Int) := of_decide_eq_true (as_)
               have q507 : x9_2 < (l1.length : Int) := of_decide_eq_true (as_)
               obtain ⟨ad507, e507, hx507_0⟩ := Kd.at_int HR1.out x9_2 p507 q507
               cases e507
               replace hx507_0 := (HB.out.cell (World.block_lt_of_cell? w _ hx507_0)).trans hx507_0
               replace p507 := eq_true p507
               replace q507 := eq_true q507
               go_wp2
               repeat (go_quiet (fail); try go_wp2)
               go_roundg kj10
               case measure => have := HJ2.out; have := HK2.out; have := HJ10.out; omega
               case rel => exact ⟨(wrap64 (x7_2 + 1)), (wrap64 (x8_2 + 1)), (wrap64 (x9_2 + 1)), (by first | rfl | (simp; done) | (simp [*]; done)), (by first | rfl | (simp; done) | (simp [*]; done)), (by first | rfl | (simp; done) | (simp [*]; done)), H', ⟨by have := HJ2.out; have := HK2.out; have := HJ10.out; omega⟩, ⟨hb0_ HB.out⟩⟩
              ·rw [if_neg c18] at H
               have c18b0 : decide ((rd l1 x9_2) < ji8) = false := decide_eq_false c18
               clear c18
               by_cases c19 : (rd l1 x9_2) > ji9
               ·rw [if_pos c19] at H
                have c19b0 : decide (ji9 < (rd l1 x9_2)) = true := decide_eq_true c19
                clear c19
                have H' := Aside0.mk H
                clear H
                have p507 : 0 ≤ (x9_2 : Int) := of_decide_eq_true (as_)
                have q507 : x9_2 < (l1.length : Int) := of_decide_eq_true (as_)
                obtain ⟨ad507, e507, hx507_0⟩ := Kd.at_int HR1.out x9_2 p507 q507
                cases e507
                replace hx507_0 := (HB.out.cell (World.block_lt_of_cell? w _ hx507_0)).trans hx507_0
                replace p507 := eq_true p507
                replace q507 := eq_true q507
                have p508 : 0 ≤ (x9_2 : Int) := of_decide_eq_true (as_)
                have q508 : x9_2 < (l1.length : Int) := of_decide_eq_true (as_)
                obtain ⟨ad508, e508, hx508_0⟩ := Kd.at_int HR1.out x9_2 p508 q508
                obtain rfl : ad507 = ad508 := (by injection e508)
                replace hx508_0 := (HB.out.cell (World.block_lt_of_cell? w _ hx508_0)).trans hx508_0
                replace p508 := eq_true p508
                replace q508 := eq_true q508
                go_wp2
                repeat (go_quiet (fail); try go_wp2)
                go_roundg kj10
                case measure => have := HJ2.out; have := HK2.out; have := HJ10.out; omega
                case rel => exact ⟨(wrap64 (x7_2 + 1)), (wrap64 (x8_2 + 1)), (wrap64 (x9_2 + 1)), (by first | rfl | (simp; done) | (simp [*]; done)), (by first | rfl | (simp; done) | (simp [*]; done)), (by first | rfl | (simp; done) | (simp [*]; done)), H', ⟨by have := HJ2.out; have := HK2.out; have := HJ10.out; omega⟩, ⟨hb0_ HB.out⟩⟩
               ·rw [if_neg c19] at H
                have c19b0 : decide (ji9 < (rd l1 x9_2)) = false := decide_eq_false c19
                clear c19
                have H' := Aside0.mk H
                clear H
                have p507 : 0 ≤ (x9_2 : Int) := of_decide_eq_true (as_)
                have q507 : x9_2 < (l1.length : Int) := of_decide_eq_true (as_)
                obtain ⟨ad507, e507, hx507_0⟩ := Kd.at_int HR1.out x9_2 p507 q507
                cases e507
                replace hx507_0 := (HB.out.cell (World.block_lt_of_cell? w _ hx507_0)).trans hx507_0
                replace p507 := eq_true p507
                replace q507 := eq_true q507
                have p508 : 0 ≤ (x9_2 : Int) := of_decide_eq_true (as_)
                have q508 : x9_2 < (l1.length : Int) := of_decide_eq_true (as_)
                obtain ⟨ad508, e508, hx508_0⟩ := Kd.at_int HR1.out x9_2 p508 q508
                obtain rfl : ad507 = ad508 := (by injection e508)
                replace hx508_0 := (HB.out.cell (World.block_lt_of_cell? w _ hx508_0)).trans hx508_0
                replace p508 := eq_true p508
                replace q508 := eq_true q508
                go_wp2
                repeat (go_quiet (fail); try go_wp2)
                go_roundg kj10
                case measure => have := HJ2.out; have := HK2.out; have := HJ10.out; omega
                case rel => exact ⟨(wrap64 (x7_2 + 1)), (x8_2), (wrap64 (x9_2 + 1)), (by first | rfl | (simp; done) | (simp [*]; done)), (by first | rfl | (simp; done) | (simp [*]; done)), (by first | rfl | (simp; done) | (simp [*]; done)), H', ⟨by have := HJ2.out; have := HK2.out; have := HJ10.out; omega⟩, ⟨hb0_ HB.out⟩⟩
             ·rw [if_neg c17] at H
              exact absurd H (by simp)
            ·rw [if_neg c16] at H
             exact absurd H (by simp)
           ·replace c15 := Bool.eq_false_iff.mpr c15
            subst c15
            have H1 : (if 0 ≤ x9_2 then (if x9_2 < (l1.length : Int) then (if (rd l1 x9_2) < ji8 then (spec_CrossPairs.l0 kj10 l1 ji8 ji9 x7_2 (wrap64 (x8_2 + 1)) (wrap64 (x9_2 + 1))) else (if (rd l1 x9_2) > ji9 then (spec_CrossPairs.l0 kj10 l1 ji8 ji9 x7_2 (wrap64 (x8_2 + 1)) (wrap64 (x9_2 + 1))) else (spec_CrossPairs.l0 kj10 l1 ji8 ji9 x7_2 x8_2 (wrap64 (x9_2 + 1))))) else (none)) else (none)) = some r := by rw [if_neg (show ¬ (false = true) by decide)] at H; exact H
            clear H
            have H := H1
            clear H1
            by_cases c20 : 0 ≤ x9_2
            ·rw [if_pos c20] at H
             have c20b0 : decide (0 ≤ x9_2) = true := decide_eq_true c20
             clear c20
             by_cases c21 : x9_2 < (l1.length : Int)
             ·rw [if_pos c21] at H
              have c21b0 : decide (x9_2 < (l1.length : Int)) = true := decide_eq_true c21
              clear c21
              by_cases c22 : (rd l1 x9_2) < ji8
              ·rw [if_pos c22] at H
               have c22b0 : decide ((rd l1 x9_2) < ji8) = true := decide_eq_true c22
               clear c22
               have H' := Aside0.mk H
               clear H
               have p509 : 0 ≤ (x9_2 : Int) := of_decide_eq_true (as_)
               have q509 : x9_2 < (l1.length : Int) := of_decide_eq_true (as_)
               obtain ⟨ad509, e509, hx509_0⟩ := Kd.at_int HR1.out x9_2 p509 q509
               cases e509
               replace hx509_0 := (HB.out.cell (World.block_lt_of_cell? w _ hx509_0)).trans hx509_0
               replace p509 := eq_true p509
               replace q509 := eq_true q509
               go_wp2
               repeat (go_quiet (fail); try go_wp2)
               go_roundg kj10
               case measure => have := HJ2.out; have := HK2.out; have := HJ10.out; omega
               case rel => exact ⟨(x7_2), (wrap64 (x8_2 + 1)), (wrap64 (x9_2 + 1)), (by first | rfl | (simp; done) | (simp [*]; done)), (by first | rfl | (simp; done) | (simp [*]; done)), (by first | rfl | (simp; done) | (simp [*]; done)), H', ⟨by have := HJ2.out; have := HK2.out; have := HJ10.out; omega⟩, ⟨hb0_ HB.out⟩⟩
              ·rw [if_neg c22] at H
               have c22b0 : decide ((rd l1 x9_2) < ji8) = false := decide_eq_false c22
               clear c22
               by_cases c23 : (rd l1 x9_2) > ji9
               ·rw [if_pos c23] at H
                have c23b0 : decide (ji9 < (rd l1 x9_2)) = true := decide_eq_true c23
                clear c23
                have H' := Aside0.mk H
                clear H
                have p509 : 0 ≤ (x9_2 : Int) := of_decide_eq_true (as_)
                have q509 : x9_2 < (l1.length : Int) := of_decide_eq_true (as_)
                obtain ⟨ad509, e509, hx509_0⟩ := Kd.at_int HR1.out x9_2 p509 q509
                cases e509
                replace hx509_0 := (HB.out.cell (World.block_lt_of_cell? w _ hx509_0)).trans hx509_0
                replace p509 := eq_true p509
                replace q509 := eq_true q509
                have p510 : 0 ≤ (x9_2 : Int) := of_decide_eq_true (as_)
                have q510 : x9_2 < (l1.length : Int) := of_decide_eq_true (as_)
                obtain ⟨ad510, e510, hx510_0⟩ := Kd.at_int HR1.out x9_2 p510 q510
                obtain rfl : ad509 = ad510 := (by injection e510)
                replace hx510_0 := (HB.out.cell (World.block_lt_of_cell? w _ hx510_0)).trans hx510_0
                replace p510 := eq_true p510
                replace q510 := eq_true q510
                go_wp2
                repeat (go_quiet (fail); try go_wp2)
                go_roundg kj10
                case measure => have := HJ2.out; have := HK2.out; have := HJ10.out; omega
                case rel => exact ⟨(x7_2), (wrap64 (x8_2 + 1)), (wrap64 (x9_2 + 1)), (by first | rfl | (simp; done) | (simp [*]; done)), (by first | rfl | (simp; done) | (simp [*]; done)), (by first | rfl | (simp; done) | (simp [*]; done)), H', ⟨by have := HJ2.out; have := HK2.out; have := HJ10.out; omega⟩, ⟨hb0_ HB.out⟩⟩
               ·rw [if_neg c23] at H
                have c23b0 : decide (ji9 < (rd l1 x9_2)) = false := decide_eq_false c23
                clear c23
                have H' := Aside0.mk H
                clear H
                have p509 : 0 ≤ (x9_2 : Int) := of_decide_eq_true (as_)
                have q509 : x9_2 < (l1.length : Int) := of_decide_eq_true (as_)
                obtain ⟨ad509, e509, hx509_0⟩ := Kd.at_int HR1.out x9_2 p509 q509
                cases e509
                replace hx509_0 := (HB.out.cell (World.block_lt_of_cell? w _ hx509_0)).trans hx509_0
                replace p509 := eq_true p509
                replace q509 := eq_true q509
                have p510 : 0 ≤ (x9_2 : Int) := of_decide_eq_true (as_)
                have q510 : x9_2 < (l1.length : Int) := of_decide_eq_true (as_)
                obtain ⟨ad510, e510, hx510_0⟩ := Kd.at_int HR1.out x9_2 p510 q510
                obtain rfl : ad509 = ad510 := (by injection e510)
                replace hx510_0 := (HB.out.cell (World.block_lt_of_cell? w _ hx510_0)).trans hx510_0
                replace p510 := eq_true p510
                replace q510 := eq_true q510
                go_wp2
                repeat (go_quiet (fail); try go_wp2)
                go_roundg kj10
                case measure => have := HJ2.out; have := HK2.out; have := HJ10.out; omega
                case rel => exact ⟨(x7_2), (x8_2), (wrap64 (x9_2 + 1)), (by first | rfl | (simp; done) | (simp [*]; done)), (by first | rfl | (simp; done) | (simp [*]; done)), (by first | rfl | (simp; done) | (simp [*]; done)), H', ⟨by have := HJ2.out; have := HK2.out; have := HJ10.out; omega⟩, ⟨hb0_ HB.out⟩⟩
             ·rw [if_neg c21] at H
              exact absurd H (by simp)
            ·rw [if_neg c20] at H
             exact absurd H (by simp)
        ·rw [if_neg c10] at H
         have c10b0 : decide (x9_2 < 2) = false := decide_eq_false c10
         clear c10
         by_cases c24 : x7_2 = 1
         ·rw [if_pos c24] at H
          have c24b0 : (x7_2 == 1) = true := beq_iff_eq.mpr c24
          have c24b1 : (x7_2 != 1) = false := bne_eq_false_iff_eq.mpr c24
          clear c24
          obtain rfl := Option.some.inj H
          go_wp2
          repeat (go_quiet (fail); try go_wp2)
          go_ret
          exact ⟨by first | rfl | (simp [errW_none, errW_some] <;> rfl) | (simp only [← hji8, ← hji9]; first | rfl | (simp [errW_none, errW_some] <;> rfl)) | (simp [*, errW_none, errW_some] <;> rfl), hb0_ HB.out⟩
         ·rw [if_neg c24] at H
          have c24b0 : (x7_2 == 1) = false := beq_eq_false_iff_ne.mpr c24
          have c24b1 : (x7_2 != 1) = true := bne_iff_ne.mpr c24
          obtain rfl := Option.some.inj H
          go_wp2
          repeat (go_quiet (fail); try go_wp2)
          go_ret
          exact ⟨by first | rfl | (simp [errW_none, errW_some] <;> rfl) | (simp only [← hji8, ← hji9]; first | rfl | (simp [errW_none, errW_some] <;> rfl)) | (simp [*, errW_none, errW_some] <;> rfl), hb0_ HB.out⟩
     ·rw [if_neg c7] at H
      exact absurd H (by simp)
    ·rw [if_neg c6] at H
     exact absurd H (by simp)

/-! ### impl_CrossPairs_1: function 68 (by hand) -/
set_option maxHeartbeats 1000000 in
theorem impl_CrossPairs_1.calls (B C : Nat) (lo hi x : Int) (w : World) (h0 : w.cell? ⟨B, 0, none⟩ = some (.int .i64 lo)) (h1 : w.cell? ⟨C, 0, none⟩ = some (.int .i64 hi)) :
  Calls Try.prog 68 #[.int .i64 x, .pointer (some ⟨B, 0, none⟩), .pointer (some ⟨C, 0, none⟩)] w fun e w' => e = .returned (.bool (decide (x > lo) && decide (x < hi))) ∧ w' = w := by
 by_cases c : lo < x
 ·by_cases d : x < hi
  all_goals
   go_enter Try.func68, Try.ntmps68
   go_wp2
   go_ret
   exact ⟨by simp <;> omega, rfl⟩
 ·go_enter Try.func68, Try.ntmps68
  go_wp2
  go_ret
  exact ⟨by simp <;> omega, rfl⟩
theorem impl_CrossPairs_1.callsb (B C : Nat) (lo hi x : Int) (b : Bool) (w : World) (hb : Aside0 ((decide (x > lo) && decide (x < hi)) = b)) (h0 : w.cell? ⟨B, 0, none⟩ = some (.int .i64 lo)) (h1 : w.cell? ⟨C, 0, none⟩ = some (.int .i64 hi)) :
  Calls Try.prog 68 #[.int .i64 x, .pointer (some ⟨B, 0, none⟩), .pointer (some ⟨C, 0, none⟩)] w fun e w' => e = .returned (.bool b) ∧ w' = w := by
 rw [← hb.out]
 exact impl_CrossPairs_1.calls B C lo hi x w h0 h1

/-! ### impl_CrossPairs_2: function 69 (by hand) -/
set_option maxHeartbeats 1000000 in
theorem impl_CrossPairs_2.calls (B C : Nat) (lo hi x : Int) (w : World) (h0 : w.cell? ⟨B, 0, none⟩ = some (.int .i64 lo)) (h1 : w.cell? ⟨C, 0, none⟩ = some (.int .i64 hi)) :
  Calls Try.prog 69 #[.int .i64 x, .pointer (some ⟨B, 0, none⟩), .pointer (some ⟨C, 0, none⟩)] w fun e w' => e = .returned (.bool (decide (x < lo) || decide (x > hi))) ∧ w' = w := by
 by_cases c : x < lo
 ·go_enter Try.func69, Try.ntmps69
  go_wp2
  go_ret
  exact ⟨by simp <;> omega, rfl⟩
 ·by_cases d : hi < x
  all_goals
   go_enter Try.func69, Try.ntmps69
   go_wp2
   go_ret
   exact ⟨by simp <;> omega, rfl⟩
theorem impl_CrossPairs_2.callsb (B C : Nat) (lo hi x : Int) (b : Bool) (w : World) (hb : Aside0 ((decide (x < lo) || decide (x > hi)) = b)) (h0 : w.cell? ⟨B, 0, none⟩ = some (.int .i64 lo)) (h1 : w.cell? ⟨C, 0, none⟩ = some (.int .i64 hi)) :
  Calls Try.prog 69 #[.int .i64 x, .pointer (some ⟨B, 0, none⟩), .pointer (some ⟨C, 0, none⟩)] w fun e w' => e = .returned (.bool b) ∧ w' = w := by
 rw [← hb.out]
 exact impl_CrossPairs_2.calls B C lo hi x w h0 h1

/-! ### impl_CrossPairs: function 52 (by hand) -/
theorem cell_two (w : World) (a b : Value) (t : TypeId) : ((w.alloc (.cells #[a] t)).alloc (.cells #[b] t)).drew.cell? ⟨w.heap.size, 0, none⟩ = some a ∧ ((w.alloc (.cells #[a] t)).alloc (.cells #[b] t)).drew.cell? ⟨w.heap.size + 1, 0, none⟩ = some b := by
 refine ⟨(blk_cell (blk_drew (blk_alloc (heap_alloc_new w _) _)) 0).trans rfl, ?_⟩
 have h := (blk_cell (blk_drew (heap_alloc_new (w.alloc (.cells #[a] t)) (.cells #[b] t))) 0).trans rfl
 have e : (w.alloc (.cells #[a] t)).heap.size = w.heap.size + 1 := by simp
 rw [e] at h
 exact h
theorem cell_old (w : World) (a b : Value) (t : TypeId) (ad : Addr) (v : Value) (h : w.cell? ad = some v) : ((w.alloc (.cells #[a] t)).alloc (.cells #[b] t)).cell? ad = some v :=
 pw_cell_below (below_alloc (below_alloc (Below.refl _ _) _) _) h
def crossB (lo hi x y : Int) : Bool := ((decide (x > lo) && decide (x < hi)) && (decide (y < lo) || decide (y > hi))) || ((decide (y > lo) && decide (y < hi)) && (decide (x < lo) || decide (x > hi)))
def impl_CrossPairs.f (l0 l1 : List Int) : Option Bool := if l0.length = 2 ∧ l1.length = 2 then some (crossB (mn (rd l0 0) (rd l0 1)) (mx (rd l0 0) (rd l0 1)) (rd l1 0) (rd l1 1)) else some false
set_option maxHeartbeats 4000000 in
set_option maxRecDepth 100000 in
theorem impl_CrossPairs.calls (A0 : Option Addr) (c0 : Nat) (l0 : List Int) (A1 : Option Addr) (c1 : Nat) (l1 : List Int) (r : Bool) (w : World) (hr0 : Kd.C (Kd.int .i64) w A0 l0.length l0) (hc0 : l0.length ≤ c0) (hr1 : Kd.C (Kd.int .i64) w A1 l1.length l1) (hc1 : l1.length ≤ c1) (h : impl_CrossPairs.f l0 l1 = some r) :
  Calls Try.prog 52 #[.slice A0 l0.length c0, .slice A1 l1.length c1] w fun e w' => e = .returned (.bool r) ∧ Below w.heap.size w w' := by
 have HB := Aside0.mk (Below.refl w.heap.size w)
 by_cases h0 : l0.length = 2
 ·by_cases h1 : l1.length = 2
  ·unfold impl_CrossPairs.f at h
   rw [if_pos ⟨h0, h1⟩] at h
   obtain ⟨ad0, e0, hx0⟩ := Kd.at_int hr0 0 (by omega) (by omega)
   obtain ⟨ad0', e0', hx1⟩ := Kd.at_int hr0 1 (by omega) (by omega)
   obtain ⟨ad1, e1, hy0⟩ := Kd.at_int hr1 0 (by omega) (by omega)
   obtain ⟨ad1', e1', hy1⟩ := Kd.at_int hr1 1 (by omega) (by omega)
   cases e0; cases e1; cases e0'; cases e1'
   clear hr0 hc0 hr1 hc1
   generalize rd l0 0 = p at *
   generalize rd l0 1 = q at *
   generalize rd l1 0 = x at *
   generalize rd l1 1 = y at *
   rw [h0, h1]
   clear h0 h1
   replace hx0 : w.cell? ad0 = some (.int .i64 p) := by simpa [Addr.add] using hx0
   replace hx1 : w.cell? ⟨ad0.block, ad0.off + 1, none⟩ = some (.int .i64 q) := by simpa [Addr.add] using hx1
   replace hy0 : w.cell? ad1 = some (.int .i64 x) := by simpa [Addr.add] using hy0
   replace hy1 : w.cell? ⟨ad1.block, ad1.off + 1, none⟩ = some (.int .i64 y) := by simpa [Addr.add] using hy1
   have hl0 : ad0.block < w.heap.size := World.block_lt_of_cell? w _ hx0
   have hl1 : ad1.block < w.heap.size := World.block_lt_of_cell? w _ hy0
   obtain ⟨lo, hlo⟩ : ∃ lo, lo = mn p q := ⟨_, rfl⟩
   obtain ⟨hi, hhi⟩ : ∃ hi, hi = mx p q := ⟨_, rfl⟩
   rw [← hlo, ← hhi] at h
   unfold mn at hlo
   unfold mx at hhi
   have HLO := Aside0.mk hlo
   have HHI := Aside0.mk hhi
   have HR := Aside0.mk h
   have HY0 := Aside0.mk hy0
   have HY1 := Aside0.mk hy1
   have eg1 : ∀ args w, (callFunc 68 args).run Try.prog w = .ok (.enter 68 args) w := enters_of Try.func68 (by kernel_rfl) rfl
   have eg2 : ∀ args w, (callFunc 69 args).run Try.prog w = .ok (.enter 69 args) w := enters_of Try.func69 (by kernel_rfl) rfl
   have EG1 := Aside0.mk eg1
   have EG2 := Aside0.mk eg2
   clear h hlo hhi eg1 eg2
   go_enter Try.func52, Try.ntmps52
   go_upto_region 3 with (fail)
   go_cut [5, 6] (fun v5 v6 wc => ∃ B C : Nat, v5 = .pointer (some ⟨B, 0, none⟩) ∧ v6 = .pointer (some ⟨C, 0, none⟩) ∧ Aside0 (wc.cell? ⟨B, 0, none⟩ = some (.int .i64 lo)) ∧ Aside0 (wc.cell? ⟨C, 0, none⟩ = some (.int .i64 hi)) ∧ Aside0 (wc.cell? ad1 = some (.int .i64 x)) ∧ Aside0 (wc.cell? ⟨ad1.block, ad1.off + 1, none⟩ = some (.int .i64 y)) ∧ Aside0 (Below w.heap.size w wc))
   case first =>
    go_region
    all_goals (go_wp2_with fail)
    all_goals
     go_meet
     case rel => exact ⟨_, _, rfl, rfl, ⟨by rw [HLO.out]; first | exact (cell_two w _ _ _).1 | exact (cell_two w _ _ _).2 | (split <;> first | exact (cell_two w _ _ _).1 | exact (cell_two w _ _ _).2 | (exfalso; omega))⟩, ⟨by rw [HHI.out]; first | exact (cell_two w _ _ _).1 | exact (cell_two w _ _ _).2 | (split <;> first | exact (cell_two w _ _ _).1 | exact (cell_two w _ _ _).2 | (exfalso; omega))⟩, ⟨cell_old w _ _ _ _ _ HY0.out⟩, ⟨cell_old w _ _ _ _ _ HY1.out⟩, ⟨below_drew (below_alloc (below_alloc HB.out _) _)⟩⟩
   case rest =>
    clear hx0 hx1 hy0 hy1 hl0 hl1 HY0 HY1 HLO HHI
    obtain ⟨B, C, rfl, rfl, H0, H1, Y0, Y1, HW⟩ := hcut
    have y0 := Y0.out
    have y1 := Y1.out
    have eg1 := EG1.out
    have eg2 := EG2.out
    replace HR := HR.out
    unfold crossB at HR
    clear Y0 Y1 EG1 EG2
    cases hb1 : (decide (x > lo) && decide (x < hi)) with
    | true =>
     cases hb4 : (decide (y < lo) || decide (y > hi)) with
     | true =>
      rw [hb1, hb4] at HR
      have HB1 := Aside0.mk hb1
      have HB4 := Aside0.mk hb4
      have HR2 := Aside0.mk HR
      clear HR hb1 hb4
      go_wp2_with (first | (go_at_call 68; (with_reducible refine (impl_CrossPairs_1.callsb _ _ lo hi x _ _ HB1 H0.out H1.out).mono ?_); rintro e w' ⟨rfl, rfl⟩) | (go_at_call 69; (with_reducible refine (impl_CrossPairs_2.callsb _ _ lo hi y _ _ HB4 H0.out H1.out).mono ?_); rintro e w' ⟨rfl, rfl⟩))
      go_ret
      exact ⟨by have z := Option.some.inj HR2.out; simp at z; rw [← z]; rfl, HW.out⟩
     | false =>
      cases hb2 : (decide (y > lo) && decide (y < hi)) with
      | true =>
       cases hb3 : (decide (x < lo) || decide (x > hi)) with
       | true =>
        rw [hb1, hb4, hb2, hb3] at HR
        have HB1 := Aside0.mk hb1
        have HB4 := Aside0.mk hb4
        have HB2 := Aside0.mk hb2
        have HB3 := Aside0.mk hb3
        have HR2 := Aside0.mk HR
        clear HR hb1 hb4 hb2 hb3
        go_wp2_with (first | (go_at_call 68; (with_reducible refine (impl_CrossPairs_1.callsb _ _ lo hi x _ _ HB1 H0.out H1.out).mono ?_); rintro e w' ⟨rfl, rfl⟩) | (go_at_call 68; (with_reducible refine (impl_CrossPairs_1.callsb _ _ lo hi y _ _ HB2 H0.out H1.out).mono ?_); rintro e w' ⟨rfl, rfl⟩) | (go_at_call 69; (with_reducible refine (impl_CrossPairs_2.callsb _ _ lo hi x _ _ HB3 H0.out H1.out).mono ?_); rintro e w' ⟨rfl, rfl⟩) | (go_at_call 69; (with_reducible refine (impl_CrossPairs_2.callsb _ _ lo hi y _ _ HB4 H0.out H1.out).mono ?_); rintro e w' ⟨rfl, rfl⟩))
        go_ret
        exact ⟨by have z := Option.some.inj HR2.out; simp at z; rw [← z]; rfl, HW.out⟩
       | false =>
        rw [hb1, hb4, hb2, hb3] at HR
        have HB1 := Aside0.mk hb1
        have HB4 := Aside0.mk hb4
        have HB2 := Aside0.mk hb2
        have HB3 := Aside0.mk hb3
        have HR2 := Aside0.mk HR
        clear HR hb1 hb4 hb2 hb3
        go_wp2_with (first | (go_at_call 68; (with_reducible refine (impl_CrossPairs_1.callsb _ _ lo hi x _ _ HB1 H0.out H1.out).mono ?_); rintro e w' ⟨rfl, rfl⟩) | (go_at_call 68; (with_reducible refine (impl_CrossPairs_1.callsb _ _ lo hi y _ _ HB2 H0.out H1.out).mono ?_); rintro e w' ⟨rfl, rfl⟩) | (go_at_call 69; (with_reducible refine (impl_CrossPairs_2.callsb _ _ lo hi x _ _ HB3 H0.out H1.out).mono ?_); rintro e w' ⟨rfl, rfl⟩) | (go_at_call 69; (with_reducible refine (impl_CrossPairs_2.callsb _ _ lo hi y _ _ HB4 H0.out H1.out).mono ?_); rintro e w' ⟨rfl, rfl⟩))
        go_ret
        exact ⟨by have z := Option.some.inj HR2.out; simp at z; rw [← z]; rfl, HW.out⟩
      | false =>
       rw [hb1, hb4, hb2] at HR
       have HB1 := Aside0.mk hb1
       have HB4 := Aside0.mk hb4
       have HB2 := Aside0.mk hb2
       have HR2 := Aside0.mk HR
       clear HR hb1 hb4 hb2
       go_wp2_with (first | (go_at_call 68; (with_reducible refine (impl_CrossPairs_1.callsb _ _ lo hi x _ _ HB1 H0.out H1.out).mono ?_); rintro e w' ⟨rfl, rfl⟩) | (go_at_call 68; (with_reducible refine (impl_CrossPairs_1.callsb _ _ lo hi y _ _ HB2 H0.out H1.out).mono ?_); rintro e w' ⟨rfl, rfl⟩) | (go_at_call 69; (with_reducible refine (impl_CrossPairs_2.callsb _ _ lo hi y _ _ HB4 H0.out H1.out).mono ?_); rintro e w' ⟨rfl, rfl⟩))
       go_ret
       exact ⟨by have z := Option.some.inj HR2.out; simp at z; rw [← z]; rfl, HW.out⟩
    | false =>
     cases hb2 : (decide (y > lo) && decide (y < hi)) with
     | true =>
      cases hb3 : (decide (x < lo) || decide (x > hi)) with
      | true =>
       rw [hb1, hb2, hb3] at HR
       have HB1 := Aside0.mk hb1
       have HB2 := Aside0.mk hb2
       have HB3 := Aside0.mk hb3
       have HR2 := Aside0.mk HR
       clear HR hb1 hb2 hb3
       go_wp2_with (first | (go_at_call 68; (with_reducible refine (impl_CrossPairs_1.callsb _ _ lo hi x _ _ HB1 H0.out H1.out).mono ?_); rintro e w' ⟨rfl, rfl⟩) | (go_at_call 68; (with_reducible refine (impl_CrossPairs_1.callsb _ _ lo hi y _ _ HB2 H0.out H1.out).mono ?_); rintro e w' ⟨rfl, rfl⟩) | (go_at_call 69; (with_reducible refine (impl_CrossPairs_2.callsb _ _ lo hi x _ _ HB3 H0.out H1.out).mono ?_); rintro e w' ⟨rfl, rfl⟩))
       go_ret
       exact ⟨by have z := Option.some.inj HR2.out; simp at z; rw [← z]; rfl, HW.out⟩
      | false =>
       rw [hb1, hb2, hb3] at HR
       have HB1 := Aside0.mk hb1
       have HB2 := Aside0.mk hb2
       have HB3 := Aside0.mk hb3
       have HR2 := Aside0.mk HR
       clear HR hb1 hb2 hb3
       go_wp2_with (first | (go_at_call 68; (with_reducible refine (impl_CrossPairs_1.callsb _ _ lo hi x _ _ HB1 H0.out H1.out).mono ?_); rintro e w' ⟨rfl, rfl⟩) | (go_at_call 68; (with_reducible refine (impl_CrossPairs_1.callsb _ _ lo hi y _ _ HB2 H0.out H1.out).mono ?_); rintro e w' ⟨rfl, rfl⟩) | (go_at_call 69; (with_reducible refine (impl_CrossPairs_2.callsb _ _ lo hi x _ _ HB3 H0.out H1.out).mono ?_); rintro e w' ⟨rfl, rfl⟩))
       go_ret
       exact ⟨by have z := Option.some.inj HR2.out; simp at z; rw [← z]; rfl, HW.out⟩
     | false =>
      rw [hb1, hb2] at HR
      have HB1 := Aside0.mk hb1
      have HB2 := Aside0.mk hb2
      have HR2 := Aside0.mk HR
      clear HR hb1 hb2
      go_wp2_with (first | (go_at_call 68; (with_reducible refine (impl_CrossPairs_1.callsb _ _ lo hi x _ _ HB1 H0.out H1.out).mono ?_); rintro e w' ⟨rfl, rfl⟩) | (go_at_call 68; (with_reducible refine (impl_CrossPairs_1.callsb _ _ lo hi y _ _ HB2 H0.out H1.out).mono ?_); rintro e w' ⟨rfl, rfl⟩))
      go_ret
      exact ⟨by have z := Option.some.inj HR2.out; simp at z; rw [← z]; rfl, HW.out⟩
  ·unfold impl_CrossPairs.f at h
   rw [if_neg (fun z => h1 z.2)] at h
   obtain rfl := Option.some.inj h
   clear h hr0 hc0 hr1 hc1
   have c1 : ((l1.length : Int) != 2) = true := by simp; omega
   have c2 : ((l0.length : Int) != 2) = false := by simp; omega
   go_enter Try.func52, Try.ntmps52
   go_wp2
   go_ret
   exact ⟨rfl, HB.out⟩
 ·unfold impl_CrossPairs.f at h
  rw [if_neg (fun z => h0 z.1)] at h
  obtain rfl := Option.some.inj h
  clear h hr0 hc0 hr1 hc1
  have c1 : ((l0.length : Int) != 2) = true := by simp; omega
  go_enter Try.func52, Try.ntmps52
  go_wp2
  go_ret
  exact ⟨rfl, HB.out⟩

end Go.Proofs.Ytkkjlbpffcdlfaa.X
