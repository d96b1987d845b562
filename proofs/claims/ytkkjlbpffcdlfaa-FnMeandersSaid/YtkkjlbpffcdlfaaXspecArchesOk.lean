-- Written by a program of this session (xprint.py), out of the translation and of hand-written contracts. Lean checks it.
import Derived.Test.YtkkjlbpffcdlfaaX0
import Derived.Test.YtkkjlbpffcdlfaaXccross
import Derived.Test.YtkkjlbpffcdlfaaXcgrid
namespace Go.Proofs.Ytkkjlbpffcdlfaa.X
open Go.RowKit Go.Proofs.YtkkjlbpffcdlfaaW.PrintWords Go.Proofs.YtkkjlbpffcdlfaaW.PrintLast Go.Proofs.YtkkjlbpffcdlfaaW.PrintMore
attribute [local go_sem] max2_int min2_int max_two min_two max_three min_three max_four min_four   -- for this text's walks alone
set_option linter.unusedVariables false
set_option linter.unusedSimpArgs false

/-! ### spec_ArchesOk: function 43 -/
mutual
def spec_ArchesOk.j0 : Nat → List Int → Int → Bool → Option (Bool)
 | 0, _, _, _ => none
 | k + 1, x0, x3, x17 => if x17 = true then (some false) else (spec_ArchesOk.l0 k x0 x3 0)
def spec_ArchesOk.l0 : Nat → List Int → Int → Int → Option (Bool)
 | 0, _, _, _ => none
 | k + 1, x0, x3, x4 => if x4 < x3 then (if 0 ≤ x4 then (if x4 < (x0.length : Int) then ((spec_l01In.f (rd x0 x4) 0 (wrap64 (x3 - 1))).bind fun t503 => (if t503 = true then (if (rd x0 x4) = x4 then (some false) else (if 0 ≤ (rd x0 x4) then (if (rd x0 x4) < (x0.length : Int) then (if (rd x0 (rd x0 x4)) = x4 then (spec_ArchesOk.l0 k x0 x3 (wrap64 (x4 + 1))) else (some false)) else (none)) else (none))) else (some false))) else (none)) else (none)) else (spec_ArchesOk.l1 k x0 x3 0)
def spec_ArchesOk.l1 : Nat → List Int → Int → Int → Option (Bool)
 | 0, _, _, _ => none
 | k + 1, x0, x3, x5 => if x5 < x3 then (spec_ArchesOk.l2 k x0 x3 x5 0) else (some true)
def spec_ArchesOk.l2 : Nat → List Int → Int → Int → Int → Option (Bool)
 | 0, _, _, _, _ => none
 | k + 1, x0, x3, x5, x6 => if x6 < x5 then (if 0 ≤ x5 then (if x5 < (x0.length : Int) then (if 0 ≤ x6 then (if x6 < (x0.length : Int) then ((spec_CrossPairs.f k (([x5, rd x0 x5] : List Int)) (([x6, rd x0 x6] : List Int))).bind fun t515 => (if t515 = true then (some false) else (spec_ArchesOk.l2 k x0 x3 x5 (wrap64 (x6 + 1))))) else (none)) else (none)) else (none)) else (none)) else (spec_ArchesOk.l1 k x0 x3 (wrap64 (x5 + 1)))
end
def spec_ArchesOk.f (k : Nat) (l0 : List Int) : Option (Bool) := if ((l0.length : Int) % 2) = 0 then ((spec_l01In.f (wrap64 ((l0.length : Int) / 2)) 1 5).bind fun t501 => (spec_ArchesOk.j0 k l0 (l0.length : Int) (!t501))) else (spec_ArchesOk.j0 k l0 (l0.length : Int) true)
theorem spec_ArchesOk.mono_l : ∀ k, (∀ y0 y1 y2, LeO (spec_ArchesOk.j0 k y0 y1 y2) (spec_ArchesOk.j0 (k + 1) y0 y1 y2)) ∧ (∀ y0 y1 y2, LeO (spec_ArchesOk.l0 k y0 y1 y2) (spec_ArchesOk.l0 (k + 1) y0 y1 y2)) ∧ (∀ y0 y1 y2, LeO (spec_ArchesOk.l1 k y0 y1 y2) (spec_ArchesOk.l1 (k + 1) y0 y1 y2)) ∧ (∀ y0 y1 y2 y3, LeO (spec_ArchesOk.l2 k y0 y1 y2 y3) (spec_ArchesOk.l2 (k + 1) y0 y1 y2 y3))
 | 0 => ⟨fun _ _ _ r h => by simp [spec_ArchesOk.j0] at h, fun _ _ _ r h => by simp [spec_ArchesOk.l0] at h, fun _ _ _ r h => by simp [spec_ArchesOk.l1] at h, fun _ _ _ _ r h => by simp [spec_ArchesOk.l2] at h⟩
 | k + 1 => by
  obtain ⟨ih0, ih1, ih2, ih3⟩ := spec_ArchesOk.mono_l k
  refine ⟨?_, ?_, ?_, ?_⟩
  ·intro y0 y1 y2
   unfold spec_ArchesOk.j0
   repeat' first
   | (with_reducible exact ih0 ..)
   | (with_reducible exact ih1 ..)
   | (with_reducible exact ih2 ..)
   | (with_reducible exact ih3 ..)
   | (with_reducible exact spec_CrossPairs.mono ..)
   | (with_reducible first | exact lr_ _ | exact ln_ _ | refine li_ ?_ ?_ | refine lb_ ?_ fun _ => ?_)
   | exact ih0 ..
   | exact ih1 ..
   | exact ih2 ..
   | exact ih3 ..
   | exact spec_CrossPairs.mono ..
   | exact ln_ _ | refine li_ ?_ ?_ | refine lb_ ?_ fun _ => ?_
  ·intro y0 y1 y2
   unfold spec_ArchesOk.l0
   repeat' first
   | (with_reducible exact ih0 ..)
   | (with_reducible exact ih1 ..)
   | (with_reducible exact ih2 ..)
   | (with_reducible exact ih3 ..)
   | (with_reducible exact spec_CrossPairs.mono ..)
   | (with_reducible first | exact lr_ _ | exact ln_ _ | refine li_ ?_ ?_ | refine lb_ ?_ fun _ => ?_)
   | exact ih0 ..
   | exact ih1 ..
   | exact ih2 ..
   | exact ih3 ..
   | exact spec_CrossPairs.mono ..
   | exact ln_ _ | refine li_ ?_ ?_ | refine lb_ ?_ fun _ => ?_
  ·intro y0 y1 y2
   unfold spec_ArchesOk.l1
   repeat' first
   | (with_reducible exact ih0 ..)
   | (with_reducible exact ih1 ..)
   | (with_reducible exact ih2 ..)
   | (with_reducible exact ih3 ..)
   | (with_reducible exact spec_CrossPairs.mono ..)
   | (with_reducible first | exact lr_ _ | exact ln_ _ | refine li_ ?_ ?_ | refine lb_ ?_ fun _ => ?_)
   | exact ih0 ..
   | exact ih1 ..
   | exact ih2 ..
   | exact ih3 ..
   | exact spec_CrossPairs.mono ..
   | exact ln_ _ | refine li_ ?_ ?_ | refine lb_ ?_ fun _ => ?_
  ·intro y0 y1 y2 y3
   unfold spec_ArchesOk.l2
   repeat' first
   | (with_reducible exact ih0 ..)
   | (with_reducible exact ih1 ..)
   | (with_reducible exact ih2 ..)
   | (with_reducible exact ih3 ..)
   | (with_reducible exact spec_CrossPairs.mono ..)
   | (with_reducible first | exact lr_ _ | exact ln_ _ | refine li_ ?_ ?_ | refine lb_ ?_ fun _ => ?_)
   | exact ih0 ..
   | exact ih1 ..
   | exact ih2 ..
   | exact ih3 ..
   | exact spec_CrossPairs.mono ..
   | exact ln_ _ | refine li_ ?_ ?_ | refine lb_ ?_ fun _ => ?_
theorem spec_ArchesOk.mono : ∀ a0 k, LeO (spec_ArchesOk.f k a0) (spec_ArchesOk.f (k + 1) a0) := by
 intro a0 k
 obtain ⟨ih0, ih1, ih2, ih3⟩ := spec_ArchesOk.mono_l k
 unfold spec_ArchesOk.f
 repeat' first
   | (with_reducible exact ih0 ..)
   | (with_reducible exact ih1 ..)
   | (with_reducible exact ih2 ..)
   | (with_reducible exact ih3 ..)
   | (with_reducible exact spec_CrossPairs.mono ..)
   | (with_reducible first | exact lr_ _ | exact ln_ _ | refine li_ ?_ ?_ | refine lb_ ?_ fun _ => ?_)
   | exact ih0 ..
   | exact ih1 ..
   | exact ih2 ..
   | exact ih3 ..
   | exact spec_CrossPairs.mono ..
   | exact ln_ _ | refine li_ ?_ ?_ | refine lb_ ?_ fun _ => ?_
def spec_ArchesOk.T15 : Bool × List (List Nat × List Nat) := (true, [([], []), ([], []), ([], []), ([1, 2], [1, 2]), ([3], [3]), ([0, 4], [0, 4]), ([], []), ([], []), ([], []), ([7, 8], [7, 8]), ([9], [9]), ([6, 10], [6, 10]), ([5, 11], [5, 11])])
def spec_ArchesOk.B15 : List Nat := [0, 0, 0, 6, 14, 31, 0, 0, 0, 384, 896, 1984, 4095]
theorem spec_ArchesOk.tab15 : rtab .any (opsOf Try.f43 15) = spec_ArchesOk.T15 := by kernel_rfl
theorem spec_ArchesOk.bits15 : waitsOk spec_ArchesOk.T15.2 spec_ArchesOk.B15 = true := by kernel_rfl
set_option maxHeartbeats 8000000 in
set_option maxRecDepth 100000 in
theorem spec_ArchesOk.calls (k : Nat) (A0 : Option Addr) (c0 : Nat) (l0 : List Int) (r : Bool) (w : World) (hr0 : Kd.C (Kd.int .i64) w A0 l0.length l0) (hc0 : l0.length ≤ c0) (h : spec_ArchesOk.f k l0 = some r) :
  Calls Try.prog 43 #[.slice A0 l0.length c0] w fun e w' => e = .returned (.bool r) ∧ Below w.heap.size w w' := by
 have HR0 := Aside0.mk hr0
 have HC0 := Aside0.mk hc0
 clear hr0 hc0
 have HB := Aside0.mk (Below.refl w.heap.size w)
 have H : (if ((l0.length : Int) % 2) = 0 then ((spec_l01In.f (wrap64 ((l0.length : Int) / 2)) 1 5).bind fun t501 => (spec_ArchesOk.j0 k l0 (l0.length : Int) (!t501))) else (spec_ArchesOk.j0 k l0 (l0.length : Int) true)) = some r := h
 clear h
 have HC2 := Aside0.mk H
 clear H
 go_enter Try.func43, Try.ntmps43
 go_upto_region 2 with (fail)
 go_cut [17] (fun v17 wc => ∃ (kq : Nat) (x17_1 : Bool), v17 = .bool x17_1 ∧ Aside0 (spec_ArchesOk.j0 kq l0 (l0.length : Int) x17_1 = some r) ∧ Aside0 (kq ≤ k) ∧ Aside0 (Below w.heap.size w wc))
 case first =>
  have H := HC2.out
  clear HC2
  by_cases c3 : ((l0.length : Int) % 2) = 0
  ·rw [if_pos c3] at H
   have c3b0 : (((l0.length : Int) % 2) == 0) = true := beq_iff_eq.mpr c3
   have c3b1 : (((l0.length : Int) % 2) != 0) = false := bne_eq_false_iff_eq.mpr c3
   clear c3
   (first | rw [c3b0] | (simp only [i64_w, i32_w]; rw [c3b0]) | skip)
   replace H := Option.bind_eq_some_iff.mp H
   obtain ⟨t501, A40, H⟩ := H
   replace H : (spec_ArchesOk.j0 k l0 (l0.length : Int) (!t501)) = some r := H
   have A4 := Aside0.mk A40
   clear A40
   have H' := Aside0.mk H
   clear H
   go_wp2_with (first | (go_at_call 28; (with_reducible refine (spec_l01In.calls (wrap64 ((l0.length : Int) / 2)) 1 5 t501 _ A4.out).mono ?_); rintro e w' ⟨rfl, ⟨nd, rfl⟩⟩))
   go_meet
   case rel => exact ⟨_, (!t501), (by first | rfl | (simp; done) | (simp [*]; done)), H', ⟨by first | omega | exact Nat.le_refl _⟩, ⟨hb0_ HB.out⟩⟩
  ·rw [if_neg c3] at H
   have c3b0 : (((l0.length : Int) % 2) == 0) = false := beq_eq_false_iff_ne.mpr c3
   have c3b1 : (((l0.length : Int) % 2) != 0) = true := bne_iff_ne.mpr c3
   (first | rw [c3b0] | (simp only [i64_w, i32_w]; rw [c3b0]) | skip)
   have H' := Aside0.mk H
   clear H
   go_wp2
   go_meet
   case rel => exact ⟨_, (true), (by first | rfl | (simp; done) | (simp [*]; done)), H', ⟨by first | omega | exact Nat.le_refl _⟩, ⟨hb0_ HB.out⟩⟩
 case rest =>
  clear HC2
  try clear p2
  try clear c3
  try clear c3b0
  try clear c3b1
  try clear c4
  obtain ⟨kq, x17_1, rfl, HA, HJ1, HB⟩ := hcut
  cases kq with
  | zero => exact absurd HA.out (by simp [spec_ArchesOk.j0])
  | succ kj1 =>
   have H := HA.out
   clear HA
   simp only [spec_ArchesOk.j0] at H
   by_cases c5 : x17_1 = true
   ·subst c5
    have H1 : (some false) = some r := by rw [if_pos rfl] at H; exact H
    clear H
    have H := H1
    clear H1
    obtain rfl := Option.some.inj H
    go_wp2
    go_ret
    exact ⟨ex_, hb0_ HB.out⟩
   ·replace c5 := Bool.eq_false_iff.mpr c5
    subst c5
    have H1 : (spec_ArchesOk.l0 kj1 l0 (l0.length : Int) 0) = some r := by rw [if_neg (show ¬ (false = true) by decide)] at H; exact H
    clear H
    have H := H1
    clear H1
    have H' := Aside0.mk H
    clear H
    go_wp2
    go_loopg [4] kj1 (fun kq v4 w' => ∃ (x4_2 : Int), v4 = .int .i64 x4_2 ∧ Aside0 (spec_ArchesOk.l0 kq l0 (l0.length : Int) x4_2 = some r) ∧ Aside0 (kq ≤ kj1) ∧ Aside0 (Below w.heap.size w w'))
    case atStart => exact ⟨(0), (by first | rfl | (simp; done) | (simp [*]; done)), H', ⟨Nat.le_refl _⟩, ⟨hb0_ HB.out⟩⟩
    case round =>
     clear H'
     try clear p2
     try clear c3
     try clear c3b0
     try clear c3b1
     try clear c4
     try clear c5
     try clear p2
     obtain ⟨x4_2, rfl, HA, HK2, HB⟩ := hrel
     cases gk with
     | zero => exact absurd HA.out (by simp [spec_ArchesOk.l0])
     | succ k2 =>
      have H := HA.out
      clear HA
      simp only [spec_ArchesOk.l0] at H
      by_cases c6 : x4_2 < (l0.length : Int)
      ·rw [if_pos c6] at H
       have c6b0 : decide (x4_2 < (l0.length : Int)) = true := decide_eq_true c6
       clear c6
       by_cases c7 : 0 ≤ x4_2
       ·rw [if_pos c7] at H
        have c7b0 : decide (0 ≤ x4_2) = true := decide_eq_true c7
        clear c7
        by_cases c8 : x4_2 < (l0.length : Int)
        ·rw [if_pos c8] at H
         have c8b0 : decide (x4_2 < (l0.length : Int)) = true := decide_eq_true c8
         clear c8
         replace H := Option.bind_eq_some_iff.mp H
         obtain ⟨t503, A90, H⟩ := H
         replace H : (if t503 = true then (if (rd l0 x4_2) = x4_2 then (some false) else (if 0 ≤ (rd l0 x4_2) then (if (rd l0 x4_2) < (l0.length : Int) then (if (rd l0 (rd l0 x4_2)) = x4_2 then (spec_ArchesOk.l0 k2 l0 (l0.length : Int) (wrap64 (x4_2 + 1))) else (some false)) else (none)) else (none))) else (some false)) = some r := H
         have A9 := Aside0.mk A90
         clear A90
         by_cases c10 : t503 = true
         ·subst c10
          have H1 : (if (rd l0 x4_2) = x4_2 then (some false) else (if 0 ≤ (rd l0 x4_2) then (if (rd l0 x4_2) < (l0.length : Int) then (if (rd l0 (rd l0 x4_2)) = x4_2 then (spec_ArchesOk.l0 k2 l0 (l0.length : Int) (wrap64 (x4_2 + 1))) else (some false)) else (none)) else (none))) = some r := by rw [if_pos rfl] at H; exact H
          clear H
          have H := H1
          clear H1
          by_cases c11 : (rd l0 x4_2) = x4_2
          ·rw [if_pos c11] at H
           have c11b0 : ((rd l0 x4_2) == x4_2) = true := beq_iff_eq.mpr c11
           have c11b1 : ((rd l0 x4_2) != x4_2) = false := bne_eq_false_iff_eq.mpr c11
           clear c11
           obtain rfl := Option.some.inj H
           have p502 : 0 ≤ (x4_2 : Int) := of_decide_eq_true (as_)
           have q502 : x4_2 < (l0.length : Int) := of_decide_eq_true (as_)
           obtain ⟨ad502, e502, hx502_0⟩ := Kd.at_int HR0.out x4_2 p502 q502
           cases e502
           replace hx502_0 := (HB.out.cell (World.block_lt_of_cell? w _ hx502_0)).trans hx502_0
           replace p502 := eq_true p502
           replace q502 := eq_true q502
           go_wp2_with (first | (refine gl_ 29 Try.func28 #[.int .i64 (rd l0 x4_2), .int .i64 0, .int .i64 (wrap64 ((l0.length : Int) - 1))] ?_; (with_reducible refine (spec_l01In.calls (rd l0 x4_2) 0 (wrap64 ((l0.length : Int) - 1)) true _ A9.out).mono ?_); rintro e w' ⟨rfl, ⟨nd, rfl⟩⟩; refine ⟨_, rfl, ?_⟩; have p504 : 0 ≤ (x4_2 : Int) := of_decide_eq_true (as_); have q504 : x4_2 < (l0.length : Int) := of_decide_eq_true (as_); obtain ⟨ad504, e504, hx504_0⟩ := Kd.at_int HR0.out x4_2 p504 q504; obtain rfl : ad502 = ad504 := (by injection e504); replace hx504_0 := (HB.out.cell (World.block_lt_of_cell? w _ hx504_0)).trans hx504_0; replace p504 := eq_true p504; replace q504 := eq_true q504))
           go_ret
           exact ⟨ex_, hb0_ HB.out⟩
          ·rw [if_neg c11] at H
           have c11b0 : ((rd l0 x4_2) == x4_2) = false := beq_eq_false_iff_ne.mpr c11
           have c11b1 : ((rd l0 x4_2) != x4_2) = true := bne_iff_ne.mpr c11
           by_cases c12 : 0 ≤ (rd l0 x4_2)
           ·rw [if_pos c12] at H
            have c12b0 : decide (0 ≤ (rd l0 x4_2)) = true := decide_eq_true c12
            clear c12
            by_cases c13 : (rd l0 x4_2) < (l0.length : Int)
            ·rw [if_pos c13] at H
             have c13b0 : decide ((rd l0 x4_2) < (l0.length : Int)) = true := decide_eq_true c13
             clear c13
             by_cases c14 : (rd l0 (rd l0 x4_2)) = x4_2
             ·rw [if_pos c14] at H
              have c14b0 : ((rd l0 (rd l0 x4_2)) == x4_2) = true := beq_iff_eq.mpr c14
              have c14b1 : ((rd l0 (rd l0 x4_2)) != x4_2) = false := bne_eq_false_iff_eq.mpr c14
              clear c14
              have H' := Aside0.mk H
              clear H
              have p502 : 0 ≤ (x4_2 : Int) := of_decide_eq_true (as_)
              have q502 : x4_2 < (l0.length : Int) := of_decide_eq_true (as_)
              obtain ⟨ad502, e502, hx502_0⟩ := Kd.at_int HR0.out x4_2 p502 q502
              cases e502
              replace hx502_0 := (HB.out.cell (World.block_lt_of_cell? w _ hx502_0)).trans hx502_0
              replace p502 := eq_true p502
              replace q502 := eq_true q502
              go_wp2_with (first | (refine gl_ 29 Try.func28 #[.int .i64 (rd l0 x4_2), .int .i64 0, .int .i64 (wrap64 ((l0.length : Int) - 1))] ?_; (with_reducible refine (spec_l01In.calls (rd l0 x4_2) 0 (wrap64 ((l0.length : Int) - 1)) true _ A9.out).mono ?_); rintro e w' ⟨rfl, ⟨nd, rfl⟩⟩; refine ⟨_, rfl, ?_⟩; have p504 : 0 ≤ (x4_2 : Int) := of_decide_eq_true (as_); have q504 : x4_2 < (l0.length : Int) := of_decide_eq_true (as_); obtain ⟨ad504, e504, hx504_0⟩ := Kd.at_int HR0.out x4_2 p504 q504; obtain rfl : ad502 = ad504 := (by injection e504); replace hx504_0 := (HB.out.cell (World.block_lt_of_cell? w _ hx504_0)).trans hx504_0; replace p504 := eq_true p504; replace q504 := eq_true q504; have p505 : 0 ≤ (x4_2 : Int) := of_decide_eq_true (as_); have q505 : x4_2 < (l0.length : Int) := of_decide_eq_true (as_); obtain ⟨ad505, e505, hx505_0⟩ := Kd.at_int HR0.out x4_2 p505 q505; obtain rfl : ad502 = ad505 := (by injection e505); replace hx505_0 := (HB.out.cell (World.block_lt_of_cell? w _ hx505_0)).trans hx505_0; replace p505 := eq_true p505; replace q505 := eq_true q505; have p506 : 0 ≤ ((rd l0 x4_2) : Int) := of_decide_eq_true (as_); have q506 : (rd l0 x4_2) < (l0.length : Int) := of_decide_eq_true (as_); obtain ⟨ad506, e506, hx506_0⟩ := Kd.at_int HR0.out (rd l0 x4_2) p506 q506; obtain rfl : ad502 = ad506 := (by injection e506); replace hx506_0 := (HB.out.cell (World.block_lt_of_cell? w _ hx506_0)).trans hx506_0; replace p506 := eq_true p506; replace q506 := eq_true q506))
              go_roundg k2
              case measure => have := HJ1.out; have := HK2.out; omega
              case rel => exact ⟨(wrap64 (x4_2 + 1)), (by first | rfl | (simp; done) | (simp [*]; done)), H', ⟨by have := HJ1.out; have := HK2.out; omega⟩, ⟨hb0_ HB.out⟩⟩
             ·rw [if_neg c14] at H
              have c14b0 : ((rd l0 (rd l0 x4_2)) == x4_2) = false := beq_eq_false_iff_ne.mpr c14
              have c14b1 : ((rd l0 (rd l0 x4_2)) != x4_2) = true := bne_iff_ne.mpr c14
              obtain rfl := Option.some.inj H
              have p502 : 0 ≤ (x4_2 : Int) := of_decide_eq_true (as_)
              have q502 : x4_2 < (l0.length : Int) := of_decide_eq_true (as_)
              obtain ⟨ad502, e502, hx502_0⟩ := Kd.at_int HR0.out x4_2 p502 q502
              cases e502
              replace hx502_0 := (HB.out.cell (World.block_lt_of_cell? w _ hx502_0)).trans hx502_0
              replace p502 := eq_true p502
              replace q502 := eq_true q502
              go_wp2_with (first | (refine gl_ 29 Try.func28 #[.int .i64 (rd l0 x4_2), .int .i64 0, .int .i64 (wrap64 ((l0.length : Int) - 1))] ?_; (with_reducible refine (spec_l01In.calls (rd l0 x4_2) 0 (wrap64 ((l0.length : Int) - 1)) true _ A9.out).mono ?_); rintro e w' ⟨rfl, ⟨nd, rfl⟩⟩; refine ⟨_, rfl, ?_⟩; have p504 : 0 ≤ (x4_2 : Int) := of_decide_eq_true (as_); have q504 : x4_2 < (l0.length : Int) := of_decide_eq_true (as_); obtain ⟨ad504, e504, hx504_0⟩ := Kd.at_int HR0.out x4_2 p504 q504; obtain rfl : ad502 = ad504 := (by injection e504); replace hx504_0 := (HB.out.cell (World.block_lt_of_cell? w _ hx504_0)).trans hx504_0; replace p504 := eq_true p504; replace q504 := eq_true q504; have p505 : 0 ≤ (x4_2 : Int) := of_decide_eq_true (as_); have q505 : x4_2 < (l0.length : Int) := of_decide_eq_true (as_); obtain ⟨ad505, e505, hx505_0⟩ := Kd.at_int HR0.out x4_2 p505 q505; obtain rfl : ad502 = ad505 := (by injection e505); replace hx505_0 := (HB.out.cell (World.block_lt_of_cell? w _ hx505_0)).trans hx505_0; replace p505 := eq_true p505; replace q505 := eq_true q505; have p506 : 0 ≤ ((rd l0 x4_2) : Int) := of_decide_eq_true (as_); have q506 : (rd l0 x4_2) < (l0.length : Int) := of_decide_eq_true (as_); obtain ⟨ad506, e506, hx506_0⟩ := Kd.at_int HR0.out (rd l0 x4_2) p506 q506; obtain rfl : ad502 = ad506 := (by injection e506); replace hx506_0 := (HB.out.cell (World.block_lt_of_cell? w _ hx506_0)).trans hx506_0; replace p506 := eq_true p506; replace q506 := eq_true q506))
              go_ret
              exact ⟨ex_, hb0_ HB.out⟩
            ·rw [if_neg c13] at H
             exact absurd H (by simp)
           ·rw [if_neg c12] at H
            exact absurd H (by simp)
         ·replace c10 := Bool.eq_false_iff.mpr c10
          subst c10
          have H1 : (some false) = some r := by rw [if_neg (show ¬ (false = true) by decide)] at H; exact H
          clear H
          have H := H1
          clear H1
          obtain rfl := Option.some.inj H
          have p502 : 0 ≤ (x4_2 : Int) := of_decide_eq_true (as_)
          have q502 : x4_2 < (l0.length : Int) := of_decide_eq_true (as_)
          obtain ⟨ad502, e502, hx502_0⟩ := Kd.at_int HR0.out x4_2 p502 q502
          cases e502
          replace hx502_0 := (HB.out.cell (World.block_lt_of_cell? w _ hx502_0)).trans hx502_0
          replace p502 := eq_true p502
          replace q502 := eq_true q502
          go_wp2_with (first | (refine gl_ 29 Try.func28 #[.int .i64 (rd l0 x4_2), .int .i64 0, .int .i64 (wrap64 ((l0.length : Int) - 1))] ?_; (with_reducible refine (spec_l01In.calls (rd l0 x4_2) 0 (wrap64 ((l0.length : Int) - 1)) false _ A9.out).mono ?_); rintro e w' ⟨rfl, ⟨nd, rfl⟩⟩; refine ⟨_, rfl, ?_⟩))
          go_ret
          exact ⟨ex_, hb0_ HB.out⟩
        ·rw [if_neg c8] at H
         exact absurd H (by simp)
       ·rw [if_neg c7] at H
        exact absurd H (by simp)
      ·rw [if_neg c6] at H
       have c6b0 : decide (x4_2 < (l0.length : Int)) = false := decide_eq_false c6
       clear c6
       have H' := Aside0.mk H
       clear H
       go_wp2
       go_loopg [5] k2 (fun kq v5 w' => ∃ (x5_3 : Int), v5 = .int .i64 x5_3 ∧ Aside0 (spec_ArchesOk.l1 kq l0 (l0.length : Int) x5_3 = some r) ∧ Aside0 (kq ≤ k2) ∧ Aside0 (Below w.heap.size w w'))
       case atStart => exact ⟨(0), (by first | rfl | (simp; done) | (simp [*]; done)), H', ⟨Nat.le_refl _⟩, ⟨hb0_ HB.out⟩⟩
       case round =>
        clear H'
        try clear c1
        try clear c2
        try clear p2
        try clear c3
        try clear c3b0
        try clear c3b1
        try clear c4
        try clear c5
        try clear p5
        try clear q5
        try clear hx5
        try clear c6
        try clear c6b0
        try clear p6
        try clear c7
        try clear c7b0
        try clear c8
        try clear c8b0
        try clear c10
        try clear c11
        try clear c11b0
        try clear c11b1
        try clear c12
        try clear c12b0
        try clear c13
        try clear c13b0
        try clear c14
        try clear c14b0
        try clear c14b1
        try clear hx502_0
        try clear hx504_0
        try clear hx505_0
        try clear hx506_0
        try clear p2
        try clear p502
        try clear p504
        try clear p505
        try clear p506
        try clear q502
        try clear q504
        try clear q505
        try clear q506
        obtain ⟨x5_3, rfl, HA, HK3, HB⟩ := hrel
        cases gk with
        | zero => exact absurd HA.out (by simp [spec_ArchesOk.l1])
        | succ k3 =>
         have H := HA.out
         clear HA
         simp only [spec_ArchesOk.l1] at H
         by_cases c15 : x5_3 < (l0.length : Int)
         ·rw [if_pos c15] at H
          have c15b0 : decide (x5_3 < (l0.length : Int)) = true := decide_eq_true c15
          clear c15
          have H' := Aside0.mk H
          clear H
          go_wp2
          go_loopg [6] k3 (fun kq v6 w' => ∃ (x6_4 : Int), v6 = .int .i64 x6_4 ∧ Aside0 (spec_ArchesOk.l2 kq l0 (l0.length : Int) x5_3 x6_4 = some r) ∧ Aside0 (kq ≤ k3) ∧ Aside0 (Below w.heap.size w w'))
          case atStart => exact ⟨(0), (by first | rfl | (simp; done) | (simp [*]; done)), H', ⟨Nat.le_refl _⟩, ⟨hb0_ HB.out⟩⟩
          case round =>
           clear H'
           try clear c1
           try clear c2
           try clear p2
           try clear c3
           try clear c3b0
           try clear c3b1
           try clear c4
           try clear c5
           try clear p5
           try clear q5
           try clear hx5
           try clear c6
           try clear c6b0
           try clear p6
           try clear c7
           try clear c7b0
           try clear c8
           try clear c8b0
           try clear c10
           try clear c11
           try clear c11b0
           try clear c11b1
           try clear c12
           try clear c12b0
           try clear c13
           try clear c13b0
           try clear c14
           try clear c14b0
           try clear c14b1
           try clear c15
           try clear c15b0
           try clear hx502_0
           try clear hx504_0
           try clear hx505_0
           try clear hx506_0
           try clear p2
           try clear p5
           try clear p502
           try clear p504
           try clear p505
           try clear p506
           try clear p6
           try clear q5
           try clear q502
           try clear q504
           try clear q505
           try clear q506
           obtain ⟨x6_4, rfl, HA, HK4, HB⟩ := hrel
           cases gk with
           | zero => exact absurd HA.out (by simp [spec_ArchesOk.l2])
           | succ k4 =>
            have H := HA.out
            clear HA
            simp only [spec_ArchesOk.l2] at H
            by_cases c16 : x6_4 < x5_3
            ·rw [if_pos c16] at H
             have c16b0 : decide (x6_4 < x5_3) = true := decide_eq_true c16
             clear c16
             by_cases c17 : 0 ≤ x5_3
             ·rw [if_pos c17] at H
              have c17b0 : decide (0 ≤ x5_3) = true := decide_eq_true c17
              clear c17
              by_cases c18 : x5_3 < (l0.length : Int)
              ·rw [if_pos c18] at H
               have c18b0 : decide (x5_3 < (l0.length : Int)) = true := decide_eq_true c18
               clear c18
               obtain ⟨y508, hy508⟩ : ∃ y_ : List Int, y_ = (([x5_3, rd l0 x5_3] : List Int)) := ⟨_, rfl⟩
               replace H : (if 0 ≤ x6_4 then (if x6_4 < (l0.length : Int) then ((spec_CrossPairs.f k4 y508 (([x6_4, rd l0 x6_4] : List Int))).bind fun t515 => (if t515 = true then (some false) else (spec_ArchesOk.l2 k4 l0 (l0.length : Int) x5_3 (wrap64 (x6_4 + 1))))) else (none)) else (none)) = some r := by first | (rw [hy508]; with_reducible exact H) | (have H2_ := (Option.bind_some _ _).symm.trans H; rw [hy508]; with_reducible exact H2_) | (have H2_ := (Option.bind_some _ _).symm.trans H; with_reducible exact H2_) | with_reducible exact H | (rw [hy508]; exact H) | exact H
               have Ny508 := Aside0.mk hy508
               clear hy508
               by_cases c19 : 0 ≤ x6_4
               ·rw [if_pos c19] at H
                have c19b0 : decide (0 ≤ x6_4) = true := decide_eq_true c19
                clear c19
                by_cases c20 : x6_4 < (l0.length : Int)
                ·rw [if_pos c20] at H
                 have c20b0 : decide (x6_4 < (l0.length : Int)) = true := decide_eq_true c20
                 clear c20
                 obtain ⟨y512, hy512⟩ : ∃ y_ : List Int, y_ = (([x6_4, rd l0 x6_4] : List Int)) := ⟨_, rfl⟩
                 replace H : ((spec_CrossPairs.f k4 y508 y512).bind fun t515 => (if t515 = true then (some false) else (spec_ArchesOk.l2 k4 l0 (l0.length : Int) x5_3 (wrap64 (x6_4 + 1))))) = some r := by first | (rw [hy512]; with_reducible exact H) | (have H2_ := (Option.bind_some _ _).symm.trans H; rw [hy512]; with_reducible exact H2_) | (have H2_ := (Option.bind_some _ _).symm.trans H; with_reducible exact H2_) | with_reducible exact H | (rw [hy512]; exact H) | exact H
                 have Ny512 := Aside0.mk hy512
                 clear hy512
                 replace H := Option.bind_eq_some_iff.mp H
                 obtain ⟨t515, A210, H⟩ := H
                 replace H : (if t515 = true then (some false) else (spec_ArchesOk.l2 k4 l0 (l0.length : Int) x5_3 (wrap64 (x6_4 + 1)))) = some r := H
                 have A21 := Aside0.mk A210
                 clear A210
                 by_cases c22 : t515 = true
                 ·subst c22
                  have H1 : (some false) = some r := by rw [if_pos rfl] at H; exact H
                  clear H
                  have H := H1
                  clear H1
                  obtain rfl := Option.some.inj H
                  try go_wp2
                  replace HB := Aside0.mk (below_drew1 HB.out)
                  have p507 : 0 ≤ (x5_3 : Int) := of_decide_eq_true (as_)
                  have q507 : x5_3 < (l0.length : Int) := of_decide_eq_true (as_)
                  obtain ⟨ad507, e507, hx507_0⟩ := Kd.at_int HR0.out x5_3 p507 q507
                  have hw507_0 := hx507_0
                  cases e507
                  replace hx507_0 := (HB.out.cell (World.block_lt_of_cell? w _ hx507_0)).trans hx507_0
                  replace p507 := eq_true p507
                  replace q507 := eq_true q507
                  have p511 : 0 ≤ (x6_4 : Int) := of_decide_eq_true (as_)
                  have q511 : x6_4 < (l0.length : Int) := of_decide_eq_true (as_)
                  obtain ⟨ad511, e511, hx511_0⟩ := Kd.at_int HR0.out x6_4 p511 q511
                  have hw511_0 := hx511_0
                  obtain rfl : ad507 = ad511 := (by injection e511)
                  replace hx511_0 := (HB.out.cell (World.block_lt_of_cell? w _ hx511_0)).trans hx511_0
                  replace p511 := eq_true p511
                  replace q511 := eq_true q511
                  refine start_ (n := 13) (S := fun w' => True) (ds := []) #[false, false, false, false, false, false, false, false, false, false, false, false, false] (by kernel_rfl) rfl rfl trivial (fun hHeld => ?_); refine with_tabW spec_ArchesOk.tab15 spec_ArchesOk.bits15 (fun HT_ HW_ => ?_)
                  generalize wr.drew = w23 at HB hx507_0 hx511_0 hHeld ⊢
                  refine pv_ (i := 0) (N := some 60) HT_.out ?_
                  refine pv_ (i := 1) (N := some 61) HT_.out ?_
                  refine pv_ (i := 2) (N := some 62) HT_.out ?_
                  refine pv_ (i := 6) (N := some 66) HT_.out ?_
                  refine pv_ (i := 7) (N := some 67) HT_.out ?_
                  refine pv_ (i := 8) (N := some 68) HT_.out ?_
                  refine inv_at [3, 4, 5, 9, 10, 11, 12] (fun a0_ b a w' => ∃ (v509 : Value) (v513 : Value), a = putSel a0_ b [(3, 63, .pointer (some (ad507.add (x5_3).toNat))), (4, 64, .int .i64 (rd l0 x5_3)), (5, 65, v509), (9, 69, .pointer (some (ad507.add (x6_4).toNat))), (10, 70, .int .i64 (rd l0 x6_4)), (11, 71, v513), (12, 72, .bool true)] ∧ (Below w.heap.size w w') ∧ (b 5 = true → Kd.R (Kd.int .i64) 3 w' w.heap.size (fun _ => True) v509 y508) ∧ (b 11 = true → Kd.R (Kd.int .i64) 3 w' w.heap.size (fun _ => True) v513 y512)) HT_.out HW_.out (by kernel_rfl) (by kernel_rfl) ?_ ?_ ?_
                  ·exact ⟨.bool false, .bool false, by simp only [putSel, Bool.false_eq_true, if_false], HB.out, fun h_ => absurd h_ (by decide), fun h_ => absurd h_ (by decide)⟩
                  ·skip
                   clear HB
                   refine steps_cons ?_ ?_
                   ·rintro b a w' ⟨v509, v513, ha, Q_HB, Q_HO510, Q_HO514⟩ hb_ hon hoff
                    refine ⟨_, rfl, fun K hK => ?_⟩
                    have e61 : a.tmps[61]? = some (.slice (some ad507) l0.length c0) := by rw [ha]; exact (putSel_off rfl).trans rfl
                    have e62 : a.tmps[62]? = some (.int .i64 x5_3) := by rw [ha]; exact (putSel_off rfl).trans rfl
                    replace ha := Aside0.mk ha
                    have HB := Aside0.mk Q_HB
                    have hs0_ : w'.cell? (ad507.add (x5_3).toNat) = some (.int .i64 (rd l0 x5_3)) := ((HB.out.cell (World.block_lt_of_cell? w _ hw507_0)).trans hw507_0)
                    refine value_ (w1 := w') (v := .pointer (some (ad507.add (x5_3).toNat))) (by rfl) rfl ?_ ?_
                    ·go_simp
                     (try simp only [i64_w])
                     try rfl
                    refine hK.out _ _ ⟨v509, v513, (by rw [ha.out]; exact putSel_upk 0 hb_ rfl rfl rfl), Q_HB, fun h0_ => absurd ((hoff 5 (by kernel_rfl)).symm.trans h0_) (by decide), Q_HO514⟩
                   refine steps_cons ?_ ?_
                   ·rintro b a w' ⟨v509, v513, ha, Q_HB, Q_HO510, Q_HO514⟩ hb_ hon hoff
                    refine ⟨_, rfl, fun K hK => ?_⟩
                    have e63 : a.tmps[63]? = some (.pointer (some (ad507.add (x5_3).toNat))) := by rw [ha]; exact putSel_on (e := (3, 63, .pointer (some (ad507.add (x5_3).toNat)))) 0 rfl rfl (hon 3 (by kernel_rfl)) rfl
                    replace ha := Aside0.mk ha
                    have HB := Aside0.mk Q_HB
                    have hs0_ : w'.cell? (ad507.add (x5_3).toNat) = some (.int .i64 (rd l0 x5_3)) := ((HB.out.cell (World.block_lt_of_cell? w _ hw507_0)).trans hw507_0)
                    refine value_ (w1 := w') (v := .int .i64 (rd l0 x5_3)) (by rfl) rfl ?_ ?_
                    ·go_simp
                     (try simp only [i64_w])
                     try rfl
                    refine hK.out _ _ ⟨v509, v513, (by rw [ha.out]; exact putSel_upk 1 hb_ rfl rfl rfl), Q_HB, fun h0_ => absurd ((hoff 5 (by kernel_rfl)).symm.trans h0_) (by decide), Q_HO514⟩
                   refine steps_cons ?_ ?_
                   ·rintro b a w' ⟨v509, v513, ha, Q_HB, Q_HO510, Q_HO514⟩ hb_ hon hoff
                    refine ⟨_, rfl, fun K hK => ?_⟩
                    have e60 : a.tmps[60]? = some (.int .i64 x5_3) := by rw [ha]; exact (putSel_off rfl).trans rfl
                    have e64 : a.tmps[64]? = some (.int .i64 (rd l0 x5_3)) := by rw [ha]; exact putSel_on (e := (4, 64, .int .i64 (rd l0 x5_3))) 1 rfl rfl (hon 4 (by kernel_rfl)) rfl
                    replace ha := Aside0.mk ha
                    have HB := Aside0.mk Q_HB
                    refine Kd.R_lit_step (Kd.int .i64) _ 3 ?hg (N := 65) ?hd (xs := ([x5_3, rd l0 x5_3] : List Int)) (inner := [.int .i64 x5_3, .int .i64 (rd l0 x5_3)]) (ok := fun _ => True) (okp := fun _ => True) ?hr ?hp (fun _ hk => hk) trivial (Below.refl _ _) (Nat.le_refl _) (by simp) ?_; (case hd => rfl); (case hg => rfl); (case hr => first | (go_simp; done) | (go_simp; rfl)); (case hp => exact (Reps.one (show Kd.M (Kd.int .i64) _ _ _ x5_3 [.int .i64 x5_3] from rfl) (Reps.one (show Kd.M (Kd.int .i64) _ _ _ (rd l0 x5_3) [.int .i64 (rd l0 x5_3)] from rfl) (Reps.none _ _))))
                    intro v509 w24 ho25 hb hg_ hnew_
                    clear hg_ hnew_
                    (first | rw [← Ny508.out] at ho25 | (simp only [Int.reduceToNat] at ho25; rw [← Ny508.out] at ho25))
                    have n0_ := Aside0.mk (Kd.R_lower ho25 (below_size (hb0_ HB.out)))
                    have n1_ := HB.s0 hb
                    have z_HO514 := fun (h0_ : b 11 = true) => (show Kd.R (Kd.int .i64) 3 w24 w.heap.size (fun _ => True) v513 y512 from by first | exact (Kd.R_elder' (by (with_reducible repeat (first | apply Kd.R_alloc | apply Kd.R_drewN | apply Kd.R_drew)); exact (Q_HO514 h0_)) (Kd.R_base ho25) hb) | exact Kd.R_mono (Kd.R_elder' (by (with_reducible repeat (first | apply Kd.R_alloc | apply Kd.R_drewN | apply Kd.R_drew)); exact (Q_HO514 h0_)) (Kd.R_base ho25) hb) (fun _ h_ => by first | trivial | exact h_ | exact h_.1))
                    clear HB
                    have HO510 := n0_
                    have HB := n1_
                    clear n0_ n1_
                    clear hb ho25
                    refine hK.out _ _ ⟨v509, v513, (by rw [ha.out]; exact putSel_upk 2 hb_ rfl rfl rfl), (hb0_ HB.out), fun _ => (kr_ HO510.out), z_HO514⟩
                   refine steps_cons ?_ ?_
                   ·rintro b a w' ⟨v509, v513, ha, Q_HB, Q_HO510, Q_HO514⟩ hb_ hon hoff
                    refine ⟨_, rfl, fun K hK => ?_⟩
                    have e67 : a.tmps[67]? = some (.slice (some ad507) l0.length c0) := by rw [ha]; exact (putSel_off rfl).trans rfl
                    have e68 : a.tmps[68]? = some (.int .i64 x6_4) := by rw [ha]; exact (putSel_off rfl).trans rfl
                    replace ha := Aside0.mk ha
                    have HB := Aside0.mk Q_HB
                    have hs1_ : w'.cell? (ad507.add (x6_4).toNat) = some (.int .i64 (rd l0 x6_4)) := ((HB.out.cell (World.block_lt_of_cell? w _ hw511_0)).trans hw511_0)
                    refine value_ (w1 := w') (v := .pointer (some (ad507.add (x6_4).toNat))) (by rfl) rfl ?_ ?_
                    ·go_simp
                     (try simp only [i64_w])
                     try rfl
                    refine hK.out _ _ ⟨v509, v513, (by rw [ha.out]; exact putSel_upk 3 hb_ rfl rfl rfl), Q_HB, Q_HO510, fun h0_ => absurd ((hoff 11 (by kernel_rfl)).symm.trans h0_) (by decide)⟩
                   refine steps_cons ?_ ?_
                   ·rintro b a w' ⟨v509, v513, ha, Q_HB, Q_HO510, Q_HO514⟩ hb_ hon hoff
                    refine ⟨_, rfl, fun K hK => ?_⟩
                    have e69 : a.tmps[69]? = some (.pointer (some (ad507.add (x6_4).toNat))) := by rw [ha]; exact putSel_on (e := (9, 69, .pointer (some (ad507.add (x6_4).toNat)))) 3 rfl rfl (hon 9 (by kernel_rfl)) rfl
                    replace ha := Aside0.mk ha
                    have HB := Aside0.mk Q_HB
                    have hs1_ : w'.cell? (ad507.add (x6_4).toNat) = some (.int .i64 (rd l0 x6_4)) := ((HB.out.cell (World.block_lt_of_cell? w _ hw511_0)).trans hw511_0)
                    refine value_ (w1 := w') (v := .int .i64 (rd l0 x6_4)) (by rfl) rfl ?_ ?_
                    ·go_simp
                     (try simp only [i64_w])
                     try rfl
                    refine hK.out _ _ ⟨v509, v513, (by rw [ha.out]; exact putSel_upk 4 hb_ rfl rfl rfl), Q_HB, Q_HO510, fun h0_ => absurd ((hoff 11 (by kernel_rfl)).symm.trans h0_) (by decide)⟩
                   refine steps_cons ?_ ?_
                   ·rintro b a w' ⟨v509, v513, ha, Q_HB, Q_HO510, Q_HO514⟩ hb_ hon hoff
                    refine ⟨_, rfl, fun K hK => ?_⟩
                    have e66 : a.tmps[66]? = some (.int .i64 x6_4) := by rw [ha]; exact (putSel_off rfl).trans rfl
                    have e70 : a.tmps[70]? = some (.int .i64 (rd l0 x6_4)) := by rw [ha]; exact putSel_on (e := (10, 70, .int .i64 (rd l0 x6_4))) 4 rfl rfl (hon 10 (by kernel_rfl)) rfl
                    replace ha := Aside0.mk ha
                    have HB := Aside0.mk Q_HB
                    refine Kd.R_lit_step (Kd.int .i64) _ 3 ?hg (N := 71) ?hd (xs := ([x6_4, rd l0 x6_4] : List Int)) (inner := [.int .i64 x6_4, .int .i64 (rd l0 x6_4)]) (ok := fun _ => True) (okp := fun _ => True) ?hr ?hp (fun _ hk => hk) trivial (Below.refl _ _) (Nat.le_refl _) (by simp) ?_; (case hd => rfl); (case hg => rfl); (case hr => first | (go_simp; done) | (go_simp; rfl)); (case hp => exact (Reps.one (show Kd.M (Kd.int .i64) _ _ _ x6_4 [.int .i64 x6_4] from rfl) (Reps.one (show Kd.M (Kd.int .i64) _ _ _ (rd l0 x6_4) [.int .i64 (rd l0 x6_4)] from rfl) (Reps.none _ _))))
                    intro v513 w24 ho25 hb hg_ hnew_
                    clear hg_ hnew_
                    (first | rw [← Ny512.out] at ho25 | (simp only [Int.reduceToNat] at ho25; rw [← Ny512.out] at ho25))
                    have n0_ := Aside0.mk (Kd.R_lower ho25 (below_size (hb0_ HB.out)))
                    have n1_ := HB.s0 hb
                    have z_HO510 := fun (h0_ : b 5 = true) => (show Kd.R (Kd.int .i64) 3 w24 w.heap.size (fun _ => True) v509 y508 from by first | exact (Kd.R_elder' (by (with_reducible repeat (first | apply Kd.R_alloc | apply Kd.R_drewN | apply Kd.R_drew)); exact (Q_HO510 h0_)) (Kd.R_base ho25) hb) | exact Kd.R_mono (Kd.R_elder' (by (with_reducible repeat (first | apply Kd.R_alloc | apply Kd.R_drewN | apply Kd.R_drew)); exact (Q_HO510 h0_)) (Kd.R_base ho25) hb) (fun _ h_ => by first | trivial | exact h_ | exact h_.1))
                    clear HB
                    have HO514 := n0_
                    have HB := n1_
                    clear n0_ n1_
                    clear hb ho25
                    refine hK.out _ _ ⟨v509, v513, (by rw [ha.out]; exact putSel_upk 5 hb_ rfl rfl rfl), (hb0_ HB.out), z_HO510, fun _ => (kr_ HO514.out)⟩
                   refine steps_cons ?_ ?_
                   ·rintro b a w' ⟨v509, v513, ha, Q_HB, Q_HO510, Q_HO514⟩ hb_ hon hoff
                    refine ⟨_, rfl, fun K hK => ?_⟩
                    have e65 : a.tmps[65]? = some (v509) := by rw [ha]; exact putSel_on (e := (5, 65, v509)) 2 rfl rfl (hon 5 (by kernel_rfl)) rfl
                    have e71 : a.tmps[71]? = some (v513) := by rw [ha]; exact putSel_on (e := (11, 71, v513)) 5 rfl rfl (hon 11 (by kernel_rfl)) rfl
                    replace ha := Aside0.mk ha
                    have HB := Aside0.mk Q_HB
                    have HO510 := Aside0.mk (Q_HO510 (hon 5 (by kernel_rfl)))
                    have HO514 := Aside0.mk (Q_HO514 (hon 11 (by kernel_rfl)))
                    obtain ⟨Ao29, co29, eo29⟩ := Kd.R_slice HO510.out
                    (first | subst eo29 | (injection eo29 with f1_ f2_ f3_; have f4_ := f1_.symm; have f5_ := f3_.symm; clear f1_ f2_ f3_; subst f4_; subst f5_))
                    obtain ⟨Ao30, co30, eo30⟩ := Kd.R_slice HO514.out
                    (first | subst eo30 | (injection eo30 with f1_ f2_ f3_; have f4_ := f1_.symm; have f5_ := f3_.symm; clear f1_ f2_ f3_; subst f4_; subst f5_))
                    refine goes_ Try.func54 (by kernel_rfl) rfl #[.slice Ao29 y508.length co29, .slice Ao30 y512.length co30] (by rfl) rfl rfl (by first | (simp only [List.map_toArray, List.map_cons, List.map_nil, Act.eval, Array.getD_eq_getD_getElem?, Option.getD_some, e65, e71]; done) | (simp only [List.map_toArray, List.map_cons, List.map_nil, Act.eval, Array.getD_eq_getD_getElem?, Option.getD_some, e65, e71]; rfl)) ?_
                    with_reducible refine (spec_CrossPairs.calls k4 _ _ y508 _ _ y512 true _ ?side1 ?side2 ?side3 ?side4 A21.out).mono ?_
                    (case side1 => repeat (first | exact (Kd.R_reads' HO510.out).2.2 | (with_reducible refine Kd.C_alloc ?_ _) | (with_reducible refine Kd.C_drewN ?_ _) | (with_reducible refine Kd.C_drew ?_)))
                    (case side2 => exact (Kd.R_reads' HO510.out).2.1)
                    (case side3 => repeat (first | exact (Kd.R_reads' HO514.out).2.2 | (with_reducible refine Kd.C_alloc ?_ _) | (with_reducible refine Kd.C_drewN ?_ _) | (with_reducible refine Kd.C_drew ?_)))
                    (case side4 => exact (Kd.R_reads' HO514.out).2.1)
                    rintro e w31 ⟨rfl, hb⟩
                    refine ⟨_, rfl, ?_⟩
                    replace HO510 := HO510.kb hb
                    replace HO514 := HO514.kb hb
                    replace HB := HB.s0 hb
                    skip
                    (try clear hb2)
                    (try clear hk)
                    (try clear hi)
                    refine hK.out _ _ ⟨.slice Ao29 y508.length co29, .slice Ao30 y512.length co30, (by rw [ha.out]; exact putSel_upk 6 hb_ rfl rfl rfl), (hb0_ HB.out), fun _ => (kr_ HO510.out), fun _ => (kr_ HO514.out)⟩
                   exact steps_nil
                  rintro b a w31 hall ⟨v509, v513, ha, Q_HB, Q_HO510, Q_HO514⟩
                  clear HB
                  have hb3_ := hall 3 (by kernel_rfl)
                  have hb4_ := hall 4 (by kernel_rfl)
                  have hb5_ := hall 5 (by kernel_rfl)
                  have hb9_ := hall 9 (by kernel_rfl)
                  have hb10_ := hall 10 (by kernel_rfl)
                  have hb11_ := hall 11 (by kernel_rfl)
                  have hb12_ := hall 12 (by kernel_rfl)
                  subst ha
                  simp only [putSel, hb3_, hb4_, hb5_, hb9_, hb10_, hb11_, hb12_, if_true, Act.put, List.setIfInBounds_toArray, List.set_cons_zero, List.set_cons_succ]
                  have HB := Aside0.mk Q_HB
                  clear Q_HB
                  have HO510 := Aside0.mk (Q_HO510 hb5_)
                  clear Q_HO510
                  have HO514 := Aside0.mk (Q_HO514 hb11_)
                  clear Q_HO514
                  clear hall hb3_ hb4_ hb5_ hb9_ hb10_ hb11_ hb12_
                  try go_wp2
                  go_ret
                  exact ⟨ex_, hb0_ HB.out⟩
                 ·replace c22 := Bool.eq_false_iff.mpr c22
                  subst c22
                  have H1 : (spec_ArchesOk.l2 k4 l0 (l0.length : Int) x5_3 (wrap64 (x6_4 + 1))) = some r := by rw [if_neg (show ¬ (false = true) by decide)] at H; exact H
                  clear H
                  have H := H1
                  clear H1
                  have H' := Aside0.mk H
                  clear H
                  try go_wp2
                  replace HB := Aside0.mk (below_drew1 HB.out)
                  have p507 : 0 ≤ (x5_3 : Int) := of_decide_eq_true (as_)
                  have q507 : x5_3 < (l0.length : Int) := of_decide_eq_true (as_)
                  obtain ⟨ad507, e507, hx507_0⟩ := Kd.at_int HR0.out x5_3 p507 q507
                  have hw507_0 := hx507_0
                  cases e507
                  replace hx507_0 := (HB.out.cell (World.block_lt_of_cell? w _ hx507_0)).trans hx507_0
                  replace p507 := eq_true p507
                  replace q507 := eq_true q507
                  have p511 : 0 ≤ (x6_4 : Int) := of_decide_eq_true (as_)
                  have q511 : x6_4 < (l0.length : Int) := of_decide_eq_true (as_)
                  obtain ⟨ad511, e511, hx511_0⟩ := Kd.at_int HR0.out x6_4 p511 q511
                  have hw511_0 := hx511_0
                  obtain rfl : ad507 = ad511 := (by injection e511)
                  replace hx511_0 := (HB.out.cell (World.block_lt_of_cell? w _ hx511_0)).trans hx511_0
                  replace p511 := eq_true p511
                  replace q511 := eq_true q511
                  refine start_ (n := 13) (S := fun w' => True) (ds := []) #[false, false, false, false, false, false, false, false, false, false, false, false, false] (by kernel_rfl) rfl rfl trivial (fun hHeld => ?_); refine with_tabW spec_ArchesOk.tab15 spec_ArchesOk.bits15 (fun HT_ HW_ => ?_)
                  generalize wr.drew = w32 at HB hx507_0 hx511_0 hHeld ⊢
                  refine pv_ (i := 0) (N := some 60) HT_.out ?_
                  refine pv_ (i := 1) (N := some 61) HT_.out ?_
                  refine pv_ (i := 2) (N := some 62) HT_.out ?_
                  refine pv_ (i := 6) (N := some 66) HT_.out ?_
                  refine pv_ (i := 7) (N := some 67) HT_.out ?_
                  refine pv_ (i := 8) (N := some 68) HT_.out ?_
                  refine inv_at [3, 4, 5, 9, 10, 11, 12] (fun a0_ b a w' => ∃ (v509 : Value) (v513 : Value), a = putSel a0_ b [(3, 63, .pointer (some (ad507.add (x5_3).toNat))), (4, 64, .int .i64 (rd l0 x5_3)), (5, 65, v509), (9, 69, .pointer (some (ad507.add (x6_4).toNat))), (10, 70, .int .i64 (rd l0 x6_4)), (11, 71, v513), (12, 72, .bool false)] ∧ (Below w.heap.size w w') ∧ (b 5 = true → Kd.R (Kd.int .i64) 3 w' w.heap.size (fun _ => True) v509 y508) ∧ (b 11 = true → Kd.R (Kd.int .i64) 3 w' w.heap.size (fun _ => True) v513 y512)) HT_.out HW_.out (by kernel_rfl) (by kernel_rfl) ?_ ?_ ?_
                  ·exact ⟨.bool false, .bool false, by simp only [putSel, Bool.false_eq_true, if_false], HB.out, fun h_ => absurd h_ (by decide), fun h_ => absurd h_ (by decide)⟩
                  ·skip
                   clear HB
                   refine steps_cons ?_ ?_
                   ·rintro b a w' ⟨v509, v513, ha, Q_HB, Q_HO510, Q_HO514⟩ hb_ hon hoff
                    refine ⟨_, rfl, fun K hK => ?_⟩
                    have e61 : a.tmps[61]? = some (.slice (some ad507) l0.length c0) := by rw [ha]; exact (putSel_off rfl).trans rfl
                    have e62 : a.tmps[62]? = some (.int .i64 x5_3) := by rw [ha]; exact (putSel_off rfl).trans rfl
                    replace ha := Aside0.mk ha
                    have HB := Aside0.mk Q_HB
                    have hs0_ : w'.cell? (ad507.add (x5_3).toNat) = some (.int .i64 (rd l0 x5_3)) := ((HB.out.cell (World.block_lt_of_cell? w _ hw507_0)).trans hw507_0)
                    refine value_ (w1 := w') (v := .pointer (some (ad507.add (x5_3).toNat))) (by rfl) rfl ?_ ?_
                    ·go_simp
                     (try simp only [i64_w])
                     try rfl
                    refine hK.out _ _ ⟨v509, v513, (by rw [ha.out]; exact putSel_upk 0 hb_ rfl rfl rfl), Q_HB, fun h0_ => absurd ((hoff 5 (by kernel_rfl)).symm.trans h0_) (by decide), Q_HO514⟩
                   refine steps_cons ?_ ?_
                   ·rintro b a w' ⟨v509, v513, ha, Q_HB, Q_HO510, Q_HO514⟩ hb_ hon hoff
                    refine ⟨_, rfl, fun K hK => ?_⟩
                    have e63 : a.tmps[63]? = some (.pointer (some (ad507.add (x5_3).toNat))) := by rw [ha]; exact putSel_on (e := (3, 63, .pointer (some (ad507.add (x5_3).toNat)))) 0 rfl rfl (hon 3 (by kernel_rfl)) rfl
                    replace ha := Aside0.mk ha
                    have HB := Aside0.mk Q_HB
                    have hs0_ : w'.cell? (ad507.add (x5_3).toNat) = some (.int .i64 (rd l0 x5_3)) := ((HB.out.cell (World.block_lt_of_cell? w _ hw507_0)).trans hw507_0)
                    refine value_ (w1 := w') (v := .int .i64 (rd l0 x5_3)) (by rfl) rfl ?_ ?_
                    ·go_simp
                     (try simp only [i64_w])
                     try rfl
                    refine hK.out _ _ ⟨v509, v513, (by rw [ha.out]; exact putSel_upk 1 hb_ rfl rfl rfl), Q_HB, fun h0_ => absurd ((hoff 5 (by kernel_rfl)).symm.trans h0_) (by decide), Q_HO514⟩
                   refine steps_cons ?_ ?_
                   ·rintro b a w' ⟨v509, v513, ha, Q_HB, Q_HO510, Q_HO514⟩ hb_ hon hoff
                    refine ⟨_, rfl, fun K hK => ?_⟩
                    have e60 : a.tmps[60]? = some (.int .i64 x5_3) := by rw [ha]; exact (putSel_off rfl).trans rfl
                    have e64 : a.tmps[64]? = some (.int .i64 (rd l0 x5_3)) := by rw [ha]; exact putSel_on (e := (4, 64, .int .i64 (rd l0 x5_3))) 1 rfl rfl (hon 4 (by kernel_rfl)) rfl
                    replace ha := Aside0.mk ha
                    have HB := Aside0.mk Q_HB
                    refine Kd.R_lit_step (Kd.int .i64) _ 3 ?hg (N := 65) ?hd (xs := ([x5_3, rd l0 x5_3] : List Int)) (inner := [.int .i64 x5_3, .int .i64 (rd l0 x5_3)]) (ok := fun _ => True) (okp := fun _ => True) ?hr ?hp (fun _ hk => hk) trivial (Below.refl _ _) (Nat.le_refl _) (by simp) ?_; (case hd => rfl); (case hg => rfl); (case hr => first | (go_simp; done) | (go_simp; rfl)); (case hp => exact (Reps.one (show Kd.M (Kd.int .i64) _ _ _ x5_3 [.int .i64 x5_3] from rfl) (Reps.one (show Kd.M (Kd.int .i64) _ _ _ (rd l0 x5_3) [.int .i64 (rd l0 x5_3)] from rfl) (Reps.none _ _))))
                    intro v509 w33 ho34 hb hg_ hnew_
                    clear hg_ hnew_
                    (first | rw [← Ny508.out] at ho34 | (simp only [Int.reduceToNat] at ho34; rw [← Ny508.out] at ho34))
                    have n0_ := Aside0.mk (Kd.R_lower ho34 (below_size (hb0_ HB.out)))
                    have n1_ := HB.s0 hb
                    have z_HO514 := fun (h0_ : b 11 = true) => (show Kd.R (Kd.int .i64) 3 w33 w.heap.size (fun _ => True) v513 y512 from by first | exact (Kd.R_elder' (by (with_reducible repeat (first | apply Kd.R_alloc | apply Kd.R_drewN | apply Kd.R_drew)); exact (Q_HO514 h0_)) (Kd.R_base ho34) hb) | exact Kd.R_mono (Kd.R_elder' (by (with_reducible repeat (first | apply Kd.R_alloc | apply Kd.R_drewN | apply Kd.R_drew)); exact (Q_HO514 h0_)) (Kd.R_base ho34) hb) (fun _ h_ => by first | trivial | exact h_ | exact h_.1))
                    clear HB
                    have HO510 := n0_
                    have HB := n1_
                    clear n0_ n1_
                    clear hb ho34
                    refine hK.out _ _ ⟨v509, v513, (by rw [ha.out]; exact putSel_upk 2 hb_ rfl rfl rfl), (hb0_ HB.out), fun _ => (kr_ HO510.out), z_HO514⟩
                   refine steps_cons ?_ ?_
                   ·rintro b a w' ⟨v509, v513, ha, Q_HB, Q_HO510, Q_HO514⟩ hb_ hon hoff
                    refine ⟨_, rfl, fun K hK => ?_⟩
                    have e67 : a.tmps[67]? = some (.slice (some ad507) l0.length c0) := by rw [ha]; exact (putSel_off rfl).trans rfl
                    have e68 : a.tmps[68]? = some (.int .i64 x6_4) := by rw [ha]; exact (putSel_off rfl).trans rfl
                    replace ha := Aside0.mk ha
                    have HB := Aside0.mk Q_HB
                    have hs1_ : w'.cell? (ad507.add (x6_4).toNat) = some (.int .i64 (rd l0 x6_4)) := ((HB.out.cell (World.block_lt_of_cell? w _ hw511_0)).trans hw511_0)
                    refine value_ (w1 := w') (v := .pointer (some (ad507.add (x6_4).toNat))) (by rfl) rfl ?_ ?_
                    ·go_simp
                     (try simp only [i64_w])
                     try rfl
                    refine hK.out _ _ ⟨v509, v513, (by rw [ha.out]; exact putSel_upk 3 hb_ rfl rfl rfl), Q_HB, Q_HO510, fun h0_ => absurd ((hoff 11 (by kernel_rfl)).symm.trans h0_) (by decide)⟩
                   refine steps_cons ?_ ?_
                   ·rintro b a w' ⟨v509, v513, ha, Q_HB, Q_HO510, Q_HO514⟩ hb_ hon hoff
                    refine ⟨_, rfl, fun K hK => ?_⟩
                    have e69 : a.tmps[69]? = some (.pointer (some (ad507.add (x6_4).toNat))) := by rw [ha]; exact putSel_on (e := (9, 69, .pointer (some (ad507.add (x6_4).toNat)))) 3 rfl rfl (hon 9 (by kernel_rfl)) rfl
                    replace ha := Aside0.mk ha
                    have HB := Aside0.mk Q_HB
                    have hs1_ : w'.cell? (ad507.add (x6_4).toNat) = some (.int .i64 (rd l0 x6_4)) := ((HB.out.cell (World.block_lt_of_cell? w _ hw511_0)).trans hw511_0)
                    refine value_ (w1 := w') (v := .int .i64 (rd l0 x6_4)) (by rfl) rfl ?_ ?_
                    ·go_simp
                     (try simp only [i64_w])
                     try rfl
                    refine hK.out _ _ ⟨v509, v513, (by rw [ha.out]; exact putSel_upk 4 hb_ rfl rfl rfl), Q_HB, Q_HO510, fun h0_ => absurd ((hoff 11 (by kernel_rfl)).symm.trans h0_) (by decide)⟩
                   refine steps_cons ?_ ?_
                   ·rintro b a w' ⟨v509, v513, ha, Q_HB, Q_HO510, Q_HO514⟩ hb_ hon hoff
                    refine ⟨_, rfl, fun K hK => ?_⟩
                    have e66 : a.tmps[66]? = some (.int .i64 x6_4) := by rw [ha]; exact (putSel_off rfl).trans rfl
                    have e70 : a.tmps[70]? = some (.int .i64 (rd l0 x6_4)) := by rw [ha]; exact putSel_on (e := (10, 70, .int .i64 (rd l0 x6_4))) 4 rfl rfl (hon 10 (by kernel_rfl)) rfl
                    replace ha := Aside0.mk ha
                    have HB := Aside0.mk Q_HB
                    refine Kd.R_lit_step (Kd.int .i64) _ 3 ?hg (N := 71) ?hd (xs := ([x6_4, rd l0 x6_4] : List Int)) (inner := [.int .i64 x6_4, .int .i64 (rd l0 x6_4)]) (ok := fun _ => True) (okp := fun _ => True) ?hr ?hp (fun _ hk => hk) trivial (Below.refl _ _) (Nat.le_refl _) (by simp) ?_; (case hd => rfl); (case hg => rfl); (case hr => first | (go_simp; done) | (go_simp; rfl)); (case hp => exact (Reps.one (show Kd.M (Kd.int .i64) _ _ _ x6_4 [.int .i64 x6_4] from rfl) (Reps.one (show Kd.M (Kd.int .i64) _ _ _ (rd l0 x6_4) [.int .i64 (rd l0 x6_4)] from rfl) (Reps.none _ _))))
                    intro v513 w33 ho34 hb hg_ hnew_
                    clear hg_ hnew_
                    (first | rw [← Ny512.out] at ho34 | (simp only [Int.reduceToNat] at ho34; rw [← Ny512.out] at ho34))
                    have n0_ := Aside0.mk (Kd.R_lower ho34 (below_size (hb0_ HB.out)))
                    have n1_ := HB.s0 hb
                    have z_HO510 := fun (h0_ : b 5 = true) => (show Kd.R (Kd.int .i64) 3 w33 w.heap.size (fun _ => True) v509 y508 from by first | exact (Kd.R_elder' (by (with_reducible repeat (first | apply Kd.R_alloc | apply Kd.R_drewN | apply Kd.R_drew)); exact (Q_HO510 h0_)) (Kd.R_base ho34) hb) | exact Kd.R_mono (Kd.R_elder' (by (with_reducible repeat (first | apply Kd.R_alloc | apply Kd.R_drewN | apply Kd.R_drew)); exact (Q_HO510 h0_)) (Kd.R_base ho34) hb) (fun _ h_ => by first | trivial | exact h_ | exact h_.1))
                    clear HB
                    have HO514 := n0_
                    have HB := n1_
                    clear n0_ n1_
                    clear hb ho34
                    refine hK.out _ _ ⟨v509, v513, (by rw [ha.out]; exact putSel_upk 5 hb_ rfl rfl rfl), (hb0_ HB.out), z_HO510, fun _ => (kr_ HO514.out)⟩
                   refine steps_cons ?_ ?_
                   ·rintro b a w' ⟨v509, v513, ha, Q_HB, Q_HO510, Q_HO514⟩ hb_ hon hoff
                    refine ⟨_, rfl, fun K hK => ?_⟩
                    have e65 : a.tmps[65]? = some (v509) := by rw [ha]; exact putSel_on (e := (5, 65, v509)) 2 rfl rfl (hon 5 (by kernel_rfl)) rfl
                    have e71 : a.tmps[71]? = some (v513) := by rw [ha]; exact putSel_on (e := (11, 71, v513)) 5 rfl rfl (hon 11 (by kernel_rfl)) rfl
                    replace ha := Aside0.mk ha
                    have HB := Aside0.mk Q_HB
                    have HO510 := Aside0.mk (Q_HO510 (hon 5 (by kernel_rfl)))
                    have HO514 := Aside0.mk (Q_HO514 (hon 11 (by kernel_rfl)))
                    obtain ⟨Ao38, co38, eo38⟩ := Kd.R_slice HO510.out
                    (first | subst eo38 | (injection eo38 with f1_ f2_ f3_; have f4_ := f1_.symm; have f5_ := f3_.symm; clear f1_ f2_ f3_; subst f4_; subst f5_))
                    obtain ⟨Ao39, co39, eo39⟩ := Kd.R_slice HO514.out
                    (first | subst eo39 | (injection eo39 with f1_ f2_ f3_; have f4_ := f1_.symm; have f5_ := f3_.symm; clear f1_ f2_ f3_; subst f4_; subst f5_))
                    refine goes_ Try.func54 (by kernel_rfl) rfl #[.slice Ao38 y508.length co38, .slice Ao39 y512.length co39] (by rfl) rfl rfl (by first | (simp only [List.map_toArray, List.map_cons, List.map_nil, Act.eval, Array.getD_eq_getD_getElem?, Option.getD_some, e65, e71]; done) | (simp only [List.map_toArray, List.map_cons, List.map_nil, Act.eval, Array.getD_eq_getD_getElem?, Option.getD_some, e65, e71]; rfl)) ?_
                    with_reducible refine (spec_CrossPairs.calls k4 _ _ y508 _ _ y512 false _ ?side1 ?side2 ?side3 ?side4 A21.out).mono ?_
                    (case side1 => repeat (first | exact (Kd.R_reads' HO510.out).2.2 | (with_reducible refine Kd.C_alloc ?_ _) | (with_reducible refine Kd.C_drewN ?_ _) | (with_reducible refine Kd.C_drew ?_)))
                    (case side2 => exact (Kd.R_reads' HO510.out).2.1)
                    (case side3 => repeat (first | exact (Kd.R_reads' HO514.out).2.2 | (with_reducible refine Kd.C_alloc ?_ _) | (with_reducible refine Kd.C_drewN ?_ _) | (with_reducible refine Kd.C_drew ?_)))
                    (case side4 => exact (Kd.R_reads' HO514.out).2.1)
                    rintro e w40 ⟨rfl, hb⟩
                    refine ⟨_, rfl, ?_⟩
                    replace HO510 := HO510.kb hb
                    replace HO514 := HO514.kb hb
                    replace HB := HB.s0 hb
                    skip
                    (try clear hb2)
                    (try clear hk)
                    (try clear hi)
                    refine hK.out _ _ ⟨.slice Ao38 y508.length co38, .slice Ao39 y512.length co39, (by rw [ha.out]; exact putSel_upk 6 hb_ rfl rfl rfl), (hb0_ HB.out), fun _ => (kr_ HO510.out), fun _ => (kr_ HO514.out)⟩
                   exact steps_nil
                  rintro b a w40 hall ⟨v509, v513, ha, Q_HB, Q_HO510, Q_HO514⟩
                  clear HB
                  have hb3_ := hall 3 (by kernel_rfl)
                  have hb4_ := hall 4 (by kernel_rfl)
                  have hb5_ := hall 5 (by kernel_rfl)
                  have hb9_ := hall 9 (by kernel_rfl)
                  have hb10_ := hall 10 (by kernel_rfl)
                  have hb11_ := hall 11 (by kernel_rfl)
                  have hb12_ := hall 12 (by kernel_rfl)
                  subst ha
                  simp only [putSel, hb3_, hb4_, hb5_, hb9_, hb10_, hb11_, hb12_, if_true, Act.put, List.setIfInBounds_toArray, List.set_cons_zero, List.set_cons_succ]
                  have HB := Aside0.mk Q_HB
                  clear Q_HB
                  have HO510 := Aside0.mk (Q_HO510 hb5_)
                  clear Q_HO510
                  have HO514 := Aside0.mk (Q_HO514 hb11_)
                  clear Q_HO514
                  clear hall hb3_ hb4_ hb5_ hb9_ hb10_ hb11_ hb12_
                  try go_wp2
                  go_roundg k4
                  case measure => have := HJ1.out; have := HK2.out; have := HK3.out; have := HK4.out; omega
                  case rel => exact ⟨(wrap64 (x6_4 + 1)), (by first | rfl | (simp; done) | (simp [*]; done)), H', ⟨by have := HJ1.out; have := HK2.out; have := HK3.out; have := HK4.out; omega⟩, ⟨hb0_ HB.out⟩⟩
                ·rw [if_neg c20] at H
                 exact absurd H (by simp)
               ·rw [if_neg c19] at H
                exact absurd H (by simp)
              ·rw [if_neg c18] at H
               exact absurd H (by simp)
             ·rw [if_neg c17] at H
              exact absurd H (by simp)
            ·rw [if_neg c16] at H
             have c16b0 : decide (x6_4 < x5_3) = false := decide_eq_false c16
             clear c16
             have H' := Aside0.mk H
             clear H
             go_wp2
             go_roundg k4
             case measure => have := HJ1.out; have := HK2.out; have := HK3.out; have := HK4.out; omega
             case rel => exact ⟨(wrap64 (x5_3 + 1)), (by first | rfl | (simp; done) | (simp [*]; done)), H', ⟨by have := HJ1.out; have := HK2.out; have := HK3.out; have := HK4.out; omega⟩, ⟨hb0_ HB.out⟩⟩
         ·rw [if_neg c15] at H
          have c15b0 : decide (x5_3 < (l0.length : Int)) = false := decide_eq_false c15
          clear c15
          obtain rfl := Option.some.inj H
          go_wp2
          go_ret
          exact ⟨ex_, hb0_ HB.out⟩

end Go.Proofs.Ytkkjlbpffcdlfaa.X
