-- Written by a program of this session (xprint.py), out of the translation and of hand-written contracts. Lean checks it.
import Derived.Test.YtkkjlbpffcdlfaaX0
import Derived.Test.YtkkjlbpffcdlfaaXcints
import Derived.Test.YtkkjlbpffcdlfaaXimplIsLabyrinth
import Derived.Test.YtkkjlbpffcdlfaaXslicesCloneintint
namespace Go.Proofs.Ytkkjlbpffcdlfaa.X
open Go.RowKit Go.Proofs.YtkkjlbpffcdlfaaW.PrintWords Go.Proofs.YtkkjlbpffcdlfaaW.PrintLast Go.Proofs.YtkkjlbpffcdlfaaW.PrintMore
attribute [local go_sem] max2_int min2_int max_two min_two max_three min_three max_four min_four   -- for this text's walks alone
set_option linter.unusedVariables false
set_option linter.unusedSimpArgs false

/-! ### impl_labyrinths: function 39 -/
mutual
def impl_labyrinths.j0 : Nat → Int → List Int → Int → Int → Option (Int)
 | 0, _, _, _, _ => none
 | k + 1, x0, x1, x5, x6 => impl_labyrinths.l0 k x0 x1 x5 x6 1
def impl_labyrinths.l0 : Nat → Int → List Int → Int → Int → Int → Option (Int)
 | 0, _, _, _, _, _ => none
 | k + 1, x0, x1, x5, x6, x7 => if x7 ≤ x0 then (if (Int.tmod (wrap64 (x7 + x5)) 2) = 1 then ((slices_Contains_int_int.f k x1 x7).bind fun t503 => (impl_labyrinths.j2 k x0 x1 x5 x6 x7 (!t503))) else (impl_labyrinths.j2 k x0 x1 x5 x6 x7 false)) else (some x6)
def impl_labyrinths.j2 : Nat → Int → List Int → Int → Int → Int → Bool → Option (Int)
 | 0, _, _, _, _, _, _ => none
 | k + 1, x0, x1, x5, x6, x7, x38 => if x38 = true then ((slices_Clone_int_int.f x1).bind fun t504 => (if t504.length < 17592186044416 then ((impl_labyrinths.f k x0 (t504 ++ [x7])).bind fun t510 => (impl_labyrinths.l0 k x0 x1 x5 (wrap64 (x6 + t510)) (wrap64 (x7 + 1)))) else (none))) else (impl_labyrinths.l0 k x0 x1 x5 x6 (wrap64 (x7 + 1)))
def impl_labyrinths.f : Nat → Int → List Int → Option (Int)
 | 0, _, _ => none
 | k + 1, a0, l1 => if (l1.length : Int) = a0 then ((impl_IsLabyrinth.f k l1).bind fun t501 => (if t501 = true then (some 1) else (some 0))) else (if (l1.length : Int) > 0 then (if 0 ≤ (wrap64 ((l1.length : Int) - 1)) then (if (wrap64 ((l1.length : Int) - 1)) < (l1.length : Int) then (impl_labyrinths.j0 k a0 l1 (rd l1 (wrap64 ((l1.length : Int) - 1))) 0) else (none)) else (none)) else (impl_labyrinths.j0 k a0 l1 0 0))
end
theorem impl_labyrinths.mono_l : ∀ k, (∀ y0 y1, LeO (impl_labyrinths.f k y0 y1) (impl_labyrinths.f (k + 1) y0 y1)) ∧ (∀ y0 y1 y2 y3, LeO (impl_labyrinths.j0 k y0 y1 y2 y3) (impl_labyrinths.j0 (k + 1) y0 y1 y2 y3)) ∧ (∀ y0 y1 y2 y3 y4, LeO (impl_labyrinths.l0 k y0 y1 y2 y3 y4) (impl_labyrinths.l0 (k + 1) y0 y1 y2 y3 y4)) ∧ (∀ y0 y1 y2 y3 y4 y5, LeO (impl_labyrinths.j2 k y0 y1 y2 y3 y4 y5) (impl_labyrinths.j2 (k + 1) y0 y1 y2 y3 y4 y5))
 | 0 => ⟨fun _ _ r h => by simp [impl_labyrinths.f] at h, fun _ _ _ _ r h => by simp [impl_labyrinths.j0] at h, fun _ _ _ _ _ r h => by simp [impl_labyrinths.l0] at h, fun _ _ _ _ _ _ r h => by simp [impl_labyrinths.j2] at h⟩
 | k + 1 => by
  obtain ⟨ih0, ih1, ih2, ih3⟩ := impl_labyrinths.mono_l k
  refine ⟨?_, ?_, ?_, ?_⟩
  ·intro y0 y1
   unfold impl_labyrinths.f
   repeat' first
   | (with_reducible exact ih0 ..)
   | (with_reducible exact ih1 ..)
   | (with_reducible exact ih2 ..)
   | (with_reducible exact ih3 ..)
   | (with_reducible exact impl_IsLabyrinth.mono ..)
   | (with_reducible exact slices_Contains_int_int.mono ..)
   | (with_reducible first | exact lr_ _ | exact ln_ _ | refine li_ ?_ ?_ | refine lb_ ?_ fun _ => ?_)
   | exact ih0 ..
   | exact ih1 ..
   | exact ih2 ..
   | exact ih3 ..
   | exact impl_IsLabyrinth.mono ..
   | exact slices_Contains_int_int.mono ..
   | exact ln_ _ | refine li_ ?_ ?_ | refine lb_ ?_ fun _ => ?_
  ·intro y0 y1 y2 y3
   unfold impl_labyrinths.j0
   repeat' first
   | (with_reducible exact ih0 ..)
   | (with_reducible exact ih1 ..)
   | (with_reducible exact ih2 ..)
   | (with_reducible exact ih3 ..)
   | (with_reducible exact impl_IsLabyrinth.mono ..)
   | (with_reducible exact slices_Contains_int_int.mono ..)
   | (with_reducible first | exact lr_ _ | exact ln_ _ | refine li_ ?_ ?_ | refine lb_ ?_ fun _ => ?_)
   | exact ih0 ..
   | exact ih1 ..
   | exact ih2 ..
   | exact ih3 ..
   | exact impl_IsLabyrinth.mono ..
   | exact slices_Contains_int_int.mono ..
   | exact ln_ _ | refine li_ ?_ ?_ | refine lb_ ?_ fun _ => ?_
  ·intro y0 y1 y2 y3 y4
   unfold impl_labyrinths.l0
   repeat' first
   | (with_reducible exact ih0 ..)
   | (with_reducible exact ih1 ..)
   | (with_reducible exact ih2 ..)
   | (with_reducible exact ih3 ..)
   | (with_reducible exact impl_IsLabyrinth.mono ..)
   | (with_reducible exact slices_Contains_int_int.mono ..)
   | (with_reducible first | exact lr_ _ | exact ln_ _ | refine li_ ?_ ?_ | refine lb_ ?_ fun _ => ?_)
   | exact ih0 ..
   | exact ih1 ..
   | exact ih2 ..
   | exact ih3 ..
   | exact impl_IsLabyrinth.mono ..
   | exact slices_Contains_int_int.mono ..
   | exact ln_ _ | refine li_ ?_ ?_ | refine lb_ ?_ fun _ => ?_
  ·intro y0 y1 y2 y3 y4 y5
   unfold impl_labyrinths.j2
   repeat' first
   | (with_reducible exact ih0 ..)
   | (with_reducible exact ih1 ..)
   | (with_reducible exact ih2 ..)
   | (with_reducible exact ih3 ..)
   | (with_reducible exact impl_IsLabyrinth.mono ..)
   | (with_reducible exact slices_Contains_int_int.mono ..)
   | (with_reducible first | exact lr_ _ | exact ln_ _ | refine li_ ?_ ?_ | refine lb_ ?_ fun _ => ?_)
   | exact ih0 ..
   | exact ih1 ..
   | exact ih2 ..
   | exact ih3 ..
   | exact impl_IsLabyrinth.mono ..
   | exact slices_Contains_int_int.mono ..
   | exact ln_ _ | refine li_ ?_ ?_ | refine lb_ ?_ fun _ => ?_
theorem impl_labyrinths.mono : ∀ a0 a1 k, LeO (impl_labyrinths.f k a0 a1) (impl_labyrinths.f (k + 1) a0 a1) := by
 intro a0 a1 k
 obtain ⟨ih0, ih1, ih2, ih3⟩ := impl_labyrinths.mono_l k
 exact ih0 a0 a1
set_option maxHeartbeats 8000000 in
set_option maxRecDepth 100000 in
theorem impl_labyrinths.calls (k : Nat) : ∀ (a0 : Int) (A1 : Option Addr) (c1 : Nat) (l1 : List Int) (r : Int) (w : World) (hr1 : Kd.C (Kd.int .i64) w A1 l1.length l1) (hc1 : l1.length ≤ c1) (h : impl_labyrinths.f k a0 l1 = some r),
  Calls Try.prog 39 #[.int .i64 a0, .slice A1 l1.length c1] w fun e w' => e = .returned (.int .i64 r) ∧ Below w.heap.size w w' := by
 induction k using Nat.strongRecOn with
 | _ k ih =>
 intro a0 A1 c1 l1 r w hr1 hc1 h
 cases k with
 | zero => exact absurd h (by simp [impl_labyrinths.f])
 | succ k =>
 simp only [impl_labyrinths.f] at h
 have HR1 := Aside0.mk hr1
 have HC1 := Aside0.mk hc1
 clear hr1 hc1
 have HB := Aside0.mk (Below.refl w.heap.size w)
 have H : (if (l1.length : Int) = a0 then ((impl_IsLabyrinth.f k l1).bind fun t501 => (if t501 = true then (some 1) else (some 0))) else (if (l1.length : Int) > 0 then (if 0 ≤ (wrap64 ((l1.length : Int) - 1)) then (if (wrap64 ((l1.length : Int) - 1)) < (l1.length : Int) then (impl_labyrinths.j0 k a0 l1 (rd l1 (wrap64 ((l1.length : Int) - 1))) 0) else (none)) else (none)) else (impl_labyrinths.j0 k a0 l1 0 0))) = some r := h
 clear h
 by_cases c3 : (l1.length : Int) = a0
 ·rw [if_pos c3] at H
  have c3b0 : ((l1.length : Int) == a0) = true := beq_iff_eq.mpr c3
  have c3b1 : ((l1.length : Int) != a0) = false := bne_eq_false_iff_eq.mpr c3
  clear c3
  replace H := Option.bind_eq_some_iff.mp H
  obtain ⟨t501, A40, H⟩ := H
  replace H : (if t501 = true then (some 1) else (some 0)) = some r := H
  have A4 := Aside0.mk A40
  clear A40
  by_cases c5 : t501 = true
  ·subst c5
   have H1 : (some 1) = some r := by rw [if_pos rfl] at H; exact H
   clear H
   have H := H1
   clear H1
   obtain rfl := Option.some.inj H
   go_enter Try.func39, Try.ntmps39
   go_wp2_with (first | (refine gl_ 13 Try.func50 #[.slice A1 l1.length c1] ?_; (with_reducible refine (impl_IsLabyrinth.calls k _ _ l1 true _ ?side1 ?side2 A4.out).mono ?_); (case side1 => exact kc_ HR1.out); (case side2 => exact HC1.out); rintro e w6 ⟨rfl, hb⟩; refine ⟨_, rfl, ?_⟩; replace HB := HB.s0 hb; (try clear hb)))
   go_ret
   exact ⟨ex_, hb0_ HB.out⟩
  ·replace c5 := Bool.eq_false_iff.mpr c5
   subst c5
   have H1 : (some 0) = some r := by rw [if_neg (show ¬ (false = true) by decide)] at H; exact H
   clear H
   have H := H1
   clear H1
   obtain rfl := Option.some.inj H
   go_enter Try.func39, Try.ntmps39
   go_wp2_with (first | (refine gl_ 13 Try.func50 #[.slice A1 l1.length c1] ?_; (with_reducible refine (impl_IsLabyrinth.calls k _ _ l1 false _ ?side1 ?side2 A4.out).mono ?_); (case side1 => exact kc_ HR1.out); (case side2 => exact HC1.out); rintro e w7 ⟨rfl, hb⟩; refine ⟨_, rfl, ?_⟩; replace HB := HB.s0 hb; (try clear hb)))
   go_ret
   exact ⟨ex_, hb0_ HB.out⟩
 ·rw [if_neg c3] at H
  have c3b0 : ((l1.length : Int) == a0) = false := beq_eq_false_iff_ne.mpr c3
  have c3b1 : ((l1.length : Int) != a0) = true := bne_iff_ne.mpr c3
  have HC8 := Aside0.mk H
  clear H
  go_enter Try.func39, Try.ntmps39
  go_upto_if 16 with (fail)
  go_cut [5] (fun v5 wc => ∃ (kq : Nat) (x5_7 : Int), v5 = .int .i64 x5_7 ∧ Aside0 (impl_labyrinths.j0 kq a0 l1 x5_7 0 = some r) ∧ Aside0 (kq ≤ k) ∧ Aside0 (Below w.heap.size w wc))
  case first =>
   have H := HC8.out
   clear HC8
   by_cases c9 : (l1.length : Int) > 0
   ·rw [if_pos c9] at H
    have c9b0 : decide (0 < (l1.length : Int)) = true := decide_eq_true c9
    have c9b1 : decide (0 < l1.length) = true := decide_eq_true (by omega)
    clear c9
    (first | rw [c9b0] | (simp only [i64_w, i32_w]; rw [c9b0]) | skip)
    obtain ⟨ji10, hji10⟩ : ∃ j_ : Int, (wrap64 ((l1.length : Int) - 1)) = j_ := ⟨_, rfl⟩
    replace H : (if 0 ≤ (ji10) then (if (ji10) < (l1.length : Int) then (impl_labyrinths.j0 k a0 l1 (rd l1 (ji10)) 0) else (none)) else (none)) = some r := by first | (rw [hji10] at H; exact H) | (simp only [hji10] at H ⊢; exact H)
    have hji10w : (IntKind.i64.wrap ((l1.length : Int) - 1)) = ji10 := (i64_w _).trans hji10
    by_cases c11 : 0 ≤ (ji10)
    ·rw [if_pos c11] at H
     have c11b0 : decide (0 ≤ (ji10)) = true := decide_eq_true c11
     clear c11
     by_cases c12 : (ji10) < (l1.length : Int)
     ·rw [if_pos c12] at H
      have c12b0 : decide ((ji10) < (l1.length : Int)) = true := decide_eq_true c12
      clear c12
      have H' := Aside0.mk H
      clear H
      have p502 : 0 ≤ ((ji10) : Int) := of_decide_eq_true (as_)
      have q502 : (ji10) < (l1.length : Int) := of_decide_eq_true (as_)
      obtain ⟨ad502, e502, hx502_0⟩ := Kd.at_int HR1.out (ji10) p502 q502
      cases e502
      replace hx502_0 := (HB.out.cell (World.block_lt_of_cell? w _ hx502_0)).trans hx502_0
      replace p502 := eq_true p502
      replace q502 := eq_true q502
      go_wp2
      any_goals (first | exact absurd (of_decide_eq_true c9b1) (by assumption) | exact absurd (by assumption) (of_decide_eq_false c9b1) | skip)
      go_meet
      case rel => exact ⟨_, (rd l1 (ji10)), (by first | rfl | (simp; done) | (simp only [← hji10] <;> (first | rfl | simp)) | (simp [*]; done)), H', ⟨by first | omega | exact Nat.le_refl _⟩, ⟨hb0_ HB.out⟩⟩
     ·rw [if_neg c12] at H
      exact absurd H (by simp)
    ·rw [if_neg c11] at H
     exact absurd H (by simp)
   ·rw [if_neg c9] at H
    have c9b0 : decide (0 < (l1.length : Int)) = false := decide_eq_false c9
    have c9b1 : decide (0 < l1.length) = false := decide_eq_false (by omega)
    clear c9
    (first | rw [c9b0] | (simp only [i64_w, i32_w]; rw [c9b0]) | skip)
    have H' := Aside0.mk H
    clear H
    go_wp2
    any_goals (first | exact absurd (of_decide_eq_true c9b1) (by assumption) | exact absurd (by assumption) (of_decide_eq_false c9b1) | skip)
    go_meet
    case rel => exact ⟨_, (0), (by first | rfl | (simp; done) | (simp [*]; done)), H', ⟨by first | omega | exact Nat.le_refl _⟩, ⟨hb0_ HB.out⟩⟩
  case rest =>
   clear HC8
   try clear c1
   try clear p2
   try clear c3
   try clear c3b0
   try clear c3b1
   try clear c5
   try clear p5
   try clear q5
   try clear hx5
   try clear p6
   try clear c9
   try clear c9b0
   try clear c9b1
   try clear c11
   try clear c11b0
   try clear c12
   try clear c12b0
   try clear hx502_0
   try clear p502
   try clear q502
   obtain ⟨kq, x5_7, rfl, HA, HJ7, HB⟩ := hcut
   cases kq with
   | zero => exact absurd HA.out (by simp [impl_labyrinths.j0])
   | succ kj7 =>
    have H := HA.out
    clear HA
    simp only [impl_labyrinths.j0] at H
    have H' := Aside0.mk H
    clear H
    go_wp2
    any_goals (first | exact absurd (of_decide_eq_true c9b1) (by assumption) | exact absurd (by assumption) (of_decide_eq_false c9b1) | skip)
    go_loopg [6, 7] kj7 (fun kq v6 v7 w' => ∃ (x6_2 : Int) (x7_2 : Int), v6 = .int .i64 x6_2 ∧ v7 = .int .i64 x7_2 ∧ Aside0 (impl_labyrinths.l0 kq a0 l1 x5_7 x6_2 x7_2 = some r) ∧ Aside0 (kq ≤ kj7) ∧ Aside0 (Below w.heap.size w w'))
    case atStart => exact ⟨(0), (1), (by first | rfl | (simp; done) | (simp [*]; done)), (by first | rfl | (simp; done) | (simp [*]; done)), H', ⟨Nat.le_refl _⟩, ⟨hb0_ HB.out⟩⟩
    case round =>
     clear H'
     try clear c1
     try clear p2
     try clear c3
     try clear c3b0
     try clear c3b1
     try clear c5
     try clear p5
     try clear q5
     try clear hx5
     try clear p6
     try clear c9
     try clear c9b0
     try clear c9b1
     try clear c11
     try clear c11b0
     try clear c12
     try clear c12b0
     try clear hx502_0
     try clear p2
     try clear p5
     try clear p502
     try clear p6
     try clear q5
     try clear q502
     obtain ⟨x6_2, x7_2, rfl, rfl, HA, HK2, HB⟩ := hrel
     cases gk with
     | zero => exact absurd HA.out (by simp [impl_labyrinths.l0])
     | succ k2 =>
      have H := HA.out
      clear HA
      simp only [impl_labyrinths.l0] at H
      by_cases c13 : x7_2 ≤ a0
      ·rw [if_pos c13] at H
       have c13b0 : decide (x7_2 ≤ a0) = true := decide_eq_true c13
       clear c13
       have HC14 := Aside0.mk H
       clear H
       go_upto_region 11 with (fail)
       go_cut [38] (fun v38 wc => ∃ (kq : Nat) (x38_13 : Bool), v38 = .bool x38_13 ∧ Aside0 (impl_labyrinths.j2 kq a0 l1 x5_7 x6_2 x7_2 x38_13 = some r) ∧ Aside0 (kq ≤ k2) ∧ Aside0 (Below w.heap.size w wc))
       case first =>
        have H := HC14.out
        clear HC14
        by_cases c15 : (Int.tmod (wrap64 (x7_2 + x5_7)) 2) = 1
        ·rw [if_pos c15] at H
         have c15b0 : ((Int.tmod (wrap64 (x7_2 + x5_7)) 2) == 1) = true := beq_iff_eq.mpr c15
         have c15b1 : ((Int.tmod (wrap64 (x7_2 + x5_7)) 2) != 1) = false := bne_eq_false_iff_eq.mpr c15
         clear c15
         (first | rw [c15b0] | (simp only [i64_w, i32_w]; rw [c15b0]) | skip)
         replace H := Option.bind_eq_some_iff.mp H
         obtain ⟨t503, A160, H⟩ := H
         replace H : (impl_labyrinths.j2 k2 a0 l1 x5_7 x6_2 x7_2 (!t503)) = some r := H
         have A16 := Aside0.mk A160
         clear A160
         have H' := Aside0.mk H
         clear H
         go_wp2_with (first | (go_at_call 42; (with_reducible refine (slices_Contains_int_int.calls k2 _ _ l1 x7_2 t503 _ ?side1 ?side2 A16.out).mono ?_); (case side1 => repeat (first | exact (Kd.C_below HR1.out HB.out) | (with_reducible refine Kd.C_alloc ?_ _) | (with_reducible refine Kd.C_drewN ?_ _) | (with_reducible refine Kd.C_drew ?_))); (case side2 => exact HC1.out); rintro e w' ⟨rfl, ⟨nd, rfl⟩⟩))
         go_meet
         case rel => exact ⟨_, (!t503), (by first | rfl | (simp; done) | (simp [*]; done)), H', ⟨by have := HJ7.out; have := HK2.out; first | omega | exact Nat.le_refl _⟩, ⟨hb0_ HB.out⟩⟩
        ·rw [if_neg c15] at H
         have c15b0 : ((Int.tmod (wrap64 (x7_2 + x5_7)) 2) == 1) = false := beq_eq_false_iff_ne.mpr c15
         have c15b1 : ((Int.tmod (wrap64 (x7_2 + x5_7)) 2) != 1) = true := bne_iff_ne.mpr c15
         (first | rw [c15b0] | (simp only [i64_w, i32_w]; rw [c15b0]) | skip)
         have H' := Aside0.mk H
         clear H
         go_wp2
         any_goals (first | exact absurd (of_decide_eq_true c9b1) (by assumption) | exact absurd (by assumption) (of_decide_eq_false c9b1) | skip)
         go_meet
         case rel => exact ⟨_, (false), (by first | rfl | (simp; done) | (simp [*]; done)), H', ⟨by have := HJ7.out; have := HK2.out; first | omega | exact Nat.le_refl _⟩, ⟨hb0_ HB.out⟩⟩
       case rest =>
        clear HC14
        try clear c1
        try clear p2
        try clear c3
        try clear c3b0
        try clear c3b1
        try clear c5
        try clear p5
        try clear q5
        try clear hx5
        try clear p6
        try clear c9
        try clear c9b0
        try clear c9b1
        try clear c11
        try clear c11b0
        try clear c12
        try clear c12b0
        try clear c13
        try clear c13b0
        try clear c15
        try clear c15b0
        try clear c15b1
        try clear hx502_0
        try clear p2
        try clear p5
        try clear p502
        try clear p6
        try clear q5
        try clear q502
        obtain ⟨kq, x38_13, rfl, HA, HJ13, HB⟩ := hcut
        cases kq with
        | zero => exact absurd HA.out (by simp [impl_labyrinths.j2])
        | succ kj13 =>
         have H := HA.out
         clear HA
         simp only [impl_labyrinths.j2] at H
         by_cases c17 : x38_13 = true
         ·subst c17
          have H1 : ((slices_Clone_int_int.f l1).bind fun t504 => (if t504.length < 17592186044416 then ((impl_labyrinths.f kj13 a0 (t504 ++ [x7_2])).bind fun t510 => (impl_labyrinths.l0 kj13 a0 l1 x5_7 (wrap64 (x6_2 + t510)) (wrap64 (x7_2 + 1)))) else (none))) = some r := by rw [if_pos rfl] at H; exact H
          clear H
          have H := H1
          clear H1
          replace H := Option.bind_eq_some_iff.mp H
          obtain ⟨t504, A180, H⟩ := H
          replace H : (if t504.length < 17592186044416 then ((impl_labyrinths.f kj13 a0 (t504 ++ [x7_2])).bind fun t510 => (impl_labyrinths.l0 kj13 a0 l1 x5_7 (wrap64 (x6_2 + t510)) (wrap64 (x7_2 + 1)))) else (none)) = some r := H
          have A18 := Aside0.mk A180
          clear A180
          by_cases c19 : t504.length < 17592186044416
          ·rw [if_pos c19] at H
           have LMc19 := Aside0.mk c19
           clear c19
           obtain ⟨y507, hy507⟩ : ∃ y_ : List Int, y_ = (t504 ++ [x7_2]) := ⟨_, rfl⟩
           replace H : ((impl_labyrinths.f kj13 a0 y507).bind fun t510 => (impl_labyrinths.l0 kj13 a0 l1 x5_7 (wrap64 (x6_2 + t510)) (wrap64 (x7_2 + 1)))) = some r := by first | (rw [hy507]; with_reducible exact H) | (have H2_ := (Option.bind_some _ _).symm.trans H; rw [hy507]; with_reducible exact H2_) | (have H2_ := (Option.bind_some _ _).symm.trans H; with_reducible exact H2_) | with_reducible exact H | (rw [hy507]; exact H) | exact H
           have Ny507 := Aside0.mk hy507
           clear hy507
           replace H := Option.bind_eq_some_iff.mp H
           obtain ⟨t510, A200, H⟩ := H
           replace H : (impl_labyrinths.l0 kj13 a0 l1 x5_7 (wrap64 (x6_2 + t510)) (wrap64 (x7_2 + 1))) = some r := H
           have A20 := Aside0.mk A200
           clear A200
           have H' := Aside0.mk H
           clear H
           go_wp2_with (first | (refine gl_ 42 Try.func51 #[.slice A1 l1.length c1] ?_; (with_reducible refine (slices_Clone_int_int.calls _ _ l1 t504 _ ?side1 ?side2 A18.out).mono ?_); (case side1 => repeat (first | exact (Kd.C_below HR1.out HB.out) | (with_reducible refine Kd.C_alloc ?_ _) | (with_reducible refine Kd.C_drewN ?_ _) | (with_reducible refine Kd.C_drew ?_))); (case side2 => exact HC1.out); rintro e w21 ⟨v505, rfl, ho0, hb⟩; refine ⟨_, rfl, ?_⟩; have HO506 := Aside0.mk (Kd.R_lower ho0 (below_size (hb0_ HB.out))); replace HB := HB.s0 hb; (try clear hb); (try clear ho0)) | ((with_reducible refine gate_builtin (b := .append) (xs := #[.tmp 42, .tmp 44]) rfl ?_); at_builtin; refine Kd.R_append (Kd.int .i64) (w0 := w) w.heap.size rfl (.tmp 42) (.tmp 44) 22 3 (.int .i64 0) 8 rfl Try.underlying22 info3 rfl (by decide) (by omega) v505 t504 x7_2 [.int .i64 x7_2] (fun _ => True) (fun _ => False) rfl rfl ?aP (fun _ hk => hk.elim) ?aF ?aO ?aB ?aS ?aL ?_; (case aP => exact rfl); (case aB => exact (hb0_ HB.out)); (case aF => exact (fun _ _ => trivial)); (case aO => exact (kr_ HO506.out)); (case aS => exact (below_size (hb0_ HB.out))); (case aL => have := LMc19.out; omega); intro v508 w22 ho hb hg hat; rw [← Ny507.out] at ho; replace HB := Aside0.mk (hb); have HO509 := Aside0.mk (ho); clear HO506; clear ho hb hg hat; obtain ⟨Ao23, co23, eo23⟩ := Kd.R_slice HO509.out; subst eo23) | (refine gl_ 46 Try.func39 #[.int .i64 a0, .slice Ao23 y507.length co23] ?_; (with_reducible refine (ih kj13 (by have := HJ7.out; have := HK2.out; have := HJ13.out; omega) a0 _ _ y507 t510 _ ?side1 ?side2 A20.out).mono ?_); (case side1 => repeat (first | exact (Kd.R_reads' HO509.out).2.2 | (with_reducible refine Kd.C_alloc ?_ _) | (with_reducible refine Kd.C_drewN ?_ _) | (with_reducible refine Kd.C_drew ?_))); (case side2 => exact (Kd.R_reads' HO509.out).2.1); rintro e w24 ⟨rfl, hb⟩; refine ⟨_, rfl, ?_⟩; replace HO509 := HO509.kb hb; replace HB := HB.s0 hb; (try clear hb)))
           go_roundg kj13
           case measure => have := HJ7.out; have := HK2.out; have := HJ13.out; omega
           case rel => exact ⟨(wrap64 (x6_2 + t510)), (wrap64 (x7_2 + 1)), (by first | rfl | (simp; done) | (simp [*]; done)), (by first | rfl | (simp; done) | (simp [*]; done)), H', ⟨by have := HJ7.out; have := HK2.out; have := HJ13.out; omega⟩, ⟨hb0_ HB.out⟩⟩
          ·rw [if_neg c19] at H
           exact absurd H (by simp)
         ·replace c17 := Bool.eq_false_iff.mpr c17
          subst c17
          have H1 : (impl_labyrinths.l0 kj13 a0 l1 x5_7 x6_2 (wrap64 (x7_2 + 1))) = some r := by rw [if_neg (show ¬ (false = true) by decide)] at H; exact H
          clear H
          have H := H1
          clear H1
          have H' := Aside0.mk H
          clear H
          go_wp2
          any_goals (first | exact absurd (of_decide_eq_true c9b1) (by assumption) | exact absurd (by assumption) (of_decide_eq_false c9b1) | skip)
          go_roundg kj13
          case measure => have := HJ7.out; have := HK2.out; have := HJ13.out; omega
          case rel => exact ⟨(x6_2), (wrap64 (x7_2 + 1)), (by first | rfl | (simp; done) | (simp [*]; done)), (by first | rfl | (simp; done) | (simp [*]; done)), H', ⟨by have := HJ7.out; have := HK2.out; have := HJ13.out; omega⟩, ⟨hb0_ HB.out⟩⟩
      ·rw [if_neg c13] at H
       have c13b0 : decide (x7_2 ≤ a0) = false := decide_eq_false c13
       clear c13
       obtain rfl := Option.some.inj H
       go_wp2
       any_goals (first | exact absurd (of_decide_eq_true c9b1) (by assumption) | exact absurd (by assumption) (of_decide_eq_false c9b1) | skip)
       go_ret
       exact ⟨ex_, hb0_ HB.out⟩

end Go.Proofs.Ytkkjlbpffcdlfaa.X
