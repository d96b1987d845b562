-- Written by a program of this session (xprint.py), out of the translation and of hand-written contracts. Lean checks it.
import Derived.Test.YtekgbinadmjapabX0
import Derived.Test.YtekgbinadmjapabXcints
import Derived.Test.YtekgbinadmjapabXspecIsLabyrinth
namespace Go.Proofs.Ytekgbinadmjapab.X
open Go.RowKit Go.Proofs.YtekgbinadmjapabW.PrintWords Go.Proofs.YtekgbinadmjapabW.PrintLast Go.Proofs.YtekgbinadmjapabW.PrintMore
attribute [local go_sem] max2_int min2_int max_two min_two max_three min_three max_four min_four   -- for this text's walks alone
set_option linter.unusedVariables false
set_option linter.unusedSimpArgs false

/-! ### spec_l27Count: function 44 -/
mutual
def spec_l27Count.l0 : Nat → Int → List Int → Int → Int → Option (Int)
 | 0, _, _, _, _ => none
 | k + 1, x0, x1, x5, x6 => if x6 ≤ x0 then (if (x1.length : Int) > 0 then (if 0 ≤ (wrap64 ((x1.length : Int) - 1)) then (if (wrap64 ((x1.length : Int) - 1)) < (x1.length : Int) then (spec_l27Count.j1 k x0 x1 x5 x6 (rd x1 (wrap64 ((x1.length : Int) - 1)))) else (none)) else (none)) else (spec_l27Count.j1 k x0 x1 x5 x6 0)) else (some x5)
def spec_l27Count.j1 : Nat → Int → List Int → Int → Int → Int → Option (Int)
 | 0, _, _, _, _, _ => none
 | k + 1, x0, x1, x5, x6, x7 => (spec_l07In.f k x1 x6).bind fun t503 => (if t503 = true then (spec_l27Count.l0 k x0 x1 x5 (wrap64 (x6 + 1))) else (if (Int.tmod (wrap64 (x6 - x7)) 2) = 0 then (spec_l27Count.l0 k x0 x1 x5 (wrap64 (x6 + 1))) else ((some (([] : List Int) : List Int)).bind fun y504 => (if y504.length + x1.length < 17592186044416 then ((some (y504 ++ x1 : List Int)).bind fun y507 => (if y507.length < 17592186044416 then ((spec_l27Count.f k x0 (y507 ++ [x6])).bind fun t513 => (spec_l27Count.l0 k x0 x1 (wrap64 (x5 + t513)) (wrap64 (x6 + 1)))) else (none))) else (none)))))
def spec_l27Count.f : Nat → Int → List Int → Option (Int)
 | 0, _, _ => none
 | k + 1, a0, l1 => if (l1.length : Int) = a0 then ((spec_IsLabyrinth.f k l1).bind fun t501 => (if t501 = true then (some 1) else (some 0))) else (spec_l27Count.l0 k a0 l1 0 1)
end
theorem spec_l27Count.mono_l : ∀ k, (∀ y0 y1, LeO (spec_l27Count.f k y0 y1) (spec_l27Count.f (k + 1) y0 y1)) ∧ (∀ y0 y1 y2 y3, LeO (spec_l27Count.l0 k y0 y1 y2 y3) (spec_l27Count.l0 (k + 1) y0 y1 y2 y3)) ∧ (∀ y0 y1 y2 y3 y4, LeO (spec_l27Count.j1 k y0 y1 y2 y3 y4) (spec_l27Count.j1 (k + 1) y0 y1 y2 y3 y4))
 | 0 => ⟨fun _ _ r h => by simp [spec_l27Count.f] at h, fun _ _ _ _ r h => by simp [spec_l27Count.l0] at h, fun _ _ _ _ _ r h => by simp [spec_l27Count.j1] at h⟩
 | k + 1 => by
  obtain ⟨ih0, ih1, ih2⟩ := spec_l27Count.mono_l k
  refine ⟨?_, ?_, ?_⟩
  ·intro y0 y1
   unfold spec_l27Count.f
   repeat' first
   | (with_reducible exact ih0 _ _)
   | (with_reducible exact ih1 _ _ _ _)
   | (with_reducible exact ih2 _ _ _ _ _)
   | (with_reducible exact spec_IsLabyrinth.mono _ _)
   | (with_reducible exact spec_l07In.mono _ _ _)
   | (with_reducible exact LeO.refl _)
   | (with_reducible exact LeO.none _)
   | (with_reducible refine LeO.ite ?_ ?_)
   | (with_reducible refine LeO.bind ?_ (fun _ => ?_))
   | exact ih0 _ _
   | exact ih1 _ _ _ _
   | exact ih2 _ _ _ _ _
   | exact spec_IsLabyrinth.mono _ _
   | exact spec_l07In.mono _ _ _
   | exact LeO.none _
   | refine LeO.ite ?_ ?_
   | refine LeO.bind ?_ (fun _ => ?_)
  ·intro y0 y1 y2 y3
   unfold spec_l27Count.l0
   repeat' first
   | (with_reducible exact ih0 _ _)
   | (with_reducible exact ih1 _ _ _ _)
   | (with_reducible exact ih2 _ _ _ _ _)
   | (with_reducible exact spec_IsLabyrinth.mono _ _)
   | (with_reducible exact spec_l07In.mono _ _ _)
   | (with_reducible exact LeO.refl _)
   | (with_reducible exact LeO.none _)
   | (with_reducible refine LeO.ite ?_ ?_)
   | (with_reducible refine LeO.bind ?_ (fun _ => ?_))
   | exact ih0 _ _
   | exact ih1 _ _ _ _
   | exact ih2 _ _ _ _ _
   | exact spec_IsLabyrinth.mono _ _
   | exact spec_l07In.mono _ _ _
   | exact LeO.none _
   | refine LeO.ite ?_ ?_
   | refine LeO.bind ?_ (fun _ => ?_)
  ·intro y0 y1 y2 y3 y4
   unfold spec_l27Count.j1
   repeat' first
   | (with_reducible exact ih0 _ _)
   | (with_reducible exact ih1 _ _ _ _)
   | (with_reducible exact ih2 _ _ _ _ _)
   | (with_reducible exact spec_IsLabyrinth.mono _ _)
   | (with_reducible exact spec_l07In.mono _ _ _)
   | (with_reducible exact LeO.refl _)
   | (with_reducible exact LeO.none _)
   | (with_reducible refine LeO.ite ?_ ?_)
   | (with_reducible refine LeO.bind ?_ (fun _ => ?_))
   | exact ih0 _ _
   | exact ih1 _ _ _ _
   | exact ih2 _ _ _ _ _
   | exact spec_IsLabyrinth.mono _ _
   | exact spec_l07In.mono _ _ _
   | exact LeO.none _
   | refine LeO.ite ?_ ?_
   | refine LeO.bind ?_ (fun _ => ?_)
theorem spec_l27Count.mono : ∀ a0 a1 k, LeO (spec_l27Count.f k a0 a1) (spec_l27Count.f (k + 1) a0 a1) := by
 intro a0 a1 k
 obtain ⟨ih0, ih1, ih2⟩ := spec_l27Count.mono_l k
 exact ih0 a0 a1
set_option maxHeartbeats 8000000 in
set_option maxRecDepth 100000 in
theorem spec_l27Count.calls (k : Nat) : ∀ (a0 : Int) (A1 : Option Addr) (c1 : Nat) (l1 : List Int) (r : Int) (w : World) (hr1 : Kd.C (Kd.int .i64) w A1 l1.length l1) (hc1 : l1.length ≤ c1) (h : spec_l27Count.f k a0 l1 = some r),
  Calls Try.prog 44 #[.int .i64 a0, .slice A1 l1.length c1] w fun e w' => e = .returned (.int .i64 r) ∧ Below w.heap.size w w' := by
 induction k using Nat.strongRecOn with
 | _ k ih =>
 intro a0 A1 c1 l1 r w hr1 hc1 h
 cases k with
 | zero => exact absurd h (by simp [spec_l27Count.f])
 | succ k =>
 simp only [spec_l27Count.f] at h
 have HR1 := Aside0.mk hr1
 have HC1 := Aside0.mk hc1
 clear hr1 hc1
 have HB := Aside0.mk (Below.refl w.heap.size w)
 have H : (if (l1.length : Int) = a0 then ((spec_IsLabyrinth.f k l1).bind fun t501 => (if t501 = true then (some 1) else (some 0))) else (spec_l27Count.l0 k a0 l1 0 1)) = some r := h
 clear h
 by_cases c3 : (l1.length : Int) = a0
 ·rw [if_pos c3] at H
  have c3b0 : ((l1.length : Int) == a0) = true := beq_iff_eq.mpr c3
  have c3b1 : ((l1.length : Int) != a0) = false := bne_eq_false_iff_eq.mpr c3
  clear c3
  replace H := Option.bind_eq_some_iff.mp H
  obtain ⟨t501, A40, H⟩ := H
  replace H : (if t501 = true then (some 1) else (some 0)) = some r := H
  have A4 := Aside0.mk A40
  clear A40
  by_cases c5 : t501 = true
  ·subst c5
   have H1 : (some 1) = some r := by rw [if_pos rfl] at H; exact H
   clear H
   have H := H1
   clear H1
   obtain rfl := Option.some.inj H
   go_enter Try.func44, Try.ntmps44
   go_wp2_with (first | ((with_reducible refine gate_callee (f := 17) rfl ?_); refine goesL_ (some 13) rfl rfl Try.func17 (by kernel_rfl) rfl #[.slice A1 l1.length c1] rfl (ml_) ?_; (with_reducible refine (spec_IsLabyrinth.calls k _ _ l1 true _ ?side1 ?side2 A4.out).mono ?_); (case side1 => repeat (first | exact HR1.out | (with_reducible refine Kd.C_alloc ?_ _) | (with_reducible refine Kd.C_drewN ?_ _) | (with_reducible refine Kd.C_drew ?_))); (case side2 => exact HC1.out); rintro e w6 ⟨rfl, hb⟩; refine ⟨_, rfl, ?_⟩; replace HB := Aside0.mk (below_step (hb0_ HB.out) hb); (try clear hb); (try clear hb2); (try clear hk); (try clear hi)))
   go_ret
   exact ⟨by first | rfl | (simp [errW_none, errW_some] <;> rfl) | (simp [*, errW_none, errW_some] <;> rfl), hb0_ HB.out⟩
  ·replace c5 := Bool.eq_false_iff.mpr c5
   subst c5
   have H1 : (some 0) = some r := by rw [if_neg (show ¬ (false = true) by decide)] at H; exact H
   clear H
   have H := H1
   clear H1
   obtain rfl := Option.some.inj H
   go_enter Try.func44, Try.ntmps44
   go_wp2_with (first | ((with_reducible refine gate_callee (f := 17) rfl ?_); refine goesL_ (some 13) rfl rfl Try.func17 (by kernel_rfl) rfl #[.slice A1 l1.length c1] rfl (ml_) ?_; (with_reducible refine (spec_IsLabyrinth.calls k _ _ l1 false _ ?side1 ?side2 A4.out).mono ?_); (case side1 => repeat (first | exact HR1.out | (with_reducible refine Kd.C_alloc ?_ _) | (with_reducible refine Kd.C_drewN ?_ _) | (with_reducible refine Kd.C_drew ?_))); (case side2 => exact HC1.out); rintro e w7 ⟨rfl, hb⟩; refine ⟨_, rfl, ?_⟩; replace HB := Aside0.mk (below_step (hb0_ HB.out) hb); (try clear hb); (try clear hb2); (try clear hk); (try clear hi)))
   go_ret
   exact ⟨by first | rfl | (simp [errW_none, errW_some] <;> rfl) | (simp [*, errW_none, errW_some] <;> rfl), hb0_ HB.out⟩
 ·rw [if_neg c3] at H
  have c3b0 : ((l1.length : Int) == a0) = false := beq_eq_false_iff_ne.mpr c3
  have c3b1 : ((l1.length : Int) != a0) = true := bne_iff_ne.mpr c3
  have H' := Aside0.mk H
  clear H
  go_enter Try.func44, Try.ntmps44
  go_wp2
  any_goals (first | exact absurd (of_decide_eq_true c10b1) (by assumption) | exact absurd (by assumption) (of_decide_eq_false c10b1) | skip)
  go_loopg [5, 6] k (fun kq v5 v6 w' => ∃ (x5_1 : Int) (x6_1 : Int), v5 = .int .i64 x5_1 ∧ v6 = .int .i64 x6_1 ∧ Aside0 (spec_l27Count.l0 kq a0 l1 x5_1 x6_1 = some r) ∧ Aside0 (kq ≤ k) ∧ Aside0 (Below w.heap.size w w'))
  case atStart => exact ⟨(0), (1), (by first | rfl | (simp; done) | (simp [*]; done)), (by first | rfl | (simp; done) | (simp [*]; done)), H', ⟨Nat.le_refl _⟩, ⟨hb0_ HB.out⟩⟩
  case round =>
   clear H'
   try clear c1
   try clear p2
   try clear c3
   try clear c3b0
   try clear c3b1
   try clear c4
   try clear c5
   obtain ⟨x5_1, x6_1, rfl, rfl, HA, HK1, HB⟩ := hrel
   cases gk with
   | zero => exact absurd HA.out (by simp [spec_l27Count.l0])
   | succ k1 =>
    have H := HA.out
    clear HA
    simp only [spec_l27Count.l0] at H
    by_cases c8 : x6_1 ≤ a0
    ·rw [if_pos c8] at H
     have c8b0 : decide (x6_1 ≤ a0) = true := decide_eq_true c8
     clear c8
     have HC9 := Aside0.mk H
     clear H
     go_upto_if 21 with (fail)
     go_cut [7] (fun v7 wc => ∃ (kq : Nat) (x7_8 : Int), v7 = .int .i64 x7_8 ∧ Aside0 (spec_l27Count.j1 kq a0 l1 x5_1 x6_1 x7_8 = some r) ∧ Aside0 (kq ≤ k1) ∧ Aside0 (Below w.heap.size w wc))
     case first =>
      have H := HC9.out
      clear HC9
      by_cases c10 : (l1.length : Int) > 0
      ·rw [if_pos c10] at H
       have c10b0 : decide (0 < (l1.length : Int)) = true := decide_eq_true c10
       have c10b1 : decide (0 < l1.length) = true := decide_eq_true (by omega)
       clear c10
       (first | rw [c10b0] | (simp only [i64_w, i32_w]; rw [c10b0]) | skip)
       obtain ⟨ji11, hji11⟩ : ∃ j_ : Int, (wrap64 ((l1.length : Int) - 1)) = j_ := ⟨_, rfl⟩
       replace H : (if 0 ≤ (ji11) then (if (ji11) < (l1.length : Int) then (spec_l27Count.j1 k1 a0 l1 x5_1 x6_1 (rd l1 (ji11))) else (none)) else (none)) = some r := by first | (rw [hji11] at H; exact H) | (simp only [hji11] at H ⊢; exact H)
       have hji11w : (IntKind.i64.wrap ((l1.length : Int) - 1)) = ji11 := (i64_w _).trans hji11
       by_cases c12 : 0 ≤ (ji11)
       ·rw [if_pos c12] at H
        have c12b0 : decide (0 ≤ (ji11)) = true := decide_eq_true c12
        clear c12
        by_cases c13 : (ji11) < (l1.length : Int)
        ·rw [if_pos c13] at H
         have c13b0 : decide ((ji11) < (l1.length : Int)) = true := decide_eq_true c13
         clear c13
         have H' := Aside0.mk H
         clear H
         have p502 : 0 ≤ ((ji11) : Int) := of_decide_eq_true (as_)
         have q502 : (ji11) < (l1.length : Int) := of_decide_eq_true (as_)
         obtain ⟨ad502, e502, hx502_0⟩ := Kd.at_int HR1.out (ji11) p502 q502
         cases e502
         replace hx502_0 := (HB.out.cell (World.block_lt_of_cell? w _ hx502_0)).trans hx502_0
         replace p502 := eq_true p502
         replace q502 := eq_true q502
         go_wp2
         any_goals (first | exact absurd (of_decide_eq_true c10b1) (by assumption) | exact absurd (by assumption) (of_decide_eq_false c10b1) | skip)
         go_meet
         case rel => exact ⟨_, (rd l1 (ji11)), (by first | rfl | (simp; done) | (simp only [← hji11] <;> (first | rfl | simp)) | (simp [*]; done)), H', ⟨by have := HK1.out; first | omega | exact Nat.le_refl _⟩, ⟨hb0_ HB.out⟩⟩
        ·rw [if_neg c13] at H
         exact absurd H (by simp)
       ·rw [if_neg c12] at H
        exact absurd H (by simp)
      ·rw [if_neg c10] at H
       have c10b0 : decide (0 < (l1.length : Int)) = false := decide_eq_false c10
       have c10b1 : decide (0 < l1.length) = false := decide_eq_false (by omega)
       clear c10
       (first | rw [c10b0] | (simp only [i64_w, i32_w]; rw [c10b0]) | skip)
       have H' := Aside0.mk H
       clear H
       go_wp2
       any_goals (first | exact absurd (of_decide_eq_true c10b1) (by assumption) | exact absurd (by assumption) (of_decide_eq_false c10b1) | skip)
       go_meet
       case rel => exact ⟨_, (0), (by first | rfl | (simp; done) | (simp [*]; done)), H', ⟨by have := HK1.out; first | omega | exact Nat.le_refl _⟩, ⟨hb0_ HB.out⟩⟩
     case rest =>
      clear HC9
      try clear c1
      try clear p2
      try clear c3
      try clear c3b0
      try clear c3b1
      try clear c4
      try clear c5
      try clear p5
      try clear q5
      try clear hx5
      try clear p6
      try clear c8
      try clear c8b0
      try clear c10
      try clear c10b0
      try clear c10b1
      try clear c12
      try clear c12b0
      try clear c13
      try clear c13b0
      try clear hx502_0
      try clear p2
      try clear p502
      try clear q502
      obtain ⟨kq, x7_8, rfl, HA, HJ8, HB⟩ := hcut
      cases kq with
      | zero => exact absurd HA.out (by simp [spec_l27Count.j1])
      | succ kj8 =>
       have H := HA.out
       clear HA
       simp only [spec_l27Count.j1] at H
       replace H := Option.bind_eq_some_iff.mp H
       obtain ⟨t503, A140, H⟩ := H
       replace H : (if t503 = true then (spec_l27Count.l0 kj8 a0 l1 x5_1 (wrap64 (x6_1 + 1))) else (if (Int.tmod (wrap64 (x6_1 - x7_8)) 2) = 0 then (spec_l27Count.l0 kj8 a0 l1 x5_1 (wrap64 (x6_1 + 1))) else ((some (([] : List Int) : List Int)).bind fun y504 => (if y504.length + l1.length < 17592186044416 then ((some (y504 ++ l1 : List Int)).bind fun y507 => (if y507.length < 17592186044416 then ((spec_l27Count.f kj8 a0 (y507 ++ [x6_1])).bind fun t513 => (spec_l27Count.l0 kj8 a0 l1 (wrap64 (x5_1 + t513)) (wrap64 (x6_1 + 1)))) else (none))) else (none))))) = some r := H
       have A14 := Aside0.mk A140
       clear A140
       by_cases c15 : t503 = true
       ·subst c15
        have H1 : (spec_l27Count.l0 kj8 a0 l1 x5_1 (wrap64 (x6_1 + 1))) = some r := by rw [if_pos rfl] at H; exact H
        clear H
        have H := H1
        clear H1
        have H' := Aside0.mk H
        clear H
        go_wp2_with (first | ((with_reducible refine gate_callee (f := 59) rfl ?_); refine goesL_ (some 30) rfl rfl Try.func59 (by kernel_rfl) rfl #[.slice A1 l1.length c1, .int .i64 x6_1] rfl (ml_) ?_; (with_reducible refine (spec_l07In.calls kj8 _ _ l1 x6_1 true _ ?side1 ?side2 A14.out).mono ?_); (case side1 => repeat (first | exact (Kd.C_below HR1.out HB.out) | (with_reducible refine Kd.C_alloc ?_ _) | (with_reducible refine Kd.C_drewN ?_ _) | (with_reducible refine Kd.C_drew ?_))); (case side2 => exact HC1.out); rintro e w' ⟨rfl, ⟨nd, rfl⟩⟩; refine ⟨_, rfl, ?_⟩))
        go_roundg kj8
        case measure => have := HK1.out; have := HJ8.out; omega
        case rel => exact ⟨(x5_1), (wrap64 (x6_1 + 1)), (by first | rfl | (simp; done) | (simp [*]; done)), (by first | rfl | (simp; done) | (simp [*]; done)), H', ⟨by have := HK1.out; have := HJ8.out; omega⟩, ⟨hb0_ HB.out⟩⟩
       ·replace c15 := Bool.eq_false_iff.mpr c15
        subst c15
        have H1 : (if (Int.tmod (wrap64 (x6_1 - x7_8)) 2) = 0 then (spec_l27Count.l0 kj8 a0 l1 x5_1 (wrap64 (x6_1 + 1))) else ((some (([] : List Int) : List Int)).bind fun y504 => (if y504.length + l1.length < 17592186044416 then ((some (y504 ++ l1 : List Int)).bind fun y507 => (if y507.length < 17592186044416 then ((spec_l27Count.f kj8 a0 (y507 ++ [x6_1])).bind fun t513 => (spec_l27Count.l0 kj8 a0 l1 (wrap64 (x5_1 + t513)) (wrap64 (x6_1 + 1)))) else (none))) else (none)))) = some r := by rw [if_neg (show ¬ (false = true) by decide)] at H; exact H
        clear H
        have H := H1
        clear H1
        by_cases c16 : (Int.tmod (wrap64 (x6_1 - x7_8)) 2) = 0
        ·rw [if_pos c16] at H
         have c16b0 : ((Int.tmod (wrap64 (x6_1 - x7_8)) 2) == 0) = true := beq_iff_eq.mpr c16
         have c16b1 : ((Int.tmod (wrap64 (x6_1 - x7_8)) 2) != 0) = false := bne_eq_false_iff_eq.mpr c16
         clear c16
         have H' := Aside0.mk H
         clear H
         go_wp2_with (first | ((with_reducible refine gate_callee (f := 59) rfl ?_); refine goesL_ (some 30) rfl rfl Try.func59 (by kernel_rfl) rfl #[.slice A1 l1.length c1, .int .i64 x6_1] rfl (ml_) ?_; (with_reducible refine (spec_l07In.calls kj8 _ _ l1 x6_1 false _ ?side1 ?side2 A14.out).mono ?_); (case side1 => repeat (first | exact (Kd.C_below HR1.out HB.out) | (with_reducible refine Kd.C_alloc ?_ _) | (with_reducible refine Kd.C_drewN ?_ _) | (with_reducible refine Kd.C_drew ?_))); (case side2 => exact HC1.out); rintro e w' ⟨rfl, ⟨nd, rfl⟩⟩; refine ⟨_, rfl, ?_⟩))
         go_roundg kj8
         case measure => have := HK1.out; have := HJ8.out; omega
         case rel => exact ⟨(x5_1), (wrap64 (x6_1 + 1)), (by first | rfl | (simp; done) | (simp [*]; done)), (by first | rfl | (simp; done) | (simp [*]; done)), H', ⟨by have := HK1.out; have := HJ8.out; omega⟩, ⟨hb0_ HB.out⟩⟩
        ·rw [if_neg c16] at H
         have c16b0 : ((Int.tmod (wrap64 (x6_1 - x7_8)) 2) == 0) = false := beq_eq_false_iff_ne.mpr c16
         have c16b1 : ((Int.tmod (wrap64 (x6_1 - x7_8)) 2) != 0) = true := bne_iff_ne.mpr c16
         obtain ⟨y504, hy504⟩ : ∃ y_ : List Int, y_ = (([] : List Int)) := ⟨_, rfl⟩
         replace H : (if y504.length + l1.length < 17592186044416 then ((some (y504 ++ l1 : List Int)).bind fun y507 => (if y507.length < 17592186044416 then ((spec_l27Count.f kj8 a0 (y507 ++ [x6_1])).bind fun t513 => (spec_l27Count.l0 kj8 a0 l1 (wrap64 (x5_1 + t513)) (wrap64 (x6_1 + 1)))) else (none))) else (none)) = some r := by first | (rw [hy504]; with_reducible exact H) | (have H2_ := (Option.bind_some _ _).symm.trans H; rw [hy504]; with_reducible exact H2_) | (have H2_ := (Option.bind_some _ _).symm.trans H; with_reducible exact H2_) | with_reducible exact H | (rw [hy504]; exact H) | exact H
         have Ny504 := Aside0.mk hy504
         clear hy504
         by_cases c17 : y504.length + l1.length < 17592186044416
         ·rw [if_pos c17] at H
          have LMc17 := Aside0.mk c17
          clear c17
          obtain ⟨y507, hy507⟩ : ∃ y_ : List Int, y_ = (y504 ++ l1) := ⟨_, rfl⟩
          replace H : (if y507.length < 17592186044416 then ((spec_l27Count.f kj8 a0 (y507 ++ [x6_1])).bind fun t513 => (spec_l27Count.l0 kj8 a0 l1 (wrap64 (x5_1 + t513)) (wrap64 (x6_1 + 1)))) else (none)) = some r := by first | (rw [hy507]; with_reducible exact H) | (have H2_ := (Option.bind_some _ _).symm.trans H; rw [hy507]; with_reducible exact H2_) | (have H2_ := (Option.bind_some _ _).symm.trans H; with_reducible exact H2_) | with_reducible exact H | (rw [hy507]; exact H) | exact H
          have Ny507 := Aside0.mk hy507
          clear hy507
          by_cases c18 : y507.length < 17592186044416
          ·rw [if_pos c18] at H
           have LMc18 := Aside0.mk c18
           clear c18
           obtain ⟨y510, hy510⟩ : ∃ y_ : List Int, y_ = (y507 ++ [x6_1]) := ⟨_, rfl⟩
           replace H : ((spec_l27Count.f kj8 a0 y510).bind fun t513 => (spec_l27Count.l0 kj8 a0 l1 (wrap64 (x5_1 + t513)) (wrap64 (x6_1 + 1)))) = some r := by first | (rw [hy510]; with_reducible exact H) | (have H2_ := (Option.bind_some _ _).symm.trans H; rw [hy510]; with_reducible exact H2_) | (have H2_ := (Option.bind_some _ _).symm.trans H; with_reducible exact H2_) | with_reducible exact H | (rw [hy510]; exact H) | exact H
           have Ny510 := Aside0.mk hy510
           clear hy510
           replace H := Option.bind_eq_some_iff.mp H
           obtain ⟨t513, A190, H⟩ := H
           replace H : (spec_l27Count.l0 kj8 a0 l1 (wrap64 (x5_1 + t513)) (wrap64 (x6_1 + 1))) = some r := H
           have A19 := Aside0.mk A190
           clear A190
           have H' := Aside0.mk H
           clear H
           go_wp2_with (first | ((with_reducible refine gate_callee (f := 59) rfl ?_); refine goesL_ (some 30) rfl rfl Try.func59 (by kernel_rfl) rfl #[.slice A1 l1.length c1, .int .i64 x6_1] rfl (ml_) ?_; (with_reducible refine (spec_l07In.calls kj8 _ _ l1 x6_1 false _ ?side1 ?side2 A14.out).mono ?_); (case side1 => repeat (first | exact (Kd.C_below HR1.out HB.out) | (with_reducible refine Kd.C_alloc ?_ _) | (with_reducible refine Kd.C_drewN ?_ _) | (with_reducible refine Kd.C_drew ?_))); (case side2 => exact HC1.out); rintro e w' ⟨rfl, ⟨nd, rfl⟩⟩; refine ⟨_, rfl, ?_⟩) | ((with_reducible refine gate_dst (N := 41) rfl ?_); refine Kd.R_lit (Kd.int .i64) _ 3 ?hg (N := 41) ?hd (xs := ([] : List Int)) (inner := []) (ok := fun _ => True) (okp := fun _ => True) ?hr ?hp (fun _ hk => hk) trivial (Below.refl _ _) (Nat.le_refl _) (by simp) ?_; (case hd => rfl); (case hg => rfl); (case hr => first | (go_simp; done) | (go_simp; rfl)); (case hp => exact (Reps.none _ _)); intro v505 w20 ho21 hb hg_ hnew_; clear hg_ hnew_; (first | rw [← Ny504.out] at ho21 | (simp only [Int.reduceToNat] at ho21; rw [← Ny504.out] at ho21)); have HO506 := Aside0.mk (Kd.R_lower ho21 (below_size (hb0_ HB.out))); replace HB := Aside0.mk (below_step (hb0_ HB.out) hb); clear hb ho21) | ((with_reducible refine gate_builtin (b := .append) (xs := #[.tmp 41, .tmp 42]) rfl ?_); at_builtin; refine Kd.R_append_rows (Kd.int .i64) (w0 := w) w.heap.size rfl (.tmp 41) (.tmp 42) 24 3 (.int .i64 0) 8 rfl Try.underlying24 info3 rfl (by decide) (by omega) v505 y504 l1 _ _ _ (fun _ => True) (fun _ => False) rfl rfl ?aO ?aR (fun _ _ h => h) (fun _ h => h.elim) ?aF ?aB ?aS ?aL ?_; (case aR => repeat (first | exact (Kd.C_below HR1.out HB.out) | (with_reducible refine Kd.C_alloc ?_ _) | (with_reducible refine Kd.C_drewN ?_ _) | (with_reducible refine Kd.C_drew ?_))); (case aB => exact (hb0_ HB.out)); (case aF => exact (fun _ _ => trivial)); (case aO => exact (kr_ HO506.out)); (case aS => exact (below_size (hb0_ HB.out))); (case aL => have := LMc17.out; omega); intro v508 w22 ho hb hg hat; rw [← Ny507.out] at ho; replace HB := Aside0.mk (hb); have HO509 := Aside0.mk (ho); clear HO506; clear ho hb hg hat) | ((with_reducible refine gate_builtin (b := .append) (xs := #[.tmp 43, .tmp 45]) rfl ?_); at_builtin; refine Kd.R_append (Kd.int .i64) (w0 := w) w.heap.size rfl (.tmp 43) (.tmp 45) 24 3 (.int .i64 0) 8 rfl Try.underlying24 info3 rfl (by decide) (by omega) v508 y507 x6_1 [.int .i64 x6_1] (fun _ => True) (fun _ => False) rfl rfl ?aP (fun _ hk => hk.elim) ?aF ?aO ?aB ?aS ?aL ?_; (case aP => exact rfl); (case aB => exact (hb0_ HB.out)); (case aF => exact (fun _ _ => trivial)); (case aO => exact (kr_ HO509.out)); (case aS => exact (below_size (hb0_ HB.out))); (case aL => have := LMc18.out; omega); intro v511 w23 ho hb hg hat; rw [← Ny510.out] at ho; replace HB := Aside0.mk (hb); have HO512 := Aside0.mk (ho); clear HO509; clear ho hb hg hat; obtain ⟨Ao24, co24, eo24⟩ := Kd.R_slice HO512.out; subst eo24) | ((with_reducible refine gate_callee (f := 44) rfl ?_); refine goesL_ (some 47) rfl rfl Try.func44 (by kernel_rfl) rfl #[.int .i64 a0, .slice Ao24 y510.length co24] rfl (ml_) ?_; (with_reducible refine (ih kj8 (by have := HK1.out; have := HJ8.out; omega) a0 _ _ y510 t513 _ ?side1 ?side2 A19.out).mono ?_); (case side1 => repeat (first | exact (Kd.R_reads' HO512.out).2.2 | (with_reducible refine Kd.C_alloc ?_ _) | (with_reducible refine Kd.C_drewN ?_ _) | (with_reducible refine Kd.C_drew ?_))); (case side2 => exact (Kd.R_reads' HO512.out).2.1); rintro e w25 ⟨rfl, hb⟩; refine ⟨_, rfl, ?_⟩; replace HO512 := Aside0.mk (Kd.R_below (kr_ HO512.out) hb); replace HB := Aside0.mk (below_step (hb0_ HB.out) hb); (try clear hb); (try clear hb2); (try clear hk); (try clear hi)))
           go_roundg kj8
           case measure => have := HK1.out; have := HJ8.out; omega
           case rel => exact ⟨(wrap64 (x5_1 + t513)), (wrap64 (x6_1 + 1)), (by first | rfl | (simp; done) | (simp [*]; done)), (by first | rfl | (simp; done) | (simp [*]; done)), H', ⟨by have := HK1.out; have := HJ8.out; omega⟩, ⟨hb0_ HB.out⟩⟩
          ·rw [if_neg c18] at H
           exact absurd H (by simp)
         ·rw [if_neg c17] at H
          exact absurd H (by simp)
    ·rw [if_neg c8] at H
     have c8b0 : decide (x6_1 ≤ a0) = false := decide_eq_false c8
     clear c8
     obtain rfl := Option.some.inj H
     go_wp2
     any_goals (first | exact absurd (of_decide_eq_true c10b1) (by assumption) | exact absurd (by assumption) (of_decide_eq_false c10b1) | skip)
     go_ret
     exact ⟨by first | rfl | (simp [errW_none, errW_some] <;> rfl) | (simp [*, errW_none, errW_some] <;> rfl), hb0_ HB.out⟩

end Go.Proofs.Ytekgbinadmjapab.X
