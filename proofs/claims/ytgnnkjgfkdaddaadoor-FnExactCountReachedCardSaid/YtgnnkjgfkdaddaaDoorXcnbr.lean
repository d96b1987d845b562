-- Written by a program of this session (xprint.py), out of the translation and of hand-written contracts. Lean checks it.
import Derived.Test.YtgnnkjgfkdaddaaDoorX0
import Derived.Test.YtgnnkjgfkdaddaaDoorXcgaps
import Derived.Test.YtgnnkjgfkdaddaaDoorXcgrid
namespace Go.Proofs.YtgnnkjgfkdaddaaDoor.X
open Go.RowKit Go.Proofs.YtgnnkjgfkdaddaaDoorW.PrintWords Go.Proofs.YtgnnkjgfkdaddaaDoorW.PrintLast Go.Proofs.YtgnnkjgfkdaddaaDoorW.PrintMore
attribute [local go_sem] max2_int min2_int max_two min_two max_three min_three max_four min_four   -- for this text's walks alone
set_option linter.unusedVariables false
set_option linter.unusedSimpArgs false

/-! ### spec_Neighbor: function 38 -/
def spec_Neighbor.j0 : Nat → Int → Int → Int → Int → Option (Int)
 | 0, _, _, _, _ => none
 | k + 1, x7, x8, x502000, x502001 => (spec_l01In.f x7 0 (wrap64 (x502000 - 1))).bind fun t504 => (if t504 = true then ((spec_l01In.f x8 0 (wrap64 (x502001 - 1))).bind fun t505 => (if t505 = true then (some (wrap64 ((wrap64 (x8 * x502000)) + x7))) else (some (-1)))) else (some (-1)))
def spec_Neighbor.f (k : Nat) (a0_0 : Int) (a0_1 : Int) (a1 : Int) (a2 : Int) : Option (Int) := (spec_CountCells.f a0_0 a0_1).bind fun t502 => ((spec_l01In.f a1 0 (wrap64 (t502 - 1))).bind fun t503 => (if t503 = true then (if a0_0 = 0 then (none) else (if a2 = 0 then (spec_Neighbor.j0 k (Int.tmod a1 a0_0) (wrap64 ((wrap64 (Int.tdiv a1 a0_0)) - 1)) a0_0 a0_1) else (if a2 = 1 then (spec_Neighbor.j0 k (wrap64 ((Int.tmod a1 a0_0) + 1)) (wrap64 (Int.tdiv a1 a0_0)) a0_0 a0_1) else (if a2 = 2 then (spec_Neighbor.j0 k (Int.tmod a1 a0_0) (wrap64 ((wrap64 (Int.tdiv a1 a0_0)) + 1)) a0_0 a0_1) else (if a2 = 3 then (spec_Neighbor.j0 k (wrap64 ((Int.tmod a1 a0_0) - 1)) (wrap64 (Int.tdiv a1 a0_0)) a0_0 a0_1) else (some (-1))))))) else (some (-1))))
theorem spec_Neighbor.mono_l : ∀ k, (∀ y0 y1 y2 y3, LeO (spec_Neighbor.j0 k y0 y1 y2 y3) (spec_Neighbor.j0 (k + 1) y0 y1 y2 y3))
 | 0 => fun _ _ _ _ r h => by simp [spec_Neighbor.j0] at h
 | k + 1 => by
  have ih0 := spec_Neighbor.mono_l k
  ·intro y0 y1 y2 y3
   unfold spec_Neighbor.j0
   repeat' first
   | (with_reducible exact ih0 ..)
   | (with_reducible first | exact lr_ _ | exact ln_ _ | refine li_ ?_ ?_ | refine lb_ ?_ fun _ => ?_)
   | exact ih0 ..
   | exact ln_ _ | refine li_ ?_ ?_ | refine lb_ ?_ fun _ => ?_
theorem spec_Neighbor.mono : ∀ a0 a1 a2 a3 k, LeO (spec_Neighbor.f k a0 a1 a2 a3) (spec_Neighbor.f (k + 1) a0 a1 a2 a3) := by
 intro a0 a1 a2 a3 k
 have ih0 := spec_Neighbor.mono_l k
 unfold spec_Neighbor.f
 repeat' first
   | (with_reducible exact ih0 ..)
   | (with_reducible first | exact lr_ _ | exact ln_ _ | refine li_ ?_ ?_ | refine lb_ ?_ fun _ => ?_)
   | exact ih0 ..
   | exact ln_ _ | refine li_ ?_ ?_ | refine lb_ ?_ fun _ => ?_
set_option maxHeartbeats 8000000 in
set_option maxRecDepth 100000 in
theorem spec_Neighbor.calls (k : Nat) (a0_0 : Int) (a0_1 : Int) (a1 : Int) (a2 : Int) (r : Int) (w : World) (h : spec_Neighbor.f k a0_0 a0_1 a1 a2 = some r) :
  Calls Tryd.prog 38 #[.agg #[.int .i64 a0_0, .int .i64 a0_1], .int .i64 a1, .int .i64 a2] w fun e w' => e = .returned (.int .i64 r) ∧ Below w.heap.size w w' := by
 have hu28 := Tryd.underlying28
 have HB := Aside0.mk (Below.refl w.heap.size w)
 have H : ((spec_CountCells.f a0_0 a0_1).bind fun t502 => ((spec_l01In.f a1 0 (wrap64 (t502 - 1))).bind fun t503 => (if t503 = true then (if a0_0 = 0 then (none) else (if a2 = 0 then (spec_Neighbor.j0 k (Int.tmod a1 a0_0) (wrap64 ((wrap64 (Int.tdiv a1 a0_0)) - 1)) a0_0 a0_1) else (if a2 = 1 then (spec_Neighbor.j0 k (wrap64 ((Int.tmod a1 a0_0) + 1)) (wrap64 (Int.tdiv a1 a0_0)) a0_0 a0_1) else (if a2 = 2 then (spec_Neighbor.j0 k (Int.tmod a1 a0_0) (wrap64 ((wrap64 (Int.tdiv a1 a0_0)) + 1)) a0_0 a0_1) else (if a2 = 3 then (spec_Neighbor.j0 k (wrap64 ((Int.tmod a1 a0_0) - 1)) (wrap64 (Int.tdiv a1 a0_0)) a0_0 a0_1) else (some (-1))))))) else (some (-1))))) = some r := h
 clear h
 replace H := Option.bind_eq_some_iff.mp H
 obtain ⟨t502, A40, H⟩ := H
 replace H : ((spec_l01In.f a1 0 (wrap64 (t502 - 1))).bind fun t503 => (if t503 = true then (if a0_0 = 0 then (none) else (if a2 = 0 then (spec_Neighbor.j0 k (Int.tmod a1 a0_0) (wrap64 ((wrap64 (Int.tdiv a1 a0_0)) - 1)) a0_0 a0_1) else (if a2 = 1 then (spec_Neighbor.j0 k (wrap64 ((Int.tmod a1 a0_0) + 1)) (wrap64 (Int.tdiv a1 a0_0)) a0_0 a0_1) else (if a2 = 2 then (spec_Neighbor.j0 k (Int.tmod a1 a0_0) (wrap64 ((wrap64 (Int.tdiv a1 a0_0)) + 1)) a0_0 a0_1) else (if a2 = 3 then (spec_Neighbor.j0 k (wrap64 ((Int.tmod a1 a0_0) - 1)) (wrap64 (Int.tdiv a1 a0_0)) a0_0 a0_1) else (some (-1))))))) else (some (-1)))) = some r := H
 have A4 := Aside0.mk A40
 clear A40
 replace H := Option.bind_eq_some_iff.mp H
 obtain ⟨t503, A50, H⟩ := H
 replace H : (if t503 = true then (if a0_0 = 0 then (none) else (if a2 = 0 then (spec_Neighbor.j0 k (Int.tmod a1 a0_0) (wrap64 ((wrap64 (Int.tdiv a1 a0_0)) - 1)) a0_0 a0_1) else (if a2 = 1 then (spec_Neighbor.j0 k (wrap64 ((Int.tmod a1 a0_0) + 1)) (wrap64 (Int.tdiv a1 a0_0)) a0_0 a0_1) else (if a2 = 2 then (spec_Neighbor.j0 k (Int.tmod a1 a0_0) (wrap64 ((wrap64 (Int.tdiv a1 a0_0)) + 1)) a0_0 a0_1) else (if a2 = 3 then (spec_Neighbor.j0 k (wrap64 ((Int.tmod a1 a0_0) - 1)) (wrap64 (Int.tdiv a1 a0_0)) a0_0 a0_1) else (some (-1))))))) else (some (-1))) = some r := H
 have A5 := Aside0.mk A50
 clear A50
 by_cases c6 : t503 = true
 ·subst c6
  have H1 : (if a0_0 = 0 then (none) else (if a2 = 0 then (spec_Neighbor.j0 k (Int.tmod a1 a0_0) (wrap64 ((wrap64 (Int.tdiv a1 a0_0)) - 1)) a0_0 a0_1) else (if a2 = 1 then (spec_Neighbor.j0 k (wrap64 ((Int.tmod a1 a0_0) + 1)) (wrap64 (Int.tdiv a1 a0_0)) a0_0 a0_1) else (if a2 = 2 then (spec_Neighbor.j0 k (Int.tmod a1 a0_0) (wrap64 ((wrap64 (Int.tdiv a1 a0_0)) + 1)) a0_0 a0_1) else (if a2 = 3 then (spec_Neighbor.j0 k (wrap64 ((Int.tmod a1 a0_0) - 1)) (wrap64 (Int.tdiv a1 a0_0)) a0_0 a0_1) else (some (-1))))))) = some r := by rw [if_pos rfl] at H; exact H
  clear H
  have H := H1
  clear H1
  by_cases c7 : a0_0 = 0
  ·rw [if_pos c7] at H
   exact absurd H (by simp)
  ·rw [if_neg c7] at H
   have c7b0 : (a0_0 == 0) = false := beq_eq_false_iff_ne.mpr c7
   have c7b1 : (a0_0 != 0) = true := bne_iff_ne.mpr c7
   have HC8 := Aside0.mk H
   clear H
   go_enter Tryd.func38, Tryd.ntmps38
   go_upto_block 0 with (first | (refine box_ (N := 3) (cs := #[.int .i64 a0_0, .int .i64 a0_1]) (t := 28) ?_; intro gb501 hg w9 hbox hb; have BK501 := Aside0.mk (hbox); have GW501 := HB.g0 hg; have GE501 := HB.g0 hg; replace HB := HB.s0 hb; clear hb hbox hg; obtain ⟨hcz10_0, hcz10_1⟩ := cz2_ BK501.out; obtain ⟨hfz10_0, hfz10_1⟩ := fz2_ BK501.out) | (refine gl_ 11 Tryd.func10 #[.agg #[.int .i64 a0_0, .int .i64 a0_1]] ?_; (with_reducible refine (spec_CountCells.calls a0_0 a0_1 t502 _ A4.out).mono ?_); rintro e w11 ⟨rfl, hb⟩; refine ⟨_, rfl, ?_⟩; replace BK501 := BK501.bb hb; replace HB := HB.s1 GE501 hb; (try clear hb)) | (refine gl_ 13 Tryd.func25 #[.int .i64 a1, .int .i64 0, .int .i64 (wrap64 (t502 - 1))] ?_; (with_reducible refine (spec_l01In.calls a1 0 (wrap64 (t502 - 1)) true _ A5.out).mono ?_); rintro e w' ⟨rfl, ⟨nd, rfl⟩⟩; refine ⟨_, rfl, ?_⟩; obtain ⟨hcz12_0, hcz12_1⟩ := cz2_ BK501.out; obtain ⟨hfz12_0, hfz12_1⟩ := fz2_ BK501.out))
   (try simp only [Act.put, List.setIfInBounds_toArray, List.set_cons_zero, List.set_cons_succ])
   go_cut [7, 8] (fun v7 v8 wc => ∃ (kq : Nat) (x7_7 : Int) (x8_7 : Int), v7 = .int .i64 x7_7 ∧ v8 = .int .i64 x8_7 ∧ Aside0 (spec_Neighbor.j0 kq x7_7 x8_7 a0_0 a0_1 = some r) ∧ Aside0 (kq ≤ k) ∧ Aside0 (wc.heap[gb501]? = some (.cells #[.int .i64 a0_0, .int .i64 a0_1] 28 (0, 0))) ∧ Aside0 (Below w.heap.size w wc))
   case first =>
    have H := HC8.out
    clear HC8
    by_cases c13 : a2 = 0
    ·rw [if_pos c13] at H
     have c13b0 : (a2 == 0) = true := beq_iff_eq.mpr c13
     have c13b1 : (a2 != 0) = false := bne_eq_false_iff_eq.mpr c13
     clear c13
     (first | rw [c13b0] | (simp only [i64_w, i32_w]; rw [c13b0]) | skip)
     have H' := Aside0.mk H
     clear H
     go_wp2
     go_meet
     case rel => exact ⟨_, (Int.tmod a1 a0_0), (wrap64 ((wrap64 (Int.tdiv a1 a0_0)) - 1)), (by first | rfl | (simp; done) | (simp [*]; done)), (by first | rfl | (simp; done) | (simp [*]; done)), H', ⟨by first | omega | exact Nat.le_refl _⟩, ⟨bk_ BK501.out⟩, ⟨hb1_ HB.out GE501.out⟩⟩
    ·rw [if_neg c13] at H
     have c13b0 : (a2 == 0) = false := beq_eq_false_iff_ne.mpr c13
     have c13b1 : (a2 != 0) = true := bne_iff_ne.mpr c13
     (first | rw [c13b0] | (simp only [i64_w, i32_w]; rw [c13b0]) | skip)
     by_cases c14 : a2 = 1
     ·rw [if_pos c14] at H
      have c14b0 : (a2 == 1) = true := beq_iff_eq.mpr c14
      have c14b1 : (a2 != 1) = false := bne_eq_false_iff_eq.mpr c14
      clear c14
      have H' := Aside0.mk H
      clear H
      go_wp2
      go_meet
      case rel => exact ⟨_, (wrap64 ((Int.tmod a1 a0_0) + 1)), (wrap64 (Int.tdiv a1 a0_0)), (by first | rfl | (simp; done) | (simp [*]; done)), (by first | rfl | (simp; done) | (simp [*]; done)), H', ⟨by first | omega | exact Nat.le_refl _⟩, ⟨bk_ BK501.out⟩, ⟨hb1_ HB.out GE501.out⟩⟩
     ·rw [if_neg c14] at H
      have c14b0 : (a2 == 1) = false := beq_eq_false_iff_ne.mpr c14
      have c14b1 : (a2 != 1) = true := bne_iff_ne.mpr c14
      by_cases c15 : a2 = 2
      ·rw [if_pos c15] at H
       have c15b0 : (a2 == 2) = true := beq_iff_eq.mpr c15
       have c15b1 : (a2 != 2) = false := bne_eq_false_iff_eq.mpr c15
       clear c15
       have H' := Aside0.mk H
       clear H
       go_wp2
       go_meet
       case rel => exact ⟨_, (Int.tmod a1 a0_0), (wrap64 ((wrap64 (Int.tdiv a1 a0_0)) + 1)), (by first | rfl | (simp; done) | (simp [*]; done)), (by first | rfl | (simp; done) | (simp [*]; done)), H', ⟨by first | omega | exact Nat.le_refl _⟩, ⟨bk_ BK501.out⟩, ⟨hb1_ HB.out GE501.out⟩⟩
      ·rw [if_neg c15] at H
       have c15b0 : (a2 == 2) = false := beq_eq_false_iff_ne.mpr c15
       have c15b1 : (a2 != 2) = true := bne_iff_ne.mpr c15
       by_cases c16 : a2 = 3
       ·rw [if_pos c16] at H
        have c16b0 : (a2 == 3) = true := beq_iff_eq.mpr c16
        have c16b1 : (a2 != 3) = false := bne_eq_false_iff_eq.mpr c16
        clear c16
        have H' := Aside0.mk H
        clear H
        go_wp2
        go_meet
        case rel => exact ⟨_, (wrap64 ((Int.tmod a1 a0_0) - 1)), (wrap64 (Int.tdiv a1 a0_0)), (by first | rfl | (simp; done) | (simp [*]; done)), (by first | rfl | (simp; done) | (simp [*]; done)), H', ⟨by first | omega | exact Nat.le_refl _⟩, ⟨bk_ BK501.out⟩, ⟨hb1_ HB.out GE501.out⟩⟩
       ·rw [if_neg c16] at H
        have c16b0 : (a2 == 3) = false := beq_eq_false_iff_ne.mpr c16
        have c16b1 : (a2 != 3) = true := bne_iff_ne.mpr c16
        obtain rfl := Option.some.inj H
        go_wp2
        go_ret
        exact ⟨ex_, hb1_ HB.out GE501.out⟩
   case rest =>
    clear HC8
    try clear c1
    try clear c2
    try clear p2
    try clear c3
    try clear c6
    try clear p6
    try clear c7
    try clear c7b0
    try clear c7b1
    try clear c10
    try clear c13
    try clear c13b0
    try clear c13b1
    try clear c14
    try clear c14b0
    try clear c14b1
    try clear c15
    try clear c15b0
    try clear c15b1
    try clear c16
    try clear c16b0
    try clear c16b1
    try clear hcz10_0
    try clear hcz10_1
    try clear hcz12_0
    try clear hcz12_1
    try clear hfz10_0
    try clear hfz10_1
    try clear hfz12_0
    try clear hfz12_1
    obtain ⟨kq, x7_7, x8_7, rfl, rfl, HA, HJ7, BK501, HB⟩ := hcut
    cases kq with
    | zero => exact absurd HA.out (by simp [spec_Neighbor.j0])
    | succ kj7 =>
     have H := HA.out
     clear HA
     simp only [spec_Neighbor.j0] at H
     replace H := Option.bind_eq_some_iff.mp H
     obtain ⟨t504, A170, H⟩ := H
     replace H : (if t504 = true then ((spec_l01In.f x8_7 0 (wrap64 (a0_1 - 1))).bind fun t505 => (if t505 = true then (some (wrap64 ((wrap64 (x8_7 * a0_0)) + x7_7))) else (some (-1)))) else (some (-1))) = some r := H
     have A17 := Aside0.mk A170
     clear A170
     by_cases c18 : t504 = true
     ·subst c18
      have H1 : ((spec_l01In.f x8_7 0 (wrap64 (a0_1 - 1))).bind fun t505 => (if t505 = true then (some (wrap64 ((wrap64 (x8_7 * a0_0)) + x7_7))) else (some (-1)))) = some r := by rw [if_pos rfl] at H; exact H
      clear H
      have H := H1
      clear H1
      replace H := Option.bind_eq_some_iff.mp H
      obtain ⟨t505, A190, H⟩ := H
      replace H : (if t505 = true then (some (wrap64 ((wrap64 (x8_7 * a0_0)) + x7_7))) else (some (-1))) = some r := H
      have A19 := Aside0.mk A190
      clear A190
      by_cases c20 : t505 = true
      ·subst c20
       have H1 : (some (wrap64 ((wrap64 (x8_7 * a0_0)) + x7_7))) = some r := by rw [if_pos rfl] at H; exact H
       clear H
       have H := H1
       clear H1
       obtain rfl := Option.some.inj H
       obtain ⟨hcz21_0, hcz21_1⟩ := cz2_ BK501.out
       obtain ⟨hfz21_0, hfz21_1⟩ := fz2_ BK501.out
       go_wp2_with (first | (refine gl_ 44 Tryd.func25 #[.int .i64 x7_7, .int .i64 0, .int .i64 (wrap64 (a0_0 - 1))] ?_; (with_reducible refine (spec_l01In.calls x7_7 0 (wrap64 (a0_0 - 1)) true _ A17.out).mono ?_); rintro e w' ⟨rfl, ⟨nd, rfl⟩⟩; refine ⟨_, rfl, ?_⟩) | (go_at_call 25; (with_reducible refine (spec_l01In.calls x8_7 0 (wrap64 (a0_1 - 1)) true _ A19.out).mono ?_); rintro e w' ⟨rfl, ⟨nd, rfl⟩⟩))
       go_ret
       exact ⟨ex_, hb1_ HB.out GE501.out⟩
      ·replace c20 := Bool.eq_false_iff.mpr c20
       subst c20
       have H1 : (some (-1)) = some r := by rw [if_neg (show ¬ (false = true) by decide)] at H; exact H
       clear H
       have H := H1
       clear H1
       obtain rfl := Option.some.inj H
       obtain ⟨hcz22_0, hcz22_1⟩ := cz2_ BK501.out
       obtain ⟨hfz22_0, hfz22_1⟩ := fz2_ BK501.out
       go_wp2_with (first | (refine gl_ 44 Tryd.func25 #[.int .i64 x7_7, .int .i64 0, .int .i64 (wrap64 (a0_0 - 1))] ?_; (with_reducible refine (spec_l01In.calls x7_7 0 (wrap64 (a0_0 - 1)) true _ A17.out).mono ?_); rintro e w' ⟨rfl, ⟨nd, rfl⟩⟩; refine ⟨_, rfl, ?_⟩) | (go_at_call 25; (with_reducible refine (spec_l01In.calls x8_7 0 (wrap64 (a0_1 - 1)) false _ A19.out).mono ?_); rintro e w' ⟨rfl, ⟨nd, rfl⟩⟩))
       go_ret
       exact ⟨ex_, hb1_ HB.out GE501.out⟩
     ·replace c18 := Bool.eq_false_iff.mpr c18
      subst c18
      have H1 : (some (-1)) = some r := by rw [if_neg (show ¬ (false = true) by decide)] at H; exact H
      clear H
      have H := H1
      clear H1
      obtain rfl := Option.some.inj H
      obtain ⟨hcz23_0, hcz23_1⟩ := cz2_ BK501.out
      obtain ⟨hfz23_0, hfz23_1⟩ := fz2_ BK501.out
      go_wp2_with (first | (refine gl_ 44 Tryd.func25 #[.int .i64 x7_7, .int .i64 0, .int .i64 (wrap64 (a0_0 - 1))] ?_; (with_reducible refine (spec_l01In.calls x7_7 0 (wrap64 (a0_0 - 1)) false _ A17.out).mono ?_); rintro e w' ⟨rfl, ⟨nd, rfl⟩⟩; refine ⟨_, rfl, ?_⟩))
      go_ret
      exact ⟨ex_, hb1_ HB.out GE501.out⟩
 ·replace c6 := Bool.eq_false_iff.mpr c6
  subst c6
  have H1 : (some (-1)) = some r := by rw [if_neg (show ¬ (false = true) by decide)] at H; exact H
  clear H
  have H := H1
  clear H1
  obtain rfl := Option.some.inj H
  go_enter Tryd.func38, Tryd.ntmps38
  go_wp2_with (first | (refine box_ (N := 3) (cs := #[.int .i64 a0_0, .int .i64 a0_1]) (t := 28) ?_; intro gb501 hg w24 hbox hb; have BK501 := Aside0.mk (hbox); have GW501 := HB.g0 hg; have GE501 := HB.g0 hg; replace HB := HB.s0 hb; clear hb hbox hg; obtain ⟨hcz25_0, hcz25_1⟩ := cz2_ BK501.out; obtain ⟨hfz25_0, hfz25_1⟩ := fz2_ BK501.out) | (refine gl_ 11 Tryd.func10 #[.agg #[.int .i64 a0_0, .int .i64 a0_1]] ?_; (with_reducible refine (spec_CountCells.calls a0_0 a0_1 t502 _ A4.out).mono ?_); rintro e w26 ⟨rfl, hb⟩; refine ⟨_, rfl, ?_⟩; replace BK501 := BK501.bb hb; replace HB := HB.s1 GE501 hb; (try clear hb)) | (refine gl_ 13 Tryd.func25 #[.int .i64 a1, .int .i64 0, .int .i64 (wrap64 (t502 - 1))] ?_; (with_reducible refine (spec_l01In.calls a1 0 (wrap64 (t502 - 1)) false _ A5.out).mono ?_); rintro e w' ⟨rfl, ⟨nd, rfl⟩⟩; refine ⟨_, rfl, ?_⟩))
  go_ret
  exact ⟨ex_, hb1_ HB.out GE501.out⟩

/-! ### spec_GapAt: function 37 -/
def spec_GapAt.f (k : Nat) (a0_0 : Int) (a0_1 : Int) (a1 : Int) (a2 : Int) : Option (Int) := (spec_Neighbor.f k a0_0 a0_1 a1 a2).bind fun t502 => (if t502 < 0 then (some (-1)) else (if a2 = 1 then (if a0_0 = 0 then (none) else (some (wrap64 ((wrap64 ((wrap64 (Int.tdiv (mn a1 t502) a0_0)) * (wrap64 (a0_0 - 1)))) + (Int.tmod (mn a1 t502) a0_0))))) else (if a2 = 3 then (if a0_0 = 0 then (none) else (some (wrap64 ((wrap64 ((wrap64 (Int.tdiv (mn a1 t502) a0_0)) * (wrap64 (a0_0 - 1)))) + (Int.tmod (mn a1 t502) a0_0))))) else ((spec_l02East.f a0_0 a0_1).bind fun t503 => (some (wrap64 (t503 + (mn a1 t502))))))))
theorem spec_GapAt.mono : ∀ a0 a1 a2 a3 k, LeO (spec_GapAt.f k a0 a1 a2 a3) (spec_GapAt.f (k + 1) a0 a1 a2 a3) := by
 intro a0 a1 a2 a3 k
 unfold spec_GapAt.f
 repeat' first
   | (with_reducible exact spec_Neighbor.mono ..)
   | (with_reducible first | exact lr_ _ | exact ln_ _ | refine li_ ?_ ?_ | refine lb_ ?_ fun _ => ?_)
   | exact spec_Neighbor.mono ..
   | exact ln_ _ | refine li_ ?_ ?_ | refine lb_ ?_ fun _ => ?_
set_option maxHeartbeats 8000000 in
set_option maxRecDepth 100000 in
theorem spec_GapAt.calls (k : Nat) (a0_0 : Int) (a0_1 : Int) (a1 : Int) (a2 : Int) (r : Int) (w : World) (h : spec_GapAt.f k a0_0 a0_1 a1 a2 = some r) :
  Calls Tryd.prog 37 #[.agg #[.int .i64 a0_0, .int .i64 a0_1], .int .i64 a1, .int .i64 a2] w fun e w' => e = .returned (.int .i64 r) ∧ Below w.heap.size w w' := by
 have hu28 := Tryd.underlying28
 have HB := Aside0.mk (Below.refl w.heap.size w)
 have H : ((spec_Neighbor.f k a0_0 a0_1 a1 a2).bind fun t502 => (if t502 < 0 then (some (-1)) else (if a2 = 1 then (if a0_0 = 0 then (none) else (some (wrap64 ((wrap64 ((wrap64 (Int.tdiv (mn a1 t502) a0_0)) * (wrap64 (a0_0 - 1)))) + (Int.tmod (mn a1 t502) a0_0))))) else (if a2 = 3 then (if a0_0 = 0 then (none) else (some (wrap64 ((wrap64 ((wrap64 (Int.tdiv (mn a1 t502) a0_0)) * (wrap64 (a0_0 - 1)))) + (Int.tmod (mn a1 t502) a0_0))))) else ((spec_l02East.f a0_0 a0_1).bind fun t503 => (some (wrap64 (t503 + (mn a1 t502))))))))) = some r := h
 clear h
 replace H := Option.bind_eq_some_iff.mp H
 obtain ⟨t502, A40, H⟩ := H
 replace H : (if t502 < 0 then (some (-1)) else (if a2 = 1 then (if a0_0 = 0 then (none) else (some (wrap64 ((wrap64 ((wrap64 (Int.tdiv (mn a1 t502) a0_0)) * (wrap64 (a0_0 - 1)))) + (Int.tmod (mn a1 t502) a0_0))))) else (if a2 = 3 then (if a0_0 = 0 then (none) else (some (wrap64 ((wrap64 ((wrap64 (Int.tdiv (mn a1 t502) a0_0)) * (wrap64 (a0_0 - 1)))) + (Int.tmod (mn a1 t502) a0_0))))) else ((spec_l02East.f a0_0 a0_1).bind fun t503 => (some (wrap64 (t503 + (mn a1 t502)))))))) = some r := H
 have A4 := Aside0.mk A40
 clear A40
 by_cases c5 : t502 < 0
 ·rw [if_pos c5] at H
  have c5b0 : decide (t502 < 0) = true := decide_eq_true c5
  clear c5
  obtain rfl := Option.some.inj H
  go_enter Tryd.func37, Tryd.ntmps37
  go_wp2_with (first | (refine box_ (N := 3) (cs := #[.int .i64 a0_0, .int .i64 a0_1]) (t := 28) ?_; intro gb501 hg w6 hbox hb; have BK501 := Aside0.mk (hbox); have GW501 := HB.g0 hg; have GE501 := HB.g0 hg; replace HB := HB.s0 hb; clear hb hbox hg; obtain ⟨hcz7_0, hcz7_1⟩ := cz2_ BK501.out; obtain ⟨hfz7_0, hfz7_1⟩ := fz2_ BK501.out) | (go_at_call 38; (with_reducible refine (spec_Neighbor.calls k a0_0 a0_1 a1 a2 t502 _ A4.out).mono ?_); rintro e w8 ⟨rfl, hb⟩; replace BK501 := BK501.bb hb; replace HB := HB.s1 GE501 hb; (try clear hb)))
  repeat (go_quiet (first | (refine box_ (N := 3) (cs := #[.int .i64 a0_0, .int .i64 a0_1]) (t := 28) ?_; intro gb501 hg w6 hbox hb; have BK501 := Aside0.mk (hbox); have GW501 := HB.g0 hg; have GE501 := HB.g0 hg; replace HB := HB.s0 hb; clear hb hbox hg; obtain ⟨hcz7_0, hcz7_1⟩ := cz2_ BK501.out; obtain ⟨hfz7_0, hfz7_1⟩ := fz2_ BK501.out) | (go_at_call 38; (with_reducible refine (spec_Neighbor.calls k a0_0 a0_1 a1 a2 t502 _ A4.out).mono ?_); rintro e w8 ⟨rfl, hb⟩; replace BK501 := BK501.bb hb; replace HB := HB.s1 GE501 hb; (try clear hb))); try go_wp2_with (first | (refine box_ (N := 3) (cs := #[.int .i64 a0_0, .int .i64 a0_1]) (t := 28) ?_; intro gb501 hg w6 hbox hb; have BK501 := Aside0.mk (hbox); have GW501 := HB.g0 hg; have GE501 := HB.g0 hg; replace HB := HB.s0 hb; clear hb hbox hg; obtain ⟨hcz7_0, hcz7_1⟩ := cz2_ BK501.out; obtain ⟨hfz7_0, hfz7_1⟩ := fz2_ BK501.out) | (go_at_call 38; (with_reducible refine (spec_Neighbor.calls k a0_0 a0_1 a1 a2 t502 _ A4.out).mono ?_); rintro e w8 ⟨rfl, hb⟩; replace BK501 := BK501.bb hb; replace HB := HB.s1 GE501 hb; (try clear hb))))
  go_ret
  exact ⟨ex_, hb1_ HB.out GE501.out⟩
 ·rw [if_neg c5] at H
  have c5b0 : decide (t502 < 0) = false := decide_eq_false c5
  clear c5
  obtain ⟨ji9, hji9⟩ : ∃ j_ : Int, (mn a1 t502) = j_ := ⟨_, rfl⟩
  replace H : (if a2 = 1 then (if a0_0 = 0 then (none) else (some (wrap64 ((wrap64 ((wrap64 (Int.tdiv (ji9) a0_0)) * (wrap64 (a0_0 - 1)))) + (Int.tmod (ji9) a0_0))))) else (if a2 = 3 then (if a0_0 = 0 then (none) else (some (wrap64 ((wrap64 ((wrap64 (Int.tdiv (ji9) a0_0)) * (wrap64 (a0_0 - 1)))) + (Int.tmod (ji9) a0_0))))) else ((spec_l02East.f a0_0 a0_1).bind fun t503 => (some (wrap64 (t503 + (ji9))))))) = some r := by first | (rw [hji9] at H; exact H) | (simp only [hji9] at H ⊢; exact H)
  (try rw [hji9] at A4)
  have hji9_ : (if t502 < a1 then t502 else a1) = ji9 := hji9
  by_cases c10 : a2 = 1
  ·rw [if_pos c10] at H
   have c10b0 : (a2 == 1) = true := beq_iff_eq.mpr c10
   have c10b1 : (a2 != 1) = false := bne_eq_false_iff_eq.mpr c10
   clear c10
   by_cases c11 : a0_0 = 0
   ·rw [if_pos c11] at H
    exact absurd H (by simp)
   ·rw [if_neg c11] at H
    have c11b0 : (a0_0 == 0) = false := beq_eq_false_iff_ne.mpr c11
    have c11b1 : (a0_0 != 0) = true := bne_iff_ne.mpr c11
    obtain rfl := Option.some.inj H
    go_enter Tryd.func37, Tryd.ntmps37
    go_wp2_with (first | (refine box_ (N := 3) (cs := #[.int .i64 a0_0, .int .i64 a0_1]) (t := 28) ?_; intro gb501 hg w12 hbox hb; have BK501 := Aside0.mk (hbox); have GW501 := HB.g0 hg; have GE501 := HB.g0 hg; replace HB := HB.s0 hb; clear hb hbox hg; obtain ⟨hcz13_0, hcz13_1⟩ := cz2_ BK501.out; obtain ⟨hfz13_0, hfz13_1⟩ := fz2_ BK501.out) | (go_at_call 38; (with_reducible refine (spec_Neighbor.calls k a0_0 a0_1 a1 a2 t502 _ A4.out).mono ?_); rintro e w14 ⟨rfl, hb⟩; replace BK501 := BK501.bb hb; replace HB := HB.s1 GE501 hb; (try clear hb); obtain ⟨hcz15_0, hcz15_1⟩ := cz2_ BK501.out; obtain ⟨hfz15_0, hfz15_1⟩ := fz2_ BK501.out))
    repeat (go_quiet (first | (refine box_ (N := 3) (cs := #[.int .i64 a0_0, .int .i64 a0_1]) (t := 28) ?_; intro gb501 hg w12 hbox hb; have BK501 := Aside0.mk (hbox); have GW501 := HB.g0 hg; have GE501 := HB.g0 hg; replace HB := HB.s0 hb; clear hb hbox hg; obtain ⟨hcz13_0, hcz13_1⟩ := cz2_ BK501.out; obtain ⟨hfz13_0, hfz13_1⟩ := fz2_ BK501.out) | (go_at_call 38; (with_reducible refine (spec_Neighbor.calls k a0_0 a0_1 a1 a2 t502 _ A4.out).mono ?_); rintro e w14 ⟨rfl, hb⟩; replace BK501 := BK501.bb hb; replace HB := HB.s1 GE501 hb; (try clear hb); obtain ⟨hcz15_0, hcz15_1⟩ := cz2_ BK501.out; obtain ⟨hfz15_0, hfz15_1⟩ := fz2_ BK501.out)); try go_wp2_with (first | (refine box_ (N := 3) (cs := #[.int .i64 a0_0, .int .i64 a0_1]) (t := 28) ?_; intro gb501 hg w12 hbox hb; have BK501 := Aside0.mk (hbox); have GW501 := HB.g0 hg; have GE501 := HB.g0 hg; replace HB := HB.s0 hb; clear hb hbox hg; obtain ⟨hcz13_0, hcz13_1⟩ := cz2_ BK501.out; obtain ⟨hfz13_0, hfz13_1⟩ := fz2_ BK501.out) | (go_at_call 38; (with_reducible refine (spec_Neighbor.calls k a0_0 a0_1 a1 a2 t502 _ A4.out).mono ?_); rintro e w14 ⟨rfl, hb⟩; replace BK501 := BK501.bb hb; replace HB := HB.s1 GE501 hb; (try clear hb); obtain ⟨hcz15_0, hcz15_1⟩ := cz2_ BK501.out; obtain ⟨hfz15_0, hfz15_1⟩ := fz2_ BK501.out)))
    go_ret
    exact ⟨by first | rfl | (simp [errW_none, errW_some] <;> rfl) | (simp only [← hji9]; first | rfl | (simp [errW_none, errW_some] <;> rfl)) | (simp [*, errW_none, errW_some] <;> rfl), hb1_ HB.out GE501.out⟩
  ·rw [if_neg c10] at H
   have c10b0 : (a2 == 1) = false := beq_eq_false_iff_ne.mpr c10
   have c10b1 : (a2 != 1) = true := bne_iff_ne.mpr c10
   by_cases c16 : a2 = 3
   ·rw [if_pos c16] at H
    have c16b0 : (a2 == 3) = true := beq_iff_eq.mpr c16
    have c16b1 : (a2 != 3) = false := bne_eq_false_iff_eq.mpr c16
    clear c16
    by_cases c17 : a0_0 = 0
    ·rw [if_pos c17] at H
     exact absurd H (by simp)
    ·rw [if_neg c17] at H
     have c17b0 : (a0_0 == 0) = false := beq_eq_false_iff_ne.mpr c17
     have c17b1 : (a0_0 != 0) = true := bne_iff_ne.mpr c17
     obtain rfl := Option.some.inj H
     go_enter Tryd.func37, Tryd.ntmps37
     go_wp2_with (first | (refine box_ (N := 3) (cs := #[.int .i64 a0_0, .int .i64 a0_1]) (t := 28) ?_; intro gb501 hg w18 hbox hb; have BK501 := Aside0.mk (hbox); have GW501 := HB.g0 hg; have GE501 := HB.g0 hg; replace HB := HB.s0 hb; clear hb hbox hg; obtain ⟨hcz19_0, hcz19_1⟩ := cz2_ BK501.out; obtain ⟨hfz19_0, hfz19_1⟩ := fz2_ BK501.out) | (go_at_call 38; (with_reducible refine (spec_Neighbor.calls k a0_0 a0_1 a1 a2 t502 _ A4.out).mono ?_); rintro e w20 ⟨rfl, hb⟩; replace BK501 := BK501.bb hb; replace HB := HB.s1 GE501 hb; (try clear hb); obtain ⟨hcz21_0, hcz21_1⟩ := cz2_ BK501.out; obtain ⟨hfz21_0, hfz21_1⟩ := fz2_ BK501.out))
     repeat (go_quiet (first | (refine box_ (N := 3) (cs := #[.int .i64 a0_0, .int .i64 a0_1]) (t := 28) ?_; intro gb501 hg w18 hbox hb; have BK501 := Aside0.mk (hbox); have GW501 := HB.g0 hg; have GE501 := HB.g0 hg; replace HB := HB.s0 hb; clear hb hbox hg; obtain ⟨hcz19_0, hcz19_1⟩ := cz2_ BK501.out; obtain ⟨hfz19_0, hfz19_1⟩ := fz2_ BK501.out) | (go_at_call 38; (with_reducible refine (spec_Neighbor.calls k a0_0 a0_1 a1 a2 t502 _ A4.out).mono ?_); rintro e w20 ⟨rfl, hb⟩; replace BK501 := BK501.bb hb; replace HB := HB.s1 GE501 hb; (try clear hb); obtain ⟨hcz21_0, hcz21_1⟩ := cz2_ BK501.out; obtain ⟨hfz21_0, hfz21_1⟩ := fz2_ BK501.out)); try go_wp2_with (first | (refine box_ (N := 3) (cs := #[.int .i64 a0_0, .int .i64 a0_1]) (t := 28) ?_; intro gb501 hg w18 hbox hb; have BK501 := Aside0.mk (hbox); have GW501 := HB.g0 hg; have GE501 := HB.g0 hg; replace HB := HB.s0 hb; clear hb hbox hg; obtain ⟨hcz19_0, hcz19_1⟩ := cz2_ BK501.out; obtain ⟨hfz19_0, hfz19_1⟩ := fz2_ BK501.out) | (go_at_call 38; (with_reducible refine (spec_Neighbor.calls k a0_0 a0_1 a1 a2 t502 _ A4.out).mono ?_); rintro e w20 ⟨rfl, hb⟩; replace BK501 := BK501.bb hb; replace HB := HB.s1 GE501 hb; (try clear hb); obtain ⟨hcz21_0, hcz21_1⟩ := cz2_ BK501.out; obtain ⟨hfz21_0, hfz21_1⟩ := fz2_ BK501.out)))
     go_ret
     exact ⟨by first | rfl | (simp [errW_none, errW_some] <;> rfl) | (simp only [← hji9]; first | rfl | (simp [errW_none, errW_some] <;> rfl)) | (simp [*, errW_none, errW_some] <;> rfl), hb1_ HB.out GE501.out⟩
   ·rw [if_neg c16] at H
    have c16b0 : (a2 == 3) = false := beq_eq_false_iff_ne.mpr c16
    have c16b1 : (a2 != 3) = true := bne_iff_ne.mpr c16
    replace H := Option.bind_eq_some_iff.mp H
    obtain ⟨t503, A220, H⟩ := H
    replace H : (some (wrap64 (t503 + (ji9)))) = some r := H
    have A22 := Aside0.mk A220
    clear A220
    obtain rfl := Option.some.inj H
    go_enter Tryd.func37, Tryd.ntmps37
    go_wp2_with (first | (refine box_ (N := 3) (cs := #[.int .i64 a0_0, .int .i64 a0_1]) (t := 28) ?_; intro gb501 hg w23 hbox hb; have BK501 := Aside0.mk (hbox); have GW501 := HB.g0 hg; have GE501 := HB.g0 hg; replace HB := HB.s0 hb; clear hb hbox hg; obtain ⟨hcz24_0, hcz24_1⟩ := cz2_ BK501.out; obtain ⟨hfz24_0, hfz24_1⟩ := fz2_ BK501.out) | (go_at_call 38; (with_reducible refine (spec_Neighbor.calls k a0_0 a0_1 a1 a2 t502 _ A4.out).mono ?_); rintro e w25 ⟨rfl, hb⟩; replace BK501 := BK501.bb hb; replace HB := HB.s1 GE501 hb; (try clear hb); obtain ⟨hcz26_0, hcz26_1⟩ := cz2_ BK501.out; obtain ⟨hfz26_0, hfz26_1⟩ := fz2_ BK501.out) | (go_at_call 35; (with_reducible refine (spec_l02East.calls a0_0 a0_1 t503 _ A22.out).mono ?_); rintro e w27 ⟨rfl, hb⟩; replace BK501 := BK501.bb hb; replace HB := HB.s1 GE501 hb; (try clear hb)))
    repeat (go_quiet (first | (refine box_ (N := 3) (cs := #[.int .i64 a0_0, .int .i64 a0_1]) (t := 28) ?_; intro gb501 hg w23 hbox hb; have BK501 := Aside0.mk (hbox); have GW501 := HB.g0 hg; have GE501 := HB.g0 hg; replace HB := HB.s0 hb; clear hb hbox hg; obtain ⟨hcz24_0, hcz24_1⟩ := cz2_ BK501.out; obtain ⟨hfz24_0, hfz24_1⟩ := fz2_ BK501.out) | (go_at_call 38; (with_reducible refine (spec_Neighbor.calls k a0_0 a0_1 a1 a2 t502 _ A4.out).mono ?_); rintro e w25 ⟨rfl, hb⟩; replace BK501 := BK501.bb hb; replace HB := HB.s1 GE501 hb; (try clear hb); obtain ⟨hcz26_0, hcz26_1⟩ := cz2_ BK501.out; obtain ⟨hfz26_0, hfz26_1⟩ := fz2_ BK501.out) | (go_at_call 35; (with_reducible refine (spec_l02East.calls a0_0 a0_1 t503 _ A22.out).mono ?_); rintro e w27 ⟨rfl, hb⟩; replace BK501 := BK501.bb hb; replace HB := HB.s1 GE501 hb; (try clear hb))); try go_wp2_with (first | (refine box_ (N := 3) (cs := #[.int .i64 a0_0, .int .i64 a0_1]) (t := 28) ?_; intro gb501 hg w23 hbox hb; have BK501 := Aside0.mk (hbox); have GW501 := HB.g0 hg; have GE501 := HB.g0 hg; replace HB := HB.s0 hb; clear hb hbox hg; obtain ⟨hcz24_0, hcz24_1⟩ := cz2_ BK501.out; obtain ⟨hfz24_0, hfz24_1⟩ := fz2_ BK501.out) | (go_at_call 38; (with_reducible refine (spec_Neighbor.calls k a0_0 a0_1 a1 a2 t502 _ A4.out).mono ?_); rintro e w25 ⟨rfl, hb⟩; replace BK501 := BK501.bb hb; replace HB := HB.s1 GE501 hb; (try clear hb); obtain ⟨hcz26_0, hcz26_1⟩ := cz2_ BK501.out; obtain ⟨hfz26_0, hfz26_1⟩ := fz2_ BK501.out) | (go_at_call 35; (with_reducible refine (spec_l02East.calls a0_0 a0_1 t503 _ A22.out).mono ?_); rintro e w27 ⟨rfl, hb⟩; replace BK501 := BK501.bb hb; replace HB := HB.s1 GE501 hb; (try clear hb))))
    go_ret
    exact ⟨by first | rfl | (simp [errW_none, errW_some] <;> rfl) | (simp only [← hji9]; first | rfl | (simp [errW_none, errW_some] <;> rfl)) | (simp [*, errW_none, errW_some] <;> rfl), hb1_ HB.out GE501.out⟩

/-! ### impl_Neighbor: function 47 -/
mutual
def impl_Neighbor.j0 : Nat → Int → Int → Int → Int → Bool → Int → Int → Option (Int)
 | 0, _, _, _, _, _, _, _ => none
 | k + 1, x1, x2, x7, x8, x21, x502000, x502001 => if x21 = true then (some (wrap64 (x1 - x502000))) else (if x2 = 1 then (impl_Neighbor.j1 k x1 x2 x7 x8 (decide (x7 < (wrap64 (x502000 - 1)))) x502000 x502001) else (impl_Neighbor.j1 k x1 x2 x7 x8 false x502000 x502001))
def impl_Neighbor.j1 : Nat → Int → Int → Int → Int → Bool → Int → Int → Option (Int)
 | 0, _, _, _, _, _, _, _ => none
 | k + 1, x1, x2, x7, x8, x32, x502000, x502001 => if x32 = true then (some (wrap64 (x1 + 1))) else (if x2 = 2 then (impl_Neighbor.j2 k x1 x2 x7 (decide (x8 < (wrap64 (x502001 - 1)))) x502000 x502001) else (impl_Neighbor.j2 k x1 x2 x7 false x502000 x502001))
def impl_Neighbor.j2 : Nat → Int → Int → Int → Bool → Int → Int → Option (Int)
 | 0, _, _, _, _, _, _ => none
 | k + 1, x1, x2, x7, x44, x502000, x502001 => if x44 = true then (some (wrap64 (x1 + x502000))) else (if x2 = 3 then (if x7 > 0 then (some (wrap64 (x1 - 1))) else (some (-1))) else (some (-1)))
end
def impl_Neighbor.f (k : Nat) (a0_0 : Int) (a0_1 : Int) (a1 : Int) (a2 : Int) : Option (Int) := (impl_isCell.f a0_0 a0_1 a1).bind fun t502 => (if t502 = true then (if a0_0 = 0 then (none) else (if a2 = 0 then (impl_Neighbor.j0 k a1 a2 (Int.tmod a1 a0_0) (wrap64 (Int.tdiv a1 a0_0)) (decide ((wrap64 (Int.tdiv a1 a0_0)) > 0)) a0_0 a0_1) else (impl_Neighbor.j0 k a1 a2 (Int.tmod a1 a0_0) (wrap64 (Int.tdiv a1 a0_0)) false a0_0 a0_1))) else (some (-1)))
theorem impl_Neighbor.mono_l : ∀ k, (∀ y0 y1 y2 y3 y4 y5 y6, LeO (impl_Neighbor.j0 k y0 y1 y2 y3 y4 y5 y6) (impl_Neighbor.j0 (k + 1) y0 y1 y2 y3 y4 y5 y6)) ∧ (∀ y0 y1 y2 y3 y4 y5 y6, LeO (impl_Neighbor.j1 k y0 y1 y2 y3 y4 y5 y6) (impl_Neighbor.j1 (k + 1) y0 y1 y2 y3 y4 y5 y6)) ∧ (∀ y0 y1 y2 y3 y4 y5, LeO (impl_Neighbor.j2 k y0 y1 y2 y3 y4 y5) (impl_Neighbor.j2 (k + 1) y0 y1 y2 y3 y4 y5))
 | 0 => ⟨fun _ _ _ _ _ _ _ r h => by simp [impl_Neighbor.j0] at h, fun _ _ _ _ _ _ _ r h => by simp [impl_Neighbor.j1] at h, fun _ _ _ _ _ _ r h => by simp [impl_Neighbor.j2] at h⟩
 | k + 1 => by
  obtain ⟨ih0, ih1, ih2⟩ := impl_Neighbor.mono_l k
  refine ⟨?_, ?_, ?_⟩
  ·intro y0 y1 y2 y3 y4 y5 y6
   unfold impl_Neighbor.j0
   repeat' first
   | (with_reducible exact ih0 ..)
   | (with_reducible exact ih1 ..)
   | (with_reducible exact ih2 ..)
   | (with_reducible first | exact lr_ _ | exact ln_ _ | refine li_ ?_ ?_ | refine lb_ ?_ fun _ => ?_)
   | exact ih0 ..
   | exact ih1 ..
   | exact ih2 ..
   | exact ln_ _ | refine li_ ?_ ?_ | refine lb_ ?_ fun _ => ?_
  ·intro y0 y1 y2 y3 y4 y5 y6
   unfold impl_Neighbor.j1
   repeat' first
   | (with_reducible exact ih0 ..)
   | (with_reducible exact ih1 ..)
   | (with_reducible exact ih2 ..)
   | (with_reducible first | exact lr_ _ | exact ln_ _ | refine li_ ?_ ?_ | refine lb_ ?_ fun _ => ?_)
   | exact ih0 ..
   | exact ih1 ..
   | exact ih2 ..
   | exact ln_ _ | refine li_ ?_ ?_ | refine lb_ ?_ fun _ => ?_
  ·intro y0 y1 y2 y3 y4 y5
   unfold impl_Neighbor.j2
   repeat' first
   | (with_reducible exact ih0 ..)
   | (with_reducible exact ih1 ..)
   | (with_reducible exact ih2 ..)
   | (with_reducible first | exact lr_ _ | exact ln_ _ | refine li_ ?_ ?_ | refine lb_ ?_ fun _ => ?_)
   | exact ih0 ..
   | exact ih1 ..
   | exact ih2 ..
   | exact ln_ _ | refine li_ ?_ ?_ | refine lb_ ?_ fun _ => ?_
theorem impl_Neighbor.mono : ∀ a0 a1 a2 a3 k, LeO (impl_Neighbor.f k a0 a1 a2 a3) (impl_Neighbor.f (k + 1) a0 a1 a2 a3) := by
 intro a0 a1 a2 a3 k
 obtain ⟨ih0, ih1, ih2⟩ := impl_Neighbor.mono_l k
 unfold impl_Neighbor.f
 repeat' first
   | (with_reducible exact ih0 ..)
   | (with_reducible exact ih1 ..)
   | (with_reducible exact ih2 ..)
   | (with_reducible first | exact lr_ _ | exact ln_ _ | refine li_ ?_ ?_ | refine lb_ ?_ fun _ => ?_)
   | exact ih0 ..
   | exact ih1 ..
   | exact ih2 ..
   | exact ln_ _ | refine li_ ?_ ?_ | refine lb_ ?_ fun _ => ?_
set_option maxHeartbeats 8000000 in
set_option maxRecDepth 100000 in
theorem impl_Neighbor.calls (k : Nat) (a0_0 : Int) (a0_1 : Int) (a1 : Int) (a2 : Int) (r : Int) (w : World) (h : impl_Neighbor.f k a0_0 a0_1 a1 a2 = some r) :
  Calls Tryd.prog 47 #[.agg #[.int .i64 a0_0, .int .i64 a0_1], .int .i64 a1, .int .i64 a2] w fun e w' => e = .returned (.int .i64 r) ∧ Below w.heap.size w w' := by
 have hu28 := Tryd.underlying28
 have HB := Aside0.mk (Below.refl w.heap.size w)
 have H : ((impl_isCell.f a0_0 a0_1 a1).bind fun t502 => (if t502 = true then (if a0_0 = 0 then (none) else (if a2 = 0 then (impl_Neighbor.j0 k a1 a2 (Int.tmod a1 a0_0) (wrap64 (Int.tdiv a1 a0_0)) (decide ((wrap64 (Int.tdiv a1 a0_0)) > 0)) a0_0 a0_1) else (impl_Neighbor.j0 k a1 a2 (Int.tmod a1 a0_0) (wrap64 (Int.tdiv a1 a0_0)) false a0_0 a0_1))) else (some (-1)))) = some r := h
 clear h
 replace H := Option.bind_eq_some_iff.mp H
 obtain ⟨t502, A40, H⟩ := H
 replace H : (if t502 = true then (if a0_0 = 0 then (none) else (if a2 = 0 then (impl_Neighbor.j0 k a1 a2 (Int.tmod a1 a0_0) (wrap64 (Int.tdiv a1 a0_0)) (decide ((wrap64 (Int.tdiv a1 a0_0)) > 0)) a0_0 a0_1) else (impl_Neighbor.j0 k a1 a2 (Int.tmod a1 a0_0) (wrap64 (Int.tdiv a1 a0_0)) false a0_0 a0_1))) else (some (-1))) = some r := H
 have A4 := Aside0.mk A40
 clear A40
 by_cases c5 : t502 = true
 ·subst c5
  have H1 : (if a0_0 = 0 then (none) else (if a2 = 0 then (impl_Neighbor.j0 k a1 a2 (Int.tmod a1 a0_0) (wrap64 (Int.tdiv a1 a0_0)) (decide ((wrap64 (Int.tdiv a1 a0_0)) > 0)) a0_0 a0_1) else (impl_Neighbor.j0 k a1 a2 (Int.tmod a1 a0_0) (wrap64 (Int.tdiv a1 a0_0)) false a0_0 a0_1))) = some r := by rw [if_pos rfl] at H; exact H
  clear H
  have H := H1
  clear H1
  by_cases c6 : a0_0 = 0
  ·rw [if_pos c6] at H
   exact absurd H (by simp)
  ·rw [if_neg c6] at H
   have c6b0 : (a0_0 == 0) = false := beq_eq_false_iff_ne.mpr c6
   have c6b1 : (a0_0 != 0) = true := bne_iff_ne.mpr c6
   have HC7 := Aside0.mk H
   clear H
   go_enter Tryd.func47, Tryd.ntmps47
   go_upto_region 4 with (first | (refine box_ (N := 3) (cs := #[.int .i64 a0_0, .int .i64 a0_1]) (t := 28) ?_; intro gb501 hg w8 hbox hb; have BK501 := Aside0.mk (hbox); have GW501 := HB.g0 hg; have GE501 := HB.g0 hg; replace HB := HB.s0 hb; clear hb hbox hg; obtain ⟨hcz9_0, hcz9_1⟩ := cz2_ BK501.out; obtain ⟨hfz9_0, hfz9_1⟩ := fz2_ BK501.out) | (go_at_call 42; (with_reducible refine (impl_isCell.calls a0_0 a0_1 a1 true _ A4.out).mono ?_); rintro e w10 ⟨rfl, hb⟩; replace BK501 := BK501.bb hb; replace HB := HB.s1 GE501 hb; (try clear hb); obtain ⟨hcz11_0, hcz11_1⟩ := cz2_ BK501.out; obtain ⟨hfz11_0, hfz11_1⟩ := fz2_ BK501.out))
   repeat (go_quiet (first | (refine box_ (N := 3) (cs := #[.int .i64 a0_0, .int .i64 a0_1]) (t := 28) ?_; intro gb501 hg w8 hbox hb; have BK501 := Aside0.mk (hbox); have GW501 := HB.g0 hg; have GE501 := HB.g0 hg; replace HB := HB.s0 hb; clear hb hbox hg; obtain ⟨hcz9_0, hcz9_1⟩ := cz2_ BK501.out; obtain ⟨hfz9_0, hfz9_1⟩ := fz2_ BK501.out) | (go_at_call 42; (with_reducible refine (impl_isCell.calls a0_0 a0_1 a1 true _ A4.out).mono ?_); rintro e w10 ⟨rfl, hb⟩; replace BK501 := BK501.bb hb; replace HB := HB.s1 GE501 hb; (try clear hb); obtain ⟨hcz11_0, hcz11_1⟩ := cz2_ BK501.out; obtain ⟨hfz11_0, hfz11_1⟩ := fz2_ BK501.out)); go_upto_region 4 with (first | (refine box_ (N := 3) (cs := #[.int .i64 a0_0, .int .i64 a0_1]) (t := 28) ?_; intro gb501 hg w8 hbox hb; have BK501 := Aside0.mk (hbox); have GW501 := HB.g0 hg; have GE501 := HB.g0 hg; replace HB := HB.s0 hb; clear hb hbox hg; obtain ⟨hcz9_0, hcz9_1⟩ := cz2_ BK501.out; obtain ⟨hfz9_0, hfz9_1⟩ := fz2_ BK501.out) | (go_at_call 42; (with_reducible refine (impl_isCell.calls a0_0 a0_1 a1 true _ A4.out).mono ?_); rintro e w10 ⟨rfl, hb⟩; replace BK501 := BK501.bb hb; replace HB := HB.s1 GE501 hb; (try clear hb); obtain ⟨hcz11_0, hcz11_1⟩ := cz2_ BK501.out; obtain ⟨hfz11_0, hfz11_1⟩ := fz2_ BK501.out)))
   (try simp only [Act.put, List.setIfInBounds_toArray, List.set_cons_zero, List.set_cons_succ])
   go_cut [21] (fun v21 wc => ∃ (kq : Nat) (x21_6 : Bool), v21 = .bool x21_6 ∧ Aside0 (impl_Neighbor.j0 kq a1 a2 (Int.tmod a1 a0_0) (wrap64 (Int.tdiv a1 a0_0)) x21_6 a0_0 a0_1 = some r) ∧ Aside0 (kq ≤ k) ∧ Aside0 (wc.heap[gb501]? = some (.cells #[.int .i64 a0_0, .int .i64 a0_1] 28 (0, 0))) ∧ Aside0 (Below w.heap.size w wc))
   case first =>
    have H := HC7.out
    clear HC7
    by_cases c12 : a2 = 0
    ·rw [if_pos c12] at H
     have c12b0 : (a2 == 0) = true := beq_iff_eq.mpr c12
     have c12b1 : (a2 != 0) = false := bne_eq_false_iff_eq.mpr c12
     clear c12
     (first | rw [c12b0] | (simp only [i64_w, i32_w]; rw [c12b0]) | skip)
     have H' := Aside0.mk H
     clear H
     go_wp2
     repeat (go_quiet (fail); try go_wp2)
     go_meet
     case rel => exact ⟨_, (decide ((wrap64 (Int.tdiv a1 a0_0)) > 0)), (by first | rfl | (simp; done) | (simp [*]; done)), H', ⟨by first | omega | exact Nat.le_refl _⟩, ⟨bk_ BK501.out⟩, ⟨hb1_ HB.out GE501.out⟩⟩
    ·rw [if_neg c12] at H
     have c12b0 : (a2 == 0) = false := beq_eq_false_iff_ne.mpr c12
     have c12b1 : (a2 != 0) = true := bne_iff_ne.mpr c12
     (first | rw [c12b0] | (simp only [i64_w, i32_w]; rw [c12b0]) | skip)
     have H' := Aside0.mk H
     clear H
     go_wp2
     repeat (go_quiet (fail); try go_wp2)
     go_meet
     case rel => exact ⟨_, (false), (by first | rfl | (simp; done) | (simp [*]; done)), H', ⟨by first | omega | exact Nat.le_refl _⟩, ⟨bk_ BK501.out⟩, ⟨hb1_ HB.out GE501.out⟩⟩
   case rest =>
    clear HC7
    try clear c1
    try clear p2
    try clear c4
    try clear c5
    try clear c6
    try clear c6b0
    try clear c6b1
    try clear p6
    try clear c12
    try clear c12b0
    try clear c12b1
    try clear hcz11_0
    try clear hcz11_1
    try clear hcz9_0
    try clear hcz9_1
    try clear hfz11_0
    try clear hfz11_1
    try clear hfz9_0
    try clear hfz9_1
    obtain ⟨kq, x21_6, rfl, HA, HJ6, BK501, HB⟩ := hcut
    cases kq with
    | zero => exact absurd HA.out (by simp [impl_Neighbor.j0])
    | succ kj6 =>
     have H := HA.out
     clear HA
     simp only [impl_Neighbor.j0] at H
     by_cases c13 : x21_6 = true
     ·subst c13
      have H1 : (some (wrap64 (a1 - a0_0))) = some r := by rw [if_pos rfl] at H; exact H
      clear H
      have H := H1
      clear H1
      obtain rfl := Option.some.inj H
      obtain ⟨hcz14_0, hcz14_1⟩ := cz2_ BK501.out
      obtain ⟨hfz14_0, hfz14_1⟩ := fz2_ BK501.out
      go_wp2
      repeat (go_quiet (fail); try go_wp2)
      go_ret
      exact ⟨ex_, hb1_ HB.out GE501.out⟩
     ·replace c13 := Bool.eq_false_iff.mpr c13
      subst c13
      have H1 : (if a2 = 1 then (impl_Neighbor.j1 kj6 a1 a2 (Int.tmod a1 a0_0) (wrap64 (Int.tdiv a1 a0_0)) (decide ((Int.tmod a1 a0_0) < (wrap64 (a0_0 - 1)))) a0_0 a0_1) else (impl_Neighbor.j1 kj6 a1 a2 (Int.tmod a1 a0_0) (wrap64 (Int.tdiv a1 a0_0)) false a0_0 a0_1)) = some r := by rw [if_neg (show ¬ (false = true) by decide)] at H; exact H
      clear H
      have H := H1
      clear H1
      have HC15 := Aside0.mk H
      clear H
      go_upto_region 6 with (fail)
      repeat (go_quiet (fail); go_upto_region 6 with (fail))
      go_cut [32] (fun v32 wc => ∃ (kq : Nat) (x32_14 : Bool), v32 = .bool x32_14 ∧ Aside0 (impl_Neighbor.j1 kq a1 a2 (Int.tmod a1 a0_0) (wrap64 (Int.tdiv a1 a0_0)) x32_14 a0_0 a0_1 = some r) ∧ Aside0 (kq ≤ kj6) ∧ Aside0 (wc.heap[gb501]? = some (.cells #[.int .i64 a0_0, .int .i64 a0_1] 28 (0, 0))) ∧ Aside0 (Below w.heap.size w wc))
      case first =>
       have H := HC15.out
       clear HC15
       by_cases c16 : a2 = 1
       ·rw [if_pos c16] at H
        have c16b0 : (a2 == 1) = true := beq_iff_eq.mpr c16
        have c16b1 : (a2 != 1) = false := bne_eq_false_iff_eq.mpr c16
        clear c16
        (first | rw [c16b0] | (simp only [i64_w, i32_w]; rw [c16b0]) | skip)
        have H' := Aside0.mk H
        clear H
        obtain ⟨hcz17_0, hcz17_1⟩ := cz2_ BK501.out
        obtain ⟨hfz17_0, hfz17_1⟩ := fz2_ BK501.out
        go_wp2
        repeat (go_quiet (fail); try go_wp2)
        go_meet
        case rel => exact ⟨_, (decide ((Int.tmod a1 a0_0) < (wrap64 (a0_0 - 1)))), (by first | rfl | (simp; done) | (simp [*]; done)), H', ⟨by have := HJ6.out; first | omega | exact Nat.le_refl _⟩, ⟨bk_ BK501.out⟩, ⟨hb1_ HB.out GE501.out⟩⟩
       ·rw [if_neg c16] at H
        have c16b0 : (a2 == 1) = false := beq_eq_false_iff_ne.mpr c16
        have c16b1 : (a2 != 1) = true := bne_iff_ne.mpr c16
        (first | rw [c16b0] | (simp only [i64_w, i32_w]; rw [c16b0]) | skip)
        have H' := Aside0.mk H
        clear H
        go_wp2
        repeat (go_quiet (fail); try go_wp2)
        go_meet
        case rel => exact ⟨_, (false), (by first | rfl | (simp; done) | (simp [*]; done)), H', ⟨by have := HJ6.out; first | omega | exact Nat.le_refl _⟩, ⟨bk_ BK501.out⟩, ⟨hb1_ HB.out GE501.out⟩⟩
      case rest =>
       clear HC15
       try clear c1
       try clear p2
       try clear c4
       try clear c5
       try clear c6
       try clear c6b0
       try clear c6b1
       try clear p6
       try clear c12
       try clear c12b0
       try clear c12b1
       try clear c13
       try clear c16
       try clear c16b0
       try clear c16b1
       try clear hcz11_0
       try clear hcz11_1
       try clear hcz14_0
       try clear hcz14_1
       try clear hcz17_0
       try clear hcz17_1
       try clear hcz9_0
       try clear hcz9_1
       try clear hfz11_0
       try clear hfz11_1
       try clear hfz14_0
       try clear hfz14_1
       try clear hfz17_0
       try clear hfz17_1
       try clear hfz9_0
       try clear hfz9_1
       try clear p2
       try clear p6
       obtain ⟨kq, x32_14, rfl, HA, HJ14, BK501, HB⟩ := hcut
       cases kq with
       | zero => exact absurd HA.out (by simp [impl_Neighbor.j1])
       | succ kj14 =>
        have H := HA.out
        clear HA
        simp only [impl_Neighbor.j1] at H
        by_cases c18 : x32_14 = true
        ·subst c18
         have H1 : (some (wrap64 (a1 + 1))) = some r := by rw [if_pos rfl] at H; exact H
         clear H
         have H := H1
         clear H1
         obtain rfl := Option.some.inj H
         go_wp2
         repeat (go_quiet (fail); try go_wp2)
         go_ret
         exact ⟨ex_, hb1_ HB.out GE501.out⟩
        ·replace c18 := Bool.eq_false_iff.mpr c18
         subst c18
         have H1 : (if a2 = 2 then (impl_Neighbor.j2 kj14 a1 a2 (Int.tmod a1 a0_0) (decide ((wrap64 (Int.tdiv a1 a0_0)) < (wrap64 (a0_1 - 1)))) a0_0 a0_1) else (impl_Neighbor.j2 kj14 a1 a2 (Int.tmod a1 a0_0) false a0_0 a0_1)) = some r := by rw [if_neg (show ¬ (false = true) by decide)] at H; exact H
         clear H
         have H := H1
         clear H1
         have HC19 := Aside0.mk H
         clear H
         go_upto_region 8 with (fail)
         repeat (go_quiet (fail); go_upto_region 8 with (fail))
         go_cut [44] (fun v44 wc => ∃ (kq : Nat) (x44_18 : Bool), v44 = .bool x44_18 ∧ Aside0 (impl_Neighbor.j2 kq a1 a2 (Int.tmod a1 a0_0) x44_18 a0_0 a0_1 = some r) ∧ Aside0 (kq ≤ kj14) ∧ Aside0 (wc.heap[gb501]? = some (.cells #[.int .i64 a0_0, .int .i64 a0_1] 28 (0, 0))) ∧ Aside0 (Below w.heap.size w wc))
         case first =>
          have H := HC19.out
          clear HC19
          by_cases c20 : a2 = 2
          ·rw [if_pos c20] at H
           have c20b0 : (a2 == 2) = true := beq_iff_eq.mpr c20
           have c20b1 : (a2 != 2) = false := bne_eq_false_iff_eq.mpr c20
           clear c20
           (first | rw [c20b0] | (simp only [i64_w, i32_w]; rw [c20b0]) | skip)
           have H' := Aside0.mk H
           clear H
           obtain ⟨hcz21_0, hcz21_1⟩ := cz2_ BK501.out
           obtain ⟨hfz21_0, hfz21_1⟩ := fz2_ BK501.out
           go_wp2
           repeat (go_quiet (fail); try go_wp2)
           go_meet
           case rel => exact ⟨_, (decide ((wrap64 (Int.tdiv a1 a0_0)) < (wrap64 (a0_1 - 1)))), (by first | rfl | (simp; done) | (simp [*]; done)), H', ⟨by have := HJ6.out; have := HJ14.out; first | omega | exact Nat.le_refl _⟩, ⟨bk_ BK501.out⟩, ⟨hb1_ HB.out GE501.out⟩⟩
          ·rw [if_neg c20] at H
           have c20b0 : (a2 == 2) = false := beq_eq_false_iff_ne.mpr c20
           have c20b1 : (a2 != 2) = true := bne_iff_ne.mpr c20
           (first | rw [c20b0] | (simp only [i64_w, i32_w]; rw [c20b0]) | skip)
           have H' := Aside0.mk H
           clear H
           go_wp2
           repeat (go_quiet (fail); try go_wp2)
           go_meet
           case rel => exact ⟨_, (false), (by first | rfl | (simp; done) | (simp [*]; done)), H', ⟨by have := HJ6.out; have := HJ14.out; first | omega | exact Nat.le_refl _⟩, ⟨bk_ BK501.out⟩, ⟨hb1_ HB.out GE501.out⟩⟩
         case rest =>
          clear HC19
          try clear c1
          try clear c2
          try clear p2
          try clear c4
          try clear c5
          try clear c6
          try clear c6b0
          try clear c6b1
          try clear p6
          try clear c12
          try clear c12b0
          try clear c12b1
          try clear c13
          try clear c16
          try clear c16b0
          try clear c16b1
          try clear c18
          try clear c20
          try clear c20b0
          try clear c20b1
          try clear hcz11_0
          try clear hcz11_1
          try clear hcz14_0
          try clear hcz14_1
          try clear hcz17_0
          try clear hcz17_1
          try clear hcz21_0
          try clear hcz21_1
          try clear hcz9_0
          try clear hcz9_1
          try clear hfz11_0
          try clear hfz11_1
          try clear hfz14_0
          try clear hfz14_1
          try clear hfz17_0
          try clear hfz17_1
          try clear hfz21_0
          try clear hfz21_1
          try clear hfz9_0
          try clear hfz9_1
          try clear p2
          try clear p6
          obtain ⟨kq, x44_18, rfl, HA, HJ18, BK501, HB⟩ := hcut
          cases kq with
          | zero => exact absurd HA.out (by simp [impl_Neighbor.j2])
          | succ kj18 =>
           have H := HA.out
           clear HA
           simp only [impl_Neighbor.j2] at H
           by_cases c22 : x44_18 = true
           ·subst c22
            have H1 : (some (wrap64 (a1 + a0_0))) = some r := by rw [if_pos rfl] at H; exact H
            clear H
            have H := H1
            clear H1
            obtain rfl := Option.some.inj H
            obtain ⟨hcz23_0, hcz23_1⟩ := cz2_ BK501.out
            obtain ⟨hfz23_0, hfz23_1⟩ := fz2_ BK501.out
            go_wp2
            repeat (go_quiet (fail); try go_wp2)
            go_ret
            exact ⟨ex_, hb1_ HB.out GE501.out⟩
           ·replace c22 := Bool.eq_false_iff.mpr c22
            subst c22
            have H1 : (if a2 = 3 then (if (Int.tmod a1 a0_0) > 0 then (some (wrap64 (a1 - 1))) else (some (-1))) else (some (-1))) = some r := by rw [if_neg (show ¬ (false = true) by decide)] at H; exact H
            clear H
            have H := H1
            clear H1
            by_cases c24 : a2 = 3
            ·rw [if_pos c24] at H
             have c24b0 : (a2 == 3) = true := beq_iff_eq.mpr c24
             have c24b1 : (a2 != 3) = false := bne_eq_false_iff_eq.mpr c24
             clear c24
             by_cases c25 : (Int.tmod a1 a0_0) > 0
             ·rw [if_pos c25] at H
              have c25b0 : decide (0 < (Int.tmod a1 a0_0)) = true := decide_eq_true c25
              clear c25
              obtain rfl := Option.some.inj H
              go_wp2
              repeat (go_quiet (fail); try go_wp2)
              go_ret
              exact ⟨ex_, hb1_ HB.out GE501.out⟩
             ·rw [if_neg c25] at H
              have c25b0 : decide (0 < (Int.tmod a1 a0_0)) = false := decide_eq_false c25
              clear c25
              obtain rfl := Option.some.inj H
              go_wp2
              repeat (go_quiet (fail); try go_wp2)
              go_ret
              exact ⟨ex_, hb1_ HB.out GE501.out⟩
            ·rw [if_neg c24] at H
             have c24b0 : (a2 == 3) = false := beq_eq_false_iff_ne.mpr c24
             have c24b1 : (a2 != 3) = true := bne_iff_ne.mpr c24
             obtain rfl := Option.some.inj H
             go_wp2
             repeat (go_quiet (fail); try go_wp2)
             go_ret
             exact ⟨ex_, hb1_ HB.out GE501.out⟩
 ·replace c5 := Bool.eq_false_iff.mpr c5
  subst c5
  have H1 : (some (-1)) = some r := by rw [if_neg (show ¬ (false = true) by decide)] at H; exact H
  clear H
  have H := H1
  clear H1
  obtain rfl := Option.some.inj H
  go_enter Tryd.func47, Tryd.ntmps47
  go_wp2_with (first | (refine box_ (N := 3) (cs := #[.int .i64 a0_0, .int .i64 a0_1]) (t := 28) ?_; intro gb501 hg w26 hbox hb; have BK501 := Aside0.mk (hbox); have GW501 := HB.g0 hg; have GE501 := HB.g0 hg; replace HB := HB.s0 hb; clear hb hbox hg; obtain ⟨hcz27_0, hcz27_1⟩ := cz2_ BK501.out; obtain ⟨hfz27_0, hfz27_1⟩ := fz2_ BK501.out) | (go_at_call 42; (with_reducible refine (impl_isCell.calls a0_0 a0_1 a1 false _ A4.out).mono ?_); rintro e w28 ⟨rfl, hb⟩; replace BK501 := BK501.bb hb; replace HB := HB.s1 GE501 hb; (try clear hb)))
  repeat (go_quiet (first | (refine box_ (N := 3) (cs := #[.int .i64 a0_0, .int .i64 a0_1]) (t := 28) ?_; intro gb501 hg w26 hbox hb; have BK501 := Aside0.mk (hbox); have GW501 := HB.g0 hg; have GE501 := HB.g0 hg; replace HB := HB.s0 hb; clear hb hbox hg; obtain ⟨hcz27_0, hcz27_1⟩ := cz2_ BK501.out; obtain ⟨hfz27_0, hfz27_1⟩ := fz2_ BK501.out) | (go_at_call 42; (with_reducible refine (impl_isCell.calls a0_0 a0_1 a1 false _ A4.out).mono ?_); rintro e w28 ⟨rfl, hb⟩; replace BK501 := BK501.bb hb; replace HB := HB.s1 GE501 hb; (try clear hb))); try go_wp2_with (first | (refine box_ (N := 3) (cs := #[.int .i64 a0_0, .int .i64 a0_1]) (t := 28) ?_; intro gb501 hg w26 hbox hb; have BK501 := Aside0.mk (hbox); have GW501 := HB.g0 hg; have GE501 := HB.g0 hg; replace HB := HB.s0 hb; clear hb hbox hg; obtain ⟨hcz27_0, hcz27_1⟩ := cz2_ BK501.out; obtain ⟨hfz27_0, hfz27_1⟩ := fz2_ BK501.out) | (go_at_call 42; (with_reducible refine (impl_isCell.calls a0_0 a0_1 a1 false _ A4.out).mono ?_); rintro e w28 ⟨rfl, hb⟩; replace BK501 := BK501.bb hb; replace HB := HB.s1 GE501 hb; (try clear hb))))
  go_ret
  exact ⟨ex_, hb1_ HB.out GE501.out⟩

/-! ### impl_GapAt: function 46 -/
def impl_GapAt.f (k : Nat) (a0_0 : Int) (a0_1 : Int) (a1 : Int) (a2 : Int) : Option (Int) := (impl_Neighbor.f k a0_0 a0_1 a1 a2).bind fun t502 => (if t502 < 0 then (some (-1)) else (if a2 = 1 then (if a0_0 = 0 then (none) else (some (wrap64 ((wrap64 ((wrap64 (Int.tdiv (mn a1 t502) a0_0)) * (wrap64 (a0_0 - 1)))) + (Int.tmod (mn a1 t502) a0_0))))) else (if a2 = 3 then (if a0_0 = 0 then (none) else (some (wrap64 ((wrap64 ((wrap64 (Int.tdiv (mn a1 t502) a0_0)) * (wrap64 (a0_0 - 1)))) + (Int.tmod (mn a1 t502) a0_0))))) else (some (wrap64 ((wrap64 ((wrap64 (a0_0 - 1)) * a0_1)) + (mn a1 t502)))))))
theorem impl_GapAt.mono : ∀ a0 a1 a2 a3 k, LeO (impl_GapAt.f k a0 a1 a2 a3) (impl_GapAt.f (k + 1) a0 a1 a2 a3) := by
 intro a0 a1 a2 a3 k
 unfold impl_GapAt.f
 repeat' first
   | (with_reducible exact impl_Neighbor.mono ..)
   | (with_reducible first | exact lr_ _ | exact ln_ _ | refine li_ ?_ ?_ | refine lb_ ?_ fun _ => ?_)
   | exact impl_Neighbor.mono ..
   | exact ln_ _ | refine li_ ?_ ?_ | refine lb_ ?_ fun _ => ?_
set_option maxHeartbeats 8000000 in
set_option maxRecDepth 100000 in
theorem impl_GapAt.calls (k : Nat) (a0_0 : Int) (a0_1 : Int) (a1 : Int) (a2 : Int) (r : Int) (w : World) (h : impl_GapAt.f k a0_0 a0_1 a1 a2 = some r) :
  Calls Tryd.prog 46 #[.agg #[.int .i64 a0_0, .int .i64 a0_1], .int .i64 a1, .int .i64 a2] w fun e w' => e = .returned (.int .i64 r) ∧ Below w.heap.size w w' := by
 have hu28 := Tryd.underlying28
 have HB := Aside0.mk (Below.refl w.heap.size w)
 have H : ((impl_Neighbor.f k a0_0 a0_1 a1 a2).bind fun t502 => (if t502 < 0 then (some (-1)) else (if a2 = 1 then (if a0_0 = 0 then (none) else (some (wrap64 ((wrap64 ((wrap64 (Int.tdiv (mn a1 t502) a0_0)) * (wrap64 (a0_0 - 1)))) + (Int.tmod (mn a1 t502) a0_0))))) else (if a2 = 3 then (if a0_0 = 0 then (none) else (some (wrap64 ((wrap64 ((wrap64 (Int.tdiv (mn a1 t502) a0_0)) * (wrap64 (a0_0 - 1)))) + (Int.tmod (mn a1 t502) a0_0))))) else (some (wrap64 ((wrap64 ((wrap64 (a0_0 - 1)) * a0_1)) + (mn a1 t502)))))))) = some r := h
 clear h
 replace H := Option.bind_eq_some_iff.mp H
 obtain ⟨t502, A40, H⟩ := H
 replace H : (if t502 < 0 then (some (-1)) else (if a2 = 1 then (if a0_0 = 0 then (none) else (some (wrap64 ((wrap64 ((wrap64 (Int.tdiv (mn a1 t502) a0_0)) * (wrap64 (a0_0 - 1)))) + (Int.tmod (mn a1 t502) a0_0))))) else (if a2 = 3 then (if a0_0 = 0 then (none) else (some (wrap64 ((wrap64 ((wrap64 (Int.tdiv (mn a1 t502) a0_0)) * (wrap64 (a0_0 - 1)))) + (Int.tmod (mn a1 t502) a0_0))))) else (some (wrap64 ((wrap64 ((wrap64 (a0_0 - 1)) * a0_1)) + (mn a1 t502))))))) = some r := H
 have A4 := Aside0.mk A40
 clear A40
 by_cases c5 : t502 < 0
 ·rw [if_pos c5] at H
  have c5b0 : decide (t502 < 0) = true := decide_eq_true c5
  clear c5
  obtain rfl := Option.some.inj H
  go_enter Tryd.func46, Tryd.ntmps46
  go_wp2_with (first | (refine box_ (N := 3) (cs := #[.int .i64 a0_0, .int .i64 a0_1]) (t := 28) ?_; intro gb501 hg w6 hbox hb; have BK501 := Aside0.mk (hbox); have GW501 := HB.g0 hg; have GE501 := HB.g0 hg; replace HB := HB.s0 hb; clear hb hbox hg; obtain ⟨hcz7_0, hcz7_1⟩ := cz2_ BK501.out; obtain ⟨hfz7_0, hfz7_1⟩ := fz2_ BK501.out) | (go_at_call 47; (with_reducible refine (impl_Neighbor.calls k a0_0 a0_1 a1 a2 t502 _ A4.out).mono ?_); rintro e w8 ⟨rfl, hb⟩; replace BK501 := BK501.bb hb; replace HB := HB.s1 GE501 hb; (try clear hb)))
  repeat (go_quiet (first | (refine box_ (N := 3) (cs := #[.int .i64 a0_0, .int .i64 a0_1]) (t := 28) ?_; intro gb501 hg w6 hbox hb; have BK501 := Aside0.mk (hbox); have GW501 := HB.g0 hg; have GE501 := HB.g0 hg; replace HB := HB.s0 hb; clear hb hbox hg; obtain ⟨hcz7_0, hcz7_1⟩ := cz2_ BK501.out; obtain ⟨hfz7_0, hfz7_1⟩ := fz2_ BK501.out) | (go_at_call 47; (with_reducible refine (impl_Neighbor.calls k a0_0 a0_1 a1 a2 t502 _ A4.out).mono ?_); rintro e w8 ⟨rfl, hb⟩; replace BK501 := BK501.bb hb; replace HB := HB.s1 GE501 hb; (try clear hb))); try go_wp2_with (first | (refine box_ (N := 3) (cs := #[.int .i64 a0_0, .int .i64 a0_1]) (t := 28) ?_; intro gb501 hg w6 hbox hb; have BK501 := Aside0.mk (hbox); have GW501 := HB.g0 hg; have GE501 := HB.g0 hg; replace HB := HB.s0 hb; clear hb hbox hg; obtain ⟨hcz7_0, hcz7_1⟩ := cz2_ BK501.out; obtain ⟨hfz7_0, hfz7_1⟩ := fz2_ BK501.out) | (go_at_call 47; (with_reducible refine (impl_Neighbor.calls k a0_0 a0_1 a1 a2 t502 _ A4.out).mono ?_); rintro e w8 ⟨rfl, hb⟩; replace BK501 := BK501.bb hb; replace HB := HB.s1 GE501 hb; (try clear hb))))
  go_ret
  exact ⟨ex_, hb1_ HB.out GE501.out⟩
 ·rw [if_neg c5] at H
  have c5b0 : decide (t502 < 0) = false := decide_eq_false c5
  clear c5
  obtain ⟨ji9, hji9⟩ : ∃ j_ : Int, (mn a1 t502) = j_ := ⟨_, rfl⟩
  replace H : (if a2 = 1 then (if a0_0 = 0 then (none) else (some (wrap64 ((wrap64 ((wrap64 (Int.tdiv (ji9) a0_0)) * (wrap64 (a0_0 - 1)))) + (Int.tmod (ji9) a0_0))))) else (if a2 = 3 then (if a0_0 = 0 then (none) else (some (wrap64 ((wrap64 ((wrap64 (Int.tdiv (ji9) a0_0)) * (wrap64 (a0_0 - 1)))) + (Int.tmod (ji9) a0_0))))) else (some (wrap64 ((wrap64 ((wrap64 (a0_0 - 1)) * a0_1)) + (ji9)))))) = some r := by first | (rw [hji9] at H; exact H) | (simp only [hji9] at H ⊢; exact H)
  (try rw [hji9] at A4)
  have hji9_ : (if t502 < a1 then t502 else a1) = ji9 := hji9
  by_cases c10 : a2 = 1
  ·rw [if_pos c10] at H
   have c10b0 : (a2 == 1) = true := beq_iff_eq.mpr c10
   have c10b1 : (a2 != 1) = false := bne_eq_false_iff_eq.mpr c10
   clear c10
   by_cases c11 : a0_0 = 0
   ·rw [if_pos c11] at H
    exact absurd H (by simp)
   ·rw [if_neg c11] at H
    have c11b0 : (a0_0 == 0) = false := beq_eq_false_iff_ne.mpr c11
    have c11b1 : (a0_0 != 0) = true := bne_iff_ne.mpr c11
    obtain rfl := Option.some.inj H
    go_enter Tryd.func46, Tryd.ntmps46
    go_wp2_with (first | (refine box_ (N := 3) (cs := #[.int .i64 a0_0, .int .i64 a0_1]) (t := 28) ?_; intro gb501 hg w12 hbox hb; have BK501 := Aside0.mk (hbox); have GW501 := HB.g0 hg; have GE501 := HB.g0 hg; replace HB := HB.s0 hb; clear hb hbox hg; obtain ⟨hcz13_0, hcz13_1⟩ := cz2_ BK501.out; obtain ⟨hfz13_0, hfz13_1⟩ := fz2_ BK501.out) | (go_at_call 47; (with_reducible refine (impl_Neighbor.calls k a0_0 a0_1 a1 a2 t502 _ A4.out).mono ?_); rintro e w14 ⟨rfl, hb⟩; replace BK501 := BK501.bb hb; replace HB := HB.s1 GE501 hb; (try clear hb); obtain ⟨hcz15_0, hcz15_1⟩ := cz2_ BK501.out; obtain ⟨hfz15_0, hfz15_1⟩ := fz2_ BK501.out))
    repeat (go_quiet (first | (refine box_ (N := 3) (cs := #[.int .i64 a0_0, .int .i64 a0_1]) (t := 28) ?_; intro gb501 hg w12 hbox hb; have BK501 := Aside0.mk (hbox); have GW501 := HB.g0 hg; have GE501 := HB.g0 hg; replace HB := HB.s0 hb; clear hb hbox hg; obtain ⟨hcz13_0, hcz13_1⟩ := cz2_ BK501.out; obtain ⟨hfz13_0, hfz13_1⟩ := fz2_ BK501.out) | (go_at_call 47; (with_reducible refine (impl_Neighbor.calls k a0_0 a0_1 a1 a2 t502 _ A4.out).mono ?_); rintro e w14 ⟨rfl, hb⟩; replace BK501 := BK501.bb hb; replace HB := HB.s1 GE501 hb; (try clear hb); obtain ⟨hcz15_0, hcz15_1⟩ := cz2_ BK501.out; obtain ⟨hfz15_0, hfz15_1⟩ := fz2_ BK501.out)); try go_wp2_with (first | (refine box_ (N := 3) (cs := #[.int .i64 a0_0, .int .i64 a0_1]) (t := 28) ?_; intro gb501 hg w12 hbox hb; have BK501 := Aside0.mk (hbox); have GW501 := HB.g0 hg; have GE501 := HB.g0 hg; replace HB := HB.s0 hb; clear hb hbox hg; obtain ⟨hcz13_0, hcz13_1⟩ := cz2_ BK501.out; obtain ⟨hfz13_0, hfz13_1⟩ := fz2_ BK501.out) | (go_at_call 47; (with_reducible refine (impl_Neighbor.calls k a0_0 a0_1 a1 a2 t502 _ A4.out).mono ?_); rintro e w14 ⟨rfl, hb⟩; replace BK501 := BK501.bb hb; replace HB := HB.s1 GE501 hb; (try clear hb); obtain ⟨hcz15_0, hcz15_1⟩ := cz2_ BK501.out; obtain ⟨hfz15_0, hfz15_1⟩ := fz2_ BK501.out)))
    go_ret
    exact ⟨by first | rfl | (simp [errW_none, errW_some] <;> rfl) | (simp only [← hji9]; first | rfl | (simp [errW_none, errW_some] <;> rfl)) | (simp [*, errW_none, errW_some] <;> rfl), hb1_ HB.out GE501.out⟩
  ·rw [if_neg c10] at H
   have c10b0 : (a2 == 1) = false := beq_eq_false_iff_ne.mpr c10
   have c10b1 : (a2 != 1) = true := bne_iff_ne.mpr c10
   by_cases c16 : a2 = 3
   ·rw [if_pos c16] at H
    have c16b0 : (a2 == 3) = true := beq_iff_eq.mpr c16
    have c16b1 : (a2 != 3) = false := bne_eq_false_iff_eq.mpr c16
    clear c16
    by_cases c17 : a0_0 = 0
    ·rw [if_pos c17] at H
     exact absurd H (by simp)
    ·rw [if_neg c17] at H
     have c17b0 : (a0_0 == 0) = false := beq_eq_false_iff_ne.mpr c17
     have c17b1 : (a0_0 != 0) = true := bne_iff_ne.mpr c17
     obtain rfl := Option.some.inj H
     go_enter Tryd.func46, Tryd.ntmps46
     go_wp2_with (first | (refine box_ (N := 3) (cs := #[.int .i64 a0_0, .int .i64 a0_1]) (t := 28) ?_; intro gb501 hg w18 hbox hb; have BK501 := Aside0.mk (hbox); have GW501 := HB.g0 hg; have GE501 := HB.g0 hg; replace HB := HB.s0 hb; clear hb hbox hg; obtain ⟨hcz19_0, hcz19_1⟩ := cz2_ BK501.out; obtain ⟨hfz19_0, hfz19_1⟩ := fz2_ BK501.out) | (go_at_call 47; (with_reducible refine (impl_Neighbor.calls k a0_0 a0_1 a1 a2 t502 _ A4.out).mono ?_); rintro e w20 ⟨rfl, hb⟩; replace BK501 := BK501.bb hb; replace HB := HB.s1 GE501 hb; (try clear hb); obtain ⟨hcz21_0, hcz21_1⟩ := cz2_ BK501.out; obtain ⟨hfz21_0, hfz21_1⟩ := fz2_ BK501.out))
     repeat (go_quiet (first | (refine box_ (N := 3) (cs := #[.int .i64 a0_0, .int .i64 a0_1]) (t := 28) ?_; intro gb501 hg w18 hbox hb; have BK501 := Aside0.mk (hbox); have GW501 := HB.g0 hg; have GE501 := HB.g0 hg; replace HB := HB.s0 hb; clear hb hbox hg; obtain ⟨hcz19_0, hcz19_1⟩ := cz2_ BK501.out; obtain ⟨hfz19_0, hfz19_1⟩ := fz2_ BK501.out) | (go_at_call 47; (with_reducible refine (impl_Neighbor.calls k a0_0 a0_1 a1 a2 t502 _ A4.out).mono ?_); rintro e w20 ⟨rfl, hb⟩; replace BK501 := BK501.bb hb; replace HB := HB.s1 GE501 hb; (try clear hb); obtain ⟨hcz21_0, hcz21_1⟩ := cz2_ BK501.out; obtain ⟨hfz21_0, hfz21_1⟩ := fz2_ BK501.out)); try go_wp2_with (first | (refine box_ (N := 3) (cs := #[.int .i64 a0_0, .int .i64 a0_1]) (t := 28) ?_; intro gb501 hg w18 hbox hb; have BK501 := Aside0.mk (hbox); have GW501 := HB.g0 hg; have GE501 := HB.g0 hg; replace HB := HB.s0 hb; clear hb hbox hg; obtain ⟨hcz19_0, hcz19_1⟩ := cz2_ BK501.out; obtain ⟨hfz19_0, hfz19_1⟩ := fz2_ BK501.out) | (go_at_call 47; (with_reducible refine (impl_Neighbor.calls k a0_0 a0_1 a1 a2 t502 _ A4.out).mono ?_); rintro e w20 ⟨rfl, hb⟩; replace BK501 := BK501.bb hb; replace HB := HB.s1 GE501 hb; (try clear hb); obtain ⟨hcz21_0, hcz21_1⟩ := cz2_ BK501.out; obtain ⟨hfz21_0, hfz21_1⟩ := fz2_ BK501.out)))
     go_ret
     exact ⟨by first | rfl | (simp [errW_none, errW_some] <;> rfl) | (simp only [← hji9]; first | rfl | (simp [errW_none, errW_some] <;> rfl)) | (simp [*, errW_none, errW_some] <;> rfl), hb1_ HB.out GE501.out⟩
   ·rw [if_neg c16] at H
    have c16b0 : (a2 == 3) = false := beq_eq_false_iff_ne.mpr c16
    have c16b1 : (a2 != 3) = true := bne_iff_ne.mpr c16
    obtain rfl := Option.some.inj H
    go_enter Tryd.func46, Tryd.ntmps46
    go_wp2_with (first | (refine box_ (N := 3) (cs := #[.int .i64 a0_0, .int .i64 a0_1]) (t := 28) ?_; intro gb501 hg w22 hbox hb; have BK501 := Aside0.mk (hbox); have GW501 := HB.g0 hg; have GE501 := HB.g0 hg; replace HB := HB.s0 hb; clear hb hbox hg; obtain ⟨hcz23_0, hcz23_1⟩ := cz2_ BK501.out; obtain ⟨hfz23_0, hfz23_1⟩ := fz2_ BK501.out) | (go_at_call 47; (with_reducible refine (impl_Neighbor.calls k a0_0 a0_1 a1 a2 t502 _ A4.out).mono ?_); rintro e w24 ⟨rfl, hb⟩; replace BK501 := BK501.bb hb; replace HB := HB.s1 GE501 hb; (try clear hb); obtain ⟨hcz25_0, hcz25_1⟩ := cz2_ BK501.out; obtain ⟨hfz25_0, hfz25_1⟩ := fz2_ BK501.out))
    repeat (go_quiet (first | (refine box_ (N := 3) (cs := #[.int .i64 a0_0, .int .i64 a0_1]) (t := 28) ?_; intro gb501 hg w22 hbox hb; have BK501 := Aside0.mk (hbox); have GW501 := HB.g0 hg; have GE501 := HB.g0 hg; replace HB := HB.s0 hb; clear hb hbox hg; obtain ⟨hcz23_0, hcz23_1⟩ := cz2_ BK501.out; obtain ⟨hfz23_0, hfz23_1⟩ := fz2_ BK501.out) | (go_at_call 47; (with_reducible refine (impl_Neighbor.calls k a0_0 a0_1 a1 a2 t502 _ A4.out).mono ?_); rintro e w24 ⟨rfl, hb⟩; replace BK501 := BK501.bb hb; replace HB := HB.s1 GE501 hb; (try clear hb); obtain ⟨hcz25_0, hcz25_1⟩ := cz2_ BK501.out; obtain ⟨hfz25_0, hfz25_1⟩ := fz2_ BK501.out)); try go_wp2_with (first | (refine box_ (N := 3) (cs := #[.int .i64 a0_0, .int .i64 a0_1]) (t := 28) ?_; intro gb501 hg w22 hbox hb; have BK501 := Aside0.mk (hbox); have GW501 := HB.g0 hg; have GE501 := HB.g0 hg; replace HB := HB.s0 hb; clear hb hbox hg; obtain ⟨hcz23_0, hcz23_1⟩ := cz2_ BK501.out; obtain ⟨hfz23_0, hfz23_1⟩ := fz2_ BK501.out) | (go_at_call 47; (with_reducible refine (impl_Neighbor.calls k a0_0 a0_1 a1 a2 t502 _ A4.out).mono ?_); rintro e w24 ⟨rfl, hb⟩; replace BK501 := BK501.bb hb; replace HB := HB.s1 GE501 hb; (try clear hb); obtain ⟨hcz25_0, hcz25_1⟩ := cz2_ BK501.out; obtain ⟨hfz25_0, hfz25_1⟩ := fz2_ BK501.out)))
    go_ret
    exact ⟨by first | rfl | (simp [errW_none, errW_some] <;> rfl) | (simp only [← hji9]; first | rfl | (simp [errW_none, errW_some] <;> rfl)) | (simp [*, errW_none, errW_some] <;> rfl), hb1_ HB.out GE501.out⟩

end Go.Proofs.YtgnnkjgfkdaddaaDoor.X
