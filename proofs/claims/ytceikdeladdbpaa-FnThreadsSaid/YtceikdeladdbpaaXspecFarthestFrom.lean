-- Written by a program of this session (xprint.py), out of the translation and of hand-written contracts. Lean checks it.
import Derived.Test.YtceikdeladdbpaaX0
import Derived.Test.YtceikdeladdbpaaXcin
import Derived.Test.YtceikdeladdbpaaXcsreach
namespace Go.Proofs.Ytceikdeladdbpaa.X
open Go.RowKit Go.Proofs.YtceikdeladdbpaaW.PrintWords Go.Proofs.YtceikdeladdbpaaW.PrintLast Go.Proofs.YtceikdeladdbpaaW.PrintMore
attribute [local go_sem] max2_int min2_int max_two min_two max_three min_three max_four min_four   -- for this text's walks alone
set_option linter.unusedVariables false
set_option linter.unusedSimpArgs false

/-! ### spec_FarthestFrom: function 11 -/
def spec_FarthestFrom.l0 : Nat → List Int → Int → Int → Option (Int)
 | 0, _, _, _ => none
 | k + 1, x5, x6, x7 => if x7 < (x5.length : Int) then (if 0 ≤ x7 then (if 0 ≤ x6 then (if x6 < (x5.length : Int) then (if (rd x5 x7) > (rd x5 x6) then (spec_FarthestFrom.l0 k x5 x7 (wrap64 (x7 + 1))) else (if (rd x5 x7) = (rd x5 x6) then (if x7 < x6 then (spec_FarthestFrom.l0 k x5 x7 (wrap64 (x7 + 1))) else (spec_FarthestFrom.l0 k x5 x6 (wrap64 (x7 + 1)))) else (spec_FarthestFrom.l0 k x5 x6 (wrap64 (x7 + 1))))) else (none)) else (none)) else (none)) else (some x6)
def spec_FarthestFrom.f (k : Nat) (a0_0 : Int) (a0_1 : Int) (a0_2 : Int) (a1 : Int) : Option (Int) := (spec_l04Has.f a0_0 a0_1 a0_2 a1).bind fun t502 => (if t502 = true then ((spec_l04Distances.f k a0_0 a0_1 a0_2 a1).bind fun t503 => (spec_FarthestFrom.l0 k t503 a1 0)) else (some (-1)))
theorem spec_FarthestFrom.mono_l : ∀ k, (∀ y0 y1 y2, LeO (spec_FarthestFrom.l0 k y0 y1 y2) (spec_FarthestFrom.l0 (k + 1) y0 y1 y2))
 | 0 => fun _ _ _ r h => by simp [spec_FarthestFrom.l0] at h
 | k + 1 => by
  have ih0 := spec_FarthestFrom.mono_l k
  ·intro y0 y1 y2
   unfold spec_FarthestFrom.l0
   repeat' first
   | (with_reducible exact ih0 ..)
   | (with_reducible exact spec_l04Distances.mono ..)
   | (with_reducible first | exact LeO.refl _ | exact LeO.none _ | refine LeO.ite ?_ ?_ | refine LeO.bind ?_ (fun _ => ?_))
   | exact ih0 ..
   | exact spec_l04Distances.mono ..
   | exact LeO.none _ | refine LeO.ite ?_ ?_ | refine LeO.bind ?_ (fun _ => ?_)
theorem spec_FarthestFrom.mono : ∀ a0 a1 a2 a3 k, LeO (spec_FarthestFrom.f k a0 a1 a2 a3) (spec_FarthestFrom.f (k + 1) a0 a1 a2 a3) := by
 intro a0 a1 a2 a3 k
 have ih0 := spec_FarthestFrom.mono_l k
 unfold spec_FarthestFrom.f
 repeat' first
   | (with_reducible exact ih0 ..)
   | (with_reducible exact spec_l04Distances.mono ..)
   | (with_reducible first | exact LeO.refl _ | exact LeO.none _ | refine LeO.ite ?_ ?_ | refine LeO.bind ?_ (fun _ => ?_))
   | exact ih0 ..
   | exact spec_l04Distances.mono ..
   | exact LeO.none _ | refine LeO.ite ?_ ?_ | refine LeO.bind ?_ (fun _ => ?_)
set_option maxHeartbeats 8000000 in
set_option maxRecDepth 100000 in
theorem spec_FarthestFrom.calls (k : Nat) (a0_0 : Int) (a0_1 : Int) (a0_2 : Int) (a1 : Int) (r : Int) (w : World) (h : spec_FarthestFrom.f k a0_0 a0_1 a0_2 a1 = some r) :
  Calls Try.prog 11 #[.agg #[.int .i64 a0_0, .int .i64 a0_1, .int .i64 a0_2], .int .i64 a1] w fun e w' => e = .returned (.int .i64 r) ∧ Below w.heap.size w w' := by
 have hu27 := Try.underlying27
 have HB := Aside0.mk (Below.refl w.heap.size w)
 have H : ((spec_l04Has.f a0_0 a0_1 a0_2 a1).bind fun t502 => (if t502 = true then ((spec_l04Distances.f k a0_0 a0_1 a0_2 a1).bind fun t503 => (spec_FarthestFrom.l0 k t503 a1 0)) else (some (-1)))) = some r := h
 clear h
 replace H := Option.bind_eq_some_iff.mp H
 obtain ⟨t502, A30, H⟩ := H
 replace H : (if t502 = true then ((spec_l04Distances.f k a0_0 a0_1 a0_2 a1).bind fun t503 => (spec_FarthestFrom.l0 k t503 a1 0)) else (some (-1))) = some r := H
 have A3 := Aside0.mk A30
 clear A30
 by_cases c4 : t502 = true
 ·subst c4
  have H1 : ((spec_l04Distances.f k a0_0 a0_1 a0_2 a1).bind fun t503 => (spec_FarthestFrom.l0 k t503 a1 0)) = some r := by rw [if_pos rfl] at H; exact H
  clear H
  have H := H1
  clear H1
  replace H := Option.bind_eq_some_iff.mp H
  obtain ⟨t503, A50, H⟩ := H
  replace H : (spec_FarthestFrom.l0 k t503 a1 0) = some r := H
  have A5 := Aside0.mk A50
  clear A50
  have H' := Aside0.mk H
  clear H
  go_enter Try.func11, Try.ntmps11
  go_wp2_with (first | (refine box_ (N := 2) (cs := #[.int .i64 a0_0, .int .i64 a0_1, .int .i64 a0_2]) (t := 27) ?_; intro gb501 hg w6 hbox hb; have BK501 := Aside0.mk (hbox); have GW501 := HB.g0 hg; have GE501 := HB.g0 hg; replace HB := HB.s0 hb; clear hb hbox hg; obtain ⟨hcz7_0, hcz7_1, hcz7_2⟩ := cz3_ BK501.out; obtain ⟨hfz7_0, hfz7_1, hfz7_2⟩ := fz3_ BK501.out) | (go_at_call 21; (with_reducible refine (spec_l04Has.calls a0_0 a0_1 a0_2 a1 true _ A3.out).mono ?_); rintro e w8 ⟨rfl, hb⟩; replace BK501 := BK501.bb hb; replace HB := HB.s1 GE501 hb; (try clear hb); obtain ⟨hcz9_0, hcz9_1, hcz9_2⟩ := cz3_ BK501.out; obtain ⟨hfz9_0, hfz9_1, hfz9_2⟩ := fz3_ BK501.out) | (go_at_call 22; (with_reducible refine (spec_l04Distances.calls k a0_0 a0_1 a0_2 a1 t503 _ A5.out).mono ?_); rintro e w10 ⟨v504, rfl, ho0, hb⟩; have HO505 := Aside0.mk (Kd.R_lower ho0 (below_size (hb1_ HB.out GE501.out))); replace BK501 := BK501.bb hb; replace HB := HB.s1 GE501 hb; (try clear hb); (try clear ho0)))
  repeat (go_quiet (first | (refine box_ (N := 2) (cs := #[.int .i64 a0_0, .int .i64 a0_1, .int .i64 a0_2]) (t := 27) ?_; intro gb501 hg w6 hbox hb; have BK501 := Aside0.mk (hbox); have GW501 := HB.g0 hg; have GE501 := HB.g0 hg; replace HB := HB.s0 hb; clear hb hbox hg; obtain ⟨hcz7_0, hcz7_1, hcz7_2⟩ := cz3_ BK501.out; obtain ⟨hfz7_0, hfz7_1, hfz7_2⟩ := fz3_ BK501.out) | (go_at_call 21; (with_reducible refine (spec_l04Has.calls a0_0 a0_1 a0_2 a1 true _ A3.out).mono ?_); rintro e w8 ⟨rfl, hb⟩; replace BK501 := BK501.bb hb; replace HB := HB.s1 GE501 hb; (try clear hb); obtain ⟨hcz9_0, hcz9_1, hcz9_2⟩ := cz3_ BK501.out; obtain ⟨hfz9_0, hfz9_1, hfz9_2⟩ := fz3_ BK501.out) | (go_at_call 22; (with_reducible refine (spec_l04Distances.calls k a0_0 a0_1 a0_2 a1 t503 _ A5.out).mono ?_); rintro e w10 ⟨v504, rfl, ho0, hb⟩; have HO505 := Aside0.mk (Kd.R_lower ho0 (below_size (hb1_ HB.out GE501.out))); replace BK501 := BK501.bb hb; replace HB := HB.s1 GE501 hb; (try clear hb); (try clear ho0))); try go_wp2_with (first | (refine box_ (N := 2) (cs := #[.int .i64 a0_0, .int .i64 a0_1, .int .i64 a0_2]) (t := 27) ?_; intro gb501 hg w6 hbox hb; have BK501 := Aside0.mk (hbox); have GW501 := HB.g0 hg; have GE501 := HB.g0 hg; replace HB := HB.s0 hb; clear hb hbox hg; obtain ⟨hcz7_0, hcz7_1, hcz7_2⟩ := cz3_ BK501.out; obtain ⟨hfz7_0, hfz7_1, hfz7_2⟩ := fz3_ BK501.out) | (go_at_call 21; (with_reducible refine (spec_l04Has.calls a0_0 a0_1 a0_2 a1 true _ A3.out).mono ?_); rintro e w8 ⟨rfl, hb⟩; replace BK501 := BK501.bb hb; replace HB := HB.s1 GE501 hb; (try clear hb); obtain ⟨hcz9_0, hcz9_1, hcz9_2⟩ := cz3_ BK501.out; obtain ⟨hfz9_0, hfz9_1, hfz9_2⟩ := fz3_ BK501.out) | (go_at_call 22; (with_reducible refine (spec_l04Distances.calls k a0_0 a0_1 a0_2 a1 t503 _ A5.out).mono ?_); rintro e w10 ⟨v504, rfl, ho0, hb⟩; have HO505 := Aside0.mk (Kd.R_lower ho0 (below_size (hb1_ HB.out GE501.out))); replace BK501 := BK501.bb hb; replace HB := HB.s1 GE501 hb; (try clear hb); (try clear ho0))))
  go_loopg [6, 7] k (fun kq v6 v7 w' => ∃ (x6_1 : Int) (x7_1 : Int), v6 = .int .i64 x6_1 ∧ v7 = .int .i64 x7_1 ∧ Aside0 (spec_FarthestFrom.l0 kq t503 x6_1 x7_1 = some r) ∧ Aside0 (kq ≤ k) ∧ Aside0 (Kd.R (Kd.int .i64) 3 w' w.heap.size (fun _ => True) v504 t503) ∧ Aside0 (w'.heap[gb501]? = some (.cells #[.int .i64 a0_0, .int .i64 a0_1, .int .i64 a0_2] 27 (0, 0))) ∧ Aside0 (Below w.heap.size w w'))
  case atStart => exact ⟨(a1), (0), (by first | rfl | (simp; done) | (simp [*]; done)), (by first | rfl | (simp; done) | (simp [*]; done)), H', ⟨Nat.le_refl _⟩, ⟨kr_ HO505.out⟩, ⟨bk_ BK501.out⟩, ⟨hb1_ HB.out GE501.out⟩⟩
  case round =>
   clear H'
   try clear c1
   try clear p2
   try clear c4
   try clear hcz7_0
   try clear hcz7_1
   try clear hcz7_2
   try clear hcz9_0
   try clear hcz9_1
   try clear hcz9_2
   try clear hfz7_0
   try clear hfz7_1
   try clear hfz7_2
   try clear hfz9_0
   try clear hfz9_1
   try clear hfz9_2
   obtain ⟨x6_1, x7_1, rfl, rfl, HA, HK1, HO_5, BK501, HB⟩ := hrel
   cases gk with
   | zero => exact absurd HA.out (by simp [spec_FarthestFrom.l0])
   | succ k1 =>
    have H := HA.out
    clear HA
    simp only [spec_FarthestFrom.l0] at H
    by_cases c11 : x7_1 < (t503.length : Int)
    ·rw [if_pos c11] at H
     have c11b0 : decide (x7_1 < (t503.length : Int)) = true := decide_eq_true c11
     clear c11
     by_cases c12 : 0 ≤ x7_1
     ·rw [if_pos c12] at H
      have c12b0 : decide (0 ≤ x7_1) = true := decide_eq_true c12
      clear c12
      by_cases c13 : 0 ≤ x6_1
      ·rw [if_pos c13] at H
       have c13b0 : decide (0 ≤ x6_1) = true := decide_eq_true c13
       clear c13
       by_cases c14 : x6_1 < (t503.length : Int)
       ·rw [if_pos c14] at H
        have c14b0 : decide (x6_1 < (t503.length : Int)) = true := decide_eq_true c14
        clear c14
        by_cases c15 : (rd t503 x7_1) > (rd t503 x6_1)
        ·rw [if_pos c15] at H
         have c15b0 : decide ((rd t503 x6_1) < (rd t503 x7_1)) = true := decide_eq_true c15
         clear c15
         have H' := Aside0.mk H
         clear H
         obtain ⟨Ao16, co16, eo16⟩ := Kd.R_slice HO_5.out
         subst eo16
         have p506 : 0 ≤ (x7_1 : Int) := of_decide_eq_true (as_)
         have q506 : x7_1 < (t503.length : Int) := of_decide_eq_true (as_)
         obtain ⟨ad506, e506, hx506_0⟩ := Kd.at_int (Kd.R_reads' HO_5.out).2.2 x7_1 p506 q506
         cases e506
         replace p506 := eq_true p506
         replace q506 := eq_true q506
         have p507 : 0 ≤ (x6_1 : Int) := of_decide_eq_true (as_)
         have q507 : x6_1 < (t503.length : Int) := of_decide_eq_true (as_)
         obtain ⟨ad507, e507, hx507_0⟩ := Kd.at_int (Kd.R_reads' HO_5.out).2.2 x6_1 p507 q507
         obtain rfl : ad506 = ad507 := (by injection e507)
         replace p507 := eq_true p507
         replace q507 := eq_true q507
         go_wp2
         repeat (go_quiet (fail); try go_wp2)
         go_roundg k1
         case measure => have := HK1.out; omega
         case rel => exact ⟨(x7_1), (wrap64 (x7_1 + 1)), (by first | rfl | (simp; done) | (simp [*]; done)), (by first | rfl | (simp; done) | (simp [*]; done)), H', ⟨by have := HK1.out; omega⟩, ⟨kr_ HO_5.out⟩, ⟨bk_ BK501.out⟩, ⟨hb1_ HB.out GE501.out⟩⟩
        ·rw [if_neg c15] at H
         have c15b0 : decide ((rd t503 x6_1) < (rd t503 x7_1)) = false := decide_eq_false c15
         clear c15
         by_cases c17 : (rd t503 x7_1) = (rd t503 x6_1)
         ·rw [if_pos c17] at H
          have c17b0 : ((rd t503 x7_1) == (rd t503 x6_1)) = true := beq_iff_eq.mpr c17
          have c17b1 : ((rd t503 x7_1) != (rd t503 x6_1)) = false := bne_eq_false_iff_eq.mpr c17
          clear c17
          by_cases c18 : x7_1 < x6_1
          ·rw [if_pos c18] at H
           have c18b0 : decide (x7_1 < x6_1) = true := decide_eq_true c18
           clear c18
           have H' := Aside0.mk H
           clear H
           obtain ⟨Ao19, co19, eo19⟩ := Kd.R_slice HO_5.out
           subst eo19
           have p506 : 0 ≤ (x7_1 : Int) := of_decide_eq_true (as_)
           have q506 : x7_1 < (t503.length : Int) := of_decide_eq_true (as_)
           obtain ⟨ad506, e506, hx506_0⟩ := Kd.at_int (Kd.R_reads' HO_5.out).2.2 x7_1 p506 q506
           cases e506
           replace p506 := eq_true p506
           replace q506 := eq_true q506
           have p507 : 0 ≤ (x6_1 : Int) := of_decide_eq_true (as_)
           have q507 : x6_1 < (t503.length : Int) := of_decide_eq_true (as_)
           obtain ⟨ad507, e507, hx507_0⟩ := Kd.at_int (Kd.R_reads' HO_5.out).2.2 x6_1 p507 q507
           obtain rfl : ad506 = ad507 := (by injection e507)
           replace p507 := eq_true p507
           replace q507 := eq_true q507
           have p508 : 0 ≤ (x7_1 : Int) := of_decide_eq_true (as_)
           have q508 : x7_1 < (t503.length : Int) := of_decide_eq_true (as_)
           obtain ⟨ad508, e508, hx508_0⟩ := Kd.at_int (Kd.R_reads' HO_5.out).2.2 x7_1 p508 q508
           obtain rfl : ad506 = ad508 := (by injection e508)
           replace p508 := eq_true p508
           replace q508 := eq_true q508
           have p509 : 0 ≤ (x6_1 : Int) := of_decide_eq_true (as_)
           have q509 : x6_1 < (t503.length : Int) := of_decide_eq_true (as_)
           obtain ⟨ad509, e509, hx509_0⟩ := Kd.at_int (Kd.R_reads' HO_5.out).2.2 x6_1 p509 q509
           obtain rfl : ad506 = ad509 := (by injection e509)
           replace p509 := eq_true p509
           replace q509 := eq_true q509
           go_wp2
           repeat (go_quiet (fail); try go_wp2)
           go_roundg k1
           case measure => have := HK1.out; omega
           case rel => exact ⟨(x7_1), (wrap64 (x7_1 + 1)), (by first | rfl | (simp; done) | (simp [*]; done)), (by first | rfl | (simp; done) | (simp [*]; done)), H', ⟨by have := HK1.out; omega⟩, ⟨kr_ HO_5.out⟩, ⟨bk_ BK501.out⟩, ⟨hb1_ HB.out GE501.out⟩⟩
          ·rw [if_neg c18] at H
           have c18b0 : decide (x7_1 < x6_1) = false := decide_eq_false c18
           clear c18
           have H' := Aside0.mk H
           clear H
           obtain ⟨Ao20, co20, eo20⟩ := Kd.R_slice HO_5.out
           subst eo20
           have p506 : 0 ≤ (x7_1 : Int) := of_decide_eq_true (as_)
           have q506 : x7_1 < (t503.length : Int) := of_decide_eq_true (as_)
           obtain ⟨ad506, e506, hx506_0⟩ := Kd.at_int (Kd.R_reads' HO_5.out).2.2 x7_1 p506 q506
           cases e506
           replace p506 := eq_true p506
           replace q506 := eq_true q506
           have p507 : 0 ≤ (x6_1 : Int) := of_decide_eq_true (as_)
           have q507 : x6_1 < (t503.length : Int) := of_decide_eq_true (as_)
           obtain ⟨ad507, e507, hx507_0⟩ := Kd.at_int (Kd.R_reads' HO_5.out).2.2 x6_1 p507 q507
           obtain rfl : ad506 = ad507 := (by injection e507)
           replace p507 := eq_true p507
           replace q507 := eq_true q507
           have p508 : 0 ≤ (x7_1 : Int) := of_decide_eq_true (as_)
           have q508 : x7_1 < (t503.length : Int) := of_decide_eq_true (as_)
           obtain ⟨ad508, e508, hx508_0⟩ := Kd.at_int (Kd.R_reads' HO_5.out).2.2 x7_1 p508 q508
           obtain rfl : ad506 = ad508 := (by injection e508)
           replace p508 := eq_true p508
           replace q508 := eq_true q508
           have p509 : 0 ≤ (x6_1 : Int) := of_decide_eq_true (as_)
           have q509 : x6_1 < (t503.length : Int) := of_decide_eq_true (as_)
           obtain ⟨ad509, e509, hx509_0⟩ := Kd.at_int (Kd.R_reads' HO_5.out).2.2 x6_1 p509 q509
           obtain rfl : ad506 = ad509 := (by injection e509)
           replace p509 := eq_true p509
           replace q509 := eq_true q509
           go_wp2
           repeat (go_quiet (fail); try go_wp2)
           go_roundg k1
           case measure => have := HK1.out; omega
           case rel => exact ⟨(x6_1), (wrap64 (x7_1 + 1)), (by first | rfl | (simp; done) | (simp [*]; done)), (by first | rfl | (simp; done) | (simp [*]; done)), H', ⟨by have := HK1.out; omega⟩, ⟨kr_ HO_5.out⟩, ⟨bk_ BK501.out⟩, ⟨hb1_ HB.out GE501.out⟩⟩
         ·rw [if_neg c17] at H
          have c17b0 : ((rd t503 x7_1) == (rd t503 x6_1)) = false := beq_eq_false_iff_ne.mpr c17
          have c17b1 : ((rd t503 x7_1) != (rd t503 x6_1)) = true := bne_iff_ne.mpr c17
          have H' := Aside0.mk H
          clear H
          obtain ⟨Ao21, co21, eo21⟩ := Kd.R_slice HO_5.out
          subst eo21
          have p506 : 0 ≤ (x7_1 : Int) := of_decide_eq_true (as_)
          have q506 : x7_1 < (t503.length : Int) := of_decide_eq_true (as_)
          obtain ⟨ad506, e506, hx506_0⟩ := Kd.at_int (Kd.R_reads' HO_5.out).2.2 x7_1 p506 q506
          cases e506
          replace p506 := eq_true p506
          replace q506 := eq_true q506
          have p507 : 0 ≤ (x6_1 : Int) := of_decide_eq_true (as_)
          have q507 : x6_1 < (t503.length : Int) := of_decide_eq_true (as_)
          obtain ⟨ad507, e507, hx507_0⟩ := Kd.at_int (Kd.R_reads' HO_5.out).2.2 x6_1 p507 q507
          obtain rfl : ad506 = ad507 := (by injection e507)
          replace p507 := eq_true p507
          replace q507 := eq_true q507
          have p508 : 0 ≤ (x7_1 : Int) := of_decide_eq_true (as_)
          have q508 : x7_1 < (t503.length : Int) := of_decide_eq_true (as_)
          obtain ⟨ad508, e508, hx508_0⟩ := Kd.at_int (Kd.R_reads' HO_5.out).2.2 x7_1 p508 q508
          obtain rfl : ad506 = ad508 := (by injection e508)
          replace p508 := eq_true p508
          replace q508 := eq_true q508
          have p509 : 0 ≤ (x6_1 : Int) := of_decide_eq_true (as_)
          have q509 : x6_1 < (t503.length : Int) := of_decide_eq_true (as_)
          obtain ⟨ad509, e509, hx509_0⟩ := Kd.at_int (Kd.R_reads' HO_5.out).2.2 x6_1 p509 q509
          obtain rfl : ad506 = ad509 := (by injection e509)
          replace p509 := eq_true p509
          replace q509 := eq_true q509
          go_wp2
          repeat (go_quiet (fail); try go_wp2)
          go_roundg k1
          case measure => have := HK1.out; omega
          case rel => exact ⟨(x6_1), (wrap64 (x7_1 + 1)), (by first | rfl | (simp; done) | (simp [*]; done)), (by first | rfl | (simp; done) | (simp [*]; done)), H', ⟨by have := HK1.out; omega⟩, ⟨kr_ HO_5.out⟩, ⟨bk_ BK501.out⟩, ⟨hb1_ HB.out GE501.out⟩⟩
       ·rw [if_neg c14] at H
        exact absurd H (by simp)
      ·rw [if_neg c13] at H
       exact absurd H (by simp)
     ·rw [if_neg c12] at H
      exact absurd H (by simp)
    ·rw [if_neg c11] at H
     have c11b0 : decide (x7_1 < (t503.length : Int)) = false := decide_eq_false c11
     clear c11
     obtain rfl := Option.some.inj H
     obtain ⟨Ao22, co22, eo22⟩ := Kd.R_slice HO_5.out
     subst eo22
     go_wp2
     repeat (go_quiet (fail); try go_wp2)
     go_ret
     exact ⟨ex_, hb1_ HB.out GE501.out⟩
 ·replace c4 := Bool.eq_false_iff.mpr c4
  subst c4
  have H1 : (some (-1)) = some r := by rw [if_neg (show ¬ (false = true) by decide)] at H; exact H
  clear H
  have H := H1
  clear H1
  obtain rfl := Option.some.inj H
  go_enter Try.func11, Try.ntmps11
  go_wp2_with (first | (refine box_ (N := 2) (cs := #[.int .i64 a0_0, .int .i64 a0_1, .int .i64 a0_2]) (t := 27) ?_; intro gb501 hg w23 hbox hb; have BK501 := Aside0.mk (hbox); have GW501 := HB.g0 hg; have GE501 := HB.g0 hg; replace HB := HB.s0 hb; clear hb hbox hg; obtain ⟨hcz24_0, hcz24_1, hcz24_2⟩ := cz3_ BK501.out; obtain ⟨hfz24_0, hfz24_1, hfz24_2⟩ := fz3_ BK501.out) | (go_at_call 21; (with_reducible refine (spec_l04Has.calls a0_0 a0_1 a0_2 a1 false _ A3.out).mono ?_); rintro e w25 ⟨rfl, hb⟩; replace BK501 := BK501.bb hb; replace HB := HB.s1 GE501 hb; (try clear hb)))
  repeat (go_quiet (first | (refine box_ (N := 2) (cs := #[.int .i64 a0_0, .int .i64 a0_1, .int .i64 a0_2]) (t := 27) ?_; intro gb501 hg w23 hbox hb; have BK501 := Aside0.mk (hbox); have GW501 := HB.g0 hg; have GE501 := HB.g0 hg; replace HB := HB.s0 hb; clear hb hbox hg; obtain ⟨hcz24_0, hcz24_1, hcz24_2⟩ := cz3_ BK501.out; obtain ⟨hfz24_0, hfz24_1, hfz24_2⟩ := fz3_ BK501.out) | (go_at_call 21; (with_reducible refine (spec_l04Has.calls a0_0 a0_1 a0_2 a1 false _ A3.out).mono ?_); rintro e w25 ⟨rfl, hb⟩; replace BK501 := BK501.bb hb; replace HB := HB.s1 GE501 hb; (try clear hb))); try go_wp2_with (first | (refine box_ (N := 2) (cs := #[.int .i64 a0_0, .int .i64 a0_1, .int .i64 a0_2]) (t := 27) ?_; intro gb501 hg w23 hbox hb; have BK501 := Aside0.mk (hbox); have GW501 := HB.g0 hg; have GE501 := HB.g0 hg; replace HB := HB.s0 hb; clear hb hbox hg; obtain ⟨hcz24_0, hcz24_1, hcz24_2⟩ := cz3_ BK501.out; obtain ⟨hfz24_0, hfz24_1, hfz24_2⟩ := fz3_ BK501.out) | (go_at_call 21; (with_reducible refine (spec_l04Has.calls a0_0 a0_1 a0_2 a1 false _ A3.out).mono ?_); rintro e w25 ⟨rfl, hb⟩; replace BK501 := BK501.bb hb; replace HB := HB.s1 GE501 hb; (try clear hb))))
  go_ret
  exact ⟨ex_, hb1_ HB.out GE501.out⟩

end Go.Proofs.Ytceikdeladdbpaa.X
