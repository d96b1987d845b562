-- Written by a program of this session (xprint.py), out of the translation and of hand-written contracts. Lean checks it.
import Derived.Test.YtkkjlbpffcdlfaaX0
import Derived.Test.YtkkjlbpffcdlfaaXcints
namespace Go.Proofs.Ytkkjlbpffcdlfaa.X
open Go.RowKit Go.Proofs.YtkkjlbpffcdlfaaW.PrintWords Go.Proofs.YtkkjlbpffcdlfaaW.PrintLast Go.Proofs.YtkkjlbpffcdlfaaW.PrintMore
attribute [local go_sem] max2_int min2_int max_two min_two max_three min_three max_four min_four   -- for this text's walks alone
set_option linter.unusedVariables false
set_option linter.unusedSimpArgs false

/-! ### impl_CircuitsOk: function 29 -/
def impl_CircuitsOk.l0 : Nat → List Int → List Int → Int → Int → Option (Bool)
 | 0, _, _, _, _ => none
 | k + 1, x0, x5, x6, x7 => if x7 < x6 then (if 0 ≤ x7 then (if x7 < (x5.length : Int) then (if (rd x5 x7) < 1 then (some false) else (if (rd x5 x7) > (x0.length : Int) then (some false) else (if x7 ≤ (x0.length : Int) then ((slices_Contains_int_int.f k (x0.take (x7 : Int).toNat) (rd x5 x7)).bind fun t503 => (if t503 = true then (some false) else (impl_CircuitsOk.l0 k x0 x5 x6 (wrap64 (x7 + 1))))) else (none)))) else (none)) else (none)) else (if (x0.length : Int) ≥ 1 then (some (decide ((x0.length : Int) ≤ 9))) else (some false))
def impl_CircuitsOk.f (k : Nat) (l0 : List Int) : Option (Bool) := impl_CircuitsOk.l0 k l0 l0 (l0.length : Int) 0
theorem impl_CircuitsOk.mono_l : ∀ k, (∀ y0 y1 y2 y3, LeO (impl_CircuitsOk.l0 k y0 y1 y2 y3) (impl_CircuitsOk.l0 (k + 1) y0 y1 y2 y3))
 | 0 => fun _ _ _ _ r h => by simp [impl_CircuitsOk.l0] at h
 | k + 1 => by
  have ih0 := impl_CircuitsOk.mono_l k
  ·intro y0 y1 y2 y3
   unfold impl_CircuitsOk.l0
   repeat' first
   | (with_reducible exact ih0 ..)
   | (with_reducible exact slices_Contains_int_int.mono ..)
   | (with_reducible first | exact lr_ _ | exact ln_ _ | refine li_ ?_ ?_ | refine lb_ ?_ fun _ => ?_)
   | exact ih0 ..
   | exact slices_Contains_int_int.mono ..
   | exact ln_ _ | refine li_ ?_ ?_ | refine lb_ ?_ fun _ => ?_
theorem impl_CircuitsOk.mono : ∀ a0 k, LeO (impl_CircuitsOk.f k a0) (impl_CircuitsOk.f (k + 1) a0) := by
 intro a0 k
 have ih0 := impl_CircuitsOk.mono_l k
 unfold impl_CircuitsOk.f
 repeat' first
   | (with_reducible exact ih0 ..)
   | (with_reducible exact slices_Contains_int_int.mono ..)
   | (with_reducible first | exact lr_ _ | exact ln_ _ | refine li_ ?_ ?_ | refine lb_ ?_ fun _ => ?_)
   | exact ih0 ..
   | exact slices_Contains_int_int.mono ..
   | exact ln_ _ | refine li_ ?_ ?_ | refine lb_ ?_ fun _ => ?_
set_option maxHeartbeats 8000000 in
set_option maxRecDepth 100000 in
theorem impl_CircuitsOk.calls (k : Nat) (A0 : Option Addr) (c0 : Nat) (l0 : List Int) (r : Bool) (w : World) (hr0 : Kd.C (Kd.int .i64) w A0 l0.length l0) (hc0 : l0.length ≤ c0) (h : impl_CircuitsOk.f k l0 = some r) :
  Calls Try.prog 29 #[.slice A0 l0.length c0] w fun e w' => e = .returned (.bool r) ∧ Drawn0 w w' := by
 have HR0 := Aside0.mk hr0
 have HC0 := Aside0.mk hc0
 clear hr0 hc0
 have H : (impl_CircuitsOk.l0 k l0 l0 (l0.length : Int) 0) = some r := h
 clear h
 have H' := Aside0.mk H
 clear H
 go_enter Try.func29, Try.ntmps29
 go_wp2
 go_loopg [7] k (fun kq v7 w' => ∃ (x7_1 : Int), v7 = .int .i64 x7_1 ∧ Aside0 (impl_CircuitsOk.l0 kq l0 l0 (l0.length : Int) x7_1 = some r) ∧ Aside0 (kq ≤ k) ∧ Drawn0 w w')
 case atStart => exact ⟨(0), (by first | rfl | (simp; done) | (simp [*]; done)), H', ⟨Nat.le_refl _⟩, dr_⟩
 case round =>
  clear H'
  obtain ⟨x7_1, rfl, HA, HK1, ⟨m1, rfl⟩⟩ := hrel
  cases gk with
  | zero => exact absurd HA.out (by simp [impl_CircuitsOk.l0])
  | succ k1 =>
   have H := HA.out
   clear HA
   simp only [impl_CircuitsOk.l0] at H
   by_cases c2 : x7_1 < (l0.length : Int)
   ·rw [if_pos c2] at H
    have c2b0 : decide (x7_1 < (l0.length : Int)) = true := decide_eq_true c2
    clear c2
    by_cases c3 : 0 ≤ x7_1
    ·rw [if_pos c3] at H
     have c3b0 : decide (0 ≤ x7_1) = true := decide_eq_true c3
     clear c3
     by_cases c4 : x7_1 < (l0.length : Int)
     ·rw [if_pos c4] at H
      have c4b0 : decide (x7_1 < (l0.length : Int)) = true := decide_eq_true c4
      clear c4
      by_cases c5 : (rd l0 x7_1) < 1
      ·rw [if_pos c5] at H
       have c5b0 : decide ((rd l0 x7_1) < 1) = true := decide_eq_true c5
       clear c5
       obtain rfl := Option.some.inj H
       have p501 : 0 ≤ (x7_1 : Int) := of_decide_eq_true (as_)
       have q501 : x7_1 < (l0.length : Int) := of_decide_eq_true (as_)
       obtain ⟨ad501, e501, hx501_0⟩ := Kd.at_int HR0.out x7_1 p501 q501
       cases e501
       replace p501 := eq_true p501
       replace q501 := eq_true q501
       go_wp2
       go_ret
       exact ⟨by first | rfl | (simp; done) | (simp [*]; done), dr_⟩
      ·rw [if_neg c5] at H
       have c5b0 : decide ((rd l0 x7_1) < 1) = false := decide_eq_false c5
       clear c5
       by_cases c6 : (rd l0 x7_1) > (l0.length : Int)
       ·rw [if_pos c6] at H
        have c6b0 : decide ((l0.length : Int) < (rd l0 x7_1)) = true := decide_eq_true c6
        clear c6
        obtain rfl := Option.some.inj H
        have p501 : 0 ≤ (x7_1 : Int) := of_decide_eq_true (as_)
        have q501 : x7_1 < (l0.length : Int) := of_decide_eq_true (as_)
        obtain ⟨ad501, e501, hx501_0⟩ := Kd.at_int HR0.out x7_1 p501 q501
        cases e501
        replace p501 := eq_true p501
        replace q501 := eq_true q501
        go_wp2
        go_ret
        exact ⟨by first | rfl | (simp; done) | (simp [*]; done), dr_⟩
       ·rw [if_neg c6] at H
        have c6b0 : decide ((l0.length : Int) < (rd l0 x7_1)) = false := decide_eq_false c6
        clear c6
        have c7b0 := eq_true (of_decide_eq_true (as_) : 0 ≤ x7_1)
        by_cases c8 : x7_1 ≤ (l0.length : Int)
        ·rw [if_pos c8] at H
         have c8b0 := eq_true c8
         have c8b1 : decide (x7_1 ≤ (l0.length : Int)) = true := decide_eq_true c8
         clear c8
         replace H := Option.bind_eq_some_iff.mp H
         obtain ⟨t503, A90, H⟩ := H
         replace H : (if t503 = true then (some false) else (impl_CircuitsOk.l0 k1 l0 l0 (l0.length : Int) (wrap64 (x7_1 + 1)))) = some r := H
         have A9 := Aside0.mk A90
         clear A90
         by_cases c10 : t503 = true
         ·subst c10
          have H1 : (some false) = some r := by rw [if_pos rfl] at H; exact H
          clear H
          have H := H1
          clear H1
          obtain rfl := Option.some.inj H
          have p501 : 0 ≤ (x7_1 : Int) := of_decide_eq_true (as_)
          have q501 : x7_1 < (l0.length : Int) := of_decide_eq_true (as_)
          obtain ⟨ad501, e501, hx501_0⟩ := Kd.at_int HR0.out x7_1 p501 q501
          cases e501
          replace p501 := eq_true p501
          replace q501 := eq_true q501
          obtain ⟨i011, hi011, _, hsz11, _⟩ := info_parts info3
          obtain ⟨hcut11, hA11, hC11⟩ := print_take_of (P := Try.prog) (Value.int .i64) 0 22 3 .i64 Try.underlying22 hi011 hsz11 (some ad501) c0 l0 x7_1 (of_decide_eq_true (as_)) (of_decide_eq_true (as_)) HC0.out
          have HLENx7_1l0 := Aside0.mk (show (Value.slice (some ad501) (x7_1 : Int).toNat c0) = Value.slice (some ad501) (l0.take (x7_1 : Int).toNat).length c0 from by have a_ := of_decide_eq_true (show decide (x7_1 ≤ (l0.length : Int)) = true by assumption); have b_ : (l0.take (x7_1 : Int).toNat).length = (x7_1 : Int).toNat := (by rw [List.length_take]; omega); rw [b_])
          have HR502 := Aside0.mk (Kd.C_of_reads (h1 := fun _ => rfl) (hA11 _ (Kd.reads_of_C HR0.out)))
          have HC502 := Aside0.mk hC11
          clear hA11 hC11 hi011 hsz11
          go_wp2_with (first | (go_at_call 42; (try rw [HLENx7_1l0.out]); (with_reducible refine (slices_Contains_int_int.calls k1 _ _ (l0.take (x7_1 : Int).toNat) (rd l0 x7_1) true _ ?side1 ?side2 A9.out).mono ?_); (case side1 => exact kc_ HR502.out); (case side2 => exact HC502.out); rintro e w' ⟨rfl, ⟨nd, rfl⟩⟩))
          go_ret
          exact ⟨by first | rfl | (simp; done) | (simp [*]; done), dr_⟩
         ·replace c10 := Bool.eq_false_iff.mpr c10
          subst c10
          have H1 : (impl_CircuitsOk.l0 k1 l0 l0 (l0.length : Int) (wrap64 (x7_1 + 1))) = some r := by rw [if_neg (show ¬ (false = true) by decide)] at H; exact H
          clear H
          have H := H1
          clear H1
          have H' := Aside0.mk H
          clear H
          have p501 : 0 ≤ (x7_1 : Int) := of_decide_eq_true (as_)
          have q501 : x7_1 < (l0.length : Int) := of_decide_eq_true (as_)
          obtain ⟨ad501, e501, hx501_0⟩ := Kd.at_int HR0.out x7_1 p501 q501
          cases e501
          replace p501 := eq_true p501
          replace q501 := eq_true q501
          obtain ⟨i012, hi012, _, hsz12, _⟩ := info_parts info3
          obtain ⟨hcut12, hA12, hC12⟩ := print_take_of (P := Try.prog) (Value.int .i64) 0 22 3 .i64 Try.underlying22 hi012 hsz12 (some ad501) c0 l0 x7_1 (of_decide_eq_true (as_)) (of_decide_eq_true (as_)) HC0.out
          have HLENx7_1l0 := Aside0.mk (show (Value.slice (some ad501) (x7_1 : Int).toNat c0) = Value.slice (some ad501) (l0.take (x7_1 : Int).toNat).length c0 from by have a_ := of_decide_eq_true (show decide (x7_1 ≤ (l0.length : Int)) = true by assumption); have b_ : (l0.take (x7_1 : Int).toNat).length = (x7_1 : Int).toNat := (by rw [List.length_take]; omega); rw [b_])
          have HR502 := Aside0.mk (Kd.C_of_reads (h1 := fun _ => rfl) (hA12 _ (Kd.reads_of_C HR0.out)))
          have HC502 := Aside0.mk hC12
          clear hA12 hC12 hi012 hsz12
          go_wp2_with (first | (go_at_call 42; (try rw [HLENx7_1l0.out]); (with_reducible refine (slices_Contains_int_int.calls k1 _ _ (l0.take (x7_1 : Int).toNat) (rd l0 x7_1) false _ ?side1 ?side2 A9.out).mono ?_); (case side1 => exact kc_ HR502.out); (case side2 => exact HC502.out); rintro e w' ⟨rfl, ⟨nd, rfl⟩⟩))
          go_roundg k1
          case measure => have := HK1.out; omega
          case rel => exact ⟨(wrap64 (x7_1 + 1)), (by first | rfl | (simp; done) | (simp [*]; done)), H', ⟨by have := HK1.out; omega⟩, dr_⟩
        ·rw [if_neg c8] at H
         exact absurd H (by simp)
     ·rw [if_neg c4] at H
      exact absurd H (by simp)
    ·rw [if_neg c3] at H
     exact absurd H (by simp)
   ·rw [if_neg c2] at H
    have c2b0 : decide (x7_1 < (l0.length : Int)) = false := decide_eq_false c2
    clear c2
    by_cases c13 : (l0.length : Int) ≥ 1
    ·rw [if_pos c13] at H
     have c13b0 : decide (1 ≤ (l0.length : Int)) = true := decide_eq_true c13
     have c13b1 : decide (1 ≤ l0.length) = true := decide_eq_true (by omega)
     clear c13
     obtain rfl := Option.some.inj H
     go_wp2
     go_ret
     exact ⟨by first | rfl | (simp; done) | (simp [*]; done), dr_⟩
    ·rw [if_neg c13] at H
     have c13b0 : decide (1 ≤ (l0.length : Int)) = false := decide_eq_false c13
     have c13b1 : decide (1 ≤ l0.length) = false := decide_eq_false (by omega)
     clear c13
     obtain rfl := Option.some.inj H
     go_wp2
     go_ret
     exact ⟨by first | rfl | (simp; done) | (simp [*]; done), dr_⟩

end Go.Proofs.Ytkkjlbpffcdlfaa.X
