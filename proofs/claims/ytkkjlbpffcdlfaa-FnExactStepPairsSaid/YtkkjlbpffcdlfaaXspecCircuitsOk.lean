-- Written by a program of this session (xprint.py), out of the translation and of hand-written contracts. Lean checks it.
import Derived.Test.YtkkjlbpffcdlfaaX0
import Derived.Test.YtkkjlbpffcdlfaaXcgrid
import Derived.Test.YtkkjlbpffcdlfaaXcints
namespace Go.Proofs.Ytkkjlbpffcdlfaa.X
open Go.RowKit Go.Proofs.YtkkjlbpffcdlfaaW.PrintWords Go.Proofs.YtkkjlbpffcdlfaaW.PrintLast Go.Proofs.YtkkjlbpffcdlfaaW.PrintMore
attribute [local go_sem] max2_int min2_int max_two min_two max_three min_three max_four min_four   -- for this text's walks alone
set_option linter.unusedVariables false
set_option linter.unusedSimpArgs false

/-! ### spec_CircuitsOk: function 27 -/
def spec_CircuitsOk.l0 : Nat → List Int → Int → Option (Bool)
 | 0, _, _ => none
 | k + 1, x0, x3 => if x3 < (x0.length : Int) then (if 0 ≤ x3 then ((spec_l01In.f (rd x0 x3) 1 (x0.length : Int)).bind fun t503 => (if t503 = true then (if x3 ≤ (x0.length : Int) then ((spec_l07In.f k (x0.take (x3 : Int).toNat) (rd x0 x3)).bind fun t506 => (if t506 = true then (some false) else (spec_CircuitsOk.l0 k x0 (wrap64 (x3 + 1))))) else (none)) else (some false))) else (none)) else ((spec_l01In.f (x0.length : Int) 1 9).bind fun t501 => (some t501))
def spec_CircuitsOk.f (k : Nat) (l0 : List Int) : Option (Bool) := spec_CircuitsOk.l0 k l0 0
theorem spec_CircuitsOk.mono_l : ∀ k, (∀ y0 y1, LeO (spec_CircuitsOk.l0 k y0 y1) (spec_CircuitsOk.l0 (k + 1) y0 y1))
 | 0 => fun _ _ r h => by simp [spec_CircuitsOk.l0] at h
 | k + 1 => by
  have ih0 := spec_CircuitsOk.mono_l k
  ·intro y0 y1
   unfold spec_CircuitsOk.l0
   repeat' first
   | (with_reducible exact ih0 ..)
   | (with_reducible exact spec_l07In.mono ..)
   | (with_reducible first | exact lr_ _ | exact ln_ _ | refine li_ ?_ ?_ | refine lb_ ?_ fun _ => ?_)
   | exact ih0 ..
   | exact spec_l07In.mono ..
   | exact ln_ _ | refine li_ ?_ ?_ | refine lb_ ?_ fun _ => ?_
theorem spec_CircuitsOk.mono : ∀ a0 k, LeO (spec_CircuitsOk.f k a0) (spec_CircuitsOk.f (k + 1) a0) := by
 intro a0 k
 have ih0 := spec_CircuitsOk.mono_l k
 unfold spec_CircuitsOk.f
 repeat' first
   | (with_reducible exact ih0 ..)
   | (with_reducible exact spec_l07In.mono ..)
   | (with_reducible first | exact lr_ _ | exact ln_ _ | refine li_ ?_ ?_ | refine lb_ ?_ fun _ => ?_)
   | exact ih0 ..
   | exact spec_l07In.mono ..
   | exact ln_ _ | refine li_ ?_ ?_ | refine lb_ ?_ fun _ => ?_
set_option maxHeartbeats 8000000 in
set_option maxRecDepth 100000 in
theorem spec_CircuitsOk.calls (k : Nat) (A0 : Option Addr) (c0 : Nat) (l0 : List Int) (r : Bool) (w : World) (hr0 : Kd.C (Kd.int .i64) w A0 l0.length l0) (hc0 : l0.length ≤ c0) (h : spec_CircuitsOk.f k l0 = some r) :
  Calls Try.prog 27 #[.slice A0 l0.length c0] w fun e w' => e = .returned (.bool r) ∧ Drawn0 w w' := by
 have HR0 := Aside0.mk hr0
 have HC0 := Aside0.mk hc0
 clear hr0 hc0
 have H : (spec_CircuitsOk.l0 k l0 0) = some r := h
 clear h
 have H' := Aside0.mk H
 clear H
 go_enter Try.func27, Try.ntmps27
 go_wp2
 repeat (go_quiet (fail); try go_wp2)
 go_loopg [3] k (fun kq v3 w' => ∃ (x3_1 : Int), v3 = .int .i64 x3_1 ∧ Aside0 (spec_CircuitsOk.l0 kq l0 x3_1 = some r) ∧ Aside0 (kq ≤ k) ∧ Drawn0 w w')
 case atStart => exact ⟨(0), (by first | rfl | (simp; done) | (simp [*]; done)), H', ⟨Nat.le_refl _⟩, dr_⟩
 case round =>
  clear H'
  obtain ⟨x3_1, rfl, HA, HK1, ⟨m1, rfl⟩⟩ := hrel
  cases gk with
  | zero => exact absurd HA.out (by simp [spec_CircuitsOk.l0])
  | succ k1 =>
   have H := HA.out
   clear HA
   simp only [spec_CircuitsOk.l0] at H
   by_cases c2 : x3_1 < (l0.length : Int)
   ·rw [if_pos c2] at H
    have c2b0 : decide (x3_1 < (l0.length : Int)) = true := decide_eq_true c2
    clear c2
    by_cases c3 : 0 ≤ x3_1
    ·rw [if_pos c3] at H
     have c3b0 : decide (0 ≤ x3_1) = true := decide_eq_true c3
     clear c3
     replace H := Option.bind_eq_some_iff.mp H
     obtain ⟨t503, A40, H⟩ := H
     replace H : (if t503 = true then (if x3_1 ≤ (l0.length : Int) then ((spec_l07In.f k1 (l0.take (x3_1 : Int).toNat) (rd l0 x3_1)).bind fun t506 => (if t506 = true then (some false) else (spec_CircuitsOk.l0 k1 l0 (wrap64 (x3_1 + 1))))) else (none)) else (some false)) = some r := H
     have A4 := Aside0.mk A40
     clear A40
     by_cases c5 : t503 = true
     ·subst c5
      have H1 : (if x3_1 ≤ (l0.length : Int) then ((spec_l07In.f k1 (l0.take (x3_1 : Int).toNat) (rd l0 x3_1)).bind fun t506 => (if t506 = true then (some false) else (spec_CircuitsOk.l0 k1 l0 (wrap64 (x3_1 + 1))))) else (none)) = some r := by rw [if_pos rfl] at H; exact H
      clear H
      have H := H1
      clear H1
      have c6b0 := eq_true (of_decide_eq_true (as_) : 0 ≤ x3_1)
      by_cases c7 : x3_1 ≤ (l0.length : Int)
      ·rw [if_pos c7] at H
       have c7b0 := eq_true c7
       have c7b1 : decide (x3_1 ≤ (l0.length : Int)) = true := decide_eq_true c7
       clear c7
       replace H := Option.bind_eq_some_iff.mp H
       obtain ⟨t506, A80, H⟩ := H
       replace H : (if t506 = true then (some false) else (spec_CircuitsOk.l0 k1 l0 (wrap64 (x3_1 + 1)))) = some r := H
       have A8 := Aside0.mk A80
       clear A80
       by_cases c9 : t506 = true
       ·subst c9
        have H1 : (some false) = some r := by rw [if_pos rfl] at H; exact H
        clear H
        have H := H1
        clear H1
        obtain rfl := Option.some.inj H
        have p502 : 0 ≤ (x3_1 : Int) := of_decide_eq_true (as_)
        have q502 : x3_1 < (l0.length : Int) := of_decide_eq_true (as_)
        obtain ⟨ad502, e502, hx502_0⟩ := Kd.at_int HR0.out x3_1 p502 q502
        cases e502
        replace p502 := eq_true p502
        replace q502 := eq_true q502
        obtain ⟨i010, hi010, _, hsz10, _⟩ := info_parts info3; obtain ⟨hcut10, hA10, hC10⟩ := print_take_of (P := Try.prog) (Value.int .i64) 0 22 3 .i64 Try.underlying22 hi010 hsz10 (some ad502) c0 l0 x3_1 (of_decide_eq_true (as_)) (of_decide_eq_true (as_)) HC0.out; have HR504 := Aside0.mk (Kd.C_of_reads (h1 := fun _ => rfl) (hA10 _ (Kd.reads_of_C HR0.out))); have HC504 := Aside0.mk hC10; clear hA10 hC10 hi010 hsz10; have p505 : 0 ≤ (x3_1 : Int) := of_decide_eq_true (as_); have q505 : x3_1 < (l0.length : Int) := of_decide_eq_true (as_); obtain ⟨ad505, e505, hx505_0⟩ := Kd.at_int HR0.out x3_1 p505 q505; obtain rfl : ad502 = ad505 := (by injection e505); replace p505 := eq_true p505; replace q505 := eq_true q505
        have HLENx3_1l0 := Aside0.mk (show (Value.slice (some ad502) (x3_1 : Int).toNat c0) = Value.slice (some ad502) (l0.take (x3_1 : Int).toNat).length c0 from by have a_ := of_decide_eq_true (show decide (x3_1 ≤ (l0.length : Int)) = true by assumption); have b_ : (l0.take (x3_1 : Int).toNat).length = (x3_1 : Int).toNat := (by rw [List.length_take]; omega); rw [b_])
        go_wp2_with (first | (go_at_call 28; (with_reducible refine (spec_l01In.calls (rd l0 x3_1) 1 (l0.length : Int) true _ A4.out).mono ?_); rintro e w' ⟨rfl, ⟨nd, rfl⟩⟩; (try first | exact ⟨rfl, _, World.drewN_drewN _ _ _⟩ | exact ⟨rfl, _, Eq.trans (World.drewN_drewN _ _ _) (congrArg (World.drewN _) (Nat.add_assoc _ _ _))⟩)) | (go_at_call 41; (try rw [HLENx3_1l0.out]); (with_reducible refine (spec_l07In.calls k1 _ _ (l0.take (x3_1 : Int).toNat) (rd l0 x3_1) true _ ?side1 ?side2 A8.out).mono ?_); (case side1 => exact kc_ HR504.out); (case side2 => exact HC504.out); rintro e w' ⟨rfl, ⟨nd, rfl⟩⟩; (try first | exact ⟨rfl, _, World.drewN_drewN _ _ _⟩ | exact ⟨rfl, _, Eq.trans (World.drewN_drewN _ _ _) (congrArg (World.drewN _) (Nat.add_assoc _ _ _))⟩)))
        repeat (go_quiet (first | (go_at_call 28; (with_reducible refine (spec_l01In.calls (rd l0 x3_1) 1 (l0.length : Int) true _ A4.out).mono ?_); rintro e w' ⟨rfl, ⟨nd, rfl⟩⟩; (try first | exact ⟨rfl, _, World.drewN_drewN _ _ _⟩ | exact ⟨rfl, _, Eq.trans (World.drewN_drewN _ _ _) (congrArg (World.drewN _) (Nat.add_assoc _ _ _))⟩)) | (go_at_call 41; (try rw [HLENx3_1l0.out]); (with_reducible refine (spec_l07In.calls k1 _ _ (l0.take (x3_1 : Int).toNat) (rd l0 x3_1) true _ ?side1 ?side2 A8.out).mono ?_); (case side1 => exact kc_ HR504.out); (case side2 => exact HC504.out); rintro e w' ⟨rfl, ⟨nd, rfl⟩⟩; (try first | exact ⟨rfl, _, World.drewN_drewN _ _ _⟩ | exact ⟨rfl, _, Eq.trans (World.drewN_drewN _ _ _) (congrArg (World.drewN _) (Nat.add_assoc _ _ _))⟩))); try go_wp2_with (first | (go_at_call 28; (with_reducible refine (spec_l01In.calls (rd l0 x3_1) 1 (l0.length : Int) true _ A4.out).mono ?_); rintro e w' ⟨rfl, ⟨nd, rfl⟩⟩; (try first | exact ⟨rfl, _, World.drewN_drewN _ _ _⟩ | exact ⟨rfl, _, Eq.trans (World.drewN_drewN _ _ _) (congrArg (World.drewN _) (Nat.add_assoc _ _ _))⟩)) | (go_at_call 41; (try rw [HLENx3_1l0.out]); (with_reducible refine (spec_l07In.calls k1 _ _ (l0.take (x3_1 : Int).toNat) (rd l0 x3_1) true _ ?side1 ?side2 A8.out).mono ?_); (case side1 => exact kc_ HR504.out); (case side2 => exact HC504.out); rintro e w' ⟨rfl, ⟨nd, rfl⟩⟩; (try first | exact ⟨rfl, _, World.drewN_drewN _ _ _⟩ | exact ⟨rfl, _, Eq.trans (World.drewN_drewN _ _ _) (congrArg (World.drewN _) (Nat.add_assoc _ _ _))⟩))))
        go_ret
        exact ⟨by first | rfl | (simp; done) | (simp [*]; done), dr_⟩
       ·replace c9 := Bool.eq_false_iff.mpr c9
        subst c9
        have H1 : (spec_CircuitsOk.l0 k1 l0 (wrap64 (x3_1 + 1))) = some r := by rw [if_neg (show ¬ (false = true) by decide)] at H; exact H
        clear H
        have H := H1
        clear H1
        have H' := Aside0.mk H
        clear H
        have p502 : 0 ≤ (x3_1 : Int) := of_decide_eq_true (as_)
        have q502 : x3_1 < (l0.length : Int) := of_decide_eq_true (as_)
        obtain ⟨ad502, e502, hx502_0⟩ := Kd.at_int HR0.out x3_1 p502 q502
        cases e502
        replace p502 := eq_true p502
        replace q502 := eq_true q502
        obtain ⟨i011, hi011, _, hsz11, _⟩ := info_parts info3; obtain ⟨hcut11, hA11, hC11⟩ := print_take_of (P := Try.prog) (Value.int .i64) 0 22 3 .i64 Try.underlying22 hi011 hsz11 (some ad502) c0 l0 x3_1 (of_decide_eq_true (as_)) (of_decide_eq_true (as_)) HC0.out; have HR504 := Aside0.mk (Kd.C_of_reads (h1 := fun _ => rfl) (hA11 _ (Kd.reads_of_C HR0.out))); have HC504 := Aside0.mk hC11; clear hA11 hC11 hi011 hsz11; have p505 : 0 ≤ (x3_1 : Int) := of_decide_eq_true (as_); have q505 : x3_1 < (l0.length : Int) := of_decide_eq_true (as_); obtain ⟨ad505, e505, hx505_0⟩ := Kd.at_int HR0.out x3_1 p505 q505; obtain rfl : ad502 = ad505 := (by injection e505); replace p505 := eq_true p505; replace q505 := eq_true q505
        have HLENx3_1l0 := Aside0.mk (show (Value.slice (some ad502) (x3_1 : Int).toNat c0) = Value.slice (some ad502) (l0.take (x3_1 : Int).toNat).length c0 from by have a_ := of_decide_eq_true (show decide (x3_1 ≤ (l0.length : Int)) = true by assumption); have b_ : (l0.take (x3_1 : Int).toNat).length = (x3_1 : Int).toNat := (by rw [List.length_take]; omega); rw [b_])
        go_wp2_with (first | (go_at_call 28; (with_reducible refine (spec_l01In.calls (rd l0 x3_1) 1 (l0.length : Int) true _ A4.out).mono ?_); rintro e w' ⟨rfl, ⟨nd, rfl⟩⟩; (try first | exact ⟨rfl, _, World.drewN_drewN _ _ _⟩ | exact ⟨rfl, _, Eq.trans (World.drewN_drewN _ _ _) (congrArg (World.drewN _) (Nat.add_assoc _ _ _))⟩)) | (go_at_call 41; (try rw [HLENx3_1l0.out]); (with_reducible refine (spec_l07In.calls k1 _ _ (l0.take (x3_1 : Int).toNat) (rd l0 x3_1) false _ ?side1 ?side2 A8.out).mono ?_); (case side1 => exact kc_ HR504.out); (case side2 => exact HC504.out); rintro e w' ⟨rfl, ⟨nd, rfl⟩⟩; (try first | exact ⟨rfl, _, World.drewN_drewN _ _ _⟩ | exact ⟨rfl, _, Eq.trans (World.drewN_drewN _ _ _) (congrArg (World.drewN _) (Nat.add_assoc _ _ _))⟩)))
        repeat (go_quiet (first | (go_at_call 28; (with_reducible refine (spec_l01In.calls (rd l0 x3_1) 1 (l0.length : Int) true _ A4.out).mono ?_); rintro e w' ⟨rfl, ⟨nd, rfl⟩⟩; (try first | exact ⟨rfl, _, World.drewN_drewN _ _ _⟩ | exact ⟨rfl, _, Eq.trans (World.drewN_drewN _ _ _) (congrArg (World.drewN _) (Nat.add_assoc _ _ _))⟩)) | (go_at_call 41; (try rw [HLENx3_1l0.out]); (with_reducible refine (spec_l07In.calls k1 _ _ (l0.take (x3_1 : Int).toNat) (rd l0 x3_1) false _ ?side1 ?side2 A8.out).mono ?_); (case side1 => exact kc_ HR504.out); (case side2 => exact HC504.out); rintro e w' ⟨rfl, ⟨nd, rfl⟩⟩; (try first | exact ⟨rfl, _, World.drewN_drewN _ _ _⟩ | exact ⟨rfl, _, Eq.trans (World.drewN_drewN _ _ _) (congrArg (World.drewN _) (Nat.add_assoc _ _ _))⟩))); try go_wp2_with (first | (go_at_call 28; (with_reducible refine (spec_l01In.calls (rd l0 x3_1) 1 (l0.length : Int) true _ A4.out).mono ?_); rintro e w' ⟨rfl, ⟨nd, rfl⟩⟩; (try first | exact ⟨rfl, _, World.drewN_drewN _ _ _⟩ | exact ⟨rfl, _, Eq.trans (World.drewN_drewN _ _ _) (congrArg (World.drewN _) (Nat.add_assoc _ _ _))⟩)) | (go_at_call 41; (try rw [HLENx3_1l0.out]); (with_reducible refine (spec_l07In.calls k1 _ _ (l0.take (x3_1 : Int).toNat) (rd l0 x3_1) false _ ?side1 ?side2 A8.out).mono ?_); (case side1 => exact kc_ HR504.out); (case side2 => exact HC504.out); rintro e w' ⟨rfl, ⟨nd, rfl⟩⟩; (try first | exact ⟨rfl, _, World.drewN_drewN _ _ _⟩ | exact ⟨rfl, _, Eq.trans (World.drewN_drewN _ _ _) (congrArg (World.drewN _) (Nat.add_assoc _ _ _))⟩))))
        go_roundg k1
        case measure => have := HK1.out; omega
        case rel => exact ⟨(wrap64 (x3_1 + 1)), (by first | rfl | (simp; done) | (simp [*]; done)), H', ⟨by have := HK1.out; omega⟩, dr_⟩
      ·rw [if_neg c7] at H
       exact absurd H (by simp)
     ·replace c5 := Bool.eq_false_iff.mpr c5
      subst c5
      have H1 : (some false) = some r := by rw [if_neg (show ¬ (false = true) by decide)] at H; exact H
      clear H
      have H := H1
      clear H1
      obtain rfl := Option.some.inj H
      have p502 : 0 ≤ (x3_1 : Int) := of_decide_eq_true (as_)
      have q502 : x3_1 < (l0.length : Int) := of_decide_eq_true (as_)
      obtain ⟨ad502, e502, hx502_0⟩ := Kd.at_int HR0.out x3_1 p502 q502
      cases e502
      replace p502 := eq_true p502
      replace q502 := eq_true q502
      go_wp2_with (first | (go_at_call 28; (with_reducible refine (spec_l01In.calls (rd l0 x3_1) 1 (l0.length : Int) false _ A4.out).mono ?_); rintro e w' ⟨rfl, ⟨nd, rfl⟩⟩; (try first | exact ⟨rfl, _, World.drewN_drewN _ _ _⟩ | exact ⟨rfl, _, Eq.trans (World.drewN_drewN _ _ _) (congrArg (World.drewN _) (Nat.add_assoc _ _ _))⟩)))
      repeat (go_quiet (first | (go_at_call 28; (with_reducible refine (spec_l01In.calls (rd l0 x3_1) 1 (l0.length : Int) false _ A4.out).mono ?_); rintro e w' ⟨rfl, ⟨nd, rfl⟩⟩; (try first | exact ⟨rfl, _, World.drewN_drewN _ _ _⟩ | exact ⟨rfl, _, Eq.trans (World.drewN_drewN _ _ _) (congrArg (World.drewN _) (Nat.add_assoc _ _ _))⟩))); try go_wp2_with (first | (go_at_call 28; (with_reducible refine (spec_l01In.calls (rd l0 x3_1) 1 (l0.length : Int) false _ A4.out).mono ?_); rintro e w' ⟨rfl, ⟨nd, rfl⟩⟩; (try first | exact ⟨rfl, _, World.drewN_drewN _ _ _⟩ | exact ⟨rfl, _, Eq.trans (World.drewN_drewN _ _ _) (congrArg (World.drewN _) (Nat.add_assoc _ _ _))⟩))))
      go_ret
      exact ⟨by first | rfl | (simp; done) | (simp [*]; done), dr_⟩
    ·rw [if_neg c3] at H
     exact absurd H (by simp)
   ·rw [if_neg c2] at H
    have c2b0 : decide (x3_1 < (l0.length : Int)) = false := decide_eq_false c2
    clear c2
    replace H := Option.bind_eq_some_iff.mp H
    obtain ⟨t501, A120, H⟩ := H
    replace H : (some t501) = some r := H
    have A12 := Aside0.mk A120
    clear A120
    obtain rfl := Option.some.inj H
    go_wp2_with (first | (go_at_call 28; (with_reducible refine (spec_l01In.calls (l0.length : Int) 1 9 t501 _ A12.out).mono ?_); rintro e w' ⟨rfl, ⟨nd, rfl⟩⟩; (try first | exact ⟨rfl, _, World.drewN_drewN _ _ _⟩ | exact ⟨rfl, _, Eq.trans (World.drewN_drewN _ _ _) (congrArg (World.drewN _) (Nat.add_assoc _ _ _))⟩)))
    repeat (go_quiet (first | (go_at_call 28; (with_reducible refine (spec_l01In.calls (l0.length : Int) 1 9 t501 _ A12.out).mono ?_); rintro e w' ⟨rfl, ⟨nd, rfl⟩⟩; (try first | exact ⟨rfl, _, World.drewN_drewN _ _ _⟩ | exact ⟨rfl, _, Eq.trans (World.drewN_drewN _ _ _) (congrArg (World.drewN _) (Nat.add_assoc _ _ _))⟩))); try go_wp2_with (first | (go_at_call 28; (with_reducible refine (spec_l01In.calls (l0.length : Int) 1 9 t501 _ A12.out).mono ?_); rintro e w' ⟨rfl, ⟨nd, rfl⟩⟩; (try first | exact ⟨rfl, _, World.drewN_drewN _ _ _⟩ | exact ⟨rfl, _, Eq.trans (World.drewN_drewN _ _ _) (congrArg (World.drewN _) (Nat.add_assoc _ _ _))⟩))))
    go_ret
    exact ⟨by first | rfl | (simp; done) | (simp [*]; done), dr_⟩

end Go.Proofs.Ytkkjlbpffcdlfaa.X
