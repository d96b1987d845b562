-- Written by a program of this session (xprint.py), out of the translation and of hand-written contracts. Lean checks it.
import Derived.Test.YtlfomjhjeknnmaaX0
import Derived.Test.YtlfomjhjeknnmaaXcsreach
import Derived.Test.YtlfomjhjeknnmaaXimplIsSafe
import Derived.Test.YtlfomjhjeknnmaaXimplTrappedCells
import Derived.Test.YtlfomjhjeknnmaaXlawsbig
import Derived.Test.YtlfomjhjeknnmaaXlawshas
import Derived.Test.YtlfomjhjeknnmaaXspecDrawTimed
namespace Go.Proofs.Ytlfomjhjeknnmaa.X
open Go.RowKit Go.Proofs.YtlfomjhjeknnmaaW.PrintWords Go.Proofs.YtlfomjhjeknnmaaW.PrintLast Go.Proofs.YtlfomjhjeknnmaaW.PrintMore
attribute [local go_sem] max2_int min2_int max_two min_two max_three min_three max_four min_four   -- for this text's walks alone
set_option linter.unusedVariables false
set_option linter.unusedSimpArgs false

/-! ### laws_FnTimetables: function 7 -/
def laws_FnTimetables.l0 : Nat → Int → Bool → Int → Int → Int → Int → Int → List (S56) → Option (Bool)
 | 0, _, _, _, _, _, _, _, _ => none
 | k + 1, x4, x6, x7, x512000, x512001, x512002, x512003, x512004 => if x7 < (x512004.length : Int) then (if x6 = true then (if 0 ≤ x7 then (laws_FnTimetables.l0 k x4 (((rd_T56 x512004 x7).f1) != 0) (wrap64 (x7 + 1)) x512000 x512001 x512002 x512003 x512004) else (none)) else (laws_FnTimetables.l0 k x4 false (wrap64 (x7 + 1)) x512000 x512001 x512002 x512003 x512004)) else ((impl_IsSafe.f k x512000 x512001 x512002 x512003 x512004 x4).bind fun t513 => ((impl_TrappedCells.f k x512000 x512001 x512002 x512003 x512004 x4).bind fun t514 => (if (t513 == ((t514.length : Int) == 0)) = true then (if x6 = true then ((spec_IsConnected.f k x512000 x512001 x512002).bind fun t517 => (if (t513 == t517) = true then ((impl_TrappedCells.f k x512000 x512001 x512002 x512003 x512004 x4).bind fun t518 => ((laws_has.f k t518 x4).bind fun t521 => (some (!t521)))) else (some false))) else ((impl_TrappedCells.f k x512000 x512001 x512002 x512003 x512004 x4).bind fun t522 => ((laws_has.f k t522 x4).bind fun t525 => (some (!t525))))) else (some false))))
def laws_FnTimetables.f (k : Nat) (l0 : List Int) : Option (Bool) := (laws_big.f l0).bind fun t501 => (if t501 = true then (some true) else ((spec_DrawTimed.f k l0).bind fun bt502 => (laws_FnTimetables.l0 k bt502.2.2.2.2.2.1 true 0 bt502.1 bt502.2.1 bt502.2.2.1 bt502.2.2.2.1 bt502.2.2.2.2.1)))
theorem laws_FnTimetables.mono_l : ∀ k, (∀ y0 y1 y2 y3 y4 y5 y6 y7, LeO (laws_FnTimetables.l0 k y0 y1 y2 y3 y4 y5 y6 y7) (laws_FnTimetables.l0 (k + 1) y0 y1 y2 y3 y4 y5 y6 y7))
 | 0 => fun _ _ _ _ _ _ _ _ r h => by simp [laws_FnTimetables.l0] at h
 | k + 1 => by
  have ih0 := laws_FnTimetables.mono_l k
  ·intro y0 y1 y2 y3 y4 y5 y6 y7
   unfold laws_FnTimetables.l0
   repeat' first
   | (with_reducible exact ih0 ..)
   | (with_reducible exact impl_IsSafe.mono ..)
   | (with_reducible exact impl_TrappedCells.mono ..)
   | (with_reducible exact laws_has.mono ..)
   | (with_reducible exact spec_DrawTimed.mono ..)
   | (with_reducible exact spec_IsConnected.mono ..)
   | (with_reducible first | exact lr_ _ | exact ln_ _ | refine li_ ?_ ?_ | refine lb_ ?_ fun _ => ?_)
   | exact ih0 ..
   | exact impl_IsSafe.mono ..
   | exact impl_TrappedCells.mono ..
   | exact laws_has.mono ..
   | exact spec_DrawTimed.mono ..
   | exact spec_IsConnected.mono ..
   | exact ln_ _ | refine li_ ?_ ?_ | refine lb_ ?_ fun _ => ?_
theorem laws_FnTimetables.mono : ∀ a0 k, LeO (laws_FnTimetables.f k a0) (laws_FnTimetables.f (k + 1) a0) := by
 intro a0 k
 have ih0 := laws_FnTimetables.mono_l k
 unfold laws_FnTimetables.f
 repeat' first
   | (with_reducible exact ih0 ..)
   | (with_reducible exact impl_IsSafe.mono ..)
   | (with_reducible exact impl_TrappedCells.mono ..)
   | (with_reducible exact laws_has.mono ..)
   | (with_reducible exact spec_DrawTimed.mono ..)
   | (with_reducible exact spec_IsConnected.mono ..)
   | (with_reducible first | exact lr_ _ | exact ln_ _ | refine li_ ?_ ?_ | refine lb_ ?_ fun _ => ?_)
   | exact ih0 ..
   | exact impl_IsSafe.mono ..
   | exact impl_TrappedCells.mono ..
   | exact laws_has.mono ..
   | exact spec_DrawTimed.mono ..
   | exact spec_IsConnected.mono ..
   | exact ln_ _ | refine li_ ?_ ?_ | refine lb_ ?_ fun _ => ?_
set_option maxHeartbeats 8000000 in
set_option maxRecDepth 100000 in
theorem laws_FnTimetables.calls (k : Nat) (A0 : Option Addr) (c0 : Nat) (l0 : List Int) (r : Bool) (w : World) (hr0 : Kd.C (Kd.int .u8) w A0 l0.length l0) (hc0 : l0.length ≤ c0) (h : laws_FnTimetables.f k l0 = some r) :
  Calls Try.prog 7 #[.slice A0 l0.length c0] w fun e w' => e = .returned (.bool r) ∧ Below w.heap.size w w' := by
 have hu36 := Try.underlying36
 have hu33 := Try.underlying33
 have HR0 := Aside0.mk hr0
 have HC0 := Aside0.mk hc0
 clear hr0 hc0
 have HB := Aside0.mk (Below.refl w.heap.size w)
 have H : ((laws_big.f l0).bind fun t501 => (if t501 = true then (some true) else ((spec_DrawTimed.f k l0).bind fun bt502 => (laws_FnTimetables.l0 k bt502.2.2.2.2.2.1 true 0 bt502.1 bt502.2.1 bt502.2.2.1 bt502.2.2.2.1 bt502.2.2.2.2.1)))) = some r := h
 clear h
 replace H := Option.bind_eq_some_iff.mp H
 obtain ⟨t501, A20, H⟩ := H
 replace H : (if t501 = true then (some true) else ((spec_DrawTimed.f k l0).bind fun bt502 => (laws_FnTimetables.l0 k bt502.2.2.2.2.2.1 true 0 bt502.1 bt502.2.1 bt502.2.2.1 bt502.2.2.2.1 bt502.2.2.2.2.1))) = some r := H
 have A2 := Aside0.mk A20
 clear A20
 by_cases c3 : t501 = true
 ·subst c3
  have H1 : (some true) = some r := by rw [if_pos rfl] at H; exact H
  clear H
  have H := H1
  clear H1
  obtain rfl := Option.some.inj H
  go_enter Try.func7, Try.ntmps7
  go_wp2_with ((with_reducible refine gw_ ?_); first | (refine gl_ 10 Try.func21 #[.slice A0 l0.length c0] ?_; (with_reducible refine (laws_big.calls _ _ l0 true _ ?side1 ?side2 A2.out).mono ?_); (case side1 => exact kc_ HR0.out); (case side2 => exact HC0.out); rintro e w' ⟨rfl, ⟨nd, rfl⟩⟩; refine ⟨_, rfl, ?_⟩))
  go_ret
  exact ⟨ex_, hb0_ HB.out⟩
 ·replace c3 := Bool.eq_false_iff.mpr c3
  subst c3
  have H1 : ((spec_DrawTimed.f k l0).bind fun bt502 => (laws_FnTimetables.l0 k bt502.2.2.2.2.2.1 true 0 bt502.1 bt502.2.1 bt502.2.2.1 bt502.2.2.2.1 bt502.2.2.2.2.1)) = some r := by rw [if_neg (show ¬ (false = true) by decide)] at H; exact H
  clear H
  have H := H1
  clear H1
  replace H := Option.bind_eq_some_iff.mp H
  obtain ⟨⟨t502, t503, t504, t505, t506, t509, t510⟩, A40, H⟩ := H
  replace H : (laws_FnTimetables.l0 k t509 true 0 t502 t503 t504 t505 t506) = some r := H
  have A4 := Aside0.mk A40
  clear A40
  have H' := Aside0.mk H
  clear H
  go_enter Try.func7, Try.ntmps7
  go_wp2_with ((with_reducible refine gw_ ?_); first | (refine gl_ 10 Try.func21 #[.slice A0 l0.length c0] ?_; (with_reducible refine (laws_big.calls _ _ l0 false _ ?side1 ?side2 A2.out).mono ?_); (case side1 => exact kc_ HR0.out); (case side2 => exact HC0.out); rintro e w' ⟨rfl, ⟨nd, rfl⟩⟩; refine ⟨_, rfl, ?_⟩) | (refine gl_ 13 Try.func22 #[.slice A0 l0.length c0] ?_; (with_reducible refine (spec_DrawTimed.calls k _ _ l0 t502 t503 t504 t505 t506 t509 t510 _ ?side1 ?side2 A4.out).mono ?_); (case side1 => exact kc_ HR0.out); (case side2 => exact HC0.out); rintro e w5 ⟨v507, rfl, ho0, hb⟩; refine ⟨_, rfl, ?_⟩; have HO508 := Aside0.mk (Kd.R_lower ho0 (below_size (hb0_ HB.out))); replace HB := HB.s0 hb; (try clear hb); (try clear ho0)) | (refine box_ (N := 3) (cs := #[.int .i64 0, .int .i64 0, .int .i64 0, .int .i64 0, .slice none 0 0]) (t := 36) ?_; intro gb511 hg w6 hbox hb; replace HO508 := HO508.kb hb; have BK511 := Aside0.mk (hbox); have GW511 := HB.g0 hg; have GE511 := HB.g0 hg; replace HB := HB.s0 hb; clear hb hbox hg; obtain ⟨hcz7_0, hcz7_1, hcz7_2, hcz7_3, hcz7_4⟩ := cz5_ BK511.out; obtain ⟨hfz7_0, hfz7_1, hfz7_2, hfz7_3, hfz7_4⟩ := fz5_ BK511.out; obtain ⟨Ao8, co8, eo8⟩ := Kd.R_slice HO508.out; subst eo8))
  go_loopg [6, 7] k (fun kq v6 v7 w' => ∃ (x6_1 : Bool) (x7_1 : Int), v6 = .bool x6_1 ∧ v7 = .int .i64 x7_1 ∧ Aside0 (laws_FnTimetables.l0 kq t509 x6_1 x7_1 t502 t503 t504 t505 t506 = some r) ∧ Aside0 (kq ≤ k) ∧ Aside0 (Kd.R k56 56 w' w.heap.size (fun _ => True) (.slice Ao8 t506.length co8) t506) ∧ Aside0 (w'.heap[gb511]? = some (.cells #[.int .i64 t502, .int .i64 t503, .int .i64 t504, .int .i64 t505, (.slice Ao8 t506.length co8)] 36 (0, 0))) ∧ Aside0 (Below w.heap.size w w'))
  case atStart => exact ⟨(true), (0), (by first | rfl | (simp; done) | (simp [*]; done)), (by first | rfl | (simp; done) | (simp [*]; done)), H', ⟨Nat.le_refl _⟩, ⟨by (with_reducible repeat (first | apply Kd.R_alloc | apply Kd.R_drewN | apply Kd.R_drew)); exact Kd.R_mono (Kd.R_far (p := ⟨gb511, 4, none⟩) (Kd.R_far (p := ⟨gb511, 3, none⟩) (Kd.R_far (p := ⟨gb511, 2, none⟩) (Kd.R_far (p := ⟨gb511, 1, none⟩) (Kd.R_far (p := ⟨gb511, 0, none⟩) (Kd.R_types HO508.out BK511.out (by decide)) (fun _ hk => hk.2) (.int .i64 t502)) (fun _ hk => hk.2) (.int .i64 t503)) (fun _ hk => hk.2) (.int .i64 t504)) (fun _ hk => hk.2) (.int .i64 t505)) (fun _ hk => hk.2) (.slice Ao8 t506.length co8)) (fun _ hk => trivial)⟩, ⟨bq5_ BK511.out⟩, ⟨hb1_ HB.out GE511.out⟩⟩
  case round =>
   clear H'
   try clear c2
   try clear p2
   try clear c3
   try clear c7
   try clear hcz7_0
   try clear hcz7_1
   try clear hcz7_2
   try clear hcz7_3
   try clear hcz7_4
   try clear hfz7_0
   try clear hfz7_1
   try clear hfz7_2
   try clear hfz7_3
   try clear hfz7_4
   obtain ⟨x6_1, x7_1, rfl, rfl, HA, HK1, HO_512004, BK511, HB⟩ := hrel
   cases gk with
   | zero => exact absurd HA.out (by simp [laws_FnTimetables.l0])
   | succ k1 =>
    have H := HA.out
    clear HA
    simp only [laws_FnTimetables.l0] at H
    by_cases c9 : x7_1 < (t506.length : Int)
    ·rw [if_pos c9] at H
     have c9b0 : decide (x7_1 < (t506.length : Int)) = true := decide_eq_true c9
     clear c9
     by_cases c10 : x6_1 = true
     ·subst c10
      have H1 : (if 0 ≤ x7_1 then (laws_FnTimetables.l0 k1 t509 (((rd_T56 t506 x7_1).f1) != 0) (wrap64 (x7_1 + 1)) t502 t503 t504 t505 t506) else (none)) = some r := by rw [if_pos rfl] at H; exact H
      clear H
      have H := H1
      clear H1
      by_cases c11 : 0 ≤ x7_1
      ·rw [if_pos c11] at H
       have c11b0 : decide (0 ≤ x7_1) = true := decide_eq_true c11
       clear c11
       have H' := Aside0.mk H
       clear H
       obtain ⟨hcz12_0, hcz12_1, hcz12_2, hcz12_3, hcz12_4⟩ := cz5_ BK511.out
       obtain ⟨hfz12_0, hfz12_1, hfz12_2, hfz12_3, hfz12_4⟩ := fz5_ BK511.out
       have p512 : 0 ≤ (x7_1 : Int) := of_decide_eq_true (as_)
       have q512 : x7_1 < (t506.length : Int) := of_decide_eq_true (as_)
       obtain ⟨ad512, e512, hx512_0, hx512_1⟩ := at_T56 (Kd.R_reads' HO_512004.out).2.2 x7_1 p512 q512
       cases e512
       replace p512 := eq_true p512
       replace q512 := eq_true q512
       go_wp2
       go_roundg k1
       case measure => have := HK1.out; omega
       case rel => exact ⟨((((rd_T56 t506 x7_1).f1) != 0)), (wrap64 (x7_1 + 1)), (by first | rfl | (simp; done) | (simp [*]; done)), (by first | rfl | (simp; done) | (simp [*]; done)), H', ⟨by have := HK1.out; omega⟩, ⟨kr_ HO_512004.out⟩, ⟨bk_ BK511.out⟩, ⟨hb1_ HB.out GE511.out⟩⟩
      ·rw [if_neg c11] at H
       exact absurd H (by simp)
     ·replace c10 := Bool.eq_false_iff.mpr c10
      subst c10
      have H1 : (laws_FnTimetables.l0 k1 t509 false (wrap64 (x7_1 + 1)) t502 t503 t504 t505 t506) = some r := by rw [if_neg (show ¬ (false = true) by decide)] at H; exact H
      clear H
      have H := H1
      clear H1
      have H' := Aside0.mk H
      clear H
      obtain ⟨hcz13_0, hcz13_1, hcz13_2, hcz13_3, hcz13_4⟩ := cz5_ BK511.out
      obtain ⟨hfz13_0, hfz13_1, hfz13_2, hfz13_3, hfz13_4⟩ := fz5_ BK511.out
      go_wp2
      go_roundg k1
      case measure => have := HK1.out; omega
      case rel => exact ⟨(false), (wrap64 (x7_1 + 1)), (by first | rfl | (simp; done) | (simp [*]; done)), (by first | rfl | (simp; done) | (simp [*]; done)), H', ⟨by have := HK1.out; omega⟩, ⟨kr_ HO_512004.out⟩, ⟨bk_ BK511.out⟩, ⟨hb1_ HB.out GE511.out⟩⟩
    ·rw [if_neg c9] at H
     have c9b0 : decide (x7_1 < (t506.length : Int)) = false := decide_eq_false c9
     clear c9
     replace H := Option.bind_eq_some_iff.mp H
     obtain ⟨t513, A140, H⟩ := H
     replace H : ((impl_TrappedCells.f k1 t502 t503 t504 t505 t506 t509).bind fun t514 => (if (t513 == ((t514.length : Int) == 0)) = true then (if x6_1 = true then ((spec_IsConnected.f k1 t502 t503 t504).bind fun t517 => (if (t513 == t517) = true then ((impl_TrappedCells.f k1 t502 t503 t504 t505 t506 t509).bind fun t518 => ((laws_has.f k1 t518 t509).bind fun t521 => (some (!t521)))) else (some false))) else ((impl_TrappedCells.f k1 t502 t503 t504 t505 t506 t509).bind fun t522 => ((laws_has.f k1 t522 t509).bind fun t525 => (some (!t525))))) else (some false))) = some r := H
     have A14 := Aside0.mk A140
     clear A140
     replace H := Option.bind_eq_some_iff.mp H
     obtain ⟨t514, A150, H⟩ := H
     replace H : (if (t513 == ((t514.length : Int) == 0)) = true then (if x6_1 = true then ((spec_IsConnected.f k1 t502 t503 t504).bind fun t517 => (if (t513 == t517) = true then ((impl_TrappedCells.f k1 t502 t503 t504 t505 t506 t509).bind fun t518 => ((laws_has.f k1 t518 t509).bind fun t521 => (some (!t521)))) else (some false))) else ((impl_TrappedCells.f k1 t502 t503 t504 t505 t506 t509).bind fun t522 => ((laws_has.f k1 t522 t509).bind fun t525 => (some (!t525))))) else (some false)) = some r := H
     have A15 := Aside0.mk A150
     clear A150
     by_cases c16 : (t513 == ((t514.length : Int) == 0)) = true
     ·rw [if_pos c16] at H
      have c16b0 : (t513 == ((t514.length : Int) == 0)) = true := c16
      (try (have c16b1 : decide (t513 = ((t514.length : Int) == 0)) = true := by simpa using c16))
      (try (have c16b2 : (t513 == ((t514.length : Int) == 0)) = true := by simpa using c16))
      clear c16
      by_cases c17 : x6_1 = true
      ·subst c17
       have H1 : ((spec_IsConnected.f k1 t502 t503 t504).bind fun t517 => (if (t513 == t517) = true then ((impl_TrappedCells.f k1 t502 t503 t504 t505 t506 t509).bind fun t518 => ((laws_has.f k1 t518 t509).bind fun t521 => (some (!t521)))) else (some false))) = some r := by rw [if_pos rfl] at H; exact H
       clear H
       have H := H1
       clear H1
       replace H := Option.bind_eq_some_iff.mp H
       obtain ⟨t517, A180, H⟩ := H
       replace H : (if (t513 == t517) = true then ((impl_TrappedCells.f k1 t502 t503 t504 t505 t506 t509).bind fun t518 => ((laws_has.f k1 t518 t509).bind fun t521 => (some (!t521)))) else (some false)) = some r := H
       have A18 := Aside0.mk A180
       clear A180
       by_cases c19 : (t513 == t517) = true
       ·rw [if_pos c19] at H
        have c19b0 : (t513 == t517) = true := c19
        (try (have c19b1 : decide (t513 = t517) = true := by simpa using c19))
        (try (have c19b2 : (t513 == t517) = true := by simpa using c19))
        clear c19
        replace H := Option.bind_eq_some_iff.mp H
        obtain ⟨t518, A200, H⟩ := H
        replace H : ((laws_has.f k1 t518 t509).bind fun t521 => (some (!t521))) = some r := H
        have A20 := Aside0.mk A200
        clear A200
        replace H := Option.bind_eq_some_iff.mp H
        obtain ⟨t521, A210, H⟩ := H
        replace H : (some (!t521)) = some r := H
        have A21 := Aside0.mk A210
        clear A210
        obtain rfl := Option.some.inj H
        obtain ⟨hcz22_0, hcz22_1, hcz22_2, hcz22_3, hcz22_4⟩ := cz5_ BK511.out
        obtain ⟨hfz22_0, hfz22_1, hfz22_2, hfz22_3, hfz22_4⟩ := fz5_ BK511.out
        go_wp2_with (first | (refine gl_ 36 Try.func14 #[.agg #[.int .i64 t502, .int .i64 t503, .int .i64 t504, .int .i64 t505, .slice Ao8 t506.length co8], .int .i64 t509] ?_; (with_reducible refine (impl_IsSafe.calls k1 t502 t503 t504 t505 _ _ t506 t509 t513 _ ?side1 ?side2 A14.out).mono ?_); (case side1 => repeat (first | exact (Kd.R_reads' HO_512004.out).2.2 | (with_reducible refine Kd.C_alloc ?_ _) | (with_reducible refine Kd.C_drewN ?_ _) | (with_reducible refine Kd.C_drew ?_))); (case side2 => exact (Kd.R_reads' HO_512004.out).2.1); rintro e w23 ⟨rfl, hb⟩; refine ⟨_, rfl, ?_⟩; replace HO_512004 := HO_512004.kb hb; replace BK511 := BK511.bb hb; replace HB := HB.s1 GE511 hb; (try clear hb); obtain ⟨hcz24_0, hcz24_1, hcz24_2, hcz24_3, hcz24_4⟩ := cz5_ BK511.out; obtain ⟨hfz24_0, hfz24_1, hfz24_2, hfz24_3, hfz24_4⟩ := fz5_ BK511.out) | (refine gl_ 40 Try.func16 #[.agg #[.int .i64 t502, .int .i64 t503, .int .i64 t504, .int .i64 t505, .slice Ao8 t506.length co8], .int .i64 t509] ?_; (with_reducible refine (impl_TrappedCells.calls k1 t502 t503 t504 t505 _ _ t506 t509 t514 _ ?side1 ?side2 A15.out).mono ?_); (case side1 => repeat (first | exact (Kd.R_reads' HO_512004.out).2.2 | (with_reducible refine Kd.C_alloc ?_ _) | (with_reducible refine Kd.C_drewN ?_ _) | (with_reducible refine Kd.C_drew ?_))); (case side2 => exact (Kd.R_reads' HO_512004.out).2.1); rintro e w25 ⟨v515, rfl, ho0, hb⟩; refine ⟨_, rfl, ?_⟩; replace HO_512004 := HO_512004.kb hb; have HO516 := Aside0.mk (Kd.R_lower ho0 (below_size (hb1_ HB.out GE511.out))); replace BK511 := BK511.bb hb; replace HB := HB.s1 GE511 hb; (try clear hb); (try clear ho0); obtain ⟨Ao26, co26, eo26⟩ := Kd.R_slice HO516.out; subst eo26; obtain ⟨hcz27_0, hcz27_1, hcz27_2, hcz27_3, hcz27_4⟩ := cz5_ BK511.out; obtain ⟨hfz27_0, hfz27_1, hfz27_2, hfz27_3, hfz27_4⟩ := fz5_ BK511.out) | (go_at_call 26; (with_reducible refine (spec_IsConnected.calls k1 t502 t503 t504 t517 _ A18.out).mono ?_); rintro e w28 ⟨rfl, hb⟩; replace HO_512004 := HO_512004.kb hb; replace HO516 := HO516.kb hb; replace BK511 := BK511.bb hb; replace HB := HB.s1 GE511 hb; (try clear hb); obtain ⟨hcz29_0, hcz29_1, hcz29_2, hcz29_3, hcz29_4⟩ := cz5_ BK511.out; obtain ⟨hfz29_0, hfz29_1, hfz29_2, hfz29_3, hfz29_4⟩ := fz5_ BK511.out) | (go_at_call 16; (with_reducible refine (impl_TrappedCells.calls k1 t502 t503 t504 t505 _ _ t506 t509 t518 _ ?side1 ?side2 A20.out).mono ?_); (case side1 => repeat (first | exact (Kd.R_reads' HO_512004.out).2.2 | (with_reducible refine Kd.C_alloc ?_ _) | (with_reducible refine Kd.C_drewN ?_ _) | (with_reducible refine Kd.C_drew ?_))); (case side2 => exact (Kd.R_reads' HO_512004.out).2.1); rintro e w30 ⟨v519, rfl, ho0, hb⟩; replace HO_512004 := HO_512004.kb hb; have HO520 := Aside0.mk (Kd.R_lower (Kd.R_new' ho0 (Kd.R_lt (kr_ HO516.out))) (below_size (hb1_ HB.out GE511.out))); replace HO516 := Aside0.mk (Kd.R_elder' (kr_ HO516.out) (Kd.R_base ho0) hb); replace BK511 := BK511.bb hb; replace HB := HB.s1 GE511 hb; (try clear hb); (try clear ho0); obtain ⟨Ao31, co31, eo31⟩ := Kd.R_slice HO520.out; subst eo31) | (go_at_call 27; (with_reducible refine (laws_has.calls k1 _ _ t518 t509 t521 _ ?side1 ?side2 A21.out).mono ?_); (case side1 => repeat (first | exact (Kd.R_reads' HO520.out).2.2 | (with_reducible refine Kd.C_alloc ?_ _) | (with_reducible refine Kd.C_drewN ?_ _) | (with_reducible refine Kd.C_drew ?_))); (case side2 => exact (Kd.R_reads' HO520.out).2.1); rintro e w' ⟨rfl, ⟨nd, rfl⟩⟩))
        go_ret
        exact ⟨ex_, hb1_ HB.out GE511.out⟩
       ·rw [if_neg c19] at H
        have c19b0 : (t513 == t517) = false := by simpa using c19
        (try (have c19b1 : decide (t513 = t517) = false := by simpa using c19))
        (try (have c19b2 : (t513 == t517) = false := by simpa using c19))
        (try (have c19b3 : ¬ (t513 = t517) := by simpa using c19))
        clear c19
        obtain rfl := Option.some.inj H
        obtain ⟨hcz32_0, hcz32_1, hcz32_2, hcz32_3, hcz32_4⟩ := cz5_ BK511.out
        obtain ⟨hfz32_0, hfz32_1, hfz32_2, hfz32_3, hfz32_4⟩ := fz5_ BK511.out
        go_wp2_with (first | (refine gl_ 36 Try.func14 #[.agg #[.int .i64 t502, .int .i64 t503, .int .i64 t504, .int .i64 t505, .slice Ao8 t506.length co8], .int .i64 t509] ?_; (with_reducible refine (impl_IsSafe.calls k1 t502 t503 t504 t505 _ _ t506 t509 t513 _ ?side1 ?side2 A14.out).mono ?_); (case side1 => repeat (first | exact (Kd.R_reads' HO_512004.out).2.2 | (with_reducible refine Kd.C_alloc ?_ _) | (with_reducible refine Kd.C_drewN ?_ _) | (with_reducible refine Kd.C_drew ?_))); (case side2 => exact (Kd.R_reads' HO_512004.out).2.1); rintro e w33 ⟨rfl, hb⟩; refine ⟨_, rfl, ?_⟩; replace HO_512004 := HO_512004.kb hb; replace BK511 := BK511.bb hb; replace HB := HB.s1 GE511 hb; (try clear hb); obtain ⟨hcz34_0, hcz34_1, hcz34_2, hcz34_3, hcz34_4⟩ := cz5_ BK511.out; obtain ⟨hfz34_0, hfz34_1, hfz34_2, hfz34_3, hfz34_4⟩ := fz5_ BK511.out) | (refine gl_ 40 Try.func16 #[.agg #[.int .i64 t502, .int .i64 t503, .int .i64 t504, .int .i64 t505, .slice Ao8 t506.length co8], .int .i64 t509] ?_; (with_reducible refine (impl_TrappedCells.calls k1 t502 t503 t504 t505 _ _ t506 t509 t514 _ ?side1 ?side2 A15.out).mono ?_); (case side1 => repeat (first | exact (Kd.R_reads' HO_512004.out).2.2 | (with_reducible refine Kd.C_alloc ?_ _) | (with_reducible refine Kd.C_drewN ?_ _) | (with_reducible refine Kd.C_drew ?_))); (case side2 => exact (Kd.R_reads' HO_512004.out).2.1); rintro e w35 ⟨v515, rfl, ho0, hb⟩; refine ⟨_, rfl, ?_⟩; replace HO_512004 := HO_512004.kb hb; have HO516 := Aside0.mk (Kd.R_lower ho0 (below_size (hb1_ HB.out GE511.out))); replace BK511 := BK511.bb hb; replace HB := HB.s1 GE511 hb; (try clear hb); (try clear ho0); obtain ⟨Ao36, co36, eo36⟩ := Kd.R_slice HO516.out; subst eo36; obtain ⟨hcz37_0, hcz37_1, hcz37_2, hcz37_3, hcz37_4⟩ := cz5_ BK511.out; obtain ⟨hfz37_0, hfz37_1, hfz37_2, hfz37_3, hfz37_4⟩ := fz5_ BK511.out) | (go_at_call 26; (with_reducible refine (spec_IsConnected.calls k1 t502 t503 t504 t517 _ A18.out).mono ?_); rintro e w38 ⟨rfl, hb⟩; replace HO_512004 := HO_512004.kb hb; replace HO516 := HO516.kb hb; replace BK511 := BK511.bb hb; replace HB := HB.s1 GE511 hb; (try clear hb)))
        go_ret
        exact ⟨ex_, hb1_ HB.out GE511.out⟩
      ·replace c17 := Bool.eq_false_iff.mpr c17
       subst c17
       have H1 : ((impl_TrappedCells.f k1 t502 t503 t504 t505 t506 t509).bind fun t522 => ((laws_has.f k1 t522 t509).bind fun t525 => (some (!t525)))) = some r := by rw [if_neg (show ¬ (false = true) by decide)] at H; exact H
       clear H
       have H := H1
       clear H1
       replace H := Option.bind_eq_some_iff.mp H
       obtain ⟨t522, A390, H⟩ := H
       replace H : ((laws_has.f k1 t522 t509).bind fun t525 => (some (!t525))) = some r := H
       have A39 := Aside0.mk A390
       clear A390
       replace H := Option.bind_eq_some_iff.mp H
       obtain ⟨t525, A400, H⟩ := H
       replace H : (some (!t525)) = some r := H
       have A40 := Aside0.mk A400
       clear A400
       obtain rfl := Option.some.inj H
       obtain ⟨hcz41_0, hcz41_1, hcz41_2, hcz41_3, hcz41_4⟩ := cz5_ BK511.out
       obtain ⟨hfz41_0, hfz41_1, hfz41_2, hfz41_3, hfz41_4⟩ := fz5_ BK511.out
       go_wp2_with (first | (refine gl_ 36 Try.func14 #[.agg #[.int .i64 t502, .int .i64 t503, .int .i64 t504, .int .i64 t505, .slice Ao8 t506.length co8], .int .i64 t509] ?_; (with_reducible refine (impl_IsSafe.calls k1 t502 t503 t504 t505 _ _ t506 t509 t513 _ ?side1 ?side2 A14.out).mono ?_); (case side1 => repeat (first | exact (Kd.R_reads' HO_512004.out).2.2 | (with_reducible refine Kd.C_alloc ?_ _) | (with_reducible refine Kd.C_drewN ?_ _) | (with_reducible refine Kd.C_drew ?_))); (case side2 => exact (Kd.R_reads' HO_512004.out).2.1); rintro e w42 ⟨rfl, hb⟩; refine ⟨_, rfl, ?_⟩; replace HO_512004 := HO_512004.kb hb; replace BK511 := BK511.bb hb; replace HB := HB.s1 GE511 hb; (try clear hb); obtain ⟨hcz43_0, hcz43_1, hcz43_2, hcz43_3, hcz43_4⟩ := cz5_ BK511.out; obtain ⟨hfz43_0, hfz43_1, hfz43_2, hfz43_3, hfz43_4⟩ := fz5_ BK511.out) | (refine gl_ 40 Try.func16 #[.agg #[.int .i64 t502, .int .i64 t503, .int .i64 t504, .int .i64 t505, .slice Ao8 t506.length co8], .int .i64 t509] ?_; (with_reducible refine (impl_TrappedCells.calls k1 t502 t503 t504 t505 _ _ t506 t509 t514 _ ?side1 ?side2 A15.out).mono ?_); (case side1 => repeat (first | exact (Kd.R_reads' HO_512004.out).2.2 | (with_reducible refine Kd.C_alloc ?_ _) | (with_reducible refine Kd.C_drewN ?_ _) | (with_reducible refine Kd.C_drew ?_))); (case side2 => exact (Kd.R_reads' HO_512004.out).2.1); rintro e w44 ⟨v515, rfl, ho0, hb⟩; refine ⟨_, rfl, ?_⟩; replace HO_512004 := HO_512004.kb hb; have HO516 := Aside0.mk (Kd.R_lower ho0 (below_size (hb1_ HB.out GE511.out))); replace BK511 := BK511.bb hb; replace HB := HB.s1 GE511 hb; (try clear hb); (try clear ho0); obtain ⟨Ao45, co45, eo45⟩ := Kd.R_slice HO516.out; subst eo45; obtain ⟨hcz46_0, hcz46_1, hcz46_2, hcz46_3, hcz46_4⟩ := cz5_ BK511.out; obtain ⟨hfz46_0, hfz46_1, hfz46_2, hfz46_3, hfz46_4⟩ := fz5_ BK511.out) | (go_at_call 16; (with_reducible refine (impl_TrappedCells.calls k1 t502 t503 t504 t505 _ _ t506 t509 t522 _ ?side1 ?side2 A39.out).mono ?_); (case side1 => repeat (first | exact (Kd.R_reads' HO_512004.out).2.2 | (with_reducible refine Kd.C_alloc ?_ _) | (with_reducible refine Kd.C_drewN ?_ _) | (with_reducible refine Kd.C_drew ?_))); (case side2 => exact (Kd.R_reads' HO_512004.out).2.1); rintro e w47 ⟨v523, rfl, ho0, hb⟩; replace HO_512004 := HO_512004.kb hb; have HO524 := Aside0.mk (Kd.R_lower (Kd.R_new' ho0 (Kd.R_lt (kr_ HO516.out))) (below_size (hb1_ HB.out GE511.out))); replace HO516 := Aside0.mk (Kd.R_elder' (kr_ HO516.out) (Kd.R_base ho0) hb); replace BK511 := BK511.bb hb; replace HB := HB.s1 GE511 hb; (try clear hb); (try clear ho0); obtain ⟨Ao48, co48, eo48⟩ := Kd.R_slice HO524.out; subst eo48) | (go_at_call 27; (with_reducible refine (laws_has.calls k1 _ _ t522 t509 t525 _ ?side1 ?side2 A40.out).mono ?_); (case side1 => repeat (first | exact (Kd.R_reads' HO524.out).2.2 | (with_reducible refine Kd.C_alloc ?_ _) | (with_reducible refine Kd.C_drewN ?_ _) | (with_reducible refine Kd.C_drew ?_))); (case side2 => exact (Kd.R_reads' HO524.out).2.1); rintro e w' ⟨rfl, ⟨nd, rfl⟩⟩))
       go_ret
       exact ⟨ex_, hb1_ HB.out GE511.out⟩
     ·rw [if_neg c16] at H
      have c16b0 : (t513 == ((t514.length : Int) == 0)) = false := by simpa using c16
      (try (have c16b1 : decide (t513 = ((t514.length : Int) == 0)) = false := by simpa using c16))
      (try (have c16b2 : (t513 == ((t514.length : Int) == 0)) = false := by simpa using c16))
      (try (have c16b3 : ¬ (t513 = ((t514.length : Int) == 0)) := by simpa using c16))
      clear c16
      obtain rfl := Option.some.inj H
      obtain ⟨hcz49_0, hcz49_1, hcz49_2, hcz49_3, hcz49_4⟩ := cz5_ BK511.out
      obtain ⟨hfz49_0, hfz49_1, hfz49_2, hfz49_3, hfz49_4⟩ := fz5_ BK511.out
      go_wp2_with ((with_reducible refine gw_ ?_); first | (refine gl_ 36 Try.func14 #[.agg #[.int .i64 t502, .int .i64 t503, .int .i64 t504, .int .i64 t505, .slice Ao8 t506.length co8], .int .i64 t509] ?_; (with_reducible refine (impl_IsSafe.calls k1 t502 t503 t504 t505 _ _ t506 t509 t513 _ ?side1 ?side2 A14.out).mono ?_); (case side1 => repeat (first | exact (Kd.R_reads' HO_512004.out).2.2 | (with_reducible refine Kd.C_alloc ?_ _) | (with_reducible refine Kd.C_drewN ?_ _) | (with_reducible refine Kd.C_drew ?_))); (case side2 => exact (Kd.R_reads' HO_512004.out).2.1); rintro e w50 ⟨rfl, hb⟩; refine ⟨_, rfl, ?_⟩; replace HO_512004 := HO_512004.kb hb; replace BK511 := BK511.bb hb; replace HB := HB.s1 GE511 hb; (try clear hb); obtain ⟨hcz51_0, hcz51_1, hcz51_2, hcz51_3, hcz51_4⟩ := cz5_ BK511.out; obtain ⟨hfz51_0, hfz51_1, hfz51_2, hfz51_3, hfz51_4⟩ := fz5_ BK511.out) | (refine gl_ 40 Try.func16 #[.agg #[.int .i64 t502, .int .i64 t503, .int .i64 t504, .int .i64 t505, .slice Ao8 t506.length co8], .int .i64 t509] ?_; (with_reducible refine (impl_TrappedCells.calls k1 t502 t503 t504 t505 _ _ t506 t509 t514 _ ?side1 ?side2 A15.out).mono ?_); (case side1 => repeat (first | exact (Kd.R_reads' HO_512004.out).2.2 | (with_reducible refine Kd.C_alloc ?_ _) | (with_reducible refine Kd.C_drewN ?_ _) | (with_reducible refine Kd.C_drew ?_))); (case side2 => exact (Kd.R_reads' HO_512004.out).2.1); rintro e w52 ⟨v515, rfl, ho0, hb⟩; refine ⟨_, rfl, ?_⟩; replace HO_512004 := HO_512004.kb hb; have HO516 := Aside0.mk (Kd.R_lower ho0 (below_size (hb1_ HB.out GE511.out))); replace BK511 := BK511.bb hb; replace HB := HB.s1 GE511 hb; (try clear hb); (try clear ho0); obtain ⟨Ao53, co53, eo53⟩ := Kd.R_slice HO516.out; subst eo53))
      go_ret
      exact ⟨ex_, hb1_ HB.out GE511.out⟩

/-- THE ONE PURE STATEMENT of laws_FnTimetables: yours. -/
def laws_FnTimetables.Pure : Prop := ∀ (l0 : List Int), l0.length ≤ maxLen → l0.length * 1 ≤ 140737488351232 → (∀ x ∈ l0, (Lit.int .u8 x).wf = true) → ∃ k, laws_FnTimetables.f k l0 = some true
theorem laws_FnTimetables.walk (P : laws_FnTimetables.Pure) (a0 : Option Addr) (len0 cap0 : Nat) (z0 : List Int) (w : World) (w0 : (a0 = none ∧ len0 = 0 ∧ cap0 = 0 ∧ z0 = []) ∨ ∃ x, a0 = some x ∧ len0 ≤ cap0 ∧ cap0 ≤ maxLen ∧ z0.length = cap0 ∧ (∀ i, i < z0.length → w.cell? (x.add i) = some (.int .u8 (z0.getD i 0))) ∧ ∀ n ∈ z0, (Lit.int .u8 n).wf = true) (y0 : len0 * 1 ≤ 140737488351232) :
  Calls Try.prog 7 #[.slice a0 len0 cap0] w fun e w' => e = .returned (.bool true) ∧ Below w.heap.size w w' := by
 obtain ⟨l0, rfl, hr0, hm0, hw0, hc0⟩ := ReadsInt.ofRowC w0
 obtain ⟨k, h⟩ := P l0 hm0 y0 hw0
 refine (laws_FnTimetables.calls k _ _ l0 true w (Kd.C_of_reads (d := (0 : Int)) (h1 := fun _ => rfl) hr0) hc0 h).mono ?_
 rintro e w' ⟨rfl, hd⟩
 exact ⟨rfl, hd⟩

end Go.Proofs.Ytlfomjhjeknnmaa.X
