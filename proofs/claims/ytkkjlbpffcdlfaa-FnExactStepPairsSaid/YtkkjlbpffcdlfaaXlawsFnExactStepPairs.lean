-- Written by a program of this session (xprint.py), out of the translation and of hand-written contracts. Lean checks it.
import Derived.Test.YtkkjlbpffcdlfaaX0
import Derived.Test.YtkkjlbpffcdlfaaXcints
import Derived.Test.YtkkjlbpffcdlfaaXimplStepPairs
import Derived.Test.YtkkjlbpffcdlfaaXlawseqIntSS
import Derived.Test.YtkkjlbpffcdlfaaXlawsheldIntSS
import Derived.Test.YtkkjlbpffcdlfaaXlawsmarkIntSS
import Derived.Test.YtkkjlbpffcdlfaaXspecStepPairs
namespace Go.Proofs.Ytkkjlbpffcdlfaa.X
open Go.RowKit Go.Proofs.YtkkjlbpffcdlfaaW.PrintWords Go.Proofs.YtkkjlbpffcdlfaaW.PrintLast Go.Proofs.YtkkjlbpffcdlfaaW.PrintMore
attribute [local go_sem] max2_int min2_int max_two min_two max_three min_three max_four min_four   -- for this text's walks alone
set_option linter.unusedVariables false
set_option linter.unusedSimpArgs false

/-! ### laws_FnExactStepPairs: function 3 -/
theorem laws_FnExactStepPairs.heldN (k : Nat) (A0 : Option Addr) (c0 : Nat) (n : Nat) (l0 : List (List Int)) (a1 : Int) (r : Int) (w : World) (hn : n = l0.length) (hr0 : Kd.C (Kd.slice 3 (Kd.int .i64)) w A0 l0.length l0) (hc0 : l0.length ≤ c0) (h : laws_heldIntSS.f k l0 a1 = some r) :
  Calls Try.prog 14 #[.slice A0 n c0, .int .i64 a1] w fun e w' => e = .returned (.int .i64 r) ∧ Drawn0 w w' := by
  subst hn
  exact laws_heldIntSS.calls k A0 c0 l0 a1 r w hr0 hc0 h
def laws_FnExactStepPairs.j0 : Nat → List Int → Int → List (List Int) → List (List Int) → Bool → Option (Bool)
 | 0, _, _, _, _, _ => none
 | k + 1, x0, x1, x5, x7, x43 => if x43 = true then (some false) else ((laws_markIntSS.f k x7 1).bind fun bt521 => ((laws_heldIntSS.f k bt521.2 1).bind fun t522 => (if t522 < 0 then (some false) else (if t522 = bt521.1 then ((laws_toIntS.f k x0).bind fun t523 => ((impl_StepPairs.f k t523 x1).bind fun t526 => ((laws_eqIntSS.f k t526 x5).bind fun t529 => (if t529 = true then ((laws_heldIntSS.f k bt521.2 1).bind fun t530 => (if t530 < 0 then (some false) else (if t530 = bt521.1 then (some true) else (some false)))) else (some false))))) else (some false)))))
def laws_FnExactStepPairs.f (k : Nat) (l0 : List Int) (a1 : Int) : Option (Bool) := if (l0.length : Int) > 1048576 then (some true) else ((laws_toIntS.f k l0).bind fun t501 => ((spec_StepPairs.f k t501 a1).bind fun t504 => ((laws_toIntS.f k l0).bind fun t507 => ((impl_StepPairs.f k t507 a1).bind fun t510 => ((laws_eqIntSS.f k t510 t504).bind fun t513 => (if t513 = true then ((laws_toIntS.f k l0).bind fun t514 => ((laws_eqIntS.f k t507 t514).bind fun t517 => (if t517 = true then ((laws_markIntS.f k t507 1).bind fun bt518 => (if bt518.1 < 0 then (laws_FnExactStepPairs.j0 k l0 a1 t504 t510 true) else ((laws_eqIntSS.f k t510 t504).bind fun t520 => (laws_FnExactStepPairs.j0 k l0 a1 t504 t510 (!t520))))) else (some false)))) else (some false)))))))
theorem laws_FnExactStepPairs.mono_l : ∀ k, (∀ y0 y1 y2 y3 y4, LeO (laws_FnExactStepPairs.j0 k y0 y1 y2 y3 y4) (laws_FnExactStepPairs.j0 (k + 1) y0 y1 y2 y3 y4))
 | 0 => fun _ _ _ _ _ r h => by simp [laws_FnExactStepPairs.j0] at h
 | k + 1 => by
  have ih0 := laws_FnExactStepPairs.mono_l k
  ·intro y0 y1 y2 y3 y4
   unfold laws_FnExactStepPairs.j0
   repeat' first
   | (with_reducible exact ih0 ..)
   | (with_reducible exact impl_StepPairs.mono ..)
   | (with_reducible exact laws_eqIntS.mono ..)
   | (with_reducible exact laws_eqIntSS.mono ..)
   | (with_reducible exact laws_heldIntSS.mono ..)
   | (with_reducible exact laws_markIntSS.mono ..)
   | (with_reducible exact laws_markIntS.mono ..)
   | (with_reducible exact laws_toIntS.mono ..)
   | (with_reducible exact spec_StepPairs.mono ..)
   | (with_reducible first | exact lr_ _ | exact ln_ _ | refine li_ ?_ ?_ | refine lb_ ?_ fun _ => ?_)
   | exact ih0 ..
   | exact impl_StepPairs.mono ..
   | exact laws_eqIntS.mono ..
   | exact laws_eqIntSS.mono ..
   | exact laws_heldIntSS.mono ..
   | exact laws_markIntSS.mono ..
   | exact laws_markIntS.mono ..
   | exact laws_toIntS.mono ..
   | exact spec_StepPairs.mono ..
   | exact ln_ _ | refine li_ ?_ ?_ | refine lb_ ?_ fun _ => ?_
theorem laws_FnExactStepPairs.mono : ∀ a0 a1 k, LeO (laws_FnExactStepPairs.f k a0 a1) (laws_FnExactStepPairs.f (k + 1) a0 a1) := by
 intro a0 a1 k
 have ih0 := laws_FnExactStepPairs.mono_l k
 unfold laws_FnExactStepPairs.f
 repeat' first
   | (with_reducible exact ih0 ..)
   | (with_reducible exact impl_StepPairs.mono ..)
   | (with_reducible exact laws_eqIntS.mono ..)
   | (with_reducible exact laws_eqIntSS.mono ..)
   | (with_reducible exact laws_heldIntSS.mono ..)
   | (with_reducible exact laws_markIntSS.mono ..)
   | (with_reducible exact laws_markIntS.mono ..)
   | (with_reducible exact laws_toIntS.mono ..)
   | (with_reducible exact spec_StepPairs.mono ..)
   | (with_reducible first | exact lr_ _ | exact ln_ _ | refine li_ ?_ ?_ | refine lb_ ?_ fun _ => ?_)
   | exact ih0 ..
   | exact impl_StepPairs.mono ..
   | exact laws_eqIntS.mono ..
   | exact laws_eqIntSS.mono ..
   | exact laws_heldIntSS.mono ..
   | exact laws_markIntSS.mono ..
   | exact laws_markIntS.mono ..
   | exact laws_toIntS.mono ..
   | exact spec_StepPairs.mono ..
   | exact ln_ _ | refine li_ ?_ ?_ | refine lb_ ?_ fun _ => ?_
set_option maxHeartbeats 8000000 in
set_option maxRecDepth 100000 in
theorem laws_FnExactStepPairs.calls (k : Nat) (A0 : Option Addr) (c0 : Nat) (l0 : List Int) (a1 : Int) (r : Bool) (w : World) (hr0 : Kd.C (Kd.int .i64) w A0 l0.length l0) (hc0 : l0.length ≤ c0) (h : laws_FnExactStepPairs.f k l0 a1 = some r) :
  Calls Try.prog 3 #[.slice A0 l0.length c0, .int .i64 a1] w fun e w' => e = .returned (.bool r) ∧ Below w.heap.size w w' := by
 have HR0 := Aside0.mk hr0
 have HC0 := Aside0.mk hc0
 clear hr0 hc0
 have HB := Aside0.mk (Below.refl w.heap.size w)
 have H : (if (l0.length : Int) > 1048576 then (some true) else ((laws_toIntS.f k l0).bind fun t501 => ((spec_StepPairs.f k t501 a1).bind fun t504 => ((laws_toIntS.f k l0).bind fun t507 => ((impl_StepPairs.f k t507 a1).bind fun t510 => ((laws_eqIntSS.f k t510 t504).bind fun t513 => (if t513 = true then ((laws_toIntS.f k l0).bind fun t514 => ((laws_eqIntS.f k t507 t514).bind fun t517 => (if t517 = true then ((laws_markIntS.f k t507 1).bind fun bt518 => (if bt518.1 < 0 then (laws_FnExactStepPairs.j0 k l0 a1 t504 t510 true) else ((laws_eqIntSS.f k t510 t504).bind fun t520 => (laws_FnExactStepPairs.j0 k l0 a1 t504 t510 (!t520))))) else (some false)))) else (some false)))))))) = some r := h
 clear h
 by_cases c3 : (l0.length : Int) > 1048576
 ·rw [if_pos c3] at H
  have c3b0 : decide (1048576 < (l0.length : Int)) = true := decide_eq_true c3
  have c3b1 : decide (1048576 < l0.length) = true := decide_eq_true (by omega)
  clear c3
  obtain rfl := Option.some.inj H
  go_enter Try.func3, Try.ntmps3
  go_wp2
  go_ret
  exact ⟨ex_, hb0_ HB.out⟩
 ·rw [if_neg c3] at H
  have c3b0 : decide (1048576 < (l0.length : Int)) = false := decide_eq_false c3
  have c3b1 : decide (1048576 < l0.length) = false := decide_eq_false (by omega)
  clear c3
  replace H := Option.bind_eq_some_iff.mp H
  obtain ⟨t501, A40, H⟩ := H
  replace H : ((spec_StepPairs.f k t501 a1).bind fun t504 => ((laws_toIntS.f k l0).bind fun t507 => ((impl_StepPairs.f k t507 a1).bind fun t510 => ((laws_eqIntSS.f k t510 t504).bind fun t513 => (if t513 = true then ((laws_toIntS.f k l0).bind fun t514 => ((laws_eqIntS.f k t507 t514).bind fun t517 => (if t517 = true then ((laws_markIntS.f k t507 1).bind fun bt518 => (if bt518.1 < 0 then (laws_FnExactStepPairs.j0 k l0 a1 t504 t510 true) else ((laws_eqIntSS.f k t510 t504).bind fun t520 => (laws_FnExactStepPairs.j0 k l0 a1 t504 t510 (!t520))))) else (some false)))) else (some false)))))) = some r := H
  have A4 := Aside0.mk A40
  clear A40
  replace H := Option.bind_eq_some_iff.mp H
  obtain ⟨t504, A50, H⟩ := H
  replace H : ((laws_toIntS.f k l0).bind fun t507 => ((impl_StepPairs.f k t507 a1).bind fun t510 => ((laws_eqIntSS.f k t510 t504).bind fun t513 => (if t513 = true then ((laws_toIntS.f k l0).bind fun t514 => ((laws_eqIntS.f k t507 t514).bind fun t517 => (if t517 = true then ((laws_markIntS.f k t507 1).bind fun bt518 => (if bt518.1 < 0 then (laws_FnExactStepPairs.j0 k l0 a1 t504 t510 true) else ((laws_eqIntSS.f k t510 t504).bind fun t520 => (laws_FnExactStepPairs.j0 k l0 a1 t504 t510 (!t520))))) else (some false)))) else (some false))))) = some r := H
  have A5 := Aside0.mk A50
  clear A50
  replace H := Option.bind_eq_some_iff.mp H
  obtain ⟨t507, A60, H⟩ := H
  replace H : ((impl_StepPairs.f k t507 a1).bind fun t510 => ((laws_eqIntSS.f k t510 t504).bind fun t513 => (if t513 = true then ((laws_toIntS.f k l0).bind fun t514 => ((laws_eqIntS.f k t507 t514).bind fun t517 => (if t517 = true then ((laws_markIntS.f k t507 1).bind fun bt518 => (if bt518.1 < 0 then (laws_FnExactStepPairs.j0 k l0 a1 t504 t510 true) else ((laws_eqIntSS.f k t510 t504).bind fun t520 => (laws_FnExactStepPairs.j0 k l0 a1 t504 t510 (!t520))))) else (some false)))) else (some false)))) = some r := H
  have A6 := Aside0.mk A60
  clear A60
  replace H := Option.bind_eq_some_iff.mp H
  obtain ⟨t510, A70, H⟩ := H
  replace H : ((laws_eqIntSS.f k t510 t504).bind fun t513 => (if t513 = true then ((laws_toIntS.f k l0).bind fun t514 => ((laws_eqIntS.f k t507 t514).bind fun t517 => (if t517 = true then ((laws_markIntS.f k t507 1).bind fun bt518 => (if bt518.1 < 0 then (laws_FnExactStepPairs.j0 k l0 a1 t504 t510 true) else ((laws_eqIntSS.f k t510 t504).bind fun t520 => (laws_FnExactStepPairs.j0 k l0 a1 t504 t510 (!t520))))) else (some false)))) else (some false))) = some r := H
  have A7 := Aside0.mk A70
  clear A70
  replace H := Option.bind_eq_some_iff.mp H
  obtain ⟨t513, A80, H⟩ := H
  replace H : (if t513 = true then ((laws_toIntS.f k l0).bind fun t514 => ((laws_eqIntS.f k t507 t514).bind fun t517 => (if t517 = true then ((laws_markIntS.f k t507 1).bind fun bt518 => (if bt518.1 < 0 then (laws_FnExactStepPairs.j0 k l0 a1 t504 t510 true) else ((laws_eqIntSS.f k t510 t504).bind fun t520 => (laws_FnExactStepPairs.j0 k l0 a1 t504 t510 (!t520))))) else (some false)))) else (some false)) = some r := H
  have A8 := Aside0.mk A80
  clear A80
  by_cases c9 : t513 = true
  ·subst c9
   have H1 : ((laws_toIntS.f k l0).bind fun t514 => ((laws_eqIntS.f k t507 t514).bind fun t517 => (if t517 = true then ((laws_markIntS.f k t507 1).bind fun bt518 => (if bt518.1 < 0 then (laws_FnExactStepPairs.j0 k l0 a1 t504 t510 true) else ((laws_eqIntSS.f k t510 t504).bind fun t520 => (laws_FnExactStepPairs.j0 k l0 a1 t504 t510 (!t520))))) else (some false)))) = some r := by rw [if_pos rfl] at H; exact H
   clear H
   have H := H1
   clear H1
   replace H := Option.bind_eq_some_iff.mp H
   obtain ⟨t514, A100, H⟩ := H
   replace H : ((laws_eqIntS.f k t507 t514).bind fun t517 => (if t517 = true then ((laws_markIntS.f k t507 1).bind fun bt518 => (if bt518.1 < 0 then (laws_FnExactStepPairs.j0 k l0 a1 t504 t510 true) else ((laws_eqIntSS.f k t510 t504).bind fun t520 => (laws_FnExactStepPairs.j0 k l0 a1 t504 t510 (!t520))))) else (some false))) = some r := H
   have A10 := Aside0.mk A100
   clear A100
   replace H := Option.bind_eq_some_iff.mp H
   obtain ⟨t517, A110, H⟩ := H
   replace H : (if t517 = true then ((laws_markIntS.f k t507 1).bind fun bt518 => (if bt518.1 < 0 then (laws_FnExactStepPairs.j0 k l0 a1 t504 t510 true) else ((laws_eqIntSS.f k t510 t504).bind fun t520 => (laws_FnExactStepPairs.j0 k l0 a1 t504 t510 (!t520))))) else (some false)) = some r := H
   have A11 := Aside0.mk A110
   clear A110
   by_cases c12 : t517 = true
   ·subst c12
    have H1 : ((laws_markIntS.f k t507 1).bind fun bt518 => (if bt518.1 < 0 then (laws_FnExactStepPairs.j0 k l0 a1 t504 t510 true) else ((laws_eqIntSS.f k t510 t504).bind fun t520 => (laws_FnExactStepPairs.j0 k l0 a1 t504 t510 (!t520))))) = some r := by rw [if_pos rfl] at H; exact H
    clear H
    have H := H1
    clear H1
    replace H := Option.bind_eq_some_iff.mp H
    obtain ⟨⟨t518, t519⟩, A130, H⟩ := H
    replace H : (if t518 < 0 then (laws_FnExactStepPairs.j0 k l0 a1 t504 t510 true) else ((laws_eqIntSS.f k t510 t504).bind fun t520 => (laws_FnExactStepPairs.j0 k l0 a1 t504 t510 (!t520)))) = some r := H
    have A13 := Aside0.mk A130
    clear A130
    have HC14 := Aside0.mk H
    clear H
    go_enter Try.func3, Try.ntmps3
    go_upto_region 12 with ((with_reducible refine gw_ ?_); first | (refine gl_ 16 Try.func8 #[.slice A0 l0.length c0] ?_; (with_reducible refine (laws_toIntS.calls k _ _ l0 t501 _ ?side1 ?side2 A4.out).mono ?_); (case side1 => exact kc_ HR0.out); (case side2 => exact HC0.out); rintro e w15 ⟨v502, rfl, ho0, hb⟩; refine ⟨_, rfl, ?_⟩; have HO503 := Aside0.mk (Kd.R_lower ho0 (below_size (hb0_ HB.out))); replace HB := HB.s0 hb; (try clear hb); (try clear ho0); obtain ⟨Ao16, co16, eo16⟩ := Kd.R_slice HO503.out; subst eo16) | (refine gl_ 18 Try.func7 #[.slice Ao16 t501.length co16, .int .i64 a1] ?_; (with_reducible refine (spec_StepPairs.calls k _ _ t501 a1 t504 _ ?side1 ?side2 A5.out).mono ?_); (case side1 => repeat (first | exact (Kd.R_reads' HO503.out).2.2 | (with_reducible refine Kd.C_alloc ?_ _) | (with_reducible refine Kd.C_drewN ?_ _) | (with_reducible refine Kd.C_drew ?_))); (case side2 => exact (Kd.R_reads' HO503.out).2.1); rintro e w17 ⟨v505, rfl, ho0, hb⟩; refine ⟨_, rfl, ?_⟩; replace ho0 := Kd.S_mono (Kd.S_bound ho0) (ok' := fun k_ => k_ < w17.heap.size) (fun k_ hk_ => hk_.2.2.1); have HM := Aside0.mk (Nat.le_refl w17.heap.size); have HO506 := Aside0.mk (Kd.S_lower (Kd.S_new' ho0 (Kd.R_lt (kr_ HO503.out))) (below_size (hb0_ HB.out))); replace HO503 := HO503.kb hb; replace HB := HB.s0 hb; (try clear hb); (try clear ho0)) | (refine gl_ 20 Try.func8 #[.slice A0 l0.length c0] ?_; (with_reducible refine (laws_toIntS.calls k _ _ l0 t507 _ ?side1 ?side2 A6.out).mono ?_); (case side1 => repeat (first | exact (Kd.C_below HR0.out HB.out) | (with_reducible refine Kd.C_alloc ?_ _) | (with_reducible refine Kd.C_drewN ?_ _) | (with_reducible refine Kd.C_drew ?_))); (case side2 => exact HC0.out); rintro e w18 ⟨v508, rfl, ho0, hb⟩; refine ⟨_, rfl, ?_⟩; replace HM := Aside0.mk (Nat.le_trans HM.out hb.size); have n0_ := Aside0.mk (Kd.R_elder' (kr_ HO503.out) (Kd.R_base ho0) hb); have n1_ := Aside0.mk (Kd.S_elder' (by (with_reducible repeat (first | apply Kd.S_alloc | apply Kd.S_drewN | apply Kd.S_drew)); exact HO506.out) (Kd.R_base ho0) hb); have n2_ := Aside0.mk (Kd.R_lower (Kd.R_new' ho0 (Kd.R_lt (kr_ HO503.out))) (below_size (hb0_ HB.out))); have n3_ := HB.s0 hb; clear HO503; clear HO506; clear HB; have HO503 := n0_; have HO506 := n1_; have HO509 := n2_; have HB := n3_; clear n0_ n1_ n2_ n3_; (try clear hb); (try clear ho0); obtain ⟨Ao19, co19, eo19⟩ := Kd.R_slice HO509.out; subst eo19) | (refine gl_ 23 Try.func9 #[.slice Ao19 t507.length co19, .int .i64 a1] ?_; (with_reducible refine (impl_StepPairs.calls k _ _ t507 a1 t510 _ ?side1 ?side2 A7.out).mono ?_); (case side1 => repeat (first | exact (Kd.R_reads' HO509.out).2.2 | (with_reducible refine Kd.C_alloc ?_ _) | (with_reducible refine Kd.C_drewN ?_ _) | (with_reducible refine Kd.C_drew ?_))); (case side2 => exact (Kd.R_reads' HO509.out).2.1); rintro e w20 ⟨v511, rfl, ho0, hb⟩; refine ⟨_, rfl, ?_⟩; replace ho0 := Kd.S_mono (Kd.S_bound ho0) (ok' := fun k_ => w17.heap.size ≤ k_) (fun k_ hk_ => Nat.le_trans HM.out hk_.2.1); have n0_ := HO503.kb hb; have n1_ := Aside0.mk (Kd.S_elder' (by (with_reducible repeat (first | apply Kd.S_alloc | apply Kd.S_drewN | apply Kd.S_drew)); exact HO506.out) (Kd.S_base ho0) hb); have n2_ := HO509.kb hb; have n3_ := Aside0.mk (Kd.S_lower (Kd.S_new' (Kd.S_new' (Kd.S_new' ho0 (Kd.R_lt (kr_ HO503.out))) (Kd.S_lt (by (with_reducible repeat (first | apply Kd.S_alloc | apply Kd.S_drewN | apply Kd.S_drew)); exact HO506.out))) (Kd.R_lt (kr_ HO509.out))) (below_size (hb0_ HB.out))); have n4_ := HB.s0 hb; clear HO503; clear HO506; clear HO509; clear HB; have HO503 := n0_; have HO506 := n1_; have HO509 := n2_; have HO512 := n3_; have HB := n4_; clear n0_ n1_ n2_ n3_ n4_; (try clear hb); (try clear ho0); obtain ⟨Ao21, co21, eo21⟩ := Kd.S_slice HO512.out; subst eo21; obtain ⟨Ao22, co22, eo22⟩ := Kd.S_slice HO506.out; subst eo22) | (refine gl_ 26 Try.func10 #[.slice Ao21 t510.length co21, .slice Ao22 t504.length co22] ?_; (with_reducible refine (laws_eqIntSS.calls k _ _ t510 _ _ t504 true _ ?side1 ?side2 ?side3 ?side4 A8.out).mono ?_); (case side1 => repeat (first | exact (Kd.S_reads' HO512.out).2.2 | (with_reducible refine Kd.C_alloc ?_ _) | (with_reducible refine Kd.C_drewN ?_ _) | (with_reducible refine Kd.C_drew ?_))); (case side2 => exact (Kd.S_reads' HO512.out).2.1); (case side3 => repeat (first | exact (Kd.S_reads' HO506.out).2.2 | (with_reducible refine Kd.C_alloc ?_ _) | (with_reducible refine Kd.C_drewN ?_ _) | (with_reducible refine Kd.C_drew ?_))); (case side4 => exact (Kd.S_reads' HO506.out).2.1); rintro e w' ⟨rfl, ⟨nd, rfl⟩⟩; refine ⟨_, rfl, ?_⟩) | (refine gl_ 30 Try.func8 #[.slice A0 l0.length c0] ?_; (with_reducible refine (laws_toIntS.calls k _ _ l0 t514 _ ?side1 ?side2 A10.out).mono ?_); (case side1 => repeat (first | exact (Kd.C_below HR0.out (hb0_ HB.out)) | (with_reducible refine Kd.C_alloc ?_ _) | (with_reducible refine Kd.C_drewN ?_ _) | (with_reducible refine Kd.C_drew ?_))); (case side2 => exact HC0.out); rintro e w23 ⟨v515, rfl, ho0, hb⟩; refine ⟨_, rfl, ?_⟩; have n0_ := Aside0.mk (Kd.R_elder' (kr_ HO503.out) (Kd.R_base ho0) hb); have n1_ := Aside0.mk (Kd.S_elder' (by (with_reducible repeat (first | apply Kd.S_alloc | apply Kd.S_drewN | apply Kd.S_drew)); exact HO506.out) (Kd.R_base ho0) hb); have n2_ := Aside0.mk (Kd.R_elder' (kr_ HO509.out) (Kd.R_base ho0) hb); have n3_ := Aside0.mk (Kd.S_elder' (by (with_reducible repeat (first | apply Kd.S_alloc | apply Kd.S_drewN | apply Kd.S_drew)); exact HO512.out) (Kd.R_base ho0) hb); have n4_ := Aside0.mk (Kd.R_lower (Kd.R_new' (Kd.R_new' ho0 (Kd.R_lt (kr_ HO503.out))) (Kd.R_lt (kr_ HO509.out))) (below_size (hb0_ HB.out))); have n5_ := HB.s0 hb; clear HO503; clear HO506; clear HO509; clear HO512; clear HB; have HO503 := n0_; have HO506 := n1_; have HO509 := n2_; have HO512 := n3_; have HO516 := n4_; have HB := n5_; clear n0_ n1_ n2_ n3_ n4_ n5_; (try clear hb); (try clear ho0); obtain ⟨Ao24, co24, eo24⟩ := Kd.R_slice HO516.out; subst eo24) | (refine gl_ 31 Try.func11 #[.slice Ao19 t507.length co19, .slice Ao24 t514.length co24] ?_; (with_reducible refine (laws_eqIntS.calls k _ _ t507 _ _ t514 true _ ?side1 ?side2 ?side3 ?side4 A11.out).mono ?_); (case side1 => repeat (first | exact (Kd.R_reads' HO509.out).2.2 | (with_reducible refine Kd.C_alloc ?_ _) | (with_reducible refine Kd.C_drewN ?_ _) | (with_reducible refine Kd.C_drew ?_))); (case side2 => exact (Kd.R_reads' HO509.out).2.1); (case side3 => repeat (first | exact (Kd.R_reads' HO516.out).2.2 | (with_reducible refine Kd.C_alloc ?_ _) | (with_reducible refine Kd.C_drewN ?_ _) | (with_reducible refine Kd.C_drew ?_))); (case side4 => exact (Kd.R_reads' HO516.out).2.1); rintro e w' ⟨rfl, ⟨nd, rfl⟩⟩; refine ⟨_, rfl, ?_⟩) | (refine gl_ 35 Try.func12 #[.slice Ao19 t507.length co19, .int .i64 1] ?_; (with_reducible refine (laws_markIntS.calls k (fun k_ => some k_ = (.slice Ao19 t507.length co19 : Value).ownBlock) (.slice Ao19 t507.length co19) t507 1 t518 t519 w _ ?side1 ?side2 A13.out).mono ?_); (case side1 => repeat (first | (with_reducible first | exact HB.out | apply below_alloc | apply pw_below_drewN | apply below_drew1) | exact HB.out)); (case side2 => exact Kd.R_tight rfl HO509.out); rintro e w25 ⟨rfl, hy0, hb, hkp⟩; refine ⟨_, rfl, ?_⟩; replace HO503 := Aside0.mk (Kd.R_mono (ok' := fun k_ => some k_ ≠ (.slice Ao19 t507.length co19 : Value).ownBlock ∧ some k_ ≠ (.slice Ao24 t514.length co24 : Value).ownBlock) (Kd.R_keptB (HO503.out) hkp (fun k_ hk_ hs_ => (hk_.1.2) hs_)) (fun k_ hk_ => ⟨hk_.1.1.2, hk_.1.2⟩)); replace HO506 := Aside0.mk (Kd.S_mono (ok' := fun k_ => k_ < w17.heap.size ∧ some k_ ≠ (.slice Ao16 t501.length co16 : Value).ownBlock ∧ some k_ ≠ (.slice Ao19 t507.length co19 : Value).ownBlock ∧ some k_ ≠ (.slice Ao21 t510.length co21 : Value).ownBlock ∧ some k_ ≠ (.slice Ao24 t514.length co24 : Value).ownBlock) (Kd.S_keptB (HO506.out) hkp (fun k_ hk_ hs_ => (hk_.1.1.2) hs_)) (fun k_ hk_ => ⟨hk_.1.1.1.1.1, hk_.1.1.1.1.2, hk_.1.1.1.2, hk_.1.1.2, hk_.1.2⟩)); replace HO509 := Aside0.mk (Kd.R_reok rfl hy0 (fun k_ e_ => HO509.out.1 k_ e_)); replace HO512 := Aside0.mk (Kd.S_mono (ok' := fun k_ => w17.heap.size ≤ k_ ∧ some k_ ≠ (.slice Ao16 t501.length co16 : Value).ownBlock ∧ some k_ ≠ (.slice Ao22 t504.length co22 : Value).ownBlock ∧ some k_ ≠ (.slice Ao19 t507.length co19 : Value).ownBlock ∧ some k_ ≠ (.slice Ao24 t514.length co24 : Value).ownBlock) (Kd.S_keptB (HO512.out) hkp (fun k_ hk_ hs_ => (hk_.1.2) hs_)) (fun k_ hk_ => ⟨hk_.1.1.1.1.1, hk_.1.1.1.1.2, hk_.1.1.1.2, hk_.1.1.2, hk_.1.2⟩)); replace HO516 := Aside0.mk (Kd.R_mono (ok' := fun k_ => some k_ ≠ (.slice Ao16 t501.length co16 : Value).ownBlock ∧ some k_ ≠ (.slice Ao19 t507.length co19 : Value).ownBlock) (Kd.R_keptB (HO516.out) hkp (fun k_ hk_ hs_ => (hk_.2) hs_)) (fun k_ hk_ => ⟨hk_.1.1.2, hk_.1.2⟩)); replace HB := Aside0.mk (hb); (try clear hb); (try clear hkp); (try clear hy0)))
    (try simp only [Act.put, List.setIfInBounds_toArray, List.set_cons_zero, List.set_cons_succ])
    go_cut [43] (fun v43 wc => ∃ (kq : Nat) (x43_13 : Bool), v43 = .bool x43_13 ∧ Aside0 (laws_FnExactStepPairs.j0 kq l0 a1 t504 t510 x43_13 = some r) ∧ Aside0 (kq ≤ k) ∧ Aside0 (Kd.S (Kd.slice 3 (Kd.int .i64)) 22 wc w.heap.size (fun k_ => k_ < w17.heap.size ∧ some k_ ≠ ((.slice Ao21 t510.length co21) : Value).ownBlock) (.slice Ao22 t504.length co22) t504) ∧ Aside0 (Kd.S (Kd.slice 3 (Kd.int .i64)) 22 wc w.heap.size (fun k_ => w17.heap.size ≤ k_ ∧ some k_ ≠ ((.slice Ao22 t504.length co22) : Value).ownBlock) (.slice Ao21 t510.length co21) t510) ∧ Aside0 (Below w.heap.size w wc))
    case first =>
     have H := HC14.out
     clear HC14
     by_cases c26 : t518 < 0
     ·rw [if_pos c26] at H
      have c26b0 : decide (t518 < 0) = true := decide_eq_true c26
      clear c26
      (first | rw [c26b0] | (simp only [i64_w, i32_w]; rw [c26b0]) | skip)
      have H' := Aside0.mk H
      clear H
      go_wp2
      go_meet
      case rel => exact ⟨_, (true), (by first | rfl | (simp; done) | (simp [*]; done)), H', ⟨by first | omega | exact Nat.le_refl _⟩, ⟨by (with_reducible repeat (first | apply Kd.S_alloc | apply Kd.S_drewN | apply Kd.S_drew)); exact Kd.S_mono HO506.out (fun _ hk => ⟨hk.1, hk.2.2.2.1⟩)⟩, ⟨by (with_reducible repeat (first | apply Kd.S_alloc | apply Kd.S_drewN | apply Kd.S_drew)); exact Kd.S_mono HO512.out (fun _ hk => ⟨hk.1, hk.2.2.1⟩)⟩, ⟨hb0_ HB.out⟩⟩
     ·rw [if_neg c26] at H
      have c26b0 : decide (t518 < 0) = false := decide_eq_false c26
      clear c26
      (first | rw [c26b0] | (simp only [i64_w, i32_w]; rw [c26b0]) | skip)
      replace H := Option.bind_eq_some_iff.mp H
      obtain ⟨t520, A270, H⟩ := H
      replace H : (laws_FnExactStepPairs.j0 k l0 a1 t504 t510 (!t520)) = some r := H
      have A27 := Aside0.mk A270
      clear A270
      have H' := Aside0.mk H
      clear H
      go_wp2_with (first | (go_at_call 10; (with_reducible refine (laws_eqIntSS.calls k _ _ t510 _ _ t504 t520 _ ?side1 ?side2 ?side3 ?side4 A27.out).mono ?_); (case side1 => repeat (first | exact (Kd.S_reads' HO512.out).2.2 | (with_reducible refine Kd.C_alloc ?_ _) | (with_reducible refine Kd.C_drewN ?_ _) | (with_reducible refine Kd.C_drew ?_))); (case side2 => exact (Kd.S_reads' HO512.out).2.1); (case side3 => repeat (first | exact (Kd.S_reads' HO506.out).2.2 | (with_reducible refine Kd.C_alloc ?_ _) | (with_reducible refine Kd.C_drewN ?_ _) | (with_reducible refine Kd.C_drew ?_))); (case side4 => exact (Kd.S_reads' HO506.out).2.1); rintro e w' ⟨rfl, ⟨nd, rfl⟩⟩))
      go_meet
      case rel => exact ⟨_, (!t520), (by first | rfl | (simp; done) | (simp [*]; done)), H', ⟨by first | omega | exact Nat.le_refl _⟩, ⟨by (with_reducible repeat (first | apply Kd.S_alloc | apply Kd.S_drewN | apply Kd.S_drew)); exact Kd.S_mono HO506.out (fun _ hk => ⟨hk.1, hk.2.2.2.1⟩)⟩, ⟨by (with_reducible repeat (first | apply Kd.S_alloc | apply Kd.S_drewN | apply Kd.S_drew)); exact Kd.S_mono HO512.out (fun _ hk => ⟨hk.1, hk.2.2.1⟩)⟩, ⟨hb0_ HB.out⟩⟩
    case rest =>
     clear HC14
     try clear c1
     try clear c2
     try clear p2
     try clear c3
     try clear c3b0
     try clear c3b1
     try clear c7
     try clear c8
     try clear c9
     try clear c10
     try clear c11
     try clear c12
     try clear c26
     try clear c26b0
     obtain ⟨kq, x43_13, rfl, HA, HJ13, HO_5, HO_7, HB⟩ := hcut
     cases kq with
     | zero => exact absurd HA.out (by simp [laws_FnExactStepPairs.j0])
     | succ kj13 =>
      have H := HA.out
      clear HA
      simp only [laws_FnExactStepPairs.j0] at H
      by_cases c28 : x43_13 = true
      ·subst c28
       have H1 : (some false) = some r := by rw [if_pos rfl] at H; exact H
       clear H
       have H := H1
       clear H1
       obtain rfl := Option.some.inj H
       go_wp2
       go_ret
       exact ⟨ex_, hb0_ HB.out⟩
      ·replace c28 := Bool.eq_false_iff.mpr c28
       subst c28
       have H1 : ((laws_markIntSS.f kj13 t510 1).bind fun bt521 => ((laws_heldIntSS.f kj13 bt521.2 1).bind fun t522 => (if t522 < 0 then (some false) else (if t522 = bt521.1 then ((laws_toIntS.f kj13 l0).bind fun t523 => ((impl_StepPairs.f kj13 t523 a1).bind fun t526 => ((laws_eqIntSS.f kj13 t526 t504).bind fun t529 => (if t529 = true then ((laws_heldIntSS.f kj13 bt521.2 1).bind fun t530 => (if t530 < 0 then (some false) else (if t530 = bt521.1 then (some true) else (some false)))) else (some false))))) else (some false))))) = some r := by rw [if_neg (show ¬ (false = true) by decide)] at H; exact H
       clear H
       have H := H1
       clear H1
       replace H := Option.bind_eq_some_iff.mp H
       obtain ⟨⟨t521, t521m⟩, A290, H⟩ := H
       replace H : ((laws_heldIntSS.f kj13 t521m 1).bind fun t522 => (if t522 < 0 then (some false) else (if t522 = t521 then ((laws_toIntS.f kj13 l0).bind fun t523 => ((impl_StepPairs.f kj13 t523 a1).bind fun t526 => ((laws_eqIntSS.f kj13 t526 t504).bind fun t529 => (if t529 = true then ((laws_heldIntSS.f kj13 t521m 1).bind fun t530 => (if t530 < 0 then (some false) else (if t530 = t521 then (some true) else (some false)))) else (some false))))) else (some false)))) = some r := H
       have A29 := Aside0.mk A290
       clear A290
       replace H := Option.bind_eq_some_iff.mp H
       obtain ⟨t522, A300, H⟩ := H
       replace H : (if t522 < 0 then (some false) else (if t522 = t521 then ((laws_toIntS.f kj13 l0).bind fun t523 => ((impl_StepPairs.f kj13 t523 a1).bind fun t526 => ((laws_eqIntSS.f kj13 t526 t504).bind fun t529 => (if t529 = true then ((laws_heldIntSS.f kj13 t521m 1).bind fun t530 => (if t530 < 0 then (some false) else (if t530 = t521 then (some true) else (some false)))) else (some false))))) else (some false))) = some r := H
       have A30 := Aside0.mk A300
       clear A300
       by_cases c31 : t522 < 0
       ·rw [if_pos c31] at H
        have c31b0 : decide (t522 < 0) = true := decide_eq_true c31
        clear c31
        obtain rfl := Option.some.inj H
        go_wp2_with ((with_reducible refine gw_ ?_); first | (refine gl_ 46 Try.func13 #[.slice Ao21 t510.length co21, .int .i64 1] ?_; (with_reducible refine (laws_markIntSS.calls kj13 (fun k_ => w17.heap.size ≤ k_) _ t510 1 t521 t521m w _ ?side1 ?side2 A29.out).mono ?_); (case side1 => exact hb0_ HB.out); (case side2 => exact Kd.S_mono HO_7.out (fun k_ hk_ => hk_.1)); rintro e w' ⟨rfl, hy0, hb, hkp⟩; refine ⟨_, rfl, ?_⟩; replace HO_5 := Aside0.mk (Kd.S_mono (Kd.S_keptB HO_5.out hkp (fun k_ hk_ hs_ => Nat.not_le.2 hk_.1 hs_)) (fun k_ hk_ => hk_.1)); replace HO_7 := Aside0.mk hy0; replace HB := Aside0.mk hb; (try clear hb); (try clear hkp); (try clear hy0)) | (refine gl_ 49 Try.func14 #[.slice Ao21 t510.length co21, .int .i64 1] ?_; (with_reducible refine (laws_FnExactStepPairs.heldN kj13 _ _ t510.length t521m 1 t522 _ (Kd.S_reads' HO_7.out).1 ?side1 ?side2 A30.out).mono ?_); (case side1 => repeat (first | exact (Kd.S_reads' HO_7.out).2.2 | (with_reducible refine Kd.C_alloc ?_ _) | (with_reducible refine Kd.C_drewN ?_ _) | (with_reducible refine Kd.C_drew ?_))); (case side2 => rw [← (Kd.S_reads' HO_7.out).1]; exact (Kd.S_reads' HO_7.out).2.1); rintro e w' ⟨rfl, ⟨nd, rfl⟩⟩; refine ⟨_, rfl, ?_⟩))
        go_ret
        exact ⟨ex_, hb0_ HB.out⟩
       ·rw [if_neg c31] at H
        have c31b0 : decide (t522 < 0) = false := decide_eq_false c31
        clear c31
        by_cases c32 : t522 = t521
        ·rw [if_pos c32] at H
         have c32b0 : (t522 == t521) = true := beq_iff_eq.mpr c32
         have c32b1 : (t522 != t521) = false := bne_eq_false_iff_eq.mpr c32
         clear c32
         replace H := Option.bind_eq_some_iff.mp H
         obtain ⟨t523, A330, H⟩ := H
         replace H : ((impl_StepPairs.f kj13 t523 a1).bind fun t526 => ((laws_eqIntSS.f kj13 t526 t504).bind fun t529 => (if t529 = true then ((laws_heldIntSS.f kj13 t521m 1).bind fun t530 => (if t530 < 0 then (some false) else (if t530 = t521 then (some true) else (some false)))) else (some false)))) = some r := H
         have A33 := Aside0.mk A330
         clear A330
         replace H := Option.bind_eq_some_iff.mp H
         obtain ⟨t526, A340, H⟩ := H
         replace H : ((laws_eqIntSS.f kj13 t526 t504).bind fun t529 => (if t529 = true then ((laws_heldIntSS.f kj13 t521m 1).bind fun t530 => (if t530 < 0 then (some false) else (if t530 = t521 then (some true) else (some false)))) else (some false))) = some r := H
         have A34 := Aside0.mk A340
         clear A340
         replace H := Option.bind_eq_some_iff.mp H
         obtain ⟨t529, A350, H⟩ := H
         replace H : (if t529 = true then ((laws_heldIntSS.f kj13 t521m 1).bind fun t530 => (if t530 < 0 then (some false) else (if t530 = t521 then (some true) else (some false)))) else (some false)) = some r := H
         have A35 := Aside0.mk A350
         clear A350
         by_cases c36 : t529 = true
         ·subst c36
          have H1 : ((laws_heldIntSS.f kj13 t521m 1).bind fun t530 => (if t530 < 0 then (some false) else (if t530 = t521 then (some true) else (some false)))) = some r := by rw [if_pos rfl] at H; exact H
          clear H
          have H := H1
          clear H1
          replace H := Option.bind_eq_some_iff.mp H
          obtain ⟨t530, A370, H⟩ := H
          replace H : (if t530 < 0 then (some false) else (if t530 = t521 then (some true) else (some false))) = some r := H
          have A37 := Aside0.mk A370
          clear A370
          by_cases c38 : t530 < 0
          ·rw [if_pos c38] at H
           have c38b0 : decide (t530 < 0) = true := decide_eq_true c38
           clear c38
           obtain rfl := Option.some.inj H
           go_wp2_with ((with_reducible refine gw_ ?_); first | (refine gl_ 46 Try.func13 #[.slice Ao21 t510.length co21, .int .i64 1] ?_; (with_reducible refine (laws_markIntSS.calls kj13 (fun k_ => w17.heap.size ≤ k_) _ t510 1 t521 t521m w _ ?side1 ?side2 A29.out).mono ?_); (case side1 => exact hb0_ HB.out); (case side2 => exact Kd.S_mono HO_7.out (fun k_ hk_ => hk_.1)); rintro e w' ⟨rfl, hy0, hb, hkp⟩; refine ⟨_, rfl, ?_⟩; replace HO_5 := Aside0.mk (Kd.S_mono (Kd.S_keptB HO_5.out hkp (fun k_ hk_ hs_ => Nat.not_le.2 hk_.1 hs_)) (fun k_ hk_ => hk_.1)); replace HO_7 := Aside0.mk hy0; replace HB := Aside0.mk hb; (try clear hb); (try clear hkp); (try clear hy0)) | (refine gl_ 49 Try.func14 #[.slice Ao21 t510.length co21, .int .i64 1] ?_; (with_reducible refine (laws_FnExactStepPairs.heldN kj13 _ _ t510.length t521m 1 t522 _ (Kd.S_reads' HO_7.out).1 ?side1 ?side2 A30.out).mono ?_); (case side1 => repeat (first | exact (Kd.S_reads' HO_7.out).2.2 | (with_reducible refine Kd.C_alloc ?_ _) | (with_reducible refine Kd.C_drewN ?_ _) | (with_reducible refine Kd.C_drew ?_))); (case side2 => rw [← (Kd.S_reads' HO_7.out).1]; exact (Kd.S_reads' HO_7.out).2.1); rintro e w' ⟨rfl, ⟨nd, rfl⟩⟩; refine ⟨_, rfl, ?_⟩) | (refine gl_ 56 Try.func8 #[.slice A0 l0.length c0] ?_; (with_reducible refine (laws_toIntS.calls kj13 _ _ l0 t523 _ ?side1 ?side2 A33.out).mono ?_); (case side1 => repeat (first | exact (Kd.C_below HR0.out (hb0_ HB.out)) | (with_reducible refine Kd.C_alloc ?_ _) | (with_reducible refine Kd.C_drewN ?_ _) | (with_reducible refine Kd.C_drew ?_))); (case side2 => exact HC0.out); rintro e w39 ⟨v524, rfl, ho0, hb⟩; refine ⟨_, rfl, ?_⟩; replace HO_5 := Aside0.mk (Kd.S_elder' (by (with_reducible repeat (first | apply Kd.S_alloc | apply Kd.S_drewN | apply Kd.S_drew)); exact HO_5.out) (Kd.R_base ho0) hb); replace HO_7 := Aside0.mk (Kd.S_elder' (by (with_reducible repeat (first | apply Kd.S_alloc | apply Kd.S_drewN | apply Kd.S_drew)); exact HO_7.out) (Kd.R_base ho0) hb); have HO525 := Aside0.mk (Kd.R_lower ho0 (below_size (hb0_ HB.out))); replace HB := HB.s0 hb; (try clear hb); (try clear ho0); obtain ⟨Ao40, co40, eo40⟩ := Kd.R_slice HO525.out; subst eo40) | (refine gl_ 58 Try.func9 #[.slice Ao40 t523.length co40, .int .i64 a1] ?_; (with_reducible refine (impl_StepPairs.calls kj13 _ _ t523 a1 t526 _ ?side1 ?side2 A34.out).mono ?_); (case side1 => repeat (first | exact (Kd.R_reads' HO525.out).2.2 | (with_reducible refine Kd.C_alloc ?_ _) | (with_reducible refine Kd.C_drewN ?_ _) | (with_reducible refine Kd.C_drew ?_))); (case side2 => exact (Kd.R_reads' HO525.out).2.1); rintro e w41 ⟨v527, rfl, ho0, hb⟩; refine ⟨_, rfl, ?_⟩; have n0_ := Aside0.mk (Kd.S_elder' (by (with_reducible repeat (first | apply Kd.S_alloc | apply Kd.S_drewN | apply Kd.S_drew)); exact HO_5.out) (Kd.S_base ho0) hb); have n1_ := Aside0.mk (Kd.S_elder' (by (with_reducible repeat (first | apply Kd.S_alloc | apply Kd.S_drewN | apply Kd.S_drew)); exact HO_7.out) (Kd.S_base ho0) hb); have n2_ := HO525.kb hb; have n3_ := Aside0.mk (Kd.S_lower (Kd.S_new' (Kd.S_new' (Kd.S_new' ho0 (Kd.S_lt (by (with_reducible repeat (first | apply Kd.S_alloc | apply Kd.S_drewN | apply Kd.S_drew)); exact HO_5.out))) (Kd.S_lt (by (with_reducible repeat (first | apply Kd.S_alloc | apply Kd.S_drewN | apply Kd.S_drew)); exact HO_7.out))) (Kd.R_lt (kr_ HO525.out))) (below_size (hb0_ HB.out))); have n4_ := HB.s0 hb; clear HO_5; clear HO_7; clear HO525; clear HB; have HO_5 := n0_; have HO_7 := n1_; have HO525 := n2_; have HO528 := n3_; have HB := n4_; clear n0_ n1_ n2_ n3_ n4_; (try clear hb); (try clear ho0); obtain ⟨Ao42, co42, eo42⟩ := Kd.S_slice HO528.out; subst eo42) | (refine gl_ 61 Try.func10 #[.slice Ao42 t526.length co42, .slice Ao22 t504.length co22] ?_; (with_reducible refine (laws_eqIntSS.calls kj13 _ _ t526 _ _ t504 true _ ?side1 ?side2 ?side3 ?side4 A35.out).mono ?_); (case side1 => repeat (first | exact (Kd.S_reads' HO528.out).2.2 | (with_reducible refine Kd.C_alloc ?_ _) | (with_reducible refine Kd.C_drewN ?_ _) | (with_reducible refine Kd.C_drew ?_))); (case side2 => exact (Kd.S_reads' HO528.out).2.1); (case side3 => repeat (first | exact (Kd.S_reads' HO_5.out).2.2 | (with_reducible refine Kd.C_alloc ?_ _) | (with_reducible refine Kd.C_drewN ?_ _) | (with_reducible refine Kd.C_drew ?_))); (case side4 => exact (Kd.S_reads' HO_5.out).2.1); rintro e w' ⟨rfl, ⟨nd, rfl⟩⟩; refine ⟨_, rfl, ?_⟩) | (refine gl_ 65 Try.func14 #[.slice Ao21 t510.length co21, .int .i64 1] ?_; (with_reducible refine (laws_FnExactStepPairs.heldN kj13 _ _ t510.length t521m 1 t530 _ (Kd.S_reads' HO_7.out).1 ?side1 ?side2 A37.out).mono ?_); (case side1 => repeat (first | exact (Kd.S_reads' HO_7.out).2.2 | (with_reducible refine Kd.C_alloc ?_ _) | (with_reducible refine Kd.C_drewN ?_ _) | (with_reducible refine Kd.C_drew ?_))); (case side2 => rw [← (Kd.S_reads' HO_7.out).1]; exact (Kd.S_reads' HO_7.out).2.1); rintro e w' ⟨rfl, ⟨nd, rfl⟩⟩; refine ⟨_, rfl, ?_⟩))
           go_ret
           exact ⟨ex_, hb0_ HB.out⟩
          ·rw [if_neg c38] at H
           have c38b0 : decide (t530 < 0) = false := decide_eq_false c38
           clear c38
           by_cases c43 : t530 = t521
           ·rw [if_pos c43] at H
            have c43b0 : (t530 == t521) = true := beq_iff_eq.mpr c43
            have c43b1 : (t530 != t521) = false := bne_eq_false_iff_eq.mpr c43
            clear c43
            obtain rfl := Option.some.inj H
            go_wp2_with ((with_reducible refine gw_ ?_); first | (refine gl_ 46 Try.func13 #[.slice Ao21 t510.length co21, .int .i64 1] ?_; (with_reducible refine (laws_markIntSS.calls kj13 (fun k_ => w17.heap.size ≤ k_) _ t510 1 t521 t521m w _ ?side1 ?side2 A29.out).mono ?_); (case side1 => exact hb0_ HB.out); (case side2 => exact Kd.S_mono HO_7.out (fun k_ hk_ => hk_.1)); rintro e w' ⟨rfl, hy0, hb, hkp⟩; refine ⟨_, rfl, ?_⟩; replace HO_5 := Aside0.mk (Kd.S_mono (Kd.S_keptB HO_5.out hkp (fun k_ hk_ hs_ => Nat.not_le.2 hk_.1 hs_)) (fun k_ hk_ => hk_.1)); replace HO_7 := Aside0.mk hy0; replace HB := Aside0.mk hb; (try clear hb); (try clear hkp); (try clear hy0)) | (refine gl_ 49 Try.func14 #[.slice Ao21 t510.length co21, .int .i64 1] ?_; (with_reducible refine (laws_FnExactStepPairs.heldN kj13 _ _ t510.length t521m 1 t522 _ (Kd.S_reads' HO_7.out).1 ?side1 ?side2 A30.out).mono ?_); (case side1 => repeat (first | exact (Kd.S_reads' HO_7.out).2.2 | (with_reducible refine Kd.C_alloc ?_ _) | (with_reducible refine Kd.C_drewN ?_ _) | (with_reducible refine Kd.C_drew ?_))); (case side2 => rw [← (Kd.S_reads' HO_7.out).1]; exact (Kd.S_reads' HO_7.out).2.1); rintro e w' ⟨rfl, ⟨nd, rfl⟩⟩; refine ⟨_, rfl, ?_⟩) | (refine gl_ 56 Try.func8 #[.slice A0 l0.length c0] ?_; (with_reducible refine (laws_toIntS.calls kj13 _ _ l0 t523 _ ?side1 ?side2 A33.out).mono ?_); (case side1 => repeat (first | exact (Kd.C_below HR0.out (hb0_ HB.out)) | (with_reducible refine Kd.C_alloc ?_ _) | (with_reducible refine Kd.C_drewN ?_ _) | (with_reducible refine Kd.C_drew ?_))); (case side2 => exact HC0.out); rintro e w44 ⟨v524, rfl, ho0, hb⟩; refine ⟨_, rfl, ?_⟩; replace HO_5 := Aside0.mk (Kd.S_elder' (by (with_reducible repeat (first | apply Kd.S_alloc | apply Kd.S_drewN | apply Kd.S_drew)); exact HO_5.out) (Kd.R_base ho0) hb); replace HO_7 := Aside0.mk (Kd.S_elder' (by (with_reducible repeat (first | apply Kd.S_alloc | apply Kd.S_drewN | apply Kd.S_drew)); exact HO_7.out) (Kd.R_base ho0) hb); have HO525 := Aside0.mk (Kd.R_lower ho0 (below_size (hb0_ HB.out))); replace HB := HB.s0 hb; (try clear hb); (try clear ho0); obtain ⟨Ao45, co45, eo45⟩ := Kd.R_slice HO525.out; subst eo45) | (refine gl_ 58 Try.func9 #[.slice Ao45 t523.length co45, .int .i64 a1] ?_; (with_reducible refine (impl_StepPairs.calls kj13 _ _ t523 a1 t526 _ ?side1 ?side2 A34.out).mono ?_); (case side1 => repeat (first | exact (Kd.R_reads' HO525.out).2.2 | (with_reducible refine Kd.C_alloc ?_ _) | (with_reducible refine Kd.C_drewN ?_ _) | (with_reducible refine Kd.C_drew ?_))); (case side2 => exact (Kd.R_reads' HO525.out).2.1); rintro e w46 ⟨v527, rfl, ho0, hb⟩; refine ⟨_, rfl, ?_⟩; have n0_ := Aside0.mk (Kd.S_elder' (by (with_reducible repeat (first | apply Kd.S_alloc | apply Kd.S_drewN | apply Kd.S_drew)); exact HO_5.out) (Kd.S_base ho0) hb); have n1_ := Aside0.mk (Kd.S_elder' (by (with_reducible repeat (first | apply Kd.S_alloc | apply Kd.S_drewN | apply Kd.S_drew)); exact HO_7.out) (Kd.S_base ho0) hb); have n2_ := HO525.kb hb; have n3_ := Aside0.mk (Kd.S_lower (Kd.S_new' (Kd.S_new' (Kd.S_new' ho0 (Kd.S_lt (by (with_reducible repeat (first | apply Kd.S_alloc | apply Kd.S_drewN | apply Kd.S_drew)); exact HO_5.out))) (Kd.S_lt (by (with_reducible repeat (first | apply Kd.S_alloc | apply Kd.S_drewN | apply Kd.S_drew)); exact HO_7.out))) (Kd.R_lt (kr_ HO525.out))) (below_size (hb0_ HB.out))); have n4_ := HB.s0 hb; clear HO_5; clear HO_7; clear HO525; clear HB; have HO_5 := n0_; have HO_7 := n1_; have HO525 := n2_; have HO528 := n3_; have HB := n4_; clear n0_ n1_ n2_ n3_ n4_; (try clear hb); (try clear ho0); obtain ⟨Ao47, co47, eo47⟩ := Kd.S_slice HO528.out; subst eo47) | (refine gl_ 61 Try.func10 #[.slice Ao47 t526.length co47, .slice Ao22 t504.length co22] ?_; (with_reducible refine (laws_eqIntSS.calls kj13 _ _ t526 _ _ t504 true _ ?side1 ?side2 ?side3 ?side4 A35.out).mono ?_); (case side1 => repeat (first | exact (Kd.S_reads' HO528.out).2.2 | (with_reducible refine Kd.C_alloc ?_ _) | (with_reducible refine Kd.C_drewN ?_ _) | (with_reducible refine Kd.C_drew ?_))); (case side2 => exact (Kd.S_reads' HO528.out).2.1); (case side3 => repeat (first | exact (Kd.S_reads' HO_5.out).2.2 | (with_reducible refine Kd.C_alloc ?_ _) | (with_reducible refine Kd.C_drewN ?_ _) | (with_reducible refine Kd.C_drew ?_))); (case side4 => exact (Kd.S_reads' HO_5.out).2.1); rintro e w' ⟨rfl, ⟨nd, rfl⟩⟩; refine ⟨_, rfl, ?_⟩) | (refine gl_ 65 Try.func14 #[.slice Ao21 t510.length co21, .int .i64 1] ?_; (with_reducible refine (laws_FnExactStepPairs.heldN kj13 _ _ t510.length t521m 1 t530 _ (Kd.S_reads' HO_7.out).1 ?side1 ?side2 A37.out).mono ?_); (case side1 => repeat (first | exact (Kd.S_reads' HO_7.out).2.2 | (with_reducible refine Kd.C_alloc ?_ _) | (with_reducible refine Kd.C_drewN ?_ _) | (with_reducible refine Kd.C_drew ?_))); (case side2 => rw [← (Kd.S_reads' HO_7.out).1]; exact (Kd.S_reads' HO_7.out).2.1); rintro e w' ⟨rfl, ⟨nd, rfl⟩⟩; refine ⟨_, rfl, ?_⟩))
            go_ret
            exact ⟨ex_, hb0_ HB.out⟩
           ·rw [if_neg c43] at H
            have c43b0 : (t530 == t521) = false := beq_eq_false_iff_ne.mpr c43
            have c43b1 : (t530 != t521) = true := bne_iff_ne.mpr c43
            obtain rfl := Option.some.inj H
            go_wp2_with ((with_reducible refine gw_ ?_); first | (refine gl_ 46 Try.func13 #[.slice Ao21 t510.length co21, .int .i64 1] ?_; (with_reducible refine (laws_markIntSS.calls kj13 (fun k_ => w17.heap.size ≤ k_) _ t510 1 t521 t521m w _ ?side1 ?side2 A29.out).mono ?_); (case side1 => exact hb0_ HB.out); (case side2 => exact Kd.S_mono HO_7.out (fun k_ hk_ => hk_.1)); rintro e w' ⟨rfl, hy0, hb, hkp⟩; refine ⟨_, rfl, ?_⟩; replace HO_5 := Aside0.mk (Kd.S_mono (Kd.S_keptB HO_5.out hkp (fun k_ hk_ hs_ => Nat.not_le.2 hk_.1 hs_)) (fun k_ hk_ => hk_.1)); replace HO_7 := Aside0.mk hy0; replace HB := Aside0.mk hb; (try clear hb); (try clear hkp); (try clear hy0)) | (refine gl_ 49 Try.func14 #[.slice Ao21 t510.length co21, .int .i64 1] ?_; (with_reducible refine (laws_FnExactStepPairs.heldN kj13 _ _ t510.length t521m 1 t522 _ (Kd.S_reads' HO_7.out).1 ?side1 ?side2 A30.out).mono ?_); (case side1 => repeat (first | exact (Kd.S_reads' HO_7.out).2.2 | (with_reducible refine Kd.C_alloc ?_ _) | (with_reducible refine Kd.C_drewN ?_ _) | (with_reducible refine Kd.C_drew ?_))); (case side2 => rw [← (Kd.S_reads' HO_7.out).1]; exact (Kd.S_reads' HO_7.out).2.1); rintro e w' ⟨rfl, ⟨nd, rfl⟩⟩; refine ⟨_, rfl, ?_⟩) | (refine gl_ 56 Try.func8 #[.slice A0 l0.length c0] ?_; (with_reducible refine (laws_toIntS.calls kj13 _ _ l0 t523 _ ?side1 ?side2 A33.out).mono ?_); (case side1 => repeat (first | exact (Kd.C_below HR0.out (hb0_ HB.out)) | (with_reducible refine Kd.C_alloc ?_ _) | (with_reducible refine Kd.C_drewN ?_ _) | (with_reducible refine Kd.C_drew ?_))); (case side2 => exact HC0.out); rintro e w48 ⟨v524, rfl, ho0, hb⟩; refine ⟨_, rfl, ?_⟩; replace HO_5 := Aside0.mk (Kd.S_elder' (by (with_reducible repeat (first | apply Kd.S_alloc | apply Kd.S_drewN | apply Kd.S_drew)); exact HO_5.out) (Kd.R_base ho0) hb); replace HO_7 := Aside0.mk (Kd.S_elder' (by (with_reducible repeat (first | apply Kd.S_alloc | apply Kd.S_drewN | apply Kd.S_drew)); exact HO_7.out) (Kd.R_base ho0) hb); have HO525 := Aside0.mk (Kd.R_lower ho0 (below_size (hb0_ HB.out))); replace HB := HB.s0 hb; (try clear hb); (try clear ho0); obtain ⟨Ao49, co49, eo49⟩ := Kd.R_slice HO525.out; subst eo49) | (refine gl_ 58 Try.func9 #[.slice Ao49 t523.length co49, .int .i64 a1] ?_; (with_reducible refine (impl_StepPairs.calls kj13 _ _ t523 a1 t526 _ ?side1 ?side2 A34.out).mono ?_); (case side1 => repeat (first | exact (Kd.R_reads' HO525.out).2.2 | (with_reducible refine Kd.C_alloc ?_ _) | (with_reducible refine Kd.C_drewN ?_ _) | (with_reducible refine Kd.C_drew ?_))); (case side2 => exact (Kd.R_reads' HO525.out).2.1); rintro e w50 ⟨v527, rfl, ho0, hb⟩; refine ⟨_, rfl, ?_⟩; have n0_ := Aside0.mk (Kd.S_elder' (by (with_reducible repeat (first | apply Kd.S_alloc | apply Kd.S_drewN | apply Kd.S_drew)); exact HO_5.out) (Kd.S_base ho0) hb); have n1_ := Aside0.mk (Kd.S_elder' (by (with_reducible repeat (first | apply Kd.S_alloc | apply Kd.S_drewN | apply Kd.S_drew)); exact HO_7.out) (Kd.S_base ho0) hb); have n2_ := HO525.kb hb; have n3_ := Aside0.mk (Kd.S_lower (Kd.S_new' (Kd.S_new' (Kd.S_new' ho0 (Kd.S_lt (by (with_reducible repeat (first | apply Kd.S_alloc | apply Kd.S_drewN | apply Kd.S_drew)); exact HO_5.out))) (Kd.S_lt (by (with_reducible repeat (first | apply Kd.S_alloc | apply Kd.S_drewN | apply Kd.S_drew)); exact HO_7.out))) (Kd.R_lt (kr_ HO525.out))) (below_size (hb0_ HB.out))); have n4_ := HB.s0 hb; clear HO_5; clear HO_7; clear HO525; clear HB; have HO_5 := n0_; have HO_7 := n1_; have HO525 := n2_; have HO528 := n3_; have HB := n4_; clear n0_ n1_ n2_ n3_ n4_; (try clear hb); (try clear ho0); obtain ⟨Ao51, co51, eo51⟩ := Kd.S_slice HO528.out; subst eo51) | (refine gl_ 61 Try.func10 #[.slice Ao51 t526.length co51, .slice Ao22 t504.length co22] ?_; (with_reducible refine (laws_eqIntSS.calls kj13 _ _ t526 _ _ t504 true _ ?side1 ?side2 ?side3 ?side4 A35.out).mono ?_); (case side1 => repeat (first | exact (Kd.S_reads' HO528.out).2.2 | (with_reducible refine Kd.C_alloc ?_ _) | (with_reducible refine Kd.C_drewN ?_ _) | (with_reducible refine Kd.C_drew ?_))); (case side2 => exact (Kd.S_reads' HO528.out).2.1); (case side3 => repeat (first | exact (Kd.S_reads' HO_5.out).2.2 | (with_reducible refine Kd.C_alloc ?_ _) | (with_reducible refine Kd.C_drewN ?_ _) | (with_reducible refine Kd.C_drew ?_))); (case side4 => exact (Kd.S_reads' HO_5.out).2.1); rintro e w' ⟨rfl, ⟨nd, rfl⟩⟩; refine ⟨_, rfl, ?_⟩) | (refine gl_ 65 Try.func14 #[.slice Ao21 t510.length co21, .int .i64 1] ?_; (with_reducible refine (laws_FnExactStepPairs.heldN kj13 _ _ t510.length t521m 1 t530 _ (Kd.S_reads' HO_7.out).1 ?side1 ?side2 A37.out).mono ?_); (case side1 => repeat (first | exact (Kd.S_reads' HO_7.out).2.2 | (with_reducible refine Kd.C_alloc ?_ _) | (with_reducible refine Kd.C_drewN ?_ _) | (with_reducible refine Kd.C_drew ?_))); (case side2 => rw [← (Kd.S_reads' HO_7.out).1]; exact (Kd.S_reads' HO_7.out).2.1); rintro e w' ⟨rfl, ⟨nd, rfl⟩⟩; refine ⟨_, rfl, ?_⟩))
            go_ret
            exact ⟨ex_, hb0_ HB.out⟩
         ·replace c36 := Bool.eq_false_iff.mpr c36
          subst c36
          have H1 : (some false) = some r := by rw [if_neg (show ¬ (false = true) by decide)] at H; exact H
          clear H
          have H := H1
          clear H1
          obtain rfl := Option.some.inj H
          go_wp2_with ((with_reducible refine gw_ ?_); first | (refine gl_ 46 Try.func13 #[.slice Ao21 t510.length co21, .int .i64 1] ?_; (with_reducible refine (laws_markIntSS.calls kj13 (fun k_ => w17.heap.size ≤ k_) _ t510 1 t521 t521m w _ ?side1 ?side2 A29.out).mono ?_); (case side1 => exact hb0_ HB.out); (case side2 => exact Kd.S_mono HO_7.out (fun k_ hk_ => hk_.1)); rintro e w' ⟨rfl, hy0, hb, hkp⟩; refine ⟨_, rfl, ?_⟩; replace HO_5 := Aside0.mk (Kd.S_mono (Kd.S_keptB HO_5.out hkp (fun k_ hk_ hs_ => Nat.not_le.2 hk_.1 hs_)) (fun k_ hk_ => hk_.1)); replace HO_7 := Aside0.mk hy0; replace HB := Aside0.mk hb; (try clear hb); (try clear hkp); (try clear hy0)) | (refine gl_ 49 Try.func14 #[.slice Ao21 t510.length co21, .int .i64 1] ?_; (with_reducible refine (laws_FnExactStepPairs.heldN kj13 _ _ t510.length t521m 1 t522 _ (Kd.S_reads' HO_7.out).1 ?side1 ?side2 A30.out).mono ?_); (case side1 => repeat (first | exact (Kd.S_reads' HO_7.out).2.2 | (with_reducible refine Kd.C_alloc ?_ _) | (with_reducible refine Kd.C_drewN ?_ _) | (with_reducible refine Kd.C_drew ?_))); (case side2 => rw [← (Kd.S_reads' HO_7.out).1]; exact (Kd.S_reads' HO_7.out).2.1); rintro e w' ⟨rfl, ⟨nd, rfl⟩⟩; refine ⟨_, rfl, ?_⟩) | (refine gl_ 56 Try.func8 #[.slice A0 l0.length c0] ?_; (with_reducible refine (laws_toIntS.calls kj13 _ _ l0 t523 _ ?side1 ?side2 A33.out).mono ?_); (case side1 => repeat (first | exact (Kd.C_below HR0.out (hb0_ HB.out)) | (with_reducible refine Kd.C_alloc ?_ _) | (with_reducible refine Kd.C_drewN ?_ _) | (with_reducible refine Kd.C_drew ?_))); (case side2 => exact HC0.out); rintro e w52 ⟨v524, rfl, ho0, hb⟩; refine ⟨_, rfl, ?_⟩; replace HO_5 := Aside0.mk (Kd.S_elder' (by (with_reducible repeat (first | apply Kd.S_alloc | apply Kd.S_drewN | apply Kd.S_drew)); exact HO_5.out) (Kd.R_base ho0) hb); replace HO_7 := Aside0.mk (Kd.S_elder' (by (with_reducible repeat (first | apply Kd.S_alloc | apply Kd.S_drewN | apply Kd.S_drew)); exact HO_7.out) (Kd.R_base ho0) hb); have HO525 := Aside0.mk (Kd.R_lower ho0 (below_size (hb0_ HB.out))); replace HB := HB.s0 hb; (try clear hb); (try clear ho0); obtain ⟨Ao53, co53, eo53⟩ := Kd.R_slice HO525.out; subst eo53) | (refine gl_ 58 Try.func9 #[.slice Ao53 t523.length co53, .int .i64 a1] ?_; (with_reducible refine (impl_StepPairs.calls kj13 _ _ t523 a1 t526 _ ?side1 ?side2 A34.out).mono ?_); (case side1 => repeat (first | exact (Kd.R_reads' HO525.out).2.2 | (with_reducible refine Kd.C_alloc ?_ _) | (with_reducible refine Kd.C_drewN ?_ _) | (with_reducible refine Kd.C_drew ?_))); (case side2 => exact (Kd.R_reads' HO525.out).2.1); rintro e w54 ⟨v527, rfl, ho0, hb⟩; refine ⟨_, rfl, ?_⟩; have n0_ := Aside0.mk (Kd.S_elder' (by (with_reducible repeat (first | apply Kd.S_alloc | apply Kd.S_drewN | apply Kd.S_drew)); exact HO_5.out) (Kd.S_base ho0) hb); have n1_ := Aside0.mk (Kd.S_elder' (by (with_reducible repeat (first | apply Kd.S_alloc | apply Kd.S_drewN | apply Kd.S_drew)); exact HO_7.out) (Kd.S_base ho0) hb); have n2_ := HO525.kb hb; have n3_ := Aside0.mk (Kd.S_lower (Kd.S_new' (Kd.S_new' (Kd.S_new' ho0 (Kd.S_lt (by (with_reducible repeat (first | apply Kd.S_alloc | apply Kd.S_drewN | apply Kd.S_drew)); exact HO_5.out))) (Kd.S_lt (by (with_reducible repeat (first | apply Kd.S_alloc | apply Kd.S_drewN | apply Kd.S_drew)); exact HO_7.out))) (Kd.R_lt (kr_ HO525.out))) (below_size (hb0_ HB.out))); have n4_ := HB.s0 hb; clear HO_5; clear HO_7; clear HO525; clear HB; have HO_5 := n0_; have HO_7 := n1_; have HO525 := n2_; have HO528 := n3_; have HB := n4_; clear n0_ n1_ n2_ n3_ n4_; (try clear hb); (try clear ho0); obtain ⟨Ao55, co55, eo55⟩ := Kd.S_slice HO528.out; subst eo55) | (refine gl_ 61 Try.func10 #[.slice Ao55 t526.length co55, .slice Ao22 t504.length co22] ?_; (with_reducible refine (laws_eqIntSS.calls kj13 _ _ t526 _ _ t504 false _ ?side1 ?side2 ?side3 ?side4 A35.out).mono ?_); (case side1 => repeat (first | exact (Kd.S_reads' HO528.out).2.2 | (with_reducible refine Kd.C_alloc ?_ _) | (with_reducible refine Kd.C_drewN ?_ _) | (with_reducible refine Kd.C_drew ?_))); (case side2 => exact (Kd.S_reads' HO528.out).2.1); (case side3 => repeat (first | exact (Kd.S_reads' HO_5.out).2.2 | (with_reducible refine Kd.C_alloc ?_ _) | (with_reducible refine Kd.C_drewN ?_ _) | (with_reducible refine Kd.C_drew ?_))); (case side4 => exact (Kd.S_reads' HO_5.out).2.1); rintro e w' ⟨rfl, ⟨nd, rfl⟩⟩; refine ⟨_, rfl, ?_⟩))
          go_ret
          exact ⟨ex_, hb0_ HB.out⟩
        ·rw [if_neg c32] at H
         have c32b0 : (t522 == t521) = false := beq_eq_false_iff_ne.mpr c32
         have c32b1 : (t522 != t521) = true := bne_iff_ne.mpr c32
         obtain rfl := Option.some.inj H
         go_wp2_with ((with_reducible refine gw_ ?_); first | (refine gl_ 46 Try.func13 #[.slice Ao21 t510.length co21, .int .i64 1] ?_; (with_reducible refine (laws_markIntSS.calls kj13 (fun k_ => w17.heap.size ≤ k_) _ t510 1 t521 t521m w _ ?side1 ?side2 A29.out).mono ?_); (case side1 => exact hb0_ HB.out); (case side2 => exact Kd.S_mono HO_7.out (fun k_ hk_ => hk_.1)); rintro e w' ⟨rfl, hy0, hb, hkp⟩; refine ⟨_, rfl, ?_⟩; replace HO_5 := Aside0.mk (Kd.S_mono (Kd.S_keptB HO_5.out hkp (fun k_ hk_ hs_ => Nat.not_le.2 hk_.1 hs_)) (fun k_ hk_ => hk_.1)); replace HO_7 := Aside0.mk hy0; replace HB := Aside0.mk hb; (try clear hb); (try clear hkp); (try clear hy0)) | (refine gl_ 49 Try.func14 #[.slice Ao21 t510.length co21, .int .i64 1] ?_; (with_reducible refine (laws_FnExactStepPairs.heldN kj13 _ _ t510.length t521m 1 t522 _ (Kd.S_reads' HO_7.out).1 ?side1 ?side2 A30.out).mono ?_); (case side1 => repeat (first | exact (Kd.S_reads' HO_7.out).2.2 | (with_reducible refine Kd.C_alloc ?_ _) | (with_reducible refine Kd.C_drewN ?_ _) | (with_reducible refine Kd.C_drew ?_))); (case side2 => rw [← (Kd.S_reads' HO_7.out).1]; exact (Kd.S_reads' HO_7.out).2.1); rintro e w' ⟨rfl, ⟨nd, rfl⟩⟩; refine ⟨_, rfl, ?_⟩))
         go_ret
         exact ⟨ex_, hb0_ HB.out⟩
   ·replace c12 := Bool.eq_false_iff.mpr c12
    subst c12
    have H1 : (some false) = some r := by rw [if_neg (show ¬ (false = true) by decide)] at H; exact H
    clear H
    have H := H1
    clear H1
    obtain rfl := Option.some.inj H
    go_enter Try.func3, Try.ntmps3
    go_wp2_with ((with_reducible refine gw_ ?_); first | (refine gl_ 16 Try.func8 #[.slice A0 l0.length c0] ?_; (with_reducible refine (laws_toIntS.calls k _ _ l0 t501 _ ?side1 ?side2 A4.out).mono ?_); (case side1 => exact kc_ HR0.out); (case side2 => exact HC0.out); rintro e w56 ⟨v502, rfl, ho0, hb⟩; refine ⟨_, rfl, ?_⟩; have HO503 := Aside0.mk (Kd.R_lower ho0 (below_size (hb0_ HB.out))); replace HB := HB.s0 hb; (try clear hb); (try clear ho0); obtain ⟨Ao57, co57, eo57⟩ := Kd.R_slice HO503.out; subst eo57) | (refine gl_ 18 Try.func7 #[.slice Ao57 t501.length co57, .int .i64 a1] ?_; (with_reducible refine (spec_StepPairs.calls k _ _ t501 a1 t504 _ ?side1 ?side2 A5.out).mono ?_); (case side1 => repeat (first | exact (Kd.R_reads' HO503.out).2.2 | (with_reducible refine Kd.C_alloc ?_ _) | (with_reducible refine Kd.C_drewN ?_ _) | (with_reducible refine Kd.C_drew ?_))); (case side2 => exact (Kd.R_reads' HO503.out).2.1); rintro e w58 ⟨v505, rfl, ho0, hb⟩; refine ⟨_, rfl, ?_⟩; replace ho0 := Kd.S_mono (Kd.S_bound ho0) (ok' := fun k_ => k_ < w58.heap.size) (fun k_ hk_ => hk_.2.2.1); have HM := Aside0.mk (Nat.le_refl w58.heap.size); have HO506 := Aside0.mk (Kd.S_lower (Kd.S_new' ho0 (Kd.R_lt (kr_ HO503.out))) (below_size (hb0_ HB.out))); replace HO503 := HO503.kb hb; replace HB := HB.s0 hb; (try clear hb); (try clear ho0)) | (refine gl_ 20 Try.func8 #[.slice A0 l0.length c0] ?_; (with_reducible refine (laws_toIntS.calls k _ _ l0 t507 _ ?side1 ?side2 A6.out).mono ?_); (case side1 => repeat (first | exact (Kd.C_below HR0.out HB.out) | (with_reducible refine Kd.C_alloc ?_ _) | (with_reducible refine Kd.C_drewN ?_ _) | (with_reducible refine Kd.C_drew ?_))); (case side2 => exact HC0.out); rintro e w59 ⟨v508, rfl, ho0, hb⟩; refine ⟨_, rfl, ?_⟩; replace HM := Aside0.mk (Nat.le_trans HM.out hb.size); have n0_ := Aside0.mk (Kd.R_elder' (kr_ HO503.out) (Kd.R_base ho0) hb); have n1_ := Aside0.mk (Kd.S_elder' (by (with_reducible repeat (first | apply Kd.S_alloc | apply Kd.S_drewN | apply Kd.S_drew)); exact HO506.out) (Kd.R_base ho0) hb); have n2_ := Aside0.mk (Kd.R_lower (Kd.R_new' ho0 (Kd.R_lt (kr_ HO503.out))) (below_size (hb0_ HB.out))); have n3_ := HB.s0 hb; clear HO503; clear HO506; clear HB; have HO503 := n0_; have HO506 := n1_; have HO509 := n2_; have HB := n3_; clear n0_ n1_ n2_ n3_; (try clear hb); (try clear ho0); obtain ⟨Ao60, co60, eo60⟩ := Kd.R_slice HO509.out; subst eo60) | (refine gl_ 23 Try.func9 #[.slice Ao60 t507.length co60, .int .i64 a1] ?_; (with_reducible refine (impl_StepPairs.calls k _ _ t507 a1 t510 _ ?side1 ?side2 A7.out).mono ?_); (case side1 => repeat (first | exact (Kd.R_reads' HO509.out).2.2 | (with_reducible refine Kd.C_alloc ?_ _) | (with_reducible refine Kd.C_drewN ?_ _) | (with_reducible refine Kd.C_drew ?_))); (case side2 => exact (Kd.R_reads' HO509.out).2.1); rintro e w61 ⟨v511, rfl, ho0, hb⟩; refine ⟨_, rfl, ?_⟩; replace ho0 := Kd.S_mono (Kd.S_bound ho0) (ok' := fun k_ => w58.heap.size ≤ k_) (fun k_ hk_ => Nat.le_trans HM.out hk_.2.1); have n0_ := HO503.kb hb; have n1_ := Aside0.mk (Kd.S_elder' (by (with_reducible repeat (first | apply Kd.S_alloc | apply Kd.S_drewN | apply Kd.S_drew)); exact HO506.out) (Kd.S_base ho0) hb); have n2_ := HO509.kb hb; have n3_ := Aside0.mk (Kd.S_lower (Kd.S_new' (Kd.S_new' (Kd.S_new' ho0 (Kd.R_lt (kr_ HO503.out))) (Kd.S_lt (by (with_reducible repeat (first | apply Kd.S_alloc | apply Kd.S_drewN | apply Kd.S_drew)); exact HO506.out))) (Kd.R_lt (kr_ HO509.out))) (below_size (hb0_ HB.out))); have n4_ := HB.s0 hb; clear HO503; clear HO506; clear HO509; clear HB; have HO503 := n0_; have HO506 := n1_; have HO509 := n2_; have HO512 := n3_; have HB := n4_; clear n0_ n1_ n2_ n3_ n4_; (try clear hb); (try clear ho0); obtain ⟨Ao62, co62, eo62⟩ := Kd.S_slice HO512.out; subst eo62; obtain ⟨Ao63, co63, eo63⟩ := Kd.S_slice HO506.out; subst eo63) | (refine gl_ 26 Try.func10 #[.slice Ao62 t510.length co62, .slice Ao63 t504.length co63] ?_; (with_reducible refine (laws_eqIntSS.calls k _ _ t510 _ _ t504 true _ ?side1 ?side2 ?side3 ?side4 A8.out).mono ?_); (case side1 => repeat (first | exact (Kd.S_reads' HO512.out).2.2 | (with_reducible refine Kd.C_alloc ?_ _) | (with_reducible refine Kd.C_drewN ?_ _) | (with_reducible refine Kd.C_drew ?_))); (case side2 => exact (Kd.S_reads' HO512.out).2.1); (case side3 => repeat (first | exact (Kd.S_reads' HO506.out).2.2 | (with_reducible refine Kd.C_alloc ?_ _) | (with_reducible refine Kd.C_drewN ?_ _) | (with_reducible refine Kd.C_drew ?_))); (case side4 => exact (Kd.S_reads' HO506.out).2.1); rintro e w' ⟨rfl, ⟨nd, rfl⟩⟩; refine ⟨_, rfl, ?_⟩) | (refine gl_ 30 Try.func8 #[.slice A0 l0.length c0] ?_; (with_reducible refine (laws_toIntS.calls k _ _ l0 t514 _ ?side1 ?side2 A10.out).mono ?_); (case side1 => repeat (first | exact (Kd.C_below HR0.out (hb0_ HB.out)) | (with_reducible refine Kd.C_alloc ?_ _) | (with_reducible refine Kd.C_drewN ?_ _) | (with_reducible refine Kd.C_drew ?_))); (case side2 => exact HC0.out); rintro e w64 ⟨v515, rfl, ho0, hb⟩; refine ⟨_, rfl, ?_⟩; have n0_ := Aside0.mk (Kd.R_elder' (kr_ HO503.out) (Kd.R_base ho0) hb); have n1_ := Aside0.mk (Kd.S_elder' (by (with_reducible repeat (first | apply Kd.S_alloc | apply Kd.S_drewN | apply Kd.S_drew)); exact HO506.out) (Kd.R_base ho0) hb); have n2_ := Aside0.mk (Kd.R_elder' (kr_ HO509.out) (Kd.R_base ho0) hb); have n3_ := Aside0.mk (Kd.S_elder' (by (with_reducible repeat (first | apply Kd.S_alloc | apply Kd.S_drewN | apply Kd.S_drew)); exact HO512.out) (Kd.R_base ho0) hb); have n4_ := Aside0.mk (Kd.R_lower (Kd.R_new' (Kd.R_new' ho0 (Kd.R_lt (kr_ HO503.out))) (Kd.R_lt (kr_ HO509.out))) (below_size (hb0_ HB.out))); have n5_ := HB.s0 hb; clear HO503; clear HO506; clear HO509; clear HO512; clear HB; have HO503 := n0_; have HO506 := n1_; have HO509 := n2_; have HO512 := n3_; have HO516 := n4_; have HB := n5_; clear n0_ n1_ n2_ n3_ n4_ n5_; (try clear hb); (try clear ho0); obtain ⟨Ao65, co65, eo65⟩ := Kd.R_slice HO516.out; subst eo65) | (refine gl_ 31 Try.func11 #[.slice Ao60 t507.length co60, .slice Ao65 t514.length co65] ?_; (with_reducible refine (laws_eqIntS.calls k _ _ t507 _ _ t514 false _ ?side1 ?side2 ?side3 ?side4 A11.out).mono ?_); (case side1 => repeat (first | exact (Kd.R_reads' HO509.out).2.2 | (with_reducible refine Kd.C_alloc ?_ _) | (with_reducible refine Kd.C_drewN ?_ _) | (with_reducible refine Kd.C_drew ?_))); (case side2 => exact (Kd.R_reads' HO509.out).2.1); (case side3 => repeat (first | exact (Kd.R_reads' HO516.out).2.2 | (with_reducible refine Kd.C_alloc ?_ _) | (with_reducible refine Kd.C_drewN ?_ _) | (with_reducible refine Kd.C_drew ?_))); (case side4 => exact (Kd.R_reads' HO516.out).2.1); rintro e w' ⟨rfl, ⟨nd, rfl⟩⟩; refine ⟨_, rfl, ?_⟩))
    go_ret
    exact ⟨ex_, hb0_ HB.out⟩
  ·replace c9 := Bool.eq_false_iff.mpr c9
   subst c9
   have H1 : (some false) = some r := by rw [if_neg (show ¬ (false = true) by decide)] at H; exact H
   clear H
   have H := H1
   clear H1
   obtain rfl := Option.some.inj H
   go_enter Try.func3, Try.ntmps3
   go_wp2_with ((with_reducible refine gw_ ?_); first | (refine gl_ 16 Try.func8 #[.slice A0 l0.length c0] ?_; (with_reducible refine (laws_toIntS.calls k _ _ l0 t501 _ ?side1 ?side2 A4.out).mono ?_); (case side1 => exact kc_ HR0.out); (case side2 => exact HC0.out); rintro e w66 ⟨v502, rfl, ho0, hb⟩; refine ⟨_, rfl, ?_⟩; have HO503 := Aside0.mk (Kd.R_lower ho0 (below_size (hb0_ HB.out))); replace HB := HB.s0 hb; (try clear hb); (try clear ho0); obtain ⟨Ao67, co67, eo67⟩ := Kd.R_slice HO503.out; subst eo67) | (refine gl_ 18 Try.func7 #[.slice Ao67 t501.length co67, .int .i64 a1] ?_; (with_reducible refine (spec_StepPairs.calls k _ _ t501 a1 t504 _ ?side1 ?side2 A5.out).mono ?_); (case side1 => repeat (first | exact (Kd.R_reads' HO503.out).2.2 | (with_reducible refine Kd.C_alloc ?_ _) | (with_reducible refine Kd.C_drewN ?_ _) | (with_reducible refine Kd.C_drew ?_))); (case side2 => exact (Kd.R_reads' HO503.out).2.1); rintro e w68 ⟨v505, rfl, ho0, hb⟩; refine ⟨_, rfl, ?_⟩; replace ho0 := Kd.S_mono (Kd.S_bound ho0) (ok' := fun k_ => k_ < w68.heap.size) (fun k_ hk_ => hk_.2.2.1); have HM := Aside0.mk (Nat.le_refl w68.heap.size); have HO506 := Aside0.mk (Kd.S_lower (Kd.S_new' ho0 (Kd.R_lt (kr_ HO503.out))) (below_size (hb0_ HB.out))); replace HO503 := HO503.kb hb; replace HB := HB.s0 hb; (try clear hb); (try clear ho0)) | (refine gl_ 20 Try.func8 #[.slice A0 l0.length c0] ?_; (with_reducible refine (laws_toIntS.calls k _ _ l0 t507 _ ?side1 ?side2 A6.out).mono ?_); (case side1 => repeat (first | exact (Kd.C_below HR0.out HB.out) | (with_reducible refine Kd.C_alloc ?_ _) | (with_reducible refine Kd.C_drewN ?_ _) | (with_reducible refine Kd.C_drew ?_))); (case side2 => exact HC0.out); rintro e w69 ⟨v508, rfl, ho0, hb⟩; refine ⟨_, rfl, ?_⟩; replace HM := Aside0.mk (Nat.le_trans HM.out hb.size); have n0_ := Aside0.mk (Kd.R_elder' (kr_ HO503.out) (Kd.R_base ho0) hb); have n1_ := Aside0.mk (Kd.S_elder' (by (with_reducible repeat (first | apply Kd.S_alloc | apply Kd.S_drewN | apply Kd.S_drew)); exact HO506.out) (Kd.R_base ho0) hb); have n2_ := Aside0.mk (Kd.R_lower (Kd.R_new' ho0 (Kd.R_lt (kr_ HO503.out))) (below_size (hb0_ HB.out))); have n3_ := HB.s0 hb; clear HO503; clear HO506; clear HB; have HO503 := n0_; have HO506 := n1_; have HO509 := n2_; have HB := n3_; clear n0_ n1_ n2_ n3_; (try clear hb); (try clear ho0); obtain ⟨Ao70, co70, eo70⟩ := Kd.R_slice HO509.out; subst eo70) | (refine gl_ 23 Try.func9 #[.slice Ao70 t507.length co70, .int .i64 a1] ?_; (with_reducible refine (impl_StepPairs.calls k _ _ t507 a1 t510 _ ?side1 ?side2 A7.out).mono ?_); (case side1 => repeat (first | exact (Kd.R_reads' HO509.out).2.2 | (with_reducible refine Kd.C_alloc ?_ _) | (with_reducible refine Kd.C_drewN ?_ _) | (with_reducible refine Kd.C_drew ?_))); (case side2 => exact (Kd.R_reads' HO509.out).2.1); rintro e w71 ⟨v511, rfl, ho0, hb⟩; refine ⟨_, rfl, ?_⟩; replace ho0 := Kd.S_mono (Kd.S_bound ho0) (ok' := fun k_ => w68.heap.size ≤ k_) (fun k_ hk_ => Nat.le_trans HM.out hk_.2.1); have n0_ := HO503.kb hb; have n1_ := Aside0.mk (Kd.S_elder' (by (with_reducible repeat (first | apply Kd.S_alloc | apply Kd.S_drewN | apply Kd.S_drew)); exact HO506.out) (Kd.S_base ho0) hb); have n2_ := HO509.kb hb; have n3_ := Aside0.mk (Kd.S_lower (Kd.S_new' (Kd.S_new' (Kd.S_new' ho0 (Kd.R_lt (kr_ HO503.out))) (Kd.S_lt (by (with_reducible repeat (first | apply Kd.S_alloc | apply Kd.S_drewN | apply Kd.S_drew)); exact HO506.out))) (Kd.R_lt (kr_ HO509.out))) (below_size (hb0_ HB.out))); have n4_ := HB.s0 hb; clear HO503; clear HO506; clear HO509; clear HB; have HO503 := n0_; have HO506 := n1_; have HO509 := n2_; have HO512 := n3_; have HB := n4_; clear n0_ n1_ n2_ n3_ n4_; (try clear hb); (try clear ho0); obtain ⟨Ao72, co72, eo72⟩ := Kd.S_slice HO512.out; subst eo72; obtain ⟨Ao73, co73, eo73⟩ := Kd.S_slice HO506.out; subst eo73) | (refine gl_ 26 Try.func10 #[.slice Ao72 t510.length co72, .slice Ao73 t504.length co73] ?_; (with_reducible refine (laws_eqIntSS.calls k _ _ t510 _ _ t504 false _ ?side1 ?side2 ?side3 ?side4 A8.out).mono ?_); (case side1 => repeat (first | exact (Kd.S_reads' HO512.out).2.2 | (with_reducible refine Kd.C_alloc ?_ _) | (with_reducible refine Kd.C_drewN ?_ _) | (with_reducible refine Kd.C_drew ?_))); (case side2 => exact (Kd.S_reads' HO512.out).2.1); (case side3 => repeat (first | exact (Kd.S_reads' HO506.out).2.2 | (with_reducible refine Kd.C_alloc ?_ _) | (with_reducible refine Kd.C_drewN ?_ _) | (with_reducible refine Kd.C_drew ?_))); (case side4 => exact (Kd.S_reads' HO506.out).2.1); rintro e w' ⟨rfl, ⟨nd, rfl⟩⟩; refine ⟨_, rfl, ?_⟩))
   go_ret
   exact ⟨ex_, hb0_ HB.out⟩

/-- THE ONE PURE STATEMENT of laws_FnExactStepPairs: yours. -/
def laws_FnExactStepPairs.Pure : Prop := ∀ (l0 : List Int) (a1 : Int), l0.length ≤ maxLen → l0.length * 8 ≤ 140737488351232 → (∀ x ∈ l0, (Lit.int .i64 x).wf = true) → (Lit.int .i64 a1).wf = true → ∃ k, laws_FnExactStepPairs.f k l0 a1 = some true
theorem laws_FnExactStepPairs.walk (P : laws_FnExactStepPairs.Pure) (a0 : Option Addr) (len0 cap0 : Nat) (z0 : List Int) (a1 : Int) (w : World) (w0 : (a0 = none ∧ len0 = 0 ∧ cap0 = 0 ∧ z0 = []) ∨ ∃ x, a0 = some x ∧ len0 ≤ cap0 ∧ cap0 ≤ maxLen ∧ z0.length = cap0 ∧ (∀ i, i < z0.length → w.cell? (x.add i) = some (.int .i64 (z0.getD i 0))) ∧ ∀ n ∈ z0, (Lit.int .i64 n).wf = true) (y0 : len0 * 8 ≤ 140737488351232) (w1 : (Lit.int .i64 a1).wf = true) :
  Calls Try.prog 3 #[.slice a0 len0 cap0, .int .i64 a1] w fun e w' => e = .returned (.bool true) ∧ Below w.heap.size w w' := by
 obtain ⟨l0, rfl, hr0, hm0, hw0, hc0⟩ := ReadsInt.ofRowC w0
 obtain ⟨k, h⟩ := P l0 a1 hm0 y0 hw0 w1
 refine (laws_FnExactStepPairs.calls k _ _ l0 a1 true w (Kd.C_of_reads (d := (0 : Int)) (h1 := fun _ => rfl) hr0) hc0 h).mono ?_
 rintro e w' ⟨rfl, hd⟩
 exact ⟨rfl, hd⟩

end Go.Proofs.Ytkkjlbpffcdlfaa.X
