-- Written by a program of this session (xprint.py), out of the translation and of hand-written contracts. Lean checks it.
import Derived.Test.YtkkjlbpffcdlfaaX0
import Derived.Test.YtkkjlbpffcdlfaaXcgrid
import Derived.Test.YtkkjlbpffcdlfaaXspecAllArches
import Derived.Test.YtkkjlbpffcdlfaaXspecIsMeander
namespace Go.Proofs.Ytkkjlbpffcdlfaa.X
open Go.RowKit Go.Proofs.YtkkjlbpffcdlfaaW.PrintWords Go.Proofs.YtkkjlbpffcdlfaaW.PrintLast Go.Proofs.YtkkjlbpffcdlfaaW.PrintMore
attribute [local go_sem] max2_int min2_int max_two min_two max_three min_three max_four min_four   -- for this text's walks alone
set_option linter.unusedVariables false
set_option linter.unusedSimpArgs false

/-! ### spec_CountMeanders: function 17 -/
mutual
def spec_CountMeanders.l0 : Nat → List (List Int) → Int → Int → Option (Int)
 | 0, _, _, _ => none
 | k + 1, x3, x4, x5 => if x5 < (x3.length : Int) then (spec_CountMeanders.l1 k x3 x4 x5 0) else (some x4)
def spec_CountMeanders.l1 : Nat → List (List Int) → Int → Int → Int → Option (Int)
 | 0, _, _, _, _ => none
 | k + 1, x3, x4, x5, x6 => if x6 < (x3.length : Int) then (if 0 ≤ x5 then (if x5 < (x3.length : Int) then (if 0 ≤ x6 then ((spec_IsMeander.f k (rd_L1 x3 x5) (rd_L1 x3 x6)).bind fun t507 => (if t507 = true then (spec_CountMeanders.l1 k x3 (wrap64 (x4 + 1)) x5 (wrap64 (x6 + 1))) else (spec_CountMeanders.l1 k x3 x4 x5 (wrap64 (x6 + 1))))) else (none)) else (none)) else (none)) else (spec_CountMeanders.l0 k x3 x4 (wrap64 (x5 + 1)))
end
def spec_CountMeanders.f (k : Nat) (a0 : Int) : Option (Int) := (spec_l01In.f a0 1 4).bind fun t501 => (if t501 = true then ((spec_AllArches.f k a0).bind fun t502 => (spec_CountMeanders.l0 k t502 0 0)) else (some 0))
theorem spec_CountMeanders.mono_l : ∀ k, (∀ y0 y1 y2, LeO (spec_CountMeanders.l0 k y0 y1 y2) (spec_CountMeanders.l0 (k + 1) y0 y1 y2)) ∧ (∀ y0 y1 y2 y3, LeO (spec_CountMeanders.l1 k y0 y1 y2 y3) (spec_CountMeanders.l1 (k + 1) y0 y1 y2 y3))
 | 0 => ⟨fun _ _ _ r h => by simp [spec_CountMeanders.l0] at h, fun _ _ _ _ r h => by simp [spec_CountMeanders.l1] at h⟩
 | k + 1 => by
  obtain ⟨ih0, ih1⟩ := spec_CountMeanders.mono_l k
  refine ⟨?_, ?_⟩
  ·intro y0 y1 y2
   unfold spec_CountMeanders.l0
   repeat' first
   | (with_reducible exact ih0 ..)
   | (with_reducible exact ih1 ..)
   | (with_reducible exact spec_AllArches.mono ..)
   | (with_reducible exact spec_IsMeander.mono ..)
   | (with_reducible first | exact lr_ _ | exact ln_ _ | refine li_ ?_ ?_ | refine lb_ ?_ fun _ => ?_)
   | exact ih0 ..
   | exact ih1 ..
   | exact spec_AllArches.mono ..
   | exact spec_IsMeander.mono ..
   | exact ln_ _ | refine li_ ?_ ?_ | refine lb_ ?_ fun _ => ?_
  ·intro y0 y1 y2 y3
   unfold spec_CountMeanders.l1
   repeat' first
   | (with_reducible exact ih0 ..)
   | (with_reducible exact ih1 ..)
   | (with_reducible exact spec_AllArches.mono ..)
   | (with_reducible exact spec_IsMeander.mono ..)
   | (with_reducible first | exact lr_ _ | exact ln_ _ | refine li_ ?_ ?_ | refine lb_ ?_ fun _ => ?_)
   | exact ih0 ..
   | exact ih1 ..
   | exact spec_AllArches.mono ..
   | exact spec_IsMeander.mono ..
   | exact ln_ _ | refine li_ ?_ ?_ | refine lb_ ?_ fun _ => ?_
theorem spec_CountMeanders.mono : ∀ a0 k, LeO (spec_CountMeanders.f k a0) (spec_CountMeanders.f (k + 1) a0) := by
 intro a0 k
 obtain ⟨ih0, ih1⟩ := spec_CountMeanders.mono_l k
 unfold spec_CountMeanders.f
 repeat' first
   | (with_reducible exact ih0 ..)
   | (with_reducible exact ih1 ..)
   | (with_reducible exact spec_AllArches.mono ..)
   | (with_reducible exact spec_IsMeander.mono ..)
   | (with_reducible first | exact lr_ _ | exact ln_ _ | refine li_ ?_ ?_ | refine lb_ ?_ fun _ => ?_)
   | exact ih0 ..
   | exact ih1 ..
   | exact spec_AllArches.mono ..
   | exact spec_IsMeander.mono ..
   | exact ln_ _ | refine li_ ?_ ?_ | refine lb_ ?_ fun _ => ?_
def spec_CountMeanders.T11 : Bool × List (List Nat × List Nat) := (true, [([], []), ([], []), ([0, 1], [0, 1]), ([2], [2]), ([], []), ([], []), ([4, 5], [4, 5]), ([6], [6]), ([3, 7], [3, 7])])
def spec_CountMeanders.B11 : List Nat := [0, 0, 3, 7, 0, 0, 48, 112, 255]
theorem spec_CountMeanders.tab11 : rtab .any (opsOf Try.f17 11) = spec_CountMeanders.T11 := by kernel_rfl
theorem spec_CountMeanders.bits11 : waitsOk spec_CountMeanders.T11.2 spec_CountMeanders.B11 = true := by kernel_rfl
set_option maxHeartbeats 8000000 in
set_option maxRecDepth 100000 in
theorem spec_CountMeanders.calls (k : Nat) (a0 : Int) (r : Int) (w : World) (h : spec_CountMeanders.f k a0 = some r) :
  Calls Try.prog 17 #[.int .i64 a0] w fun e w' => e = .returned (.int .i64 r) ∧ Below w.heap.size w w' := by
 have HB := Aside0.mk (Below.refl w.heap.size w)
 have H : ((spec_l01In.f a0 1 4).bind fun t501 => (if t501 = true then ((spec_AllArches.f k a0).bind fun t502 => (spec_CountMeanders.l0 k t502 0 0)) else (some 0))) = some r := h
 clear h
 replace H := Option.bind_eq_some_iff.mp H
 obtain ⟨t501, A20, H⟩ := H
 replace H : (if t501 = true then ((spec_AllArches.f k a0).bind fun t502 => (spec_CountMeanders.l0 k t502 0 0)) else (some 0)) = some r := H
 have A2 := Aside0.mk A20
 clear A20
 by_cases c3 : t501 = true
 ·subst c3
  have H1 : ((spec_AllArches.f k a0).bind fun t502 => (spec_CountMeanders.l0 k t502 0 0)) = some r := by rw [if_pos rfl] at H; exact H
  clear H
  have H := H1
  clear H1
  replace H := Option.bind_eq_some_iff.mp H
  obtain ⟨t502, A40, H⟩ := H
  replace H : (spec_CountMeanders.l0 k t502 0 0) = some r := H
  have A4 := Aside0.mk A40
  clear A40
  have H' := Aside0.mk H
  clear H
  go_enter Try.func17, Try.ntmps17
  go_wp2_with (first | (refine gl_ 8 Try.func28 #[.int .i64 a0, .int .i64 1, .int .i64 4] ?_; (with_reducible refine (spec_l01In.calls a0 1 4 true _ A2.out).mono ?_); rintro e w' ⟨rfl, ⟨nd, rfl⟩⟩; refine ⟨_, rfl, ?_⟩) | (refine gl_ 11 Try.func15 #[.int .i64 a0] ?_; (with_reducible refine (spec_AllArches.calls k a0 t502 _ A4.out).mono ?_); rintro e w5 ⟨v503, rfl, ho0, hb⟩; refine ⟨_, rfl, ?_⟩; have HO504 := Aside0.mk (Kd.N_lower (Kd.N_mono (ok' := fun k_ => True) ho0 (fun k_ hk_ => trivial)) (below_size (hb0_ HB.out))); replace HB := HB.s0 hb; (try clear hb); (try clear ho0)))
  go_loopg [4, 5] k (fun kq v4 v5 w' => ∃ (x4_1 : Int) (x5_1 : Int), v4 = .int .i64 x4_1 ∧ v5 = .int .i64 x5_1 ∧ Aside0 (spec_CountMeanders.l0 kq t502 x4_1 x5_1 = some r) ∧ Aside0 (kq ≤ k) ∧ Aside0 (Kd.N (Kd.slice 3 (Kd.int .i64)) 22 w' w.heap.size (fun _ => True) v503 t502) ∧ Aside0 (Below w.heap.size w w'))
  case atStart => exact ⟨(0), (0), (by first | rfl | (simp; done) | (simp [*]; done)), (by first | rfl | (simp; done) | (simp [*]; done)), H', ⟨Nat.le_refl _⟩, ⟨by (with_reducible repeat (first | apply Kd.N_alloc | apply Kd.N_drewN | apply Kd.N_drew)); exact HO504.out⟩, ⟨hb0_ HB.out⟩⟩
  case round =>
   clear H'
   try clear c1
   try clear c2
   try clear p2
   try clear c3
   obtain ⟨x4_1, x5_1, rfl, rfl, HA, HK1, HO_3, HB⟩ := hrel
   cases gk with
   | zero => exact absurd HA.out (by simp [spec_CountMeanders.l0])
   | succ k1 =>
    have H := HA.out
    clear HA
    simp only [spec_CountMeanders.l0] at H
    by_cases c6 : x5_1 < (t502.length : Int)
    ·rw [if_pos c6] at H
     have c6b0 : decide (x5_1 < (t502.length : Int)) = true := decide_eq_true c6
     clear c6
     have H' := Aside0.mk H
     clear H
     obtain ⟨Ao7, co7, eo7⟩ := Kd.N_slice HO_3.out
     subst eo7
     go_wp2
     go_loopg [4, 6] k1 (fun kq v4 v6 w' => ∃ (x4_2 : Int) (x6_2 : Int), v4 = .int .i64 x4_2 ∧ v6 = .int .i64 x6_2 ∧ Aside0 (spec_CountMeanders.l1 kq t502 x4_2 x5_1 x6_2 = some r) ∧ Aside0 (kq ≤ k1) ∧ Aside0 (Kd.N (Kd.slice 3 (Kd.int .i64)) 22 w' w.heap.size (fun _ => True) (.slice Ao7 t502.length co7) t502) ∧ Aside0 (Below w.heap.size w w'))
     case atStart => exact ⟨(x4_1), (0), (by first | rfl | (simp; done) | (simp [*]; done)), (by first | rfl | (simp; done) | (simp [*]; done)), H', ⟨Nat.le_refl _⟩, ⟨by (with_reducible repeat (first | apply Kd.N_alloc | apply Kd.N_drewN | apply Kd.N_drew)); exact HO_3.out⟩, ⟨hb0_ HB.out⟩⟩
     case round =>
      clear H'
      try clear c1
      try clear c2
      try clear p2
      try clear c3
      try clear c6
      try clear c6b0
      try clear p2
      obtain ⟨x4_2, x6_2, rfl, rfl, HA, HK2, HO_3, HB⟩ := hrel
      cases gk with
      | zero => exact absurd HA.out (by simp [spec_CountMeanders.l1])
      | succ k2 =>
       have H := HA.out
       clear HA
       simp only [spec_CountMeanders.l1] at H
       by_cases c8 : x6_2 < (t502.length : Int)
       ·rw [if_pos c8] at H
        have c8b0 : decide (x6_2 < (t502.length : Int)) = true := decide_eq_true c8
        clear c8
        by_cases c9 : 0 ≤ x5_1
        ·rw [if_pos c9] at H
         have c9b0 : decide (0 ≤ x5_1) = true := decide_eq_true c9
         clear c9
         by_cases c10 : x5_1 < (t502.length : Int)
         ·rw [if_pos c10] at H
          have c10b0 : decide (x5_1 < (t502.length : Int)) = true := decide_eq_true c10
          clear c10
          by_cases c11 : 0 ≤ x6_2
          ·rw [if_pos c11] at H
           have c11b0 : decide (0 ≤ x6_2) = true := decide_eq_true c11
           clear c11
           replace H := Option.bind_eq_some_iff.mp H
           obtain ⟨t507, A120, H⟩ := H
           replace H : (if t507 = true then (spec_CountMeanders.l1 k2 t502 (wrap64 (x4_2 + 1)) x5_1 (wrap64 (x6_2 + 1))) else (spec_CountMeanders.l1 k2 t502 x4_2 x5_1 (wrap64 (x6_2 + 1)))) = some r := H
           have A12 := Aside0.mk A120
           clear A120
           by_cases c13 : t507 = true
           ·subst c13
            have H1 : (spec_CountMeanders.l1 k2 t502 (wrap64 (x4_2 + 1)) x5_1 (wrap64 (x6_2 + 1))) = some r := by rw [if_pos rfl] at H; exact H
            clear H
            have H := H1
            clear H1
            have H' := Aside0.mk H
            clear H
            try go_wp2
            replace HO_3 := Aside0.mk (Kd.N_drew HO_3.out)
            replace HB := Aside0.mk (below_drew1 HB.out)
            have p505 : 0 ≤ (x5_1 : Int) := of_decide_eq_true (as_)
            have q505 : x5_1 < (t502.length : Int) := of_decide_eq_true (as_)
            obtain ⟨ad505, A505_0, c505_0, e505, hx505_0, hl505_0, hi505_0⟩ := at_L1 (Kd.N_reads' HO_3.out).2.2 x5_1 p505 q505
            cases e505
            obtain ⟨ce505, hce505, hMe505, hcc505⟩ := Kd.N_get HO_3.out [] x5_1 p505 (by first | exact q505 | exact of_decide_eq_true (as_) | (have e_ := (Kd.N_reads' HO_3.out).1; omega))
            obtain ⟨ua505_0, uc505_0, rfl, ul505_0, ge505_0⟩ := Kd.FK_slice_open hMe505
            have hv505_0 := hcc505 0 _ rfl
            rw [Nat.add_zero, show ((Kd.slice 3 (Kd.int .i64))).sz = 1 from rfl, Nat.mul_one] at hv505_0
            replace hv505_0 := Option.some.inj (hv505_0.symm.trans hx505_0)
            injection hv505_0 with hva_ hvn_ hvc_
            rw [hva_] at ge505_0
            rw [hvc_] at ul505_0
            have HL505_0 := Aside0.mk (show Kd.V (Kd.int .i64) 3 _ w.heap.size _ _ (rd_L1 t502 x5_1) from Kd.V_mk ul505_0 ge505_0)
            clear hva_ hvn_ hvc_ ge505_0 ul505_0
            clear hcc505 hce505
            have HR505_0 := Aside0.mk hi505_0
            have HC505_0 := Aside0.mk hl505_0
            clear hi505_0 hl505_0
            replace p505 := eq_true p505
            replace q505 := eq_true q505
            have p506 : 0 ≤ (x6_2 : Int) := of_decide_eq_true (as_)
            have q506 : x6_2 < (t502.length : Int) := of_decide_eq_true (as_)
            obtain ⟨ad506, A506_0, c506_0, e506, hx506_0, hl506_0, hi506_0⟩ := at_L1 (Kd.N_reads' HO_3.out).2.2 x6_2 p506 q506
            obtain rfl : ad505 = ad506 := (by injection e506)
            obtain ⟨ce506, hce506, hMe506, hcc506⟩ := Kd.N_get HO_3.out [] x6_2 p506 (by first | exact q506 | exact of_decide_eq_true (as_) | (have e_ := (Kd.N_reads' HO_3.out).1; omega))
            obtain ⟨ua506_0, uc506_0, rfl, ul506_0, ge506_0⟩ := Kd.FK_slice_open hMe506
            have hv506_0 := hcc506 0 _ rfl
            rw [Nat.add_zero, show ((Kd.slice 3 (Kd.int .i64))).sz = 1 from rfl, Nat.mul_one] at hv506_0
            replace hv506_0 := Option.some.inj (hv506_0.symm.trans hx506_0)
            injection hv506_0 with hva_ hvn_ hvc_
            rw [hva_] at ge506_0
            rw [hvc_] at ul506_0
            have HL506_0 := Aside0.mk (show Kd.V (Kd.int .i64) 3 _ w.heap.size _ _ (rd_L1 t502 x6_2) from Kd.V_mk ul506_0 ge506_0)
            clear hva_ hvn_ hvc_ ge506_0 ul506_0
            clear hcc506 hce506
            have HR506_0 := Aside0.mk hi506_0
            have HC506_0 := Aside0.mk hl506_0
            clear hi506_0 hl506_0
            replace p506 := eq_true p506
            replace q506 := eq_true q506
            refine start_ (n := 9) (S := fun w' => w'.cell? (ad505.add (x5_1).toNat) = some (.slice A505_0 (rd_L1 t502 x5_1).length c505_0) ∧ w'.cell? (ad505.add (x6_2).toNat) = some (.slice A506_0 (rd_L1 t502 x6_2).length c506_0)) (ds := []) #[false, false, false, false, false, false, false, false, false] (by kernel_rfl) rfl rfl ⟨hx505_0, hx506_0⟩ (fun hHeld => ?_); refine with_tabW spec_CountMeanders.tab11 spec_CountMeanders.bits11 (fun HT_ HW_ => ?_)
            generalize wr.drew = w14 at HO_3 HB HL505_0 HL506_0 HR505_0 HR506_0 hx505_0 hx506_0 hHeld ⊢
            refine pv_ (i := 0) (N := some 24) HT_.out ?_
            refine pv_ (i := 1) (N := some 25) HT_.out ?_
            refine pv_ (i := 2) (N := some 26) HT_.out ?_
            refine pv_ (i := 4) (N := some 28) HT_.out ?_
            refine pv_ (i := 5) (N := some 29) HT_.out ?_
            refine pv_ (i := 6) (N := some 30) HT_.out ?_
            refine tv2_ (i := 3) (N := some 27) HT_.out HW_.out hHeld ?_
            refine tv2_ (i := 7) (N := some 31) HT_.out HW_.out hHeld ?_
            refine ov_ (i := 8) (N := some 32) HT_.out (fun K hK => ?_)
            refine gq_ Try.func35 #[.slice A505_0 (rd_L1 t502 x5_1).length c505_0, .slice A506_0 (rd_L1 t502 x6_2).length c506_0] ?_
            with_reducible refine (spec_IsMeander.calls k2 _ _ (rd_L1 t502 x5_1) _ _ (rd_L1 t502 x6_2) true _ ?side1 ?side2 ?side3 ?side4 A12.out).mono ?_
            (case side1 => repeat (first | exact (by repeat (first | (with_reducible exact HR505_0.out) | (with_reducible refine Kd.C_alloc ?_ _) | (with_reducible refine Kd.C_drewN ?_ _) | (with_reducible refine Kd.C_drew ?_) | exact HR505_0.out)) | (with_reducible refine Kd.C_alloc ?_ _) | (with_reducible refine Kd.C_drewN ?_ _) | (with_reducible refine Kd.C_drew ?_)))
            (case side2 => exact HC505_0.out)
            (case side3 => repeat (first | exact (by repeat (first | (with_reducible exact HR506_0.out) | (with_reducible refine Kd.C_alloc ?_ _) | (with_reducible refine Kd.C_drewN ?_ _) | (with_reducible refine Kd.C_drew ?_) | exact HR506_0.out)) | (with_reducible refine Kd.C_alloc ?_ _) | (with_reducible refine Kd.C_drewN ?_ _) | (with_reducible refine Kd.C_drew ?_)))
            (case side4 => exact HC506_0.out)
            rintro e w15 ⟨rfl, hb⟩
            have HS0_ := (hb.cell (World.block_lt_of_cell? _ _ (hHeld.1))).trans (hHeld.1)
            have HS1_ := (hb.cell (World.block_lt_of_cell? _ _ (hHeld.2))).trans (hHeld.2)
            refine ⟨_, rfl, ?_⟩
            replace HO_3 := Aside0.mk (Kd.N_below (by (with_reducible repeat (first | apply Kd.N_alloc | apply Kd.N_drewN | apply Kd.N_drew)); exact HO_3.out) hb)
            replace HL505_0 := Aside0.mk (Kd.V_below (by (with_reducible repeat (first | apply Kd.V_alloc | apply Kd.V_drewN | apply Kd.V_drew)); exact HL505_0.out) hb)
            replace HL506_0 := Aside0.mk (Kd.V_below (by (with_reducible repeat (first | apply Kd.V_alloc | apply Kd.V_drewN | apply Kd.V_drew)); exact HL506_0.out) hb)
            replace HR505_0 := Aside0.mk (Kd.C_below (by repeat (first | (with_reducible exact HR505_0.out) | (with_reducible refine Kd.C_alloc ?_ _) | (with_reducible refine Kd.C_drewN ?_ _) | (with_reducible refine Kd.C_drew ?_) | exact HR505_0.out)) hb)
            replace HR506_0 := Aside0.mk (Kd.C_below (by repeat (first | (with_reducible exact HR506_0.out) | (with_reducible refine Kd.C_alloc ?_ _) | (with_reducible refine Kd.C_drewN ?_ _) | (with_reducible refine Kd.C_drew ?_) | exact HR506_0.out)) hb)
            replace HB := HB.s0 hb
            skip
            (try clear hb2)
            (try clear hk)
            (try clear hi)
            refine hK.out _ _ ⟨HS0_, HS1_⟩ (fun hHeld => ?_)
            clear hK K
            refine nm_ ?_
            refine done_ (done_of HT_.out (by kernel_rfl)) ?_
            try go_wp2
            go_roundg k2
            case measure => have := HK1.out; have := HK2.out; omega
            case rel => exact ⟨(wrap64 (x4_2 + 1)), (wrap64 (x6_2 + 1)), (by first | rfl | (simp; done) | (simp [*]; done)), (by first | rfl | (simp; done) | (simp [*]; done)), H', ⟨by have := HK1.out; have := HK2.out; omega⟩, ⟨by (with_reducible repeat (first | apply Kd.N_alloc | apply Kd.N_drewN | apply Kd.N_drew)); exact HO_3.out⟩, ⟨hb0_ HB.out⟩⟩
           ·replace c13 := Bool.eq_false_iff.mpr c13
            subst c13
            have H1 : (spec_CountMeanders.l1 k2 t502 x4_2 x5_1 (wrap64 (x6_2 + 1))) = some r := by rw [if_neg (show ¬ (false = true) by decide)] at H; exact H
            clear H
            have H := H1
            clear H1
            have H' := Aside0.mk H
            clear H
            try go_wp2
            replace HO_3 := Aside0.mk (Kd.N_drew HO_3.out)
            replace HB := Aside0.mk (below_drew1 HB.out)
            have p505 : 0 ≤ (x5_1 : Int) := of_decide_eq_true (as_)
            have q505 : x5_1 < (t502.length : Int) := of_decide_eq_true (as_)
            obtain ⟨ad505, A505_0, c505_0, e505, hx505_0, hl505_0, hi505_0⟩ := at_L1 (Kd.N_reads' HO_3.out).2.2 x5_1 p505 q505
            cases e505
            obtain ⟨ce505, hce505, hMe505, hcc505⟩ := Kd.N_get HO_3.out [] x5_1 p505 (by first | exact q505 | exact of_decide_eq_true (as_) | (have e_ := (Kd.N_reads' HO_3.out).1; omega))
            obtain ⟨ua505_0, uc505_0, rfl, ul505_0, ge505_0⟩ := Kd.FK_slice_open hMe505
            have hv505_0 := hcc505 0 _ rfl
            rw [Nat.add_zero, show ((Kd.slice 3 (Kd.int .i64))).sz = 1 from rfl, Nat.mul_one] at hv505_0
            replace hv505_0 := Option.some.inj (hv505_0.symm.trans hx505_0)
            injection hv505_0 with hva_ hvn_ hvc_
            rw [hva_] at ge505_0
            rw [hvc_] at ul505_0
            have HL505_0 := Aside0.mk (show Kd.V (Kd.int .i64) 3 _ w.heap.size _ _ (rd_L1 t502 x5_1) from Kd.V_mk ul505_0 ge505_0)
            clear hva_ hvn_ hvc_ ge505_0 ul505_0
            clear hcc505 hce505
            have HR505_0 := Aside0.mk hi505_0
            have HC505_0 := Aside0.mk hl505_0
            clear hi505_0 hl505_0
            replace p505 := eq_true p505
            replace q505 := eq_true q505
            have p506 : 0 ≤ (x6_2 : Int) := of_decide_eq_true (as_)
            have q506 : x6_2 < (t502.length : Int) := of_decide_eq_true (as_)
            obtain ⟨ad506, A506_0, c506_0, e506, hx506_0, hl506_0, hi506_0⟩ := at_L1 (Kd.N_reads' HO_3.out).2.2 x6_2 p506 q506
            obtain rfl : ad505 = ad506 := (by injection e506)
            obtain ⟨ce506, hce506, hMe506, hcc506⟩ := Kd.N_get HO_3.out [] x6_2 p506 (by first | exact q506 | exact of_decide_eq_true (as_) | (have e_ := (Kd.N_reads' HO_3.out).1; omega))
            obtain ⟨ua506_0, uc506_0, rfl, ul506_0, ge506_0⟩ := Kd.FK_slice_open hMe506
            have hv506_0 := hcc506 0 _ rfl
            rw [Nat.add_zero, show ((Kd.slice 3 (Kd.int .i64))).sz = 1 from rfl, Nat.mul_one] at hv506_0
            replace hv506_0 := Option.some.inj (hv506_0.symm.trans hx506_0)
            injection hv506_0 with hva_ hvn_ hvc_
            rw [hva_] at ge506_0
            rw [hvc_] at ul506_0
            have HL506_0 := Aside0.mk (show Kd.V (Kd.int .i64) 3 _ w.heap.size _ _ (rd_L1 t502 x6_2) from Kd.V_mk ul506_0 ge506_0)
            clear hva_ hvn_ hvc_ ge506_0 ul506_0
            clear hcc506 hce506
            have HR506_0 := Aside0.mk hi506_0
            have HC506_0 := Aside0.mk hl506_0
            clear hi506_0 hl506_0
            replace p506 := eq_true p506
            replace q506 := eq_true q506
            refine start_ (n := 9) (S := fun w' => w'.cell? (ad505.add (x5_1).toNat) = some (.slice A505_0 (rd_L1 t502 x5_1).length c505_0) ∧ w'.cell? (ad505.add (x6_2).toNat) = some (.slice A506_0 (rd_L1 t502 x6_2).length c506_0)) (ds := []) #[false, false, false, false, false, false, false, false, false] (by kernel_rfl) rfl rfl ⟨hx505_0, hx506_0⟩ (fun hHeld => ?_); refine with_tabW spec_CountMeanders.tab11 spec_CountMeanders.bits11 (fun HT_ HW_ => ?_)
            generalize wr.drew = w16 at HO_3 HB HL505_0 HL506_0 HR505_0 HR506_0 hx505_0 hx506_0 hHeld ⊢
            refine pv_ (i := 0) (N := some 24) HT_.out ?_
            refine pv_ (i := 1) (N := some 25) HT_.out ?_
            refine pv_ (i := 2) (N := some 26) HT_.out ?_
            refine pv_ (i := 4) (N := some 28) HT_.out ?_
            refine pv_ (i := 5) (N := some 29) HT_.out ?_
            refine pv_ (i := 6) (N := some 30) HT_.out ?_
            refine tv2_ (i := 3) (N := some 27) HT_.out HW_.out hHeld ?_
            refine tv2_ (i := 7) (N := some 31) HT_.out HW_.out hHeld ?_
            refine ov_ (i := 8) (N := some 32) HT_.out (fun K hK => ?_)
            refine gq_ Try.func35 #[.slice A505_0 (rd_L1 t502 x5_1).length c505_0, .slice A506_0 (rd_L1 t502 x6_2).length c506_0] ?_
            with_reducible refine (spec_IsMeander.calls k2 _ _ (rd_L1 t502 x5_1) _ _ (rd_L1 t502 x6_2) false _ ?side1 ?side2 ?side3 ?side4 A12.out).mono ?_
            (case side1 => repeat (first | exact (by repeat (first | (with_reducible exact HR505_0.out) | (with_reducible refine Kd.C_alloc ?_ _) | (with_reducible refine Kd.C_drewN ?_ _) | (with_reducible refine Kd.C_drew ?_) | exact HR505_0.out)) | (with_reducible refine Kd.C_alloc ?_ _) | (with_reducible refine Kd.C_drewN ?_ _) | (with_reducible refine Kd.C_drew ?_)))
            (case side2 => exact HC505_0.out)
            (case side3 => repeat (first | exact (by repeat (first | (with_reducible exact HR506_0.out) | (with_reducible refine Kd.C_alloc ?_ _) | (with_reducible refine Kd.C_drewN ?_ _) | (with_reducible refine Kd.C_drew ?_) | exact HR506_0.out)) | (with_reducible refine Kd.C_alloc ?_ _) | (with_reducible refine Kd.C_drewN ?_ _) | (with_reducible refine Kd.C_drew ?_)))
            (case side4 => exact HC506_0.out)
            rintro e w17 ⟨rfl, hb⟩
            have HS0_ := (hb.cell (World.block_lt_of_cell? _ _ (hHeld.1))).trans (hHeld.1)
            have HS1_ := (hb.cell (World.block_lt_of_cell? _ _ (hHeld.2))).trans (hHeld.2)
            refine ⟨_, rfl, ?_⟩
            replace HO_3 := Aside0.mk (Kd.N_below (by (with_reducible repeat (first | apply Kd.N_alloc | apply Kd.N_drewN | apply Kd.N_drew)); exact HO_3.out) hb)
            replace HL505_0 := Aside0.mk (Kd.V_below (by (with_reducible repeat (first | apply Kd.V_alloc | apply Kd.V_drewN | apply Kd.V_drew)); exact HL505_0.out) hb)
            replace HL506_0 := Aside0.mk (Kd.V_below (by (with_reducible repeat (first | apply Kd.V_alloc | apply Kd.V_drewN | apply Kd.V_drew)); exact HL506_0.out) hb)
            replace HR505_0 := Aside0.mk (Kd.C_below (by repeat (first | (with_reducible exact HR505_0.out) | (with_reducible refine Kd.C_alloc ?_ _) | (with_reducible refine Kd.C_drewN ?_ _) | (with_reducible refine Kd.C_drew ?_) | exact HR505_0.out)) hb)
            replace HR506_0 := Aside0.mk (Kd.C_below (by repeat (first | (with_reducible exact HR506_0.out) | (with_reducible refine Kd.C_alloc ?_ _) | (with_reducible refine Kd.C_drewN ?_ _) | (with_reducible refine Kd.C_drew ?_) | exact HR506_0.out)) hb)
            replace HB := HB.s0 hb
            skip
            (try clear hb2)
            (try clear hk)
            (try clear hi)
            refine hK.out _ _ ⟨HS0_, HS1_⟩ (fun hHeld => ?_)
            clear hK K
            refine nm_ ?_
            refine done_ (done_of HT_.out (by kernel_rfl)) ?_
            try go_wp2
            go_roundg k2
            case measure => have := HK1.out; have := HK2.out; omega
            case rel => exact ⟨(x4_2), (wrap64 (x6_2 + 1)), (by first | rfl | (simp; done) | (simp [*]; done)), (by first | rfl | (simp; done) | (simp [*]; done)), H', ⟨by have := HK1.out; have := HK2.out; omega⟩, ⟨by (with_reducible repeat (first | apply Kd.N_alloc | apply Kd.N_drewN | apply Kd.N_drew)); exact HO_3.out⟩, ⟨hb0_ HB.out⟩⟩
          ·rw [if_neg c11] at H
           exact absurd H (by simp)
         ·rw [if_neg c10] at H
          exact absurd H (by simp)
        ·rw [if_neg c9] at H
         exact absurd H (by simp)
       ·rw [if_neg c8] at H
        have c8b0 : decide (x6_2 < (t502.length : Int)) = false := decide_eq_false c8
        clear c8
        have H' := Aside0.mk H
        clear H
        go_wp2
        go_roundg k2
        case measure => have := HK1.out; have := HK2.out; omega
        case rel => exact ⟨(x4_2), (wrap64 (x5_1 + 1)), (by first | rfl | (simp; done) | (simp [*]; done)), (by first | rfl | (simp; done) | (simp [*]; done)), H', ⟨by have := HK1.out; have := HK2.out; omega⟩, ⟨by (with_reducible repeat (first | apply Kd.N_alloc | apply Kd.N_drewN | apply Kd.N_drew)); exact HO_3.out⟩, ⟨hb0_ HB.out⟩⟩
    ·rw [if_neg c6] at H
     have c6b0 : decide (x5_1 < (t502.length : Int)) = false := decide_eq_false c6
     clear c6
     obtain rfl := Option.some.inj H
     obtain ⟨Ao18, co18, eo18⟩ := Kd.N_slice HO_3.out
     subst eo18
     go_wp2
     go_ret
     exact ⟨ex_, hb0_ HB.out⟩
 ·replace c3 := Bool.eq_false_iff.mpr c3
  subst c3
  have H1 : (some 0) = some r := by rw [if_neg (show ¬ (false = true) by decide)] at H; exact H
  clear H
  have H := H1
  clear H1
  obtain rfl := Option.some.inj H
  go_enter Try.func17, Try.ntmps17
  go_wp2_with (first | (refine gl_ 8 Try.func28 #[.int .i64 a0, .int .i64 1, .int .i64 4] ?_; (with_reducible refine (spec_l01In.calls a0 1 4 false _ A2.out).mono ?_); rintro e w' ⟨rfl, ⟨nd, rfl⟩⟩; refine ⟨_, rfl, ?_⟩))
  go_ret
  exact ⟨ex_, hb0_ HB.out⟩

end Go.Proofs.Ytkkjlbpffcdlfaa.X
