-- Written by a program of this session (xprint.py), out of the translation and of hand-written contracts. Lean checks it.
import Derived.Test.YtkkjlbpffcdlfaaX0
import Derived.Test.YtkkjlbpffcdlfaaXspecArchesOk
namespace Go.Proofs.Ytkkjlbpffcdlfaa.X
open Go.RowKit Go.Proofs.YtkkjlbpffcdlfaaW.PrintWords Go.Proofs.YtkkjlbpffcdlfaaW.PrintLast Go.Proofs.YtkkjlbpffcdlfaaW.PrintMore
attribute [local go_sem] max2_int min2_int max_two min_two max_three min_three max_four min_four   -- for this text's walks alone
set_option linter.unusedVariables false
set_option linter.unusedSimpArgs false

/-! ### spec_CountLoopsOf: function 48 -/
mutual
def spec_CountLoopsOf.j0 : Nat → List Int → List Int → Bool → Option (Int)
 | 0, _, _, _ => none
 | k + 1, x0, x1, x23 => if x23 = true then (some 0) else (if 0 ≤ (x0.length : Int) then (if ((x0.length : Int) : Int).toNat ≤ 281474976710656 then (spec_CountLoopsOf.l0 k x0 x1 0 (List.replicate ((x0.length : Int) : Int).toNat false) 0) else (none)) else (none))
def spec_CountLoopsOf.l0 : Nat → List Int → List Int → Int → List Bool → Int → Option (Int)
 | 0, _, _, _, _, _ => none
 | k + 1, x0, x1, x5, x6, x7 => if x7 < (x0.length : Int) then (if 0 ≤ x7 then (if x7 < (x6.length : Int) then (if rdOf false x6 x7 = true then (spec_CountLoopsOf.l0 k x0 x1 x5 x6 (wrap64 (x7 + 1))) else (spec_CountLoopsOf.l1 k x0 x1 (wrap64 (x5 + 1)) x6 x7 x7)) else (none)) else (none)) else (some x5)
def spec_CountLoopsOf.l1 : Nat → List Int → List Int → Int → List Bool → Int → Int → Option (Int)
 | 0, _, _, _, _, _, _ => none
 | k + 1, x0, x1, x5, x6, x7, x8 => if 0 ≤ x8 then (if x8 < (x6.length : Int) then (if rdOf false x6 x8 = true then (spec_CountLoopsOf.l0 k x0 x1 x5 x6 (wrap64 (x7 + 1))) else (if x8 < (x0.length : Int) then (if 0 ≤ (rd x0 x8) then (if (rd x0 x8) < (x6.length : Int) then (if (rd x0 x8) < (x1.length : Int) then (spec_CountLoopsOf.l1 k x0 x1 x5 ((x6.set (x8 : Int).toNat true).set ((rd x0 x8) : Int).toNat true) x7 (rd x1 (rd x0 x8))) else (none)) else (none)) else (none)) else (none))) else (none)) else (none)
end
def spec_CountLoopsOf.f (k : Nat) (l0 : List Int) (l1 : List Int) : Option (Int) := (spec_ArchesOk.f k l0).bind fun t501 => (if t501 = true then ((spec_ArchesOk.f k l1).bind fun t502 => (if t502 = true then (spec_CountLoopsOf.j0 k l0 l1 ((l0.length : Int) != (l1.length : Int))) else (spec_CountLoopsOf.j0 k l0 l1 true))) else (spec_CountLoopsOf.j0 k l0 l1 true))
theorem spec_CountLoopsOf.mono_l : ∀ k, (∀ y0 y1 y2, LeO (spec_CountLoopsOf.j0 k y0 y1 y2) (spec_CountLoopsOf.j0 (k + 1) y0 y1 y2)) ∧ (∀ y0 y1 y2 y3 y4, LeO (spec_CountLoopsOf.l0 k y0 y1 y2 y3 y4) (spec_CountLoopsOf.l0 (k + 1) y0 y1 y2 y3 y4)) ∧ (∀ y0 y1 y2 y3 y4 y5, LeO (spec_CountLoopsOf.l1 k y0 y1 y2 y3 y4 y5) (spec_CountLoopsOf.l1 (k + 1) y0 y1 y2 y3 y4 y5))
 | 0 => ⟨fun _ _ _ r h => by simp [spec_CountLoopsOf.j0] at h, fun _ _ _ _ _ r h => by simp [spec_CountLoopsOf.l0] at h, fun _ _ _ _ _ _ r h => by simp [spec_CountLoopsOf.l1] at h⟩
 | k + 1 => by
  obtain ⟨ih0, ih1, ih2⟩ := spec_CountLoopsOf.mono_l k
  refine ⟨?_, ?_, ?_⟩
  ·intro y0 y1 y2
   unfold spec_CountLoopsOf.j0
   repeat' first
   | (with_reducible exact ih0 ..)
   | (with_reducible exact ih1 ..)
   | (with_reducible exact ih2 ..)
   | (with_reducible exact spec_ArchesOk.mono ..)
   | (with_reducible first | exact lr_ _ | exact ln_ _ | refine li_ ?_ ?_ | refine lb_ ?_ fun _ => ?_)
   | exact ih0 ..
   | exact ih1 ..
   | exact ih2 ..
   | exact spec_ArchesOk.mono ..
   | exact ln_ _ | refine li_ ?_ ?_ | refine lb_ ?_ fun _ => ?_
  ·intro y0 y1 y2 y3 y4
   unfold spec_CountLoopsOf.l0
   repeat' first
   | (with_reducible exact ih0 ..)
   | (with_reducible exact ih1 ..)
   | (with_reducible exact ih2 ..)
   | (with_reducible exact spec_ArchesOk.mono ..)
   | (with_reducible first | exact lr_ _ | exact ln_ _ | refine li_ ?_ ?_ | refine lb_ ?_ fun _ => ?_)
   | exact ih0 ..
   | exact ih1 ..
   | exact ih2 ..
   | exact spec_ArchesOk.mono ..
   | exact ln_ _ | refine li_ ?_ ?_ | refine lb_ ?_ fun _ => ?_
  ·intro y0 y1 y2 y3 y4 y5
   unfold spec_CountLoopsOf.l1
   repeat' first
   | (with_reducible exact ih0 ..)
   | (with_reducible exact ih1 ..)
   | (with_reducible exact ih2 ..)
   | (with_reducible exact spec_ArchesOk.mono ..)
   | (with_reducible first | exact lr_ _ | exact ln_ _ | refine li_ ?_ ?_ | refine lb_ ?_ fun _ => ?_)
   | exact ih0 ..
   | exact ih1 ..
   | exact ih2 ..
   | exact spec_ArchesOk.mono ..
   | exact ln_ _ | refine li_ ?_ ?_ | refine lb_ ?_ fun _ => ?_
theorem spec_CountLoopsOf.mono : ∀ a0 a1 k, LeO (spec_CountLoopsOf.f k a0 a1) (spec_CountLoopsOf.f (k + 1) a0 a1) := by
 intro a0 a1 k
 obtain ⟨ih0, ih1, ih2⟩ := spec_CountLoopsOf.mono_l k
 unfold spec_CountLoopsOf.f
 repeat' first
   | (with_reducible exact ih0 ..)
   | (with_reducible exact ih1 ..)
   | (with_reducible exact ih2 ..)
   | (with_reducible exact spec_ArchesOk.mono ..)
   | (with_reducible first | exact lr_ _ | exact ln_ _ | refine li_ ?_ ?_ | refine lb_ ?_ fun _ => ?_)
   | exact ih0 ..
   | exact ih1 ..
   | exact ih2 ..
   | exact spec_ArchesOk.mono ..
   | exact ln_ _ | refine li_ ?_ ?_ | refine lb_ ?_ fun _ => ?_
set_option maxHeartbeats 8000000 in
set_option maxRecDepth 100000 in
theorem spec_CountLoopsOf.calls (k : Nat) (A0 : Option Addr) (c0 : Nat) (l0 : List Int) (A1 : Option Addr) (c1 : Nat) (l1 : List Int) (r : Int) (w : World) (hr0 : Kd.C (Kd.int .i64) w A0 l0.length l0) (hc0 : l0.length ≤ c0) (hr1 : Kd.C (Kd.int .i64) w A1 l1.length l1) (hc1 : l1.length ≤ c1) (h : spec_CountLoopsOf.f k l0 l1 = some r) :
  Calls Try.prog 48 #[.slice A0 l0.length c0, .slice A1 l1.length c1] w fun e w' => e = .returned (.int .i64 r) ∧ Below w.heap.size w w' := by
 have HR0 := Aside0.mk hr0
 have HC0 := Aside0.mk hc0
 clear hr0 hc0
 have HR1 := Aside0.mk hr1
 have HC1 := Aside0.mk hc1
 clear hr1 hc1
 have HB := Aside0.mk (Below.refl w.heap.size w)
 have H : ((spec_ArchesOk.f k l0).bind fun t501 => (if t501 = true then ((spec_ArchesOk.f k l1).bind fun t502 => (if t502 = true then (spec_CountLoopsOf.j0 k l0 l1 ((l0.length : Int) != (l1.length : Int))) else (spec_CountLoopsOf.j0 k l0 l1 true))) else (spec_CountLoopsOf.j0 k l0 l1 true))) = some r := h
 clear h
 have HC3 := Aside0.mk H
 clear H
 go_enter Try.func48, Try.ntmps48
 go_upto_region 1 with (fail)
 go_cut [23] (fun v23 wc => ∃ (kq : Nat) (x23_2 : Bool), v23 = .bool x23_2 ∧ Aside0 (spec_CountLoopsOf.j0 kq l0 l1 x23_2 = some r) ∧ Aside0 (kq ≤ k) ∧ Aside0 (Below w.heap.size w wc))
 case first =>
  have H := HC3.out
  clear HC3
  replace H := Option.bind_eq_some_iff.mp H
  obtain ⟨t501, A40, H⟩ := H
  replace H : (if t501 = true then ((spec_ArchesOk.f k l1).bind fun t502 => (if t502 = true then (spec_CountLoopsOf.j0 k l0 l1 ((l0.length : Int) != (l1.length : Int))) else (spec_CountLoopsOf.j0 k l0 l1 true))) else (spec_CountLoopsOf.j0 k l0 l1 true)) = some r := H
  have A4 := Aside0.mk A40
  clear A40
  by_cases c5 : t501 = true
  ·subst c5
   have H1 : ((spec_ArchesOk.f k l1).bind fun t502 => (if t502 = true then (spec_CountLoopsOf.j0 k l0 l1 ((l0.length : Int) != (l1.length : Int))) else (spec_CountLoopsOf.j0 k l0 l1 true))) = some r := by rw [if_pos rfl] at H; exact H
   clear H
   have H := H1
   clear H1
   replace H := Option.bind_eq_some_iff.mp H
   obtain ⟨t502, A60, H⟩ := H
   replace H : (if t502 = true then (spec_CountLoopsOf.j0 k l0 l1 ((l0.length : Int) != (l1.length : Int))) else (spec_CountLoopsOf.j0 k l0 l1 true)) = some r := H
   have A6 := Aside0.mk A60
   clear A60
   by_cases c7 : t502 = true
   ·subst c7
    have H1 : (spec_CountLoopsOf.j0 k l0 l1 ((l0.length : Int) != (l1.length : Int))) = some r := by rw [if_pos rfl] at H; exact H
    clear H
    have H := H1
    clear H1
    have H' := Aside0.mk H
    clear H
    go_wp2_with (first | (refine gl_ 10 Try.func43 #[.slice A0 l0.length c0] ?_; (with_reducible refine (spec_ArchesOk.calls k _ _ l0 true _ ?side1 ?side2 A4.out).mono ?_); (case side1 => repeat (first | exact (Kd.C_below HR0.out HB.out) | (with_reducible refine Kd.C_alloc ?_ _) | (with_reducible refine Kd.C_drewN ?_ _) | (with_reducible refine Kd.C_drew ?_))); (case side2 => exact HC0.out); rintro e w8 ⟨rfl, hb⟩; refine ⟨_, rfl, ?_⟩; replace HB := HB.s0 hb; (try clear hb)) | (go_at_call 43; (with_reducible refine (spec_ArchesOk.calls k _ _ l1 true _ ?side1 ?side2 A6.out).mono ?_); (case side1 => repeat (first | exact (Kd.C_below HR1.out HB.out) | (with_reducible refine Kd.C_alloc ?_ _) | (with_reducible refine Kd.C_drewN ?_ _) | (with_reducible refine Kd.C_drew ?_))); (case side2 => exact HC1.out); rintro e w9 ⟨rfl, hb⟩; replace HB := HB.s0 hb; (try clear hb)))
    go_meet
    case rel => exact ⟨_, (((l0.length : Int) != (l1.length : Int))), (by first | rfl | (simp; done) | (simp [*]; done)), H', ⟨by first | omega | exact Nat.le_refl _⟩, ⟨hb0_ HB.out⟩⟩
   ·replace c7 := Bool.eq_false_iff.mpr c7
    subst c7
    have H1 : (spec_CountLoopsOf.j0 k l0 l1 true) = some r := by rw [if_neg (show ¬ (false = true) by decide)] at H; exact H
    clear H
    have H := H1
    clear H1
    have H' := Aside0.mk H
    clear H
    go_wp2_with (first | (refine gl_ 10 Try.func43 #[.slice A0 l0.length c0] ?_; (with_reducible refine (spec_ArchesOk.calls k _ _ l0 true _ ?side1 ?side2 A4.out).mono ?_); (case side1 => repeat (first | exact (Kd.C_below HR0.out HB.out) | (with_reducible refine Kd.C_alloc ?_ _) | (with_reducible refine Kd.C_drewN ?_ _) | (with_reducible refine Kd.C_drew ?_))); (case side2 => exact HC0.out); rintro e w10 ⟨rfl, hb⟩; refine ⟨_, rfl, ?_⟩; replace HB := HB.s0 hb; (try clear hb)) | (go_at_call 43; (with_reducible refine (spec_ArchesOk.calls k _ _ l1 false _ ?side1 ?side2 A6.out).mono ?_); (case side1 => repeat (first | exact (Kd.C_below HR1.out HB.out) | (with_reducible refine Kd.C_alloc ?_ _) | (with_reducible refine Kd.C_drewN ?_ _) | (with_reducible refine Kd.C_drew ?_))); (case side2 => exact HC1.out); rintro e w11 ⟨rfl, hb⟩; replace HB := HB.s0 hb; (try clear hb)))
    go_meet
    case rel => exact ⟨_, (true), (by first | rfl | (simp; done) | (simp [*]; done)), H', ⟨by first | omega | exact Nat.le_refl _⟩, ⟨hb0_ HB.out⟩⟩
  ·replace c5 := Bool.eq_false_iff.mpr c5
   subst c5
   have H1 : (spec_CountLoopsOf.j0 k l0 l1 true) = some r := by rw [if_neg (show ¬ (false = true) by decide)] at H; exact H
   clear H
   have H := H1
   clear H1
   have H' := Aside0.mk H
   clear H
   go_wp2_with (first | (refine gl_ 10 Try.func43 #[.slice A0 l0.length c0] ?_; (with_reducible refine (spec_ArchesOk.calls k _ _ l0 false _ ?side1 ?side2 A4.out).mono ?_); (case side1 => repeat (first | exact (Kd.C_below HR0.out HB.out) | (with_reducible refine Kd.C_alloc ?_ _) | (with_reducible refine Kd.C_drewN ?_ _) | (with_reducible refine Kd.C_drew ?_))); (case side2 => exact HC0.out); rintro e w12 ⟨rfl, hb⟩; refine ⟨_, rfl, ?_⟩; replace HB := HB.s0 hb; (try clear hb)))
   go_meet
   case rel => exact ⟨_, (true), (by first | rfl | (simp; done) | (simp [*]; done)), H', ⟨by first | omega | exact Nat.le_refl _⟩, ⟨hb0_ HB.out⟩⟩
 case rest =>
  clear HC3
  try clear c1
  try clear p2
  try clear c4
  try clear c5
  try clear c7
  obtain ⟨kq, x23_2, rfl, HA, HJ2, HB⟩ := hcut
  cases kq with
  | zero => exact absurd HA.out (by simp [spec_CountLoopsOf.j0])
  | succ kj2 =>
   have H := HA.out
   clear HA
   simp only [spec_CountLoopsOf.j0] at H
   by_cases c13 : x23_2 = true
   ·subst c13
    have H1 : (some 0) = some r := by rw [if_pos rfl] at H; exact H
    clear H
    have H := H1
    clear H1
    obtain rfl := Option.some.inj H
    go_wp2
    go_ret
    exact ⟨ex_, hb0_ HB.out⟩
   ·replace c13 := Bool.eq_false_iff.mpr c13
    subst c13
    have H1 : (if 0 ≤ (l0.length : Int) then (if ((l0.length : Int) : Int).toNat ≤ 281474976710656 then (spec_CountLoopsOf.l0 kj2 l0 l1 0 (List.replicate ((l0.length : Int) : Int).toNat false) 0) else (none)) else (none)) = some r := by rw [if_neg (show ¬ (false = true) by decide)] at H; exact H
    clear H
    have H := H1
    clear H1
    by_cases c14 : 0 ≤ (l0.length : Int)
    ·rw [if_pos c14] at H
     have c14b0 := eq_true c14
     have c14b1 : decide (0 ≤ (l0.length : Int)) = true := decide_eq_true c14
     clear c14
     by_cases c15 : ((l0.length : Int) : Int).toNat ≤ 281474976710656
     ·rw [if_pos c15] at H
      have c15b0 := eq_true c15
      have c15b1 : decide (((l0.length : Int) : Int).toNat ≤ 281474976710656) = true := decide_eq_true c15
      clear c15
      obtain ⟨y503, hy503⟩ : ∃ y_ : List Bool, y_ = (List.replicate ((l0.length : Int) : Int).toNat false) := ⟨_, rfl⟩
      replace H : (spec_CountLoopsOf.l0 kj2 l0 l1 0 y503 0) = some r := by first | (rw [hy503]; with_reducible exact H) | (have H2_ := (Option.bind_some _ _).symm.trans H; rw [hy503]; with_reducible exact H2_) | (have H2_ := (Option.bind_some _ _).symm.trans H; with_reducible exact H2_) | with_reducible exact H | (rw [hy503]; exact H) | exact H
      have Ny503 := Aside0.mk hy503
      clear hy503
      have H' := Aside0.mk H
      clear H
      go_wp2_with (first | ((with_reducible refine gate_dst (N := 26) rfl ?_); (try (refine gate_guard (by rfl) ?_; dsimp only)); refine Kd.R_make Kd.bool _ 4 rfl (N := 26) rfl 49 _ _ rfl (l0.length : Int) rfl rfl Try.underlying49 (.bool false) 1 info4 rfl (by decide) (by omega) false (ok := fun _ => True) (okp := fun _ => True) rfl (fun _ hk => hk) trivial (of_decide_eq_true (as_)) (Nat.le_trans (Nat.mul_le_mul_right _ (of_decide_eq_true (as_) : (l0.length : Int).toNat ≤ 281474976710656)) (by omega)) (Below.refl _ _) (Nat.le_refl _) ?_; intro v504 w16 ho17 hb hg_ hnew_; clear hg_ hnew_; (first | rw [← Ny503.out] at ho17 | (simp only [Int.reduceToNat] at ho17; rw [← Ny503.out] at ho17)); have HO505 := Aside0.mk (Kd.R_lower ho17 (below_size (hb0_ HB.out))); replace HB := HB.s0 hb; clear hb ho17))
      go_loopg [5, 7] kj2 (fun kq v5 v7 w' => ∃ (x5_2 : Int) (x6_2 : List Bool) (x7_2 : Int), v5 = .int .i64 x5_2 ∧ v7 = .int .i64 x7_2 ∧ Aside0 (spec_CountLoopsOf.l0 kq l0 l1 x5_2 x6_2 x7_2 = some r) ∧ Aside0 (kq ≤ kj2) ∧ Aside0 (Kd.R Kd.bool 4 w' w.heap.size (fun _ => True) v504 x6_2) ∧ Aside0 (Below w.heap.size w w'))
      case atStart => exact ⟨(0), (y503), (0), (by first | rfl | (simp; done) | (simp [*]; done)), (by first | rfl | (simp; done) | (simp [*]; done)), H', ⟨Nat.le_refl _⟩, ⟨kr_ HO505.out⟩, ⟨hb0_ HB.out⟩⟩
      case round =>
       clear H'
       try clear c1
       try clear p2
       try clear c4
       try clear c5
       try clear c7
       try clear c13
       try clear c14
       try clear c14b0
       try clear c14b1
       try clear c15
       try clear c15b0
       try clear c15b1
       try clear p2
       obtain ⟨x5_2, x6_2, x7_2, rfl, rfl, HA, HK2, HO_6, HB⟩ := hrel
       cases gk with
       | zero => exact absurd HA.out (by simp [spec_CountLoopsOf.l0])
       | succ k2 =>
        have H := HA.out
        clear HA
        simp only [spec_CountLoopsOf.l0] at H
        by_cases c18 : x7_2 < (l0.length : Int)
        ·rw [if_pos c18] at H
         have c18b0 : decide (x7_2 < (l0.length : Int)) = true := decide_eq_true c18
         clear c18
         by_cases c19 : 0 ≤ x7_2
         ·rw [if_pos c19] at H
          have c19b0 : decide (0 ≤ x7_2) = true := decide_eq_true c19
          clear c19
          by_cases c20 : x7_2 < (x6_2.length : Int)
          ·rw [if_pos c20] at H
           have c20b0 : decide (x7_2 < (x6_2.length : Int)) = true := decide_eq_true c20
           clear c20
           obtain ⟨bq21, hbq21⟩ : ∃ b_ : Bool, b_ = (rdOf false x6_2 x7_2) := ⟨_, rfl⟩
           replace H : (if bq21 = true then (spec_CountLoopsOf.l0 k2 l0 l1 x5_2 x6_2 (wrap64 (x7_2 + 1))) else (spec_CountLoopsOf.l1 k2 l0 l1 (wrap64 (x5_2 + 1)) x6_2 x7_2 x7_2)) = some r := by rw [← hbq21] at H; exact H
           have Nbq21 := Aside0.mk hbq21
           clear hbq21
           by_cases c22 : bq21 = true
           ·subst c22
            have H1 : (spec_CountLoopsOf.l0 k2 l0 l1 x5_2 x6_2 (wrap64 (x7_2 + 1))) = some r := by rw [if_pos rfl] at H; exact H
            clear H
            have H := H1
            clear H1
            have H' := Aside0.mk H
            clear H
            obtain ⟨Ao23, co23, eo23⟩ := Kd.R_slice HO_6.out
            subst eo23
            have p506 : 0 ≤ (x7_2 : Int) := of_decide_eq_true (as_)
            have q506 : x7_2 < (x6_2.length : Int) := of_decide_eq_true (as_)
            obtain ⟨ad506, e506, hx506_0⟩ := Kd.at_bool (Kd.R_reads' HO_6.out).2.2 x7_2 p506 q506
            (try rw [← Nbq21.out] at hx506_0)
            cases e506
            replace p506 := eq_true p506
            replace q506 := eq_true q506
            go_wp2
            go_roundg k2
            case measure => have := HJ2.out; have := HK2.out; omega
            case rel => exact ⟨(x5_2), (x6_2), (wrap64 (x7_2 + 1)), (by first | rfl | (simp; done) | (simp [*]; done)), (by first | rfl | (simp; done) | (simp [*]; done)), H', ⟨by have := HJ2.out; have := HK2.out; omega⟩, ⟨kr_ HO_6.out⟩, ⟨hb0_ HB.out⟩⟩
           ·replace c22 := Bool.eq_false_iff.mpr c22
            subst c22
            have H1 : (spec_CountLoopsOf.l1 k2 l0 l1 (wrap64 (x5_2 + 1)) x6_2 x7_2 x7_2) = some r := by rw [if_neg (show ¬ (false = true) by decide)] at H; exact H
            clear H
            have H := H1
            clear H1
            have H' := Aside0.mk H
            clear H
            obtain ⟨Ao24, co24, eo24⟩ := Kd.R_slice HO_6.out
            subst eo24
            have p506 : 0 ≤ (x7_2 : Int) := of_decide_eq_true (as_)
            have q506 : x7_2 < (x6_2.length : Int) := of_decide_eq_true (as_)
            obtain ⟨ad506, e506, hx506_0⟩ := Kd.at_bool (Kd.R_reads' HO_6.out).2.2 x7_2 p506 q506
            (try rw [← Nbq21.out] at hx506_0)
            cases e506
            replace p506 := eq_true p506
            replace q506 := eq_true q506
            go_wp2
            (try generalize Addr.add _ (x7_2 : Int).toNat = P506)
            go_loopg [8] k2 (fun kq v8 w' => ∃ (x6_3 : List Bool) (x8_3 : Int), v8 = .int .i64 x8_3 ∧ Aside0 (spec_CountLoopsOf.l1 kq l0 l1 (wrap64 (x5_2 + 1)) x6_3 x7_2 x8_3 = some r) ∧ Aside0 (kq ≤ k2) ∧ Aside0 (Kd.R Kd.bool 4 w' w.heap.size (fun _ => True) (.slice (some ad506) x6_2.length co24) x6_3) ∧ Aside0 (Below w.heap.size w w'))
            case atStart => exact ⟨(x6_2), (x7_2), (by first | rfl | (simp; done) | (simp [*]; done)), H', ⟨Nat.le_refl _⟩, ⟨kr_ HO_6.out⟩, ⟨hb0_ HB.out⟩⟩
            case round =>
             clear H'
             try clear c1
             try clear c2
             try clear p2
             try clear q2
             try clear c4
             try clear c5
             try clear p5
             try clear q5
             try clear hx5
             try clear p6
             try clear c7
             try clear c13
             try clear c14
             try clear c14b0
             try clear c14b1
             try clear c15
             try clear c15b0
             try clear c15b1
             try clear c18
             try clear c18b0
             try clear c19
             try clear c19b0
             try clear c20
             try clear c20b0
             try clear q21
             try clear c22
             try clear hx506_0
             try clear p2
             try clear p506
             try clear q506
             obtain ⟨x6_3, x8_3, rfl, HA, HK3, HO_6, HB⟩ := hrel
             have hl6_3 := (Kd.R_reads' HO_6.out).1
             rw [hl6_3] at HO_6
             (try simp only [hl6_3])
             cases gk with
             | zero => exact absurd HA.out (by simp [spec_CountLoopsOf.l1])
             | succ k3 =>
              have H := HA.out
              clear HA
              simp only [spec_CountLoopsOf.l1] at H
              by_cases c25 : 0 ≤ x8_3
              ·rw [if_pos c25] at H
               have c25b0 : decide (0 ≤ x8_3) = true := decide_eq_true c25
               clear c25
               by_cases c26 : x8_3 < (x6_3.length : Int)
               ·rw [if_pos c26] at H
                have c26b0 : decide (x8_3 < (x6_3.length : Int)) = true := decide_eq_true c26
                clear c26
                obtain ⟨bq27, hbq27⟩ : ∃ b_ : Bool, b_ = (rdOf false x6_3 x8_3) := ⟨_, rfl⟩
                replace H : (if bq27 = true then (spec_CountLoopsOf.l0 k3 l0 l1 (wrap64 (x5_2 + 1)) x6_3 (wrap64 (x7_2 + 1))) else (if x8_3 < (l0.length : Int) then (if 0 ≤ (rd l0 x8_3) then (if (rd l0 x8_3) < (x6_3.length : Int) then (if (rd l0 x8_3) < (l1.length : Int) then (spec_CountLoopsOf.l1 k3 l0 l1 (wrap64 (x5_2 + 1)) ((x6_3.set (x8_3 : Int).toNat true).set ((rd l0 x8_3) : Int).toNat true) x7_2 (rd l1 (rd l0 x8_3))) else (none)) else (none)) else (none)) else (none))) = some r := by rw [← hbq27] at H; exact H
                have Nbq27 := Aside0.mk hbq27
                clear hbq27
                by_cases c28 : bq27 = true
                ·subst c28
                 have H1 : (spec_CountLoopsOf.l0 k3 l0 l1 (wrap64 (x5_2 + 1)) x6_3 (wrap64 (x7_2 + 1))) = some r := by rw [if_pos rfl] at H; exact H
                 clear H
                 have H := H1
                 clear H1
                 have H' := Aside0.mk H
                 clear H
                 have p507 : 0 ≤ (x8_3 : Int) := of_decide_eq_true (as_)
                 have q507 : x8_3 < (x6_3.length : Int) := of_decide_eq_true (as_)
                 obtain ⟨ad507, e507, hx507_0⟩ := Kd.at_bool (Kd.R_reads' HO_6.out).2.2 x8_3 p507 q507
                 (try rw [← Nbq21.out] at hx507_0)
                 (try rw [← Nbq27.out] at hx507_0)
                 obtain rfl : ad506 = ad507 := (by injection e507)
                 replace p507 := eq_true p507
                 replace q507 := eq_true q507
                 go_wp2
                 (try simp only [← hl6_3])
                 go_roundg k3
                 case measure => have := HJ2.out; have := HK2.out; have := HK3.out; omega
                 case rel => exact ⟨((wrap64 (x5_2 + 1))), (x6_3), (wrap64 (x7_2 + 1)), (by first | rfl | (simp; done) | (simp [*]; done)), (by first | rfl | (simp; done) | (simp [*]; done)), H', ⟨by have := HJ2.out; have := HK2.out; have := HK3.out; omega⟩, ⟨by (try simp only [hl6_3]); (with_reducible repeat (first | apply Kd.R_alloc | apply Kd.R_drewN | apply Kd.R_drew)); exact HO_6.out⟩, ⟨hb0_ HB.out⟩⟩
                ·replace c28 := Bool.eq_false_iff.mpr c28
                 subst c28
                 have H1 : (if x8_3 < (l0.length : Int) then (if 0 ≤ (rd l0 x8_3) then (if (rd l0 x8_3) < (x6_3.length : Int) then (if (rd l0 x8_3) < (l1.length : Int) then (spec_CountLoopsOf.l1 k3 l0 l1 (wrap64 (x5_2 + 1)) ((x6_3.set (x8_3 : Int).toNat true).set ((rd l0 x8_3) : Int).toNat true) x7_2 (rd l1 (rd l0 x8_3))) else (none)) else (none)) else (none)) else (none)) = some r := by rw [if_neg (show ¬ (false = true) by decide)] at H; exact H
                 clear H
                 have H := H1
                 clear H1
                 obtain ⟨y508, hy508⟩ : ∃ y_ : List Bool, y_ = (x6_3.set (x8_3 : Int).toNat true) := ⟨_, rfl⟩
                 replace H : (if x8_3 < (l0.length : Int) then (if 0 ≤ (rd l0 x8_3) then (if (rd l0 x8_3) < (x6_3.length : Int) then (if (rd l0 x8_3) < (l1.length : Int) then (spec_CountLoopsOf.l1 k3 l0 l1 (wrap64 (x5_2 + 1)) (y508.set ((rd l0 x8_3) : Int).toNat true) x7_2 (rd l1 (rd l0 x8_3))) else (none)) else (none)) else (none)) else (none)) = some r := by first | (rw [hy508]; with_reducible exact H) | (have H2_ := (Option.bind_some _ _).symm.trans H; rw [hy508]; with_reducible exact H2_) | (have H2_ := (Option.bind_some _ _).symm.trans H; with_reducible exact H2_) | with_reducible exact H | (rw [hy508]; exact H) | exact H
                 have Ny508 := Aside0.mk hy508
                 clear hy508
                 by_cases c30 : x8_3 < (l0.length : Int)
                 ·rw [if_pos c30] at H
                  have c30b0 : decide (x8_3 < (l0.length : Int)) = true := decide_eq_true c30
                  clear c30
                  by_cases c31 : 0 ≤ (rd l0 x8_3)
                  ·rw [if_pos c31] at H
                   have c31b0 : decide (0 ≤ (rd l0 x8_3)) = true := decide_eq_true c31
                   clear c31
                   by_cases c32 : (rd l0 x8_3) < (x6_3.length : Int)
                   ·rw [if_pos c32] at H
                    have c32b0 : decide ((rd l0 x8_3) < (x6_3.length : Int)) = true := decide_eq_true c32
                    clear c32
                    obtain ⟨y510, hy510⟩ : ∃ y_ : List Bool, y_ = (y508.set ((rd l0 x8_3) : Int).toNat true) := ⟨_, rfl⟩
                    replace H : (if (rd l0 x8_3) < (l1.length : Int) then (spec_CountLoopsOf.l1 k3 l0 l1 (wrap64 (x5_2 + 1)) y510 x7_2 (rd l1 (rd l0 x8_3))) else (none)) = some r := by first | (rw [hy510]; with_reducible exact H) | (have H2_ := (Option.bind_some _ _).symm.trans H; rw [hy510]; with_reducible exact H2_) | (have H2_ := (Option.bind_some _ _).symm.trans H; with_reducible exact H2_) | with_reducible exact H | (rw [hy510]; exact H) | exact H
                    have Ny510 := Aside0.mk hy510
                    clear hy510
                    by_cases c34 : (rd l0 x8_3) < (l1.length : Int)
                    ·rw [if_pos c34] at H
                     have c34b0 : decide ((rd l0 x8_3) < (l1.length : Int)) = true := decide_eq_true c34
                     clear c34
                     have H' := Aside0.mk H
                     clear H
                     have p507 : 0 ≤ (x8_3 : Int) := of_decide_eq_true (as_)
                     have q507 : x8_3 < (x6_3.length : Int) := of_decide_eq_true (as_)
                     obtain ⟨ad507, e507, hx507_0⟩ := Kd.at_bool (Kd.R_reads' HO_6.out).2.2 x8_3 p507 q507
                     (try rw [← Nbq21.out] at hx507_0)
                     (try rw [← Nbq27.out] at hx507_0)
                     obtain rfl : ad506 = ad507 := (by injection e507)
                     replace p507 := eq_true p507
                     replace q507 := eq_true q507
                     have p29 : 0 ≤ (x8_3 : Int) := of_decide_eq_true (as_)
                     have q29 : (x8_3 : Int) < ((x6_3.length : Int) : Int) := of_decide_eq_true (as_)
                     obtain ⟨go29, co29, eo29, gb29, gl29, cl29, HG29⟩ := Kd.R_form HO_6.out (by omega)
                     (first | cases eo29 | (injection eo29 with ea_ en_ ec_; (first | subst ea_ | (injection ea_ with ea_; subst ea_)); subst ec_; clear en_))
                     have GB29 := Aside0.mk gb29
                     have GG29 := Aside0.mk HG29
                     clear gb29 gl29 HG29
                     (first | simp only [add_plain] at hx506_0 | skip)
                     (first | simp only [add_plain] at hx507_0 | skip)
                     obtain ⟨hx29_0, hf29_0⟩ := Kd.R_celln false HO_6.out (x8_3 : Int) p29 q29
                     replace p29 := eq_true p29
                     replace q29 := eq_true q29
                     have HP35 := Kd.R_putg HO_6.out (x8_3 : Int) true
                     go_wp2_with (first | ((with_reducible refine gate_store (t := 4) (p := 54) rfl ?_); refine store_event (t := 4) (p := 54) (v := ?vo_w36) (w1 := (wr.setCell ⟨go29, (x8_3 : Int).toNat, none⟩ (.bool true))) ?hg ?ho ?hn ?hr ?_; (case ho => rfl); (case hg => rfl); (case hn => rfl); (case hr => first | (go_simp; done) | (go_simp; rfl)); intro w36 hw; have hg : wr.grownBy w36 (some go29) := (by rw [hw]; exact HP35.2); have hp_ : Kd.R Kd.bool 4 w36 w.heap.size (fun _ => True) (.slice (some ⟨go29, 0, none⟩) x6_3.length co24) y508 := (by rw [hw, Ny508.out]; exact HP35.1); clear HP35; replace HO_6 := Aside0.mk (hp_); replace HB := Aside0.mk ((by rw [hw]; exact below_set (HB.out) GB29.out : Below w.heap.size w w36)); clear hg hw hp_; have p509 : 0 ≤ (x8_3 : Int) := of_decide_eq_true (as_); have q509 : x8_3 < (l0.length : Int) := of_decide_eq_true (as_); obtain ⟨ad509, e509, hx509_0⟩ := Kd.at_int HR0.out x8_3 p509 q509; cases e509; replace hx509_0 := (HB.out.cell (World.block_lt_of_cell? w _ hx509_0)).trans hx509_0; replace p509 := eq_true p509; replace q509 := eq_true q509; have p33 : 0 ≤ ((rd l0 x8_3) : Int) := of_decide_eq_true (as_); have q33 : ((rd l0 x8_3) : Int) < ((x6_3.length : Int) : Int) := of_decide_eq_true (as_); obtain ⟨hx33_0, hf33_0⟩ := Kd.R_celln false HO_6.out ((rd l0 x8_3) : Int) p33 q33; replace p33 := eq_true p33; replace q33 := eq_true q33; obtain ⟨hy37_, hz37_⟩ := Kd.R_celln false HO_6.out ((rd l0 x8_3) : Int) (of_decide_eq_true (as_)) (of_decide_eq_true (as_)); have HP37 := Kd.R_putg HO_6.out ((rd l0 x8_3) : Int) true) | ((with_reducible refine gate_store (t := 4) (p := 60) rfl ?_); refine store_event (t := 4) (p := 60) (v := ?vo_w38) (w1 := (w36.setCell ⟨go29, ((rd l0 x8_3) : Int).toNat, none⟩ (.bool true))) ?hg ?ho ?hn ?hr ?_; (case ho => rfl); (case hg => rfl); (case hn => rfl); (case hr => first | (go_simp; done) | (go_simp; rfl)); intro w38 hw; have hg : w36.grownBy w38 (some go29) := (by rw [hw]; exact HP37.2); have hp_ : Kd.R Kd.bool 4 w38 w.heap.size (fun _ => True) (.slice (some ⟨go29, 0, none⟩) x6_3.length co24) y510 := (by rw [hw, Ny510.out]; exact HP37.1); clear HP37; replace HO_6 := Aside0.mk (hp_); replace HB := Aside0.mk ((by rw [hw]; exact below_set (HB.out) GB29.out : Below w.heap.size w w38)); clear hg hw hp_; have p511 : 0 ≤ (x8_3 : Int) := of_decide_eq_true (as_); have q511 : x8_3 < (l0.length : Int) := of_decide_eq_true (as_); obtain ⟨ad511, e511, hx511_0⟩ := Kd.at_int HR0.out x8_3 p511 q511; obtain rfl : ad509 = ad511 := (by injection e511); replace hx511_0 := (HB.out.cell (World.block_lt_of_cell? w _ hx511_0)).trans hx511_0; replace p511 := eq_true p511; replace q511 := eq_true q511; have p512 : 0 ≤ ((rd l0 x8_3) : Int) := of_decide_eq_true (as_); have q512 : (rd l0 x8_3) < (l1.length : Int) := of_decide_eq_true (as_); obtain ⟨ad512, e512, hx512_0⟩ := Kd.at_int HR1.out (rd l0 x8_3) p512 q512; cases e512; replace hx512_0 := (HB.out.cell (World.block_lt_of_cell? w _ hx512_0)).trans hx512_0; replace p512 := eq_true p512; replace q512 := eq_true q512))
                     (try simp only [← hl6_3])
                     go_roundg k3
                     case measure => have := HJ2.out; have := HK2.out; have := HK3.out; omega
                     case rel => exact ⟨(y510), (rd l1 (rd l0 x8_3)), (by first | rfl | (simp; done) | (simp [*]; done)), H', ⟨by have := HJ2.out; have := HK2.out; have := HK3.out; omega⟩, ⟨by (try simp only [hl6_3]); (with_reducible repeat (first | apply Kd.R_alloc | apply Kd.R_drewN | apply Kd.R_drew)); exact HO_6.out⟩, ⟨hb0_ HB.out⟩⟩
                    ·rw [if_neg c34] at H
                     exact absurd H (by simp)
                   ·rw [if_neg c32] at H
                    exact absurd H (by simp)
                  ·rw [if_neg c31] at H
                   exact absurd H (by simp)
                 ·rw [if_neg c30] at H
                  exact absurd H (by simp)
               ·rw [if_neg c26] at H
                exact absurd H (by simp)
              ·rw [if_neg c25] at H
               exact absurd H (by simp)
          ·rw [if_neg c20] at H
           exact absurd H (by simp)
         ·rw [if_neg c19] at H
          exact absurd H (by simp)
        ·rw [if_neg c18] at H
         have c18b0 : decide (x7_2 < (l0.length : Int)) = false := decide_eq_false c18
         clear c18
         obtain rfl := Option.some.inj H
         go_wp2
         go_ret
         exact ⟨ex_, hb0_ HB.out⟩
     ·rw [if_neg c15] at H
      exact absurd H (by simp)
    ·rw [if_neg c14] at H
     exact absurd H (by simp)

end Go.Proofs.Ytkkjlbpffcdlfaa.X
