-- Written by a program of this session (xprint.py), out of the translation and of hand-written contracts. Lean checks it.
import Derived.Test.YtkkjlbpffcdlfaaX0
import Derived.Test.YtkkjlbpffcdlfaaXimplArchesOk
namespace Go.Proofs.Ytkkjlbpffcdlfaa.X
open Go.RowKit Go.Proofs.YtkkjlbpffcdlfaaW.PrintWords Go.Proofs.YtkkjlbpffcdlfaaW.PrintLast Go.Proofs.YtkkjlbpffcdlfaaW.PrintMore
attribute [local go_sem] max2_int min2_int max_two min_two max_three min_three max_four min_four   -- for this text's walks alone
set_option linter.unusedVariables false
set_option linter.unusedSimpArgs false

/-! ### impl_CountLoopsOf: function 22 -/
mutual
def impl_CountLoopsOf.j0 : Nat → List Int → List Int → Bool → Option (Int)
 | 0, _, _, _ => none
 | k + 1, x0, x1, x22 => if x22 = true then (some 0) else (if 0 ≤ (x0.length : Int) then (if ((x0.length : Int) : Int).toNat ≤ 281474976710656 then ((some (List.replicate ((x0.length : Int) : Int).toNat false : List Bool)).bind fun y503 => (impl_CountLoopsOf.l0 k x0 x1 y503 0 (y503.length : Int) 0)) else (none)) else (none))
def impl_CountLoopsOf.l0 : Nat → List Int → List Int → List Bool → Int → Int → Int → Option (Int)
 | 0, _, _, _, _, _, _ => none
 | k + 1, x0, x1, x5, x6, x27, x28 => if x28 < x27 then (if 0 ≤ x28 then (if x28 < (x5.length : Int) then (if rdOf false x5 x28 = true then (impl_CountLoopsOf.l0 k x0 x1 x5 x6 x27 (wrap64 (x28 + 1))) else (impl_CountLoopsOf.l1 k x0 x1 x5 (wrap64 (x6 + 1)) x28 x27 x28)) else (none)) else (none)) else (some x6)
def impl_CountLoopsOf.l1 : Nat → List Int → List Int → List Bool → Int → Int → Int → Int → Option (Int)
 | 0, _, _, _, _, _, _, _ => none
 | k + 1, x0, x1, x5, x6, x7, x27, x28 => if 0 ≤ x7 then (if x7 < (x5.length : Int) then (if rdOf false x5 x7 = true then (impl_CountLoopsOf.l0 k x0 x1 x5 x6 x27 (wrap64 (x28 + 1))) else (if x7 < (x0.length : Int) then (if 0 ≤ (rd x0 x7) then (if (rd x0 x7) < (x5.length : Int) then (if (rd x0 x7) < (x1.length : Int) then (impl_CountLoopsOf.l1 k x0 x1 ((x5.set (x7 : Int).toNat true).set ((rd x0 x7) : Int).toNat true) x6 (rd x1 (rd x0 x7)) x27 x28) else (none)) else (none)) else (none)) else (none))) else (none)) else (none)
end
def impl_CountLoopsOf.f (k : Nat) (l0 : List Int) (l1 : List Int) : Option (Int) := (impl_ArchesOk.f k l0).bind fun t501 => (if t501 = true then ((impl_ArchesOk.f k l1).bind fun t502 => (if t502 = true then (impl_CountLoopsOf.j0 k l0 l1 ((l0.length : Int) != (l1.length : Int))) else (impl_CountLoopsOf.j0 k l0 l1 true))) else (impl_CountLoopsOf.j0 k l0 l1 true))
theorem impl_CountLoopsOf.mono_l : ∀ k, (∀ y0 y1 y2, LeO (impl_CountLoopsOf.j0 k y0 y1 y2) (impl_CountLoopsOf.j0 (k + 1) y0 y1 y2)) ∧ (∀ y0 y1 y2 y3 y4 y5, LeO (impl_CountLoopsOf.l0 k y0 y1 y2 y3 y4 y5) (impl_CountLoopsOf.l0 (k + 1) y0 y1 y2 y3 y4 y5)) ∧ (∀ y0 y1 y2 y3 y4 y5 y6, LeO (impl_CountLoopsOf.l1 k y0 y1 y2 y3 y4 y5 y6) (impl_CountLoopsOf.l1 (k + 1) y0 y1 y2 y3 y4 y5 y6))
 | 0 => ⟨fun _ _ _ r h => by simp [impl_CountLoopsOf.j0] at h, fun _ _ _ _ _ _ r h => by simp [impl_CountLoopsOf.l0] at h, fun _ _ _ _ _ _ _ r h => by simp [impl_CountLoopsOf.l1] at h⟩
 | k + 1 => by
  obtain ⟨ih0, ih1, ih2⟩ := impl_CountLoopsOf.mono_l k
  refine ⟨?_, ?_, ?_⟩
  ·intro y0 y1 y2
   unfold impl_CountLoopsOf.j0
   repeat' first
   | (with_reducible exact ih0 ..)
   | (with_reducible exact ih1 ..)
   | (with_reducible exact ih2 ..)
   | (with_reducible exact impl_ArchesOk.mono ..)
   | (with_reducible first | exact lr_ _ | exact ln_ _ | refine li_ ?_ ?_ | refine lb_ ?_ fun _ => ?_)
   | exact ih0 ..
   | exact ih1 ..
   | exact ih2 ..
   | exact impl_ArchesOk.mono ..
   | exact ln_ _ | refine li_ ?_ ?_ | refine lb_ ?_ fun _ => ?_
  ·intro y0 y1 y2 y3 y4 y5
   unfold impl_CountLoopsOf.l0
   repeat' first
   | (with_reducible exact ih0 ..)
   | (with_reducible exact ih1 ..)
   | (with_reducible exact ih2 ..)
   | (with_reducible exact impl_ArchesOk.mono ..)
   | (with_reducible first | exact lr_ _ | exact ln_ _ | refine li_ ?_ ?_ | refine lb_ ?_ fun _ => ?_)
   | exact ih0 ..
   | exact ih1 ..
   | exact ih2 ..
   | exact impl_ArchesOk.mono ..
   | exact ln_ _ | refine li_ ?_ ?_ | refine lb_ ?_ fun _ => ?_
  ·intro y0 y1 y2 y3 y4 y5 y6
   unfold impl_CountLoopsOf.l1
   repeat' first
   | (with_reducible exact ih0 ..)
   | (with_reducible exact ih1 ..)
   | (with_reducible exact ih2 ..)
   | (with_reducible exact impl_ArchesOk.mono ..)
   | (with_reducible first | exact lr_ _ | exact ln_ _ | refine li_ ?_ ?_ | refine lb_ ?_ fun _ => ?_)
   | exact ih0 ..
   | exact ih1 ..
   | exact ih2 ..
   | exact impl_ArchesOk.mono ..
   | exact ln_ _ | refine li_ ?_ ?_ | refine lb_ ?_ fun _ => ?_
theorem impl_CountLoopsOf.mono : ∀ a0 a1 k, LeO (impl_CountLoopsOf.f k a0 a1) (impl_CountLoopsOf.f (k + 1) a0 a1) := by
 intro a0 a1 k
 obtain ⟨ih0, ih1, ih2⟩ := impl_CountLoopsOf.mono_l k
 unfold impl_CountLoopsOf.f
 repeat' first
   | (with_reducible exact ih0 ..)
   | (with_reducible exact ih1 ..)
   | (with_reducible exact ih2 ..)
   | (with_reducible exact impl_ArchesOk.mono ..)
   | (with_reducible first | exact lr_ _ | exact ln_ _ | refine li_ ?_ ?_ | refine lb_ ?_ fun _ => ?_)
   | exact ih0 ..
   | exact ih1 ..
   | exact ih2 ..
   | exact impl_ArchesOk.mono ..
   | exact ln_ _ | refine li_ ?_ ?_ | refine lb_ ?_ fun _ => ?_
set_option maxHeartbeats 8000000 in
set_option maxRecDepth 100000 in
theorem impl_CountLoopsOf.calls (k : Nat) (A0 : Option Addr) (c0 : Nat) (l0 : List Int) (A1 : Option Addr) (c1 : Nat) (l1 : List Int) (r : Int) (w : World) (hr0 : Kd.C (Kd.int .i64) w A0 l0.length l0) (hc0 : l0.length ≤ c0) (hr1 : Kd.C (Kd.int .i64) w A1 l1.length l1) (hc1 : l1.length ≤ c1) (h : impl_CountLoopsOf.f k l0 l1 = some r) :
  Calls Try.prog 22 #[.slice A0 l0.length c0, .slice A1 l1.length c1] w fun e w' => e = .returned (.int .i64 r) ∧ Below w.heap.size w w' := by
 have HR0 := Aside0.mk hr0
 have HC0 := Aside0.mk hc0
 clear hr0 hc0
 have HR1 := Aside0.mk hr1
 have HC1 := Aside0.mk hc1
 clear hr1 hc1
 have HB := Aside0.mk (Below.refl w.heap.size w)
 have H : ((impl_ArchesOk.f k l0).bind fun t501 => (if t501 = true then ((impl_ArchesOk.f k l1).bind fun t502 => (if t502 = true then (impl_CountLoopsOf.j0 k l0 l1 ((l0.length : Int) != (l1.length : Int))) else (impl_CountLoopsOf.j0 k l0 l1 true))) else (impl_CountLoopsOf.j0 k l0 l1 true))) = some r := h
 clear h
 have HC3 := Aside0.mk H
 clear H
 go_enter Try.func22, Try.ntmps22
 go_upto_region 1 with (fail)
 go_cut [22] (fun v22 wc => ∃ (kq : Nat) (x22_2 : Bool), v22 = .bool x22_2 ∧ Aside0 (impl_CountLoopsOf.j0 kq l0 l1 x22_2 = some r) ∧ Aside0 (kq ≤ k) ∧ Aside0 (Below w.heap.size w wc))
 case first =>
  have H := HC3.out
  clear HC3
  replace H := Option.bind_eq_some_iff.mp H
  obtain ⟨t501, A40, H⟩ := H
  replace H : (if t501 = true then ((impl_ArchesOk.f k l1).bind fun t502 => (if t502 = true then (impl_CountLoopsOf.j0 k l0 l1 ((l0.length : Int) != (l1.length : Int))) else (impl_CountLoopsOf.j0 k l0 l1 true))) else (impl_CountLoopsOf.j0 k l0 l1 true)) = some r := H
  have A4 := Aside0.mk A40
  clear A40
  by_cases c5 : t501 = true
  ·subst c5
   have H1 : ((impl_ArchesOk.f k l1).bind fun t502 => (if t502 = true then (impl_CountLoopsOf.j0 k l0 l1 ((l0.length : Int) != (l1.length : Int))) else (impl_CountLoopsOf.j0 k l0 l1 true))) = some r := by rw [if_pos rfl] at H; exact H
   clear H
   have H := H1
   clear H1
   replace H := Option.bind_eq_some_iff.mp H
   obtain ⟨t502, A60, H⟩ := H
   replace H : (if t502 = true then (impl_CountLoopsOf.j0 k l0 l1 ((l0.length : Int) != (l1.length : Int))) else (impl_CountLoopsOf.j0 k l0 l1 true)) = some r := H
   have A6 := Aside0.mk A60
   clear A60
   by_cases c7 : t502 = true
   ·subst c7
    have H1 : (impl_CountLoopsOf.j0 k l0 l1 ((l0.length : Int) != (l1.length : Int))) = some r := by rw [if_pos rfl] at H; exact H
    clear H
    have H := H1
    clear H1
    have H' := Aside0.mk H
    clear H
    go_wp2_with (first | (refine gl_ 9 Try.func26 #[.slice A0 l0.length c0] ?_; (with_reducible refine (impl_ArchesOk.calls k _ _ l0 true _ ?side1 ?side2 A4.out).mono ?_); (case side1 => repeat (first | exact (Kd.C_below HR0.out HB.out) | (with_reducible refine Kd.C_alloc ?_ _) | (with_reducible refine Kd.C_drewN ?_ _) | (with_reducible refine Kd.C_drew ?_))); (case side2 => exact HC0.out); rintro e w8 ⟨rfl, hb⟩; refine ⟨_, rfl, ?_⟩; replace HB := HB.s0 hb; (try clear hb)) | (go_at_call 26; (with_reducible refine (impl_ArchesOk.calls k _ _ l1 true _ ?side1 ?side2 A6.out).mono ?_); (case side1 => repeat (first | exact (Kd.C_below HR1.out HB.out) | (with_reducible refine Kd.C_alloc ?_ _) | (with_reducible refine Kd.C_drewN ?_ _) | (with_reducible refine Kd.C_drew ?_))); (case side2 => exact HC1.out); rintro e w9 ⟨rfl, hb⟩; replace HB := HB.s0 hb; (try clear hb)))
    go_meet
    case rel => exact ⟨_, (((l0.length : Int) != (l1.length : Int))), (by first | rfl | (simp; done) | (simp [*]; done)), H', ⟨by first | omega | exact Nat.le_refl _⟩, ⟨hb0_ HB.out⟩⟩
   ·replace c7 := Bool.eq_false_iff.mpr c7
    subst c7
    have H1 : (impl_CountLoopsOf.j0 k l0 l1 true) = some r := by rw [if_neg (show ¬ (false = true) by decide)] at H; exact H
    clear H
    have H := H1
    clear H1
    have H' := Aside0.mk H
    clear H
    go_wp2_with (first | (refine gl_ 9 Try.func26 #[.slice A0 l0.length c0] ?_; (with_reducible refine (impl_ArchesOk.calls k _ _ l0 true _ ?side1 ?side2 A4.out).mono ?_); (case side1 => repeat (first | exact (Kd.C_below HR0.out HB.out) | (with_reducible refine Kd.C_alloc ?_ _) | (with_reducible refine Kd.C_drewN ?_ _) | (with_reducible refine Kd.C_drew ?_))); (case side2 => exact HC0.out); rintro e w10 ⟨rfl, hb⟩; refine ⟨_, rfl, ?_⟩; replace HB := HB.s0 hb; (try clear hb)) | (go_at_call 26; (with_reducible refine (impl_ArchesOk.calls k _ _ l1 false _ ?side1 ?side2 A6.out).mono ?_); (case side1 => repeat (first | exact (Kd.C_below HR1.out HB.out) | (with_reducible refine Kd.C_alloc ?_ _) | (with_reducible refine Kd.C_drewN ?_ _) | (with_reducible refine Kd.C_drew ?_))); (case side2 => exact HC1.out); rintro e w11 ⟨rfl, hb⟩; replace HB := HB.s0 hb; (try clear hb)))
    go_meet
    case rel => exact ⟨_, (true), (by first | rfl | (simp; done) | (simp [*]; done)), H', ⟨by first | omega | exact Nat.le_refl _⟩, ⟨hb0_ HB.out⟩⟩
  ·replace c5 := Bool.eq_false_iff.mpr c5
   subst c5
   have H1 : (impl_CountLoopsOf.j0 k l0 l1 true) = some r := by rw [if_neg (show ¬ (false = true) by decide)] at H; exact H
   clear H
   have H := H1
   clear H1
   have H' := Aside0.mk H
   clear H
   go_wp2_with (first | (refine gl_ 9 Try.func26 #[.slice A0 l0.length c0] ?_; (with_reducible refine (impl_ArchesOk.calls k _ _ l0 false _ ?side1 ?side2 A4.out).mono ?_); (case side1 => repeat (first | exact (Kd.C_below HR0.out HB.out) | (with_reducible refine Kd.C_alloc ?_ _) | (with_reducible refine Kd.C_drewN ?_ _) | (with_reducible refine Kd.C_drew ?_))); (case side2 => exact HC0.out); rintro e w12 ⟨rfl, hb⟩; refine ⟨_, rfl, ?_⟩; replace HB := HB.s0 hb; (try clear hb)))
   go_meet
   case rel => exact ⟨_, (true), (by first | rfl | (simp; done) | (simp [*]; done)), H', ⟨by first | omega | exact Nat.le_refl _⟩, ⟨hb0_ HB.out⟩⟩
 case rest =>
  clear HC3
  try clear c1
  try clear c2
  try clear p2
  try clear c5
  try clear c7
  obtain ⟨kq, x22_2, rfl, HA, HJ2, HB⟩ := hcut
  cases kq with
  | zero => exact absurd HA.out (by simp [impl_CountLoopsOf.j0])
  | succ kj2 =>
   have H := HA.out
   clear HA
   simp only [impl_CountLoopsOf.j0] at H
   by_cases c13 : x22_2 = true
   ·subst c13
    have H1 : (some 0) = some r := by rw [if_pos rfl] at H; exact H
    clear H
    have H := H1
    clear H1
    obtain rfl := Option.some.inj H
    go_wp2
    go_ret
    exact ⟨ex_, hb0_ HB.out⟩
   ·replace c13 := Bool.eq_false_iff.mpr c13
    subst c13
    have H1 : (if 0 ≤ (l0.length : Int) then (if ((l0.length : Int) : Int).toNat ≤ 281474976710656 then ((some (List.replicate ((l0.length : Int) : Int).toNat false : List Bool)).bind fun y503 => (impl_CountLoopsOf.l0 kj2 l0 l1 y503 0 (y503.length : Int) 0)) else (none)) else (none)) = some r := by rw [if_neg (show ¬ (false = true) by decide)] at H; exact H
    clear H
    have H := H1
    clear H1
    by_cases c14 : 0 ≤ (l0.length : Int)
    ·rw [if_pos c14] at H
     have c14b0 := eq_true c14
     have c14b1 : decide (0 ≤ (l0.length : Int)) = true := decide_eq_true c14
     clear c14
     by_cases c15 : ((l0.length : Int) : Int).toNat ≤ 281474976710656
     ·rw [if_pos c15] at H
      have c15b0 := eq_true c15
      have c15b1 : decide (((l0.length : Int) : Int).toNat ≤ 281474976710656) = true := decide_eq_true c15
      clear c15
      obtain ⟨y503, hy503⟩ : ∃ y_ : List Bool, y_ = (List.replicate ((l0.length : Int) : Int).toNat false) := ⟨_, rfl⟩
      replace H : (impl_CountLoopsOf.l0 kj2 l0 l1 y503 0 (y503.length : Int) 0) = some r := by first | (rw [hy503]; with_reducible exact H) | (have H2_ := (Option.bind_some _ _).symm.trans H; rw [hy503]; with_reducible exact H2_) | (have H2_ := (Option.bind_some _ _).symm.trans H; with_reducible exact H2_) | with_reducible exact H | (rw [hy503]; exact H) | exact H
      have Ny503 := Aside0.mk hy503
      clear hy503
      have H' := Aside0.mk H
      clear H
      go_wp2_with (first | ((with_reducible refine gate_dst (N := 25) rfl ?_); (try (refine gate_guard (by rfl) ?_; dsimp only)); refine Kd.R_make Kd.bool _ 4 rfl (N := 25) rfl 49 _ _ rfl (l0.length : Int) rfl rfl Try.underlying49 (.bool false) 1 info4 rfl (by decide) (by omega) false (ok := fun _ => True) (okp := fun _ => True) rfl (fun _ hk => hk) trivial (of_decide_eq_true (as_)) (Nat.le_trans (Nat.mul_le_mul_right _ (of_decide_eq_true (as_) : (l0.length : Int).toNat ≤ 281474976710656)) (by omega)) (Below.refl _ _) (Nat.le_refl _) ?_; intro v504 w16 ho17 hb hg_ hnew_; clear hg_ hnew_; (first | rw [← Ny503.out] at ho17 | (simp only [Int.reduceToNat] at ho17; rw [← Ny503.out] at ho17)); have HO505 := Aside0.mk (Kd.R_lower ho17 (below_size (hb0_ HB.out))); replace HB := HB.s0 hb; clear hb ho17; obtain ⟨Ao18, co18, eo18⟩ := Kd.R_slice HO505.out; subst eo18))
      go_loopg [6, 28] kj2 (fun kq v6 v28 w' => ∃ (x5_2 : List Bool) (x6_2 : Int) (x28_2 : Int), v6 = .int .i64 x6_2 ∧ v28 = .int .i64 x28_2 ∧ Aside0 (impl_CountLoopsOf.l0 kq l0 l1 x5_2 x6_2 (y503.length : Int) x28_2 = some r) ∧ Aside0 (kq ≤ kj2) ∧ Aside0 (Kd.R Kd.bool 4 w' w.heap.size (fun _ => True) (.slice Ao18 y503.length co18) x5_2) ∧ Aside0 (Below w.heap.size w w'))
      case atStart => exact ⟨(y503), (0), (0), (by first | rfl | (simp; done) | (simp [*]; done)), (by first | rfl | (simp; done) | (simp [*]; done)), H', ⟨Nat.le_refl _⟩, ⟨kr_ HO505.out⟩, ⟨hb0_ HB.out⟩⟩
      case round =>
       clear H'
       try clear c1
       try clear c2
       try clear p2
       try clear c5
       try clear c7
       try clear c13
       try clear c14
       try clear c14b0
       try clear c14b1
       try clear c15
       try clear c15b0
       try clear c15b1
       try clear p2
       obtain ⟨x5_2, x6_2, x28_2, rfl, rfl, HA, HK2, HO_5, HB⟩ := hrel
       have hl5_2 := (Kd.R_reads' HO_5.out).1
       rw [hl5_2] at HO_5
       (try simp only [hl5_2])
       cases gk with
       | zero => exact absurd HA.out (by simp [impl_CountLoopsOf.l0])
       | succ k2 =>
        have H := HA.out
        clear HA
        simp only [impl_CountLoopsOf.l0] at H
        by_cases c19 : x28_2 < (y503.length : Int)
        ·rw [if_pos c19] at H
         have c19b0 : decide (x28_2 < (y503.length : Int)) = true := decide_eq_true c19
         clear c19
         by_cases c20 : 0 ≤ x28_2
         ·rw [if_pos c20] at H
          have c20b0 : decide (0 ≤ x28_2) = true := decide_eq_true c20
          clear c20
          by_cases c21 : x28_2 < (x5_2.length : Int)
          ·rw [if_pos c21] at H
           have c21b0 : decide (x28_2 < (x5_2.length : Int)) = true := decide_eq_true c21
           clear c21
           obtain ⟨bq22, hbq22⟩ : ∃ b_ : Bool, b_ = (rdOf false x5_2 x28_2) := ⟨_, rfl⟩
           replace H : (if bq22 = true then (impl_CountLoopsOf.l0 k2 l0 l1 x5_2 x6_2 (y503.length : Int) (wrap64 (x28_2 + 1))) else (impl_CountLoopsOf.l1 k2 l0 l1 x5_2 (wrap64 (x6_2 + 1)) x28_2 (y503.length : Int) x28_2)) = some r := by rw [← hbq22] at H; exact H
           have Nbq22 := Aside0.mk hbq22
           clear hbq22
           by_cases c23 : bq22 = true
           ·subst c23
            have H1 : (impl_CountLoopsOf.l0 k2 l0 l1 x5_2 x6_2 (y503.length : Int) (wrap64 (x28_2 + 1))) = some r := by rw [if_pos rfl] at H; exact H
            clear H
            have H := H1
            clear H1
            have H' := Aside0.mk H
            clear H
            have p506 : 0 ≤ (x28_2 : Int) := of_decide_eq_true (as_)
            have q506 : x28_2 < (x5_2.length : Int) := of_decide_eq_true (as_)
            obtain ⟨ad506, e506, hx506_0⟩ := Kd.at_bool (Kd.R_reads' HO_5.out).2.2 x28_2 p506 q506
            (try rw [← Nbq22.out] at hx506_0)
            cases e506
            replace p506 := eq_true p506
            replace q506 := eq_true q506
            go_wp2
            (try simp only [← hl5_2])
            go_roundg k2
            case measure => have := HJ2.out; have := HK2.out; omega
            case rel => exact ⟨(x5_2), (x6_2), (wrap64 (x28_2 + 1)), (by first | rfl | (simp; done) | (simp [*]; done)), (by first | rfl | (simp; done) | (simp [*]; done)), H', ⟨by have := HJ2.out; have := HK2.out; omega⟩, ⟨by (try simp only [hl5_2]); (with_reducible repeat (first | apply Kd.R_alloc | apply Kd.R_drewN | apply Kd.R_drew)); exact HO_5.out⟩, ⟨hb0_ HB.out⟩⟩
           ·replace c23 := Bool.eq_false_iff.mpr c23
            subst c23
            have H1 : (impl_CountLoopsOf.l1 k2 l0 l1 x5_2 (wrap64 (x6_2 + 1)) x28_2 (y503.length : Int) x28_2) = some r := by rw [if_neg (show ¬ (false = true) by decide)] at H; exact H
            clear H
            have H := H1
            clear H1
            have H' := Aside0.mk H
            clear H
            have p506 : 0 ≤ (x28_2 : Int) := of_decide_eq_true (as_)
            have q506 : x28_2 < (x5_2.length : Int) := of_decide_eq_true (as_)
            obtain ⟨ad506, e506, hx506_0⟩ := Kd.at_bool (Kd.R_reads' HO_5.out).2.2 x28_2 p506 q506
            (try rw [← Nbq22.out] at hx506_0)
            cases e506
            replace p506 := eq_true p506
            replace q506 := eq_true q506
            go_wp2
            (try generalize Addr.add _ (x28_2 : Int).toNat = P506)
            go_loopg [7] k2 (fun kq v7 w' => ∃ (x5_3 : List Bool) (x7_3 : Int), v7 = .int .i64 x7_3 ∧ Aside0 (impl_CountLoopsOf.l1 kq l0 l1 x5_3 (wrap64 (x6_2 + 1)) x7_3 (y503.length : Int) x28_2 = some r) ∧ Aside0 (kq ≤ k2) ∧ Aside0 (Kd.R Kd.bool 4 w' w.heap.size (fun _ => True) (.slice (some ad506) x5_2.length co18) x5_3) ∧ Aside0 (Below w.heap.size w w'))
            case atStart => exact ⟨(x5_2), (x28_2), (by first | rfl | (simp; done) | (simp [*]; done)), H', ⟨Nat.le_refl _⟩, ⟨by (try simp only [hl5_2]); (with_reducible repeat (first | apply Kd.R_alloc | apply Kd.R_drewN | apply Kd.R_drew)); exact HO_5.out⟩, ⟨hb0_ HB.out⟩⟩
            case round =>
             clear H'
             try clear c1
             try clear c2
             try clear p2
             try clear q2
             try clear c5
             try clear p5
             try clear q5
             try clear hx5
             try clear p6
             try clear c7
             try clear c13
             try clear c14
             try clear c14b0
             try clear c14b1
             try clear c15
             try clear c15b0
             try clear c15b1
             try clear c19
             try clear c19b0
             try clear c20
             try clear c20b0
             try clear c21
             try clear c21b0
             try clear c22
             try clear q22
             try clear c23
             try clear hx506_0
             try clear p2
             try clear p506
             try clear q506
             obtain ⟨x5_3, x7_3, rfl, HA, HK3, HO_5, HB⟩ := hrel
             have hl5_3 := (Kd.R_reads' HO_5.out).1
             rw [hl5_3] at HO_5
             (try simp only [hl5_3])
             cases gk with
             | zero => exact absurd HA.out (by simp [impl_CountLoopsOf.l1])
             | succ k3 =>
              have H := HA.out
              clear HA
              simp only [impl_CountLoopsOf.l1] at H
              by_cases c24 : 0 ≤ x7_3
              ·rw [if_pos c24] at H
               have c24b0 : decide (0 ≤ x7_3) = true := decide_eq_true c24
               clear c24
               by_cases c25 : x7_3 < (x5_3.length : Int)
               ·rw [if_pos c25] at H
                have c25b0 : decide (x7_3 < (x5_3.length : Int)) = true := decide_eq_true c25
                clear c25
                obtain ⟨bq26, hbq26⟩ : ∃ b_ : Bool, b_ = (rdOf false x5_3 x7_3) := ⟨_, rfl⟩
                replace H : (if bq26 = true then (impl_CountLoopsOf.l0 k3 l0 l1 x5_3 (wrap64 (x6_2 + 1)) (y503.length : Int) (wrap64 (x28_2 + 1))) else (if x7_3 < (l0.length : Int) then (if 0 ≤ (rd l0 x7_3) then (if (rd l0 x7_3) < (x5_3.length : Int) then (if (rd l0 x7_3) < (l1.length : Int) then (impl_CountLoopsOf.l1 k3 l0 l1 ((x5_3.set (x7_3 : Int).toNat true).set ((rd l0 x7_3) : Int).toNat true) (wrap64 (x6_2 + 1)) (rd l1 (rd l0 x7_3)) (y503.length : Int) x28_2) else (none)) else (none)) else (none)) else (none))) = some r := by rw [← hbq26] at H; exact H
                have Nbq26 := Aside0.mk hbq26
                clear hbq26
                by_cases c27 : bq26 = true
                ·subst c27
                 have H1 : (impl_CountLoopsOf.l0 k3 l0 l1 x5_3 (wrap64 (x6_2 + 1)) (y503.length : Int) (wrap64 (x28_2 + 1))) = some r := by rw [if_pos rfl] at H; exact H
                 clear H
                 have H := H1
                 clear H1
                 have H' := Aside0.mk H
                 clear H
                 have p507 : 0 ≤ (x7_3 : Int) := of_decide_eq_true (as_)
                 have q507 : x7_3 < (x5_3.length : Int) := of_decide_eq_true (as_)
                 obtain ⟨ad507, e507, hx507_0⟩ := Kd.at_bool (Kd.R_reads' HO_5.out).2.2 x7_3 p507 q507
                 (try rw [← Nbq22.out] at hx507_0)
                 (try rw [← Nbq26.out] at hx507_0)
                 obtain rfl : ad506 = ad507 := (by injection e507)
                 replace p507 := eq_true p507
                 replace q507 := eq_true q507
                 go_wp2
                 (try simp only [← hl5_2, ← hl5_3])
                 go_roundg k3
                 case measure => have := HJ2.out; have := HK2.out; have := HK3.out; omega
                 case rel => exact ⟨(x5_3), ((wrap64 (x6_2 + 1))), (wrap64 (x28_2 + 1)), (by first | rfl | (simp; done) | (simp [*]; done)), (by first | rfl | (simp; done) | (simp [*]; done)), H', ⟨by have := HJ2.out; have := HK2.out; have := HK3.out; omega⟩, ⟨by (try simp only [hl5_2]); (try simp only [hl5_3]); (with_reducible repeat (first | apply Kd.R_alloc | apply Kd.R_drewN | apply Kd.R_drew)); exact HO_5.out⟩, ⟨hb0_ HB.out⟩⟩
                ·replace c27 := Bool.eq_false_iff.mpr c27
                 subst c27
                 have H1 : (if x7_3 < (l0.length : Int) then (if 0 ≤ (rd l0 x7_3) then (if (rd l0 x7_3) < (x5_3.length : Int) then (if (rd l0 x7_3) < (l1.length : Int) then (impl_CountLoopsOf.l1 k3 l0 l1 ((x5_3.set (x7_3 : Int).toNat true).set ((rd l0 x7_3) : Int).toNat true) (wrap64 (x6_2 + 1)) (rd l1 (rd l0 x7_3)) (y503.length : Int) x28_2) else (none)) else (none)) else (none)) else (none)) = some r := by rw [if_neg (show ¬ (false = true) by decide)] at H; exact H
                 clear H
                 have H := H1
                 clear H1
                 by_cases c28 : x7_3 < (l0.length : Int)
                 ·rw [if_pos c28] at H
                  have c28b0 : decide (x7_3 < (l0.length : Int)) = true := decide_eq_true c28
                  clear c28
                  obtain ⟨y509, hy509⟩ : ∃ y_ : List Bool, y_ = (x5_3.set (x7_3 : Int).toNat true) := ⟨_, rfl⟩
                  replace H : (if 0 ≤ (rd l0 x7_3) then (if (rd l0 x7_3) < (x5_3.length : Int) then (if (rd l0 x7_3) < (l1.length : Int) then (impl_CountLoopsOf.l1 k3 l0 l1 (y509.set ((rd l0 x7_3) : Int).toNat true) (wrap64 (x6_2 + 1)) (rd l1 (rd l0 x7_3)) (y503.length : Int) x28_2) else (none)) else (none)) else (none)) = some r := by first | (rw [hy509]; with_reducible exact H) | (have H2_ := (Option.bind_some _ _).symm.trans H; rw [hy509]; with_reducible exact H2_) | (have H2_ := (Option.bind_some _ _).symm.trans H; with_reducible exact H2_) | with_reducible exact H | (rw [hy509]; exact H) | exact H
                  have Ny509 := Aside0.mk hy509
                  clear hy509
                  by_cases c30 : 0 ≤ (rd l0 x7_3)
                  ·rw [if_pos c30] at H
                   have c30b0 : decide (0 ≤ (rd l0 x7_3)) = true := decide_eq_true c30
                   clear c30
                   by_cases c31 : (rd l0 x7_3) < (x5_3.length : Int)
                   ·rw [if_pos c31] at H
                    have c31b0 : decide ((rd l0 x7_3) < (x5_3.length : Int)) = true := decide_eq_true c31
                    clear c31
                    obtain ⟨y510, hy510⟩ : ∃ y_ : List Bool, y_ = (y509.set ((rd l0 x7_3) : Int).toNat true) := ⟨_, rfl⟩
                    replace H : (if (rd l0 x7_3) < (l1.length : Int) then (impl_CountLoopsOf.l1 k3 l0 l1 y510 (wrap64 (x6_2 + 1)) (rd l1 (rd l0 x7_3)) (y503.length : Int) x28_2) else (none)) = some r := by first | (rw [hy510]; with_reducible exact H) | (have H2_ := (Option.bind_some _ _).symm.trans H; rw [hy510]; with_reducible exact H2_) | (have H2_ := (Option.bind_some _ _).symm.trans H; with_reducible exact H2_) | with_reducible exact H | (rw [hy510]; exact H) | exact H
                    have Ny510 := Aside0.mk hy510
                    clear hy510
                    by_cases c33 : (rd l0 x7_3) < (l1.length : Int)
                    ·rw [if_pos c33] at H
                     have c33b0 : decide ((rd l0 x7_3) < (l1.length : Int)) = true := decide_eq_true c33
                     clear c33
                     have H' := Aside0.mk H
                     clear H
                     have p507 : 0 ≤ (x7_3 : Int) := of_decide_eq_true (as_)
                     have q507 : x7_3 < (x5_3.length : Int) := of_decide_eq_true (as_)
                     obtain ⟨ad507, e507, hx507_0⟩ := Kd.at_bool (Kd.R_reads' HO_5.out).2.2 x7_3 p507 q507
                     (try rw [← Nbq22.out] at hx507_0)
                     (try rw [← Nbq26.out] at hx507_0)
                     obtain rfl : ad506 = ad507 := (by injection e507)
                     replace p507 := eq_true p507
                     replace q507 := eq_true q507
                     have p508 : 0 ≤ (x7_3 : Int) := of_decide_eq_true (as_)
                     have q508 : x7_3 < (l0.length : Int) := of_decide_eq_true (as_)
                     obtain ⟨ad508, e508, hx508_0⟩ := Kd.at_int HR0.out x7_3 p508 q508
                     cases e508
                     replace hx508_0 := (HB.out.cell (World.block_lt_of_cell? w _ hx508_0)).trans hx508_0
                     replace p508 := eq_true p508
                     replace q508 := eq_true q508
                     have p29 : 0 ≤ (x7_3 : Int) := of_decide_eq_true (as_)
                     have q29 : (x7_3 : Int) < ((x5_3.length : Int) : Int) := of_decide_eq_true (as_)
                     obtain ⟨go29, co29, eo29, gb29, gl29, cl29, HG29⟩ := Kd.R_form HO_5.out (by omega)
                     (first | cases eo29 | (injection eo29 with ea_ en_ ec_; (first | subst ea_ | (injection ea_ with ea_; subst ea_)); subst ec_; clear en_))
                     have GB29 := Aside0.mk gb29
                     have GG29 := Aside0.mk HG29
                     clear gb29 gl29 HG29
                     (first | simp only [add_plain] at hx506_0 | skip)
                     (first | simp only [add_plain] at hx507_0 | skip)
                     obtain ⟨hx29_0, hf29_0⟩ := Kd.R_celln false HO_5.out (x7_3 : Int) p29 q29
                     replace p29 := eq_true p29
                     replace q29 := eq_true q29
                     have HP34 := Kd.R_putg HO_5.out (x7_3 : Int) true
                     go_wp2_with (first | ((with_reducible refine gate_store (t := 4) (p := 49) rfl ?_); refine store_event (t := 4) (p := 49) (v := ?vo_w35) (w1 := (wr.setCell ⟨go29, (x7_3 : Int).toNat, none⟩ (.bool true))) ?hg ?ho ?hn ?hr ?_; (case ho => rfl); (case hg => rfl); (case hn => rfl); (case hr => first | (go_simp; done) | (go_simp; rfl)); intro w35 hw; have hg : wr.grownBy w35 (some go29) := (by rw [hw]; exact HP34.2); have hp_ : Kd.R Kd.bool 4 w35 w.heap.size (fun _ => True) (.slice (some ⟨go29, 0, none⟩) x5_3.length co18) y509 := (by rw [hw, Ny509.out]; exact HP34.1); clear HP34; replace HO_5 := Aside0.mk (hp_); replace HB := Aside0.mk ((by rw [hw]; exact below_set (HB.out) GB29.out : Below w.heap.size w w35)); clear hg hw hp_; have p32 : 0 ≤ ((rd l0 x7_3) : Int) := of_decide_eq_true (as_); have q32 : ((rd l0 x7_3) : Int) < ((x5_3.length : Int) : Int) := of_decide_eq_true (as_); obtain ⟨hx32_0, hf32_0⟩ := Kd.R_celln false HO_5.out ((rd l0 x7_3) : Int) p32 q32; replace p32 := eq_true p32; replace q32 := eq_true q32; obtain ⟨hy36_, hz36_⟩ := Kd.R_celln false HO_5.out ((rd l0 x7_3) : Int) (of_decide_eq_true (as_)) (of_decide_eq_true (as_)); have HP36 := Kd.R_putg HO_5.out ((rd l0 x7_3) : Int) true) | ((with_reducible refine gate_store (t := 4) (p := 50) rfl ?_); refine store_event (t := 4) (p := 50) (v := ?vo_w37) (w1 := (w35.setCell ⟨go29, ((rd l0 x7_3) : Int).toNat, none⟩ (.bool true))) ?hg ?ho ?hn ?hr ?_; (case ho => rfl); (case hg => rfl); (case hn => rfl); (case hr => first | (go_simp; done) | (go_simp; rfl)); intro w37 hw; have hg : w35.grownBy w37 (some go29) := (by rw [hw]; exact HP36.2); have hp_ : Kd.R Kd.bool 4 w37 w.heap.size (fun _ => True) (.slice (some ⟨go29, 0, none⟩) x5_3.length co18) y510 := (by rw [hw, Ny510.out]; exact HP36.1); clear HP36; replace HO_5 := Aside0.mk (hp_); replace HB := Aside0.mk ((by rw [hw]; exact below_set (HB.out) GB29.out : Below w.heap.size w w37)); clear hg hw hp_; have p511 : 0 ≤ (x7_3 : Int) := of_decide_eq_true (as_); have q511 : x7_3 < (l0.length : Int) := of_decide_eq_true (as_); obtain ⟨ad511, e511, hx511_0⟩ := Kd.at_int HR0.out x7_3 p511 q511; obtain rfl : ad508 = ad511 := (by injection e511); replace hx511_0 := (HB.out.cell (World.block_lt_of_cell? w _ hx511_0)).trans hx511_0; replace p511 := eq_true p511; replace q511 := eq_true q511; have p512 : 0 ≤ ((rd l0 x7_3) : Int) := of_decide_eq_true (as_); have q512 : (rd l0 x7_3) < (l1.length : Int) := of_decide_eq_true (as_); obtain ⟨ad512, e512, hx512_0⟩ := Kd.at_int HR1.out (rd l0 x7_3) p512 q512; cases e512; replace hx512_0 := (HB.out.cell (World.block_lt_of_cell? w _ hx512_0)).trans hx512_0; replace p512 := eq_true p512; replace q512 := eq_true q512))
                     (try simp only [← hl5_3])
                     go_roundg k3
                     case measure => have := HJ2.out; have := HK2.out; have := HK3.out; omega
                     case rel => exact ⟨(y510), (rd l1 (rd l0 x7_3)), (by first | rfl | (simp; done) | (simp [*]; done)), H', ⟨by have := HJ2.out; have := HK2.out; have := HK3.out; omega⟩, ⟨by (try simp only [hl5_2]); (try simp only [hl5_3]); (with_reducible repeat (first | apply Kd.R_alloc | apply Kd.R_drewN | apply Kd.R_drew)); exact HO_5.out⟩, ⟨hb0_ HB.out⟩⟩
                    ·rw [if_neg c33] at H
                     exact absurd H (by simp)
                   ·rw [if_neg c31] at H
                    exact absurd H (by simp)
                  ·rw [if_neg c30] at H
                   exact absurd H (by simp)
                 ·rw [if_neg c28] at H
                  exact absurd H (by simp)
               ·rw [if_neg c25] at H
                exact absurd H (by simp)
              ·rw [if_neg c24] at H
               exact absurd H (by simp)
          ·rw [if_neg c21] at H
           exact absurd H (by simp)
         ·rw [if_neg c20] at H
          exact absurd H (by simp)
        ·rw [if_neg c19] at H
         have c19b0 : decide (x28_2 < (y503.length : Int)) = false := decide_eq_false c19
         (try rw [hl5_2] at c19b0)
         clear c19
         obtain rfl := Option.some.inj H
         go_wp2
         go_ret
         exact ⟨ex_, hb0_ HB.out⟩
     ·rw [if_neg c15] at H
      exact absurd H (by simp)
    ·rw [if_neg c14] at H
     exact absurd H (by simp)

end Go.Proofs.Ytkkjlbpffcdlfaa.X
