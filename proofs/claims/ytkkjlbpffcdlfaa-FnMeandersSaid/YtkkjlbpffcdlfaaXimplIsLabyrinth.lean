-- Written by a program of this session (xprint.py), out of the translation and of hand-written contracts. Lean checks it.
import Derived.Test.YtkkjlbpffcdlfaaX0
import Derived.Test.YtkkjlbpffcdlfaaXimplCircuitsOk
import Derived.Test.YtkkjlbpffcdlfaaXimplIsLabyrinth1
import Derived.Test.YtkkjlbpffcdlfaaXimplStepPairs
import Derived.Test.YtkkjlbpffcdlfaaXimplnoCross
namespace Go.Proofs.Ytkkjlbpffcdlfaa.X
open Go.RowKit Go.Proofs.YtkkjlbpffcdlfaaW.PrintWords Go.Proofs.YtkkjlbpffcdlfaaW.PrintLast Go.Proofs.YtkkjlbpffcdlfaaW.PrintMore
attribute [local go_sem] max2_int min2_int max_two min_two max_three min_three max_four min_four   -- for this text's walks alone
set_option linter.unusedVariables false
set_option linter.unusedSimpArgs false

/-! ### impl_IsLabyrinth: function 50 -/
def impl_IsLabyrinth.l0 : Nat → List Int → Int → Option (Bool)
 | 0, _, _ => none
 | k + 1, x0, x3 => if x3 ≤ 1 then ((impl_StepPairs.f k x0 x3).bind fun t502 => ((impl_noCross.f k t502).bind fun t505 => (if t505 = true then ((contains_even.f t502).bind fun t506 => (if t506 = true then (some false) else (impl_IsLabyrinth.l0 k x0 (wrap64 (x3 + 1))))) else (some false)))) else (some true)
def impl_IsLabyrinth.f (k : Nat) (l0 : List Int) : Option (Bool) := (impl_CircuitsOk.f k l0).bind fun t501 => (if t501 = true then (impl_IsLabyrinth.l0 k l0 0) else (some false))
theorem impl_IsLabyrinth.mono_l : ∀ k, (∀ y0 y1, LeO (impl_IsLabyrinth.l0 k y0 y1) (impl_IsLabyrinth.l0 (k + 1) y0 y1))
 | 0 => fun _ _ r h => by simp [impl_IsLabyrinth.l0] at h
 | k + 1 => by
  have ih0 := impl_IsLabyrinth.mono_l k
  ·intro y0 y1
   unfold impl_IsLabyrinth.l0
   repeat' first
   | (with_reducible exact ih0 ..)
   | (with_reducible exact impl_CircuitsOk.mono ..)
   | (with_reducible exact impl_StepPairs.mono ..)
   | (with_reducible exact impl_noCross.mono ..)
   | (with_reducible first | exact lr_ _ | exact ln_ _ | refine li_ ?_ ?_ | refine lb_ ?_ fun _ => ?_)
   | exact ih0 ..
   | exact impl_CircuitsOk.mono ..
   | exact impl_StepPairs.mono ..
   | exact impl_noCross.mono ..
   | exact ln_ _ | refine li_ ?_ ?_ | refine lb_ ?_ fun _ => ?_
theorem impl_IsLabyrinth.mono : ∀ a0 k, LeO (impl_IsLabyrinth.f k a0) (impl_IsLabyrinth.f (k + 1) a0) := by
 intro a0 k
 have ih0 := impl_IsLabyrinth.mono_l k
 unfold impl_IsLabyrinth.f
 repeat' first
   | (with_reducible exact ih0 ..)
   | (with_reducible exact impl_CircuitsOk.mono ..)
   | (with_reducible exact impl_StepPairs.mono ..)
   | (with_reducible exact impl_noCross.mono ..)
   | (with_reducible first | exact lr_ _ | exact ln_ _ | refine li_ ?_ ?_ | refine lb_ ?_ fun _ => ?_)
   | exact ih0 ..
   | exact impl_CircuitsOk.mono ..
   | exact impl_StepPairs.mono ..
   | exact impl_noCross.mono ..
   | exact ln_ _ | refine li_ ?_ ?_ | refine lb_ ?_ fun _ => ?_
set_option maxHeartbeats 8000000 in
set_option maxRecDepth 100000 in
theorem impl_IsLabyrinth.calls (k : Nat) (A0 : Option Addr) (c0 : Nat) (l0 : List Int) (r : Bool) (w : World) (hr0 : Kd.C (Kd.int .i64) w A0 l0.length l0) (hc0 : l0.length ≤ c0) (h : impl_IsLabyrinth.f k l0 = some r) :
  Calls Try.prog 50 #[.slice A0 l0.length c0] w fun e w' => e = .returned (.bool r) ∧ Below w.heap.size w w' := by
 have HR0 := Aside0.mk hr0
 have HC0 := Aside0.mk hc0
 clear hr0 hc0
 have HB := Aside0.mk (Below.refl w.heap.size w)
 have H : ((impl_CircuitsOk.f k l0).bind fun t501 => (if t501 = true then (impl_IsLabyrinth.l0 k l0 0) else (some false))) = some r := h
 clear h
 replace H := Option.bind_eq_some_iff.mp H
 obtain ⟨t501, A20, H⟩ := H
 replace H : (if t501 = true then (impl_IsLabyrinth.l0 k l0 0) else (some false)) = some r := H
 have A2 := Aside0.mk A20
 clear A20
 by_cases c3 : t501 = true
 ·subst c3
  have H1 : (impl_IsLabyrinth.l0 k l0 0) = some r := by rw [if_pos rfl] at H; exact H
  clear H
  have H := H1
  clear H1
  have H' := Aside0.mk H
  clear H
  go_enter Try.func50, Try.ntmps50
  go_wp2_with (first | (refine gl_ 6 Try.func29 #[.slice A0 l0.length c0] ?_; (with_reducible refine (impl_CircuitsOk.calls k _ _ l0 true _ ?side1 ?side2 A2.out).mono ?_); (case side1 => exact kc_ HR0.out); (case side2 => exact HC0.out); rintro e w' ⟨rfl, ⟨nd, rfl⟩⟩; refine ⟨_, rfl, ?_⟩))
  go_loopg [3] k (fun kq v3 w' => ∃ (x3_1 : Int), v3 = .int .i64 x3_1 ∧ Aside0 (impl_IsLabyrinth.l0 kq l0 x3_1 = some r) ∧ Aside0 (kq ≤ k) ∧ Aside0 (Below w.heap.size w w'))
  case atStart => exact ⟨(0), (by first | rfl | (simp; done) | (simp [*]; done)), H', ⟨Nat.le_refl _⟩, ⟨hb0_ HB.out⟩⟩
  case round =>
   clear H'
   try clear c2
   try clear p2
   try clear c3
   obtain ⟨x3_1, rfl, HA, HK1, HB⟩ := hrel
   cases gk with
   | zero => exact absurd HA.out (by simp [impl_IsLabyrinth.l0])
   | succ k1 =>
    have H := HA.out
    clear HA
    simp only [impl_IsLabyrinth.l0] at H
    by_cases c4 : x3_1 ≤ 1
    ·rw [if_pos c4] at H
     have c4b0 : decide (x3_1 ≤ 1) = true := decide_eq_true c4
     clear c4
     replace H := Option.bind_eq_some_iff.mp H
     obtain ⟨t502, A50, H⟩ := H
     replace H : ((impl_noCross.f k1 t502).bind fun t505 => (if t505 = true then ((contains_even.f t502).bind fun t506 => (if t506 = true then (some false) else (impl_IsLabyrinth.l0 k1 l0 (wrap64 (x3_1 + 1))))) else (some false))) = some r := H
     have A5 := Aside0.mk A50
     clear A50
     replace H := Option.bind_eq_some_iff.mp H
     obtain ⟨t505, A60, H⟩ := H
     replace H : (if t505 = true then ((contains_even.f t502).bind fun t506 => (if t506 = true then (some false) else (impl_IsLabyrinth.l0 k1 l0 (wrap64 (x3_1 + 1))))) else (some false)) = some r := H
     have A6 := Aside0.mk A60
     clear A60
     by_cases c7 : t505 = true
     ·subst c7
      have H1 : ((contains_even.f t502).bind fun t506 => (if t506 = true then (some false) else (impl_IsLabyrinth.l0 k1 l0 (wrap64 (x3_1 + 1))))) = some r := by rw [if_pos rfl] at H; exact H
      clear H
      have H := H1
      clear H1
      replace H := Option.bind_eq_some_iff.mp H
      obtain ⟨t506, A80, H⟩ := H
      replace H : (if t506 = true then (some false) else (impl_IsLabyrinth.l0 k1 l0 (wrap64 (x3_1 + 1)))) = some r := H
      have A8 := Aside0.mk A80
      clear A80
      by_cases c9 : t506 = true
      ·subst c9
       have H1 : (some false) = some r := by rw [if_pos rfl] at H; exact H
       clear H
       have H := H1
       clear H1
       obtain rfl := Option.some.inj H
       go_wp2_with (first | (refine gl_ 14 Try.func9 #[.slice A0 l0.length c0, .int .i64 x3_1] ?_; (with_reducible refine (impl_StepPairs.calls k1 _ _ l0 x3_1 t502 _ ?side1 ?side2 A5.out).mono ?_); (case side1 => repeat (first | exact (Kd.C_below HR0.out HB.out) | (with_reducible refine Kd.C_alloc ?_ _) | (with_reducible refine Kd.C_drewN ?_ _) | (with_reducible refine Kd.C_drew ?_))); (case side2 => exact HC0.out); rintro e w10 ⟨v503, rfl, ho0, hb⟩; refine ⟨_, rfl, ?_⟩; have HO504 := Aside0.mk (Kd.S_lower ho0 (below_size (hb0_ HB.out))); replace HB := HB.s0 hb; (try clear hb); (try clear ho0); obtain ⟨Ao11, co11, eo11⟩ := Kd.S_slice HO504.out; subst eo11) | (refine gl_ 16 Try.func40 #[.slice Ao11 t502.length co11] ?_; (with_reducible refine (impl_noCross.calls k1 _ _ t502 true _ ?side1 ?side2 A6.out).mono ?_); (case side1 => repeat (first | exact (Kd.S_reads' HO504.out).2.2 | (with_reducible refine Kd.C_alloc ?_ _) | (with_reducible refine Kd.C_drewN ?_ _) | (with_reducible refine Kd.C_drew ?_))); (case side2 => exact (Kd.S_reads' HO504.out).2.1); rintro e w12 ⟨rfl, hb⟩; refine ⟨_, rfl, ?_⟩; replace HO504 := Aside0.mk (Kd.S_below (by (with_reducible repeat (first | apply Kd.S_alloc | apply Kd.S_drewN | apply Kd.S_drew)); exact HO504.out) hb); replace HB := HB.s0 hb; (try clear hb)) | (go_at_call 66; (with_reducible refine (contains_even.calls _ _ t502 true _ ?side1 ?side2 A8.out).mono ?_); (case side1 => repeat (first | exact (Kd.S_reads' HO504.out).2.2 | (with_reducible refine Kd.C_alloc ?_ _) | (with_reducible refine Kd.C_drewN ?_ _) | (with_reducible refine Kd.C_drew ?_))); (case side2 => exact (Kd.S_reads' HO504.out).2.1); rintro e w13 ⟨rfl, hb⟩; replace HO504 := Aside0.mk (Kd.S_below (by (with_reducible repeat (first | apply Kd.S_alloc | apply Kd.S_drewN | apply Kd.S_drew)); exact HO504.out) hb); replace HB := HB.s0 hb; (try clear hb)))
       go_ret
       exact ⟨ex_, hb0_ HB.out⟩
      ·replace c9 := Bool.eq_false_iff.mpr c9
       subst c9
       have H1 : (impl_IsLabyrinth.l0 k1 l0 (wrap64 (x3_1 + 1))) = some r := by rw [if_neg (show ¬ (false = true) by decide)] at H; exact H
       clear H
       have H := H1
       clear H1
       have H' := Aside0.mk H
       clear H
       go_wp2_with (first | (refine gl_ 14 Try.func9 #[.slice A0 l0.length c0, .int .i64 x3_1] ?_; (with_reducible refine (impl_StepPairs.calls k1 _ _ l0 x3_1 t502 _ ?side1 ?side2 A5.out).mono ?_); (case side1 => repeat (first | exact (Kd.C_below HR0.out HB.out) | (with_reducible refine Kd.C_alloc ?_ _) | (with_reducible refine Kd.C_drewN ?_ _) | (with_reducible refine Kd.C_drew ?_))); (case side2 => exact HC0.out); rintro e w14 ⟨v503, rfl, ho0, hb⟩; refine ⟨_, rfl, ?_⟩; have HO504 := Aside0.mk (Kd.S_lower ho0 (below_size (hb0_ HB.out))); replace HB := HB.s0 hb; (try clear hb); (try clear ho0); obtain ⟨Ao15, co15, eo15⟩ := Kd.S_slice HO504.out; subst eo15) | (refine gl_ 16 Try.func40 #[.slice Ao15 t502.length co15] ?_; (with_reducible refine (impl_noCross.calls k1 _ _ t502 true _ ?side1 ?side2 A6.out).mono ?_); (case side1 => repeat (first | exact (Kd.S_reads' HO504.out).2.2 | (with_reducible refine Kd.C_alloc ?_ _) | (with_reducible refine Kd.C_drewN ?_ _) | (with_reducible refine Kd.C_drew ?_))); (case side2 => exact (Kd.S_reads' HO504.out).2.1); rintro e w16 ⟨rfl, hb⟩; refine ⟨_, rfl, ?_⟩; replace HO504 := Aside0.mk (Kd.S_below (by (with_reducible repeat (first | apply Kd.S_alloc | apply Kd.S_drewN | apply Kd.S_drew)); exact HO504.out) hb); replace HB := HB.s0 hb; (try clear hb)) | (go_at_call 66; (with_reducible refine (contains_even.calls _ _ t502 false _ ?side1 ?side2 A8.out).mono ?_); (case side1 => repeat (first | exact (Kd.S_reads' HO504.out).2.2 | (with_reducible refine Kd.C_alloc ?_ _) | (with_reducible refine Kd.C_drewN ?_ _) | (with_reducible refine Kd.C_drew ?_))); (case side2 => exact (Kd.S_reads' HO504.out).2.1); rintro e w17 ⟨rfl, hb⟩; replace HO504 := Aside0.mk (Kd.S_below (by (with_reducible repeat (first | apply Kd.S_alloc | apply Kd.S_drewN | apply Kd.S_drew)); exact HO504.out) hb); replace HB := HB.s0 hb; (try clear hb)))
       go_roundg k1
       case measure => have := HK1.out; omega
       case rel => exact ⟨(wrap64 (x3_1 + 1)), (by first | rfl | (simp; done) | (simp [*]; done)), H', ⟨by have := HK1.out; omega⟩, ⟨hb0_ HB.out⟩⟩
     ·replace c7 := Bool.eq_false_iff.mpr c7
      subst c7
      have H1 : (some false) = some r := by rw [if_neg (show ¬ (false = true) by decide)] at H; exact H
      clear H
      have H := H1
      clear H1
      obtain rfl := Option.some.inj H
      go_wp2_with (first | (refine gl_ 14 Try.func9 #[.slice A0 l0.length c0, .int .i64 x3_1] ?_; (with_reducible refine (impl_StepPairs.calls k1 _ _ l0 x3_1 t502 _ ?side1 ?side2 A5.out).mono ?_); (case side1 => repeat (first | exact (Kd.C_below HR0.out HB.out) | (with_reducible refine Kd.C_alloc ?_ _) | (with_reducible refine Kd.C_drewN ?_ _) | (with_reducible refine Kd.C_drew ?_))); (case side2 => exact HC0.out); rintro e w18 ⟨v503, rfl, ho0, hb⟩; refine ⟨_, rfl, ?_⟩; have HO504 := Aside0.mk (Kd.S_lower ho0 (below_size (hb0_ HB.out))); replace HB := HB.s0 hb; (try clear hb); (try clear ho0); obtain ⟨Ao19, co19, eo19⟩ := Kd.S_slice HO504.out; subst eo19) | (refine gl_ 16 Try.func40 #[.slice Ao19 t502.length co19] ?_; (with_reducible refine (impl_noCross.calls k1 _ _ t502 false _ ?side1 ?side2 A6.out).mono ?_); (case side1 => repeat (first | exact (Kd.S_reads' HO504.out).2.2 | (with_reducible refine Kd.C_alloc ?_ _) | (with_reducible refine Kd.C_drewN ?_ _) | (with_reducible refine Kd.C_drew ?_))); (case side2 => exact (Kd.S_reads' HO504.out).2.1); rintro e w20 ⟨rfl, hb⟩; refine ⟨_, rfl, ?_⟩; replace HO504 := Aside0.mk (Kd.S_below (by (with_reducible repeat (first | apply Kd.S_alloc | apply Kd.S_drewN | apply Kd.S_drew)); exact HO504.out) hb); replace HB := HB.s0 hb; (try clear hb)))
      go_ret
      exact ⟨ex_, hb0_ HB.out⟩
    ·rw [if_neg c4] at H
     have c4b0 : decide (x3_1 ≤ 1) = false := decide_eq_false c4
     clear c4
     obtain rfl := Option.some.inj H
     go_wp2
     go_ret
     exact ⟨ex_, hb0_ HB.out⟩
 ·replace c3 := Bool.eq_false_iff.mpr c3
  subst c3
  have H1 : (some false) = some r := by rw [if_neg (show ¬ (false = true) by decide)] at H; exact H
  clear H
  have H := H1
  clear H1
  obtain rfl := Option.some.inj H
  go_enter Try.func50, Try.ntmps50
  go_wp2_with (first | (refine gl_ 6 Try.func29 #[.slice A0 l0.length c0] ?_; (with_reducible refine (impl_CircuitsOk.calls k _ _ l0 false _ ?side1 ?side2 A2.out).mono ?_); (case side1 => exact kc_ HR0.out); (case side2 => exact HC0.out); rintro e w' ⟨rfl, ⟨nd, rfl⟩⟩; refine ⟨_, rfl, ?_⟩))
  go_ret
  exact ⟨ex_, hb0_ HB.out⟩

end Go.Proofs.Ytkkjlbpffcdlfaa.X
