-- Written by a program of this session (xprint.py), out of the translation and of hand-written contracts. Lean checks it.
import Derived.Test.YtlfomjhjeknnmaaX0
import Derived.Test.YtlfomjhjeknnmaaXcgrid
import Derived.Test.YtlfomjhjeknnmaaXcin
import Derived.Test.YtlfomjhjeknnmaaXcmaze
import Derived.Test.YtlfomjhjeknnmaaXspecTimedOk
import Derived.Test.YtlfomjhjeknnmaaXspecl29Maze
import Derived.Test.YtlfomjhjeknnmaaXspecl29Next
namespace Go.Proofs.Ytlfomjhjeknnmaa.X
open Go.RowKit Go.Proofs.YtlfomjhjeknnmaaW.PrintWords Go.Proofs.YtlfomjhjeknnmaaW.PrintLast Go.Proofs.YtlfomjhjeknnmaaW.PrintMore
attribute [local go_sem] max2_int min2_int max_two min_two max_three min_three max_four min_four   -- for this text's walks alone
set_option linter.unusedVariables false
set_option linter.unusedSimpArgs false

/-! ### spec_EarliestAt: function 9 -/
mutual
def spec_EarliestAt.j0 : Nat → Int → Int → Int → Bool → Int → Int → Int → Int → List (S56) → Option (Int)
 | 0, _, _, _, _, _, _, _, _, _ => none
 | k + 1, x1, x2, x3, x34, x502000, x502001, x502002, x502003, x502004 => if x34 = true then (some (-1)) else (if 0 ≤ x1 then (spec_EarliestAt.l0 k x2 x3 (shl .i64 1 x1) 0 0 x502000 x502001 x502002 x502003 x502004) else (none))
def spec_EarliestAt.l0 : Nat → Int → Int → Int → Int → Int → Int → Int → Int → Int → List (S56) → Option (Int)
 | 0, _, _, _, _, _, _, _, _, _, _ => none
 | k + 1, x2, x3, x9, x10, x11, x502000, x502001, x502002, x502003, x502004 => if x11 ≤ 200 then (spec_EarliestAt.j2 k x2 x3 x9 x10 x11 (decide (x10 ≤ x502003)) x502000 x502001 x502002 x502003 x502004) else (spec_EarliestAt.j2 k x2 x3 x9 x10 x11 false x502000 x502001 x502002 x502003 x502004)
def spec_EarliestAt.j2 : Nat → Int → Int → Int → Int → Int → Bool → Int → Int → Int → Int → List (S56) → Option (Int)
 | 0, _, _, _, _, _, _, _, _, _, _, _ => none
 | k + 1, x2, x3, x9, x10, x11, x44, x502000, x502001, x502002, x502003, x502004 => if x44 = true then ((spec_l03Bit.f x9 x3).bind fun t506 => (if t506 = true then (some (wrap64 (x2 + x11))) else ((spec_l29Maze.f k x502000 x502001 x502002 x502003 x502004 (wrap64 (x2 + x11))).bind fun bt507 => ((spec_l29Next.f k bt507.1 bt507.2.1 bt507.2.2 x9).bind fun t510 => (if t510 = x9 then (spec_EarliestAt.l0 k x2 x3 t510 (wrap64 (x10 + 1)) (wrap64 (x11 + 1)) x502000 x502001 x502002 x502003 x502004) else (spec_EarliestAt.l0 k x2 x3 t510 0 (wrap64 (x11 + 1)) x502000 x502001 x502002 x502003 x502004)))))) else (some (-1))
end
def spec_EarliestAt.f (k : Nat) (a0_0 : Int) (a0_1 : Int) (a0_2 : Int) (a0_3 : Int) (l0_4 : List (S56)) (a1 : Int) (a2 : Int) (a3 : Int) : Option (Int) := (spec_TimedOk.f k a0_0 a0_1 a0_2 a0_3 l0_4).bind fun t502 => (if t502 = true then ((spec_l04Has.f a0_0 a0_1 a0_2 a1).bind fun t503 => (if t503 = true then ((spec_l04Has.f a0_0 a0_1 a0_2 a3).bind fun t504 => (if t504 = true then ((spec_l01In.f a2 0 500).bind fun t505 => (spec_EarliestAt.j0 k a1 a2 a3 (!t505) a0_0 a0_1 a0_2 a0_3 l0_4)) else (spec_EarliestAt.j0 k a1 a2 a3 true a0_0 a0_1 a0_2 a0_3 l0_4))) else (spec_EarliestAt.j0 k a1 a2 a3 true a0_0 a0_1 a0_2 a0_3 l0_4))) else (spec_EarliestAt.j0 k a1 a2 a3 true a0_0 a0_1 a0_2 a0_3 l0_4))
theorem spec_EarliestAt.mono_l : ∀ k, (∀ y0 y1 y2 y3 y4 y5 y6 y7 y8, LeO (spec_EarliestAt.j0 k y0 y1 y2 y3 y4 y5 y6 y7 y8) (spec_EarliestAt.j0 (k + 1) y0 y1 y2 y3 y4 y5 y6 y7 y8)) ∧ (∀ y0 y1 y2 y3 y4 y5 y6 y7 y8 y9, LeO (spec_EarliestAt.l0 k y0 y1 y2 y3 y4 y5 y6 y7 y8 y9) (spec_EarliestAt.l0 (k + 1) y0 y1 y2 y3 y4 y5 y6 y7 y8 y9)) ∧ (∀ y0 y1 y2 y3 y4 y5 y6 y7 y8 y9 y10, LeO (spec_EarliestAt.j2 k y0 y1 y2 y3 y4 y5 y6 y7 y8 y9 y10) (spec_EarliestAt.j2 (k + 1) y0 y1 y2 y3 y4 y5 y6 y7 y8 y9 y10))
 | 0 => ⟨fun _ _ _ _ _ _ _ _ _ r h => by simp [spec_EarliestAt.j0] at h, fun _ _ _ _ _ _ _ _ _ _ r h => by simp [spec_EarliestAt.l0] at h, fun _ _ _ _ _ _ _ _ _ _ _ r h => by simp [spec_EarliestAt.j2] at h⟩
 | k + 1 => by
  obtain ⟨ih0, ih1, ih2⟩ := spec_EarliestAt.mono_l k
  refine ⟨?_, ?_, ?_⟩
  ·intro y0 y1 y2 y3 y4 y5 y6 y7 y8
   unfold spec_EarliestAt.j0
   repeat' first
   | (with_reducible exact ih0 ..)
   | (with_reducible exact ih1 ..)
   | (with_reducible exact ih2 ..)
   | (with_reducible exact spec_TimedOk.mono ..)
   | (with_reducible exact spec_l29Maze.mono ..)
   | (with_reducible exact spec_l29Next.mono ..)
   | (with_reducible first | exact lr_ _ | exact ln_ _ | refine li_ ?_ ?_ | refine lb_ ?_ fun _ => ?_)
   | exact ih0 ..
   | exact ih1 ..
   | exact ih2 ..
   | exact spec_TimedOk.mono ..
   | exact spec_l29Maze.mono ..
   | exact spec_l29Next.mono ..
   | exact ln_ _ | refine li_ ?_ ?_ | refine lb_ ?_ fun _ => ?_
  ·intro y0 y1 y2 y3 y4 y5 y6 y7 y8 y9
   unfold spec_EarliestAt.l0
   repeat' first
   | (with_reducible exact ih0 ..)
   | (with_reducible exact ih1 ..)
   | (with_reducible exact ih2 ..)
   | (with_reducible exact spec_TimedOk.mono ..)
   | (with_reducible exact spec_l29Maze.mono ..)
   | (with_reducible exact spec_l29Next.mono ..)
   | (with_reducible first | exact lr_ _ | exact ln_ _ | refine li_ ?_ ?_ | refine lb_ ?_ fun _ => ?_)
   | exact ih0 ..
   | exact ih1 ..
   | exact ih2 ..
   | exact spec_TimedOk.mono ..
   | exact spec_l29Maze.mono ..
   | exact spec_l29Next.mono ..
   | exact ln_ _ | refine li_ ?_ ?_ | refine lb_ ?_ fun _ => ?_
  ·intro y0 y1 y2 y3 y4 y5 y6 y7 y8 y9 y10
   unfold spec_EarliestAt.j2
   repeat' first
   | (with_reducible exact ih0 ..)
   | (with_reducible exact ih1 ..)
   | (with_reducible exact ih2 ..)
   | (with_reducible exact spec_TimedOk.mono ..)
   | (with_reducible exact spec_l29Maze.mono ..)
   | (with_reducible exact spec_l29Next.mono ..)
   | (with_reducible first | exact lr_ _ | exact ln_ _ | refine li_ ?_ ?_ | refine lb_ ?_ fun _ => ?_)
   | exact ih0 ..
   | exact ih1 ..
   | exact ih2 ..
   | exact spec_TimedOk.mono ..
   | exact spec_l29Maze.mono ..
   | exact spec_l29Next.mono ..
   | exact ln_ _ | refine li_ ?_ ?_ | refine lb_ ?_ fun _ => ?_
theorem spec_EarliestAt.mono : ∀ a0 a1 a2 a3 a4 a5 a6 a7 k, LeO (spec_EarliestAt.f k a0 a1 a2 a3 a4 a5 a6 a7) (spec_EarliestAt.f (k + 1) a0 a1 a2 a3 a4 a5 a6 a7) := by
 intro a0 a1 a2 a3 a4 a5 a6 a7 k
 obtain ⟨ih0, ih1, ih2⟩ := spec_EarliestAt.mono_l k
 unfold spec_EarliestAt.f
 repeat' first
   | (with_reducible exact ih0 ..)
   | (with_reducible exact ih1 ..)
   | (with_reducible exact ih2 ..)
   | (with_reducible exact spec_TimedOk.mono ..)
   | (with_reducible exact spec_l29Maze.mono ..)
   | (with_reducible exact spec_l29Next.mono ..)
   | (with_reducible first | exact lr_ _ | exact ln_ _ | refine li_ ?_ ?_ | refine lb_ ?_ fun _ => ?_)
   | exact ih0 ..
   | exact ih1 ..
   | exact ih2 ..
   | exact spec_TimedOk.mono ..
   | exact spec_l29Maze.mono ..
   | exact spec_l29Next.mono ..
   | exact ln_ _ | refine li_ ?_ ?_ | refine lb_ ?_ fun _ => ?_
set_option maxHeartbeats 8000000 in
set_option maxRecDepth 100000 in
theorem spec_EarliestAt.calls (k : Nat) (a0_0 : Int) (a0_1 : Int) (a0_2 : Int) (a0_3 : Int) (A0_4 : Option Addr) (c0_4 : Nat) (l0_4 : List (S56)) (a1 : Int) (a2 : Int) (a3 : Int) (r : Int) (w : World) (hr0_4 : Kd.C k56 w A0_4 l0_4.length l0_4) (hc0_4 : l0_4.length ≤ c0_4) (h : spec_EarliestAt.f k a0_0 a0_1 a0_2 a0_3 l0_4 a1 a2 a3 = some r) :
  Calls Try.prog 9 #[.agg #[.int .i64 a0_0, .int .i64 a0_1, .int .i64 a0_2, .int .i64 a0_3, .slice A0_4 l0_4.length c0_4], .int .i64 a1, .int .i64 a2, .int .i64 a3] w fun e w' => e = .returned (.int .i64 r) ∧ Below w.heap.size w w' := by
 have hu36 := Try.underlying36
 have hu33 := Try.underlying33
 have HR0_4 := Aside0.mk hr0_4
 have HC0_4 := Aside0.mk hc0_4
 clear hr0_4 hc0_4
 have HB := Aside0.mk (Below.refl w.heap.size w)
 have H : ((spec_TimedOk.f k a0_0 a0_1 a0_2 a0_3 l0_4).bind fun t502 => (if t502 = true then ((spec_l04Has.f a0_0 a0_1 a0_2 a1).bind fun t503 => (if t503 = true then ((spec_l04Has.f a0_0 a0_1 a0_2 a3).bind fun t504 => (if t504 = true then ((spec_l01In.f a2 0 500).bind fun t505 => (spec_EarliestAt.j0 k a1 a2 a3 (!t505) a0_0 a0_1 a0_2 a0_3 l0_4)) else (spec_EarliestAt.j0 k a1 a2 a3 true a0_0 a0_1 a0_2 a0_3 l0_4))) else (spec_EarliestAt.j0 k a1 a2 a3 true a0_0 a0_1 a0_2 a0_3 l0_4))) else (spec_EarliestAt.j0 k a1 a2 a3 true a0_0 a0_1 a0_2 a0_3 l0_4))) = some r := h
 clear h
 have HC5 := Aside0.mk H
 clear H
 go_enter Try.func9, Try.ntmps9
 go_upto_region 1 with (first | (refine box_ (N := 4) (cs := #[.int .i64 a0_0, .int .i64 a0_1, .int .i64 a0_2, .int .i64 a0_3, .slice A0_4 l0_4.length c0_4]) (t := 36) ?_; intro gb501 hg w6 hbox hb; have BK501 := Aside0.mk (hbox); have GW501 := HB.g0 hg; have GE501 := HB.g0 hg; replace HB := HB.s0 hb; clear hb hbox hg))
 (try simp only [Act.put, List.setIfInBounds_toArray, List.set_cons_zero, List.set_cons_succ])
 go_cut [34] (fun v34 wc => ∃ (kq : Nat) (x34_4 : Bool), v34 = .bool x34_4 ∧ Aside0 (spec_EarliestAt.j0 kq a1 a2 a3 x34_4 a0_0 a0_1 a0_2 a0_3 l0_4 = some r) ∧ Aside0 (kq ≤ k) ∧ Aside0 (wc.heap[gb501]? = some (.cells #[.int .i64 a0_0, .int .i64 a0_1, .int .i64 a0_2, .int .i64 a0_3, (.slice A0_4 l0_4.length c0_4)] 36 (0, 0))) ∧ Aside0 (Below w.heap.size w wc))
 case first =>
  have H := HC5.out
  clear HC5
  replace H := Option.bind_eq_some_iff.mp H
  obtain ⟨t502, A70, H⟩ := H
  replace H : (if t502 = true then ((spec_l04Has.f a0_0 a0_1 a0_2 a1).bind fun t503 => (if t503 = true then ((spec_l04Has.f a0_0 a0_1 a0_2 a3).bind fun t504 => (if t504 = true then ((spec_l01In.f a2 0 500).bind fun t505 => (spec_EarliestAt.j0 k a1 a2 a3 (!t505) a0_0 a0_1 a0_2 a0_3 l0_4)) else (spec_EarliestAt.j0 k a1 a2 a3 true a0_0 a0_1 a0_2 a0_3 l0_4))) else (spec_EarliestAt.j0 k a1 a2 a3 true a0_0 a0_1 a0_2 a0_3 l0_4))) else (spec_EarliestAt.j0 k a1 a2 a3 true a0_0 a0_1 a0_2 a0_3 l0_4)) = some r := H
  have A7 := Aside0.mk A70
  clear A70
  by_cases c8 : t502 = true
  ·subst c8
   have H1 : ((spec_l04Has.f a0_0 a0_1 a0_2 a1).bind fun t503 => (if t503 = true then ((spec_l04Has.f a0_0 a0_1 a0_2 a3).bind fun t504 => (if t504 = true then ((spec_l01In.f a2 0 500).bind fun t505 => (spec_EarliestAt.j0 k a1 a2 a3 (!t505) a0_0 a0_1 a0_2 a0_3 l0_4)) else (spec_EarliestAt.j0 k a1 a2 a3 true a0_0 a0_1 a0_2 a0_3 l0_4))) else (spec_EarliestAt.j0 k a1 a2 a3 true a0_0 a0_1 a0_2 a0_3 l0_4))) = some r := by rw [if_pos rfl] at H; exact H
   clear H
   have H := H1
   clear H1
   replace H := Option.bind_eq_some_iff.mp H
   obtain ⟨t503, A90, H⟩ := H
   replace H : (if t503 = true then ((spec_l04Has.f a0_0 a0_1 a0_2 a3).bind fun t504 => (if t504 = true then ((spec_l01In.f a2 0 500).bind fun t505 => (spec_EarliestAt.j0 k a1 a2 a3 (!t505) a0_0 a0_1 a0_2 a0_3 l0_4)) else (spec_EarliestAt.j0 k a1 a2 a3 true a0_0 a0_1 a0_2 a0_3 l0_4))) else (spec_EarliestAt.j0 k a1 a2 a3 true a0_0 a0_1 a0_2 a0_3 l0_4)) = some r := H
   have A9 := Aside0.mk A90
   clear A90
   by_cases c10 : t503 = true
   ·subst c10
    have H1 : ((spec_l04Has.f a0_0 a0_1 a0_2 a3).bind fun t504 => (if t504 = true then ((spec_l01In.f a2 0 500).bind fun t505 => (spec_EarliestAt.j0 k a1 a2 a3 (!t505) a0_0 a0_1 a0_2 a0_3 l0_4)) else (spec_EarliestAt.j0 k a1 a2 a3 true a0_0 a0_1 a0_2 a0_3 l0_4))) = some r := by rw [if_pos rfl] at H; exact H
    clear H
    have H := H1
    clear H1
    replace H := Option.bind_eq_some_iff.mp H
    obtain ⟨t504, A110, H⟩ := H
    replace H : (if t504 = true then ((spec_l01In.f a2 0 500).bind fun t505 => (spec_EarliestAt.j0 k a1 a2 a3 (!t505) a0_0 a0_1 a0_2 a0_3 l0_4)) else (spec_EarliestAt.j0 k a1 a2 a3 true a0_0 a0_1 a0_2 a0_3 l0_4)) = some r := H
    have A11 := Aside0.mk A110
    clear A110
    by_cases c12 : t504 = true
    ·subst c12
     have H1 : ((spec_l01In.f a2 0 500).bind fun t505 => (spec_EarliestAt.j0 k a1 a2 a3 (!t505) a0_0 a0_1 a0_2 a0_3 l0_4)) = some r := by rw [if_pos rfl] at H; exact H
     clear H
     have H := H1
     clear H1
     replace H := Option.bind_eq_some_iff.mp H
     obtain ⟨t505, A130, H⟩ := H
     replace H : (spec_EarliestAt.j0 k a1 a2 a3 (!t505) a0_0 a0_1 a0_2 a0_3 l0_4) = some r := H
     have A13 := Aside0.mk A130
     clear A130
     have H' := Aside0.mk H
     clear H
     obtain ⟨hcz14_0, hcz14_1, hcz14_2, hcz14_3, hcz14_4⟩ := cz5_ BK501.out
     obtain ⟨hfz14_0, hfz14_1, hfz14_2, hfz14_3, hfz14_4⟩ := fz5_ BK501.out
     go_wp2_with (first | (refine gl_ 14 Try.func29 #[.agg #[.int .i64 a0_0, .int .i64 a0_1, .int .i64 a0_2, .int .i64 a0_3, .slice A0_4 l0_4.length c0_4]] ?_; (with_reducible refine (spec_TimedOk.calls k a0_0 a0_1 a0_2 a0_3 _ _ l0_4 true _ ?side1 ?side2 A7.out).mono ?_); (case side1 => repeat (first | exact (Kd.C_below HR0_4.out HB.out) | (with_reducible refine Kd.C_alloc ?_ _) | (with_reducible refine Kd.C_drewN ?_ _) | (with_reducible refine Kd.C_drew ?_))); (case side2 => exact HC0_4.out); rintro e w15 ⟨rfl, hb⟩; refine ⟨_, rfl, ?_⟩; replace BK501 := BK501.bb hb; replace HB := HB.s1 GE501 hb; (try clear hb); obtain ⟨hcz16_0, hcz16_1, hcz16_2, hcz16_3, hcz16_4⟩ := cz5_ BK501.out; obtain ⟨hfz16_0, hfz16_1, hfz16_2, hfz16_3, hfz16_4⟩ := fz5_ BK501.out) | (go_at_call 30; (with_reducible refine (spec_l04Has.calls a0_0 a0_1 a0_2 a1 true _ A9.out).mono ?_); rintro e w17 ⟨rfl, hb⟩; replace BK501 := BK501.bb hb; replace HB := HB.s1 GE501 hb; (try clear hb); obtain ⟨hcz18_0, hcz18_1, hcz18_2, hcz18_3, hcz18_4⟩ := cz5_ BK501.out; obtain ⟨hfz18_0, hfz18_1, hfz18_2, hfz18_3, hfz18_4⟩ := fz5_ BK501.out) | (go_at_call 30; (with_reducible refine (spec_l04Has.calls a0_0 a0_1 a0_2 a3 true _ A11.out).mono ?_); rintro e w19 ⟨rfl, hb⟩; replace BK501 := BK501.bb hb; replace HB := HB.s1 GE501 hb; (try clear hb)) | (go_at_call 31; (with_reducible refine (spec_l01In.calls a2 0 500 t505 _ A13.out).mono ?_); rintro e w' ⟨rfl, ⟨nd, rfl⟩⟩))
     go_meet
     case rel => exact ⟨_, (!t505), (by first | rfl | (simp; done) | (simp [*]; done)), H', ⟨by first | omega | exact Nat.le_refl _⟩, ⟨bk_ BK501.out⟩, ⟨hb1_ HB.out GE501.out⟩⟩
    ·replace c12 := Bool.eq_false_iff.mpr c12
     subst c12
     have H1 : (spec_EarliestAt.j0 k a1 a2 a3 true a0_0 a0_1 a0_2 a0_3 l0_4) = some r := by rw [if_neg (show ¬ (false = true) by decide)] at H; exact H
     clear H
     have H := H1
     clear H1
     have H' := Aside0.mk H
     clear H
     obtain ⟨hcz20_0, hcz20_1, hcz20_2, hcz20_3, hcz20_4⟩ := cz5_ BK501.out
     obtain ⟨hfz20_0, hfz20_1, hfz20_2, hfz20_3, hfz20_4⟩ := fz5_ BK501.out
     go_wp2_with (first | (refine gl_ 14 Try.func29 #[.agg #[.int .i64 a0_0, .int .i64 a0_1, .int .i64 a0_2, .int .i64 a0_3, .slice A0_4 l0_4.length c0_4]] ?_; (with_reducible refine (spec_TimedOk.calls k a0_0 a0_1 a0_2 a0_3 _ _ l0_4 true _ ?side1 ?side2 A7.out).mono ?_); (case side1 => repeat (first | exact (Kd.C_below HR0_4.out HB.out) | (with_reducible refine Kd.C_alloc ?_ _) | (with_reducible refine Kd.C_drewN ?_ _) | (with_reducible refine Kd.C_drew ?_))); (case side2 => exact HC0_4.out); rintro e w21 ⟨rfl, hb⟩; refine ⟨_, rfl, ?_⟩; replace BK501 := BK501.bb hb; replace HB := HB.s1 GE501 hb; (try clear hb); obtain ⟨hcz22_0, hcz22_1, hcz22_2, hcz22_3, hcz22_4⟩ := cz5_ BK501.out; obtain ⟨hfz22_0, hfz22_1, hfz22_2, hfz22_3, hfz22_4⟩ := fz5_ BK501.out) | (go_at_call 30; (with_reducible refine (spec_l04Has.calls a0_0 a0_1 a0_2 a1 true _ A9.out).mono ?_); rintro e w23 ⟨rfl, hb⟩; replace BK501 := BK501.bb hb; replace HB := HB.s1 GE501 hb; (try clear hb); obtain ⟨hcz24_0, hcz24_1, hcz24_2, hcz24_3, hcz24_4⟩ := cz5_ BK501.out; obtain ⟨hfz24_0, hfz24_1, hfz24_2, hfz24_3, hfz24_4⟩ := fz5_ BK501.out) | (go_at_call 30; (with_reducible refine (spec_l04Has.calls a0_0 a0_1 a0_2 a3 false _ A11.out).mono ?_); rintro e w25 ⟨rfl, hb⟩; replace BK501 := BK501.bb hb; replace HB := HB.s1 GE501 hb; (try clear hb)))
     go_meet
     case rel => exact ⟨_, (true), (by first | rfl | (simp; done) | (simp [*]; done)), H', ⟨by first | omega | exact Nat.le_refl _⟩, ⟨bk_ BK501.out⟩, ⟨hb1_ HB.out GE501.out⟩⟩
   ·replace c10 := Bool.eq_false_iff.mpr c10
    subst c10
    have H1 : (spec_EarliestAt.j0 k a1 a2 a3 true a0_0 a0_1 a0_2 a0_3 l0_4) = some r := by rw [if_neg (show ¬ (false = true) by decide)] at H; exact H
    clear H
    have H := H1
    clear H1
    have H' := Aside0.mk H
    clear H
    obtain ⟨hcz26_0, hcz26_1, hcz26_2, hcz26_3, hcz26_4⟩ := cz5_ BK501.out
    obtain ⟨hfz26_0, hfz26_1, hfz26_2, hfz26_3, hfz26_4⟩ := fz5_ BK501.out
    go_wp2_with (first | (refine gl_ 14 Try.func29 #[.agg #[.int .i64 a0_0, .int .i64 a0_1, .int .i64 a0_2, .int .i64 a0_3, .slice A0_4 l0_4.length c0_4]] ?_; (with_reducible refine (spec_TimedOk.calls k a0_0 a0_1 a0_2 a0_3 _ _ l0_4 true _ ?side1 ?side2 A7.out).mono ?_); (case side1 => repeat (first | exact (Kd.C_below HR0_4.out HB.out) | (with_reducible refine Kd.C_alloc ?_ _) | (with_reducible refine Kd.C_drewN ?_ _) | (with_reducible refine Kd.C_drew ?_))); (case side2 => exact HC0_4.out); rintro e w27 ⟨rfl, hb⟩; refine ⟨_, rfl, ?_⟩; replace BK501 := BK501.bb hb; replace HB := HB.s1 GE501 hb; (try clear hb); obtain ⟨hcz28_0, hcz28_1, hcz28_2, hcz28_3, hcz28_4⟩ := cz5_ BK501.out; obtain ⟨hfz28_0, hfz28_1, hfz28_2, hfz28_3, hfz28_4⟩ := fz5_ BK501.out) | (go_at_call 30; (with_reducible refine (spec_l04Has.calls a0_0 a0_1 a0_2 a1 false _ A9.out).mono ?_); rintro e w29 ⟨rfl, hb⟩; replace BK501 := BK501.bb hb; replace HB := HB.s1 GE501 hb; (try clear hb)))
    go_meet
    case rel => exact ⟨_, (true), (by first | rfl | (simp; done) | (simp [*]; done)), H', ⟨by first | omega | exact Nat.le_refl _⟩, ⟨bk_ BK501.out⟩, ⟨hb1_ HB.out GE501.out⟩⟩
  ·replace c8 := Bool.eq_false_iff.mpr c8
   subst c8
   have H1 : (spec_EarliestAt.j0 k a1 a2 a3 true a0_0 a0_1 a0_2 a0_3 l0_4) = some r := by rw [if_neg (show ¬ (false = true) by decide)] at H; exact H
   clear H
   have H := H1
   clear H1
   have H' := Aside0.mk H
   clear H
   obtain ⟨hcz30_0, hcz30_1, hcz30_2, hcz30_3, hcz30_4⟩ := cz5_ BK501.out
   obtain ⟨hfz30_0, hfz30_1, hfz30_2, hfz30_3, hfz30_4⟩ := fz5_ BK501.out
   go_wp2_with (first | (refine gl_ 14 Try.func29 #[.agg #[.int .i64 a0_0, .int .i64 a0_1, .int .i64 a0_2, .int .i64 a0_3, .slice A0_4 l0_4.length c0_4]] ?_; (with_reducible refine (spec_TimedOk.calls k a0_0 a0_1 a0_2 a0_3 _ _ l0_4 false _ ?side1 ?side2 A7.out).mono ?_); (case side1 => repeat (first | exact (Kd.C_below HR0_4.out HB.out) | (with_reducible refine Kd.C_alloc ?_ _) | (with_reducible refine Kd.C_drewN ?_ _) | (with_reducible refine Kd.C_drew ?_))); (case side2 => exact HC0_4.out); rintro e w31 ⟨rfl, hb⟩; refine ⟨_, rfl, ?_⟩; replace BK501 := BK501.bb hb; replace HB := HB.s1 GE501 hb; (try clear hb)))
   go_meet
   case rel => exact ⟨_, (true), (by first | rfl | (simp; done) | (simp [*]; done)), H', ⟨by first | omega | exact Nat.le_refl _⟩, ⟨bk_ BK501.out⟩, ⟨hb1_ HB.out GE501.out⟩⟩
 case rest =>
  clear HC5
  try clear c1
  try clear c2
  try clear p2
  try clear c8
  try clear c9
  try clear c10
  try clear c12
  try clear c29
  try clear hcz14_0
  try clear hcz14_1
  try clear hcz14_2
  try clear hcz14_3
  try clear hcz14_4
  try clear hcz16_0
  try clear hcz16_1
  try clear hcz16_2
  try clear hcz16_3
  try clear hcz16_4
  try clear hcz18_0
  try clear hcz18_1
  try clear hcz18_2
  try clear hcz18_3
  try clear hcz18_4
  try clear hcz20_0
  try clear hcz20_1
  try clear hcz20_2
  try clear hcz20_3
  try clear hcz20_4
  try clear hcz22_0
  try clear hcz22_1
  try clear hcz22_2
  try clear hcz22_3
  try clear hcz22_4
  try clear hcz24_0
  try clear hcz24_1
  try clear hcz24_2
  try clear hcz24_3
  try clear hcz24_4
  try clear hcz26_0
  try clear hcz26_1
  try clear hcz26_2
  try clear hcz26_3
  try clear hcz26_4
  try clear hcz28_0
  try clear hcz28_1
  try clear hcz28_2
  try clear hcz28_3
  try clear hcz28_4
  try clear hcz30_0
  try clear hcz30_1
  try clear hcz30_2
  try clear hcz30_3
  try clear hcz30_4
  try clear hfz14_0
  try clear hfz14_1
  try clear hfz14_2
  try clear hfz14_3
  try clear hfz14_4
  try clear hfz16_0
  try clear hfz16_1
  try clear hfz16_2
  try clear hfz16_3
  try clear hfz16_4
  try clear hfz18_0
  try clear hfz18_1
  try clear hfz18_2
  try clear hfz18_3
  try clear hfz18_4
  try clear hfz20_0
  try clear hfz20_1
  try clear hfz20_2
  try clear hfz20_3
  try clear hfz20_4
  try clear hfz22_0
  try clear hfz22_1
  try clear hfz22_2
  try clear hfz22_3
  try clear hfz22_4
  try clear hfz24_0
  try clear hfz24_1
  try clear hfz24_2
  try clear hfz24_3
  try clear hfz24_4
  try clear hfz26_0
  try clear hfz26_1
  try clear hfz26_2
  try clear hfz26_3
  try clear hfz26_4
  try clear hfz28_0
  try clear hfz28_1
  try clear hfz28_2
  try clear hfz28_3
  try clear hfz28_4
  try clear hfz30_0
  try clear hfz30_1
  try clear hfz30_2
  try clear hfz30_3
  try clear hfz30_4
  obtain ⟨kq, x34_4, rfl, HA, HJ4, BK501, HB⟩ := hcut
  cases kq with
  | zero => exact absurd HA.out (by simp [spec_EarliestAt.j0])
  | succ kj4 =>
   have H := HA.out
   clear HA
   simp only [spec_EarliestAt.j0] at H
   by_cases c32 : x34_4 = true
   ·subst c32
    have H1 : (some (-1)) = some r := by rw [if_pos rfl] at H; exact H
    clear H
    have H := H1
    clear H1
    obtain rfl := Option.some.inj H
    go_wp2
    go_ret
    exact ⟨ex_, hb1_ HB.out GE501.out⟩
   ·replace c32 := Bool.eq_false_iff.mpr c32
    subst c32
    have H1 : (if 0 ≤ a1 then (spec_EarliestAt.l0 kj4 a2 a3 (shl .i64 1 a1) 0 0 a0_0 a0_1 a0_2 a0_3 l0_4) else (none)) = some r := by rw [if_neg (show ¬ (false = true) by decide)] at H; exact H
    clear H
    have H := H1
    clear H1
    by_cases c33 : 0 ≤ a1
    ·rw [if_pos c33] at H
     have c33b0 := eq_true c33
     have c33b1 : decide (0 ≤ a1) = true := decide_eq_true c33
     clear c33
     obtain ⟨ji34, hji34⟩ : ∃ j_ : Int, (shl .i64 1 a1) = j_ := ⟨_, rfl⟩
     replace H : (spec_EarliestAt.l0 kj4 a2 a3 ji34 0 0 a0_0 a0_1 a0_2 a0_3 l0_4) = some r := by first | (rw [hji34] at H; exact H) | (simp only [hji34] at H ⊢; exact H)
     have hji34_ : (IntKind.i64.wrap (1 * 2 ^ min a1.toNat 64)) = ji34 := hji34
     have hji34z : a1 ≤ 64 → (IntKind.i64.wrap (1 * 2 ^ a1.toNat)) = ji34 := shl_small hji34
     have hji34u : (IntKind.i64.wrap (2 ^ min a1.toNat 64)) = ji34 := by have h_ := hji34_; rw [Int.one_mul] at h_; exact h_
     have hji34v : a1 ≤ 64 → (IntKind.i64.wrap (2 ^ a1.toNat)) = ji34 := fun hle_ => by have h_ := hji34z hle_; rw [Int.one_mul] at h_; exact h_
     have hji34y : (wrap64 (1 * 2 ^ min a1.toNat 64)) = ji34 := (i64_w _).symm.trans hji34_
     have hji34x : a1 ≤ 64 → (wrap64 (1 * 2 ^ a1.toNat)) = ji34 := fun h_ => (i64_w _).symm.trans (hji34z h_)
     have H' := Aside0.mk H
     clear H
     go_wp2
     go_loopg [9, 10, 11] kj4 (fun kq v9 v10 v11 w' => ∃ (x9_2 : Int) (x10_2 : Int) (x11_2 : Int), v9 = .int .i64 x9_2 ∧ v10 = .int .i64 x10_2 ∧ v11 = .int .i64 x11_2 ∧ Aside0 (spec_EarliestAt.l0 kq a2 a3 x9_2 x10_2 x11_2 a0_0 a0_1 a0_2 a0_3 l0_4 = some r) ∧ Aside0 (kq ≤ kj4) ∧ Aside0 (w'.heap[gb501]? = some (.cells #[.int .i64 a0_0, .int .i64 a0_1, .int .i64 a0_2, .int .i64 a0_3, (.slice A0_4 l0_4.length c0_4)] 36 (0, 0))) ∧ Aside0 (Below w.heap.size w w'))
     case atStart => exact ⟨(ji34), (0), (0), (by first | rfl | (simp; done) | (simp only [← hji34] <;> (first | rfl | simp)) | (simp [*]; done)), (by first | rfl | (simp; done) | (simp [*]; done)), (by first | rfl | (simp; done) | (simp [*]; done)), H', ⟨Nat.le_refl _⟩, ⟨bk_ BK501.out⟩, ⟨hb1_ HB.out GE501.out⟩⟩
     case round =>
      clear H'
      try clear c1
      try clear c2
      try clear p2
      try clear c3
      try clear p6
      try clear c8
      try clear c9
      try clear c10
      try clear c12
      try clear c29
      try clear c32
      try clear c33
      try clear c33b0
      try clear c33b1
      try clear hcz14_0
      try clear hcz14_1
      try clear hcz14_2
      try clear hcz14_3
      try clear hcz14_4
      try clear hcz16_0
      try clear hcz16_1
      try clear hcz16_2
      try clear hcz16_3
      try clear hcz16_4
      try clear hcz18_0
      try clear hcz18_1
      try clear hcz18_2
      try clear hcz18_3
      try clear hcz18_4
      try clear hcz20_0
      try clear hcz20_1
      try clear hcz20_2
      try clear hcz20_3
      try clear hcz20_4
      try clear hcz22_0
      try clear hcz22_1
      try clear hcz22_2
      try clear hcz22_3
      try clear hcz22_4
      try clear hcz24_0
      try clear hcz24_1
      try clear hcz24_2
      try clear hcz24_3
      try clear hcz24_4
      try clear hcz26_0
      try clear hcz26_1
      try clear hcz26_2
      try clear hcz26_3
      try clear hcz26_4
      try clear hcz28_0
      try clear hcz28_1
      try clear hcz28_2
      try clear hcz28_3
      try clear hcz28_4
      try clear hcz30_0
      try clear hcz30_1
      try clear hcz30_2
      try clear hcz30_3
      try clear hcz30_4
      try clear hfz14_0
      try clear hfz14_1
      try clear hfz14_2
      try clear hfz14_3
      try clear hfz14_4
      try clear hfz16_0
      try clear hfz16_1
      try clear hfz16_2
      try clear hfz16_3
      try clear hfz16_4
      try clear hfz18_0
      try clear hfz18_1
      try clear hfz18_2
      try clear hfz18_3
      try clear hfz18_4
      try clear hfz20_0
      try clear hfz20_1
      try clear hfz20_2
      try clear hfz20_3
      try clear hfz20_4
      try clear hfz22_0
      try clear hfz22_1
      try clear hfz22_2
      try clear hfz22_3
      try clear hfz22_4
      try clear hfz24_0
      try clear hfz24_1
      try clear hfz24_2
      try clear hfz24_3
      try clear hfz24_4
      try clear hfz26_0
      try clear hfz26_1
      try clear hfz26_2
      try clear hfz26_3
      try clear hfz26_4
      try clear hfz28_0
      try clear hfz28_1
      try clear hfz28_2
      try clear hfz28_3
      try clear hfz28_4
      try clear hfz30_0
      try clear hfz30_1
      try clear hfz30_2
      try clear hfz30_3
      try clear hfz30_4
      try clear p2
      obtain ⟨x9_2, x10_2, x11_2, rfl, rfl, rfl, HA, HK2, BK501, HB⟩ := hrel
      cases gk with
      | zero => exact absurd HA.out (by simp [spec_EarliestAt.l0])
      | succ k2 =>
       have H := HA.out
       clear HA
       simp only [spec_EarliestAt.l0] at H
       have HC35 := Aside0.mk H
       clear H
       go_upto_region 6 with (fail)
       go_cut [44] (fun v44 wc => ∃ (kq : Nat) (x44_34 : Bool), v44 = .bool x44_34 ∧ Aside0 (spec_EarliestAt.j2 kq a2 a3 x9_2 x10_2 x11_2 x44_34 a0_0 a0_1 a0_2 a0_3 l0_4 = some r) ∧ Aside0 (kq ≤ k2) ∧ Aside0 (wc.heap[gb501]? = some (.cells #[.int .i64 a0_0, .int .i64 a0_1, .int .i64 a0_2, .int .i64 a0_3, (.slice A0_4 l0_4.length c0_4)] 36 (0, 0))) ∧ Aside0 (Below w.heap.size w wc))
       case first =>
        have H := HC35.out
        clear HC35
        by_cases c36 : x11_2 ≤ 200
        ·rw [if_pos c36] at H
         have c36b0 : decide (x11_2 ≤ 200) = true := decide_eq_true c36
         clear c36
         (first | rw [c36b0] | (simp only [i64_w, i32_w]; rw [c36b0]) | skip)
         have H' := Aside0.mk H
         clear H
         obtain ⟨hcz37_0, hcz37_1, hcz37_2, hcz37_3, hcz37_4⟩ := cz5_ BK501.out
         obtain ⟨hfz37_0, hfz37_1, hfz37_2, hfz37_3, hfz37_4⟩ := fz5_ BK501.out
         go_wp2
         go_meet
         case rel => exact ⟨_, (decide (x10_2 ≤ a0_3)), (by first | rfl | (simp; done) | (simp [*]; done)), H', ⟨by have := HJ4.out; have := HK2.out; first | omega | exact Nat.le_refl _⟩, ⟨bk_ BK501.out⟩, ⟨hb1_ HB.out GE501.out⟩⟩
        ·rw [if_neg c36] at H
         have c36b0 : decide (x11_2 ≤ 200) = false := decide_eq_false c36
         clear c36
         (first | rw [c36b0] | (simp only [i64_w, i32_w]; rw [c36b0]) | skip)
         have H' := Aside0.mk H
         clear H
         go_wp2
         go_meet
         case rel => exact ⟨_, (false), (by first | rfl | (simp; done) | (simp [*]; done)), H', ⟨by have := HJ4.out; have := HK2.out; first | omega | exact Nat.le_refl _⟩, ⟨bk_ BK501.out⟩, ⟨hb1_ HB.out GE501.out⟩⟩
       case rest =>
        clear HC35
        try clear c1
        try clear c2
        try clear p2
        try clear c3
        try clear p6
        try clear c8
        try clear c9
        try clear c10
        try clear c12
        try clear c29
        try clear c32
        try clear c33
        try clear c33b0
        try clear c33b1
        try clear c36
        try clear c36b0
        try clear hcz14_0
        try clear hcz14_1
        try clear hcz14_2
        try clear hcz14_3
        try clear hcz14_4
        try clear hcz16_0
        try clear hcz16_1
        try clear hcz16_2
        try clear hcz16_3
        try clear hcz16_4
        try clear hcz18_0
        try clear hcz18_1
        try clear hcz18_2
        try clear hcz18_3
        try clear hcz18_4
        try clear hcz20_0
        try clear hcz20_1
        try clear hcz20_2
        try clear hcz20_3
        try clear hcz20_4
        try clear hcz22_0
        try clear hcz22_1
        try clear hcz22_2
        try clear hcz22_3
        try clear hcz22_4
        try clear hcz24_0
        try clear hcz24_1
        try clear hcz24_2
        try clear hcz24_3
        try clear hcz24_4
        try clear hcz26_0
        try clear hcz26_1
        try clear hcz26_2
        try clear hcz26_3
        try clear hcz26_4
        try clear hcz28_0
        try clear hcz28_1
        try clear hcz28_2
        try clear hcz28_3
        try clear hcz28_4
        try clear hcz30_0
        try clear hcz30_1
        try clear hcz30_2
        try clear hcz30_3
        try clear hcz30_4
        try clear hcz37_0
        try clear hcz37_1
        try clear hcz37_2
        try clear hcz37_3
        try clear hcz37_4
        try clear hfz14_0
        try clear hfz14_1
        try clear hfz14_2
        try clear hfz14_3
        try clear hfz14_4
        try clear hfz16_0
        try clear hfz16_1
        try clear hfz16_2
        try clear hfz16_3
        try clear hfz16_4
        try clear hfz18_0
        try clear hfz18_1
        try clear hfz18_2
        try clear hfz18_3
        try clear hfz18_4
        try clear hfz20_0
        try clear hfz20_1
        try clear hfz20_2
        try clear hfz20_3
        try clear hfz20_4
        try clear hfz22_0
        try clear hfz22_1
        try clear hfz22_2
        try clear hfz22_3
        try clear hfz22_4
        try clear hfz24_0
        try clear hfz24_1
        try clear hfz24_2
        try clear hfz24_3
        try clear hfz24_4
        try clear hfz26_0
        try clear hfz26_1
        try clear hfz26_2
        try clear hfz26_3
        try clear hfz26_4
        try clear hfz28_0
        try clear hfz28_1
        try clear hfz28_2
        try clear hfz28_3
        try clear hfz28_4
        try clear hfz30_0
        try clear hfz30_1
        try clear hfz30_2
        try clear hfz30_3
        try clear hfz30_4
        try clear hfz37_0
        try clear hfz37_1
        try clear hfz37_2
        try clear hfz37_3
        try clear hfz37_4
        try clear p2
        try clear p6
        obtain ⟨kq, x44_34, rfl, HA, HJ34, BK501, HB⟩ := hcut
        cases kq with
        | zero => exact absurd HA.out (by simp [spec_EarliestAt.j2])
        | succ kj34 =>
         have H := HA.out
         clear HA
         simp only [spec_EarliestAt.j2] at H
         by_cases c38 : x44_34 = true
         ·subst c38
          have H1 : ((spec_l03Bit.f x9_2 a3).bind fun t506 => (if t506 = true then (some (wrap64 (a2 + x11_2))) else ((spec_l29Maze.f kj34 a0_0 a0_1 a0_2 a0_3 l0_4 (wrap64 (a2 + x11_2))).bind fun bt507 => ((spec_l29Next.f kj34 bt507.1 bt507.2.1 bt507.2.2 x9_2).bind fun t510 => (if t510 = x9_2 then (spec_EarliestAt.l0 kj34 a2 a3 t510 (wrap64 (x10_2 + 1)) (wrap64 (x11_2 + 1)) a0_0 a0_1 a0_2 a0_3 l0_4) else (spec_EarliestAt.l0 kj34 a2 a3 t510 0 (wrap64 (x11_2 + 1)) a0_0 a0_1 a0_2 a0_3 l0_4)))))) = some r := by rw [if_pos rfl] at H; exact H
          clear H
          have H := H1
          clear H1
          replace H := Option.bind_eq_some_iff.mp H
          obtain ⟨t506, A390, H⟩ := H
          replace H : (if t506 = true then (some (wrap64 (a2 + x11_2))) else ((spec_l29Maze.f kj34 a0_0 a0_1 a0_2 a0_3 l0_4 (wrap64 (a2 + x11_2))).bind fun bt507 => ((spec_l29Next.f kj34 bt507.1 bt507.2.1 bt507.2.2 x9_2).bind fun t510 => (if t510 = x9_2 then (spec_EarliestAt.l0 kj34 a2 a3 t510 (wrap64 (x10_2 + 1)) (wrap64 (x11_2 + 1)) a0_0 a0_1 a0_2 a0_3 l0_4) else (spec_EarliestAt.l0 kj34 a2 a3 t510 0 (wrap64 (x11_2 + 1)) a0_0 a0_1 a0_2 a0_3 l0_4))))) = some r := H
          have A39 := Aside0.mk A390
          clear A390
          by_cases c40 : t506 = true
          ·subst c40
           have H1 : (some (wrap64 (a2 + x11_2))) = some r := by rw [if_pos rfl] at H; exact H
           clear H
           have H := H1
           clear H1
           obtain rfl := Option.some.inj H
           go_wp2_with (first | (refine gl_ 49 Try.func32 #[.int .i64 x9_2, .int .i64 a3] ?_; (with_reducible refine (spec_l03Bit.calls x9_2 a3 true _ A39.out).mono ?_); rintro e w' ⟨rfl, ⟨nd, rfl⟩⟩; refine ⟨_, rfl, ?_⟩))
           go_ret
           exact ⟨by first | rfl | (simp [errW_none, errW_some] <;> rfl) | (simp only [← hji34]; first | rfl | (simp [errW_none, errW_some] <;> rfl)) | (simp [*, errW_none, errW_some] <;> rfl), hb1_ HB.out GE501.out⟩
          ·replace c40 := Bool.eq_false_iff.mpr c40
           subst c40
           have H1 : ((spec_l29Maze.f kj34 a0_0 a0_1 a0_2 a0_3 l0_4 (wrap64 (a2 + x11_2))).bind fun bt507 => ((spec_l29Next.f kj34 bt507.1 bt507.2.1 bt507.2.2 x9_2).bind fun t510 => (if t510 = x9_2 then (spec_EarliestAt.l0 kj34 a2 a3 t510 (wrap64 (x10_2 + 1)) (wrap64 (x11_2 + 1)) a0_0 a0_1 a0_2 a0_3 l0_4) else (spec_EarliestAt.l0 kj34 a2 a3 t510 0 (wrap64 (x11_2 + 1)) a0_0 a0_1 a0_2 a0_3 l0_4)))) = some r := by rw [if_neg (show ¬ (false = true) by decide)] at H; exact H
           clear H
           have H := H1
           clear H1
           replace H := Option.bind_eq_some_iff.mp H
           obtain ⟨⟨t507, t508, t509⟩, A410, H⟩ := H
           replace H : ((spec_l29Next.f kj34 t507 t508 t509 x9_2).bind fun t510 => (if t510 = x9_2 then (spec_EarliestAt.l0 kj34 a2 a3 t510 (wrap64 (x10_2 + 1)) (wrap64 (x11_2 + 1)) a0_0 a0_1 a0_2 a0_3 l0_4) else (spec_EarliestAt.l0 kj34 a2 a3 t510 0 (wrap64 (x11_2 + 1)) a0_0 a0_1 a0_2 a0_3 l0_4))) = some r := H
           have A41 := Aside0.mk A410
           clear A410
           replace H := Option.bind_eq_some_iff.mp H
           obtain ⟨t510, A420, H⟩ := H
           replace H : (if t510 = x9_2 then (spec_EarliestAt.l0 kj34 a2 a3 t510 (wrap64 (x10_2 + 1)) (wrap64 (x11_2 + 1)) a0_0 a0_1 a0_2 a0_3 l0_4) else (spec_EarliestAt.l0 kj34 a2 a3 t510 0 (wrap64 (x11_2 + 1)) a0_0 a0_1 a0_2 a0_3 l0_4)) = some r := H
           have A42 := Aside0.mk A420
           clear A420
           by_cases c43 : t510 = x9_2
           ·rw [if_pos c43] at H
            have c43b0 : (t510 == x9_2) = true := beq_iff_eq.mpr c43
            have c43b1 : (t510 != x9_2) = false := bne_eq_false_iff_eq.mpr c43
            clear c43
            have H' := Aside0.mk H
            clear H
            go_wp2_with (first | (refine gl_ 49 Try.func32 #[.int .i64 x9_2, .int .i64 a3] ?_; (with_reducible refine (spec_l03Bit.calls x9_2 a3 false _ A39.out).mono ?_); rintro e w' ⟨rfl, ⟨nd, rfl⟩⟩; refine ⟨_, rfl, ?_⟩; obtain ⟨hcz44_0, hcz44_1, hcz44_2, hcz44_3, hcz44_4⟩ := cz5_ BK501.out; obtain ⟨hfz44_0, hfz44_1, hfz44_2, hfz44_3, hfz44_4⟩ := fz5_ BK501.out) | (refine gl_ 57 Try.func34 #[.agg #[.int .i64 a0_0, .int .i64 a0_1, .int .i64 a0_2, .int .i64 a0_3, .slice A0_4 l0_4.length c0_4], .int .i64 (wrap64 (a2 + x11_2))] ?_; (with_reducible refine (spec_l29Maze.calls kj34 a0_0 a0_1 a0_2 a0_3 _ _ l0_4 (wrap64 (a2 + x11_2)) t507 t508 t509 _ ?side1 ?side2 A41.out).mono ?_); (case side1 => repeat (first | exact (Kd.C_below HR0_4.out (hb1_ HB.out GE501.out)) | (with_reducible refine Kd.C_alloc ?_ _) | (with_reducible refine Kd.C_drewN ?_ _) | (with_reducible refine Kd.C_drew ?_))); (case side2 => exact HC0_4.out); rintro e w45 ⟨rfl, hb⟩; refine ⟨_, rfl, ?_⟩; replace BK501 := BK501.bb hb; replace HB := HB.s1 GE501 hb; (try clear hb)) | (refine gl_ 59 Try.func33 #[.agg #[.int .i64 t507, .int .i64 t508, .int .i64 t509], .int .i64 x9_2] ?_; (with_reducible refine (spec_l29Next.calls kj34 t507 t508 t509 x9_2 t510 _ A42.out).mono ?_); rintro e w46 ⟨rfl, hb⟩; refine ⟨_, rfl, ?_⟩; replace BK501 := BK501.bb hb; replace HB := HB.s1 GE501 hb; (try clear hb)))
            go_roundg kj34
            case measure => have := HJ4.out; have := HK2.out; have := HJ34.out; omega
            case rel => exact ⟨(t510), (wrap64 (x10_2 + 1)), (wrap64 (x11_2 + 1)), (by first | rfl | (simp; done) | (simp [*]; done)), (by first | rfl | (simp; done) | (simp [*]; done)), (by first | rfl | (simp; done) | (simp [*]; done)), H', ⟨by have := HJ4.out; have := HK2.out; have := HJ34.out; omega⟩, ⟨bk_ BK501.out⟩, ⟨hb1_ HB.out GE501.out⟩⟩
           ·rw [if_neg c43] at H
            have c43b0 : (t510 == x9_2) = false := beq_eq_false_iff_ne.mpr c43
            have c43b1 : (t510 != x9_2) = true := bne_iff_ne.mpr c43
            have H' := Aside0.mk H
            clear H
            go_wp2_with (first | (refine gl_ 49 Try.func32 #[.int .i64 x9_2, .int .i64 a3] ?_; (with_reducible refine (spec_l03Bit.calls x9_2 a3 false _ A39.out).mono ?_); rintro e w' ⟨rfl, ⟨nd, rfl⟩⟩; refine ⟨_, rfl, ?_⟩; obtain ⟨hcz47_0, hcz47_1, hcz47_2, hcz47_3, hcz47_4⟩ := cz5_ BK501.out; obtain ⟨hfz47_0, hfz47_1, hfz47_2, hfz47_3, hfz47_4⟩ := fz5_ BK501.out) | (refine gl_ 57 Try.func34 #[.agg #[.int .i64 a0_0, .int .i64 a0_1, .int .i64 a0_2, .int .i64 a0_3, .slice A0_4 l0_4.length c0_4], .int .i64 (wrap64 (a2 + x11_2))] ?_; (with_reducible refine (spec_l29Maze.calls kj34 a0_0 a0_1 a0_2 a0_3 _ _ l0_4 (wrap64 (a2 + x11_2)) t507 t508 t509 _ ?side1 ?side2 A41.out).mono ?_); (case side1 => repeat (first | exact (Kd.C_below HR0_4.out (hb1_ HB.out GE501.out)) | (with_reducible refine Kd.C_alloc ?_ _) | (with_reducible refine Kd.C_drewN ?_ _) | (with_reducible refine Kd.C_drew ?_))); (case side2 => exact HC0_4.out); rintro e w48 ⟨rfl, hb⟩; refine ⟨_, rfl, ?_⟩; replace BK501 := BK501.bb hb; replace HB := HB.s1 GE501 hb; (try clear hb)) | (refine gl_ 59 Try.func33 #[.agg #[.int .i64 t507, .int .i64 t508, .int .i64 t509], .int .i64 x9_2] ?_; (with_reducible refine (spec_l29Next.calls kj34 t507 t508 t509 x9_2 t510 _ A42.out).mono ?_); rintro e w49 ⟨rfl, hb⟩; refine ⟨_, rfl, ?_⟩; replace BK501 := BK501.bb hb; replace HB := HB.s1 GE501 hb; (try clear hb)))
            go_roundg kj34
            case measure => have := HJ4.out; have := HK2.out; have := HJ34.out; omega
            case rel => exact ⟨(t510), (0), (wrap64 (x11_2 + 1)), (by first | rfl | (simp; done) | (simp [*]; done)), (by first | rfl | (simp; done) | (simp [*]; done)), (by first | rfl | (simp; done) | (simp [*]; done)), H', ⟨by have := HJ4.out; have := HK2.out; have := HJ34.out; omega⟩, ⟨bk_ BK501.out⟩, ⟨hb1_ HB.out GE501.out⟩⟩
         ·replace c38 := Bool.eq_false_iff.mpr c38
          subst c38
          have H1 : (some (-1)) = some r := by rw [if_neg (show ¬ (false = true) by decide)] at H; exact H
          clear H
          have H := H1
          clear H1
          obtain rfl := Option.some.inj H
          go_wp2
          go_ret
          exact ⟨by first | rfl | (simp [errW_none, errW_some] <;> rfl) | (simp only [← hji34]; first | rfl | (simp [errW_none, errW_some] <;> rfl)) | (simp [*, errW_none, errW_some] <;> rfl), hb1_ HB.out GE501.out⟩
    ·rw [if_neg c33] at H
     exact absurd H (by simp)

end Go.Proofs.Ytlfomjhjeknnmaa.X
