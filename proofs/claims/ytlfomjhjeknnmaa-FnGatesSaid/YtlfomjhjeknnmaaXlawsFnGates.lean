-- Written by a program of this session (xprint.py), out of the translation and of hand-written contracts. Lean checks it.
import Derived.Test.YtlfomjhjeknnmaaX0
import Derived.Test.YtlfomjhjeknnmaaXcdist
import Derived.Test.YtlfomjhjeknnmaaXimplEarliestAt
import Derived.Test.YtlfomjhjeknnmaaXimplMazeAtTime
import Derived.Test.YtlfomjhjeknnmaaXlawsat
import Derived.Test.YtlfomjhjeknnmaaXlawsbig
import Derived.Test.YtlfomjhjeknnmaaXspecDrawTimed
namespace Go.Proofs.Ytlfomjhjeknnmaa.X
open Go.RowKit Go.Proofs.YtlfomjhjeknnmaaW.PrintWords Go.Proofs.YtlfomjhjeknnmaaW.PrintLast Go.Proofs.YtlfomjhjeknnmaaW.PrintMore
attribute [local go_sem] max2_int min2_int max_two min_two max_three min_three max_four min_four   -- for this text's walks alone
set_option linter.unusedVariables false
set_option linter.unusedSimpArgs false

/-! ### laws_FnGates: function 6 -/
def laws_FnGates.j0 : Nat → Int → Int → Int → Int → Bool → Option (Bool)
 | 0, _, _, _, _, _ => none
 | k + 1, x6, x7, x11, x12, x109 => if x109 = true then (some false) else (if x11 < 0 then (if x12 < 0 then (some true) else (if x12 = (wrap64 (x6 + x11)) then (if x7 < 0 then (some true) else (some (decide (x7 ≥ x12)))) else (some false))) else (if x12 = (wrap64 (x6 + x11)) then (if x7 < 0 then (some true) else (some (decide (x7 ≥ x12)))) else (some false)))
def laws_FnGates.f (k : Nat) (l0 : List Int) : Option (Bool) := (laws_big.f l0).bind fun t501 => (if t501 = true then (some true) else ((spec_DrawTimed.f k l0).bind fun bt502 => ((laws_at.f l0 0).bind fun t512 => ((impl_EarliestAt.f k bt502.1 bt502.2.1 bt502.2.2.1 bt502.2.2.2.1 bt502.2.2.2.2.1 bt502.2.2.2.2.2.1 (Int.tmod t512 40) bt502.2.2.2.2.2.2).bind fun t513 => ((impl_EarliestAt.f k bt502.1 bt502.2.1 bt502.2.2.1 bt502.2.2.2.1 bt502.2.2.2.2.1 bt502.2.2.2.2.2.1 (wrap64 ((Int.tmod t512 40) + 1)) bt502.2.2.2.2.2.2).bind fun t514 => ((impl_EarliestAt.f k bt502.1 bt502.2.1 bt502.2.2.1 bt502.2.2.2.1 bt502.2.2.2.2.1 bt502.2.2.2.2.2.1 (wrap64 ((Int.tmod t512 40) + bt502.2.2.2.1)) bt502.2.2.2.2.2.2).bind fun t515 => ((impl_DistanceOf.f k bt502.1 bt502.2.1 bt502.2.2.1 bt502.2.2.2.2.2.1 bt502.2.2.2.2.2.2).bind fun t517 => ((impl_EarliestAt.f k bt502.1 bt502.2.1 bt502.2.2.1 1 ([] : List (S56)) bt502.2.2.2.2.2.1 (Int.tmod t512 40) bt502.2.2.2.2.2.2).bind fun t518 => ((impl_MazeAtTime.f k bt502.1 bt502.2.1 bt502.2.2.1 bt502.2.2.2.1 bt502.2.2.2.2.1 (Int.tmod t512 40)).bind fun bt519 => (if ((decide (t513 < 0)) != (decide (t514 < 0))) = true then (laws_FnGates.j0 k (Int.tmod t512 40) t513 t517 t518 true) else (if t513 > t514 then (if t514 ≥ 0 then (laws_FnGates.j0 k (Int.tmod t512 40) t513 t517 t518 true) else (if ((decide (t513 < 0)) != (decide (t515 < 0))) = true then (laws_FnGates.j0 k (Int.tmod t512 40) t513 t517 t518 true) else (if t513 ≥ 0 then (if t515 = (wrap64 (t513 + bt502.2.2.2.1)) then (if bt519.2.2.2 = true then (laws_FnGates.j0 k (Int.tmod t512 40) t513 t517 t518 ((Go.bits .andNot .i64 bt519.2.2.1 bt502.2.2.1) != 0)) else (laws_FnGates.j0 k (Int.tmod t512 40) t513 t517 t518 true)) else (laws_FnGates.j0 k (Int.tmod t512 40) t513 t517 t518 true)) else (if bt519.2.2.2 = true then (laws_FnGates.j0 k (Int.tmod t512 40) t513 t517 t518 ((Go.bits .andNot .i64 bt519.2.2.1 bt502.2.2.1) != 0)) else (laws_FnGates.j0 k (Int.tmod t512 40) t513 t517 t518 true))))) else (if ((decide (t513 < 0)) != (decide (t515 < 0))) = true then (laws_FnGates.j0 k (Int.tmod t512 40) t513 t517 t518 true) else (if t513 ≥ 0 then (if t515 = (wrap64 (t513 + bt502.2.2.2.1)) then (if bt519.2.2.2 = true then (laws_FnGates.j0 k (Int.tmod t512 40) t513 t517 t518 ((Go.bits .andNot .i64 bt519.2.2.1 bt502.2.2.1) != 0)) else (laws_FnGates.j0 k (Int.tmod t512 40) t513 t517 t518 true)) else (laws_FnGates.j0 k (Int.tmod t512 40) t513 t517 t518 true)) else (if bt519.2.2.2 = true then (laws_FnGates.j0 k (Int.tmod t512 40) t513 t517 t518 ((Go.bits .andNot .i64 bt519.2.2.1 bt502.2.2.1) != 0)) else (laws_FnGates.j0 k (Int.tmod t512 40) t513 t517 t518 true)))))))))))))))
theorem laws_FnGates.mono_l : ∀ k, (∀ y0 y1 y2 y3 y4, LeO (laws_FnGates.j0 k y0 y1 y2 y3 y4) (laws_FnGates.j0 (k + 1) y0 y1 y2 y3 y4))
 | 0 => fun _ _ _ _ _ r h => by simp [laws_FnGates.j0] at h
 | k + 1 => by
  have ih0 := laws_FnGates.mono_l k
  ·intro y0 y1 y2 y3 y4
   unfold laws_FnGates.j0
   repeat' first
   | (with_reducible exact ih0 ..)
   | (with_reducible exact impl_DistanceOf.mono ..)
   | (with_reducible exact impl_EarliestAt.mono ..)
   | (with_reducible exact impl_MazeAtTime.mono ..)
   | (with_reducible exact spec_DrawTimed.mono ..)
   | (with_reducible first | exact lr_ _ | exact ln_ _ | refine li_ ?_ ?_ | refine lb_ ?_ fun _ => ?_)
   | exact ih0 ..
   | exact impl_DistanceOf.mono ..
   | exact impl_EarliestAt.mono ..
   | exact impl_MazeAtTime.mono ..
   | exact spec_DrawTimed.mono ..
   | exact ln_ _ | refine li_ ?_ ?_ | refine lb_ ?_ fun _ => ?_
theorem laws_FnGates.mono : ∀ a0 k, LeO (laws_FnGates.f k a0) (laws_FnGates.f (k + 1) a0) := by
 intro a0 k
 have ih0 := laws_FnGates.mono_l k
 unfold laws_FnGates.f
 repeat' first
   | (with_reducible exact ih0 ..)
   | (with_reducible exact impl_DistanceOf.mono ..)
   | (with_reducible exact impl_EarliestAt.mono ..)
   | (with_reducible exact impl_MazeAtTime.mono ..)
   | (with_reducible exact spec_DrawTimed.mono ..)
   | (with_reducible first | exact lr_ _ | exact ln_ _ | refine li_ ?_ ?_ | refine lb_ ?_ fun _ => ?_)
   | exact ih0 ..
   | exact impl_DistanceOf.mono ..
   | exact impl_EarliestAt.mono ..
   | exact impl_MazeAtTime.mono ..
   | exact spec_DrawTimed.mono ..
   | exact ln_ _ | refine li_ ?_ ?_ | refine lb_ ?_ fun _ => ?_
set_option maxHeartbeats 8000000 in
set_option maxRecDepth 100000 in
theorem laws_FnGates.calls (k : Nat) (A0 : Option Addr) (c0 : Nat) (l0 : List Int) (r : Bool) (w : World) (hr0 : Kd.C (Kd.int .u8) w A0 l0.length l0) (hc0 : l0.length ≤ c0) (h : laws_FnGates.f k l0 = some r) :
  Calls Try.prog 6 #[.slice A0 l0.length c0] w fun e w' => e = .returned (.bool r) ∧ Below w.heap.size w w' := by
 have hu36 := Try.underlying36
 have hu33 := Try.underlying33
 have HR0 := Aside0.mk hr0
 have HC0 := Aside0.mk hc0
 clear hr0 hc0
 have HB := Aside0.mk (Below.refl w.heap.size w)
 have H : ((laws_big.f l0).bind fun t501 => (if t501 = true then (some true) else ((spec_DrawTimed.f k l0).bind fun bt502 => ((laws_at.f l0 0).bind fun t512 => ((impl_EarliestAt.f k bt502.1 bt502.2.1 bt502.2.2.1 bt502.2.2.2.1 bt502.2.2.2.2.1 bt502.2.2.2.2.2.1 (Int.tmod t512 40) bt502.2.2.2.2.2.2).bind fun t513 => ((impl_EarliestAt.f k bt502.1 bt502.2.1 bt502.2.2.1 bt502.2.2.2.1 bt502.2.2.2.2.1 bt502.2.2.2.2.2.1 (wrap64 ((Int.tmod t512 40) + 1)) bt502.2.2.2.2.2.2).bind fun t514 => ((impl_EarliestAt.f k bt502.1 bt502.2.1 bt502.2.2.1 bt502.2.2.2.1 bt502.2.2.2.2.1 bt502.2.2.2.2.2.1 (wrap64 ((Int.tmod t512 40) + bt502.2.2.2.1)) bt502.2.2.2.2.2.2).bind fun t515 => ((impl_DistanceOf.f k bt502.1 bt502.2.1 bt502.2.2.1 bt502.2.2.2.2.2.1 bt502.2.2.2.2.2.2).bind fun t517 => ((impl_EarliestAt.f k bt502.1 bt502.2.1 bt502.2.2.1 1 ([] : List (S56)) bt502.2.2.2.2.2.1 (Int.tmod t512 40) bt502.2.2.2.2.2.2).bind fun t518 => ((impl_MazeAtTime.f k bt502.1 bt502.2.1 bt502.2.2.1 bt502.2.2.2.1 bt502.2.2.2.2.1 (Int.tmod t512 40)).bind fun bt519 => (if ((decide (t513 < 0)) != (decide (t514 < 0))) = true then (laws_FnGates.j0 k (Int.tmod t512 40) t513 t517 t518 true) else (if t513 > t514 then (if t514 ≥ 0 then (laws_FnGates.j0 k (Int.tmod t512 40) t513 t517 t518 true) else (if ((decide (t513 < 0)) != (decide (t515 < 0))) = true then (laws_FnGates.j0 k (Int.tmod t512 40) t513 t517 t518 true) else (if t513 ≥ 0 then (if t515 = (wrap64 (t513 + bt502.2.2.2.1)) then (if bt519.2.2.2 = true then (laws_FnGates.j0 k (Int.tmod t512 40) t513 t517 t518 ((Go.bits .andNot .i64 bt519.2.2.1 bt502.2.2.1) != 0)) else (laws_FnGates.j0 k (Int.tmod t512 40) t513 t517 t518 true)) else (laws_FnGates.j0 k (Int.tmod t512 40) t513 t517 t518 true)) else (if bt519.2.2.2 = true then (laws_FnGates.j0 k (Int.tmod t512 40) t513 t517 t518 ((Go.bits .andNot .i64 bt519.2.2.1 bt502.2.2.1) != 0)) else (laws_FnGates.j0 k (Int.tmod t512 40) t513 t517 t518 true))))) else (if ((decide (t513 < 0)) != (decide (t515 < 0))) = true then (laws_FnGates.j0 k (Int.tmod t512 40) t513 t517 t518 true) else (if t513 ≥ 0 then (if t515 = (wrap64 (t513 + bt502.2.2.2.1)) then (if bt519.2.2.2 = true then (laws_FnGates.j0 k (Int.tmod t512 40) t513 t517 t518 ((Go.bits .andNot .i64 bt519.2.2.1 bt502.2.2.1) != 0)) else (laws_FnGates.j0 k (Int.tmod t512 40) t513 t517 t518 true)) else (laws_FnGates.j0 k (Int.tmod t512 40) t513 t517 t518 true)) else (if bt519.2.2.2 = true then (laws_FnGates.j0 k (Int.tmod t512 40) t513 t517 t518 ((Go.bits .andNot .i64 bt519.2.2.1 bt502.2.2.1) != 0)) else (laws_FnGates.j0 k (Int.tmod t512 40) t513 t517 t518 true)))))))))))))))) = some r := h
 clear h
 replace H := Option.bind_eq_some_iff.mp H
 obtain ⟨t501, A20, H⟩ := H
 replace H : (if t501 = true then (some true) else ((spec_DrawTimed.f k l0).bind fun bt502 => ((laws_at.f l0 0).bind fun t512 => ((impl_EarliestAt.f k bt502.1 bt502.2.1 bt502.2.2.1 bt502.2.2.2.1 bt502.2.2.2.2.1 bt502.2.2.2.2.2.1 (Int.tmod t512 40) bt502.2.2.2.2.2.2).bind fun t513 => ((impl_EarliestAt.f k bt502.1 bt502.2.1 bt502.2.2.1 bt502.2.2.2.1 bt502.2.2.2.2.1 bt502.2.2.2.2.2.1 (wrap64 ((Int.tmod t512 40) + 1)) bt502.2.2.2.2.2.2).bind fun t514 => ((impl_EarliestAt.f k bt502.1 bt502.2.1 bt502.2.2.1 bt502.2.2.2.1 bt502.2.2.2.2.1 bt502.2.2.2.2.2.1 (wrap64 ((Int.tmod t512 40) + bt502.2.2.2.1)) bt502.2.2.2.2.2.2).bind fun t515 => ((impl_DistanceOf.f k bt502.1 bt502.2.1 bt502.2.2.1 bt502.2.2.2.2.2.1 bt502.2.2.2.2.2.2).bind fun t517 => ((impl_EarliestAt.f k bt502.1 bt502.2.1 bt502.2.2.1 1 ([] : List (S56)) bt502.2.2.2.2.2.1 (Int.tmod t512 40) bt502.2.2.2.2.2.2).bind fun t518 => ((impl_MazeAtTime.f k bt502.1 bt502.2.1 bt502.2.2.1 bt502.2.2.2.1 bt502.2.2.2.2.1 (Int.tmod t512 40)).bind fun bt519 => (if ((decide (t513 < 0)) != (decide (t514 < 0))) = true then (laws_FnGates.j0 k (Int.tmod t512 40) t513 t517 t518 true) else (if t513 > t514 then (if t514 ≥ 0 then (laws_FnGates.j0 k (Int.tmod t512 40) t513 t517 t518 true) else (if ((decide (t513 < 0)) != (decide (t515 < 0))) = true then (laws_FnGates.j0 k (Int.tmod t512 40) t513 t517 t518 true) else (if t513 ≥ 0 then (if t515 = (wrap64 (t513 + bt502.2.2.2.1)) then (if bt519.2.2.2 = true then (laws_FnGates.j0 k (Int.tmod t512 40) t513 t517 t518 ((Go.bits .andNot .i64 bt519.2.2.1 bt502.2.2.1) != 0)) else (laws_FnGates.j0 k (Int.tmod t512 40) t513 t517 t518 true)) else (laws_FnGates.j0 k (Int.tmod t512 40) t513 t517 t518 true)) else (if bt519.2.2.2 = true then (laws_FnGates.j0 k (Int.tmod t512 40) t513 t517 t518 ((Go.bits .andNot .i64 bt519.2.2.1 bt502.2.2.1) != 0)) else (laws_FnGates.j0 k (Int.tmod t512 40) t513 t517 t518 true))))) else (if ((decide (t513 < 0)) != (decide (t515 < 0))) = true then (laws_FnGates.j0 k (Int.tmod t512 40) t513 t517 t518 true) else (if t513 ≥ 0 then (if t515 = (wrap64 (t513 + bt502.2.2.2.1)) then (if bt519.2.2.2 = true then (laws_FnGates.j0 k (Int.tmod t512 40) t513 t517 t518 ((Go.bits .andNot .i64 bt519.2.2.1 bt502.2.2.1) != 0)) else (laws_FnGates.j0 k (Int.tmod t512 40) t513 t517 t518 true)) else (laws_FnGates.j0 k (Int.tmod t512 40) t513 t517 t518 true)) else (if bt519.2.2.2 = true then (laws_FnGates.j0 k (Int.tmod t512 40) t513 t517 t518 ((Go.bits .andNot .i64 bt519.2.2.1 bt502.2.2.1) != 0)) else (laws_FnGates.j0 k (Int.tmod t512 40) t513 t517 t518 true))))))))))))))) = some r := H
 have A2 := Aside0.mk A20
 clear A20
 by_cases c3 : t501 = true
 ·subst c3
  have H1 : (some true) = some r := by rw [if_pos rfl] at H; exact H
  clear H
  have H := H1
  clear H1
  obtain rfl := Option.some.inj H
  go_enter Try.func6, Try.ntmps6
  go_wp2_with ((with_reducible refine gw_ ?_); first | (refine gl_ 16 Try.func21 #[.slice A0 l0.length c0] ?_; (with_reducible refine (laws_big.calls _ _ l0 true _ ?side1 ?side2 A2.out).mono ?_); (case side1 => exact kc_ HR0.out); (case side2 => exact HC0.out); rintro e w' ⟨rfl, ⟨nd, rfl⟩⟩; refine ⟨_, rfl, ?_⟩))
  go_ret
  exact ⟨ex_, hb0_ HB.out⟩
 ·replace c3 := Bool.eq_false_iff.mpr c3
  subst c3
  have H1 : ((spec_DrawTimed.f k l0).bind fun bt502 => ((laws_at.f l0 0).bind fun t512 => ((impl_EarliestAt.f k bt502.1 bt502.2.1 bt502.2.2.1 bt502.2.2.2.1 bt502.2.2.2.2.1 bt502.2.2.2.2.2.1 (Int.tmod t512 40) bt502.2.2.2.2.2.2).bind fun t513 => ((impl_EarliestAt.f k bt502.1 bt502.2.1 bt502.2.2.1 bt502.2.2.2.1 bt502.2.2.2.2.1 bt502.2.2.2.2.2.1 (wrap64 ((Int.tmod t512 40) + 1)) bt502.2.2.2.2.2.2).bind fun t514 => ((impl_EarliestAt.f k bt502.1 bt502.2.1 bt502.2.2.1 bt502.2.2.2.1 bt502.2.2.2.2.1 bt502.2.2.2.2.2.1 (wrap64 ((Int.tmod t512 40) + bt502.2.2.2.1)) bt502.2.2.2.2.2.2).bind fun t515 => ((impl_DistanceOf.f k bt502.1 bt502.2.1 bt502.2.2.1 bt502.2.2.2.2.2.1 bt502.2.2.2.2.2.2).bind fun t517 => ((impl_EarliestAt.f k bt502.1 bt502.2.1 bt502.2.2.1 1 ([] : List (S56)) bt502.2.2.2.2.2.1 (Int.tmod t512 40) bt502.2.2.2.2.2.2).bind fun t518 => ((impl_MazeAtTime.f k bt502.1 bt502.2.1 bt502.2.2.1 bt502.2.2.2.1 bt502.2.2.2.2.1 (Int.tmod t512 40)).bind fun bt519 => (if ((decide (t513 < 0)) != (decide (t514 < 0))) = true then (laws_FnGates.j0 k (Int.tmod t512 40) t513 t517 t518 true) else (if t513 > t514 then (if t514 ≥ 0 then (laws_FnGates.j0 k (Int.tmod t512 40) t513 t517 t518 true) else (if ((decide (t513 < 0)) != (decide (t515 < 0))) = true then (laws_FnGates.j0 k (Int.tmod t512 40) t513 t517 t518 true) else (if t513 ≥ 0 then (if t515 = (wrap64 (t513 + bt502.2.2.2.1)) then (if bt519.2.2.2 = true then (laws_FnGates.j0 k (Int.tmod t512 40) t513 t517 t518 ((Go.bits .andNot .i64 bt519.2.2.1 bt502.2.2.1) != 0)) else (laws_FnGates.j0 k (Int.tmod t512 40) t513 t517 t518 true)) else (laws_FnGates.j0 k (Int.tmod t512 40) t513 t517 t518 true)) else (if bt519.2.2.2 = true then (laws_FnGates.j0 k (Int.tmod t512 40) t513 t517 t518 ((Go.bits .andNot .i64 bt519.2.2.1 bt502.2.2.1) != 0)) else (laws_FnGates.j0 k (Int.tmod t512 40) t513 t517 t518 true))))) else (if ((decide (t513 < 0)) != (decide (t515 < 0))) = true then (laws_FnGates.j0 k (Int.tmod t512 40) t513 t517 t518 true) else (if t513 ≥ 0 then (if t515 = (wrap64 (t513 + bt502.2.2.2.1)) then (if bt519.2.2.2 = true then (laws_FnGates.j0 k (Int.tmod t512 40) t513 t517 t518 ((Go.bits .andNot .i64 bt519.2.2.1 bt502.2.2.1) != 0)) else (laws_FnGates.j0 k (Int.tmod t512 40) t513 t517 t518 true)) else (laws_FnGates.j0 k (Int.tmod t512 40) t513 t517 t518 true)) else (if bt519.2.2.2 = true then (laws_FnGates.j0 k (Int.tmod t512 40) t513 t517 t518 ((Go.bits .andNot .i64 bt519.2.2.1 bt502.2.2.1) != 0)) else (laws_FnGates.j0 k (Int.tmod t512 40) t513 t517 t518 true)))))))))))))) = some r := by rw [if_neg (show ¬ (false = true) by decide)] at H; exact H
  clear H
  have H := H1
  clear H1
  replace H := Option.bind_eq_some_iff.mp H
  obtain ⟨⟨t502, t503, t504, t505, t506, t509, t510⟩, A40, H⟩ := H
  replace H : ((laws_at.f l0 0).bind fun t512 => ((impl_EarliestAt.f k t502 t503 t504 t505 t506 t509 (Int.tmod t512 40) t510).bind fun t513 => ((impl_EarliestAt.f k t502 t503 t504 t505 t506 t509 (wrap64 ((Int.tmod t512 40) + 1)) t510).bind fun t514 => ((impl_EarliestAt.f k t502 t503 t504 t505 t506 t509 (wrap64 ((Int.tmod t512 40) + t505)) t510).bind fun t515 => ((impl_DistanceOf.f k t502 t503 t504 t509 t510).bind fun t517 => ((impl_EarliestAt.f k t502 t503 t504 1 ([] : List (S56)) t509 (Int.tmod t512 40) t510).bind fun t518 => ((impl_MazeAtTime.f k t502 t503 t504 t505 t506 (Int.tmod t512 40)).bind fun bt519 => (if ((decide (t513 < 0)) != (decide (t514 < 0))) = true then (laws_FnGates.j0 k (Int.tmod t512 40) t513 t517 t518 true) else (if t513 > t514 then (if t514 ≥ 0 then (laws_FnGates.j0 k (Int.tmod t512 40) t513 t517 t518 true) else (if ((decide (t513 < 0)) != (decide (t515 < 0))) = true then (laws_FnGates.j0 k (Int.tmod t512 40) t513 t517 t518 true) else (if t513 ≥ 0 then (if t515 = (wrap64 (t513 + t505)) then (if bt519.2.2.2 = true then (laws_FnGates.j0 k (Int.tmod t512 40) t513 t517 t518 ((Go.bits .andNot .i64 bt519.2.2.1 t504) != 0)) else (laws_FnGates.j0 k (Int.tmod t512 40) t513 t517 t518 true)) else (laws_FnGates.j0 k (Int.tmod t512 40) t513 t517 t518 true)) else (if bt519.2.2.2 = true then (laws_FnGates.j0 k (Int.tmod t512 40) t513 t517 t518 ((Go.bits .andNot .i64 bt519.2.2.1 t504) != 0)) else (laws_FnGates.j0 k (Int.tmod t512 40) t513 t517 t518 true))))) else (if ((decide (t513 < 0)) != (decide (t515 < 0))) = true then (laws_FnGates.j0 k (Int.tmod t512 40) t513 t517 t518 true) else (if t513 ≥ 0 then (if t515 = (wrap64 (t513 + t505)) then (if bt519.2.2.2 = true then (laws_FnGates.j0 k (Int.tmod t512 40) t513 t517 t518 ((Go.bits .andNot .i64 bt519.2.2.1 t504) != 0)) else (laws_FnGates.j0 k (Int.tmod t512 40) t513 t517 t518 true)) else (laws_FnGates.j0 k (Int.tmod t512 40) t513 t517 t518 true)) else (if bt519.2.2.2 = true then (laws_FnGates.j0 k (Int.tmod t512 40) t513 t517 t518 ((Go.bits .andNot .i64 bt519.2.2.1 t504) != 0)) else (laws_FnGates.j0 k (Int.tmod t512 40) t513 t517 t518 true))))))))))))) = some r := H
  have A4 := Aside0.mk A40
  clear A40
  replace H := Option.bind_eq_some_iff.mp H
  obtain ⟨t512, A50, H⟩ := H
  replace H : ((impl_EarliestAt.f k t502 t503 t504 t505 t506 t509 (Int.tmod t512 40) t510).bind fun t513 => ((impl_EarliestAt.f k t502 t503 t504 t505 t506 t509 (wrap64 ((Int.tmod t512 40) + 1)) t510).bind fun t514 => ((impl_EarliestAt.f k t502 t503 t504 t505 t506 t509 (wrap64 ((Int.tmod t512 40) + t505)) t510).bind fun t515 => ((impl_DistanceOf.f k t502 t503 t504 t509 t510).bind fun t517 => ((impl_EarliestAt.f k t502 t503 t504 1 ([] : List (S56)) t509 (Int.tmod t512 40) t510).bind fun t518 => ((impl_MazeAtTime.f k t502 t503 t504 t505 t506 (Int.tmod t512 40)).bind fun bt519 => (if ((decide (t513 < 0)) != (decide (t514 < 0))) = true then (laws_FnGates.j0 k (Int.tmod t512 40) t513 t517 t518 true) else (if t513 > t514 then (if t514 ≥ 0 then (laws_FnGates.j0 k (Int.tmod t512 40) t513 t517 t518 true) else (if ((decide (t513 < 0)) != (decide (t515 < 0))) = true then (laws_FnGates.j0 k (Int.tmod t512 40) t513 t517 t518 true) else (if t513 ≥ 0 then (if t515 = (wrap64 (t513 + t505)) then (if bt519.2.2.2 = true then (laws_FnGates.j0 k (Int.tmod t512 40) t513 t517 t518 ((Go.bits .andNot .i64 bt519.2.2.1 t504) != 0)) else (laws_FnGates.j0 k (Int.tmod t512 40) t513 t517 t518 true)) else (laws_FnGates.j0 k (Int.tmod t512 40) t513 t517 t518 true)) else (if bt519.2.2.2 = true then (laws_FnGates.j0 k (Int.tmod t512 40) t513 t517 t518 ((Go.bits .andNot .i64 bt519.2.2.1 t504) != 0)) else (laws_FnGates.j0 k (Int.tmod t512 40) t513 t517 t518 true))))) else (if ((decide (t513 < 0)) != (decide (t515 < 0))) = true then (laws_FnGates.j0 k (Int.tmod t512 40) t513 t517 t518 true) else (if t513 ≥ 0 then (if t515 = (wrap64 (t513 + t505)) then (if bt519.2.2.2 = true then (laws_FnGates.j0 k (Int.tmod t512 40) t513 t517 t518 ((Go.bits .andNot .i64 bt519.2.2.1 t504) != 0)) else (laws_FnGates.j0 k (Int.tmod t512 40) t513 t517 t518 true)) else (laws_FnGates.j0 k (Int.tmod t512 40) t513 t517 t518 true)) else (if bt519.2.2.2 = true then (laws_FnGates.j0 k (Int.tmod t512 40) t513 t517 t518 ((Go.bits .andNot .i64 bt519.2.2.1 t504) != 0)) else (laws_FnGates.j0 k (Int.tmod t512 40) t513 t517 t518 true)))))))))))) = some r := H
  have A5 := Aside0.mk A50
  clear A50
  replace H := Option.bind_eq_some_iff.mp H
  obtain ⟨t513, A60, H⟩ := H
  replace H : ((impl_EarliestAt.f k t502 t503 t504 t505 t506 t509 (wrap64 ((Int.tmod t512 40) + 1)) t510).bind fun t514 => ((impl_EarliestAt.f k t502 t503 t504 t505 t506 t509 (wrap64 ((Int.tmod t512 40) + t505)) t510).bind fun t515 => ((impl_DistanceOf.f k t502 t503 t504 t509 t510).bind fun t517 => ((impl_EarliestAt.f k t502 t503 t504 1 ([] : List (S56)) t509 (Int.tmod t512 40) t510).bind fun t518 => ((impl_MazeAtTime.f k t502 t503 t504 t505 t506 (Int.tmod t512 40)).bind fun bt519 => (if ((decide (t513 < 0)) != (decide (t514 < 0))) = true then (laws_FnGates.j0 k (Int.tmod t512 40) t513 t517 t518 true) else (if t513 > t514 then (if t514 ≥ 0 then (laws_FnGates.j0 k (Int.tmod t512 40) t513 t517 t518 true) else (if ((decide (t513 < 0)) != (decide (t515 < 0))) = true then (laws_FnGates.j0 k (Int.tmod t512 40) t513 t517 t518 true) else (if t513 ≥ 0 then (if t515 = (wrap64 (t513 + t505)) then (if bt519.2.2.2 = true then (laws_FnGates.j0 k (Int.tmod t512 40) t513 t517 t518 ((Go.bits .andNot .i64 bt519.2.2.1 t504) != 0)) else (laws_FnGates.j0 k (Int.tmod t512 40) t513 t517 t518 true)) else (laws_FnGates.j0 k (Int.tmod t512 40) t513 t517 t518 true)) else (if bt519.2.2.2 = true then (laws_FnGates.j0 k (Int.tmod t512 40) t513 t517 t518 ((Go.bits .andNot .i64 bt519.2.2.1 t504) != 0)) else (laws_FnGates.j0 k (Int.tmod t512 40) t513 t517 t518 true))))) else (if ((decide (t513 < 0)) != (decide (t515 < 0))) = true then (laws_FnGates.j0 k (Int.tmod t512 40) t513 t517 t518 true) else (if t513 ≥ 0 then (if t515 = (wrap64 (t513 + t505)) then (if bt519.2.2.2 = true then (laws_FnGates.j0 k (Int.tmod t512 40) t513 t517 t518 ((Go.bits .andNot .i64 bt519.2.2.1 t504) != 0)) else (laws_FnGates.j0 k (Int.tmod t512 40) t513 t517 t518 true)) else (laws_FnGates.j0 k (Int.tmod t512 40) t513 t517 t518 true)) else (if bt519.2.2.2 = true then (laws_FnGates.j0 k (Int.tmod t512 40) t513 t517 t518 ((Go.bits .andNot .i64 bt519.2.2.1 t504) != 0)) else (laws_FnGates.j0 k (Int.tmod t512 40) t513 t517 t518 true))))))))))) = some r := H
  have A6 := Aside0.mk A60
  clear A60
  replace H := Option.bind_eq_some_iff.mp H
  obtain ⟨t514, A70, H⟩ := H
  replace H : ((impl_EarliestAt.f k t502 t503 t504 t505 t506 t509 (wrap64 ((Int.tmod t512 40) + t505)) t510).bind fun t515 => ((impl_DistanceOf.f k t502 t503 t504 t509 t510).bind fun t517 => ((impl_EarliestAt.f k t502 t503 t504 1 ([] : List (S56)) t509 (Int.tmod t512 40) t510).bind fun t518 => ((impl_MazeAtTime.f k t502 t503 t504 t505 t506 (Int.tmod t512 40)).bind fun bt519 => (if ((decide (t513 < 0)) != (decide (t514 < 0))) = true then (laws_FnGates.j0 k (Int.tmod t512 40) t513 t517 t518 true) else (if t513 > t514 then (if t514 ≥ 0 then (laws_FnGates.j0 k (Int.tmod t512 40) t513 t517 t518 true) else (if ((decide (t513 < 0)) != (decide (t515 < 0))) = true then (laws_FnGates.j0 k (Int.tmod t512 40) t513 t517 t518 true) else (if t513 ≥ 0 then (if t515 = (wrap64 (t513 + t505)) then (if bt519.2.2.2 = true then (laws_FnGates.j0 k (Int.tmod t512 40) t513 t517 t518 ((Go.bits .andNot .i64 bt519.2.2.1 t504) != 0)) else (laws_FnGates.j0 k (Int.tmod t512 40) t513 t517 t518 true)) else (laws_FnGates.j0 k (Int.tmod t512 40) t513 t517 t518 true)) else (if bt519.2.2.2 = true then (laws_FnGates.j0 k (Int.tmod t512 40) t513 t517 t518 ((Go.bits .andNot .i64 bt519.2.2.1 t504) != 0)) else (laws_FnGates.j0 k (Int.tmod t512 40) t513 t517 t518 true))))) else (if ((decide (t513 < 0)) != (decide (t515 < 0))) = true then (laws_FnGates.j0 k (Int.tmod t512 40) t513 t517 t518 true) else (if t513 ≥ 0 then (if t515 = (wrap64 (t513 + t505)) then (if bt519.2.2.2 = true then (laws_FnGates.j0 k (Int.tmod t512 40) t513 t517 t518 ((Go.bits .andNot .i64 bt519.2.2.1 t504) != 0)) else (laws_FnGates.j0 k (Int.tmod t512 40) t513 t517 t518 true)) else (laws_FnGates.j0 k (Int.tmod t512 40) t513 t517 t518 true)) else (if bt519.2.2.2 = true then (laws_FnGates.j0 k (Int.tmod t512 40) t513 t517 t518 ((Go.bits .andNot .i64 bt519.2.2.1 t504) != 0)) else (laws_FnGates.j0 k (Int.tmod t512 40) t513 t517 t518 true)))))))))) = some r := H
  have A7 := Aside0.mk A70
  clear A70
  replace H := Option.bind_eq_some_iff.mp H
  obtain ⟨t515, A80, H⟩ := H
  replace H : ((impl_DistanceOf.f k t502 t503 t504 t509 t510).bind fun t517 => ((impl_EarliestAt.f k t502 t503 t504 1 ([] : List (S56)) t509 (Int.tmod t512 40) t510).bind fun t518 => ((impl_MazeAtTime.f k t502 t503 t504 t505 t506 (Int.tmod t512 40)).bind fun bt519 => (if ((decide (t513 < 0)) != (decide (t514 < 0))) = true then (laws_FnGates.j0 k (Int.tmod t512 40) t513 t517 t518 true) else (if t513 > t514 then (if t514 ≥ 0 then (laws_FnGates.j0 k (Int.tmod t512 40) t513 t517 t518 true) else (if ((decide (t513 < 0)) != (decide (t515 < 0))) = true then (laws_FnGates.j0 k (Int.tmod t512 40) t513 t517 t518 true) else (if t513 ≥ 0 then (if t515 = (wrap64 (t513 + t505)) then (if bt519.2.2.2 = true then (laws_FnGates.j0 k (Int.tmod t512 40) t513 t517 t518 ((Go.bits .andNot .i64 bt519.2.2.1 t504) != 0)) else (laws_FnGates.j0 k (Int.tmod t512 40) t513 t517 t518 true)) else (laws_FnGates.j0 k (Int.tmod t512 40) t513 t517 t518 true)) else (if bt519.2.2.2 = true then (laws_FnGates.j0 k (Int.tmod t512 40) t513 t517 t518 ((Go.bits .andNot .i64 bt519.2.2.1 t504) != 0)) else (laws_FnGates.j0 k (Int.tmod t512 40) t513 t517 t518 true))))) else (if ((decide (t513 < 0)) != (decide (t515 < 0))) = true then (laws_FnGates.j0 k (Int.tmod t512 40) t513 t517 t518 true) else (if t513 ≥ 0 then (if t515 = (wrap64 (t513 + t505)) then (if bt519.2.2.2 = true then (laws_FnGates.j0 k (Int.tmod t512 40) t513 t517 t518 ((Go.bits .andNot .i64 bt519.2.2.1 t504) != 0)) else (laws_FnGates.j0 k (Int.tmod t512 40) t513 t517 t518 true)) else (laws_FnGates.j0 k (Int.tmod t512 40) t513 t517 t518 true)) else (if bt519.2.2.2 = true then (laws_FnGates.j0 k (Int.tmod t512 40) t513 t517 t518 ((Go.bits .andNot .i64 bt519.2.2.1 t504) != 0)) else (laws_FnGates.j0 k (Int.tmod t512 40) t513 t517 t518 true))))))))) = some r := H
  have A8 := Aside0.mk A80
  clear A80
  replace H := Option.bind_eq_some_iff.mp H
  obtain ⟨t517, A90, H⟩ := H
  replace H : ((impl_EarliestAt.f k t502 t503 t504 1 ([] : List (S56)) t509 (Int.tmod t512 40) t510).bind fun t518 => ((impl_MazeAtTime.f k t502 t503 t504 t505 t506 (Int.tmod t512 40)).bind fun bt519 => (if ((decide (t513 < 0)) != (decide (t514 < 0))) = true then (laws_FnGates.j0 k (Int.tmod t512 40) t513 t517 t518 true) else (if t513 > t514 then (if t514 ≥ 0 then (laws_FnGates.j0 k (Int.tmod t512 40) t513 t517 t518 true) else (if ((decide (t513 < 0)) != (decide (t515 < 0))) = true then (laws_FnGates.j0 k (Int.tmod t512 40) t513 t517 t518 true) else (if t513 ≥ 0 then (if t515 = (wrap64 (t513 + t505)) then (if bt519.2.2.2 = true then (laws_FnGates.j0 k (Int.tmod t512 40) t513 t517 t518 ((Go.bits .andNot .i64 bt519.2.2.1 t504) != 0)) else (laws_FnGates.j0 k (Int.tmod t512 40) t513 t517 t518 true)) else (laws_FnGates.j0 k (Int.tmod t512 40) t513 t517 t518 true)) else (if bt519.2.2.2 = true then (laws_FnGates.j0 k (Int.tmod t512 40) t513 t517 t518 ((Go.bits .andNot .i64 bt519.2.2.1 t504) != 0)) else (laws_FnGates.j0 k (Int.tmod t512 40) t513 t517 t518 true))))) else (if ((decide (t513 < 0)) != (decide (t515 < 0))) = true then (laws_FnGates.j0 k (Int.tmod t512 40) t513 t517 t518 true) else (if t513 ≥ 0 then (if t515 = (wrap64 (t513 + t505)) then (if bt519.2.2.2 = true then (laws_FnGates.j0 k (Int.tmod t512 40) t513 t517 t518 ((Go.bits .andNot .i64 bt519.2.2.1 t504) != 0)) else (laws_FnGates.j0 k (Int.tmod t512 40) t513 t517 t518 true)) else (laws_FnGates.j0 k (Int.tmod t512 40) t513 t517 t518 true)) else (if bt519.2.2.2 = true then (laws_FnGates.j0 k (Int.tmod t512 40) t513 t517 t518 ((Go.bits .andNot .i64 bt519.2.2.1 t504) != 0)) else (laws_FnGates.j0 k (Int.tmod t512 40) t513 t517 t518 true)))))))) = some r := H
  have A9 := Aside0.mk A90
  clear A90
  replace H := Option.bind_eq_some_iff.mp H
  obtain ⟨t518, A100, H⟩ := H
  replace H : ((impl_MazeAtTime.f k t502 t503 t504 t505 t506 (Int.tmod t512 40)).bind fun bt519 => (if ((decide (t513 < 0)) != (decide (t514 < 0))) = true then (laws_FnGates.j0 k (Int.tmod t512 40) t513 t517 t518 true) else (if t513 > t514 then (if t514 ≥ 0 then (laws_FnGates.j0 k (Int.tmod t512 40) t513 t517 t518 true) else (if ((decide (t513 < 0)) != (decide (t515 < 0))) = true then (laws_FnGates.j0 k (Int.tmod t512 40) t513 t517 t518 true) else (if t513 ≥ 0 then (if t515 = (wrap64 (t513 + t505)) then (if bt519.2.2.2 = true then (laws_FnGates.j0 k (Int.tmod t512 40) t513 t517 t518 ((Go.bits .andNot .i64 bt519.2.2.1 t504) != 0)) else (laws_FnGates.j0 k (Int.tmod t512 40) t513 t517 t518 true)) else (laws_FnGates.j0 k (Int.tmod t512 40) t513 t517 t518 true)) else (if bt519.2.2.2 = true then (laws_FnGates.j0 k (Int.tmod t512 40) t513 t517 t518 ((Go.bits .andNot .i64 bt519.2.2.1 t504) != 0)) else (laws_FnGates.j0 k (Int.tmod t512 40) t513 t517 t518 true))))) else (if ((decide (t513 < 0)) != (decide (t515 < 0))) = true then (laws_FnGates.j0 k (Int.tmod t512 40) t513 t517 t518 true) else (if t513 ≥ 0 then (if t515 = (wrap64 (t513 + t505)) then (if bt519.2.2.2 = true then (laws_FnGates.j0 k (Int.tmod t512 40) t513 t517 t518 ((Go.bits .andNot .i64 bt519.2.2.1 t504) != 0)) else (laws_FnGates.j0 k (Int.tmod t512 40) t513 t517 t518 true)) else (laws_FnGates.j0 k (Int.tmod t512 40) t513 t517 t518 true)) else (if bt519.2.2.2 = true then (laws_FnGates.j0 k (Int.tmod t512 40) t513 t517 t518 ((Go.bits .andNot .i64 bt519.2.2.1 t504) != 0)) else (laws_FnGates.j0 k (Int.tmod t512 40) t513 t517 t518 true))))))) = some r := H
  have A10 := Aside0.mk A100
  clear A100
  replace H := Option.bind_eq_some_iff.mp H
  obtain ⟨⟨t519, t520, t521, t522⟩, A110, H⟩ := H
  replace H : (if ((decide (t513 < 0)) != (decide (t514 < 0))) = true then (laws_FnGates.j0 k (Int.tmod t512 40) t513 t517 t518 true) else (if t513 > t514 then (if t514 ≥ 0 then (laws_FnGates.j0 k (Int.tmod t512 40) t513 t517 t518 true) else (if ((decide (t513 < 0)) != (decide (t515 < 0))) = true then (laws_FnGates.j0 k (Int.tmod t512 40) t513 t517 t518 true) else (if t513 ≥ 0 then (if t515 = (wrap64 (t513 + t505)) then (if t522 = true then (laws_FnGates.j0 k (Int.tmod t512 40) t513 t517 t518 ((Go.bits .andNot .i64 t521 t504) != 0)) else (laws_FnGates.j0 k (Int.tmod t512 40) t513 t517 t518 true)) else (laws_FnGates.j0 k (Int.tmod t512 40) t513 t517 t518 true)) else (if t522 = true then (laws_FnGates.j0 k (Int.tmod t512 40) t513 t517 t518 ((Go.bits .andNot .i64 t521 t504) != 0)) else (laws_FnGates.j0 k (Int.tmod t512 40) t513 t517 t518 true))))) else (if ((decide (t513 < 0)) != (decide (t515 < 0))) = true then (laws_FnGates.j0 k (Int.tmod t512 40) t513 t517 t518 true) else (if t513 ≥ 0 then (if t515 = (wrap64 (t513 + t505)) then (if t522 = true then (laws_FnGates.j0 k (Int.tmod t512 40) t513 t517 t518 ((Go.bits .andNot .i64 t521 t504) != 0)) else (laws_FnGates.j0 k (Int.tmod t512 40) t513 t517 t518 true)) else (laws_FnGates.j0 k (Int.tmod t512 40) t513 t517 t518 true)) else (if t522 = true then (laws_FnGates.j0 k (Int.tmod t512 40) t513 t517 t518 ((Go.bits .andNot .i64 t521 t504) != 0)) else (laws_FnGates.j0 k (Int.tmod t512 40) t513 t517 t518 true)))))) = some r := H
  have A11 := Aside0.mk A110
  clear A110
  have HC12 := Aside0.mk H
  clear H
  go_enter Try.func6, Try.ntmps6
  go_upto_region 12 with ((with_reducible refine gw_ ?_); first | (refine gl_ 16 Try.func21 #[.slice A0 l0.length c0] ?_; (with_reducible refine (laws_big.calls _ _ l0 false _ ?side1 ?side2 A2.out).mono ?_); (case side1 => exact kc_ HR0.out); (case side2 => exact HC0.out); rintro e w' ⟨rfl, ⟨nd, rfl⟩⟩; refine ⟨_, rfl, ?_⟩) | (refine gl_ 19 Try.func22 #[.slice A0 l0.length c0] ?_; (with_reducible refine (spec_DrawTimed.calls k _ _ l0 t502 t503 t504 t505 t506 t509 t510 _ ?side1 ?side2 A4.out).mono ?_); (case side1 => exact kc_ HR0.out); (case side2 => exact HC0.out); rintro e w13 ⟨v507, rfl, ho0, hb⟩; refine ⟨_, rfl, ?_⟩; have HO508 := Aside0.mk (Kd.R_lower ho0 (below_size (hb0_ HB.out))); replace HB := HB.s0 hb; (try clear hb); (try clear ho0)) | (refine box_ (N := 3) (cs := #[.int .i64 0, .int .i64 0, .int .i64 0, .int .i64 0, .slice none 0 0]) (t := 36) ?_; intro gb511 hg w14 hbox hb; replace HO508 := HO508.kb hb; have BK511 := Aside0.mk (hbox); have GW511 := HB.g0 hg; have GE511 := HB.g0 hg; replace HB := HB.s0 hb; clear hb hbox hg; obtain ⟨hcz15_0, hcz15_1, hcz15_2, hcz15_3, hcz15_4⟩ := cz5_ BK511.out; obtain ⟨hfz15_0, hfz15_1, hfz15_2, hfz15_3, hfz15_4⟩ := fz5_ BK511.out; obtain ⟨Ao16, co16, eo16⟩ := Kd.R_slice HO508.out; subst eo16) | (refine gl_ 24 Try.func23 #[.slice A0 l0.length c0, .int .i64 0] ?_; (with_reducible refine (laws_at.calls _ _ l0 0 t512 _ ?side1 ?side2 A5.out).mono ?_); (case side1 => exact Kd.C_below HR0.out (hb1_ HB.out GE511.out)); (case side2 => exact HC0.out); rintro e w' ⟨rfl, ⟨nd, rfl⟩⟩; refine ⟨_, rfl, ?_⟩) | (refine gl_ 30 Try.func11 #[.agg #[.int .i64 t502, .int .i64 t503, .int .i64 t504, .int .i64 t505, .slice Ao16 t506.length co16], .int .i64 t509, .int .i64 (Int.tmod t512 40), .int .i64 t510] ?_; (with_reducible refine (impl_EarliestAt.calls k t502 t503 t504 t505 _ _ t506 t509 (Int.tmod t512 40) t510 t513 _ ?side1 ?side2 A6.out).mono ?_); (case side1 => refine (Kd.R_reads' (e := 56) (base := w.heap.size) (ok := fun k_ => True) (n := t506.length) (c := co16) ?_).2.2; exact (rq5_ HO508.out BK511.out)); (case side2 => exact (Kd.R_reads' HO508.out).2.1); rintro e w17 ⟨rfl, hb⟩; refine ⟨_, rfl, ?_⟩; replace HO508 := Aside0.mk (Kd.R_below (rq5_ HO508.out BK511.out) hb); replace BK511 := Aside0.mk (blk_below (bq5_ BK511.out) hb); replace HB := HB.s1 GE511 hb; (try clear hb); obtain ⟨hcz18_0, hcz18_1, hcz18_2, hcz18_3, hcz18_4⟩ := cz5_ BK511.out; obtain ⟨hfz18_0, hfz18_1, hfz18_2, hfz18_3, hfz18_4⟩ := fz5_ BK511.out) | (refine gl_ 36 Try.func11 #[.agg #[.int .i64 t502, .int .i64 t503, .int .i64 t504, .int .i64 t505, .slice Ao16 t506.length co16], .int .i64 t509, .int .i64 (wrap64 ((Int.tmod t512 40) + 1)), .int .i64 t510] ?_; (with_reducible refine (impl_EarliestAt.calls k t502 t503 t504 t505 _ _ t506 t509 (wrap64 ((Int.tmod t512 40) + 1)) t510 t514 _ ?side1 ?side2 A7.out).mono ?_); (case side1 => repeat (first | exact (Kd.R_reads' HO508.out).2.2 | (with_reducible refine Kd.C_alloc ?_ _) | (with_reducible refine Kd.C_drewN ?_ _) | (with_reducible refine Kd.C_drew ?_))); (case side2 => exact (Kd.R_reads' HO508.out).2.1); rintro e w19 ⟨rfl, hb⟩; refine ⟨_, rfl, ?_⟩; replace HO508 := HO508.kb hb; replace BK511 := BK511.bb hb; replace HB := HB.s1 GE511 hb; (try clear hb); obtain ⟨hcz20_0, hcz20_1, hcz20_2, hcz20_3, hcz20_4⟩ := cz5_ BK511.out; obtain ⟨hfz20_0, hfz20_1, hfz20_2, hfz20_3, hfz20_4⟩ := fz5_ BK511.out) | (refine gl_ 44 Try.func11 #[.agg #[.int .i64 t502, .int .i64 t503, .int .i64 t504, .int .i64 t505, .slice Ao16 t506.length co16], .int .i64 t509, .int .i64 (wrap64 ((Int.tmod t512 40) + t505)), .int .i64 t510] ?_; (with_reducible refine (impl_EarliestAt.calls k t502 t503 t504 t505 _ _ t506 t509 (wrap64 ((Int.tmod t512 40) + t505)) t510 t515 _ ?side1 ?side2 A8.out).mono ?_); (case side1 => repeat (first | exact (Kd.R_reads' HO508.out).2.2 | (with_reducible refine Kd.C_alloc ?_ _) | (with_reducible refine Kd.C_drewN ?_ _) | (with_reducible refine Kd.C_drew ?_))); (case side2 => exact (Kd.R_reads' HO508.out).2.1); rintro e w21 ⟨rfl, hb⟩; refine ⟨_, rfl, ?_⟩; replace HO508 := HO508.kb hb; replace BK511 := BK511.bb hb; replace HB := HB.s1 GE511 hb; (try clear hb); obtain ⟨hcz22_0, hcz22_1, hcz22_2, hcz22_3, hcz22_4⟩ := cz5_ BK511.out; obtain ⟨hfz22_0, hfz22_1, hfz22_2, hfz22_3, hfz22_4⟩ := fz5_ BK511.out) | (refine box_ (N := 10) (cs := #[.int .i64 0, .int .i64 0, .int .i64 0, .int .i64 0, .slice none 0 0]) (t := 36) ?_; intro gb516 hg w23 hbox hb; replace HO508 := HO508.kb hb; have BK516 := Aside0.mk (hbox); have GW516 := HB.g1 GE511 hg; have GE516 := HB.g1 GE511 hg; replace HB := HB.s1 GE511 hb; have NB511_516 := BK511.nl hg; have NB516_511 := BK511.nr hg; replace BK511 := BK511.bb hb; clear hb hbox hg; have hnb24 := NB516_511.out; have hnc24 := NB511_516.out; obtain ⟨hcz25_0, hcz25_1, hcz25_2, hcz25_3, hcz25_4⟩ := cz5_ BK516.out; obtain ⟨hfz25_0, hfz25_1, hfz25_2, hfz25_3, hfz25_4⟩ := fz5_ BK516.out; obtain ⟨hcz26_0, hcz26_1, hcz26_2, hcz26_3, hcz26_4⟩ := cz5_ BK511.out; obtain ⟨hfz26_0, hfz26_1, hfz26_2, hfz26_3, hfz26_4⟩ := fz5_ BK511.out) | (refine gl_ 52 Try.func24 #[.agg #[.int .i64 t502, .int .i64 t503, .int .i64 t504], .int .i64 t509, .int .i64 t510] ?_; (with_reducible refine (impl_DistanceOf.calls k t502 t503 t504 t509 t510 t517 _ A9.out).mono ?_); rintro e w27 ⟨rfl, hb⟩; refine ⟨_, rfl, ?_⟩; replace HO508 := Aside0.mk (Kd.R_below (rq5_ HO508.out BK516.out) hb); replace BK511 := Aside0.mk (blk_below (g := gb511) (o := .cells #[.int .i64 t502, .int .i64 t503, .int .i64 t504, .int .i64 t505, .slice Ao16 t506.length co16] 36 (0, 0)) (by (with_reducible repeat (first | refine blk_drewN ?_ _ | refine blk_drew ?_ | refine blk_alloc ?_ _)); refine blk_far ?_ NB511_516.out _; (with_reducible repeat (first | refine blk_drewN ?_ _ | refine blk_drew ?_ | refine blk_alloc ?_ _)); refine blk_far ?_ NB511_516.out _; (with_reducible repeat (first | refine blk_drewN ?_ _ | refine blk_drew ?_ | refine blk_alloc ?_ _)); refine blk_far ?_ NB511_516.out _; (with_reducible repeat (first | refine blk_drewN ?_ _ | refine blk_drew ?_ | refine blk_alloc ?_ _)); refine blk_far ?_ NB511_516.out _; (with_reducible repeat (first | refine blk_drewN ?_ _ | refine blk_drew ?_ | refine blk_alloc ?_ _)); refine blk_far ?_ NB511_516.out _; (with_reducible repeat (first | refine blk_drewN ?_ _ | refine blk_drew ?_ | refine blk_alloc ?_ _)); exact BK511.out) hb); replace BK516 := Aside0.mk (blk_below (bq5_ BK516.out) hb); replace HB := HB.s2 GE511 GE516 hb; (try clear hb); obtain ⟨hcz28_0, hcz28_1, hcz28_2, hcz28_3, hcz28_4⟩ := cz5_ BK516.out; obtain ⟨hfz28_0, hfz28_1, hfz28_2, hfz28_3, hfz28_4⟩ := fz5_ BK516.out) | (refine gl_ 57 Try.func11 #[.agg #[.int .i64 t502, .int .i64 t503, .int .i64 t504, .int .i64 1, .slice none 0 0], .int .i64 t509, .int .i64 (Int.tmod t512 40), .int .i64 t510] ?_; (refine (impl_EarliestAt.calls k t502 t503 t504 1 _ _ ([] : List (S56)) t509 (Int.tmod t512 40) t510 t518 _ ?side1 ?side2 A10.out).mono ?_); (case side1 => exact Kd.C_nil _ _); (case side2 => exact Nat.le_refl _); rintro e w29 ⟨rfl, hb⟩; refine ⟨_, rfl, ?_⟩; replace HO508 := HO508.kb hb; replace BK511 := BK511.bb hb; replace BK516 := BK516.bb hb; replace HB := HB.s2 GE511 GE516 hb; (try clear hb); obtain ⟨hcz30_0, hcz30_1, hcz30_2, hcz30_3, hcz30_4⟩ := cz5_ BK511.out; obtain ⟨hfz30_0, hfz30_1, hfz30_2, hfz30_3, hfz30_4⟩ := fz5_ BK511.out) | (refine gl_ 61 Try.func25 #[.agg #[.int .i64 t502, .int .i64 t503, .int .i64 t504, .int .i64 t505, .slice Ao16 t506.length co16], .int .i64 (Int.tmod t512 40)] ?_; (with_reducible refine (impl_MazeAtTime.calls k t502 t503 t504 t505 _ _ t506 (Int.tmod t512 40) t519 t520 t521 t522 _ ?side1 ?side2 A11.out).mono ?_); (case side1 => repeat (first | exact (Kd.R_reads' HO508.out).2.2 | (with_reducible refine Kd.C_alloc ?_ _) | (with_reducible refine Kd.C_drewN ?_ _) | (with_reducible refine Kd.C_drew ?_))); (case side2 => exact (Kd.R_reads' HO508.out).2.1); rintro e w31 ⟨rfl, hb⟩; refine ⟨_, rfl, ?_⟩; replace HO508 := HO508.kb hb; replace BK511 := BK511.bb hb; replace BK516 := BK516.bb hb; replace HB := HB.s2 GE511 GE516 hb; (try clear hb)) | (refine box_ (N := 13) (cs := #[.int .i64 0, .int .i64 0, .int .i64 0]) (t := 33) ?_; intro gb523 hg w32 hbox hb; replace HO508 := HO508.kb hb; have BK523 := Aside0.mk (hbox); have GW523 := HB.g2 GE511 GE516 hg; have GE523 := HB.g2 GE511 GE516 hg; replace HB := HB.s2 GE511 GE516 hb; have NB511_523 := BK511.nl hg; have NB523_511 := BK511.nr hg; replace BK511 := BK511.bb hb; have NB516_523 := BK516.nl hg; have NB523_516 := BK516.nr hg; replace BK516 := BK516.bb hb; clear hb hbox hg; have hnb33 := NB523_511.out; have hnc33 := NB511_523.out; have hnb34 := NB523_516.out; have hnc34 := NB516_523.out; obtain ⟨hcz35_0, hcz35_1, hcz35_2⟩ := cz3_ BK523.out; obtain ⟨hfz35_0, hfz35_1, hfz35_2⟩ := fz3_ BK523.out))
  (try simp only [Act.put, List.setIfInBounds_toArray, List.set_cons_zero, List.set_cons_succ])
  go_cut [109] (fun v109 wc => ∃ (kq : Nat) (x109_11 : Bool), v109 = .bool x109_11 ∧ Aside0 (laws_FnGates.j0 kq (Int.tmod t512 40) t513 t517 t518 x109_11 = some r) ∧ Aside0 (kq ≤ k) ∧ Aside0 (Kd.R k56 56 wc w.heap.size (fun _ => True) (.slice Ao16 t506.length co16) t506) ∧ Aside0 (wc.heap[gb511]? = some (.cells #[.int .i64 t502, .int .i64 t503, .int .i64 t504, .int .i64 t505, (.slice Ao16 t506.length co16)] 36 (0, 0))) ∧ Aside0 (wc.heap[gb516]? = some (.cells #[.int .i64 t502, .int .i64 t503, .int .i64 t504, .int .i64 1, (.slice none 0 0)] 36 (0, 0))) ∧ Aside0 (wc.heap[gb523]? = some (.cells #[.int .i64 t519, .int .i64 t520, .int .i64 t521] 33 (0, 0))) ∧ Aside0 (Below w.heap.size w wc))
  case first =>
   have H := HC12.out
   clear HC12
   by_cases c36 : ((decide (t513 < 0)) != (decide (t514 < 0))) = true
   ·rw [if_pos c36] at H
    have c36b0 : ((decide (t513 < 0)) != (decide (t514 < 0))) = true := c36
    (try (have c36b1 : decide ((decide (t513 < 0)) = (decide (t514 < 0))) = false := by simpa using c36))
    (try (have c36b2 : ((decide (t513 < 0)) == (decide (t514 < 0))) = false := by simpa using c36))
    (try (have c36b3 : ¬ ((decide (t513 < 0)) = (decide (t514 < 0))) := by simpa using c36))
    clear c36
    (first | rw [c36b0] | (simp only [i64_w, i32_w]; rw [c36b0]) | skip)
    have H' := Aside0.mk H
    clear H
    go_wp2
    go_meet
    case rel => exact ⟨_, (true), (by first | rfl | (simp; done) | (simp [*]; done)), H', ⟨by first | omega | exact Nat.le_refl _⟩, ⟨by (with_reducible repeat (first | apply Kd.R_alloc | apply Kd.R_drewN | apply Kd.R_drew)); exact Kd.R_mono (Kd.R_far (p := ⟨gb523, 2, none⟩) (Kd.R_far (p := ⟨gb523, 1, none⟩) (Kd.R_far (p := ⟨gb523, 0, none⟩) (Kd.R_types HO508.out BK523.out (by decide)) (fun _ hk => hk.2) (.int .i64 t519)) (fun _ hk => hk.2) (.int .i64 t520)) (fun _ hk => hk.2) (.int .i64 t521)) (fun _ hk => trivial)⟩, ⟨by (with_reducible repeat (first | refine blk_drewN ?_ _ | refine blk_drew ?_ | refine blk_alloc ?_ _)); refine blk_far ?_ NB511_523.out _; (with_reducible repeat (first | refine blk_drewN ?_ _ | refine blk_drew ?_ | refine blk_alloc ?_ _)); refine blk_far ?_ NB511_523.out _; (with_reducible repeat (first | refine blk_drewN ?_ _ | refine blk_drew ?_ | refine blk_alloc ?_ _)); refine blk_far ?_ NB511_523.out _; (with_reducible repeat (first | refine blk_drewN ?_ _ | refine blk_drew ?_ | refine blk_alloc ?_ _)); exact BK511.out⟩, ⟨by (with_reducible repeat (first | refine blk_drewN ?_ _ | refine blk_drew ?_ | refine blk_alloc ?_ _)); refine blk_far ?_ NB516_523.out _; (with_reducible repeat (first | refine blk_drewN ?_ _ | refine blk_drew ?_ | refine blk_alloc ?_ _)); refine blk_far ?_ NB516_523.out _; (with_reducible repeat (first | refine blk_drewN ?_ _ | refine blk_drew ?_ | refine blk_alloc ?_ _)); refine blk_far ?_ NB516_523.out _; (with_reducible repeat (first | refine blk_drewN ?_ _ | refine blk_drew ?_ | refine blk_alloc ?_ _)); exact BK516.out⟩, ⟨bq3_ BK523.out⟩, ⟨hb3_ HB.out GE511.out GE516.out GE523.out⟩⟩
   ·rw [if_neg c36] at H
    have c36b0 : ((decide (t513 < 0)) != (decide (t514 < 0))) = false := by simpa using c36
    (try (have c36b1 : decide ((decide (t513 < 0)) = (decide (t514 < 0))) = true := by simpa using c36))
    (try (have c36b2 : ((decide (t513 < 0)) == (decide (t514 < 0))) = true := by simpa using c36))
    clear c36
    (first | rw [c36b0] | (simp only [i64_w, i32_w]; rw [c36b0]) | skip)
    by_cases c37 : t513 > t514
    ·rw [if_pos c37] at H
     have c37b0 : decide (t514 < t513) = true := decide_eq_true c37
     clear c37
     by_cases c38 : t514 ≥ 0
     ·rw [if_pos c38] at H
      have c38b0 : decide (0 ≤ t514) = true := decide_eq_true c38
      clear c38
      have H' := Aside0.mk H
      clear H
      go_wp2
      go_meet
      case rel => exact ⟨_, (true), (by first | rfl | (simp; done) | (simp [*]; done)), H', ⟨by first | omega | exact Nat.le_refl _⟩, ⟨by (with_reducible repeat (first | apply Kd.R_alloc | apply Kd.R_drewN | apply Kd.R_drew)); exact Kd.R_mono (Kd.R_far (p := ⟨gb523, 2, none⟩) (Kd.R_far (p := ⟨gb523, 1, none⟩) (Kd.R_far (p := ⟨gb523, 0, none⟩) (Kd.R_types HO508.out BK523.out (by decide)) (fun _ hk => hk.2) (.int .i64 t519)) (fun _ hk => hk.2) (.int .i64 t520)) (fun _ hk => hk.2) (.int .i64 t521)) (fun _ hk => trivial)⟩, ⟨by (with_reducible repeat (first | refine blk_drewN ?_ _ | refine blk_drew ?_ | refine blk_alloc ?_ _)); refine blk_far ?_ NB511_523.out _; (with_reducible repeat (first | refine blk_drewN ?_ _ | refine blk_drew ?_ | refine blk_alloc ?_ _)); refine blk_far ?_ NB511_523.out _; (with_reducible repeat (first | refine blk_drewN ?_ _ | refine blk_drew ?_ | refine blk_alloc ?_ _)); refine blk_far ?_ NB511_523.out _; (with_reducible repeat (first | refine blk_drewN ?_ _ | refine blk_drew ?_ | refine blk_alloc ?_ _)); exact BK511.out⟩, ⟨by (with_reducible repeat (first | refine blk_drewN ?_ _ | refine blk_drew ?_ | refine blk_alloc ?_ _)); refine blk_far ?_ NB516_523.out _; (with_reducible repeat (first | refine blk_drewN ?_ _ | refine blk_drew ?_ | refine blk_alloc ?_ _)); refine blk_far ?_ NB516_523.out _; (with_reducible repeat (first | refine blk_drewN ?_ _ | refine blk_drew ?_ | refine blk_alloc ?_ _)); refine blk_far ?_ NB516_523.out _; (with_reducible repeat (first | refine blk_drewN ?_ _ | refine blk_drew ?_ | refine blk_alloc ?_ _)); exact BK516.out⟩, ⟨bq3_ BK523.out⟩, ⟨hb3_ HB.out GE511.out GE516.out GE523.out⟩⟩
     ·rw [if_neg c38] at H
      have c38b0 : decide (0 ≤ t514) = false := decide_eq_false c38
      clear c38
      by_cases c39 : ((decide (t513 < 0)) != (decide (t515 < 0))) = true
      ·rw [if_pos c39] at H
       have c39b0 : ((decide (t513 < 0)) != (decide (t515 < 0))) = true := c39
       (try (have c39b1 : decide ((decide (t513 < 0)) = (decide (t515 < 0))) = false := by simpa using c39))
       (try (have c39b2 : ((decide (t513 < 0)) == (decide (t515 < 0))) = false := by simpa using c39))
       (try (have c39b3 : ¬ ((decide (t513 < 0)) = (decide (t515 < 0))) := by simpa using c39))
       clear c39
       have H' := Aside0.mk H
       clear H
       go_wp2
       go_meet
       case rel => exact ⟨_, (true), (by first | rfl | (simp; done) | (simp [*]; done)), H', ⟨by first | omega | exact Nat.le_refl _⟩, ⟨by (with_reducible repeat (first | apply Kd.R_alloc | apply Kd.R_drewN | apply Kd.R_drew)); exact Kd.R_mono (Kd.R_far (p := ⟨gb523, 2, none⟩) (Kd.R_far (p := ⟨gb523, 1, none⟩) (Kd.R_far (p := ⟨gb523, 0, none⟩) (Kd.R_types HO508.out BK523.out (by decide)) (fun _ hk => hk.2) (.int .i64 t519)) (fun _ hk => hk.2) (.int .i64 t520)) (fun _ hk => hk.2) (.int .i64 t521)) (fun _ hk => trivial)⟩, ⟨by (with_reducible repeat (first | refine blk_drewN ?_ _ | refine blk_drew ?_ | refine blk_alloc ?_ _)); refine blk_far ?_ NB511_523.out _; (with_reducible repeat (first | refine blk_drewN ?_ _ | refine blk_drew ?_ | refine blk_alloc ?_ _)); refine blk_far ?_ NB511_523.out _; (with_reducible repeat (first | refine blk_drewN ?_ _ | refine blk_drew ?_ | refine blk_alloc ?_ _)); refine blk_far ?_ NB511_523.out _; (with_reducible repeat (first | refine blk_drewN ?_ _ | refine blk_drew ?_ | refine blk_alloc ?_ _)); exact BK511.out⟩, ⟨by (with_reducible repeat (first | refine blk_drewN ?_ _ | refine blk_drew ?_ | refine blk_alloc ?_ _)); refine blk_far ?_ NB516_523.out _; (with_reducible repeat (first | refine blk_drewN ?_ _ | refine blk_drew ?_ | refine blk_alloc ?_ _)); refine blk_far ?_ NB516_523.out _; (with_reducible repeat (first | refine blk_drewN ?_ _ | refine blk_drew ?_ | refine blk_alloc ?_ _)); refine blk_far ?_ NB516_523.out _; (with_reducible repeat (first | refine blk_drewN ?_ _ | refine blk_drew ?_ | refine blk_alloc ?_ _)); exact BK516.out⟩, ⟨bq3_ BK523.out⟩, ⟨hb3_ HB.out GE511.out GE516.out GE523.out⟩⟩
      ·rw [if_neg c39] at H
       have c39b0 : ((decide (t513 < 0)) != (decide (t515 < 0))) = false := by simpa using c39
       (try (have c39b1 : decide ((decide (t513 < 0)) = (decide (t515 < 0))) = true := by simpa using c39))
       (try (have c39b2 : ((decide (t513 < 0)) == (decide (t515 < 0))) = true := by simpa using c39))
       clear c39
       by_cases c40 : t513 ≥ 0
       ·rw [if_pos c40] at H
        have c40b0 : decide (0 ≤ t513) = true := decide_eq_true c40
        clear c40
        by_cases c41 : t515 = (wrap64 (t513 + t505))
        ·rw [if_pos c41] at H
         have c41b0 : (t515 == (wrap64 (t513 + t505))) = true := beq_iff_eq.mpr c41
         have c41b1 : (t515 != (wrap64 (t513 + t505))) = false := bne_eq_false_iff_eq.mpr c41
         clear c41
         by_cases c42 : t522 = true
         ·subst c42
          have H1 : (laws_FnGates.j0 k (Int.tmod t512 40) t513 t517 t518 ((Go.bits .andNot .i64 t521 t504) != 0)) = some r := by rw [if_pos rfl] at H; exact H
          clear H
          have H := H1
          clear H1
          have H' := Aside0.mk H
          clear H
          have hnb43 := NB511_516.out
          have hnc43 := NB516_511.out
          have hnb44 := NB511_523.out
          have hnc44 := NB523_511.out
          obtain ⟨hcz45_0, hcz45_1, hcz45_2, hcz45_3, hcz45_4⟩ := cz5_ BK511.out
          obtain ⟨hfz45_0, hfz45_1, hfz45_2, hfz45_3, hfz45_4⟩ := fz5_ BK511.out
          have hnb46 := NB523_516.out
          have hnc46 := NB516_523.out
          obtain ⟨hcz47_0, hcz47_1, hcz47_2⟩ := cz3_ BK523.out
          obtain ⟨hfz47_0, hfz47_1, hfz47_2⟩ := fz3_ BK523.out
          go_wp2
          go_meet
          case rel => exact ⟨_, (((Go.bits .andNot .i64 t521 t504) != 0)), (by first | rfl | (simp; done) | (simp [*]; done)), H', ⟨by first | omega | exact Nat.le_refl _⟩, ⟨by (with_reducible repeat (first | apply Kd.R_alloc | apply Kd.R_drewN | apply Kd.R_drew)); exact Kd.R_mono (Kd.R_far (p := ⟨gb523, 2, none⟩) (Kd.R_far (p := ⟨gb523, 1, none⟩) (Kd.R_far (p := ⟨gb523, 0, none⟩) (Kd.R_types HO508.out BK523.out (by decide)) (fun _ hk => hk.2) (.int .i64 t519)) (fun _ hk => hk.2) (.int .i64 t520)) (fun _ hk => hk.2) (.int .i64 t521)) (fun _ hk => trivial)⟩, ⟨by (with_reducible repeat (first | refine blk_drewN ?_ _ | refine blk_drew ?_ | refine blk_alloc ?_ _)); refine blk_far ?_ NB511_523.out _; (with_reducible repeat (first | refine blk_drewN ?_ _ | refine blk_drew ?_ | refine blk_alloc ?_ _)); refine blk_far ?_ NB511_523.out _; (with_reducible repeat (first | refine blk_drewN ?_ _ | refine blk_drew ?_ | refine blk_alloc ?_ _)); refine blk_far ?_ NB511_523.out _; (with_reducible repeat (first | refine blk_drewN ?_ _ | refine blk_drew ?_ | refine blk_alloc ?_ _)); exact BK511.out⟩, ⟨by (with_reducible repeat (first | refine blk_drewN ?_ _ | refine blk_drew ?_ | refine blk_alloc ?_ _)); refine blk_far ?_ NB516_523.out _; (with_reducible repeat (first | refine blk_drewN ?_ _ | refine blk_drew ?_ | refine blk_alloc ?_ _)); refine blk_far ?_ NB516_523.out _; (with_reducible repeat (first | refine blk_drewN ?_ _ | refine blk_drew ?_ | refine blk_alloc ?_ _)); refine blk_far ?_ NB516_523.out _; (with_reducible repeat (first | refine blk_drewN ?_ _ | refine blk_drew ?_ | refine blk_alloc ?_ _)); exact BK516.out⟩, ⟨bq3_ BK523.out⟩, ⟨hb3_ HB.out GE511.out GE516.out GE523.out⟩⟩
         ·replace c42 := Bool.eq_false_iff.mpr c42
          subst c42
          have H1 : (laws_FnGates.j0 k (Int.tmod t512 40) t513 t517 t518 true) = some r := by rw [if_neg (show ¬ (false = true) by decide)] at H; exact H
          clear H
          have H := H1
          clear H1
          have H' := Aside0.mk H
          clear H
          have hnb48 := NB511_516.out
          have hnc48 := NB516_511.out
          have hnb49 := NB511_523.out
          have hnc49 := NB523_511.out
          obtain ⟨hcz50_0, hcz50_1, hcz50_2, hcz50_3, hcz50_4⟩ := cz5_ BK511.out
          obtain ⟨hfz50_0, hfz50_1, hfz50_2, hfz50_3, hfz50_4⟩ := fz5_ BK511.out
          go_wp2
          go_meet
          case rel => exact ⟨_, (true), (by first | rfl | (simp; done) | (simp [*]; done)), H', ⟨by first | omega | exact Nat.le_refl _⟩, ⟨by (with_reducible repeat (first | apply Kd.R_alloc | apply Kd.R_drewN | apply Kd.R_drew)); exact Kd.R_mono (Kd.R_far (p := ⟨gb523, 2, none⟩) (Kd.R_far (p := ⟨gb523, 1, none⟩) (Kd.R_far (p := ⟨gb523, 0, none⟩) (Kd.R_types HO508.out BK523.out (by decide)) (fun _ hk => hk.2) (.int .i64 t519)) (fun _ hk => hk.2) (.int .i64 t520)) (fun _ hk => hk.2) (.int .i64 t521)) (fun _ hk => trivial)⟩, ⟨by (with_reducible repeat (first | refine blk_drewN ?_ _ | refine blk_drew ?_ | refine blk_alloc ?_ _)); refine blk_far ?_ NB511_523.out _; (with_reducible repeat (first | refine blk_drewN ?_ _ | refine blk_drew ?_ | refine blk_alloc ?_ _)); refine blk_far ?_ NB511_523.out _; (with_reducible repeat (first | refine blk_drewN ?_ _ | refine blk_drew ?_ | refine blk_alloc ?_ _)); refine blk_far ?_ NB511_523.out _; (with_reducible repeat (first | refine blk_drewN ?_ _ | refine blk_drew ?_ | refine blk_alloc ?_ _)); exact BK511.out⟩, ⟨by (with_reducible repeat (first | refine blk_drewN ?_ _ | refine blk_drew ?_ | refine blk_alloc ?_ _)); refine blk_far ?_ NB516_523.out _; (with_reducible repeat (first | refine blk_drewN ?_ _ | refine blk_drew ?_ | refine blk_alloc ?_ _)); refine blk_far ?_ NB516_523.out _; (with_reducible repeat (first | refine blk_drewN ?_ _ | refine blk_drew ?_ | refine blk_alloc ?_ _)); refine blk_far ?_ NB516_523.out _; (with_reducible repeat (first | refine blk_drewN ?_ _ | refine blk_drew ?_ | refine blk_alloc ?_ _)); exact BK516.out⟩, ⟨bq3_ BK523.out⟩, ⟨hb3_ HB.out GE511.out GE516.out GE523.out⟩⟩
        ·rw [if_neg c41] at H
         have c41b0 : (t515 == (wrap64 (t513 + t505))) = false := beq_eq_false_iff_ne.mpr c41
         have c41b1 : (t515 != (wrap64 (t513 + t505))) = true := bne_iff_ne.mpr c41
         have H' := Aside0.mk H
         clear H
         have hnb51 := NB511_516.out
         have hnc51 := NB516_511.out
         have hnb52 := NB511_523.out
         have hnc52 := NB523_511.out
         obtain ⟨hcz53_0, hcz53_1, hcz53_2, hcz53_3, hcz53_4⟩ := cz5_ BK511.out
         obtain ⟨hfz53_0, hfz53_1, hfz53_2, hfz53_3, hfz53_4⟩ := fz5_ BK511.out
         go_wp2
         go_meet
         case rel => exact ⟨_, (true), (by first | rfl | (simp; done) | (simp [*]; done)), H', ⟨by first | omega | exact Nat.le_refl _⟩, ⟨by (with_reducible repeat (first | apply Kd.R_alloc | apply Kd.R_drewN | apply Kd.R_drew)); exact Kd.R_mono (Kd.R_far (p := ⟨gb523, 2, none⟩) (Kd.R_far (p := ⟨gb523, 1, none⟩) (Kd.R_far (p := ⟨gb523, 0, none⟩) (Kd.R_types HO508.out BK523.out (by decide)) (fun _ hk => hk.2) (.int .i64 t519)) (fun _ hk => hk.2) (.int .i64 t520)) (fun _ hk => hk.2) (.int .i64 t521)) (fun _ hk => trivial)⟩, ⟨by (with_reducible repeat (first | refine blk_drewN ?_ _ | refine blk_drew ?_ | refine blk_alloc ?_ _)); refine blk_far ?_ NB511_523.out _; (with_reducible repeat (first | refine blk_drewN ?_ _ | refine blk_drew ?_ | refine blk_alloc ?_ _)); refine blk_far ?_ NB511_523.out _; (with_reducible repeat (first | refine blk_drewN ?_ _ | refine blk_drew ?_ | refine blk_alloc ?_ _)); refine blk_far ?_ NB511_523.out _; (with_reducible repeat (first | refine blk_drewN ?_ _ | refine blk_drew ?_ | refine blk_alloc ?_ _)); exact BK511.out⟩, ⟨by (with_reducible repeat (first | refine blk_drewN ?_ _ | refine blk_drew ?_ | refine blk_alloc ?_ _)); refine blk_far ?_ NB516_523.out _; (with_reducible repeat (first | refine blk_drewN ?_ _ | refine blk_drew ?_ | refine blk_alloc ?_ _)); refine blk_far ?_ NB516_523.out _; (with_reducible repeat (first | refine blk_drewN ?_ _ | refine blk_drew ?_ | refine blk_alloc ?_ _)); refine blk_far ?_ NB516_523.out _; (with_reducible repeat (first | refine blk_drewN ?_ _ | refine blk_drew ?_ | refine blk_alloc ?_ _)); exact BK516.out⟩, ⟨bq3_ BK523.out⟩, ⟨hb3_ HB.out GE511.out GE516.out GE523.out⟩⟩
       ·rw [if_neg c40] at H
        have c40b0 : decide (0 ≤ t513) = false := decide_eq_false c40
        clear c40
        by_cases c54 : t522 = true
        ·subst c54
         have H1 : (laws_FnGates.j0 k (Int.tmod t512 40) t513 t517 t518 ((Go.bits .andNot .i64 t521 t504) != 0)) = some r := by rw [if_pos rfl] at H; exact H
         clear H
         have H := H1
         clear H1
         have H' := Aside0.mk H
         clear H
         have hnb55 := NB523_511.out
         have hnc55 := NB511_523.out
         have hnb56 := NB523_516.out
         have hnc56 := NB516_523.out
         obtain ⟨hcz57_0, hcz57_1, hcz57_2⟩ := cz3_ BK523.out
         obtain ⟨hfz57_0, hfz57_1, hfz57_2⟩ := fz3_ BK523.out
         have hnb58 := NB511_516.out
         have hnc58 := NB516_511.out
         obtain ⟨hcz59_0, hcz59_1, hcz59_2, hcz59_3, hcz59_4⟩ := cz5_ BK511.out
         obtain ⟨hfz59_0, hfz59_1, hfz59_2, hfz59_3, hfz59_4⟩ := fz5_ BK511.out
         go_wp2
         go_meet
         case rel => exact ⟨_, (((Go.bits .andNot .i64 t521 t504) != 0)), (by first | rfl | (simp; done) | (simp [*]; done)), H', ⟨by first | omega | exact Nat.le_refl _⟩, ⟨by (with_reducible repeat (first | apply Kd.R_alloc | apply Kd.R_drewN | apply Kd.R_drew)); exact Kd.R_mono (Kd.R_far (p := ⟨gb523, 2, none⟩) (Kd.R_far (p := ⟨gb523, 1, none⟩) (Kd.R_far (p := ⟨gb523, 0, none⟩) (Kd.R_types HO508.out BK523.out (by decide)) (fun _ hk => hk.2) (.int .i64 t519)) (fun _ hk => hk.2) (.int .i64 t520)) (fun _ hk => hk.2) (.int .i64 t521)) (fun _ hk => trivial)⟩, ⟨by (with_reducible repeat (first | refine blk_drewN ?_ _ | refine blk_drew ?_ | refine blk_alloc ?_ _)); refine blk_far ?_ NB511_523.out _; (with_reducible repeat (first | refine blk_drewN ?_ _ | refine blk_drew ?_ | refine blk_alloc ?_ _)); refine blk_far ?_ NB511_523.out _; (with_reducible repeat (first | refine blk_drewN ?_ _ | refine blk_drew ?_ | refine blk_alloc ?_ _)); refine blk_far ?_ NB511_523.out _; (with_reducible repeat (first | refine blk_drewN ?_ _ | refine blk_drew ?_ | refine blk_alloc ?_ _)); exact BK511.out⟩, ⟨by (with_reducible repeat (first | refine blk_drewN ?_ _ | refine blk_drew ?_ | refine blk_alloc ?_ _)); refine blk_far ?_ NB516_523.out _; (with_reducible repeat (first | refine blk_drewN ?_ _ | refine blk_drew ?_ | refine blk_alloc ?_ _)); refine blk_far ?_ NB516_523.out _; (with_reducible repeat (first | refine blk_drewN ?_ _ | refine blk_drew ?_ | refine blk_alloc ?_ _)); refine blk_far ?_ NB516_523.out _; (with_reducible repeat (first | refine blk_drewN ?_ _ | refine blk_drew ?_ | refine blk_alloc ?_ _)); exact BK516.out⟩, ⟨bq3_ BK523.out⟩, ⟨hb3_ HB.out GE511.out GE516.out GE523.out⟩⟩
        ·replace c54 := Bool.eq_false_iff.mpr c54
         subst c54
         have H1 : (laws_FnGates.j0 k (Int.tmod t512 40) t513 t517 t518 true) = some r := by rw [if_neg (show ¬ (false = true) by decide)] at H; exact H
         clear H
         have H := H1
         clear H1
         have H' := Aside0.mk H
         clear H
         go_wp2
         go_meet
         case rel => exact ⟨_, (true), (by first | rfl | (simp; done) | (simp [*]; done)), H', ⟨by first | omega | exact Nat.le_refl _⟩, ⟨by (with_reducible repeat (first | apply Kd.R_alloc | apply Kd.R_drewN | apply Kd.R_drew)); exact Kd.R_mono (Kd.R_far (p := ⟨gb523, 2, none⟩) (Kd.R_far (p := ⟨gb523, 1, none⟩) (Kd.R_far (p := ⟨gb523, 0, none⟩) (Kd.R_types HO508.out BK523.out (by decide)) (fun _ hk => hk.2) (.int .i64 t519)) (fun _ hk => hk.2) (.int .i64 t520)) (fun _ hk => hk.2) (.int .i64 t521)) (fun _ hk => trivial)⟩, ⟨by (with_reducible repeat (first | refine blk_drewN ?_ _ | refine blk_drew ?_ | refine blk_alloc ?_ _)); refine blk_far ?_ NB511_523.out _; (with_reducible repeat (first | refine blk_drewN ?_ _ | refine blk_drew ?_ | refine blk_alloc ?_ _)); refine blk_far ?_ NB511_523.out _; (with_reducible repeat (first | refine blk_drewN ?_ _ | refine blk_drew ?_ | refine blk_alloc ?_ _)); refine blk_far ?_ NB511_523.out _; (with_reducible repeat (first | refine blk_drewN ?_ _ | refine blk_drew ?_ | refine blk_alloc ?_ _)); exact BK511.out⟩, ⟨by (with_reducible repeat (first | refine blk_drewN ?_ _ | refine blk_drew ?_ | refine blk_alloc ?_ _)); refine blk_far ?_ NB516_523.out _; (with_reducible repeat (first | refine blk_drewN ?_ _ | refine blk_drew ?_ | refine blk_alloc ?_ _)); refine blk_far ?_ NB516_523.out _; (with_reducible repeat (first | refine blk_drewN ?_ _ | refine blk_drew ?_ | refine blk_alloc ?_ _)); refine blk_far ?_ NB516_523.out _; (with_reducible repeat (first | refine blk_drewN ?_ _ | refine blk_drew ?_ | refine blk_alloc ?_ _)); exact BK516.out⟩, ⟨bq3_ BK523.out⟩, ⟨hb3_ HB.out GE511.out GE516.out GE523.out⟩⟩
    ·rw [if_neg c37] at H
     have c37b0 : decide (t514 < t513) = false := decide_eq_false c37
     clear c37
     by_cases c60 : ((decide (t513 < 0)) != (decide (t515 < 0))) = true
     ·rw [if_pos c60] at H
      have c60b0 : ((decide (t513 < 0)) != (decide (t515 < 0))) = true := c60
      (try (have c60b1 : decide ((decide (t513 < 0)) = (decide (t515 < 0))) = false := by simpa using c60))
      (try (have c60b2 : ((decide (t513 < 0)) == (decide (t515 < 0))) = false := by simpa using c60))
      (try (have c60b3 : ¬ ((decide (t513 < 0)) = (decide (t515 < 0))) := by simpa using c60))
      clear c60
      have H' := Aside0.mk H
      clear H
      go_wp2
      go_meet
      case rel => exact ⟨_, (true), (by first | rfl | (simp; done) | (simp [*]; done)), H', ⟨by first | omega | exact Nat.le_refl _⟩, ⟨by (with_reducible repeat (first | apply Kd.R_alloc | apply Kd.R_drewN | apply Kd.R_drew)); exact Kd.R_mono (Kd.R_far (p := ⟨gb523, 2, none⟩) (Kd.R_far (p := ⟨gb523, 1, none⟩) (Kd.R_far (p := ⟨gb523, 0, none⟩) (Kd.R_types HO508.out BK523.out (by decide)) (fun _ hk => hk.2) (.int .i64 t519)) (fun _ hk => hk.2) (.int .i64 t520)) (fun _ hk => hk.2) (.int .i64 t521)) (fun _ hk => trivial)⟩, ⟨by (with_reducible repeat (first | refine blk_drewN ?_ _ | refine blk_drew ?_ | refine blk_alloc ?_ _)); refine blk_far ?_ NB511_523.out _; (with_reducible repeat (first | refine blk_drewN ?_ _ | refine blk_drew ?_ | refine blk_alloc ?_ _)); refine blk_far ?_ NB511_523.out _; (with_reducible repeat (first | refine blk_drewN ?_ _ | refine blk_drew ?_ | refine blk_alloc ?_ _)); refine blk_far ?_ NB511_523.out _; (with_reducible repeat (first | refine blk_drewN ?_ _ | refine blk_drew ?_ | refine blk_alloc ?_ _)); exact BK511.out⟩, ⟨by (with_reducible repeat (first | refine blk_drewN ?_ _ | refine blk_drew ?_ | refine blk_alloc ?_ _)); refine blk_far ?_ NB516_523.out _; (with_reducible repeat (first | refine blk_drewN ?_ _ | refine blk_drew ?_ | refine blk_alloc ?_ _)); refine blk_far ?_ NB516_523.out _; (with_reducible repeat (first | refine blk_drewN ?_ _ | refine blk_drew ?_ | refine blk_alloc ?_ _)); refine blk_far ?_ NB516_523.out _; (with_reducible repeat (first | refine blk_drewN ?_ _ | refine blk_drew ?_ | refine blk_alloc ?_ _)); exact BK516.out⟩, ⟨bq3_ BK523.out⟩, ⟨hb3_ HB.out GE511.out GE516.out GE523.out⟩⟩
     ·rw [if_neg c60] at H
      have c60b0 : ((decide (t513 < 0)) != (decide (t515 < 0))) = false := by simpa using c60
      (try (have c60b1 : decide ((decide (t513 < 0)) = (decide (t515 < 0))) = true := by simpa using c60))
      (try (have c60b2 : ((decide (t513 < 0)) == (decide (t515 < 0))) = true := by simpa using c60))
      clear c60
      by_cases c61 : t513 ≥ 0
      ·rw [if_pos c61] at H
       have c61b0 : decide (0 ≤ t513) = true := decide_eq_true c61
       clear c61
       by_cases c62 : t515 = (wrap64 (t513 + t505))
       ·rw [if_pos c62] at H
        have c62b0 : (t515 == (wrap64 (t513 + t505))) = true := beq_iff_eq.mpr c62
        have c62b1 : (t515 != (wrap64 (t513 + t505))) = false := bne_eq_false_iff_eq.mpr c62
        clear c62
        by_cases c63 : t522 = true
        ·subst c63
         have H1 : (laws_FnGates.j0 k (Int.tmod t512 40) t513 t517 t518 ((Go.bits .andNot .i64 t521 t504) != 0)) = some r := by rw [if_pos rfl] at H; exact H
         clear H
         have H := H1
         clear H1
         have H' := Aside0.mk H
         clear H
         have hnb64 := NB511_516.out
         have hnc64 := NB516_511.out
         have hnb65 := NB511_523.out
         have hnc65 := NB523_511.out
         obtain ⟨hcz66_0, hcz66_1, hcz66_2, hcz66_3, hcz66_4⟩ := cz5_ BK511.out
         obtain ⟨hfz66_0, hfz66_1, hfz66_2, hfz66_3, hfz66_4⟩ := fz5_ BK511.out
         have hnb67 := NB523_516.out
         have hnc67 := NB516_523.out
         obtain ⟨hcz68_0, hcz68_1, hcz68_2⟩ := cz3_ BK523.out
         obtain ⟨hfz68_0, hfz68_1, hfz68_2⟩ := fz3_ BK523.out
         go_wp2
         go_meet
         case rel => exact ⟨_, (((Go.bits .andNot .i64 t521 t504) != 0)), (by first | rfl | (simp; done) | (simp [*]; done)), H', ⟨by first | omega | exact Nat.le_refl _⟩, ⟨by (with_reducible repeat (first | apply Kd.R_alloc | apply Kd.R_drewN | apply Kd.R_drew)); exact Kd.R_mono (Kd.R_far (p := ⟨gb523, 2, none⟩) (Kd.R_far (p := ⟨gb523, 1, none⟩) (Kd.R_far (p := ⟨gb523, 0, none⟩) (Kd.R_types HO508.out BK523.out (by decide)) (fun _ hk => hk.2) (.int .i64 t519)) (fun _ hk => hk.2) (.int .i64 t520)) (fun _ hk => hk.2) (.int .i64 t521)) (fun _ hk => trivial)⟩, ⟨by (with_reducible repeat (first | refine blk_drewN ?_ _ | refine blk_drew ?_ | refine blk_alloc ?_ _)); refine blk_far ?_ NB511_523.out _; (with_reducible repeat (first | refine blk_drewN ?_ _ | refine blk_drew ?_ | refine blk_alloc ?_ _)); refine blk_far ?_ NB511_523.out _; (with_reducible repeat (first | refine blk_drewN ?_ _ | refine blk_drew ?_ | refine blk_alloc ?_ _)); refine blk_far ?_ NB511_523.out _; (with_reducible repeat (first | refine blk_drewN ?_ _ | refine blk_drew ?_ | refine blk_alloc ?_ _)); exact BK511.out⟩, ⟨by (with_reducible repeat (first | refine blk_drewN ?_ _ | refine blk_drew ?_ | refine blk_alloc ?_ _)); refine blk_far ?_ NB516_523.out _; (with_reducible repeat (first | refine blk_drewN ?_ _ | refine blk_drew ?_ | refine blk_alloc ?_ _)); refine blk_far ?_ NB516_523.out _; (with_reducible repeat (first | refine blk_drewN ?_ _ | refine blk_drew ?_ | refine blk_alloc ?_ _)); refine blk_far ?_ NB516_523.out _; (with_reducible repeat (first | refine blk_drewN ?_ _ | refine blk_drew ?_ | refine blk_alloc ?_ _)); exact BK516.out⟩, ⟨bq3_ BK523.out⟩, ⟨hb3_ HB.out GE511.out GE516.out GE523.out⟩⟩
        ·replace c63 := Bool.eq_false_iff.mpr c63
         subst c63
         have H1 : (laws_FnGates.j0 k (Int.tmod t512 40) t513 t517 t518 true) = some r := by rw [if_neg (show ¬ (false = true) by decide)] at H; exact H
         clear H
         have H := H1
         clear H1
         have H' := Aside0.mk H
         clear H
         have hnb69 := NB511_516.out
         have hnc69 := NB516_511.out
         have hnb70 := NB511_523.out
         have hnc70 := NB523_511.out
         obtain ⟨hcz71_0, hcz71_1, hcz71_2, hcz71_3, hcz71_4⟩ := cz5_ BK511.out
         obtain ⟨hfz71_0, hfz71_1, hfz71_2, hfz71_3, hfz71_4⟩ := fz5_ BK511.out
         go_wp2
         go_meet
         case rel => exact ⟨_, (true), (by first | rfl | (simp; done) | (simp [*]; done)), H', ⟨by first | omega | exact Nat.le_refl _⟩, ⟨by (with_reducible repeat (first | apply Kd.R_alloc | apply Kd.R_drewN | apply Kd.R_drew)); exact Kd.R_mono (Kd.R_far (p := ⟨gb523, 2, none⟩) (Kd.R_far (p := ⟨gb523, 1, none⟩) (Kd.R_far (p := ⟨gb523, 0, none⟩) (Kd.R_types HO508.out BK523.out (by decide)) (fun _ hk => hk.2) (.int .i64 t519)) (fun _ hk => hk.2) (.int .i64 t520)) (fun _ hk => hk.2) (.int .i64 t521)) (fun _ hk => trivial)⟩, ⟨by (with_reducible repeat (first | refine blk_drewN ?_ _ | refine blk_drew ?_ | refine blk_alloc ?_ _)); refine blk_far ?_ NB511_523.out _; (with_reducible repeat (first | refine blk_drewN ?_ _ | refine blk_drew ?_ | refine blk_alloc ?_ _)); refine blk_far ?_ NB511_523.out _; (with_reducible repeat (first | refine blk_drewN ?_ _ | refine blk_drew ?_ | refine blk_alloc ?_ _)); refine blk_far ?_ NB511_523.out _; (with_reducible repeat (first | refine blk_drewN ?_ _ | refine blk_drew ?_ | refine blk_alloc ?_ _)); exact BK511.out⟩, ⟨by (with_reducible repeat (first | refine blk_drewN ?_ _ | refine blk_drew ?_ | refine blk_alloc ?_ _)); refine blk_far ?_ NB516_523.out _; (with_reducible repeat (first | refine blk_drewN ?_ _ | refine blk_drew ?_ | refine blk_alloc ?_ _)); refine blk_far ?_ NB516_523.out _; (with_reducible repeat (first | refine blk_drewN ?_ _ | refine blk_drew ?_ | refine blk_alloc ?_ _)); refine blk_far ?_ NB516_523.out _; (with_reducible repeat (first | refine blk_drewN ?_ _ | refine blk_drew ?_ | refine blk_alloc ?_ _)); exact BK516.out⟩, ⟨bq3_ BK523.out⟩, ⟨hb3_ HB.out GE511.out GE516.out GE523.out⟩⟩
       ·rw [if_neg c62] at H
        have c62b0 : (t515 == (wrap64 (t513 + t505))) = false := beq_eq_false_iff_ne.mpr c62
        have c62b1 : (t515 != (wrap64 (t513 + t505))) = true := bne_iff_ne.mpr c62
        have H' := Aside0.mk H
        clear H
        have hnb72 := NB511_516.out
        have hnc72 := NB516_511.out
        have hnb73 := NB511_523.out
        have hnc73 := NB523_511.out
        obtain ⟨hcz74_0, hcz74_1, hcz74_2, hcz74_3, hcz74_4⟩ := cz5_ BK511.out
        obtain ⟨hfz74_0, hfz74_1, hfz74_2, hfz74_3, hfz74_4⟩ := fz5_ BK511.out
        go_wp2
        go_meet
        case rel => exact ⟨_, (true), (by first | rfl | (simp; done) | (simp [*]; done)), H', ⟨by first | omega | exact Nat.le_refl _⟩, ⟨by (with_reducible repeat (first | apply Kd.R_alloc | apply Kd.R_drewN | apply Kd.R_drew)); exact Kd.R_mono (Kd.R_far (p := ⟨gb523, 2, none⟩) (Kd.R_far (p := ⟨gb523, 1, none⟩) (Kd.R_far (p := ⟨gb523, 0, none⟩) (Kd.R_types HO508.out BK523.out (by decide)) (fun _ hk => hk.2) (.int .i64 t519)) (fun _ hk => hk.2) (.int .i64 t520)) (fun _ hk => hk.2) (.int .i64 t521)) (fun _ hk => trivial)⟩, ⟨by (with_reducible repeat (first | refine blk_drewN ?_ _ | refine blk_drew ?_ | refine blk_alloc ?_ _)); refine blk_far ?_ NB511_523.out _; (with_reducible repeat (first | refine blk_drewN ?_ _ | refine blk_drew ?_ | refine blk_alloc ?_ _)); refine blk_far ?_ NB511_523.out _; (with_reducible repeat (first | refine blk_drewN ?_ _ | refine blk_drew ?_ | refine blk_alloc ?_ _)); refine blk_far ?_ NB511_523.out _; (with_reducible repeat (first | refine blk_drewN ?_ _ | refine blk_drew ?_ | refine blk_alloc ?_ _)); exact BK511.out⟩, ⟨by (with_reducible repeat (first | refine blk_drewN ?_ _ | refine blk_drew ?_ | refine blk_alloc ?_ _)); refine blk_far ?_ NB516_523.out _; (with_reducible repeat (first | refine blk_drewN ?_ _ | refine blk_drew ?_ | refine blk_alloc ?_ _)); refine blk_far ?_ NB516_523.out _; (with_reducible repeat (first | refine blk_drewN ?_ _ | refine blk_drew ?_ | refine blk_alloc ?_ _)); refine blk_far ?_ NB516_523.out _; (with_reducible repeat (first | refine blk_drewN ?_ _ | refine blk_drew ?_ | refine blk_alloc ?_ _)); exact BK516.out⟩, ⟨bq3_ BK523.out⟩, ⟨hb3_ HB.out GE511.out GE516.out GE523.out⟩⟩
      ·rw [if_neg c61] at H
       have c61b0 : decide (0 ≤ t513) = false := decide_eq_false c61
       clear c61
       by_cases c75 : t522 = true
       ·subst c75
        have H1 : (laws_FnGates.j0 k (Int.tmod t512 40) t513 t517 t518 ((Go.bits .andNot .i64 t521 t504) != 0)) = some r := by rw [if_pos rfl] at H; exact H
        clear H
        have H := H1
        clear H1
        have H' := Aside0.mk H
        clear H
        have hnb76 := NB523_511.out
        have hnc76 := NB511_523.out
        have hnb77 := NB523_516.out
        have hnc77 := NB516_523.out
        obtain ⟨hcz78_0, hcz78_1, hcz78_2⟩ := cz3_ BK523.out
        obtain ⟨hfz78_0, hfz78_1, hfz78_2⟩ := fz3_ BK523.out
        have hnb79 := NB511_516.out
        have hnc79 := NB516_511.out
        obtain ⟨hcz80_0, hcz80_1, hcz80_2, hcz80_3, hcz80_4⟩ := cz5_ BK511.out
        obtain ⟨hfz80_0, hfz80_1, hfz80_2, hfz80_3, hfz80_4⟩ := fz5_ BK511.out
        go_wp2
        go_meet
        case rel => exact ⟨_, (((Go.bits .andNot .i64 t521 t504) != 0)), (by first | rfl | (simp; done) | (simp [*]; done)), H', ⟨by first | omega | exact Nat.le_refl _⟩, ⟨by (with_reducible repeat (first | apply Kd.R_alloc | apply Kd.R_drewN | apply Kd.R_drew)); exact Kd.R_mono (Kd.R_far (p := ⟨gb523, 2, none⟩) (Kd.R_far (p := ⟨gb523, 1, none⟩) (Kd.R_far (p := ⟨gb523, 0, none⟩) (Kd.R_types HO508.out BK523.out (by decide)) (fun _ hk => hk.2) (.int .i64 t519)) (fun _ hk => hk.2) (.int .i64 t520)) (fun _ hk => hk.2) (.int .i64 t521)) (fun _ hk => trivial)⟩, ⟨by (with_reducible repeat (first | refine blk_drewN ?_ _ | refine blk_drew ?_ | refine blk_alloc ?_ _)); refine blk_far ?_ NB511_523.out _; (with_reducible repeat (first | refine blk_drewN ?_ _ | refine blk_drew ?_ | refine blk_alloc ?_ _)); refine blk_far ?_ NB511_523.out _; (with_reducible repeat (first | refine blk_drewN ?_ _ | refine blk_drew ?_ | refine blk_alloc ?_ _)); refine blk_far ?_ NB511_523.out _; (with_reducible repeat (first | refine blk_drewN ?_ _ | refine blk_drew ?_ | refine blk_alloc ?_ _)); exact BK511.out⟩, ⟨by (with_reducible repeat (first | refine blk_drewN ?_ _ | refine blk_drew ?_ | refine blk_alloc ?_ _)); refine blk_far ?_ NB516_523.out _; (with_reducible repeat (first | refine blk_drewN ?_ _ | refine blk_drew ?_ | refine blk_alloc ?_ _)); refine blk_far ?_ NB516_523.out _; (with_reducible repeat (first | refine blk_drewN ?_ _ | refine blk_drew ?_ | refine blk_alloc ?_ _)); refine blk_far ?_ NB516_523.out _; (with_reducible repeat (first | refine blk_drewN ?_ _ | refine blk_drew ?_ | refine blk_alloc ?_ _)); exact BK516.out⟩, ⟨bq3_ BK523.out⟩, ⟨hb3_ HB.out GE511.out GE516.out GE523.out⟩⟩
       ·replace c75 := Bool.eq_false_iff.mpr c75
        subst c75
        have H1 : (laws_FnGates.j0 k (Int.tmod t512 40) t513 t517 t518 true) = some r := by rw [if_neg (show ¬ (false = true) by decide)] at H; exact H
        clear H
        have H := H1
        clear H1
        have H' := Aside0.mk H
        clear H
        go_wp2
        go_meet
        case rel => exact ⟨_, (true), (by first | rfl | (simp; done) | (simp [*]; done)), H', ⟨by first | omega | exact Nat.le_refl _⟩, ⟨by (with_reducible repeat (first | apply Kd.R_alloc | apply Kd.R_drewN | apply Kd.R_drew)); exact Kd.R_mono (Kd.R_far (p := ⟨gb523, 2, none⟩) (Kd.R_far (p := ⟨gb523, 1, none⟩) (Kd.R_far (p := ⟨gb523, 0, none⟩) (Kd.R_types HO508.out BK523.out (by decide)) (fun _ hk => hk.2) (.int .i64 t519)) (fun _ hk => hk.2) (.int .i64 t520)) (fun _ hk => hk.2) (.int .i64 t521)) (fun _ hk => trivial)⟩, ⟨by (with_reducible repeat (first | refine blk_drewN ?_ _ | refine blk_drew ?_ | refine blk_alloc ?_ _)); refine blk_far ?_ NB511_523.out _; (with_reducible repeat (first | refine blk_drewN ?_ _ | refine blk_drew ?_ | refine blk_alloc ?_ _)); refine blk_far ?_ NB511_523.out _; (with_reducible repeat (first | refine blk_drewN ?_ _ | refine blk_drew ?_ | refine blk_alloc ?_ _)); refine blk_far ?_ NB511_523.out _; (with_reducible repeat (first | refine blk_drewN ?_ _ | refine blk_drew ?_ | refine blk_alloc ?_ _)); exact BK511.out⟩, ⟨by (with_reducible repeat (first | refine blk_drewN ?_ _ | refine blk_drew ?_ | refine blk_alloc ?_ _)); refine blk_far ?_ NB516_523.out _; (with_reducible repeat (first | refine blk_drewN ?_ _ | refine blk_drew ?_ | refine blk_alloc ?_ _)); refine blk_far ?_ NB516_523.out _; (with_reducible repeat (first | refine blk_drewN ?_ _ | refine blk_drew ?_ | refine blk_alloc ?_ _)); refine blk_far ?_ NB516_523.out _; (with_reducible repeat (first | refine blk_drewN ?_ _ | refine blk_drew ?_ | refine blk_alloc ?_ _)); exact BK516.out⟩, ⟨bq3_ BK523.out⟩, ⟨hb3_ HB.out GE511.out GE516.out GE523.out⟩⟩
  case rest =>
   clear HC12
   try clear c1
   try clear c2
   try clear p2
   try clear c3
   try clear c4
   try clear c5
   try clear c6
   try clear p6
   try clear c7
   try clear c11
   try clear c21
   try clear c22
   try clear c23
   try clear c24
   try clear c25
   try clear c33
   try clear c34
   try clear c36
   try clear c36b0
   try clear c36b1
   try clear c36b2
   try clear c37
   try clear c37b0
   try clear c38
   try clear c38b0
   try clear c39
   try clear c39b0
   try clear c39b1
   try clear c39b2
   try clear c40
   try clear c40b0
   try clear c41
   try clear c41b0
   try clear c41b1
   try clear c42
   try clear c43
   try clear c44
   try clear c46
   try clear c48
   try clear c49
   try clear c51
   try clear c52
   try clear c54
   try clear c55
   try clear c56
   try clear c58
   try clear c60
   try clear c60b0
   try clear c60b1
   try clear c60b2
   try clear c61
   try clear c61b0
   try clear c62
   try clear c62b0
   try clear c62b1
   try clear c63
   try clear c64
   try clear p64
   try clear c65
   try clear c67
   try clear c69
   try clear c70
   try clear c72
   try clear c73
   try clear c75
   try clear c76
   try clear c77
   try clear c79
   try clear hcz15_0
   try clear hcz15_1
   try clear hcz15_2
   try clear hcz15_3
   try clear hcz15_4
   try clear hcz18_0
   try clear hcz18_1
   try clear hcz18_2
   try clear hcz18_3
   try clear hcz18_4
   try clear hcz20_0
   try clear hcz20_1
   try clear hcz20_2
   try clear hcz20_3
   try clear hcz20_4
   try clear hcz22_0
   try clear hcz22_1
   try clear hcz22_2
   try clear hcz22_3
   try clear hcz22_4
   try clear hcz25_0
   try clear hcz25_1
   try clear hcz25_2
   try clear hcz25_3
   try clear hcz25_4
   try clear hcz26_0
   try clear hcz26_1
   try clear hcz26_2
   try clear hcz26_3
   try clear hcz26_4
   try clear hcz28_0
   try clear hcz28_1
   try clear hcz28_2
   try clear hcz28_3
   try clear hcz28_4
   try clear hcz30_0
   try clear hcz30_1
   try clear hcz30_2
   try clear hcz30_3
   try clear hcz30_4
   try clear hcz35_0
   try clear hcz35_1
   try clear hcz35_2
   try clear hcz45_0
   try clear hcz45_1
   try clear hcz45_2
   try clear hcz45_3
   try clear hcz45_4
   try clear hcz47_0
   try clear hcz47_1
   try clear hcz47_2
   try clear hcz50_0
   try clear hcz50_1
   try clear hcz50_2
   try clear hcz50_3
   try clear hcz50_4
   try clear hcz53_0
   try clear hcz53_1
   try clear hcz53_2
   try clear hcz53_3
   try clear hcz53_4
   try clear hcz57_0
   try clear hcz57_1
   try clear hcz57_2
   try clear hcz59_0
   try clear hcz59_1
   try clear hcz59_2
   try clear hcz59_3
   try clear hcz59_4
   try clear hcz66_0
   try clear hcz66_1
   try clear hcz66_2
   try clear hcz66_3
   try clear hcz66_4
   try clear hcz68_0
   try clear hcz68_1
   try clear hcz68_2
   try clear hcz71_0
   try clear hcz71_1
   try clear hcz71_2
   try clear hcz71_3
   try clear hcz71_4
   try clear hcz74_0
   try clear hcz74_1
   try clear hcz74_2
   try clear hcz74_3
   try clear hcz74_4
   try clear hcz78_0
   try clear hcz78_1
   try clear hcz78_2
   try clear hcz80_0
   try clear hcz80_1
   try clear hcz80_2
   try clear hcz80_3
   try clear hcz80_4
   try clear hfz15_0
   try clear hfz15_1
   try clear hfz15_2
   try clear hfz15_3
   try clear hfz15_4
   try clear hfz18_0
   try clear hfz18_1
   try clear hfz18_2
   try clear hfz18_3
   try clear hfz18_4
   try clear hfz20_0
   try clear hfz20_1
   try clear hfz20_2
   try clear hfz20_3
   try clear hfz20_4
   try clear hfz22_0
   try clear hfz22_1
   try clear hfz22_2
   try clear hfz22_3
   try clear hfz22_4
   try clear hfz25_0
   try clear hfz25_1
   try clear hfz25_2
   try clear hfz25_3
   try clear hfz25_4
   try clear hfz26_0
   try clear hfz26_1
   try clear hfz26_2
   try clear hfz26_3
   try clear hfz26_4
   try clear hfz28_0
   try clear hfz28_1
   try clear hfz28_2
   try clear hfz28_3
   try clear hfz28_4
   try clear hfz30_0
   try clear hfz30_1
   try clear hfz30_2
   try clear hfz30_3
   try clear hfz30_4
   try clear hfz35_0
   try clear hfz35_1
   try clear hfz35_2
   try clear hfz45_0
   try clear hfz45_1
   try clear hfz45_2
   try clear hfz45_3
   try clear hfz45_4
   try clear hfz47_0
   try clear hfz47_1
   try clear hfz47_2
   try clear hfz50_0
   try clear hfz50_1
   try clear hfz50_2
   try clear hfz50_3
   try clear hfz50_4
   try clear hfz53_0
   try clear hfz53_1
   try clear hfz53_2
   try clear hfz53_3
   try clear hfz53_4
   try clear hfz57_0
   try clear hfz57_1
   try clear hfz57_2
   try clear hfz59_0
   try clear hfz59_1
   try clear hfz59_2
   try clear hfz59_3
   try clear hfz59_4
   try clear hfz66_0
   try clear hfz66_1
   try clear hfz66_2
   try clear hfz66_3
   try clear hfz66_4
   try clear hfz68_0
   try clear hfz68_1
   try clear hfz68_2
   try clear hfz71_0
   try clear hfz71_1
   try clear hfz71_2
   try clear hfz71_3
   try clear hfz71_4
   try clear hfz74_0
   try clear hfz74_1
   try clear hfz74_2
   try clear hfz74_3
   try clear hfz74_4
   try clear hfz78_0
   try clear hfz78_1
   try clear hfz78_2
   try clear hfz80_0
   try clear hfz80_1
   try clear hfz80_2
   try clear hfz80_3
   try clear hfz80_4
   obtain ⟨kq, x109_11, rfl, HA, HJ11, HO_512004, BK511, BK516, BK523, HB⟩ := hcut
   cases kq with
   | zero => exact absurd HA.out (by simp [laws_FnGates.j0])
   | succ kj11 =>
    have H := HA.out
    clear HA
    simp only [laws_FnGates.j0] at H
    by_cases c81 : x109_11 = true
    ·subst c81
     have H1 : (some false) = some r := by rw [if_pos rfl] at H; exact H
     clear H
     have H := H1
     clear H1
     obtain rfl := Option.some.inj H
     go_wp2
     go_ret
     exact ⟨ex_, hb3_ HB.out GE511.out GE516.out GE523.out⟩
    ·replace c81 := Bool.eq_false_iff.mpr c81
     subst c81
     have H1 : (if t517 < 0 then (if t518 < 0 then (some true) else (if t518 = (wrap64 ((Int.tmod t512 40) + t517)) then (if t513 < 0 then (some true) else (some (decide (t513 ≥ t518)))) else (some false))) else (if t518 = (wrap64 ((Int.tmod t512 40) + t517)) then (if t513 < 0 then (some true) else (some (decide (t513 ≥ t518)))) else (some false))) = some r := by rw [if_neg (show ¬ (false = true) by decide)] at H; exact H
     clear H
     have H := H1
     clear H1
     by_cases c82 : t517 < 0
     ·rw [if_pos c82] at H
      have c82b0 : decide (t517 < 0) = true := decide_eq_true c82
      clear c82
      by_cases c83 : t518 < 0
      ·rw [if_pos c83] at H
       have c83b0 : decide (t518 < 0) = true := decide_eq_true c83
       clear c83
       obtain rfl := Option.some.inj H
       go_wp2
       go_ret
       exact ⟨ex_, hb3_ HB.out GE511.out GE516.out GE523.out⟩
      ·rw [if_neg c83] at H
       have c83b0 : decide (t518 < 0) = false := decide_eq_false c83
       clear c83
       by_cases c84 : t518 = (wrap64 ((Int.tmod t512 40) + t517))
       ·rw [if_pos c84] at H
        have c84b0 : (t518 == (wrap64 ((Int.tmod t512 40) + t517))) = true := beq_iff_eq.mpr c84
        have c84b1 : (t518 != (wrap64 ((Int.tmod t512 40) + t517))) = false := bne_eq_false_iff_eq.mpr c84
        clear c84
        by_cases c85 : t513 < 0
        ·rw [if_pos c85] at H
         have c85b0 : decide (t513 < 0) = true := decide_eq_true c85
         clear c85
         obtain rfl := Option.some.inj H
         go_wp2
         go_ret
         exact ⟨ex_, hb3_ HB.out GE511.out GE516.out GE523.out⟩
        ·rw [if_neg c85] at H
         have c85b0 : decide (t513 < 0) = false := decide_eq_false c85
         clear c85
         obtain rfl := Option.some.inj H
         go_wp2
         go_ret
         exact ⟨ex_, hb3_ HB.out GE511.out GE516.out GE523.out⟩
       ·rw [if_neg c84] at H
        have c84b0 : (t518 == (wrap64 ((Int.tmod t512 40) + t517))) = false := beq_eq_false_iff_ne.mpr c84
        have c84b1 : (t518 != (wrap64 ((Int.tmod t512 40) + t517))) = true := bne_iff_ne.mpr c84
        obtain rfl := Option.some.inj H
        go_wp2
        go_ret
        exact ⟨ex_, hb3_ HB.out GE511.out GE516.out GE523.out⟩
     ·rw [if_neg c82] at H
      have c82b0 : decide (t517 < 0) = false := decide_eq_false c82
      clear c82
      by_cases c86 : t518 = (wrap64 ((Int.tmod t512 40) + t517))
      ·rw [if_pos c86] at H
       have c86b0 : (t518 == (wrap64 ((Int.tmod t512 40) + t517))) = true := beq_iff_eq.mpr c86
       have c86b1 : (t518 != (wrap64 ((Int.tmod t512 40) + t517))) = false := bne_eq_false_iff_eq.mpr c86
       clear c86
       by_cases c87 : t513 < 0
       ·rw [if_pos c87] at H
        have c87b0 : decide (t513 < 0) = true := decide_eq_true c87
        clear c87
        obtain rfl := Option.some.inj H
        go_wp2
        go_ret
        exact ⟨ex_, hb3_ HB.out GE511.out GE516.out GE523.out⟩
       ·rw [if_neg c87] at H
        have c87b0 : decide (t513 < 0) = false := decide_eq_false c87
        clear c87
        obtain rfl := Option.some.inj H
        go_wp2
        go_ret
        exact ⟨ex_, hb3_ HB.out GE511.out GE516.out GE523.out⟩
      ·rw [if_neg c86] at H
       have c86b0 : (t518 == (wrap64 ((Int.tmod t512 40) + t517))) = false := beq_eq_false_iff_ne.mpr c86
       have c86b1 : (t518 != (wrap64 ((Int.tmod t512 40) + t517))) = true := bne_iff_ne.mpr c86
       obtain rfl := Option.some.inj H
       go_wp2
       go_ret
       exact ⟨ex_, hb3_ HB.out GE511.out GE516.out GE523.out⟩

/-- THE ONE PURE STATEMENT of laws_FnGates: yours. -/
def laws_FnGates.Pure : Prop := ∀ (l0 : List Int), l0.length ≤ maxLen → l0.length * 1 ≤ 140737488351232 → (∀ x ∈ l0, (Lit.int .u8 x).wf = true) → ∃ k, laws_FnGates.f k l0 = some true
theorem laws_FnGates.walk (P : laws_FnGates.Pure) (a0 : Option Addr) (len0 cap0 : Nat) (z0 : List Int) (w : World) (w0 : (a0 = none ∧ len0 = 0 ∧ cap0 = 0 ∧ z0 = []) ∨ ∃ x, a0 = some x ∧ len0 ≤ cap0 ∧ cap0 ≤ maxLen ∧ z0.length = cap0 ∧ (∀ i, i < z0.length → w.cell? (x.add i) = some (.int .u8 (z0.getD i 0))) ∧ ∀ n ∈ z0, (Lit.int .u8 n).wf = true) (y0 : len0 * 1 ≤ 140737488351232) :
  Calls Try.prog 6 #[.slice a0 len0 cap0] w fun e w' => e = .returned (.bool true) ∧ Below w.heap.size w w' := by
 obtain ⟨l0, rfl, hr0, hm0, hw0, hc0⟩ := ReadsInt.ofRowC w0
 obtain ⟨k, h⟩ := P l0 hm0 y0 hw0
 refine (laws_FnGates.calls k _ _ l0 true w (Kd.C_of_reads (d := (0 : Int)) (h1 := fun _ => rfl) hr0) hc0 h).mono ?_
 rintro e w' ⟨rfl, hd⟩
 exact ⟨rfl, hd⟩

end Go.Proofs.Ytlfomjhjeknnmaa.X
