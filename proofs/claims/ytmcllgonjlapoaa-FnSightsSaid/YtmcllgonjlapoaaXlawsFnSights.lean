-- Written by a program of this session (xprint.py), out of the translation and of hand-written contracts. Lean checks it.
import Derived.Test.YtmcllgonjlapoaaX0
import Derived.Test.YtmcllgonjlapoaaXcgrid
import Derived.Test.YtmcllgonjlapoaaXimplFewestGuards
import Derived.Test.YtmcllgonjlapoaaXimplIsGuarded
import Derived.Test.YtmcllgonjlapoaaXimplSeenFrom
import Derived.Test.YtmcllgonjlapoaaXimplSeesEach
import Derived.Test.YtmcllgonjlapoaaXimplSightFrom
import Derived.Test.YtmcllgonjlapoaaXlawsat
import Derived.Test.YtmcllgonjlapoaaXlawsbig
import Derived.Test.YtmcllgonjlapoaaXlawshas
import Derived.Test.YtmcllgonjlapoaaXspecDrawOpenCell
namespace Go.Proofs.Ytmcllgonjlapoaa.X
open Go.RowKit Go.Proofs.YtmcllgonjlapoaaW.PrintWords Go.Proofs.YtmcllgonjlapoaaW.PrintLast Go.Proofs.YtmcllgonjlapoaaW.PrintMore
attribute [local go_sem] max2_int min2_int max_two min_two max_three min_three max_four min_four   -- for this text's walks alone
set_option linter.unusedVariables false
set_option linter.unusedSimpArgs false

/-! ### laws_FnSights: function 11 -/
mutual
def laws_FnSights.j0 : Nat → Int → Int → List Int → Bool → Int → Int → Int → Option (Bool)
 | 0, _, _, _, _, _, _, _ => none
 | k + 1, x4, x5, x6, x51, x507000, x507001, x507002 => if x51 = true then (some false) else (laws_FnSights.l0 k x4 x5 x6 0 x507000 x507001 x507002)
def laws_FnSights.l0 : Nat → Int → Int → List Int → Int → Int → Int → Int → Option (Bool)
 | 0, _, _, _, _, _, _, _ => none
 | k + 1, x4, x5, x6, x7, x507000, x507001, x507002 => if x7 < (x6.length : Int) then ((some (([] : List Int) : List Int)).bind fun y516 => (if 0 ≤ x7 then (if x7 ≤ (x6.length : Int) then ((some (x6.take (x7 : Int).toNat : List Int)).bind fun y519 => (if y516.length + y519.length < 17592186044416 then ((some (y516 ++ y519 : List Int)).bind fun y523 => (if 0 ≤ (wrap64 (x7 + 1)) then (if (wrap64 (x7 + 1)) ≤ (x6.length : Int) then ((some (x6.drop ((wrap64 (x7 + 1)) : Int).toNat : List Int)).bind fun y526 => (if y523.length + y526.length < 17592186044416 then ((impl_IsGuarded.f k x507000 x507001 x507002 (y523 ++ y526)).bind fun t533 => (if t533 = true then (some false) else (laws_FnSights.l0 k x4 x5 x6 (wrap64 (x7 + 1)) x507000 x507001 x507002))) else (none))) else (none)) else (none))) else (none))) else (none)) else (none))) else (laws_FnSights.l1 k x4 x5 1 0 x507000 x507001 x507002)
def laws_FnSights.l1 : Nat → Int → Int → Int → Int → Int → Int → Int → Option (Bool)
 | 0, _, _, _, _, _, _, _ => none
 | k + 1, x4, x5, x8, x9, x507000, x507001, x507002 => if x9 < 4 then ((impl_SightFrom.f k x507000 x507001 x507002 x4 x9).bind fun t534 => (laws_FnSights.l1 k x4 x5 (wrap64 (x8 + (t534.length : Int))) (wrap64 (x9 + 1)) x507000 x507001 x507002)) else ((impl_SeenFrom.f k x507000 x507001 x507002 x4).bind fun t537 => (if (t537.length : Int) = x8 then ((impl_SeenFrom.f k x507000 x507001 x507002 x4).bind fun t540 => ((laws_has.f k t540 x5).bind fun t543 => ((impl_SeesEach.f k x507000 x507001 x507002 x4 x5).bind fun t544 => (some (t543 == t544))))) else (some false)))
end
def laws_FnSights.f (k : Nat) (l0 : List Int) : Option (Bool) := (laws_big.f l0).bind fun t501 => (if t501 = true then (some true) else ((spec_DrawOpenCell.f k l0).bind fun bt502 => ((laws_at.f l0 0).bind fun t507 => ((spec_CountCells.f bt502.1 bt502.2.1).bind fun t508 => (if t508 = 0 then (none) else ((impl_FewestGuards.f k bt502.1 bt502.2.1 bt502.2.2.1).bind fun t509 => (if (t509.length : Int) = 0 then (laws_FnSights.j0 k bt502.2.2.2 (Int.tmod t507 t508) t509 true bt502.1 bt502.2.1 bt502.2.2.1) else ((impl_IsGuarded.f k bt502.1 bt502.2.1 bt502.2.2.1 t509).bind fun t512 => (if t512 = true then ((impl_SeesEach.f k bt502.1 bt502.2.1 bt502.2.2.1 bt502.2.2.2 (Int.tmod t507 t508)).bind fun t513 => ((impl_SeesEach.f k bt502.1 bt502.2.1 bt502.2.2.1 (Int.tmod t507 t508) bt502.2.2.2).bind fun t514 => (if (t513 != t514) = true then (laws_FnSights.j0 k bt502.2.2.2 (Int.tmod t507 t508) t509 true bt502.1 bt502.2.1 bt502.2.2.1) else ((impl_SeesEach.f k bt502.1 bt502.2.1 bt502.2.2.1 bt502.2.2.2 bt502.2.2.2).bind fun t515 => (laws_FnSights.j0 k bt502.2.2.2 (Int.tmod t507 t508) t509 (!t515) bt502.1 bt502.2.1 bt502.2.2.1))))) else (laws_FnSights.j0 k bt502.2.2.2 (Int.tmod t507 t508) t509 true bt502.1 bt502.2.1 bt502.2.2.1))))))))))
theorem laws_FnSights.mono_l : ∀ k, (∀ y0 y1 y2 y3 y4 y5 y6, LeO (laws_FnSights.j0 k y0 y1 y2 y3 y4 y5 y6) (laws_FnSights.j0 (k + 1) y0 y1 y2 y3 y4 y5 y6)) ∧ (∀ y0 y1 y2 y3 y4 y5 y6, LeO (laws_FnSights.l0 k y0 y1 y2 y3 y4 y5 y6) (laws_FnSights.l0 (k + 1) y0 y1 y2 y3 y4 y5 y6)) ∧ (∀ y0 y1 y2 y3 y4 y5 y6, LeO (laws_FnSights.l1 k y0 y1 y2 y3 y4 y5 y6) (laws_FnSights.l1 (k + 1) y0 y1 y2 y3 y4 y5 y6))
 | 0 => ⟨fun _ _ _ _ _ _ _ r h => by simp [laws_FnSights.j0] at h, fun _ _ _ _ _ _ _ r h => by simp [laws_FnSights.l0] at h, fun _ _ _ _ _ _ _ r h => by simp [laws_FnSights.l1] at h⟩
 | k + 1 => by
  obtain ⟨ih0, ih1, ih2⟩ := laws_FnSights.mono_l k
  refine ⟨?_, ?_, ?_⟩
  ·intro y0 y1 y2 y3 y4 y5 y6
   unfold laws_FnSights.j0
   repeat' first
   | (with_reducible exact ih0 ..)
   | (with_reducible exact ih1 ..)
   | (with_reducible exact ih2 ..)
   | (with_reducible exact impl_FewestGuards.mono ..)
   | (with_reducible exact impl_IsGuarded.mono ..)
   | (with_reducible exact impl_SeenFrom.mono ..)
   | (with_reducible exact impl_SeesEach.mono ..)
   | (with_reducible exact impl_SightFrom.mono ..)
   | (with_reducible exact laws_has.mono ..)
   | (with_reducible exact spec_DrawOpenCell.mono ..)
   | (with_reducible first | exact lr_ _ | exact ln_ _ | refine li_ ?_ ?_ | refine lb_ ?_ fun _ => ?_)
   | exact ih0 ..
   | exact ih1 ..
   | exact ih2 ..
   | exact impl_FewestGuards.mono ..
   | exact impl_IsGuarded.mono ..
   | exact impl_SeenFrom.mono ..
   | exact impl_SeesEach.mono ..
   | exact impl_SightFrom.mono ..
   | exact laws_has.mono ..
   | exact spec_DrawOpenCell.mono ..
   | exact ln_ _ | refine li_ ?_ ?_ | refine lb_ ?_ fun _ => ?_
  ·intro y0 y1 y2 y3 y4 y5 y6
   unfold laws_FnSights.l0
   repeat' first
   | (with_reducible exact ih0 ..)
   | (with_reducible exact ih1 ..)
   | (with_reducible exact ih2 ..)
   | (with_reducible exact impl_FewestGuards.mono ..)
   | (with_reducible exact impl_IsGuarded.mono ..)
   | (with_reducible exact impl_SeenFrom.mono ..)
   | (with_reducible exact impl_SeesEach.mono ..)
   | (with_reducible exact impl_SightFrom.mono ..)
   | (with_reducible exact laws_has.mono ..)
   | (with_reducible exact spec_DrawOpenCell.mono ..)
   | (with_reducible first | exact lr_ _ | exact ln_ _ | refine li_ ?_ ?_ | refine lb_ ?_ fun _ => ?_)
   | exact ih0 ..
   | exact ih1 ..
   | exact ih2 ..
   | exact impl_FewestGuards.mono ..
   | exact impl_IsGuarded.mono ..
   | exact impl_SeenFrom.mono ..
   | exact impl_SeesEach.mono ..
   | exact impl_SightFrom.mono ..
   | exact laws_has.mono ..
   | exact spec_DrawOpenCell.mono ..
   | exact ln_ _ | refine li_ ?_ ?_ | refine lb_ ?_ fun _ => ?_
  ·intro y0 y1 y2 y3 y4 y5 y6
   unfold laws_FnSights.l1
   repeat' first
   | (with_reducible exact ih0 ..)
   | (with_reducible exact ih1 ..)
   | (with_reducible exact ih2 ..)
   | (with_reducible exact impl_FewestGuards.mono ..)
   | (with_reducible exact impl_IsGuarded.mono ..)
   | (with_reducible exact impl_SeenFrom.mono ..)
   | (with_reducible exact impl_SeesEach.mono ..)
   | (with_reducible exact impl_SightFrom.mono ..)
   | (with_reducible exact laws_has.mono ..)
   | (with_reducible exact spec_DrawOpenCell.mono ..)
   | (with_reducible first | exact lr_ _ | exact ln_ _ | refine li_ ?_ ?_ | refine lb_ ?_ fun _ => ?_)
   | exact ih0 ..
   | exact ih1 ..
   | exact ih2 ..
   | exact impl_FewestGuards.mono ..
   | exact impl_IsGuarded.mono ..
   | exact impl_SeenFrom.mono ..
   | exact impl_SeesEach.mono ..
   | exact impl_SightFrom.mono ..
   | exact laws_has.mono ..
   | exact spec_DrawOpenCell.mono ..
   | exact ln_ _ | refine li_ ?_ ?_ | refine lb_ ?_ fun _ => ?_
theorem laws_FnSights.mono : ∀ a0 k, LeO (laws_FnSights.f k a0) (laws_FnSights.f (k + 1) a0) := by
 intro a0 k
 obtain ⟨ih0, ih1, ih2⟩ := laws_FnSights.mono_l k
 unfold laws_FnSights.f
 repeat' first
   | (with_reducible exact ih0 ..)
   | (with_reducible exact ih1 ..)
   | (with_reducible exact ih2 ..)
   | (with_reducible exact impl_FewestGuards.mono ..)
   | (with_reducible exact impl_IsGuarded.mono ..)
   | (with_reducible exact impl_SeenFrom.mono ..)
   | (with_reducible exact impl_SeesEach.mono ..)
   | (with_reducible exact impl_SightFrom.mono ..)
   | (with_reducible exact laws_has.mono ..)
   | (with_reducible exact spec_DrawOpenCell.mono ..)
   | (with_reducible first | exact lr_ _ | exact ln_ _ | refine li_ ?_ ?_ | refine lb_ ?_ fun _ => ?_)
   | exact ih0 ..
   | exact ih1 ..
   | exact ih2 ..
   | exact impl_FewestGuards.mono ..
   | exact impl_IsGuarded.mono ..
   | exact impl_SeenFrom.mono ..
   | exact impl_SeesEach.mono ..
   | exact impl_SightFrom.mono ..
   | exact laws_has.mono ..
   | exact spec_DrawOpenCell.mono ..
   | exact ln_ _ | refine li_ ?_ ?_ | refine lb_ ?_ fun _ => ?_
def laws_FnSights.T6 : Bool × List (List Nat × List Nat) := (true, [([], []), ([0], [0]), ([1], [1]), ([2], [2]), ([3], [3]), ([3], [3]), ([4, 5, 3, 3], [3, 4, 5]), ([6, 3], [3, 6]), ([3, 7], [3, 7]), ([8, 6], [8]), ([9], [9]), ([9], [9]), ([9], [9]), ([10, 11, 12, 9, 9], [9, 10, 11, 12]), ([9], [9]), ([9], [9]), ([9], [9]), ([14, 15, 16, 13, 9], [9, 14, 15, 16]), ([13, 17, 9], [9, 13, 17]), ([9, 18], [9, 18]), ([19, 17], [19]), ([20], [20]), ([20], [20]), ([20], [20]), ([21, 22, 23, 20, 20], [20, 21, 22, 23]), ([24, 20], [20, 24]), ([20, 25], [20, 25])])
def laws_FnSights.B6 : List Nat := [0, 1, 3, 7, 15, 15, 63, 127, 255, 511, 1023, 1023, 1023, 8191, 1023, 1023, 1023, 131071, 262143, 524287, 1048575, 2097151, 2097151, 2097151, 16777215, 33554431, 67108863]
theorem laws_FnSights.tab6 : rtab .any (opsOf Try.f11 6) = laws_FnSights.T6 := by kernel_rfl
theorem laws_FnSights.bits6 : waitsOk laws_FnSights.T6.2 laws_FnSights.B6 = true := by kernel_rfl
def laws_FnSights.T11 : Bool × List (List Nat × List Nat) := (true, [([], []), ([], []), ([], []), ([], []), ([2, 3], [2, 3]), ([1, 4], [1, 4]), ([], []), ([], []), ([7], [7]), ([6, 8], [6, 8]), ([5, 9, 5], [5, 9]), ([0, 10, 10], [0, 10])])
def laws_FnSights.B11 : List Nat := [0, 0, 0, 0, 12, 30, 0, 0, 128, 448, 1022, 2047]
theorem laws_FnSights.tab11 : rtab .any (opsOf Try.f11 11) = laws_FnSights.T11 := by kernel_rfl
theorem laws_FnSights.bits11 : waitsOk laws_FnSights.T11.2 laws_FnSights.B11 = true := by kernel_rfl
def laws_FnSights.T18 : Bool × List (List Nat × List Nat) := (true, [([], []), ([], []), ([0, 1], [0, 1]), ([2], [2]), ([], []), ([3, 4], [3, 4]), ([5, 2], [5]), ([6], [6]), ([6], [6]), ([7, 8, 6, 6], [6, 7, 8]), ([6], [6]), ([9, 10, 9, 6], [6, 9, 10]), ([6], [6]), ([6], [6]), ([6], [6]), ([12, 13, 14, 11, 6], [6, 12, 13, 14]), ([11, 15, 6], [6, 11, 15]), ([6, 16], [6, 16]), ([17, 15, 0, 1, 2, 3, 4, 5, 6, 7, 8, 9, 10, 11, 12, 13, 14, 15, 16, 17], [17])])
def laws_FnSights.B18 : List Nat := [0, 0, 3, 7, 0, 31, 63, 127, 127, 511, 127, 2047, 127, 127, 127, 32767, 65535, 131071, 262143]
theorem laws_FnSights.tab18 : rtab .any (opsOf Try.f11 18) = laws_FnSights.T18 := by kernel_rfl
theorem laws_FnSights.bits18 : waitsOk laws_FnSights.T18.2 laws_FnSights.B18 = true := by kernel_rfl
set_option maxHeartbeats 8000000 in
set_option maxRecDepth 100000 in
theorem laws_FnSights.calls (k : Nat) (A0 : Option Addr) (c0 : Nat) (l0 : List Int) (r : Bool) (w : World) (hr0 : Kd.C (Kd.int .u8) w A0 l0.length l0) (hc0 : l0.length ≤ c0) (h : laws_FnSights.f k l0 = some r) :
  Calls Try.prog 11 #[.slice A0 l0.length c0] w fun e w' => e = .returned (.bool r) ∧ Below w.heap.size w w' := by
 have hu30 := Try.underlying30
 have hu28 := Try.underlying28
 have HR0 := Aside0.mk hr0
 have HC0 := Aside0.mk hc0
 clear hr0 hc0
 have HB := Aside0.mk (Below.refl w.heap.size w)
 have H : ((laws_big.f l0).bind fun t501 => (if t501 = true then (some true) else ((spec_DrawOpenCell.f k l0).bind fun bt502 => ((laws_at.f l0 0).bind fun t507 => ((spec_CountCells.f bt502.1 bt502.2.1).bind fun t508 => (if t508 = 0 then (none) else ((impl_FewestGuards.f k bt502.1 bt502.2.1 bt502.2.2.1).bind fun t509 => (if (t509.length : Int) = 0 then (laws_FnSights.j0 k bt502.2.2.2 (Int.tmod t507 t508) t509 true bt502.1 bt502.2.1 bt502.2.2.1) else ((impl_IsGuarded.f k bt502.1 bt502.2.1 bt502.2.2.1 t509).bind fun t512 => (if t512 = true then ((impl_SeesEach.f k bt502.1 bt502.2.1 bt502.2.2.1 bt502.2.2.2 (Int.tmod t507 t508)).bind fun t513 => ((impl_SeesEach.f k bt502.1 bt502.2.1 bt502.2.2.1 (Int.tmod t507 t508) bt502.2.2.2).bind fun t514 => (if (t513 != t514) = true then (laws_FnSights.j0 k bt502.2.2.2 (Int.tmod t507 t508) t509 true bt502.1 bt502.2.1 bt502.2.2.1) else ((impl_SeesEach.f k bt502.1 bt502.2.1 bt502.2.2.1 bt502.2.2.2 bt502.2.2.2).bind fun t515 => (laws_FnSights.j0 k bt502.2.2.2 (Int.tmod t507 t508) t509 (!t515) bt502.1 bt502.2.1 bt502.2.2.1))))) else (laws_FnSights.j0 k bt502.2.2.2 (Int.tmod t507 t508) t509 true bt502.1 bt502.2.1 bt502.2.2.1))))))))))) = some r := h
 clear h
 replace H := Option.bind_eq_some_iff.mp H
 obtain ⟨t501, A20, H⟩ := H
 replace H : (if t501 = true then (some true) else ((spec_DrawOpenCell.f k l0).bind fun bt502 => ((laws_at.f l0 0).bind fun t507 => ((spec_CountCells.f bt502.1 bt502.2.1).bind fun t508 => (if t508 = 0 then (none) else ((impl_FewestGuards.f k bt502.1 bt502.2.1 bt502.2.2.1).bind fun t509 => (if (t509.length : Int) = 0 then (laws_FnSights.j0 k bt502.2.2.2 (Int.tmod t507 t508) t509 true bt502.1 bt502.2.1 bt502.2.2.1) else ((impl_IsGuarded.f k bt502.1 bt502.2.1 bt502.2.2.1 t509).bind fun t512 => (if t512 = true then ((impl_SeesEach.f k bt502.1 bt502.2.1 bt502.2.2.1 bt502.2.2.2 (Int.tmod t507 t508)).bind fun t513 => ((impl_SeesEach.f k bt502.1 bt502.2.1 bt502.2.2.1 (Int.tmod t507 t508) bt502.2.2.2).bind fun t514 => (if (t513 != t514) = true then (laws_FnSights.j0 k bt502.2.2.2 (Int.tmod t507 t508) t509 true bt502.1 bt502.2.1 bt502.2.2.1) else ((impl_SeesEach.f k bt502.1 bt502.2.1 bt502.2.2.1 bt502.2.2.2 bt502.2.2.2).bind fun t515 => (laws_FnSights.j0 k bt502.2.2.2 (Int.tmod t507 t508) t509 (!t515) bt502.1 bt502.2.1 bt502.2.2.1))))) else (laws_FnSights.j0 k bt502.2.2.2 (Int.tmod t507 t508) t509 true bt502.1 bt502.2.1 bt502.2.2.1)))))))))) = some r := H
 have A2 := Aside0.mk A20
 clear A20
 by_cases c3 : t501 = true
 ·subst c3
  have H1 : (some true) = some r := by rw [if_pos rfl] at H; exact H
  clear H
  have H := H1
  clear H1
  obtain rfl := Option.some.inj H
  go_enter Try.func11, Try.ntmps11
  go_wp2_with ((with_reducible refine gw_ ?_); first | (refine gl_ 11 Try.func36 #[.slice A0 l0.length c0] ?_; (with_reducible refine (laws_big.calls _ _ l0 true _ ?side1 ?side2 A2.out).mono ?_); (case side1 => exact kc_ HR0.out); (case side2 => exact HC0.out); rintro e w' ⟨rfl, ⟨nd, rfl⟩⟩; refine ⟨_, rfl, ?_⟩))
  go_ret
  exact ⟨ex_, hb0_ HB.out⟩
 ·replace c3 := Bool.eq_false_iff.mpr c3
  subst c3
  have H1 : ((spec_DrawOpenCell.f k l0).bind fun bt502 => ((laws_at.f l0 0).bind fun t507 => ((spec_CountCells.f bt502.1 bt502.2.1).bind fun t508 => (if t508 = 0 then (none) else ((impl_FewestGuards.f k bt502.1 bt502.2.1 bt502.2.2.1).bind fun t509 => (if (t509.length : Int) = 0 then (laws_FnSights.j0 k bt502.2.2.2 (Int.tmod t507 t508) t509 true bt502.1 bt502.2.1 bt502.2.2.1) else ((impl_IsGuarded.f k bt502.1 bt502.2.1 bt502.2.2.1 t509).bind fun t512 => (if t512 = true then ((impl_SeesEach.f k bt502.1 bt502.2.1 bt502.2.2.1 bt502.2.2.2 (Int.tmod t507 t508)).bind fun t513 => ((impl_SeesEach.f k bt502.1 bt502.2.1 bt502.2.2.1 (Int.tmod t507 t508) bt502.2.2.2).bind fun t514 => (if (t513 != t514) = true then (laws_FnSights.j0 k bt502.2.2.2 (Int.tmod t507 t508) t509 true bt502.1 bt502.2.1 bt502.2.2.1) else ((impl_SeesEach.f k bt502.1 bt502.2.1 bt502.2.2.1 bt502.2.2.2 bt502.2.2.2).bind fun t515 => (laws_FnSights.j0 k bt502.2.2.2 (Int.tmod t507 t508) t509 (!t515) bt502.1 bt502.2.1 bt502.2.2.1))))) else (laws_FnSights.j0 k bt502.2.2.2 (Int.tmod t507 t508) t509 true bt502.1 bt502.2.1 bt502.2.2.1))))))))) = some r := by rw [if_neg (show ¬ (false = true) by decide)] at H; exact H
  clear H
  have H := H1
  clear H1
  replace H := Option.bind_eq_some_iff.mp H
  obtain ⟨⟨t502, t503, t504, t505⟩, A40, H⟩ := H
  replace H : ((laws_at.f l0 0).bind fun t507 => ((spec_CountCells.f t502 t503).bind fun t508 => (if t508 = 0 then (none) else ((impl_FewestGuards.f k t502 t503 t504).bind fun t509 => (if (t509.length : Int) = 0 then (laws_FnSights.j0 k t505 (Int.tmod t507 t508) t509 true t502 t503 t504) else ((impl_IsGuarded.f k t502 t503 t504 t509).bind fun t512 => (if t512 = true then ((impl_SeesEach.f k t502 t503 t504 t505 (Int.tmod t507 t508)).bind fun t513 => ((impl_SeesEach.f k t502 t503 t504 (Int.tmod t507 t508) t505).bind fun t514 => (if (t513 != t514) = true then (laws_FnSights.j0 k t505 (Int.tmod t507 t508) t509 true t502 t503 t504) else ((impl_SeesEach.f k t502 t503 t504 t505 t505).bind fun t515 => (laws_FnSights.j0 k t505 (Int.tmod t507 t508) t509 (!t515) t502 t503 t504))))) else (laws_FnSights.j0 k t505 (Int.tmod t507 t508) t509 true t502 t503 t504)))))))) = some r := H
  have A4 := Aside0.mk A40
  clear A40
  replace H := Option.bind_eq_some_iff.mp H
  obtain ⟨t507, A50, H⟩ := H
  replace H : ((spec_CountCells.f t502 t503).bind fun t508 => (if t508 = 0 then (none) else ((impl_FewestGuards.f k t502 t503 t504).bind fun t509 => (if (t509.length : Int) = 0 then (laws_FnSights.j0 k t505 (Int.tmod t507 t508) t509 true t502 t503 t504) else ((impl_IsGuarded.f k t502 t503 t504 t509).bind fun t512 => (if t512 = true then ((impl_SeesEach.f k t502 t503 t504 t505 (Int.tmod t507 t508)).bind fun t513 => ((impl_SeesEach.f k t502 t503 t504 (Int.tmod t507 t508) t505).bind fun t514 => (if (t513 != t514) = true then (laws_FnSights.j0 k t505 (Int.tmod t507 t508) t509 true t502 t503 t504) else ((impl_SeesEach.f k t502 t503 t504 t505 t505).bind fun t515 => (laws_FnSights.j0 k t505 (Int.tmod t507 t508) t509 (!t515) t502 t503 t504))))) else (laws_FnSights.j0 k t505 (Int.tmod t507 t508) t509 true t502 t503 t504))))))) = some r := H
  have A5 := Aside0.mk A50
  clear A50
  replace H := Option.bind_eq_some_iff.mp H
  obtain ⟨t508, A60, H⟩ := H
  replace H : (if t508 = 0 then (none) else ((impl_FewestGuards.f k t502 t503 t504).bind fun t509 => (if (t509.length : Int) = 0 then (laws_FnSights.j0 k t505 (Int.tmod t507 t508) t509 true t502 t503 t504) else ((impl_IsGuarded.f k t502 t503 t504 t509).bind fun t512 => (if t512 = true then ((impl_SeesEach.f k t502 t503 t504 t505 (Int.tmod t507 t508)).bind fun t513 => ((impl_SeesEach.f k t502 t503 t504 (Int.tmod t507 t508) t505).bind fun t514 => (if (t513 != t514) = true then (laws_FnSights.j0 k t505 (Int.tmod t507 t508) t509 true t502 t503 t504) else ((impl_SeesEach.f k t502 t503 t504 t505 t505).bind fun t515 => (laws_FnSights.j0 k t505 (Int.tmod t507 t508) t509 (!t515) t502 t503 t504))))) else (laws_FnSights.j0 k t505 (Int.tmod t507 t508) t509 true t502 t503 t504)))))) = some r := H
  have A6 := Aside0.mk A60
  clear A60
  by_cases c7 : t508 = 0
  ·rw [if_pos c7] at H
   exact absurd H (by simp)
  ·rw [if_neg c7] at H
   have c7b0 : (t508 == 0) = false := beq_eq_false_iff_ne.mpr c7
   have c7b1 : (t508 != 0) = true := bne_iff_ne.mpr c7
   replace H := Option.bind_eq_some_iff.mp H
   obtain ⟨t509, A80, H⟩ := H
   replace H : (if (t509.length : Int) = 0 then (laws_FnSights.j0 k t505 (Int.tmod t507 t508) t509 true t502 t503 t504) else ((impl_IsGuarded.f k t502 t503 t504 t509).bind fun t512 => (if t512 = true then ((impl_SeesEach.f k t502 t503 t504 t505 (Int.tmod t507 t508)).bind fun t513 => ((impl_SeesEach.f k t502 t503 t504 (Int.tmod t507 t508) t505).bind fun t514 => (if (t513 != t514) = true then (laws_FnSights.j0 k t505 (Int.tmod t507 t508) t509 true t502 t503 t504) else ((impl_SeesEach.f k t502 t503 t504 t505 t505).bind fun t515 => (laws_FnSights.j0 k t505 (Int.tmod t507 t508) t509 (!t515) t502 t503 t504))))) else (laws_FnSights.j0 k t505 (Int.tmod t507 t508) t509 true t502 t503 t504)))) = some r := H
   have A8 := Aside0.mk A80
   clear A80
   have HC9 := Aside0.mk H
   clear H
   go_enter Try.func11, Try.ntmps11
   try go_wp2_with ((with_reducible refine gw_ ?_); first | (refine gl_ 11 Try.func36 #[.slice A0 l0.length c0] ?_; (with_reducible refine (laws_big.calls _ _ l0 false _ ?side1 ?side2 A2.out).mono ?_); (case side1 => exact kc_ HR0.out); (case side2 => exact HC0.out); rintro e w' ⟨rfl, ⟨nd, rfl⟩⟩; refine ⟨_, rfl, ?_⟩) | (refine gl_ 14 Try.func37 #[.slice A0 l0.length c0] ?_; (with_reducible refine (spec_DrawOpenCell.calls k _ _ l0 t502 t503 t504 t505 _ ?side1 ?side2 A4.out).mono ?_); (case side1 => exact kc_ HR0.out); (case side2 => exact HC0.out); rintro e w10 ⟨rfl, hb⟩; refine ⟨_, rfl, ?_⟩; replace HB := HB.s0 hb; (try clear hb)) | (refine box_ (N := 3) (cs := #[.int .i64 0, .int .i64 0, .int .i64 0]) (t := 30) ?_; intro gb506 hg w11 hbox hb; have BK506 := Aside0.mk (hbox); have GW506 := HB.g0 hg; have GE506 := HB.g0 hg; replace HB := HB.s0 hb; clear hb hbox hg; obtain ⟨hcz12_0, hcz12_1, hcz12_2⟩ := cz3_ BK506.out; obtain ⟨hfz12_0, hfz12_1, hfz12_2⟩ := fz3_ BK506.out))
   have n0_ : Aside0 ((((w11.setCell ⟨gb506, 0, none⟩ (.int .i64 t502)).setCell ⟨gb506, 1, none⟩ (.int .i64 t503)).setCell ⟨gb506, 2, none⟩ (.int .i64 t504)).heap[gb506]? = some (.cells #[.int .i64 t502, .int .i64 t503, .int .i64 t504] 30 (0, 0))) := ⟨bq3_ BK506.out⟩
   have n1_ : Aside0 (Below w.heap.size w (((w11.setCell ⟨gb506, 0, none⟩ (.int .i64 t502)).setCell ⟨gb506, 1, none⟩ (.int .i64 t503)).setCell ⟨gb506, 2, none⟩ (.int .i64 t504))) := ⟨hb1_ HB.out GE506.out⟩
   (try clear BK506)
   (try clear HB)
   generalize (((w11.setCell ⟨gb506, 0, none⟩ (.int .i64 t502)).setCell ⟨gb506, 1, none⟩ (.int .i64 t503)).setCell ⟨gb506, 2, none⟩ (.int .i64 t504)) = w13 at n0_ n1_ ⊢
   have BK506 := n0_
   have HB := n1_
   clear n0_ n1_
   replace BK506 := Aside0.mk (blk_drew BK506.out)
   replace HB := Aside0.mk (below_drew1 HB.out)
   refine start_ (n := 7) (S := fun w' => w'.cell? ⟨gb506, 0, none⟩ = some (.int .i64 t502) ∧ w'.cell? ⟨gb506, 1, none⟩ = some (.int .i64 t503) ∧ w'.cell? ⟨gb506, 2, none⟩ = some (.int .i64 t504)) (ds := []) #[false, false, false, false, false, false, false] (by kernel_rfl) rfl rfl ⟨BK506.c 0, BK506.c 1, BK506.c 2⟩ (fun hHeld => ?_)
   generalize w13.drew = w14 at BK506 HB hHeld ⊢
   refine pure_ (i := 0) (N := some 17) (v := ?_) (a' := ?_) #[true, false, false, false, false, false, false] rfl rfl (by kernel_rfl) (fun _ _ _ h => h) (Or.inl ⟨by rfl, ?_⟩) ?_ ?_
   rotate_left
   ·intro w'
    go_simp
    with_reducible rfl
   rotate_left
   ·simp only [Act.put, List.setIfInBounds_toArray, List.set_cons_zero, List.set_cons_succ, i64_w, i32_w]
    rfl
   refine pure_ (i := 2) (N := some 19) (v := ?_) (a' := ?_) #[true, false, true, false, false, false, false] rfl rfl (by kernel_rfl) (fun _ _ _ h => h) (Or.inl ⟨by rfl, ?_⟩) ?_ ?_
   rotate_left
   ·intro w'
    go_simp
    with_reducible rfl
   rotate_left
   ·simp only [Act.put, List.setIfInBounds_toArray, List.set_cons_zero, List.set_cons_succ, i64_w, i32_w]
    rfl
   refine take_ (i := 3) (N := some 20) (v := ?_) (a' := ?_) #[true, false, true, true, false, false, false] rfl rfl (by kernel_rfl) (fun _ _ _ h => h) (Or.inl ⟨by rfl, ?_⟩) hHeld ?_ ?_
   rotate_left
   ·rintro w' ⟨s0, s1, s2⟩
    go_simp
    with_reducible rfl
   rotate_left
   ·simp only [Act.put, List.setIfInBounds_toArray, List.set_cons_zero, List.set_cons_succ, i64_w, i32_w]
    rfl
   refine one_ (i := 1) (N := some 18) #[true, true, true, true, false, false, false] rfl rfl (by kernel_rfl) (by decide) (fun K hK => ?_)
   refine gq_ Try.func38 #[.slice A0 l0.length c0, .int .i64 0] ?_
   with_reducible refine (laws_at.calls _ _ l0 0 t507 _ ?side1 ?side2 A5.out).mono ?_
   (case side1 => repeat (first | exact (Kd.C_below HR0.out HB.out) | (with_reducible refine Kd.C_alloc ?_ _) | (with_reducible refine Kd.C_drewN ?_ _) | (with_reducible refine Kd.C_drew ?_)))
   (case side2 => exact HC0.out)
   rintro e w' ⟨rfl, ⟨nd, rfl⟩⟩
   refine ⟨_, rfl, ?_⟩
   refine hK.out _ _ ⟨BK506.c 0, BK506.c 1, BK506.c 2⟩ (fun hHeld => ?_)
   clear hK K
   refine nm_ ?_
   refine one_ (i := 4) (N := some 21) #[true, true, true, true, true, false, false] rfl rfl (by kernel_rfl) (by decide) (fun K hK => ?_)
   refine gq_ Try.func39 #[.agg #[.int .i64 t502, .int .i64 t503]] ?_
   with_reducible refine (spec_CountCells.calls t502 t503 t508 _ A6.out).mono ?_
   rintro e w15 ⟨rfl, hb⟩
   refine ⟨_, rfl, ?_⟩
   replace BK506 := BK506.bb hb
   replace HB := HB.s1 GE506 hb
   skip
   (try clear hb2)
   (try clear hk)
   (try clear hi)
   refine hK.out _ _ ⟨BK506.c 0, BK506.c 1, BK506.c 2⟩ (fun hHeld => ?_)
   clear hK K
   refine nm_ ?_
   refine pure_ (i := 5) (N := some 22) (v := ?_) (a' := ?_) #[true, true, true, true, true, true, false] rfl rfl (by kernel_rfl) (fun _ _ _ h => h) (Or.inl ⟨by rfl, ?_⟩) ?_ ?_
   rotate_left
   ·intro w'
    go_simp
    with_reducible rfl
   rotate_left
   ·simp only [Act.put, List.setIfInBounds_toArray, List.set_cons_zero, List.set_cons_succ, i64_w, i32_w]
    rfl
   refine pure_ (i := 6) (N := some 5) (v := ?_) (a' := ?_) #[true, true, true, true, true, true, true] rfl rfl (by kernel_rfl) (fun _ _ _ h => h) (Or.inl ⟨by rfl, ?_⟩) ?_ ?_
   rotate_left
   ·intro w'
    go_simp
    with_reducible rfl
   rotate_left
   ·simp only [Act.put, List.setIfInBounds_toArray, List.set_cons_zero, List.set_cons_succ, i64_w, i32_w]
    rfl
   refine done_ (by kernel_rfl) ?_
   obtain ⟨hcz16_0, hcz16_1, hcz16_2⟩ := cz3_ BK506.out
   obtain ⟨hfz16_0, hfz16_1, hfz16_2⟩ := fz3_ BK506.out
   go_upto_region 6 with ((with_reducible refine gw_ ?_); first | (refine gl_ 24 Try.func35 #[.agg #[.int .i64 t502, .int .i64 t503, .int .i64 t504]] ?_; (with_reducible refine (impl_FewestGuards.calls k t502 t503 t504 t509 _ A8.out).mono ?_); rintro e w17 ⟨v510, rfl, ho0, hb⟩; refine ⟨_, rfl, ?_⟩; have HO511 := Aside0.mk (Kd.R_lower ho0 (below_size (hb1_ HB.out GE506.out))); replace BK506 := BK506.bb hb; replace HB := HB.s1 GE506 hb; (try clear hb); (try clear ho0)))
   (try simp only [Act.put, List.setIfInBounds_toArray, List.set_cons_zero, List.set_cons_succ])
   go_cut [51] (fun v51 wc => ∃ (kq : Nat) (x51_8 : Bool), v51 = .bool x51_8 ∧ Aside0 (laws_FnSights.j0 kq t505 (Int.tmod t507 t508) t509 x51_8 t502 t503 t504 = some r) ∧ Aside0 (kq ≤ k) ∧ Aside0 (Kd.R (Kd.int .i64) 3 wc w.heap.size (fun _ => True) v510 t509) ∧ Aside0 (wc.heap[gb506]? = some (.cells #[.int .i64 t502, .int .i64 t503, .int .i64 t504] 30 (0, 0))) ∧ Aside0 (Below w.heap.size w wc))
   case first =>
    have H := HC9.out
    clear HC9
    by_cases c18 : (t509.length : Int) = 0
    ·rw [if_pos c18] at H
     have c18b0 : ((t509.length : Int) == 0) = true := beq_iff_eq.mpr c18
     have c18b1 : ((t509.length : Int) != 0) = false := bne_eq_false_iff_eq.mpr c18
     clear c18
     (first | rw [c18b0] | (simp only [i64_w, i32_w]; rw [c18b0]) | skip)
     have H' := Aside0.mk H
     clear H
     try go_wp2
     replace HO511 := Aside0.mk (Kd.R_drew HO511.out)
     replace BK506 := Aside0.mk (blk_drew BK506.out)
     replace HB := Aside0.mk (below_drew1 HB.out)
     obtain ⟨Ao20, co20, eo20⟩ := Kd.R_slice HO511.out
     (first | subst eo20 | (injection eo20 with f1_ f2_ f3_; have f4_ := f1_.symm; have f5_ := f3_.symm; clear f1_ f2_ f3_; subst f4_; subst f5_))
     refine start_ (n := 27) (S := fun w' => True) (ds := []) #[false, false, false, false, false, false, false, false, false, false, false, false, false, false, false, false, false, false, false, false, false, false, false, false, false, false, false] (by kernel_rfl) rfl rfl trivial (fun hHeld => ?_); refine with_tabW laws_FnSights.tab6 laws_FnSights.bits6 (fun HT_ HW_ => ?_)
     generalize w17.drew = w19 at HO511 BK506 HB hHeld ⊢
     refine pv_ (i := 0) (N := some 25) HT_.out ?_
     refine pv_ (i := 1) (N := some 26) HT_.out ?_
     refine pv_ (i := 2) (N := some 27) HT_.out ?_
     refine pv_ (i := 3) (N := some 28) HT_.out ?_
     refine pu_ (i := 4) (N := some 29) HT_.out ?_
     refine pu_ (i := 5) (N := some 30) HT_.out ?_
     refine pu_ (i := 6) (N := some 31) HT_.out ?_
     refine pu_ (i := 7) (N := some 32) HT_.out ?_
     refine pv_ (i := 8) (N := some 33) HT_.out ?_
     refine pv_ (i := 9) (N := some 34) HT_.out ?_
     refine pu_ (i := 10) (N := some 35) HT_.out ?_
     refine pu_ (i := 11) (N := some 36) HT_.out ?_
     refine pu_ (i := 12) (N := some 37) HT_.out ?_
     refine pu_ (i := 13) (N := some 38) HT_.out ?_
     refine pu_ (i := 14) (N := some 39) HT_.out ?_
     refine pu_ (i := 15) (N := some 40) HT_.out ?_
     refine pu_ (i := 16) (N := some 41) HT_.out ?_
     refine pu_ (i := 17) (N := some 42) HT_.out ?_
     refine pu_ (i := 18) (N := some 43) HT_.out ?_
     refine pv_ (i := 19) (N := some 44) HT_.out ?_
     refine pv_ (i := 20) (N := some 45) HT_.out ?_
     refine pu_ (i := 21) (N := some 46) HT_.out ?_
     refine pu_ (i := 22) (N := some 47) HT_.out ?_
     refine pu_ (i := 23) (N := some 48) HT_.out ?_
     refine pu_ (i := 24) (N := some 49) HT_.out ?_
     refine pu_ (i := 25) (N := some 50) HT_.out ?_
     refine pv_ (i := 26) (N := some 51) HT_.out ?_
     refine done_ (done_of HT_.out (by kernel_rfl)) ?_
     try go_wp2
     go_meet
     case rel => exact ⟨_, (true), (by first | rfl | (simp; done) | (simp [*]; done)), H', ⟨by first | omega | exact Nat.le_refl _⟩, ⟨kr_ HO511.out⟩, ⟨bk_ BK506.out⟩, ⟨hb1_ HB.out GE506.out⟩⟩
    ·rw [if_neg c18] at H
     have c18b0 : ((t509.length : Int) == 0) = false := beq_eq_false_iff_ne.mpr c18
     have c18b1 : ((t509.length : Int) != 0) = true := bne_iff_ne.mpr c18
     have c18b2 : ¬ (t509 = []) := fun h_ => c18 (by rw [h_]; rfl)
     (first | rw [c18b0] | (simp only [i64_w, i32_w]; rw [c18b0]) | skip)
     replace H := Option.bind_eq_some_iff.mp H
     obtain ⟨t512, A210, H⟩ := H
     replace H : (if t512 = true then ((impl_SeesEach.f k t502 t503 t504 t505 (Int.tmod t507 t508)).bind fun t513 => ((impl_SeesEach.f k t502 t503 t504 (Int.tmod t507 t508) t505).bind fun t514 => (if (t513 != t514) = true then (laws_FnSights.j0 k t505 (Int.tmod t507 t508) t509 true t502 t503 t504) else ((impl_SeesEach.f k t502 t503 t504 t505 t505).bind fun t515 => (laws_FnSights.j0 k t505 (Int.tmod t507 t508) t509 (!t515) t502 t503 t504))))) else (laws_FnSights.j0 k t505 (Int.tmod t507 t508) t509 true t502 t503 t504)) = some r := H
     have A21 := Aside0.mk A210
     clear A210
     by_cases c22 : t512 = true
     ·subst c22
      have H1 : ((impl_SeesEach.f k t502 t503 t504 t505 (Int.tmod t507 t508)).bind fun t513 => ((impl_SeesEach.f k t502 t503 t504 (Int.tmod t507 t508) t505).bind fun t514 => (if (t513 != t514) = true then (laws_FnSights.j0 k t505 (Int.tmod t507 t508) t509 true t502 t503 t504) else ((impl_SeesEach.f k t502 t503 t504 t505 t505).bind fun t515 => (laws_FnSights.j0 k t505 (Int.tmod t507 t508) t509 (!t515) t502 t503 t504))))) = some r := by rw [if_pos rfl] at H; exact H
      clear H
      have H := H1
      clear H1
      replace H := Option.bind_eq_some_iff.mp H
      obtain ⟨t513, A230, H⟩ := H
      replace H : ((impl_SeesEach.f k t502 t503 t504 (Int.tmod t507 t508) t505).bind fun t514 => (if (t513 != t514) = true then (laws_FnSights.j0 k t505 (Int.tmod t507 t508) t509 true t502 t503 t504) else ((impl_SeesEach.f k t502 t503 t504 t505 t505).bind fun t515 => (laws_FnSights.j0 k t505 (Int.tmod t507 t508) t509 (!t515) t502 t503 t504)))) = some r := H
      have A23 := Aside0.mk A230
      clear A230
      replace H := Option.bind_eq_some_iff.mp H
      obtain ⟨t514, A240, H⟩ := H
      replace H : (if (t513 != t514) = true then (laws_FnSights.j0 k t505 (Int.tmod t507 t508) t509 true t502 t503 t504) else ((impl_SeesEach.f k t502 t503 t504 t505 t505).bind fun t515 => (laws_FnSights.j0 k t505 (Int.tmod t507 t508) t509 (!t515) t502 t503 t504))) = some r := H
      have A24 := Aside0.mk A240
      clear A240
      by_cases c25 : (t513 != t514) = true
      ·rw [if_pos c25] at H
       have c25b0 : (t513 != t514) = true := c25
       (try (have c25b1 : decide (t513 = t514) = false := by simpa using c25))
       (try (have c25b2 : (t513 == t514) = false := by simpa using c25))
       (try (have c25b3 : ¬ (t513 = t514) := by simpa using c25))
       clear c25
       have H' := Aside0.mk H
       clear H
       try go_wp2
       replace HO511 := Aside0.mk (Kd.R_drew HO511.out)
       replace BK506 := Aside0.mk (blk_drew BK506.out)
       replace HB := Aside0.mk (below_drew1 HB.out)
       obtain ⟨Ao27, co27, eo27⟩ := Kd.R_slice HO511.out
       (first | subst eo27 | (injection eo27 with f1_ f2_ f3_; have f4_ := f1_.symm; have f5_ := f3_.symm; clear f1_ f2_ f3_; subst f4_; subst f5_))
       refine start_ (n := 27) (S := fun w' => w'.cell? ⟨gb506, 0, none⟩ = some (.int .i64 t502) ∧ w'.cell? ⟨gb506, 1, none⟩ = some (.int .i64 t503) ∧ w'.cell? ⟨gb506, 2, none⟩ = some (.int .i64 t504)) (ds := []) #[false, false, false, false, false, false, false, false, false, false, false, false, false, false, false, false, false, false, false, false, false, false, false, false, false, false, false] (by kernel_rfl) rfl rfl ⟨BK506.c 0, BK506.c 1, BK506.c 2⟩ (fun hHeld => ?_); refine with_tabW laws_FnSights.tab6 laws_FnSights.bits6 (fun HT_ HW_ => ?_)
       generalize w17.drew = w26 at HO511 BK506 HB hHeld ⊢
       refine pv_ (i := 0) (N := some 25) HT_.out ?_
       refine pv_ (i := 1) (N := some 26) HT_.out ?_
       refine pv_ (i := 2) (N := some 27) HT_.out ?_
       refine pv_ (i := 3) (N := some 28) HT_.out ?_
       refine pv_ (i := 5) (N := some 30) HT_.out ?_
       refine tv3_ (i := 4) (N := some 29) HT_.out HW_.out hHeld ?_
       refine ov_ (i := 6) (N := some 31) HT_.out (fun K hK => ?_)
       refine gq_ Try.func30 #[.agg #[.int .i64 t502, .int .i64 t503, .int .i64 t504], .slice Ao27 t509.length co27] ?_
       with_reducible refine (impl_IsGuarded.calls k t502 t503 t504 _ _ t509 true _ ?side1 ?side2 A21.out).mono ?_
       (case side1 => repeat (first | exact (Kd.R_reads' HO511.out).2.2 | (with_reducible refine Kd.C_alloc ?_ _) | (with_reducible refine Kd.C_drewN ?_ _) | (with_reducible refine Kd.C_drew ?_)))
       (case side2 => exact (Kd.R_reads' HO511.out).2.1)
       rintro e w28 ⟨rfl, hb⟩
       refine ⟨_, rfl, ?_⟩
       replace HO511 := HO511.kb hb
       replace BK506 := BK506.bb hb
       replace HB := HB.s1 GE506 hb
       skip
       (try clear hb2)
       (try clear hk)
       (try clear hi)
       refine hK.out _ _ ⟨BK506.c 0, BK506.c 1, BK506.c 2⟩ (fun hHeld => ?_)
       clear hK K
       refine nm_ ?_
       refine pv_ (i := 7) (N := some 32) HT_.out ?_
       refine pv_ (i := 8) (N := some 33) HT_.out ?_
       refine pv_ (i := 9) (N := some 34) HT_.out ?_
       refine pv_ (i := 11) (N := some 36) HT_.out ?_
       refine pv_ (i := 12) (N := some 37) HT_.out ?_
       refine pv_ (i := 15) (N := some 40) HT_.out ?_
       refine pv_ (i := 16) (N := some 41) HT_.out ?_
       refine tv3_ (i := 10) (N := some 35) HT_.out HW_.out hHeld ?_
       refine tv3_ (i := 14) (N := some 39) HT_.out HW_.out hHeld ?_
       refine ov_ (i := 13) (N := some 38) HT_.out (fun K hK => ?_)
       refine gq_ Try.func28 #[.agg #[.int .i64 t502, .int .i64 t503, .int .i64 t504], .int .i64 t505, .int .i64 (Int.tmod t507 t508)] ?_
       with_reducible refine (impl_SeesEach.calls k t502 t503 t504 t505 (Int.tmod t507 t508) t513 _ A23.out).mono ?_
       rintro e w29 ⟨rfl, hb⟩
       refine ⟨_, rfl, ?_⟩
       replace HO511 := HO511.kb hb
       replace BK506 := BK506.bb hb
       replace HB := HB.s1 GE506 hb
       skip
       (try clear hb2)
       (try clear hk)
       (try clear hi)
       refine hK.out _ _ ⟨BK506.c 0, BK506.c 1, BK506.c 2⟩ (fun hHeld => ?_)
       clear hK K
       refine nm_ ?_
       refine ov_ (i := 17) (N := some 42) HT_.out (fun K hK => ?_)
       refine gq_ Try.func28 #[.agg #[.int .i64 t502, .int .i64 t503, .int .i64 t504], .int .i64 (Int.tmod t507 t508), .int .i64 t505] ?_
       with_reducible refine (impl_SeesEach.calls k t502 t503 t504 (Int.tmod t507 t508) t505 t514 _ A24.out).mono ?_
       rintro e w30 ⟨rfl, hb⟩
       refine ⟨_, rfl, ?_⟩
       replace HO511 := HO511.kb hb
       replace BK506 := BK506.bb hb
       replace HB := HB.s1 GE506 hb
       skip
       (try clear hb2)
       (try clear hk)
       (try clear hi)
       refine hK.out _ _ ⟨BK506.c 0, BK506.c 1, BK506.c 2⟩ (fun hHeld => ?_)
       clear hK K
       refine nm_ ?_
       refine pv_ (i := 18) (N := some 43) HT_.out ?_
       refine pv_ (i := 19) (N := some 44) HT_.out ?_
       refine pv_ (i := 20) (N := some 45) HT_.out ?_
       refine pu_ (i := 21) (N := some 46) HT_.out ?_
       refine pu_ (i := 22) (N := some 47) HT_.out ?_
       refine pu_ (i := 23) (N := some 48) HT_.out ?_
       refine pu_ (i := 24) (N := some 49) HT_.out ?_
       refine pu_ (i := 25) (N := some 50) HT_.out ?_
       refine pv_ (i := 26) (N := some 51) HT_.out ?_
       refine done_ (done_of HT_.out (by kernel_rfl)) ?_
       try go_wp2
       go_meet
       case rel => exact ⟨_, (true), (by first | rfl | (simp; done) | (simp [*]; done)), H', ⟨by first | omega | exact Nat.le_refl _⟩, ⟨kr_ HO511.out⟩, ⟨bk_ BK506.out⟩, ⟨hb1_ HB.out GE506.out⟩⟩
      ·rw [if_neg c25] at H
       have c25b0 : (t513 != t514) = false := by simpa using c25
       (try (have c25b1 : decide (t513 = t514) = true := by simpa using c25))
       (try (have c25b2 : (t513 == t514) = true := by simpa using c25))
       clear c25
       replace H := Option.bind_eq_some_iff.mp H
       obtain ⟨t515, A310, H⟩ := H
       replace H : (laws_FnSights.j0 k t505 (Int.tmod t507 t508) t509 (!t515) t502 t503 t504) = some r := H
       have A31 := Aside0.mk A310
       clear A310
       have H' := Aside0.mk H
       clear H
       try go_wp2
       replace HO511 := Aside0.mk (Kd.R_drew HO511.out)
       replace BK506 := Aside0.mk (blk_drew BK506.out)
       replace HB := Aside0.mk (below_drew1 HB.out)
       obtain ⟨Ao33, co33, eo33⟩ := Kd.R_slice HO511.out
       (first | subst eo33 | (injection eo33 with f1_ f2_ f3_; have f4_ := f1_.symm; have f5_ := f3_.symm; clear f1_ f2_ f3_; subst f4_; subst f5_))
       refine start_ (n := 27) (S := fun w' => w'.cell? ⟨gb506, 0, none⟩ = some (.int .i64 t502) ∧ w'.cell? ⟨gb506, 1, none⟩ = some (.int .i64 t503) ∧ w'.cell? ⟨gb506, 2, none⟩ = some (.int .i64 t504)) (ds := []) #[false, false, false, false, false, false, false, false, false, false, false, false, false, false, false, false, false, false, false, false, false, false, false, false, false, false, false] (by kernel_rfl) rfl rfl ⟨BK506.c 0, BK506.c 1, BK506.c 2⟩ (fun hHeld => ?_); refine with_tabW laws_FnSights.tab6 laws_FnSights.bits6 (fun HT_ HW_ => ?_)
       generalize w17.drew = w32 at HO511 BK506 HB hHeld ⊢
       refine pv_ (i := 0) (N := some 25) HT_.out ?_
       refine pv_ (i := 1) (N := some 26) HT_.out ?_
       refine pv_ (i := 2) (N := some 27) HT_.out ?_
       refine pv_ (i := 3) (N := some 28) HT_.out ?_
       refine pv_ (i := 5) (N := some 30) HT_.out ?_
       refine tv3_ (i := 4) (N := some 29) HT_.out HW_.out hHeld ?_
       refine ov_ (i := 6) (N := some 31) HT_.out (fun K hK => ?_)
       refine gq_ Try.func30 #[.agg #[.int .i64 t502, .int .i64 t503, .int .i64 t504], .slice Ao33 t509.length co33] ?_
       with_reducible refine (impl_IsGuarded.calls k t502 t503 t504 _ _ t509 true _ ?side1 ?side2 A21.out).mono ?_
       (case side1 => repeat (first | exact (Kd.R_reads' HO511.out).2.2 | (with_reducible refine Kd.C_alloc ?_ _) | (with_reducible refine Kd.C_drewN ?_ _) | (with_reducible refine Kd.C_drew ?_)))
       (case side2 => exact (Kd.R_reads' HO511.out).2.1)
       rintro e w34 ⟨rfl, hb⟩
       refine ⟨_, rfl, ?_⟩
       replace HO511 := HO511.kb hb
       replace BK506 := BK506.bb hb
       replace HB := HB.s1 GE506 hb
       skip
       (try clear hb2)
       (try clear hk)
       (try clear hi)
       refine hK.out _ _ ⟨BK506.c 0, BK506.c 1, BK506.c 2⟩ (fun hHeld => ?_)
       clear hK K
       refine nm_ ?_
       refine pv_ (i := 7) (N := some 32) HT_.out ?_
       refine pv_ (i := 8) (N := some 33) HT_.out ?_
       refine pv_ (i := 9) (N := some 34) HT_.out ?_
       refine pv_ (i := 11) (N := some 36) HT_.out ?_
       refine pv_ (i := 12) (N := some 37) HT_.out ?_
       refine pv_ (i := 15) (N := some 40) HT_.out ?_
       refine pv_ (i := 16) (N := some 41) HT_.out ?_
       refine tv3_ (i := 10) (N := some 35) HT_.out HW_.out hHeld ?_
       refine tv3_ (i := 14) (N := some 39) HT_.out HW_.out hHeld ?_
       refine ov_ (i := 13) (N := some 38) HT_.out (fun K hK => ?_)
       refine gq_ Try.func28 #[.agg #[.int .i64 t502, .int .i64 t503, .int .i64 t504], .int .i64 t505, .int .i64 (Int.tmod t507 t508)] ?_
       with_reducible refine (impl_SeesEach.calls k t502 t503 t504 t505 (Int.tmod t507 t508) t513 _ A23.out).mono ?_
       rintro e w35 ⟨rfl, hb⟩
       refine ⟨_, rfl, ?_⟩
       replace HO511 := HO511.kb hb
       replace BK506 := BK506.bb hb
       replace HB := HB.s1 GE506 hb
       skip
       (try clear hb2)
       (try clear hk)
       (try clear hi)
       refine hK.out _ _ ⟨BK506.c 0, BK506.c 1, BK506.c 2⟩ (fun hHeld => ?_)
       clear hK K
       refine nm_ ?_
       refine ov_ (i := 17) (N := some 42) HT_.out (fun K hK => ?_)
       refine gq_ Try.func28 #[.agg #[.int .i64 t502, .int .i64 t503, .int .i64 t504], .int .i64 (Int.tmod t507 t508), .int .i64 t505] ?_
       with_reducible refine (impl_SeesEach.calls k t502 t503 t504 (Int.tmod t507 t508) t505 t514 _ A24.out).mono ?_
       rintro e w36 ⟨rfl, hb⟩
       refine ⟨_, rfl, ?_⟩
       replace HO511 := HO511.kb hb
       replace BK506 := BK506.bb hb
       replace HB := HB.s1 GE506 hb
       skip
       (try clear hb2)
       (try clear hk)
       (try clear hi)
       refine hK.out _ _ ⟨BK506.c 0, BK506.c 1, BK506.c 2⟩ (fun hHeld => ?_)
       clear hK K
       refine nm_ ?_
       refine pv_ (i := 18) (N := some 43) HT_.out ?_
       refine pv_ (i := 19) (N := some 44) HT_.out ?_
       refine pv_ (i := 20) (N := some 45) HT_.out ?_
       refine pv_ (i := 22) (N := some 47) HT_.out ?_
       refine pv_ (i := 23) (N := some 48) HT_.out ?_
       refine tv3_ (i := 21) (N := some 46) HT_.out HW_.out hHeld ?_
       refine ov_ (i := 24) (N := some 49) HT_.out (fun K hK => ?_)
       refine gq_ Try.func28 #[.agg #[.int .i64 t502, .int .i64 t503, .int .i64 t504], .int .i64 t505, .int .i64 t505] ?_
       with_reducible refine (impl_SeesEach.calls k t502 t503 t504 t505 t505 t515 _ A31.out).mono ?_
       rintro e w37 ⟨rfl, hb⟩
       refine ⟨_, rfl, ?_⟩
       replace HO511 := HO511.kb hb
       replace BK506 := BK506.bb hb
       replace HB := HB.s1 GE506 hb
       skip
       (try clear hb2)
       (try clear hk)
       (try clear hi)
       refine hK.out _ _ ⟨BK506.c 0, BK506.c 1, BK506.c 2⟩ (fun hHeld => ?_)
       clear hK K
       refine nm_ ?_
       refine pv_ (i := 25) (N := some 50) HT_.out ?_
       refine pv_ (i := 26) (N := some 51) HT_.out ?_
       refine done_ (done_of HT_.out (by kernel_rfl)) ?_
       try go_wp2
       go_meet
       case rel => exact ⟨_, (!t515), (by first | rfl | (simp; done) | (simp [*]; done)), H', ⟨by first | omega | exact Nat.le_refl _⟩, ⟨kr_ HO511.out⟩, ⟨bk_ BK506.out⟩, ⟨hb1_ HB.out GE506.out⟩⟩
     ·replace c22 := Bool.eq_false_iff.mpr c22
      subst c22
      have H1 : (laws_FnSights.j0 k t505 (Int.tmod t507 t508) t509 true t502 t503 t504) = some r := by rw [if_neg (show ¬ (false = true) by decide)] at H; exact H
      clear H
      have H := H1
      clear H1
      have H' := Aside0.mk H
      clear H
      try go_wp2
      replace HO511 := Aside0.mk (Kd.R_drew HO511.out)
      replace BK506 := Aside0.mk (blk_drew BK506.out)
      replace HB := Aside0.mk (below_drew1 HB.out)
      obtain ⟨Ao39, co39, eo39⟩ := Kd.R_slice HO511.out
      (first | subst eo39 | (injection eo39 with f1_ f2_ f3_; have f4_ := f1_.symm; have f5_ := f3_.symm; clear f1_ f2_ f3_; subst f4_; subst f5_))
      refine start_ (n := 27) (S := fun w' => w'.cell? ⟨gb506, 0, none⟩ = some (.int .i64 t502) ∧ w'.cell? ⟨gb506, 1, none⟩ = some (.int .i64 t503) ∧ w'.cell? ⟨gb506, 2, none⟩ = some (.int .i64 t504)) (ds := []) #[false, false, false, false, false, false, false, false, false, false, false, false, false, false, false, false, false, false, false, false, false, false, false, false, false, false, false] (by kernel_rfl) rfl rfl ⟨BK506.c 0, BK506.c 1, BK506.c 2⟩ (fun hHeld => ?_); refine with_tabW laws_FnSights.tab6 laws_FnSights.bits6 (fun HT_ HW_ => ?_)
      generalize w17.drew = w38 at HO511 BK506 HB hHeld ⊢
      refine pv_ (i := 0) (N := some 25) HT_.out ?_
      refine pv_ (i := 1) (N := some 26) HT_.out ?_
      refine pv_ (i := 2) (N := some 27) HT_.out ?_
      refine pv_ (i := 3) (N := some 28) HT_.out ?_
      refine pv_ (i := 5) (N := some 30) HT_.out ?_
      refine tv3_ (i := 4) (N := some 29) HT_.out HW_.out hHeld ?_
      refine ov_ (i := 6) (N := some 31) HT_.out (fun K hK => ?_)
      refine gq_ Try.func30 #[.agg #[.int .i64 t502, .int .i64 t503, .int .i64 t504], .slice Ao39 t509.length co39] ?_
      with_reducible refine (impl_IsGuarded.calls k t502 t503 t504 _ _ t509 false _ ?side1 ?side2 A21.out).mono ?_
      (case side1 => repeat (first | exact (Kd.R_reads' HO511.out).2.2 | (with_reducible refine Kd.C_alloc ?_ _) | (with_reducible refine Kd.C_drewN ?_ _) | (with_reducible refine Kd.C_drew ?_)))
      (case side2 => exact (Kd.R_reads' HO511.out).2.1)
      rintro e w40 ⟨rfl, hb⟩
      refine ⟨_, rfl, ?_⟩
      replace HO511 := HO511.kb hb
      replace BK506 := BK506.bb hb
      replace HB := HB.s1 GE506 hb
      skip
      (try clear hb2)
      (try clear hk)
      (try clear hi)
      refine hK.out _ _ ⟨BK506.c 0, BK506.c 1, BK506.c 2⟩ (fun hHeld => ?_)
      clear hK K
      refine nm_ ?_
      refine pv_ (i := 7) (N := some 32) HT_.out ?_
      refine pv_ (i := 8) (N := some 33) HT_.out ?_
      refine pv_ (i := 9) (N := some 34) HT_.out ?_
      refine pu_ (i := 10) (N := some 35) HT_.out ?_
      refine pu_ (i := 11) (N := some 36) HT_.out ?_
      refine pu_ (i := 12) (N := some 37) HT_.out ?_
      refine pu_ (i := 13) (N := some 38) HT_.out ?_
      refine pu_ (i := 14) (N := some 39) HT_.out ?_
      refine pu_ (i := 15) (N := some 40) HT_.out ?_
      refine pu_ (i := 16) (N := some 41) HT_.out ?_
      refine pu_ (i := 17) (N := some 42) HT_.out ?_
      refine pu_ (i := 18) (N := some 43) HT_.out ?_
      refine pv_ (i := 19) (N := some 44) HT_.out ?_
      refine pv_ (i := 20) (N := some 45) HT_.out ?_
      refine pu_ (i := 21) (N := some 46) HT_.out ?_
      refine pu_ (i := 22) (N := some 47) HT_.out ?_
      refine pu_ (i := 23) (N := some 48) HT_.out ?_
      refine pu_ (i := 24) (N := some 49) HT_.out ?_
      refine pu_ (i := 25) (N := some 50) HT_.out ?_
      refine pv_ (i := 26) (N := some 51) HT_.out ?_
      refine done_ (done_of HT_.out (by kernel_rfl)) ?_
      try go_wp2
      go_meet
      case rel => exact ⟨_, (true), (by first | rfl | (simp; done) | (simp [*]; done)), H', ⟨by first | omega | exact Nat.le_refl _⟩, ⟨kr_ HO511.out⟩, ⟨bk_ BK506.out⟩, ⟨hb1_ HB.out GE506.out⟩⟩
   case rest =>
    clear HC9
    try clear c2
    try clear p2
    try clear c3
    try clear c22
    try clear c25
    try clear c25b0
    try clear c25b1
    try clear c25b2
    try clear c28
    try clear c30
    obtain ⟨kq, x51_8, rfl, HA, HJ8, HO_6, BK506, HB⟩ := hcut
    cases kq with
    | zero => exact absurd HA.out (by simp [laws_FnSights.j0])
    | succ kj8 =>
     have H := HA.out
     clear HA
     simp only [laws_FnSights.j0] at H
     by_cases c41 : x51_8 = true
     ·subst c41
      have H1 : (some false) = some r := by rw [if_pos rfl] at H; exact H
      clear H
      have H := H1
      clear H1
      obtain rfl := Option.some.inj H
      go_wp2
      go_ret
      exact ⟨ex_, hb1_ HB.out GE506.out⟩
     ·replace c41 := Bool.eq_false_iff.mpr c41
      subst c41
      have H1 : (laws_FnSights.l0 kj8 t505 (Int.tmod t507 t508) t509 0 t502 t503 t504) = some r := by rw [if_neg (show ¬ (false = true) by decide)] at H; exact H
      clear H
      have H := H1
      clear H1
      have H' := Aside0.mk H
      clear H
      go_wp2
      go_loopg [7] kj8 (fun kq v7 w' => ∃ (x7_2 : Int), v7 = .int .i64 x7_2 ∧ Aside0 (laws_FnSights.l0 kq t505 (Int.tmod t507 t508) t509 x7_2 t502 t503 t504 = some r) ∧ Aside0 (kq ≤ kj8) ∧ Aside0 (Kd.R (Kd.int .i64) 3 w' w.heap.size (fun _ => True) v510 t509) ∧ Aside0 (w'.heap[gb506]? = some (.cells #[.int .i64 t502, .int .i64 t503, .int .i64 t504] 30 (0, 0))) ∧ Aside0 (Below w.heap.size w w'))
      case atStart => exact ⟨(0), (by first | rfl | (simp; done) | (simp [*]; done)), H', ⟨Nat.le_refl _⟩, ⟨kr_ HO_6.out⟩, ⟨bk_ BK506.out⟩, ⟨hb1_ HB.out GE506.out⟩⟩
      case round =>
       clear H'
       try clear c2
       try clear p2
       try clear c3
       try clear c4
       try clear c22
       try clear c25
       try clear c25b0
       try clear c25b1
       try clear c25b2
       try clear c28
       try clear c30
       try clear c41
       try clear p2
       obtain ⟨x7_2, rfl, HA, HK2, HO_6, BK506, HB⟩ := hrel
       cases gk with
       | zero => exact absurd HA.out (by simp [laws_FnSights.l0])
       | succ k2 =>
        have H := HA.out
        clear HA
        simp only [laws_FnSights.l0] at H
        by_cases c42 : x7_2 < (t509.length : Int)
        ·rw [if_pos c42] at H
         have c42b0 : decide (x7_2 < (t509.length : Int)) = true := decide_eq_true c42
         clear c42
         obtain ⟨y516, hy516⟩ : ∃ y_ : List Int, y_ = (([] : List Int)) := ⟨_, rfl⟩
         replace H : (if 0 ≤ x7_2 then (if x7_2 ≤ (t509.length : Int) then ((some (t509.take (x7_2 : Int).toNat : List Int)).bind fun y519 => (if y516.length + y519.length < 17592186044416 then ((some (y516 ++ y519 : List Int)).bind fun y523 => (if 0 ≤ (wrap64 (x7_2 + 1)) then (if (wrap64 (x7_2 + 1)) ≤ (t509.length : Int) then ((some (t509.drop ((wrap64 (x7_2 + 1)) : Int).toNat : List Int)).bind fun y526 => (if y523.length + y526.length < 17592186044416 then ((impl_IsGuarded.f k2 t502 t503 t504 (y523 ++ y526)).bind fun t533 => (if t533 = true then (some false) else (laws_FnSights.l0 k2 t505 (Int.tmod t507 t508) t509 (wrap64 (x7_2 + 1)) t502 t503 t504))) else (none))) else (none)) else (none))) else (none))) else (none)) else (none)) = some r := by first | (rw [hy516]; with_reducible exact H) | (have H2_ := (Option.bind_some _ _).symm.trans H; rw [hy516]; with_reducible exact H2_) | (have H2_ := (Option.bind_some _ _).symm.trans H; with_reducible exact H2_) | with_reducible exact H | (rw [hy516]; exact H) | exact H
         have Ny516 := Aside0.mk hy516
         clear hy516
         by_cases c43 : 0 ≤ x7_2
         ·rw [if_pos c43] at H
          have c43b0 := eq_true c43
          have c43b1 : decide (0 ≤ x7_2) = true := decide_eq_true c43
          clear c43
          by_cases c44 : x7_2 ≤ (t509.length : Int)
          ·rw [if_pos c44] at H
           have c44b0 := eq_true c44
           have c44b1 : decide (x7_2 ≤ (t509.length : Int)) = true := decide_eq_true c44
           clear c44
           obtain ⟨y519, hy519⟩ : ∃ y_ : List Int, y_ = (t509.take (x7_2 : Int).toNat) := ⟨_, rfl⟩
           replace H : (if y516.length + y519.length < 17592186044416 then ((some (y516 ++ y519 : List Int)).bind fun y523 => (if 0 ≤ (wrap64 (x7_2 + 1)) then (if (wrap64 (x7_2 + 1)) ≤ (t509.length : Int) then ((some (t509.drop ((wrap64 (x7_2 + 1)) : Int).toNat : List Int)).bind fun y526 => (if y523.length + y526.length < 17592186044416 then ((impl_IsGuarded.f k2 t502 t503 t504 (y523 ++ y526)).bind fun t533 => (if t533 = true then (some false) else (laws_FnSights.l0 k2 t505 (Int.tmod t507 t508) t509 (wrap64 (x7_2 + 1)) t502 t503 t504))) else (none))) else (none)) else (none))) else (none)) = some r := by first | (rw [hy519]; with_reducible exact H) | (have H2_ := (Option.bind_some _ _).symm.trans H; rw [hy519]; with_reducible exact H2_) | (have H2_ := (Option.bind_some _ _).symm.trans H; with_reducible exact H2_) | with_reducible exact H | (rw [hy519]; exact H) | exact H
           have Ny519 := Aside0.mk hy519
           clear hy519
           by_cases c45 : y516.length + y519.length < 17592186044416
           ·rw [if_pos c45] at H
            have LMc45 := Aside0.mk c45
            clear c45
            obtain ⟨y523, hy523⟩ : ∃ y_ : List Int, y_ = (y516 ++ y519) := ⟨_, rfl⟩
            replace H : (if 0 ≤ (wrap64 (x7_2 + 1)) then (if (wrap64 (x7_2 + 1)) ≤ (t509.length : Int) then ((some (t509.drop ((wrap64 (x7_2 + 1)) : Int).toNat : List Int)).bind fun y526 => (if y523.length + y526.length < 17592186044416 then ((impl_IsGuarded.f k2 t502 t503 t504 (y523 ++ y526)).bind fun t533 => (if t533 = true then (some false) else (laws_FnSights.l0 k2 t505 (Int.tmod t507 t508) t509 (wrap64 (x7_2 + 1)) t502 t503 t504))) else (none))) else (none)) else (none)) = some r := by first | (rw [hy523]; with_reducible exact H) | (have H2_ := (Option.bind_some _ _).symm.trans H; rw [hy523]; with_reducible exact H2_) | (have H2_ := (Option.bind_some _ _).symm.trans H; with_reducible exact H2_) | with_reducible exact H | (rw [hy523]; exact H) | exact H
            have Ny523 := Aside0.mk hy523
            clear hy523
            obtain ⟨ji46, hji46⟩ : ∃ j_ : Int, (wrap64 (x7_2 + 1)) = j_ := ⟨_, rfl⟩
            replace H : (if 0 ≤ (ji46) then (if (ji46) ≤ (t509.length : Int) then ((some (t509.drop ((ji46) : Int).toNat : List Int)).bind fun y526 => (if y523.length + y526.length < 17592186044416 then ((impl_IsGuarded.f k2 t502 t503 t504 (y523 ++ y526)).bind fun t533 => (if t533 = true then (some false) else (laws_FnSights.l0 k2 t505 (Int.tmod t507 t508) t509 ji46 t502 t503 t504))) else (none))) else (none)) else (none)) = some r := by first | (rw [hji46] at H; exact H) | (simp only [hji46] at H ⊢; exact H)
            have hji46w : (IntKind.i64.wrap (x7_2 + 1)) = ji46 := (i64_w _).trans hji46
            by_cases c47 : 0 ≤ (ji46)
            ·rw [if_pos c47] at H
             have c47b0 := eq_true c47
             have c47b1 : decide (0 ≤ (ji46)) = true := decide_eq_true c47
             clear c47
             by_cases c48 : (ji46) ≤ (t509.length : Int)
             ·rw [if_pos c48] at H
              have c48b0 := eq_true c48
              have c48b1 : decide ((ji46) ≤ (t509.length : Int)) = true := decide_eq_true c48
              clear c48
              obtain ⟨y526, hy526⟩ : ∃ y_ : List Int, y_ = (t509.drop ((ji46) : Int).toNat) := ⟨_, rfl⟩
              replace H : (if y523.length + y526.length < 17592186044416 then ((impl_IsGuarded.f k2 t502 t503 t504 (y523 ++ y526)).bind fun t533 => (if t533 = true then (some false) else (laws_FnSights.l0 k2 t505 (Int.tmod t507 t508) t509 ji46 t502 t503 t504))) else (none)) = some r := by first | (rw [hy526]; with_reducible exact H) | (have H2_ := (Option.bind_some _ _).symm.trans H; rw [hy526]; with_reducible exact H2_) | (have H2_ := (Option.bind_some _ _).symm.trans H; with_reducible exact H2_) | with_reducible exact H | (rw [hy526]; exact H) | exact H
              have Ny526 := Aside0.mk hy526
              clear hy526
              by_cases c49 : y523.length + y526.length < 17592186044416
              ·rw [if_pos c49] at H
               have LMc49 := Aside0.mk c49
               clear c49
               obtain ⟨y530, hy530⟩ : ∃ y_ : List Int, y_ = (y523 ++ y526) := ⟨_, rfl⟩
               replace H : ((impl_IsGuarded.f k2 t502 t503 t504 y530).bind fun t533 => (if t533 = true then (some false) else (laws_FnSights.l0 k2 t505 (Int.tmod t507 t508) t509 ji46 t502 t503 t504))) = some r := by first | (rw [hy530]; with_reducible exact H) | (have H2_ := (Option.bind_some _ _).symm.trans H; rw [hy530]; with_reducible exact H2_) | (have H2_ := (Option.bind_some _ _).symm.trans H; with_reducible exact H2_) | with_reducible exact H | (rw [hy530]; exact H) | exact H
               have Ny530 := Aside0.mk hy530
               clear hy530
               replace H := Option.bind_eq_some_iff.mp H
               obtain ⟨t533, A500, H⟩ := H
               replace H : (if t533 = true then (some false) else (laws_FnSights.l0 k2 t505 (Int.tmod t507 t508) t509 ji46 t502 t503 t504)) = some r := H
               have A50 := Aside0.mk A500
               clear A500
               by_cases c51 : t533 = true
               ·subst c51
                have H1 : (some false) = some r := by rw [if_pos rfl] at H; exact H
                clear H
                have H := H1
                clear H1
                obtain rfl := Option.some.inj H
                obtain ⟨Ao52, co52, eo52⟩ := Kd.R_slice HO_6.out
                subst eo52
                try go_wp2
                replace HO_6 := Aside0.mk (Kd.R_drew HO_6.out)
                replace BK506 := Aside0.mk (blk_drew BK506.out)
                replace HB := Aside0.mk (below_drew1 HB.out)
                have q54 : (x7_2 : Int) ≤ ((t509.length : Int) : Int) := of_decide_eq_true (as_)
                obtain ⟨i054, hi054, _, hsz54, _⟩ := info_parts info3
                have hroom54 : t509.length ≤ co52 := (Kd.R_reads' HO_6.out).2.1
                have hC54 : Kd.C (Kd.int .i64) _ Ao52 t509.length t509 := (Kd.R_reads' HO_6.out).2.2
                have hcut54 := cut_to (P := Try.prog) 26 3 .i64 Try.underlying26 hi054 Ao52 t509.length co52 x7_2 (of_decide_eq_true (as_)) q54 hroom54
                have hr54 := Kd.C_take (m := (x7_2 : Int).toNat) hC54 (by omega)
                have hy54 : y519.length = (x7_2 : Int).toNat := (by rw [Ny519.out, List.length_take]; omega)
                rw [← Ny519.out] at hr54
                rw [← hy54] at hcut54
                have HR522 := Aside0.mk hr54
                have HC522 := Aside0.mk (show y519.length ≤ co52 from by omega)
                clear hr54 hC54 hroom54 hi054 hsz54
                have KY54 := Aside0.mk hy54
                clear hy54
                have KL54 := Aside0.mk (show (x7_2 : Int).toNat ≤ t509.length from by omega)
                replace q54 := eq_true q54
                have q55 : ((ji46) : Int) ≤ ((t509.length : Int) : Int) := of_decide_eq_true (as_)
                obtain ⟨i055, hi055, _, hsz55, _⟩ := info_parts info3
                have hroom55 : t509.length ≤ co52 := (Kd.R_reads' HO_6.out).2.1
                have hC55 : Kd.C (Kd.int .i64) _ Ao52 t509.length t509 := (Kd.R_reads' HO_6.out).2.2
                have q055 : (0 : Int) ≤ ((ji46) : Int) := of_decide_eq_true (as_)
                have hcut55 := cut_from (P := Try.prog) 26 3 .i64 Try.underlying26 hi055 1 hsz55 Ao52 t509.length co52 (ji46) q055 q55
                have hr55 := Kd.C_drop (m := ((ji46) : Int).toNat) (c := co52) hC55 (by omega) hroom55
                obtain ⟨A55, hA55⟩ : ∃ A1, A1 = (if co52 = ((ji46) : Int).toNat then Ao52 else (Ao52 : Option Addr).map (·.add (((ji46) : Int).toNat * 1))) := ⟨_, rfl⟩
                obtain ⟨c55, hc55⟩ : ∃ c1, c1 = co52 - ((ji46) : Int).toNat := ⟨_, rfl⟩
                have hy55 : y526.length = t509.length - ((ji46) : Int).toNat := (by rw [Ny526.out, List.length_drop] <;> omega)
                rw [show (t509).drop ((ji46) : Int).toNat = y526 from Ny526.out.symm] at hr55
                replace hr55 : Kd.C (Kd.int .i64) _ A55 y526.length y526 := (by rw [hA55]; exact hr55)
                rw [← hy55, ← hA55, ← hc55] at hcut55
                have HR529 := Aside0.mk hr55
                have HC529 := Aside0.mk (show y526.length ≤ c55 from by rw [hy55, hc55]; exact Nat.sub_le_sub_right hroom55 _)
                clear hr55 hC55 hroom55 hi055 hsz55 hc55
                have KY55 := Aside0.mk hy55
                have KA55 := Aside0.mk hA55
                clear hy55 hA55
                have KL55 := Aside0.mk (show ((ji46) : Int).toNat ≤ t509.length from by omega)
                replace q55 := eq_true q55
                refine start_ (n := 12) (S := fun w' => w'.cell? ⟨gb506, 0, none⟩ = some (.int .i64 t502) ∧ w'.cell? ⟨gb506, 1, none⟩ = some (.int .i64 t503) ∧ w'.cell? ⟨gb506, 2, none⟩ = some (.int .i64 t504)) (ds := []) #[false, false, false, false, false, false, false, false, false, false, false, false] (by kernel_rfl) rfl rfl ⟨BK506.c 0, BK506.c 1, BK506.c 2⟩ (fun hHeld => ?_); refine with_tabW laws_FnSights.tab11 laws_FnSights.bits11 (fun HT_ HW_ => ?_)
                generalize wr.drew = w53 at HO_6 BK506 HB HR522 HR529 hHeld ⊢
                refine pv_ (i := 2) (N := some 60) HT_.out ?_
                refine pv_ (i := 3) (N := some 61) HT_.out ?_
                refine pv_ (i := 4) (N := some 62) HT_.out ?_
                refine pv_ (i := 6) (N := some 64) HT_.out ?_
                refine pv_ (i := 7) (N := some 65) HT_.out ?_
                refine pv_ (i := 8) (N := some 66) HT_.out ?_
                refine pv_ (i := 9) (N := some 67) HT_.out ?_
                refine tv3_ (i := 0) (N := some 58) HT_.out HW_.out hHeld ?_
                refine ov_ (i := 1) (N := some 59) HT_.out (fun K hK => ?_)
                refine Kd.R_lit_step (Kd.int .i64) _ 3 ?hg (N := 59) ?hd (xs := ([] : List Int)) (inner := []) (ok := fun _ => True) (okp := fun _ => True) ?hr ?hp (fun _ hk => hk) trivial (Below.refl _ _) (Nat.le_refl _) (by simp) ?_; (case hd => rfl); (case hg => rfl); (case hr => first | (go_simp; done) | (go_simp; rfl)); (case hp => exact (Reps.none _ _))
                intro v517 w56 ho57 hb hg_ hnew_
                clear hg_ hnew_
                (first | rw [← Ny516.out] at ho57 | (simp only [Int.reduceToNat] at ho57; rw [← Ny516.out] at ho57))
                have n0_ := Aside0.mk (Kd.R_elder' (kr_ HO_6.out) (Kd.R_base ho57) hb)
                have n1_ := Aside0.mk (Kd.R_lower (Kd.R_new' ho57 (Kd.R_lt (kr_ HO_6.out))) (below_size (hb1_ HB.out GE506.out)))
                have n2_ := BK506.bb hb
                have n3_ := Aside0.mk (Kd.C_below (by repeat (first | (with_reducible exact HR522.out) | (with_reducible refine Kd.C_alloc ?_ _) | (with_reducible refine Kd.C_drewN ?_ _) | (with_reducible refine Kd.C_drew ?_) | exact HR522.out)) hb)
                have n4_ := Aside0.mk (Kd.C_below (by repeat (first | (with_reducible exact HR529.out) | (with_reducible refine Kd.C_alloc ?_ _) | (with_reducible refine Kd.C_drewN ?_ _) | (with_reducible refine Kd.C_drew ?_) | exact HR529.out)) hb)
                have n5_ := HB.s1 GE506 hb
                clear HO_6
                clear BK506
                clear HR522
                clear HR529
                clear HB
                have HO_6 := n0_
                have HO518 := n1_
                have BK506 := n2_
                have HR522 := n3_
                have HR529 := n4_
                have HB := n5_
                clear n0_ n1_ n2_ n3_ n4_ n5_
                clear hb ho57
                refine hK.out _ _ ⟨BK506.c 0, BK506.c 1, BK506.c 2⟩ (fun hHeld => ?_)
                clear hK K
                refine nm_ ?_
                refine ov_ (i := 5) (N := some 63) HT_.out (fun K hK => ?_)
                refine Kd.R_append_rows_step (Kd.int .i64) (w0 := w) w.heap.size (by rfl) (.tmp 59) (.tmp 62) 26 3 (.int .i64 0) 8 rfl Try.underlying26 info3 rfl (by decide) (by omega) v517 y516 y519 _ _ _ (fun k_ => some k_ ≠ (.slice Ao52 t509.length co52 : Value).ownBlock) (fun _ => False) rfl rfl ?aO ?aR (fun _ _ h => h) (fun _ h => h.elim) ?aF ?aB ?aS ?aL ?_
                (case aR => repeat (first | exact (by repeat (first | (with_reducible exact HR522.out) | (with_reducible refine Kd.C_alloc ?_ _) | (with_reducible refine Kd.C_drewN ?_ _) | (with_reducible refine Kd.C_drew ?_) | exact HR522.out)) | (with_reducible refine Kd.C_alloc ?_ _) | (with_reducible refine Kd.C_drewN ?_ _) | (with_reducible refine Kd.C_drew ?_)))
                (case aB => exact (hb1_ HB.out GE506.out))
                (case aF => exact (fun k_ hk => Kd.fresh' (Kd.R_lt (kr_ HO_6.out)) k_ hk))
                (case aO => exact (by (with_reducible repeat (first | apply Kd.R_alloc | apply Kd.R_drewN | apply Kd.R_drew)); exact Kd.R_mono HO518.out (fun _ hk => hk.2)))
                (case aS => exact (below_size (hb1_ HB.out GE506.out)))
                (case aL => have := LMc45.out; omega)
                intro v524 w58 ho hb hg hat
                rw [← Ny523.out] at ho
                have n0_ := Aside0.mk (Kd.R_after (ok := (fun _ => True)) (kr_ HO_6.out) hg hat)
                have n1_ := Aside0.mk (blk_grown (g := gb506) (o := .cells #[.int .i64 t502, .int .i64 t503, .int .i64 t504] 30 (0, 0)) (bk_ BK506.out) hg (Kd.R_ne HO518.out BK506.out (by decide)))
                have n2_ := Aside0.mk (hb)
                have n3_ := Aside0.mk ((show Kd.C (Kd.int .i64) w58 Ao52 y519.length y519 from by rw [Ny519.out]; exact Kd.C_take (m := (x7_2 : Int).toNat) ((Kd.R_reads' (Kd.R_after (ok := (fun _ => True)) (kr_ HO_6.out) hg hat)).2.2) KL54.out))
                have n4_ := Aside0.mk ((show Kd.C (Kd.int .i64) w58 A55 y526.length y526 from by rw [Ny526.out, KA55.out]; exact Kd.C_drop (m := ((ji46) : Int).toNat) (c := co52) ((Kd.R_reads' (Kd.R_after (ok := (fun _ => True)) (kr_ HO_6.out) hg hat)).2.2) KL55.out ((Kd.R_reads' (Kd.R_after (ok := (fun _ => True)) (kr_ HO_6.out) hg hat)).2.1)))
                have n5_ := Aside0.mk (ho)
                clear HO_6
                clear BK506
                clear HB
                clear HR522
                clear HR529
                clear HO518
                have HO_6 := n0_
                have BK506 := n1_
                have HB := n2_
                have HR522 := n3_
                have HR529 := n4_
                have HO525 := n5_
                clear n0_ n1_ n2_ n3_ n4_ n5_
                clear ho hb hg hat
                refine hK.out _ _ ⟨BK506.c 0, BK506.c 1, BK506.c 2⟩ (fun hHeld => ?_)
                clear hK K
                refine nm_ ?_
                refine ov_ (i := 10) (N := some 68) HT_.out (fun K hK => ?_)
                refine Kd.R_append_rows_step (Kd.int .i64) (w0 := w) w.heap.size (by rfl) (.tmp 63) (.tmp 67) 26 3 (.int .i64 0) 8 rfl Try.underlying26 info3 rfl (by decide) (by omega) v524 y523 y526 _ _ _ (fun k_ => some k_ ≠ (.slice Ao52 t509.length co52 : Value).ownBlock) (fun _ => False) rfl rfl ?aO ?aR (fun _ _ h => h) (fun _ h => h.elim) ?aF ?aB ?aS ?aL ?_
                (case aR => repeat (first | exact (by repeat (first | (with_reducible exact HR529.out) | (with_reducible refine Kd.C_alloc ?_ _) | (with_reducible refine Kd.C_drewN ?_ _) | (with_reducible refine Kd.C_drew ?_) | exact HR529.out)) | (with_reducible refine Kd.C_alloc ?_ _) | (with_reducible refine Kd.C_drewN ?_ _) | (with_reducible refine Kd.C_drew ?_)))
                (case aB => exact (hb1_ HB.out GE506.out))
                (case aF => exact (fun k_ hk => Kd.fresh' (Kd.R_lt (kr_ HO_6.out)) k_ hk))
                (case aO => exact (kr_ HO525.out))
                (case aS => exact (below_size (hb1_ HB.out GE506.out)))
                (case aL => have := LMc49.out; omega)
                intro v531 w59 ho hb hg hat
                rw [← Ny530.out] at ho
                have n0_ := Aside0.mk (Kd.R_after (ok := (fun _ => True)) (kr_ HO_6.out) hg hat)
                have n1_ := Aside0.mk (blk_grown (g := gb506) (o := .cells #[.int .i64 t502, .int .i64 t503, .int .i64 t504] 30 (0, 0)) (bk_ BK506.out) hg (Kd.R_ne HO525.out BK506.out (by decide)))
                have n2_ := Aside0.mk (hb)
                have n3_ := Aside0.mk ((show Kd.C (Kd.int .i64) w59 Ao52 y519.length y519 from by rw [Ny519.out]; exact Kd.C_take (m := (x7_2 : Int).toNat) ((Kd.R_reads' (Kd.R_after (ok := (fun _ => True)) (kr_ HO_6.out) hg hat)).2.2) KL54.out))
                have n4_ := Aside0.mk ((show Kd.C (Kd.int .i64) w59 A55 y526.length y526 from by rw [Ny526.out, KA55.out]; exact Kd.C_drop (m := ((ji46) : Int).toNat) (c := co52) ((Kd.R_reads' (Kd.R_after (ok := (fun _ => True)) (kr_ HO_6.out) hg hat)).2.2) KL55.out ((Kd.R_reads' (Kd.R_after (ok := (fun _ => True)) (kr_ HO_6.out) hg hat)).2.1)))
                have n5_ := Aside0.mk (ho)
                clear HO_6
                clear BK506
                clear HB
                clear HR522
                clear HR529
                clear HO525
                have HO_6 := n0_
                have BK506 := n1_
                have HB := n2_
                have HR522 := n3_
                have HR529 := n4_
                have HO532 := n5_
                clear n0_ n1_ n2_ n3_ n4_ n5_
                clear ho hb hg hat
                obtain ⟨Ao60, co60, eo60⟩ := Kd.R_slice HO532.out
                (first | subst eo60 | (injection eo60 with f1_ f2_ f3_; have f4_ := f1_.symm; have f5_ := f3_.symm; clear f1_ f2_ f3_; subst f4_; subst f5_))
                refine hK.out _ _ ⟨BK506.c 0, BK506.c 1, BK506.c 2⟩ (fun hHeld => ?_)
                clear hK K
                refine nm_ ?_
                refine ov_ (i := 11) (N := some 69) HT_.out (fun K hK => ?_)
                refine gq_ Try.func30 #[.agg #[.int .i64 t502, .int .i64 t503, .int .i64 t504], .slice Ao60 y530.length co60] ?_
                with_reducible refine (impl_IsGuarded.calls k2 t502 t503 t504 _ _ y530 true _ ?side1 ?side2 A50.out).mono ?_
                (case side1 => repeat (first | exact (Kd.R_reads' HO532.out).2.2 | (with_reducible refine Kd.C_alloc ?_ _) | (with_reducible refine Kd.C_drewN ?_ _) | (with_reducible refine Kd.C_drew ?_)))
                (case side2 => exact (Kd.R_reads' HO532.out).2.1)
                rintro e w61 ⟨rfl, hb⟩
                refine ⟨_, rfl, ?_⟩
                replace HO_6 := HO_6.kb hb
                replace HO532 := HO532.kb hb
                replace BK506 := BK506.bb hb
                replace HR522 := Aside0.mk (Kd.C_below (by repeat (first | (with_reducible exact HR522.out) | (with_reducible refine Kd.C_alloc ?_ _) | (with_reducible refine Kd.C_drewN ?_ _) | (with_reducible refine Kd.C_drew ?_) | exact HR522.out)) hb)
                replace HR529 := Aside0.mk (Kd.C_below (by repeat (first | (with_reducible exact HR529.out) | (with_reducible refine Kd.C_alloc ?_ _) | (with_reducible refine Kd.C_drewN ?_ _) | (with_reducible refine Kd.C_drew ?_) | exact HR529.out)) hb)
                replace HB := HB.s1 GE506 hb
                skip
                (try clear hb2)
                (try clear hk)
                (try clear hi)
                refine hK.out _ _ ⟨BK506.c 0, BK506.c 1, BK506.c 2⟩ (fun hHeld => ?_)
                clear hK K
                refine nm_ ?_
                refine done_ (done_of HT_.out (by kernel_rfl)) ?_
                try go_wp2
                go_ret
                exact ⟨by first | rfl | (simp [errW_none, errW_some] <;> rfl) | (simp only [← hji46]; first | rfl | (simp [errW_none, errW_some] <;> rfl)) | (simp [*, errW_none, errW_some] <;> rfl), hb1_ HB.out GE506.out⟩
               ·replace c51 := Bool.eq_false_iff.mpr c51
                subst c51
                have H1 : (laws_FnSights.l0 k2 t505 (Int.tmod t507 t508) t509 ji46 t502 t503 t504) = some r := by rw [if_neg (show ¬ (false = true) by decide)] at H; exact H
                clear H
                have H := H1
                clear H1
                have H' := Aside0.mk H
                clear H
                obtain ⟨Ao62, co62, eo62⟩ := Kd.R_slice HO_6.out
                subst eo62
                try go_wp2
                replace HO_6 := Aside0.mk (Kd.R_drew HO_6.out)
                replace BK506 := Aside0.mk (blk_drew BK506.out)
                replace HB := Aside0.mk (below_drew1 HB.out)
                have q64 : (x7_2 : Int) ≤ ((t509.length : Int) : Int) := of_decide_eq_true (as_)
                obtain ⟨i064, hi064, _, hsz64, _⟩ := info_parts info3
                have hroom64 : t509.length ≤ co62 := (Kd.R_reads' HO_6.out).2.1
                have hC64 : Kd.C (Kd.int .i64) _ Ao62 t509.length t509 := (Kd.R_reads' HO_6.out).2.2
                have hcut64 := cut_to (P := Try.prog) 26 3 .i64 Try.underlying26 hi064 Ao62 t509.length co62 x7_2 (of_decide_eq_true (as_)) q64 hroom64
                have hr64 := Kd.C_take (m := (x7_2 : Int).toNat) hC64 (by omega)
                have hy64 : y519.length = (x7_2 : Int).toNat := (by rw [Ny519.out, List.length_take]; omega)
                rw [← Ny519.out] at hr64
                rw [← hy64] at hcut64
                have HR522 := Aside0.mk hr64
                have HC522 := Aside0.mk (show y519.length ≤ co62 from by omega)
                clear hr64 hC64 hroom64 hi064 hsz64
                have KY64 := Aside0.mk hy64
                clear hy64
                have KL64 := Aside0.mk (show (x7_2 : Int).toNat ≤ t509.length from by omega)
                replace q64 := eq_true q64
                have q65 : ((ji46) : Int) ≤ ((t509.length : Int) : Int) := of_decide_eq_true (as_)
                obtain ⟨i065, hi065, _, hsz65, _⟩ := info_parts info3
                have hroom65 : t509.length ≤ co62 := (Kd.R_reads' HO_6.out).2.1
                have hC65 : Kd.C (Kd.int .i64) _ Ao62 t509.length t509 := (Kd.R_reads' HO_6.out).2.2
                have q065 : (0 : Int) ≤ ((ji46) : Int) := of_decide_eq_true (as_)
                have hcut65 := cut_from (P := Try.prog) 26 3 .i64 Try.underlying26 hi065 1 hsz65 Ao62 t509.length co62 (ji46) q065 q65
                have hr65 := Kd.C_drop (m := ((ji46) : Int).toNat) (c := co62) hC65 (by omega) hroom65
                obtain ⟨A65, hA65⟩ : ∃ A1, A1 = (if co62 = ((ji46) : Int).toNat then Ao62 else (Ao62 : Option Addr).map (·.add (((ji46) : Int).toNat * 1))) := ⟨_, rfl⟩
                obtain ⟨c65, hc65⟩ : ∃ c1, c1 = co62 - ((ji46) : Int).toNat := ⟨_, rfl⟩
                have hy65 : y526.length = t509.length - ((ji46) : Int).toNat := (by rw [Ny526.out, List.length_drop] <;> omega)
                rw [show (t509).drop ((ji46) : Int).toNat = y526 from Ny526.out.symm] at hr65
                replace hr65 : Kd.C (Kd.int .i64) _ A65 y526.length y526 := (by rw [hA65]; exact hr65)
                rw [← hy65, ← hA65, ← hc65] at hcut65
                have HR529 := Aside0.mk hr65
                have HC529 := Aside0.mk (show y526.length ≤ c65 from by rw [hy65, hc65]; exact Nat.sub_le_sub_right hroom65 _)
                clear hr65 hC65 hroom65 hi065 hsz65 hc65
                have KY65 := Aside0.mk hy65
                have KA65 := Aside0.mk hA65
                clear hy65 hA65
                have KL65 := Aside0.mk (show ((ji46) : Int).toNat ≤ t509.length from by omega)
                replace q65 := eq_true q65
                refine start_ (n := 12) (S := fun w' => w'.cell? ⟨gb506, 0, none⟩ = some (.int .i64 t502) ∧ w'.cell? ⟨gb506, 1, none⟩ = some (.int .i64 t503) ∧ w'.cell? ⟨gb506, 2, none⟩ = some (.int .i64 t504)) (ds := []) #[false, false, false, false, false, false, false, false, false, false, false, false] (by kernel_rfl) rfl rfl ⟨BK506.c 0, BK506.c 1, BK506.c 2⟩ (fun hHeld => ?_); refine with_tabW laws_FnSights.tab11 laws_FnSights.bits11 (fun HT_ HW_ => ?_)
                generalize wr.drew = w63 at HO_6 BK506 HB HR522 HR529 hHeld ⊢
                refine pv_ (i := 2) (N := some 60) HT_.out ?_
                refine pv_ (i := 3) (N := some 61) HT_.out ?_
                refine pv_ (i := 4) (N := some 62) HT_.out ?_
                refine pv_ (i := 6) (N := some 64) HT_.out ?_
                refine pv_ (i := 7) (N := some 65) HT_.out ?_
                refine pv_ (i := 8) (N := some 66) HT_.out ?_
                refine pv_ (i := 9) (N := some 67) HT_.out ?_
                refine tv3_ (i := 0) (N := some 58) HT_.out HW_.out hHeld ?_
                refine ov_ (i := 1) (N := some 59) HT_.out (fun K hK => ?_)
                refine Kd.R_lit_step (Kd.int .i64) _ 3 ?hg (N := 59) ?hd (xs := ([] : List Int)) (inner := []) (ok := fun _ => True) (okp := fun _ => True) ?hr ?hp (fun _ hk => hk) trivial (Below.refl _ _) (Nat.le_refl _) (by simp) ?_; (case hd => rfl); (case hg => rfl); (case hr => first | (go_simp; done) | (go_simp; rfl)); (case hp => exact (Reps.none _ _))
                intro v517 w66 ho67 hb hg_ hnew_
                clear hg_ hnew_
                (first | rw [← Ny516.out] at ho67 | (simp only [Int.reduceToNat] at ho67; rw [← Ny516.out] at ho67))
                have n0_ := Aside0.mk (Kd.R_elder' (kr_ HO_6.out) (Kd.R_base ho67) hb)
                have n1_ := Aside0.mk (Kd.R_lower (Kd.R_new' ho67 (Kd.R_lt (kr_ HO_6.out))) (below_size (hb1_ HB.out GE506.out)))
                have n2_ := BK506.bb hb
                have n3_ := Aside0.mk (Kd.C_below (by repeat (first | (with_reducible exact HR522.out) | (with_reducible refine Kd.C_alloc ?_ _) | (with_reducible refine Kd.C_drewN ?_ _) | (with_reducible refine Kd.C_drew ?_) | exact HR522.out)) hb)
                have n4_ := Aside0.mk (Kd.C_below (by repeat (first | (with_reducible exact HR529.out) | (with_reducible refine Kd.C_alloc ?_ _) | (with_reducible refine Kd.C_drewN ?_ _) | (with_reducible refine Kd.C_drew ?_) | exact HR529.out)) hb)
                have n5_ := HB.s1 GE506 hb
                clear HO_6
                clear BK506
                clear HR522
                clear HR529
                clear HB
                have HO_6 := n0_
                have HO518 := n1_
                have BK506 := n2_
                have HR522 := n3_
                have HR529 := n4_
                have HB := n5_
                clear n0_ n1_ n2_ n3_ n4_ n5_
                clear hb ho67
                refine hK.out _ _ ⟨BK506.c 0, BK506.c 1, BK506.c 2⟩ (fun hHeld => ?_)
                clear hK K
                refine nm_ ?_
                refine ov_ (i := 5) (N := some 63) HT_.out (fun K hK => ?_)
                refine Kd.R_append_rows_step (Kd.int .i64) (w0 := w) w.heap.size (by rfl) (.tmp 59) (.tmp 62) 26 3 (.int .i64 0) 8 rfl Try.underlying26 info3 rfl (by decide) (by omega) v517 y516 y519 _ _ _ (fun k_ => some k_ ≠ (.slice Ao62 t509.length co62 : Value).ownBlock) (fun _ => False) rfl rfl ?aO ?aR (fun _ _ h => h) (fun _ h => h.elim) ?aF ?aB ?aS ?aL ?_
                (case aR => repeat (first | exact (by repeat (first | (with_reducible exact HR522.out) | (with_reducible refine Kd.C_alloc ?_ _) | (with_reducible refine Kd.C_drewN ?_ _) | (with_reducible refine Kd.C_drew ?_) | exact HR522.out)) | (with_reducible refine Kd.C_alloc ?_ _) | (with_reducible refine Kd.C_drewN ?_ _) | (with_reducible refine Kd.C_drew ?_)))
                (case aB => exact (hb1_ HB.out GE506.out))
                (case aF => exact (fun k_ hk => Kd.fresh' (Kd.R_lt (kr_ HO_6.out)) k_ hk))
                (case aO => exact (by (with_reducible repeat (first | apply Kd.R_alloc | apply Kd.R_drewN | apply Kd.R_drew)); exact Kd.R_mono HO518.out (fun _ hk => hk.2)))
                (case aS => exact (below_size (hb1_ HB.out GE506.out)))
                (case aL => have := LMc45.out; omega)
                intro v524 w68 ho hb hg hat
                rw [← Ny523.out] at ho
                have n0_ := Aside0.mk (Kd.R_after (ok := (fun _ => True)) (kr_ HO_6.out) hg hat)
                have n1_ := Aside0.mk (blk_grown (g := gb506) (o := .cells #[.int .i64 t502, .int .i64 t503, .int .i64 t504] 30 (0, 0)) (bk_ BK506.out) hg (Kd.R_ne HO518.out BK506.out (by decide)))
                have n2_ := Aside0.mk (hb)
                have n3_ := Aside0.mk ((show Kd.C (Kd.int .i64) w68 Ao62 y519.length y519 from by rw [Ny519.out]; exact Kd.C_take (m := (x7_2 : Int).toNat) ((Kd.R_reads' (Kd.R_after (ok := (fun _ => True)) (kr_ HO_6.out) hg hat)).2.2) KL64.out))
                have n4_ := Aside0.mk ((show Kd.C (Kd.int .i64) w68 A65 y526.length y526 from by rw [Ny526.out, KA65.out]; exact Kd.C_drop (m := ((ji46) : Int).toNat) (c := co62) ((Kd.R_reads' (Kd.R_after (ok := (fun _ => True)) (kr_ HO_6.out) hg hat)).2.2) KL65.out ((Kd.R_reads' (Kd.R_after (ok := (fun _ => True)) (kr_ HO_6.out) hg hat)).2.1)))
                have n5_ := Aside0.mk (ho)
                clear HO_6
                clear BK506
                clear HB
                clear HR522
                clear HR529
                clear HO518
                have HO_6 := n0_
                have BK506 := n1_
                have HB := n2_
                have HR522 := n3_
                have HR529 := n4_
                have HO525 := n5_
                clear n0_ n1_ n2_ n3_ n4_ n5_
                clear ho hb hg hat
                refine hK.out _ _ ⟨BK506.c 0, BK506.c 1, BK506.c 2⟩ (fun hHeld => ?_)
                clear hK K
                refine nm_ ?_
                refine ov_ (i := 10) (N := some 68) HT_.out (fun K hK => ?_)
                refine Kd.R_append_rows_step (Kd.int .i64) (w0 := w) w.heap.size (by rfl) (.tmp 63) (.tmp 67) 26 3 (.int .i64 0) 8 rfl Try.underlying26 info3 rfl (by decide) (by omega) v524 y523 y526 _ _ _ (fun k_ => some k_ ≠ (.slice Ao62 t509.length co62 : Value).ownBlock) (fun _ => False) rfl rfl ?aO ?aR (fun _ _ h => h) (fun _ h => h.elim) ?aF ?aB ?aS ?aL ?_
                (case aR => repeat (first | exact (by repeat (first | (with_reducible exact HR529.out) | (with_reducible refine Kd.C_alloc ?_ _) | (with_reducible refine Kd.C_drewN ?_ _) | (with_reducible refine Kd.C_drew ?_) | exact HR529.out)) | (with_reducible refine Kd.C_alloc ?_ _) | (with_reducible refine Kd.C_drewN ?_ _) | (with_reducible refine Kd.C_drew ?_)))
                (case aB => exact (hb1_ HB.out GE506.out))
                (case aF => exact (fun k_ hk => Kd.fresh' (Kd.R_lt (kr_ HO_6.out)) k_ hk))
                (case aO => exact (kr_ HO525.out))
                (case aS => exact (below_size (hb1_ HB.out GE506.out)))
                (case aL => have := LMc49.out; omega)
                intro v531 w69 ho hb hg hat
                rw [← Ny530.out] at ho
                have n0_ := Aside0.mk (Kd.R_after (ok := (fun _ => True)) (kr_ HO_6.out) hg hat)
                have n1_ := Aside0.mk (blk_grown (g := gb506) (o := .cells #[.int .i64 t502, .int .i64 t503, .int .i64 t504] 30 (0, 0)) (bk_ BK506.out) hg (Kd.R_ne HO525.out BK506.out (by decide)))
                have n2_ := Aside0.mk (hb)
                have n3_ := Aside0.mk ((show Kd.C (Kd.int .i64) w69 Ao62 y519.length y519 from by rw [Ny519.out]; exact Kd.C_take (m := (x7_2 : Int).toNat) ((Kd.R_reads' (Kd.R_after (ok := (fun _ => True)) (kr_ HO_6.out) hg hat)).2.2) KL64.out))
                have n4_ := Aside0.mk ((show Kd.C (Kd.int .i64) w69 A65 y526.length y526 from by rw [Ny526.out, KA65.out]; exact Kd.C_drop (m := ((ji46) : Int).toNat) (c := co62) ((Kd.R_reads' (Kd.R_after (ok := (fun _ => True)) (kr_ HO_6.out) hg hat)).2.2) KL65.out ((Kd.R_reads' (Kd.R_after (ok := (fun _ => True)) (kr_ HO_6.out) hg hat)).2.1)))
                have n5_ := Aside0.mk (ho)
                clear HO_6
                clear BK506
                clear HB
                clear HR522
                clear HR529
                clear HO525
                have HO_6 := n0_
                have BK506 := n1_
                have HB := n2_
                have HR522 := n3_
                have HR529 := n4_
                have HO532 := n5_
                clear n0_ n1_ n2_ n3_ n4_ n5_
                clear ho hb hg hat
                obtain ⟨Ao70, co70, eo70⟩ := Kd.R_slice HO532.out
                (first | subst eo70 | (injection eo70 with f1_ f2_ f3_; have f4_ := f1_.symm; have f5_ := f3_.symm; clear f1_ f2_ f3_; subst f4_; subst f5_))
                refine hK.out _ _ ⟨BK506.c 0, BK506.c 1, BK506.c 2⟩ (fun hHeld => ?_)
                clear hK K
                refine nm_ ?_
                refine ov_ (i := 11) (N := some 69) HT_.out (fun K hK => ?_)
                refine gq_ Try.func30 #[.agg #[.int .i64 t502, .int .i64 t503, .int .i64 t504], .slice Ao70 y530.length co70] ?_
                with_reducible refine (impl_IsGuarded.calls k2 t502 t503 t504 _ _ y530 false _ ?side1 ?side2 A50.out).mono ?_
                (case side1 => repeat (first | exact (Kd.R_reads' HO532.out).2.2 | (with_reducible refine Kd.C_alloc ?_ _) | (with_reducible refine Kd.C_drewN ?_ _) | (with_reducible refine Kd.C_drew ?_)))
                (case side2 => exact (Kd.R_reads' HO532.out).2.1)
                rintro e w71 ⟨rfl, hb⟩
                refine ⟨_, rfl, ?_⟩
                replace HO_6 := HO_6.kb hb
                replace HO532 := HO532.kb hb
                replace BK506 := BK506.bb hb
                replace HR522 := Aside0.mk (Kd.C_below (by repeat (first | (with_reducible exact HR522.out) | (with_reducible refine Kd.C_alloc ?_ _) | (with_reducible refine Kd.C_drewN ?_ _) | (with_reducible refine Kd.C_drew ?_) | exact HR522.out)) hb)
                replace HR529 := Aside0.mk (Kd.C_below (by repeat (first | (with_reducible exact HR529.out) | (with_reducible refine Kd.C_alloc ?_ _) | (with_reducible refine Kd.C_drewN ?_ _) | (with_reducible refine Kd.C_drew ?_) | exact HR529.out)) hb)
                replace HB := HB.s1 GE506 hb
                skip
                (try clear hb2)
                (try clear hk)
                (try clear hi)
                refine hK.out _ _ ⟨BK506.c 0, BK506.c 1, BK506.c 2⟩ (fun hHeld => ?_)
                clear hK K
                refine nm_ ?_
                refine done_ (done_of HT_.out (by kernel_rfl)) ?_
                try go_wp2
                go_roundg k2
                case measure => have := HJ8.out; have := HK2.out; omega
                case rel => exact ⟨(ji46), (by first | rfl | (simp; done) | (simp only [← hji46] <;> (first | rfl | simp)) | (simp [*]; done)), H', ⟨by have := HJ8.out; have := HK2.out; omega⟩, ⟨by (with_reducible repeat (first | apply Kd.R_alloc | apply Kd.R_drewN | apply Kd.R_drew)); exact Kd.R_mono HO_6.out (fun _ hk => trivial)⟩, ⟨bk_ BK506.out⟩, ⟨hb1_ HB.out GE506.out⟩⟩
              ·rw [if_neg c49] at H
               exact absurd H (by simp)
             ·rw [if_neg c48] at H
              exact absurd H (by simp)
            ·rw [if_neg c47] at H
             exact absurd H (by simp)
           ·rw [if_neg c45] at H
            exact absurd H (by simp)
          ·rw [if_neg c44] at H
           exact absurd H (by simp)
         ·rw [if_neg c43] at H
          exact absurd H (by simp)
        ·rw [if_neg c42] at H
         have c42b0 : decide (x7_2 < (t509.length : Int)) = false := decide_eq_false c42
         clear c42
         have H' := Aside0.mk H
         clear H
         obtain ⟨Ao72, co72, eo72⟩ := Kd.R_slice HO_6.out
         subst eo72
         go_wp2
         go_loopg [8, 9] k2 (fun kq v8 v9 w' => ∃ (x8_3 : Int) (x9_3 : Int), v8 = .int .i64 x8_3 ∧ v9 = .int .i64 x9_3 ∧ Aside0 (laws_FnSights.l1 kq t505 (Int.tmod t507 t508) x8_3 x9_3 t502 t503 t504 = some r) ∧ Aside0 (kq ≤ k2) ∧ Aside0 (w'.heap[gb506]? = some (.cells #[.int .i64 t502, .int .i64 t503, .int .i64 t504] 30 (0, 0))) ∧ Aside0 (Below w.heap.size w w'))
         case atStart => exact ⟨(1), (0), (by first | rfl | (simp; done) | (simp [*]; done)), (by first | rfl | (simp; done) | (simp [*]; done)), H', ⟨Nat.le_refl _⟩, ⟨bk_ BK506.out⟩, ⟨hb1_ HB.out GE506.out⟩⟩
         case round =>
          clear H'
          try clear c1
          try clear p2
          try clear c3
          try clear c4
          try clear c5
          try clear q5
          try clear c6
          try clear p6
          try clear q6
          try clear c30
          try clear c42
          try clear c42b0
          try clear c43
          try clear c44
          try clear c45
          try clear c47
          try clear c47b0
          try clear c47b1
          try clear c48
          try clear c48b0
          try clear c48b1
          try clear c49
          try clear c51
          try clear q54
          try clear c55
          try clear q55
          try clear p64
          try clear q64
          try clear c65
          try clear q65
          try clear q055
          try clear q065
          try clear q54
          try clear q55
          try clear q64
          try clear q65
          obtain ⟨x8_3, x9_3, rfl, rfl, HA, HK3, BK506, HB⟩ := hrel
          cases gk with
          | zero => exact absurd HA.out (by simp [laws_FnSights.l1])
          | succ k3 =>
           have H := HA.out
           clear HA
           simp only [laws_FnSights.l1] at H
           by_cases c73 : x9_3 < 4
           ·rw [if_pos c73] at H
            have c73b0 : decide (x9_3 < 4) = true := decide_eq_true c73
            clear c73
            replace H := Option.bind_eq_some_iff.mp H
            obtain ⟨t534, A740, H⟩ := H
            replace H : (laws_FnSights.l1 k3 t505 (Int.tmod t507 t508) (wrap64 (x8_3 + (t534.length : Int))) (wrap64 (x9_3 + 1)) t502 t503 t504) = some r := H
            have A74 := Aside0.mk A740
            clear A740
            have H' := Aside0.mk H
            clear H
            obtain ⟨hcz75_0, hcz75_1, hcz75_2⟩ := cz3_ BK506.out
            obtain ⟨hfz75_0, hfz75_1, hfz75_2⟩ := fz3_ BK506.out
            go_wp2_with ((with_reducible refine gw_ ?_); first | (refine gl_ 78 Try.func40 #[.agg #[.int .i64 t502, .int .i64 t503, .int .i64 t504], .int .i64 t505, .int .i64 x9_3] ?_; (with_reducible refine (impl_SightFrom.calls k3 t502 t503 t504 t505 x9_3 t534 _ A74.out).mono ?_); rintro e w76 ⟨v535, rfl, ho0, hb⟩; refine ⟨_, rfl, ?_⟩; have HO536 := Aside0.mk (Kd.R_lower ho0 (below_size (hb1_ HB.out GE506.out))); replace BK506 := BK506.bb hb; replace HB := HB.s1 GE506 hb; (try clear hb); (try clear ho0); obtain ⟨Ao77, co77, eo77⟩ := Kd.R_slice HO536.out; subst eo77))
            go_roundg k3
            case measure => have := HJ8.out; have := HK2.out; have := HK3.out; omega
            case rel => exact ⟨(wrap64 (x8_3 + (t534.length : Int))), (wrap64 (x9_3 + 1)), (by first | rfl | (simp; done) | (simp [*]; done)), (by first | rfl | (simp; done) | (simp [*]; done)), H', ⟨by have := HJ8.out; have := HK2.out; have := HK3.out; omega⟩, ⟨bk_ BK506.out⟩, ⟨hb1_ HB.out GE506.out⟩⟩
           ·rw [if_neg c73] at H
            have c73b0 : decide (x9_3 < 4) = false := decide_eq_false c73
            clear c73
            replace H := Option.bind_eq_some_iff.mp H
            obtain ⟨t537, A780, H⟩ := H
            replace H : (if (t537.length : Int) = x8_3 then ((impl_SeenFrom.f k3 t502 t503 t504 t505).bind fun t540 => ((laws_has.f k3 t540 (Int.tmod t507 t508)).bind fun t543 => ((impl_SeesEach.f k3 t502 t503 t504 t505 (Int.tmod t507 t508)).bind fun t544 => (some (t543 == t544))))) else (some false)) = some r := H
            have A78 := Aside0.mk A780
            clear A780
            by_cases c79 : (t537.length : Int) = x8_3
            ·rw [if_pos c79] at H
             have c79b0 : ((t537.length : Int) == x8_3) = true := beq_iff_eq.mpr c79
             have c79b1 : ((t537.length : Int) != x8_3) = false := bne_eq_false_iff_eq.mpr c79
             clear c79
             replace H := Option.bind_eq_some_iff.mp H
             obtain ⟨t540, A800, H⟩ := H
             replace H : ((laws_has.f k3 t540 (Int.tmod t507 t508)).bind fun t543 => ((impl_SeesEach.f k3 t502 t503 t504 t505 (Int.tmod t507 t508)).bind fun t544 => (some (t543 == t544)))) = some r := H
             have A80 := Aside0.mk A800
             clear A800
             replace H := Option.bind_eq_some_iff.mp H
             obtain ⟨t543, A810, H⟩ := H
             replace H : ((impl_SeesEach.f k3 t502 t503 t504 t505 (Int.tmod t507 t508)).bind fun t544 => (some (t543 == t544))) = some r := H
             have A81 := Aside0.mk A810
             clear A810
             replace H := Option.bind_eq_some_iff.mp H
             obtain ⟨t544, A820, H⟩ := H
             replace H : (some (t543 == t544)) = some r := H
             have A82 := Aside0.mk A820
             clear A820
             obtain rfl := Option.some.inj H
             try go_wp2
             replace BK506 := Aside0.mk (blk_drew BK506.out)
             replace HB := Aside0.mk (below_drew1 HB.out)
             refine start_ (n := 19) (S := fun w' => w'.cell? ⟨gb506, 0, none⟩ = some (.int .i64 t502) ∧ w'.cell? ⟨gb506, 1, none⟩ = some (.int .i64 t503) ∧ w'.cell? ⟨gb506, 2, none⟩ = some (.int .i64 t504)) (ds := []) #[false, false, false, false, false, false, false, false, false, false, false, false, false, false, false, false, false, false, false] (by kernel_rfl) rfl rfl ⟨BK506.c 0, BK506.c 1, BK506.c 2⟩ (fun hHeld => ?_); refine with_tabW laws_FnSights.tab18 laws_FnSights.bits18 (fun HT_ HW_ => ?_)
             generalize wr.drew = w83 at BK506 HB hHeld ⊢
             refine pv_ (i := 1) (N := some 82) HT_.out ?_
             refine pv_ (i := 4) (N := some 85) HT_.out ?_
             refine tv3_ (i := 0) (N := some 81) HT_.out HW_.out hHeld ?_
             refine ov_ (i := 2) (N := some 83) HT_.out (fun K hK => ?_)
             refine gq_ Try.func26 #[.agg #[.int .i64 t502, .int .i64 t503, .int .i64 t504], .int .i64 t505] ?_
             with_reducible refine (impl_SeenFrom.calls k3 t502 t503 t504 t505 t537 _ A78.out).mono ?_
             rintro e w84 ⟨v538, rfl, ho0, hb⟩
             refine ⟨_, rfl, ?_⟩
             have HO539 := Aside0.mk (Kd.R_lower ho0 (below_size (hb1_ HB.out GE506.out)))
             replace BK506 := BK506.bb hb
             replace HB := HB.s1 GE506 hb
             skip
             (try clear hb2)
             (try clear hk)
             (try clear hi)
             (try clear ho0)
             obtain ⟨Ao85, co85, eo85⟩ := Kd.R_slice HO539.out
             (first | subst eo85 | (injection eo85 with f1_ f2_ f3_; have f4_ := f1_.symm; have f5_ := f3_.symm; clear f1_ f2_ f3_; subst f4_; subst f5_))
             refine hK.out _ _ ⟨BK506.c 0, BK506.c 1, BK506.c 2⟩ (fun hHeld => ?_)
             clear hK K
             refine nm_ ?_
             refine pv_ (i := 3) (N := some 84) HT_.out ?_
             refine pv_ (i := 5) (N := some 86) HT_.out ?_
             refine pv_ (i := 6) (N := some 87) HT_.out ?_
             refine pv_ (i := 8) (N := some 89) HT_.out ?_
             refine pv_ (i := 10) (N := some 91) HT_.out ?_
             refine pv_ (i := 13) (N := some 94) HT_.out ?_
             refine pv_ (i := 14) (N := some 95) HT_.out ?_
             refine tv3_ (i := 7) (N := some 88) HT_.out HW_.out hHeld ?_
             refine tv3_ (i := 12) (N := some 93) HT_.out HW_.out hHeld ?_
             refine ov_ (i := 9) (N := some 90) HT_.out (fun K hK => ?_)
             refine gq_ Try.func26 #[.agg #[.int .i64 t502, .int .i64 t503, .int .i64 t504], .int .i64 t505] ?_
             with_reducible refine (impl_SeenFrom.calls k3 t502 t503 t504 t505 t540 _ A80.out).mono ?_
             rintro e w86 ⟨v541, rfl, ho0, hb⟩
             refine ⟨_, rfl, ?_⟩
             have n0_ := Aside0.mk (Kd.R_elder' (kr_ HO539.out) (Kd.R_base ho0) hb)
             have n1_ := Aside0.mk (Kd.R_lower (Kd.R_new' ho0 (Kd.R_lt (kr_ HO539.out))) (below_size (hb1_ HB.out GE506.out)))
             have n2_ := BK506.bb hb
             have n3_ := HB.s1 GE506 hb
             clear HO539
             clear BK506
             clear HB
             have HO539 := n0_
             have HO542 := n1_
             have BK506 := n2_
             have HB := n3_
             clear n0_ n1_ n2_ n3_
             skip
             (try clear hb2)
             (try clear hk)
             (try clear hi)
             (try clear ho0)
             obtain ⟨Ao87, co87, eo87⟩ := Kd.R_slice HO542.out
             (first | subst eo87 | (injection eo87 with f1_ f2_ f3_; have f4_ := f1_.symm; have f5_ := f3_.symm; clear f1_ f2_ f3_; subst f4_; subst f5_))
             refine hK.out _ _ ⟨BK506.c 0, BK506.c 1, BK506.c 2⟩ (fun hHeld => ?_)
             clear hK K
             refine nm_ ?_
             refine ov_ (i := 11) (N := some 92) HT_.out (fun K hK => ?_)
             refine gq_ Try.func41 #[.slice Ao87 t540.length co87, .int .i64 (Int.tmod t507 t508)] ?_
             with_reducible refine (laws_has.calls k3 _ _ t540 (Int.tmod t507 t508) t543 _ ?side1 ?side2 A81.out).mono ?_
             (case side1 => repeat (first | exact (Kd.R_reads' HO542.out).2.2 | (with_reducible refine Kd.C_alloc ?_ _) | (with_reducible refine Kd.C_drewN ?_ _) | (with_reducible refine Kd.C_drew ?_)))
             (case side2 => exact (Kd.R_reads' HO542.out).2.1)
             rintro e w' ⟨rfl, ⟨nd, rfl⟩⟩
             refine ⟨_, rfl, ?_⟩
             refine hK.out _ _ ⟨BK506.c 0, BK506.c 1, BK506.c 2⟩ (fun hHeld => ?_)
             clear hK K
             refine nm_ ?_
             refine ov_ (i := 15) (N := some 96) HT_.out (fun K hK => ?_)
             refine gq_ Try.func28 #[.agg #[.int .i64 t502, .int .i64 t503, .int .i64 t504], .int .i64 t505, .int .i64 (Int.tmod t507 t508)] ?_
             with_reducible refine (impl_SeesEach.calls k3 t502 t503 t504 t505 (Int.tmod t507 t508) t544 _ A82.out).mono ?_
             rintro e w88 ⟨rfl, hb⟩
             refine ⟨_, rfl, ?_⟩
             replace HO539 := HO539.kb hb
             replace HO542 := HO542.kb hb
             replace BK506 := BK506.bb hb
             replace HB := HB.s1 GE506 hb
             skip
             (try clear hb2)
             (try clear hk)
             (try clear hi)
             refine hK.out _ _ ⟨BK506.c 0, BK506.c 1, BK506.c 2⟩ (fun hHeld => ?_)
             clear hK K
             refine nm_ ?_
             refine pv_ (i := 16) (N := some 97) HT_.out ?_
             refine pv_ (i := 17) (N := some 98) HT_.out ?_
             refine pv_ (i := 18) (N := some 2) HT_.out ?_
             refine done_ (done_of HT_.out (by kernel_rfl)) ?_
             try go_wp2
             go_ret
             exact ⟨ex_, hb1_ HB.out GE506.out⟩
            ·rw [if_neg c79] at H
             have c79b0 : ((t537.length : Int) == x8_3) = false := beq_eq_false_iff_ne.mpr c79
             have c79b1 : ((t537.length : Int) != x8_3) = true := bne_iff_ne.mpr c79
             obtain rfl := Option.some.inj H
             try go_wp2
             replace BK506 := Aside0.mk (blk_drew BK506.out)
             replace HB := Aside0.mk (below_drew1 HB.out)
             refine start_ (n := 19) (S := fun w' => w'.cell? ⟨gb506, 0, none⟩ = some (.int .i64 t502) ∧ w'.cell? ⟨gb506, 1, none⟩ = some (.int .i64 t503) ∧ w'.cell? ⟨gb506, 2, none⟩ = some (.int .i64 t504)) (ds := []) #[false, false, false, false, false, false, false, false, false, false, false, false, false, false, false, false, false, false, false] (by kernel_rfl) rfl rfl ⟨BK506.c 0, BK506.c 1, BK506.c 2⟩ (fun hHeld => ?_); refine with_tabW laws_FnSights.tab18 laws_FnSights.bits18 (fun HT_ HW_ => ?_)
             generalize wr.drew = w89 at BK506 HB hHeld ⊢
             refine pv_ (i := 1) (N := some 82) HT_.out ?_
             refine pv_ (i := 4) (N := some 85) HT_.out ?_
             refine tv3_ (i := 0) (N := some 81) HT_.out HW_.out hHeld ?_
             refine ov_ (i := 2) (N := some 83) HT_.out (fun K hK => ?_)
             refine gq_ Try.func26 #[.agg #[.int .i64 t502, .int .i64 t503, .int .i64 t504], .int .i64 t505] ?_
             with_reducible refine (impl_SeenFrom.calls k3 t502 t503 t504 t505 t537 _ A78.out).mono ?_
             rintro e w90 ⟨v538, rfl, ho0, hb⟩
             refine ⟨_, rfl, ?_⟩
             have HO539 := Aside0.mk (Kd.R_lower ho0 (below_size (hb1_ HB.out GE506.out)))
             replace BK506 := BK506.bb hb
             replace HB := HB.s1 GE506 hb
             skip
             (try clear hb2)
             (try clear hk)
             (try clear hi)
             (try clear ho0)
             obtain ⟨Ao91, co91, eo91⟩ := Kd.R_slice HO539.out
             (first | subst eo91 | (injection eo91 with f1_ f2_ f3_; have f4_ := f1_.symm; have f5_ := f3_.symm; clear f1_ f2_ f3_; subst f4_; subst f5_))
             refine hK.out _ _ ⟨BK506.c 0, BK506.c 1, BK506.c 2⟩ (fun hHeld => ?_)
             clear hK K
             refine nm_ ?_
             refine pv_ (i := 3) (N := some 84) HT_.out ?_
             refine pv_ (i := 5) (N := some 86) HT_.out ?_
             refine pv_ (i := 6) (N := some 87) HT_.out ?_
             refine pu_ (i := 7) (N := some 88) HT_.out ?_
             refine pu_ (i := 8) (N := some 89) HT_.out ?_
             refine pu_ (i := 9) (N := some 90) HT_.out ?_
             refine pu_ (i := 10) (N := some 91) HT_.out ?_
             refine pu_ (i := 11) (N := some 92) HT_.out ?_
             refine pu_ (i := 12) (N := some 93) HT_.out ?_
             refine pu_ (i := 13) (N := some 94) HT_.out ?_
             refine pu_ (i := 14) (N := some 95) HT_.out ?_
             refine pu_ (i := 15) (N := some 96) HT_.out ?_
             refine pu_ (i := 16) (N := some 97) HT_.out ?_
             refine pv_ (i := 17) (N := some 98) HT_.out ?_
             refine pv_ (i := 18) (N := some 2) HT_.out ?_
             refine done_ (done_of HT_.out (by kernel_rfl)) ?_
             try go_wp2
             go_ret
             exact ⟨ex_, hb1_ HB.out GE506.out⟩

/-- THE ONE PURE STATEMENT of laws_FnSights: yours. -/
def laws_FnSights.Pure : Prop := ∀ (l0 : List Int), l0.length ≤ maxLen → l0.length * 1 ≤ 140737488351232 → (∀ x ∈ l0, (Lit.int .u8 x).wf = true) → ∃ k, laws_FnSights.f k l0 = some true
theorem laws_FnSights.walk (P : laws_FnSights.Pure) (a0 : Option Addr) (len0 cap0 : Nat) (z0 : List Int) (w : World) (w0 : (a0 = none ∧ len0 = 0 ∧ cap0 = 0 ∧ z0 = []) ∨ ∃ x, a0 = some x ∧ len0 ≤ cap0 ∧ cap0 ≤ maxLen ∧ z0.length = cap0 ∧ (∀ i, i < z0.length → w.cell? (x.add i) = some (.int .u8 (z0.getD i 0))) ∧ ∀ n ∈ z0, (Lit.int .u8 n).wf = true) (y0 : len0 * 1 ≤ 140737488351232) :
  Calls Try.prog 11 #[.slice a0 len0 cap0] w fun e w' => e = .returned (.bool true) ∧ Below w.heap.size w w' := by
 obtain ⟨l0, rfl, hr0, hm0, hw0, hc0⟩ := ReadsInt.ofRowC w0
 obtain ⟨k, h⟩ := P l0 hm0 y0 hw0
 refine (laws_FnSights.calls k _ _ l0 true w (Kd.C_of_reads (d := (0 : Int)) (h1 := fun _ => rfl) hr0) hc0 h).mono ?_
 rintro e w' ⟨rfl, hd⟩
 exact ⟨rfl, hd⟩

end Go.Proofs.Ytmcllgonjlapoaa.X
