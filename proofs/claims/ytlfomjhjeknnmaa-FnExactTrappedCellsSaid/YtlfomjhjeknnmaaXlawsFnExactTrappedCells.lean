-- Written by a program of this session (xprint.py), out of the translation and of hand-written contracts. Lean checks it.
import Derived.Test.YtlfomjhjeknnmaaX0
import Derived.Test.YtlfomjhjeknnmaaXcints
import Derived.Test.YtlfomjhjeknnmaaXctimed
import Derived.Test.YtlfomjhjeknnmaaXimplTrappedCells
import Derived.Test.YtlfomjhjeknnmaaXlawsmarkTimed
import Derived.Test.YtlfomjhjeknnmaaXspecTrappedCells
namespace Go.Proofs.Ytlfomjhjeknnmaa.X
open Go.RowKit Go.Proofs.YtlfomjhjeknnmaaW.PrintWords Go.Proofs.YtlfomjhjeknnmaaW.PrintLast Go.Proofs.YtlfomjhjeknnmaaW.PrintMore
attribute [local go_sem] max2_int min2_int max_two min_two max_three min_three max_four min_four   -- for this text's walks alone
set_option linter.unusedVariables false
set_option linter.unusedSimpArgs false

/-! ### laws_FnExactTrappedCells: function 5 -/
def laws_FnExactTrappedCells.j0 : Nat → Int → List Int → List Int → Bool → Int → Int → Int → Int → List (S85) → Option (Bool)
 | 0, _, _, _, _, _, _, _, _, _ => none
 | k + 1, x1, x6, x8, x46, x502000, x502001, x502002, x502003, x502004 => if x46 = true then (some false) else ((laws_markIntS.f k x8 1).bind fun bt536 => ((laws_heldIntS.f k bt536.2 1).bind fun t538 => (if t538 < 0 then (some false) else (if t538 = bt536.1 then ((laws_toTimed.f k x502000 x502001 x502002 x502003 x502004).bind fun bt539 => ((impl_TrappedCells.f k bt539.1 bt539.2.1 bt539.2.2.1 bt539.2.2.2.1 bt539.2.2.2.2 x1).bind fun t546 => ((laws_eqIntS.f k t546 x6).bind fun t549 => (if t549 = true then ((laws_heldIntS.f k bt536.2 1).bind fun t550 => (if t550 < 0 then (some false) else (if t550 = bt536.1 then (some true) else (some false)))) else (some false))))) else (some false)))))
def laws_FnExactTrappedCells.f (k : Nat) (a0_0 : Int) (a0_1 : Int) (a0_2 : Int) (a0_3 : Int) (l0_4 : List (S85)) (a1 : Int) : Option (Bool) := (laws_szTimed.f a0_0 a0_1 a0_2 a0_3 l0_4 1048576).bind fun t502 => (if t502 < 0 then (some true) else ((laws_toTimed.f k a0_0 a0_1 a0_2 a0_3 l0_4).bind fun bt503 => ((spec_TrappedCells.f k bt503.1 bt503.2.1 bt503.2.2.1 bt503.2.2.2.1 bt503.2.2.2.2 a1).bind fun t510 => ((laws_toTimed.f k a0_0 a0_1 a0_2 a0_3 l0_4).bind fun bt513 => ((impl_TrappedCells.f k bt513.1 bt513.2.1 bt513.2.2.1 bt513.2.2.2.1 bt513.2.2.2.2 a1).bind fun t521 => ((laws_eqIntS.f k t521 t510).bind fun t524 => (if t524 = true then ((laws_toTimed.f k a0_0 a0_1 a0_2 a0_3 l0_4).bind fun bt525 => ((laws_eqTimed.f k bt513.1 bt513.2.1 bt513.2.2.1 bt513.2.2.2.1 bt513.2.2.2.2 bt525.1 bt525.2.1 bt525.2.2.1 bt525.2.2.2.1 bt525.2.2.2.2).bind fun t532 => (if t532 = true then ((laws_markTimed.f k bt513.1 bt513.2.1 bt513.2.2.1 bt513.2.2.2.1 bt513.2.2.2.2 1).bind fun bt533 => (if bt533.1 < 0 then (laws_FnExactTrappedCells.j0 k a1 t510 t521 true a0_0 a0_1 a0_2 a0_3 l0_4) else ((laws_eqIntS.f k t521 t510).bind fun t535 => (laws_FnExactTrappedCells.j0 k a1 t510 t521 (!t535) a0_0 a0_1 a0_2 a0_3 l0_4)))) else (some false)))) else (some false))))))))
theorem laws_FnExactTrappedCells.mono_l : ∀ k, (∀ y0 y1 y2 y3 y4 y5 y6 y7 y8, LeO (laws_FnExactTrappedCells.j0 k y0 y1 y2 y3 y4 y5 y6 y7 y8) (laws_FnExactTrappedCells.j0 (k + 1) y0 y1 y2 y3 y4 y5 y6 y7 y8))
 | 0 => fun _ _ _ _ _ _ _ _ _ r h => by simp [laws_FnExactTrappedCells.j0] at h
 | k + 1 => by
  have ih0 := laws_FnExactTrappedCells.mono_l k
  ·intro y0 y1 y2 y3 y4 y5 y6 y7 y8
   unfold laws_FnExactTrappedCells.j0
   repeat' first
   | (with_reducible exact ih0 ..)
   | (with_reducible exact impl_TrappedCells.mono ..)
   | (with_reducible exact laws_eqIntS.mono ..)
   | (with_reducible exact laws_eqTimed.mono ..)
   | (with_reducible exact laws_heldIntS.mono ..)
   | (with_reducible exact laws_markIntS.mono ..)
   | (with_reducible exact laws_markTimed.mono ..)
   | (with_reducible exact laws_toTimed.mono ..)
   | (with_reducible exact spec_TrappedCells.mono ..)
   | (with_reducible first | exact lr_ _ | exact ln_ _ | refine li_ ?_ ?_ | refine lb_ ?_ fun _ => ?_)
   | exact ih0 ..
   | exact impl_TrappedCells.mono ..
   | exact laws_eqIntS.mono ..
   | exact laws_eqTimed.mono ..
   | exact laws_heldIntS.mono ..
   | exact laws_markIntS.mono ..
   | exact laws_markTimed.mono ..
   | exact laws_toTimed.mono ..
   | exact spec_TrappedCells.mono ..
   | exact ln_ _ | refine li_ ?_ ?_ | refine lb_ ?_ fun _ => ?_
theorem laws_FnExactTrappedCells.mono : ∀ a0 a1 a2 a3 a4 a5 k, LeO (laws_FnExactTrappedCells.f k a0 a1 a2 a3 a4 a5) (laws_FnExactTrappedCells.f (k + 1) a0 a1 a2 a3 a4 a5) := by
 intro a0 a1 a2 a3 a4 a5 k
 have ih0 := laws_FnExactTrappedCells.mono_l k
 unfold laws_FnExactTrappedCells.f
 repeat' first
   | (with_reducible exact ih0 ..)
   | (with_reducible exact impl_TrappedCells.mono ..)
   | (with_reducible exact laws_eqIntS.mono ..)
   | (with_reducible exact laws_eqTimed.mono ..)
   | (with_reducible exact laws_heldIntS.mono ..)
   | (with_reducible exact laws_markIntS.mono ..)
   | (with_reducible exact laws_markTimed.mono ..)
   | (with_reducible exact laws_toTimed.mono ..)
   | (with_reducible exact spec_TrappedCells.mono ..)
   | (with_reducible first | exact lr_ _ | exact ln_ _ | refine li_ ?_ ?_ | refine lb_ ?_ fun _ => ?_)
   | exact ih0 ..
   | exact impl_TrappedCells.mono ..
   | exact laws_eqIntS.mono ..
   | exact laws_eqTimed.mono ..
   | exact laws_heldIntS.mono ..
   | exact laws_markIntS.mono ..
   | exact laws_markTimed.mono ..
   | exact laws_toTimed.mono ..
   | exact spec_TrappedCells.mono ..
   | exact ln_ _ | refine li_ ?_ ?_ | refine lb_ ?_ fun _ => ?_
set_option maxHeartbeats 8000000 in
set_option maxRecDepth 100000 in
theorem laws_FnExactTrappedCells.calls (k : Nat) (a0_0 : Int) (a0_1 : Int) (a0_2 : Int) (a0_3 : Int) (A0_4 : Option Addr) (c0_4 : Nat) (l0_4 : List (S85)) (a1 : Int) (r : Bool) (w : World) (hr0_4 : Kd.C k85 w A0_4 l0_4.length l0_4) (hc0_4 : l0_4.length ≤ c0_4) (h : laws_FnExactTrappedCells.f k a0_0 a0_1 a0_2 a0_3 l0_4 a1 = some r) :
  Calls Try.prog 5 #[.agg #[.int .i64 a0_0, .int .i64 a0_1, .int .i64 a0_2, .int .i64 a0_3, .slice A0_4 l0_4.length c0_4], .int .i64 a1] w fun e w' => e = .returned (.bool r) ∧ Below w.heap.size w w' := by
 have hu28 := Try.underlying28
 have hu36 := Try.underlying36
 have HR0_4 := Aside0.mk hr0_4
 have HC0_4 := Aside0.mk hc0_4
 clear hr0_4 hc0_4
 have HB := Aside0.mk (Below.refl w.heap.size w)
 have H : ((laws_szTimed.f a0_0 a0_1 a0_2 a0_3 l0_4 1048576).bind fun t502 => (if t502 < 0 then (some true) else ((laws_toTimed.f k a0_0 a0_1 a0_2 a0_3 l0_4).bind fun bt503 => ((spec_TrappedCells.f k bt503.1 bt503.2.1 bt503.2.2.1 bt503.2.2.2.1 bt503.2.2.2.2 a1).bind fun t510 => ((laws_toTimed.f k a0_0 a0_1 a0_2 a0_3 l0_4).bind fun bt513 => ((impl_TrappedCells.f k bt513.1 bt513.2.1 bt513.2.2.1 bt513.2.2.2.1 bt513.2.2.2.2 a1).bind fun t521 => ((laws_eqIntS.f k t521 t510).bind fun t524 => (if t524 = true then ((laws_toTimed.f k a0_0 a0_1 a0_2 a0_3 l0_4).bind fun bt525 => ((laws_eqTimed.f k bt513.1 bt513.2.1 bt513.2.2.1 bt513.2.2.2.1 bt513.2.2.2.2 bt525.1 bt525.2.1 bt525.2.2.1 bt525.2.2.2.1 bt525.2.2.2.2).bind fun t532 => (if t532 = true then ((laws_markTimed.f k bt513.1 bt513.2.1 bt513.2.2.1 bt513.2.2.2.1 bt513.2.2.2.2 1).bind fun bt533 => (if bt533.1 < 0 then (laws_FnExactTrappedCells.j0 k a1 t510 t521 true a0_0 a0_1 a0_2 a0_3 l0_4) else ((laws_eqIntS.f k t521 t510).bind fun t535 => (laws_FnExactTrappedCells.j0 k a1 t510 t521 (!t535) a0_0 a0_1 a0_2 a0_3 l0_4)))) else (some false)))) else (some false))))))))) = some r := h
 clear h
 replace H := Option.bind_eq_some_iff.mp H
 obtain ⟨t502, A30, H⟩ := H
 replace H : (if t502 < 0 then (some true) else ((laws_toTimed.f k a0_0 a0_1 a0_2 a0_3 l0_4).bind fun bt503 => ((spec_TrappedCells.f k bt503.1 bt503.2.1 bt503.2.2.1 bt503.2.2.2.1 bt503.2.2.2.2 a1).bind fun t510 => ((laws_toTimed.f k a0_0 a0_1 a0_2 a0_3 l0_4).bind fun bt513 => ((impl_TrappedCells.f k bt513.1 bt513.2.1 bt513.2.2.1 bt513.2.2.2.1 bt513.2.2.2.2 a1).bind fun t521 => ((laws_eqIntS.f k t521 t510).bind fun t524 => (if t524 = true then ((laws_toTimed.f k a0_0 a0_1 a0_2 a0_3 l0_4).bind fun bt525 => ((laws_eqTimed.f k bt513.1 bt513.2.1 bt513.2.2.1 bt513.2.2.2.1 bt513.2.2.2.2 bt525.1 bt525.2.1 bt525.2.2.1 bt525.2.2.2.1 bt525.2.2.2.2).bind fun t532 => (if t532 = true then ((laws_markTimed.f k bt513.1 bt513.2.1 bt513.2.2.1 bt513.2.2.2.1 bt513.2.2.2.2 1).bind fun bt533 => (if bt533.1 < 0 then (laws_FnExactTrappedCells.j0 k a1 t510 t521 true a0_0 a0_1 a0_2 a0_3 l0_4) else ((laws_eqIntS.f k t521 t510).bind fun t535 => (laws_FnExactTrappedCells.j0 k a1 t510 t521 (!t535) a0_0 a0_1 a0_2 a0_3 l0_4)))) else (some false)))) else (some false)))))))) = some r := H
 have A3 := Aside0.mk A30
 clear A30
 by_cases c4 : t502 < 0
 ·rw [if_pos c4] at H
  have c4b0 : decide (t502 < 0) = true := decide_eq_true c4
  clear c4
  obtain rfl := Option.some.inj H
  go_enter Try.func5, Try.ntmps5
  go_wp2_with ((with_reducible refine gw_ ?_); first | (refine box_ (N := 2) (cs := #[.int .i64 a0_0, .int .i64 a0_1, .int .i64 a0_2, .int .i64 a0_3, .slice A0_4 l0_4.length c0_4]) (t := 28) ?_; intro gb501 hg w5 hbox hb; have BK501 := Aside0.mk (hbox); have GW501 := HB.g0 hg; have GE501 := HB.g0 hg; replace HB := HB.s0 hb; clear hb hbox hg; obtain ⟨hcz6_0, hcz6_1, hcz6_2, hcz6_3, hcz6_4⟩ := cz5_ BK501.out; obtain ⟨hfz6_0, hfz6_1, hfz6_2, hfz6_3, hfz6_4⟩ := fz5_ BK501.out) | (refine gl_ 15 Try.func8 #[.agg #[.int .i64 a0_0, .int .i64 a0_1, .int .i64 a0_2, .int .i64 a0_3, .slice A0_4 l0_4.length c0_4], .int .i64 1048576] ?_; (with_reducible refine (laws_szTimed.calls a0_0 a0_1 a0_2 a0_3 _ _ l0_4 1048576 t502 _ ?side1 ?side2 A3.out).mono ?_); (case side1 => repeat (first | exact (Kd.C_below HR0_4.out HB.out) | (with_reducible refine Kd.C_alloc ?_ _) | (with_reducible refine Kd.C_drewN ?_ _) | (with_reducible refine Kd.C_drew ?_))); (case side2 => exact HC0_4.out); rintro e w7 ⟨rfl, hb⟩; refine ⟨_, rfl, ?_⟩; replace BK501 := BK501.bb hb; replace HB := HB.s1 GE501 hb; (try clear hb)))
  go_ret
  exact ⟨ex_, hb1_ HB.out GE501.out⟩
 ·rw [if_neg c4] at H
  have c4b0 : decide (t502 < 0) = false := decide_eq_false c4
  clear c4
  replace H := Option.bind_eq_some_iff.mp H
  obtain ⟨⟨t503, t504, t505, t506, t507⟩, A80, H⟩ := H
  replace H : ((spec_TrappedCells.f k t503 t504 t505 t506 t507 a1).bind fun t510 => ((laws_toTimed.f k a0_0 a0_1 a0_2 a0_3 l0_4).bind fun bt513 => ((impl_TrappedCells.f k bt513.1 bt513.2.1 bt513.2.2.1 bt513.2.2.2.1 bt513.2.2.2.2 a1).bind fun t521 => ((laws_eqIntS.f k t521 t510).bind fun t524 => (if t524 = true then ((laws_toTimed.f k a0_0 a0_1 a0_2 a0_3 l0_4).bind fun bt525 => ((laws_eqTimed.f k bt513.1 bt513.2.1 bt513.2.2.1 bt513.2.2.2.1 bt513.2.2.2.2 bt525.1 bt525.2.1 bt525.2.2.1 bt525.2.2.2.1 bt525.2.2.2.2).bind fun t532 => (if t532 = true then ((laws_markTimed.f k bt513.1 bt513.2.1 bt513.2.2.1 bt513.2.2.2.1 bt513.2.2.2.2 1).bind fun bt533 => (if bt533.1 < 0 then (laws_FnExactTrappedCells.j0 k a1 t510 t521 true a0_0 a0_1 a0_2 a0_3 l0_4) else ((laws_eqIntS.f k t521 t510).bind fun t535 => (laws_FnExactTrappedCells.j0 k a1 t510 t521 (!t535) a0_0 a0_1 a0_2 a0_3 l0_4)))) else (some false)))) else (some false)))))) = some r := H
  have A8 := Aside0.mk A80
  clear A80
  replace H := Option.bind_eq_some_iff.mp H
  obtain ⟨t510, A90, H⟩ := H
  replace H : ((laws_toTimed.f k a0_0 a0_1 a0_2 a0_3 l0_4).bind fun bt513 => ((impl_TrappedCells.f k bt513.1 bt513.2.1 bt513.2.2.1 bt513.2.2.2.1 bt513.2.2.2.2 a1).bind fun t521 => ((laws_eqIntS.f k t521 t510).bind fun t524 => (if t524 = true then ((laws_toTimed.f k a0_0 a0_1 a0_2 a0_3 l0_4).bind fun bt525 => ((laws_eqTimed.f k bt513.1 bt513.2.1 bt513.2.2.1 bt513.2.2.2.1 bt513.2.2.2.2 bt525.1 bt525.2.1 bt525.2.2.1 bt525.2.2.2.1 bt525.2.2.2.2).bind fun t532 => (if t532 = true then ((laws_markTimed.f k bt513.1 bt513.2.1 bt513.2.2.1 bt513.2.2.2.1 bt513.2.2.2.2 1).bind fun bt533 => (if bt533.1 < 0 then (laws_FnExactTrappedCells.j0 k a1 t510 t521 true a0_0 a0_1 a0_2 a0_3 l0_4) else ((laws_eqIntS.f k t521 t510).bind fun t535 => (laws_FnExactTrappedCells.j0 k a1 t510 t521 (!t535) a0_0 a0_1 a0_2 a0_3 l0_4)))) else (some false)))) else (some false))))) = some r := H
  have A9 := Aside0.mk A90
  clear A90
  replace H := Option.bind_eq_some_iff.mp H
  obtain ⟨⟨t513, t514, t515, t516, t517⟩, A100, H⟩ := H
  replace H : ((impl_TrappedCells.f k t513 t514 t515 t516 t517 a1).bind fun t521 => ((laws_eqIntS.f k t521 t510).bind fun t524 => (if t524 = true then ((laws_toTimed.f k a0_0 a0_1 a0_2 a0_3 l0_4).bind fun bt525 => ((laws_eqTimed.f k t513 t514 t515 t516 t517 bt525.1 bt525.2.1 bt525.2.2.1 bt525.2.2.2.1 bt525.2.2.2.2).bind fun t532 => (if t532 = true then ((laws_markTimed.f k t513 t514 t515 t516 t517 1).bind fun bt533 => (if bt533.1 < 0 then (laws_FnExactTrappedCells.j0 k a1 t510 t521 true a0_0 a0_1 a0_2 a0_3 l0_4) else ((laws_eqIntS.f k t521 t510).bind fun t535 => (laws_FnExactTrappedCells.j0 k a1 t510 t521 (!t535) a0_0 a0_1 a0_2 a0_3 l0_4)))) else (some false)))) else (some false)))) = some r := H
  have A10 := Aside0.mk A100
  clear A100
  replace H := Option.bind_eq_some_iff.mp H
  obtain ⟨t521, A110, H⟩ := H
  replace H : ((laws_eqIntS.f k t521 t510).bind fun t524 => (if t524 = true then ((laws_toTimed.f k a0_0 a0_1 a0_2 a0_3 l0_4).bind fun bt525 => ((laws_eqTimed.f k t513 t514 t515 t516 t517 bt525.1 bt525.2.1 bt525.2.2.1 bt525.2.2.2.1 bt525.2.2.2.2).bind fun t532 => (if t532 = true then ((laws_markTimed.f k t513 t514 t515 t516 t517 1).bind fun bt533 => (if bt533.1 < 0 then (laws_FnExactTrappedCells.j0 k a1 t510 t521 true a0_0 a0_1 a0_2 a0_3 l0_4) else ((laws_eqIntS.f k t521 t510).bind fun t535 => (laws_FnExactTrappedCells.j0 k a1 t510 t521 (!t535) a0_0 a0_1 a0_2 a0_3 l0_4)))) else (some false)))) else (some false))) = some r := H
  have A11 := Aside0.mk A110
  clear A110
  replace H := Option.bind_eq_some_iff.mp H
  obtain ⟨t524, A120, H⟩ := H
  replace H : (if t524 = true then ((laws_toTimed.f k a0_0 a0_1 a0_2 a0_3 l0_4).bind fun bt525 => ((laws_eqTimed.f k t513 t514 t515 t516 t517 bt525.1 bt525.2.1 bt525.2.2.1 bt525.2.2.2.1 bt525.2.2.2.2).bind fun t532 => (if t532 = true then ((laws_markTimed.f k t513 t514 t515 t516 t517 1).bind fun bt533 => (if bt533.1 < 0 then (laws_FnExactTrappedCells.j0 k a1 t510 t521 true a0_0 a0_1 a0_2 a0_3 l0_4) else ((laws_eqIntS.f k t521 t510).bind fun t535 => (laws_FnExactTrappedCells.j0 k a1 t510 t521 (!t535) a0_0 a0_1 a0_2 a0_3 l0_4)))) else (some false)))) else (some false)) = some r := H
  have A12 := Aside0.mk A120
  clear A120
  by_cases c13 : t524 = true
  ·subst c13
   have H1 : ((laws_toTimed.f k a0_0 a0_1 a0_2 a0_3 l0_4).bind fun bt525 => ((laws_eqTimed.f k t513 t514 t515 t516 t517 bt525.1 bt525.2.1 bt525.2.2.1 bt525.2.2.2.1 bt525.2.2.2.2).bind fun t532 => (if t532 = true then ((laws_markTimed.f k t513 t514 t515 t516 t517 1).bind fun bt533 => (if bt533.1 < 0 then (laws_FnExactTrappedCells.j0 k a1 t510 t521 true a0_0 a0_1 a0_2 a0_3 l0_4) else ((laws_eqIntS.f k t521 t510).bind fun t535 => (laws_FnExactTrappedCells.j0 k a1 t510 t521 (!t535) a0_0 a0_1 a0_2 a0_3 l0_4)))) else (some false)))) = some r := by rw [if_pos rfl] at H; exact H
   clear H
   have H := H1
   clear H1
   replace H := Option.bind_eq_some_iff.mp H
   obtain ⟨⟨t525, t526, t527, t528, t529⟩, A140, H⟩ := H
   replace H : ((laws_eqTimed.f k t513 t514 t515 t516 t517 t525 t526 t527 t528 t529).bind fun t532 => (if t532 = true then ((laws_markTimed.f k t513 t514 t515 t516 t517 1).bind fun bt533 => (if bt533.1 < 0 then (laws_FnExactTrappedCells.j0 k a1 t510 t521 true a0_0 a0_1 a0_2 a0_3 l0_4) else ((laws_eqIntS.f k t521 t510).bind fun t535 => (laws_FnExactTrappedCells.j0 k a1 t510 t521 (!t535) a0_0 a0_1 a0_2 a0_3 l0_4)))) else (some false))) = some r := H
   have A14 := Aside0.mk A140
   clear A140
   replace H := Option.bind_eq_some_iff.mp H
   obtain ⟨t532, A150, H⟩ := H
   replace H : (if t532 = true then ((laws_markTimed.f k t513 t514 t515 t516 t517 1).bind fun bt533 => (if bt533.1 < 0 then (laws_FnExactTrappedCells.j0 k a1 t510 t521 true a0_0 a0_1 a0_2 a0_3 l0_4) else ((laws_eqIntS.f k t521 t510).bind fun t535 => (laws_FnExactTrappedCells.j0 k a1 t510 t521 (!t535) a0_0 a0_1 a0_2 a0_3 l0_4)))) else (some false)) = some r := H
   have A15 := Aside0.mk A150
   clear A150
   by_cases c16 : t532 = true
   ·subst c16
    have H1 : ((laws_markTimed.f k t513 t514 t515 t516 t517 1).bind fun bt533 => (if bt533.1 < 0 then (laws_FnExactTrappedCells.j0 k a1 t510 t521 true a0_0 a0_1 a0_2 a0_3 l0_4) else ((laws_eqIntS.f k t521 t510).bind fun t535 => (laws_FnExactTrappedCells.j0 k a1 t510 t521 (!t535) a0_0 a0_1 a0_2 a0_3 l0_4)))) = some r := by rw [if_pos rfl] at H; exact H
    clear H
    have H := H1
    clear H1
    replace H := Option.bind_eq_some_iff.mp H
    obtain ⟨⟨t533, t534⟩, A170, H⟩ := H
    replace H : (if t533 < 0 then (laws_FnExactTrappedCells.j0 k a1 t510 t521 true a0_0 a0_1 a0_2 a0_3 l0_4) else ((laws_eqIntS.f k t521 t510).bind fun t535 => (laws_FnExactTrappedCells.j0 k a1 t510 t521 (!t535) a0_0 a0_1 a0_2 a0_3 l0_4))) = some r := H
    have A17 := Aside0.mk A170
    clear A170
    have HC18 := Aside0.mk H
    clear H
    go_enter Try.func5, Try.ntmps5
    try go_wp2_with ((with_reducible refine gw_ ?_); first | (refine box_ (N := 2) (cs := #[.int .i64 a0_0, .int .i64 a0_1, .int .i64 a0_2, .int .i64 a0_3, .slice A0_4 l0_4.length c0_4]) (t := 28) ?_; intro gb501 hg w19 hbox hb; have BK501 := Aside0.mk (hbox); have GW501 := HB.g0 hg; have GE501 := HB.g0 hg; replace HB := HB.s0 hb; clear hb hbox hg; obtain ⟨hcz20_0, hcz20_1, hcz20_2, hcz20_3, hcz20_4⟩ := cz5_ BK501.out; obtain ⟨hfz20_0, hfz20_1, hfz20_2, hfz20_3, hfz20_4⟩ := fz5_ BK501.out) | (refine gl_ 15 Try.func8 #[.agg #[.int .i64 a0_0, .int .i64 a0_1, .int .i64 a0_2, .int .i64 a0_3, .slice A0_4 l0_4.length c0_4], .int .i64 1048576] ?_; (with_reducible refine (laws_szTimed.calls a0_0 a0_1 a0_2 a0_3 _ _ l0_4 1048576 t502 _ ?side1 ?side2 A3.out).mono ?_); (case side1 => repeat (first | exact (Kd.C_below HR0_4.out HB.out) | (with_reducible refine Kd.C_alloc ?_ _) | (with_reducible refine Kd.C_drewN ?_ _) | (with_reducible refine Kd.C_drew ?_))); (case side2 => exact HC0_4.out); rintro e w21 ⟨rfl, hb⟩; refine ⟨_, rfl, ?_⟩; replace BK501 := BK501.bb hb; replace HB := HB.s1 GE501 hb; (try clear hb); obtain ⟨hcz22_0, hcz22_1, hcz22_2, hcz22_3, hcz22_4⟩ := cz5_ BK501.out; obtain ⟨hfz22_0, hfz22_1, hfz22_2, hfz22_3, hfz22_4⟩ := fz5_ BK501.out) | (refine gl_ 19 Try.func10 #[.agg #[.int .i64 a0_0, .int .i64 a0_1, .int .i64 a0_2, .int .i64 a0_3, .slice A0_4 l0_4.length c0_4]] ?_; (with_reducible refine (laws_toTimed.calls k a0_0 a0_1 a0_2 a0_3 _ _ l0_4 t503 t504 t505 t506 t507 _ ?side1 ?side2 A8.out).mono ?_); (case side1 => repeat (first | exact (Kd.C_below HR0_4.out HB.out) | (with_reducible refine Kd.C_alloc ?_ _) | (with_reducible refine Kd.C_drewN ?_ _) | (with_reducible refine Kd.C_drew ?_))); (case side2 => exact HC0_4.out); rintro e w23 ⟨v508, rfl, ho0, hb⟩; refine ⟨_, rfl, ?_⟩; have HO509 := Aside0.mk (Kd.R_lower ho0 (below_size (hb1_ HB.out GE501.out))); replace BK501 := BK501.bb hb; replace HB := HB.s1 GE501 hb; (try clear hb); (try clear ho0); obtain ⟨Ao24, co24, eo24⟩ := Kd.R_slice HO509.out; subst eo24) | (refine gl_ 21 Try.func15 #[.agg #[.int .i64 t503, .int .i64 t504, .int .i64 t505, .int .i64 t506, .slice Ao24 t507.length co24], .int .i64 a1] ?_; (with_reducible refine (spec_TrappedCells.calls k t503 t504 t505 t506 _ _ t507 a1 t510 _ ?side1 ?side2 A9.out).mono ?_); (case side1 => repeat (first | exact (Kd.R_reads' HO509.out).2.2 | (with_reducible refine Kd.C_alloc ?_ _) | (with_reducible refine Kd.C_drewN ?_ _) | (with_reducible refine Kd.C_drew ?_))); (case side2 => exact (Kd.R_reads' HO509.out).2.1); rintro e w25 ⟨v511, rfl, ho0, hb⟩; refine ⟨_, rfl, ?_⟩; replace HO509 := HO509.kb hb; have HO512 := Aside0.mk (Kd.R_lower ho0 (below_size (hb1_ HB.out GE501.out))); replace BK501 := BK501.bb hb; replace HB := HB.s1 GE501 hb; (try clear hb); (try clear ho0); obtain ⟨hcz26_0, hcz26_1, hcz26_2, hcz26_3, hcz26_4⟩ := cz5_ BK501.out; obtain ⟨hfz26_0, hfz26_1, hfz26_2, hfz26_3, hfz26_4⟩ := fz5_ BK501.out) | (refine gl_ 23 Try.func10 #[.agg #[.int .i64 a0_0, .int .i64 a0_1, .int .i64 a0_2, .int .i64 a0_3, .slice A0_4 l0_4.length c0_4]] ?_; (with_reducible refine (laws_toTimed.calls k a0_0 a0_1 a0_2 a0_3 _ _ l0_4 t513 t514 t515 t516 t517 _ ?side1 ?side2 A10.out).mono ?_); (case side1 => repeat (first | exact (Kd.C_below HR0_4.out HB.out) | (with_reducible refine Kd.C_alloc ?_ _) | (with_reducible refine Kd.C_drewN ?_ _) | (with_reducible refine Kd.C_drew ?_))); (case side2 => exact HC0_4.out); rintro e w27 ⟨v518, rfl, ho0, hb⟩; refine ⟨_, rfl, ?_⟩; replace HO512 := HO512.kb hb; have HO519 := Aside0.mk (Kd.R_lower (Kd.R_new' ho0 (Kd.R_lt (kr_ HO509.out))) (below_size (hb1_ HB.out GE501.out))); replace HO509 := Aside0.mk (Kd.R_elder' (kr_ HO509.out) (Kd.R_base ho0) hb); replace BK501 := BK501.bb hb; replace HB := HB.s1 GE501 hb; (try clear hb); (try clear ho0)) | (refine box_ (N := 7) (cs := #[.int .i64 0, .int .i64 0, .int .i64 0, .int .i64 0, .slice none 0 0]) (t := 36) ?_; intro gb520 hg w28 hbox hb; replace HO509 := HO509.kb hb; replace HO512 := HO512.kb hb; replace HO519 := HO519.kb hb; have BK520 := Aside0.mk (hbox); have GW520 := HB.g1 GE501 hg; have GE520 := HB.g1 GE501 hg; replace HB := HB.s1 GE501 hb; have NB501_520 := BK501.nl hg; have NB520_501 := BK501.nr hg; replace BK501 := BK501.bb hb; clear hb hbox hg; have hnb29 := NB520_501.out; have hnc29 := NB501_520.out; obtain ⟨hcz30_0, hcz30_1, hcz30_2, hcz30_3, hcz30_4⟩ := cz5_ BK520.out; obtain ⟨hfz30_0, hfz30_1, hfz30_2, hfz30_3, hfz30_4⟩ := fz5_ BK520.out; obtain ⟨Ao31, co31, eo31⟩ := Kd.R_slice HO519.out; subst eo31) | (refine gl_ 26 Try.func16 #[.agg #[.int .i64 t513, .int .i64 t514, .int .i64 t515, .int .i64 t516, .slice Ao31 t517.length co31], .int .i64 a1] ?_; (with_reducible refine (impl_TrappedCells.calls k t513 t514 t515 t516 _ _ t517 a1 t521 _ ?side1 ?side2 A11.out).mono ?_); (case side1 => refine (Kd.R_reads' (e := 56) (base := w.heap.size) (ok := fun k_ => (True ∧ some k_ ≠ (.slice Ao24 t507.length co24 : Value).ownBlock)) (n := t517.length) (c := co31) ?_).2.2; exact (rq5_ HO519.out BK520.out)); (case side2 => exact (Kd.R_reads' HO519.out).2.1); rintro e w32 ⟨v522, rfl, ho0, hb⟩; refine ⟨_, rfl, ?_⟩; have n0_ := Aside0.mk (Kd.R_below (rq5_ HO509.out BK520.out) hb); have n1_ := Aside0.mk (Kd.R_elder' (rq5_ HO512.out BK520.out) (Kd.R_base ho0) hb); have n2_ := Aside0.mk (Kd.R_below (rq5_ HO519.out BK520.out) hb); have n3_ := Aside0.mk (Kd.R_lower (Kd.R_new' ho0 (Kd.R_lt (rq5_ HO512.out BK520.out))) (below_size (hb2_ HB.out GE501.out GE520.out))); have n4_ := Aside0.mk (blk_below (g := gb501) (o := .cells #[.int .i64 a0_0, .int .i64 a0_1, .int .i64 a0_2, .int .i64 a0_3, .slice A0_4 l0_4.length c0_4] 28 (0, 0)) (by (with_reducible repeat (first | refine blk_drewN ?_ _ | refine blk_drew ?_ | refine blk_alloc ?_ _)); refine blk_far ?_ NB501_520.out _; (with_reducible repeat (first | refine blk_drewN ?_ _ | refine blk_drew ?_ | refine blk_alloc ?_ _)); refine blk_far ?_ NB501_520.out _; (with_reducible repeat (first | refine blk_drewN ?_ _ | refine blk_drew ?_ | refine blk_alloc ?_ _)); refine blk_far ?_ NB501_520.out _; (with_reducible repeat (first | refine blk_drewN ?_ _ | refine blk_drew ?_ | refine blk_alloc ?_ _)); refine blk_far ?_ NB501_520.out _; (with_reducible repeat (first | refine blk_drewN ?_ _ | refine blk_drew ?_ | refine blk_alloc ?_ _)); refine blk_far ?_ NB501_520.out _; (with_reducible repeat (first | refine blk_drewN ?_ _ | refine blk_drew ?_ | refine blk_alloc ?_ _)); exact BK501.out) hb); have n5_ := Aside0.mk (blk_below (bq5_ BK520.out) hb); have n6_ := HB.s2 GE501 GE520 hb; clear HO509; clear HO512; clear HO519; clear BK501; clear BK520; clear HB; have HO509 := n0_; have HO512 := n1_; have HO519 := n2_; have HO523 := n3_; have BK501 := n4_; have BK520 := n5_; have HB := n6_; clear n0_ n1_ n2_ n3_ n4_ n5_ n6_; (try clear hb); (try clear ho0); obtain ⟨Ao33, co33, eo33⟩ := Kd.R_slice HO523.out; subst eo33; obtain ⟨Ao34, co34, eo34⟩ := Kd.R_slice HO512.out; subst eo34) | (refine gl_ 29 Try.func17 #[.slice Ao33 t521.length co33, .slice Ao34 t510.length co34] ?_; (with_reducible refine (laws_eqIntS.calls k _ _ t521 _ _ t510 true _ ?side1 ?side2 ?side3 ?side4 A12.out).mono ?_); (case side1 => repeat (first | exact (Kd.R_reads' HO523.out).2.2 | (with_reducible refine Kd.C_alloc ?_ _) | (with_reducible refine Kd.C_drewN ?_ _) | (with_reducible refine Kd.C_drew ?_))); (case side2 => exact (Kd.R_reads' HO523.out).2.1); (case side3 => repeat (first | exact (Kd.R_reads' HO512.out).2.2 | (with_reducible refine Kd.C_alloc ?_ _) | (with_reducible refine Kd.C_drewN ?_ _) | (with_reducible refine Kd.C_drew ?_))); (case side4 => exact (Kd.R_reads' HO512.out).2.1); rintro e w' ⟨rfl, ⟨nd, rfl⟩⟩; refine ⟨_, rfl, ?_⟩))
    (try (rw [drewN_self w32]; generalize hq_ : World.drewN w32 _ = w32; have n0_ : Aside0 (Kd.R k56 56 w32 w.heap.size (fun k_ => some k_ ≠ (.slice Ao31 t517.length co31 : Value).ownBlock) (.slice Ao24 t507.length co24) t507) := ⟨by rw [← hq_]; exact (by (with_reducible repeat (first | apply Kd.R_alloc | apply Kd.R_drewN | apply Kd.R_drew)); exact Kd.R_mono HO509.out (fun _ hk => hk.2))⟩; have n1_ : Aside0 (Kd.R (Kd.int .i64) 3 w32 w.heap.size (fun k_ => some k_ ≠ (.slice Ao33 t521.length co33 : Value).ownBlock) (.slice Ao34 t510.length co34) t510) := ⟨by rw [← hq_]; exact (by (with_reducible repeat (first | apply Kd.R_alloc | apply Kd.R_drewN | apply Kd.R_drew)); exact Kd.R_mono HO512.out (fun _ hk => hk.2))⟩; have n2_ : Aside0 (Kd.R k56 56 w32 w.heap.size (fun k_ => some k_ ≠ (.slice Ao24 t507.length co24 : Value).ownBlock) (.slice Ao31 t517.length co31) t517) := ⟨by rw [← hq_]; exact (by (with_reducible repeat (first | apply Kd.R_alloc | apply Kd.R_drewN | apply Kd.R_drew)); exact Kd.R_mono HO519.out (fun _ hk => hk.2))⟩; have n3_ : Aside0 (Kd.R (Kd.int .i64) 3 w32 w.heap.size (fun k_ => some k_ ≠ (.slice Ao34 t510.length co34 : Value).ownBlock) (.slice Ao33 t521.length co33) t521) := ⟨by rw [← hq_]; exact (by (with_reducible repeat (first | apply Kd.R_alloc | apply Kd.R_drewN | apply Kd.R_drew)); exact Kd.R_mono HO523.out (fun _ hk => hk.2))⟩; have n4_ : Aside0 (w32.heap[gb501]? = some (.cells #[.int .i64 a0_0, .int .i64 a0_1, .int .i64 a0_2, .int .i64 a0_3, .slice A0_4 l0_4.length c0_4] 28 (0, 0))) := ⟨by rw [← hq_]; exact (bk_ BK501.out)⟩; have n5_ : Aside0 (w32.heap[gb520]? = some (.cells #[.int .i64 t513, .int .i64 t514, .int .i64 t515, .int .i64 t516, .slice Ao31 t517.length co31] 36 (0, 0))) := ⟨by rw [← hq_]; exact (bk_ BK520.out)⟩; have n6_ : Aside0 (Below w.heap.size w w32) := ⟨by rw [← hq_]; exact (hb2_ HB.out GE501.out GE520.out)⟩; clear HO509 HO512 HO519 HO523 BK501 BK520 HB hq_; have HO509 := n0_; have HO512 := n1_; have HO519 := n2_; have HO523 := n3_; have BK501 := n4_; have BK520 := n5_; have HB := n6_; clear n0_ n1_ n2_ n3_ n4_ n5_ n6_))
    replace HO509 := Aside0.mk (Kd.R_drew HO509.out)
    replace HO512 := Aside0.mk (Kd.R_drew HO512.out)
    replace HO519 := Aside0.mk (Kd.R_drew HO519.out)
    replace HO523 := Aside0.mk (Kd.R_drew HO523.out)
    replace BK501 := Aside0.mk (blk_drew BK501.out)
    replace BK520 := Aside0.mk (blk_drew BK520.out)
    replace HB := Aside0.mk (below_drew1 HB.out)
    refine start_ (n := 5) (S := fun w' => w'.cell? ⟨gb520, 0, none⟩ = some (.int .i64 t513) ∧ w'.cell? ⟨gb520, 1, none⟩ = some (.int .i64 t514) ∧ w'.cell? ⟨gb520, 2, none⟩ = some (.int .i64 t515) ∧ w'.cell? ⟨gb520, 3, none⟩ = some (.int .i64 t516) ∧ w'.cell? ⟨gb520, 4, none⟩ = some (.slice Ao31 t517.length co31) ∧ w'.cell? ⟨gb501, 0, none⟩ = some (.int .i64 a0_0) ∧ w'.cell? ⟨gb501, 1, none⟩ = some (.int .i64 a0_1) ∧ w'.cell? ⟨gb501, 2, none⟩ = some (.int .i64 a0_2) ∧ w'.cell? ⟨gb501, 3, none⟩ = some (.int .i64 a0_3) ∧ w'.cell? ⟨gb501, 4, none⟩ = some (.slice A0_4 l0_4.length c0_4)) (ds := []) #[false, false, false, false, false] (by kernel_rfl) rfl rfl ⟨BK520.c 0, BK520.c 1, BK520.c 2, BK520.c 3, BK520.c 4, BK501.c 0, BK501.c 1, BK501.c 2, BK501.c 3, BK501.c 4⟩ (fun hHeld => ?_)
    generalize w32.drew = w35 at HO509 HO512 HO519 HO523 BK501 BK520 HB hHeld ⊢
    refine take_ (i := 0) (N := some 31) (v := ?_) (a' := ?_) #[true, false, false, false, false] rfl rfl (by kernel_rfl) (fun _ _ _ h => h) (Or.inl ⟨by rfl, ?_⟩) hHeld ?_ ?_
    rotate_left
    ·rintro w' ⟨s0, s1, s2, s3, s4, s5, s6, s7, s8, s9⟩
     go_simp
     with_reducible rfl
    rotate_left
    ·simp only [Act.put, List.setIfInBounds_toArray, List.set_cons_zero, List.set_cons_succ, i64_w, i32_w]
     rfl
    refine take_ (i := 1) (N := some 32) (v := ?_) (a' := ?_) #[true, true, false, false, false] rfl rfl (by kernel_rfl) (fun _ _ _ h => h) (Or.inl ⟨by rfl, ?_⟩) hHeld ?_ ?_
    rotate_left
    ·rintro w' ⟨s0, s1, s2, s3, s4, s5, s6, s7, s8, s9⟩
     go_simp
     with_reducible rfl
    rotate_left
    ·simp only [Act.put, List.setIfInBounds_toArray, List.set_cons_zero, List.set_cons_succ, i64_w, i32_w]
     rfl
    refine one_ (i := 2) (N := some 33) #[true, true, true, false, false] rfl rfl (by kernel_rfl) (by decide) (fun K hK => ?_)
    refine gq_ Try.func10 #[.agg #[.int .i64 a0_0, .int .i64 a0_1, .int .i64 a0_2, .int .i64 a0_3, .slice A0_4 l0_4.length c0_4]] ?_
    with_reducible refine (laws_toTimed.calls k a0_0 a0_1 a0_2 a0_3 _ _ l0_4 t525 t526 t527 t528 t529 _ ?side1 ?side2 A14.out).mono ?_
    (case side1 => repeat (first | exact (Kd.C_below HR0_4.out HB.out) | (with_reducible refine Kd.C_alloc ?_ _) | (with_reducible refine Kd.C_drewN ?_ _) | (with_reducible refine Kd.C_drew ?_)))
    (case side2 => exact HC0_4.out)
    rintro e w36 ⟨v530, rfl, ho0, hb⟩
    refine ⟨_, rfl, ?_⟩
    have n0_ := Aside0.mk (Kd.R_elder' (kr_ HO509.out) (Kd.R_base ho0) hb)
    have n1_ := HO512.kb hb
    have n2_ := Aside0.mk (Kd.R_elder' (kr_ HO519.out) (Kd.R_base ho0) hb)
    have n3_ := HO523.kb hb
    have n4_ := Aside0.mk (Kd.R_lower (Kd.R_new' (Kd.R_new' ho0 (Kd.R_lt (kr_ HO509.out))) (Kd.R_lt (kr_ HO519.out))) (below_size (hb2_ HB.out GE501.out GE520.out)))
    have n5_ := BK501.bb hb
    have n6_ := BK520.bb hb
    have n7_ := HB.s2 GE501 GE520 hb
    clear HO509
    clear HO512
    clear HO519
    clear HO523
    clear BK501
    clear BK520
    clear HB
    have HO509 := n0_
    have HO512 := n1_
    have HO519 := n2_
    have HO523 := n3_
    have HO531 := n4_
    have BK501 := n5_
    have BK520 := n6_
    have HB := n7_
    clear n0_ n1_ n2_ n3_ n4_ n5_ n6_ n7_
    skip
    (try clear hb2)
    (try clear hk)
    (try clear hi)
    (try clear ho0)
    obtain ⟨Ao37, co37, eo37⟩ := Kd.R_slice HO531.out
    (first | subst eo37 | (injection eo37 with f1_ f2_ f3_; have f4_ := f1_.symm; have f5_ := f3_.symm; clear f1_ f2_ f3_; subst f4_; subst f5_))
    refine hK.out _ _ ⟨BK520.c 0, BK520.c 1, BK520.c 2, BK520.c 3, BK520.c 4, BK501.c 0, BK501.c 1, BK501.c 2, BK501.c 3, BK501.c 4⟩ (fun hHeld => ?_)
    clear hK K
    refine nm_ ?_
    refine one_ (i := 3) (N := some 34) #[true, true, true, true, false] rfl rfl (by kernel_rfl) (by decide) (fun K hK => ?_)
    refine gq_ Try.func12 #[.agg #[.int .i64 t513, .int .i64 t514, .int .i64 t515, .int .i64 t516, .slice Ao31 t517.length co31], .agg #[.int .i64 t525, .int .i64 t526, .int .i64 t527, .int .i64 t528, .slice Ao37 t529.length co37]] ?_
    with_reducible refine (laws_eqTimed.calls k t513 t514 t515 t516 _ _ t517 t525 t526 t527 t528 _ _ t529 true _ ?side1 ?side2 ?side3 ?side4 A15.out).mono ?_
    (case side1 => repeat (first | exact (Kd.R_reads' HO519.out).2.2 | (with_reducible refine Kd.C_alloc ?_ _) | (with_reducible refine Kd.C_drewN ?_ _) | (with_reducible refine Kd.C_drew ?_)))
    (case side2 => exact (Kd.R_reads' HO519.out).2.1)
    (case side3 => repeat (first | exact (Kd.R_reads' HO531.out).2.2 | (with_reducible refine Kd.C_alloc ?_ _) | (with_reducible refine Kd.C_drewN ?_ _) | (with_reducible refine Kd.C_drew ?_)))
    (case side4 => exact (Kd.R_reads' HO531.out).2.1)
    rintro e w38 ⟨rfl, hb⟩
    refine ⟨_, rfl, ?_⟩
    replace HO509 := HO509.kb hb
    replace HO512 := HO512.kb hb
    replace HO519 := HO519.kb hb
    replace HO523 := HO523.kb hb
    replace HO531 := HO531.kb hb
    replace BK501 := BK501.bb hb
    replace BK520 := BK520.bb hb
    replace HB := HB.s2 GE501 GE520 hb
    skip
    (try clear hb2)
    (try clear hk)
    (try clear hi)
    refine hK.out _ _ ⟨BK520.c 0, BK520.c 1, BK520.c 2, BK520.c 3, BK520.c 4, BK501.c 0, BK501.c 1, BK501.c 2, BK501.c 3, BK501.c 4⟩ (fun hHeld => ?_)
    clear hK K
    refine nm_ ?_
    refine pure_ (i := 4) (N := some 35) (v := ?_) (a' := ?_) #[true, true, true, true, true] rfl rfl (by kernel_rfl) (fun _ _ _ h => h) (Or.inl ⟨by rfl, ?_⟩) ?_ ?_
    rotate_left
    ·intro w'
     go_simp
     with_reducible rfl
    rotate_left
    ·simp only [Act.put, List.setIfInBounds_toArray, List.set_cons_zero, List.set_cons_succ, i64_w, i32_w]
     rfl
    refine done_ (by kernel_rfl) ?_
    obtain ⟨hcz39_0, hcz39_1, hcz39_2, hcz39_3, hcz39_4⟩ := cz5_ BK520.out
    obtain ⟨hfz39_0, hfz39_1, hfz39_2, hfz39_3, hfz39_4⟩ := fz5_ BK520.out
    go_upto_region 14 with ((with_reducible refine gw_ ?_); first | (refine gl_ 38 Try.func18 #[.agg #[.int .i64 t513, .int .i64 t514, .int .i64 t515, .int .i64 t516, .slice Ao31 t517.length co31], .int .i64 1] ?_; (with_reducible refine (laws_markTimed.calls k t513 t514 t515 t516 (fun k_ => some k_ = (.slice Ao31 t517.length co31 : Value).ownBlock) (.slice Ao31 t517.length co31) t517 1 t533 t534 w _ ?side1 ?side2 A17.out).mono ?_); (case side1 => repeat (first | (with_reducible first | exact HB.out | apply below_alloc | apply pw_below_drewN | apply below_drew1 | refine below_set ?_ GE501.out | refine below_set ?_ GE520.out) | exact HB.out)); (case side2 => exact Kd.R_tight rfl HO519.out); rintro e w40 ⟨rfl, hy0, hb, hkp⟩; refine ⟨_, rfl, ?_⟩; replace BK501 := Aside0.mk (blk_kept (bk_ BK501.out) hkp (fun hs_ => (fun e_ => (Kd.R_ne HO519.out BK501.out (by decide)) e_) hs_)); replace HO509 := Aside0.mk (Kd.R_mono (ok' := fun k_ => some k_ ≠ (.slice Ao31 t517.length co31 : Value).ownBlock ∧ some k_ ≠ (.slice Ao37 t529.length co37 : Value).ownBlock) (Kd.R_keptB (HO509.out) hkp (fun k_ hk_ hs_ => by first | exact hk_.1.2 hs_ | exact hk_.1 hs_ | exact hk_.2 hs_)) (fun k_ hk_ => by first | exact ⟨hk_.1.1.2, hk_.1.2⟩ | exact hk_.1 | exact ⟨hk_.1.1.1.2, hk_.1.1.2⟩ | exact ⟨hk_.1.1.1, hk_.1.1.2⟩ | exact ⟨hk_.1.1.1.2, hk_.1.2⟩)); replace HO512 := Aside0.mk (Kd.R_mono (ok' := fun k_ => some k_ ≠ (.slice Ao33 t521.length co33 : Value).ownBlock) (Kd.R_keptB ((Kd.R_apart' HO512.out (Kd.R_typed HO519.out) (by decide))) hkp (fun k_ hk_ hs_ => by first | exact hk_.2 hs_ | exact hk_.1.2 hs_ | exact hk_.1 hs_)) (fun k_ hk_ => by first | exact hk_.1.1.2 | exact hk_.1.1 | exact hk_.1)); replace BK520 := Aside0.mk (blk_kept (bk_ BK520.out) hkp (fun hs_ => (fun e_ => (Kd.R_ne HO519.out BK520.out (by decide)) e_) hs_)); replace HO523 := Aside0.mk (Kd.R_mono (ok' := fun k_ => some k_ ≠ (.slice Ao34 t510.length co34 : Value).ownBlock) (Kd.R_keptB ((Kd.R_apart' HO523.out (Kd.R_typed HO519.out) (by decide))) hkp (fun k_ hk_ hs_ => by first | exact hk_.2 hs_ | exact hk_.1.2 hs_ | exact hk_.1 hs_)) (fun k_ hk_ => by first | exact hk_.1.1.2 | exact hk_.1.1 | exact hk_.1)); replace HO519 := Aside0.mk (Kd.R_reok rfl hy0 (fun k_ e_ => HO519.out.1 k_ e_)); replace HO531 := Aside0.mk (Kd.R_mono (ok' := fun k_ => some k_ ≠ (.slice Ao24 t507.length co24 : Value).ownBlock ∧ some k_ ≠ (.slice Ao31 t517.length co31 : Value).ownBlock) (Kd.R_keptB (HO531.out) hkp (fun k_ hk_ hs_ => by first | exact hk_.2 hs_ | exact hk_.1.2 hs_ | exact hk_.1 hs_)) (fun k_ hk_ => by first | exact ⟨hk_.1.1.2, hk_.1.2⟩ | exact hk_.1 | exact ⟨hk_.1.1.1.2, hk_.1.1.2⟩ | exact ⟨hk_.1.1.1, hk_.1.1.2⟩ | exact ⟨hk_.1.1.1.2, hk_.1.2⟩)); replace HB := Aside0.mk (hb); (try clear hb); (try clear hkp); (try clear hy0)))
    (try simp only [Act.put, List.setIfInBounds_toArray, List.set_cons_zero, List.set_cons_succ])
    go_cut [46] (fun v46 wc => ∃ (kq : Nat) (x46_17 : Bool), v46 = .bool x46_17 ∧ Aside0 (laws_FnExactTrappedCells.j0 kq a1 t510 t521 x46_17 a0_0 a0_1 a0_2 a0_3 l0_4 = some r) ∧ Aside0 (kq ≤ k) ∧ Aside0 (Kd.R (Kd.int .i64) 3 wc w.heap.size (fun k_ => some k_ ≠ ((.slice Ao33 t521.length co33) : Value).ownBlock) (.slice Ao34 t510.length co34) t510) ∧ Aside0 (Kd.R (Kd.int .i64) 3 wc w.heap.size (fun k_ => some k_ ≠ ((.slice Ao34 t510.length co34) : Value).ownBlock) (.slice Ao33 t521.length co33) t521) ∧ Aside0 (Kd.R k56 56 wc w.heap.size (fun _ => True) (.slice Ao31 t517.length co31) t534) ∧ Aside0 (wc.heap[gb501]? = some (.cells #[.int .i64 a0_0, .int .i64 a0_1, .int .i64 a0_2, .int .i64 a0_3, (.slice A0_4 l0_4.length c0_4)] 28 (0, 0))) ∧ Aside0 (wc.heap[gb520]? = some (.cells #[.int .i64 t513, .int .i64 t514, .int .i64 t515, .int .i64 t516, (.slice Ao31 t517.length co31)] 36 (0, 0))) ∧ Aside0 (Below w.heap.size w wc))
    case first =>
     have H := HC18.out
     clear HC18
     by_cases c41 : t533 < 0
     ·rw [if_pos c41] at H
      have c41b0 : decide (t533 < 0) = true := decide_eq_true c41
      clear c41
      (first | rw [c41b0] | (simp only [i64_w, i32_w]; rw [c41b0]) | skip)
      have H' := Aside0.mk H
      clear H
      go_wp2
      go_meet
      case rel => exact ⟨_, (true), (by first | rfl | (simp; done) | (simp [*]; done)), H', ⟨by first | omega | exact Nat.le_refl _⟩, ⟨kr_ HO512.out⟩, ⟨kr_ HO523.out⟩, ⟨by (with_reducible repeat (first | apply Kd.R_alloc | apply Kd.R_drewN | apply Kd.R_drew)); exact Kd.R_mono HO519.out (fun _ hk => trivial)⟩, ⟨bk_ BK501.out⟩, ⟨bk_ BK520.out⟩, ⟨hb2_ HB.out GE501.out GE520.out⟩⟩
     ·rw [if_neg c41] at H
      have c41b0 : decide (t533 < 0) = false := decide_eq_false c41
      clear c41
      (first | rw [c41b0] | (simp only [i64_w, i32_w]; rw [c41b0]) | skip)
      replace H := Option.bind_eq_some_iff.mp H
      obtain ⟨t535, A420, H⟩ := H
      replace H : (laws_FnExactTrappedCells.j0 k a1 t510 t521 (!t535) a0_0 a0_1 a0_2 a0_3 l0_4) = some r := H
      have A42 := Aside0.mk A420
      clear A420
      have H' := Aside0.mk H
      clear H
      go_wp2_with (first | (go_at_call 17; (with_reducible refine (laws_eqIntS.calls k _ _ t521 _ _ t510 t535 _ ?side1 ?side2 ?side3 ?side4 A42.out).mono ?_); (case side1 => repeat (first | exact (Kd.R_reads' HO523.out).2.2 | (with_reducible refine Kd.C_alloc ?_ _) | (with_reducible refine Kd.C_drewN ?_ _) | (with_reducible refine Kd.C_drew ?_))); (case side2 => exact (Kd.R_reads' HO523.out).2.1); (case side3 => repeat (first | exact (Kd.R_reads' HO512.out).2.2 | (with_reducible refine Kd.C_alloc ?_ _) | (with_reducible refine Kd.C_drewN ?_ _) | (with_reducible refine Kd.C_drew ?_))); (case side4 => exact (Kd.R_reads' HO512.out).2.1); rintro e w' ⟨rfl, ⟨nd, rfl⟩⟩))
      go_meet
      case rel => exact ⟨_, (!t535), (by first | rfl | (simp; done) | (simp [*]; done)), H', ⟨by first | omega | exact Nat.le_refl _⟩, ⟨kr_ HO512.out⟩, ⟨kr_ HO523.out⟩, ⟨by (with_reducible repeat (first | apply Kd.R_alloc | apply Kd.R_drewN | apply Kd.R_drew)); exact Kd.R_mono HO519.out (fun _ hk => trivial)⟩, ⟨bk_ BK501.out⟩, ⟨bk_ BK520.out⟩, ⟨hb2_ HB.out GE501.out GE520.out⟩⟩
    case rest =>
     clear HC18
     try clear c1
     try clear c2
     try clear p2
     try clear c4
     try clear c4b0
     try clear c5
     try clear c8
     try clear c10
     try clear c12
     try clear c13
     try clear c15
     try clear c16
     try clear c17
     try clear c18
     try clear c29
     try clear c41
     try clear c41b0
     try clear hcz20_0
     try clear hcz20_1
     try clear hcz20_2
     try clear hcz20_3
     try clear hcz20_4
     try clear hcz22_0
     try clear hcz22_1
     try clear hcz22_2
     try clear hcz22_3
     try clear hcz22_4
     try clear hcz26_0
     try clear hcz26_1
     try clear hcz26_2
     try clear hcz26_3
     try clear hcz26_4
     try clear hcz30_0
     try clear hcz30_1
     try clear hcz30_2
     try clear hcz30_3
     try clear hcz30_4
     try clear hcz39_0
     try clear hcz39_1
     try clear hcz39_2
     try clear hcz39_3
     try clear hcz39_4
     try clear hcz6_0
     try clear hcz6_1
     try clear hcz6_2
     try clear hcz6_3
     try clear hcz6_4
     try clear hfz20_0
     try clear hfz20_1
     try clear hfz20_2
     try clear hfz20_3
     try clear hfz20_4
     try clear hfz22_0
     try clear hfz22_1
     try clear hfz22_2
     try clear hfz22_3
     try clear hfz22_4
     try clear hfz26_0
     try clear hfz26_1
     try clear hfz26_2
     try clear hfz26_3
     try clear hfz26_4
     try clear hfz30_0
     try clear hfz30_1
     try clear hfz30_2
     try clear hfz30_3
     try clear hfz30_4
     try clear hfz39_0
     try clear hfz39_1
     try clear hfz39_2
     try clear hfz39_3
     try clear hfz39_4
     try clear hfz6_0
     try clear hfz6_1
     try clear hfz6_2
     try clear hfz6_3
     try clear hfz6_4
     obtain ⟨kq, x46_17, rfl, HA, HJ17, HO_6, HO_8, HO_521004, BK501, BK520, HB⟩ := hcut
     have hl521004_17 := (Kd.R_reads' HO_521004.out).1
     rw [hl521004_17] at HO_521004
     (try simp only [hl521004_17])
     (try simp only [hl521004_17] at BK501)
     (try simp only [hl521004_17] at BK520)
     (try simp only [hl521004_17] at HO_6)
     (try simp only [hl521004_17] at HO_8)
     cases kq with
     | zero => exact absurd HA.out (by simp [laws_FnExactTrappedCells.j0])
     | succ kj17 =>
      have H := HA.out
      clear HA
      simp only [laws_FnExactTrappedCells.j0] at H
      by_cases c43 : x46_17 = true
      ·subst c43
       have H1 : (some false) = some r := by rw [if_pos rfl] at H; exact H
       clear H
       have H := H1
       clear H1
       obtain rfl := Option.some.inj H
       go_wp2
       go_ret
       exact ⟨ex_, hb2_ HB.out GE501.out GE520.out⟩
      ·replace c43 := Bool.eq_false_iff.mpr c43
       subst c43
       have H1 : ((laws_markIntS.f kj17 t521 1).bind fun bt536 => ((laws_heldIntS.f kj17 bt536.2 1).bind fun t538 => (if t538 < 0 then (some false) else (if t538 = bt536.1 then ((laws_toTimed.f kj17 a0_0 a0_1 a0_2 a0_3 l0_4).bind fun bt539 => ((impl_TrappedCells.f kj17 bt539.1 bt539.2.1 bt539.2.2.1 bt539.2.2.2.1 bt539.2.2.2.2 a1).bind fun t546 => ((laws_eqIntS.f kj17 t546 t510).bind fun t549 => (if t549 = true then ((laws_heldIntS.f kj17 bt536.2 1).bind fun t550 => (if t550 < 0 then (some false) else (if t550 = bt536.1 then (some true) else (some false)))) else (some false))))) else (some false))))) = some r := by rw [if_neg (show ¬ (false = true) by decide)] at H; exact H
       clear H
       have H := H1
       clear H1
       replace H := Option.bind_eq_some_iff.mp H
       obtain ⟨⟨t536, t537⟩, A440, H⟩ := H
       replace H : ((laws_heldIntS.f kj17 t537 1).bind fun t538 => (if t538 < 0 then (some false) else (if t538 = t536 then ((laws_toTimed.f kj17 a0_0 a0_1 a0_2 a0_3 l0_4).bind fun bt539 => ((impl_TrappedCells.f kj17 bt539.1 bt539.2.1 bt539.2.2.1 bt539.2.2.2.1 bt539.2.2.2.2 a1).bind fun t546 => ((laws_eqIntS.f kj17 t546 t510).bind fun t549 => (if t549 = true then ((laws_heldIntS.f kj17 t537 1).bind fun t550 => (if t550 < 0 then (some false) else (if t550 = t536 then (some true) else (some false)))) else (some false))))) else (some false)))) = some r := H
       have A44 := Aside0.mk A440
       clear A440
       replace H := Option.bind_eq_some_iff.mp H
       obtain ⟨t538, A450, H⟩ := H
       replace H : (if t538 < 0 then (some false) else (if t538 = t536 then ((laws_toTimed.f kj17 a0_0 a0_1 a0_2 a0_3 l0_4).bind fun bt539 => ((impl_TrappedCells.f kj17 bt539.1 bt539.2.1 bt539.2.2.1 bt539.2.2.2.1 bt539.2.2.2.2 a1).bind fun t546 => ((laws_eqIntS.f kj17 t546 t510).bind fun t549 => (if t549 = true then ((laws_heldIntS.f kj17 t537 1).bind fun t550 => (if t550 < 0 then (some false) else (if t550 = t536 then (some true) else (some false)))) else (some false))))) else (some false))) = some r := H
       have A45 := Aside0.mk A450
       clear A450
       by_cases c46 : t538 < 0
       ·rw [if_pos c46] at H
        have c46b0 : decide (t538 < 0) = true := decide_eq_true c46
        clear c46
        obtain rfl := Option.some.inj H
        go_wp2_with ((with_reducible refine gw_ ?_); first | (refine gl_ 49 Try.func19 #[.slice Ao33 t521.length co33, .int .i64 1] ?_; (with_reducible refine (laws_markIntS.calls kj17 (fun k_ => some k_ = (.slice Ao33 t521.length co33 : Value).ownBlock) (.slice Ao33 t521.length co33) t521 1 t536 t537 w _ ?side1 ?side2 A44.out).mono ?_); (case side1 => repeat (first | (with_reducible first | exact HB.out | apply below_alloc | apply pw_below_drewN | apply below_drew1 | refine below_set ?_ GE501.out | refine below_set ?_ GE520.out) | exact HB.out)); (case side2 => exact Kd.R_tight rfl HO_8.out); rintro e w47 ⟨rfl, hy0, hb, hkp⟩; refine ⟨_, rfl, ?_⟩; replace HO_6 := Aside0.mk (Kd.R_mono (ok' := fun k_ => some k_ ≠ (.slice Ao33 t521.length co33 : Value).ownBlock) (Kd.R_keptB (HO_6.out) hkp (fun k_ hk_ hs_ => (hk_) hs_)) (fun k_ hk_ => hk_.1)); replace HO_521004 := Aside0.mk (Kd.R_mono (ok' := fun k_ => True) (Kd.R_keptB ((Kd.R_apart' HO_521004.out (Kd.R_typed HO_8.out) (by decide))) hkp (fun k_ hk_ hs_ => by first | exact hk_.2 hs_ | exact hk_.1.2 hs_ | exact hk_.1 hs_)) (fun k_ hk_ => trivial)); replace BK501 := Aside0.mk (blk_kept (bk_ BK501.out) hkp (fun hs_ => (fun e_ => (Kd.R_ne HO_8.out BK501.out (by decide)) e_) hs_)); replace BK520 := Aside0.mk (blk_kept (bk_ BK520.out) hkp (fun hs_ => (fun e_ => (Kd.R_ne HO_8.out BK520.out (by decide)) e_) hs_)); replace HO_8 := Aside0.mk (Kd.R_reok rfl hy0 (fun k_ e_ => HO_8.out.1 k_ e_)); replace HB := Aside0.mk (hb); (try clear hb); (try clear hkp); (try clear hy0)) | ((with_reducible refine gate_callee (f := 20) rfl ?_); refine goesL_ (some 52) rfl rfl Try.func20 (by kernel_rfl) rfl #[.slice Ao33 t537.length co33, .int .i64 1] rfl (by (try simp only [List.map_toArray, List.map_cons, List.map_nil]); first | done | (rw [show t537.length = t521.length from (Kd.R_reads' HO_8.out).1.symm] <;> rfl) | rfl | (simp only [List.length_drop, List.length_take]; rfl)) ?_; (with_reducible refine (laws_heldIntS.calls kj17 _ _ t537 1 t538 _ ?side1 ?side2 A45.out).mono ?_); (case side1 => repeat (first | exact (Kd.R_reads' HO_8.out).2.2 | (with_reducible refine Kd.C_alloc ?_ _) | (with_reducible refine Kd.C_drewN ?_ _) | (with_reducible refine Kd.C_drew ?_))); (case side2 => rw [show t537.length = t521.length from (Kd.R_reads' HO_8.out).1.symm]; exact (Kd.R_reads' HO_8.out).2.1); rintro e w' ⟨rfl, ⟨nd, rfl⟩⟩; refine ⟨_, rfl, ?_⟩))
        go_ret
        exact ⟨ex_, hb2_ HB.out GE501.out GE520.out⟩
       ·rw [if_neg c46] at H
        have c46b0 : decide (t538 < 0) = false := decide_eq_false c46
        clear c46
        by_cases c48 : t538 = t536
        ·rw [if_pos c48] at H
         have c48b0 : (t538 == t536) = true := beq_iff_eq.mpr c48
         have c48b1 : (t538 != t536) = false := bne_eq_false_iff_eq.mpr c48
         clear c48
         replace H := Option.bind_eq_some_iff.mp H
         obtain ⟨⟨t539, t540, t541, t542, t543⟩, A490, H⟩ := H
         replace H : ((impl_TrappedCells.f kj17 t539 t540 t541 t542 t543 a1).bind fun t546 => ((laws_eqIntS.f kj17 t546 t510).bind fun t549 => (if t549 = true then ((laws_heldIntS.f kj17 t537 1).bind fun t550 => (if t550 < 0 then (some false) else (if t550 = t536 then (some true) else (some false)))) else (some false)))) = some r := H
         have A49 := Aside0.mk A490
         clear A490
         replace H := Option.bind_eq_some_iff.mp H
         obtain ⟨t546, A500, H⟩ := H
         replace H : ((laws_eqIntS.f kj17 t546 t510).bind fun t549 => (if t549 = true then ((laws_heldIntS.f kj17 t537 1).bind fun t550 => (if t550 < 0 then (some false) else (if t550 = t536 then (some true) else (some false)))) else (some false))) = some r := H
         have A50 := Aside0.mk A500
         clear A500
         replace H := Option.bind_eq_some_iff.mp H
         obtain ⟨t549, A510, H⟩ := H
         replace H : (if t549 = true then ((laws_heldIntS.f kj17 t537 1).bind fun t550 => (if t550 < 0 then (some false) else (if t550 = t536 then (some true) else (some false)))) else (some false)) = some r := H
         have A51 := Aside0.mk A510
         clear A510
         by_cases c52 : t549 = true
         ·subst c52
          have H1 : ((laws_heldIntS.f kj17 t537 1).bind fun t550 => (if t550 < 0 then (some false) else (if t550 = t536 then (some true) else (some false)))) = some r := by rw [if_pos rfl] at H; exact H
          clear H
          have H := H1
          clear H1
          replace H := Option.bind_eq_some_iff.mp H
          obtain ⟨t550, A530, H⟩ := H
          replace H : (if t550 < 0 then (some false) else (if t550 = t536 then (some true) else (some false))) = some r := H
          have A53 := Aside0.mk A530
          clear A530
          by_cases c54 : t550 < 0
          ·rw [if_pos c54] at H
           have c54b0 : decide (t550 < 0) = true := decide_eq_true c54
           clear c54
           obtain rfl := Option.some.inj H
           go_wp2_with ((with_reducible refine gw_ ?_); first | (refine gl_ 49 Try.func19 #[.slice Ao33 t521.length co33, .int .i64 1] ?_; (with_reducible refine (laws_markIntS.calls kj17 (fun k_ => some k_ = (.slice Ao33 t521.length co33 : Value).ownBlock) (.slice Ao33 t521.length co33) t521 1 t536 t537 w _ ?side1 ?side2 A44.out).mono ?_); (case side1 => repeat (first | (with_reducible first | exact HB.out | apply below_alloc | apply pw_below_drewN | apply below_drew1 | refine below_set ?_ GE501.out | refine below_set ?_ GE520.out) | exact HB.out)); (case side2 => exact Kd.R_tight rfl HO_8.out); rintro e w55 ⟨rfl, hy0, hb, hkp⟩; refine ⟨_, rfl, ?_⟩; replace HO_6 := Aside0.mk (Kd.R_mono (ok' := fun k_ => some k_ ≠ (.slice Ao33 t521.length co33 : Value).ownBlock) (Kd.R_keptB (HO_6.out) hkp (fun k_ hk_ hs_ => (hk_) hs_)) (fun k_ hk_ => hk_.1)); replace HO_521004 := Aside0.mk (Kd.R_mono (ok' := fun k_ => True) (Kd.R_keptB ((Kd.R_apart' HO_521004.out (Kd.R_typed HO_8.out) (by decide))) hkp (fun k_ hk_ hs_ => by first | exact hk_.2 hs_ | exact hk_.1.2 hs_ | exact hk_.1 hs_)) (fun k_ hk_ => trivial)); replace BK501 := Aside0.mk (blk_kept (bk_ BK501.out) hkp (fun hs_ => (fun e_ => (Kd.R_ne HO_8.out BK501.out (by decide)) e_) hs_)); replace BK520 := Aside0.mk (blk_kept (bk_ BK520.out) hkp (fun hs_ => (fun e_ => (Kd.R_ne HO_8.out BK520.out (by decide)) e_) hs_)); replace HO_8 := Aside0.mk (Kd.R_reok rfl hy0 (fun k_ e_ => HO_8.out.1 k_ e_)); replace HB := Aside0.mk (hb); (try clear hb); (try clear hkp); (try clear hy0)) | ((with_reducible refine gate_callee (f := 20) rfl ?_); refine goesL_ (some 52) rfl rfl Try.func20 (by kernel_rfl) rfl #[.slice Ao33 t537.length co33, .int .i64 1] rfl (by (try simp only [List.map_toArray, List.map_cons, List.map_nil]); first | done | (rw [show t537.length = t521.length from (Kd.R_reads' HO_8.out).1.symm] <;> rfl) | rfl | (simp only [List.length_drop, List.length_take]; rfl)) ?_; (with_reducible refine (laws_heldIntS.calls kj17 _ _ t537 1 t538 _ ?side1 ?side2 A45.out).mono ?_); (case side1 => repeat (first | exact (Kd.R_reads' HO_8.out).2.2 | (with_reducible refine Kd.C_alloc ?_ _) | (with_reducible refine Kd.C_drewN ?_ _) | (with_reducible refine Kd.C_drew ?_))); (case side2 => rw [show t537.length = t521.length from (Kd.R_reads' HO_8.out).1.symm]; exact (Kd.R_reads' HO_8.out).2.1); rintro e w' ⟨rfl, ⟨nd, rfl⟩⟩; refine ⟨_, rfl, ?_⟩; have hnb56 := NB501_520.out; have hnc56 := NB520_501.out; obtain ⟨hcz57_0, hcz57_1, hcz57_2, hcz57_3, hcz57_4⟩ := cz5_ BK501.out; obtain ⟨hfz57_0, hfz57_1, hfz57_2, hfz57_3, hfz57_4⟩ := fz5_ BK501.out) | (refine gl_ 59 Try.func10 #[.agg #[.int .i64 a0_0, .int .i64 a0_1, .int .i64 a0_2, .int .i64 a0_3, .slice A0_4 l0_4.length c0_4]] ?_; (with_reducible refine (laws_toTimed.calls kj17 a0_0 a0_1 a0_2 a0_3 _ _ l0_4 t539 t540 t541 t542 t543 _ ?side1 ?side2 A49.out).mono ?_); (case side1 => repeat (first | exact (Kd.C_below HR0_4.out (hb2_ HB.out GE501.out GE520.out)) | (with_reducible refine Kd.C_alloc ?_ _) | (with_reducible refine Kd.C_drewN ?_ _) | (with_reducible refine Kd.C_drew ?_))); (case side2 => exact HC0_4.out); rintro e w58 ⟨v544, rfl, ho0, hb⟩; refine ⟨_, rfl, ?_⟩; replace HO_6 := HO_6.kb hb; replace HO_8 := HO_8.kb hb; have HO545 := Aside0.mk (Kd.R_lower (Kd.R_new' ho0 (Kd.R_lt (kr_ HO_521004.out))) (below_size (hb2_ HB.out GE501.out GE520.out))); replace HO_521004 := Aside0.mk (Kd.R_elder' (kr_ HO_521004.out) (Kd.R_base ho0) hb); replace BK501 := BK501.bb hb; replace BK520 := BK520.bb hb; replace HB := HB.s2 GE501 GE520 hb; (try clear hb); (try clear ho0); obtain ⟨Ao59, co59, eo59⟩ := Kd.R_slice HO545.out; subst eo59) | (refine gl_ 61 Try.func16 #[.agg #[.int .i64 t539, .int .i64 t540, .int .i64 t541, .int .i64 t542, .slice Ao59 t543.length co59], .int .i64 a1] ?_; (with_reducible refine (impl_TrappedCells.calls kj17 t539 t540 t541 t542 _ _ t543 a1 t546 _ ?side1 ?side2 A50.out).mono ?_); (case side1 => repeat (first | exact (Kd.R_reads' HO545.out).2.2 | (with_reducible refine Kd.C_alloc ?_ _) | (with_reducible refine Kd.C_drewN ?_ _) | (with_reducible refine Kd.C_drew ?_))); (case side2 => exact (Kd.R_reads' HO545.out).2.1); rintro e w60 ⟨v547, rfl, ho0, hb⟩; refine ⟨_, rfl, ?_⟩; replace HO_521004 := HO_521004.kb hb; replace HO545 := HO545.kb hb; have HO548 := Aside0.mk (Kd.R_lower (Kd.R_new' (Kd.R_new' ho0 (Kd.R_lt (kr_ HO_6.out))) (Kd.R_lt (kr_ HO_8.out))) (below_size (hb2_ HB.out GE501.out GE520.out))); replace HO_6 := Aside0.mk (Kd.R_elder' (kr_ HO_6.out) (Kd.R_base ho0) hb); replace HO_8 := Aside0.mk (Kd.R_elder' (kr_ HO_8.out) (Kd.R_base ho0) hb); replace BK501 := BK501.bb hb; replace BK520 := BK520.bb hb; replace HB := HB.s2 GE501 GE520 hb; (try clear hb); (try clear ho0); obtain ⟨Ao61, co61, eo61⟩ := Kd.R_slice HO548.out; subst eo61) | (refine gl_ 64 Try.func17 #[.slice Ao61 t546.length co61, .slice Ao34 t510.length co34] ?_; (with_reducible refine (laws_eqIntS.calls kj17 _ _ t546 _ _ t510 true _ ?side1 ?side2 ?side3 ?side4 A51.out).mono ?_); (case side1 => repeat (first | exact (Kd.R_reads' HO548.out).2.2 | (with_reducible refine Kd.C_alloc ?_ _) | (with_reducible refine Kd.C_drewN ?_ _) | (with_reducible refine Kd.C_drew ?_))); (case side2 => exact (Kd.R_reads' HO548.out).2.1); (case side3 => repeat (first | exact (Kd.R_reads' HO_6.out).2.2 | (with_reducible refine Kd.C_alloc ?_ _) | (with_reducible refine Kd.C_drewN ?_ _) | (with_reducible refine Kd.C_drew ?_))); (case side4 => exact (Kd.R_reads' HO_6.out).2.1); rintro e w' ⟨rfl, ⟨nd, rfl⟩⟩; refine ⟨_, rfl, ?_⟩) | ((with_reducible refine gate_callee (f := 20) rfl ?_); refine goesL_ (some 68) rfl rfl Try.func20 (by kernel_rfl) rfl #[.slice Ao33 t537.length co33, .int .i64 1] rfl (by (try simp only [List.map_toArray, List.map_cons, List.map_nil]); first | done | (rw [show t537.length = t521.length from (Kd.R_reads' HO_8.out).1.symm] <;> rfl) | rfl | (simp only [List.length_drop, List.length_take]; rfl)) ?_; (with_reducible refine (laws_heldIntS.calls kj17 _ _ t537 1 t550 _ ?side1 ?side2 A53.out).mono ?_); (case side1 => repeat (first | exact (Kd.R_reads' HO_8.out).2.2 | (with_reducible refine Kd.C_alloc ?_ _) | (with_reducible refine Kd.C_drewN ?_ _) | (with_reducible refine Kd.C_drew ?_))); (case side2 => rw [show t537.length = t521.length from (Kd.R_reads' HO_8.out).1.symm]; exact (Kd.R_reads' HO_8.out).2.1); rintro e w' ⟨rfl, ⟨nd, rfl⟩⟩; refine ⟨_, rfl, ?_⟩))
           go_ret
           exact ⟨ex_, hb2_ HB.out GE501.out GE520.out⟩
          ·rw [if_neg c54] at H
           have c54b0 : decide (t550 < 0) = false := decide_eq_false c54
           clear c54
           by_cases c62 : t550 = t536
           ·rw [if_pos c62] at H
            have c62b0 : (t550 == t536) = true := beq_iff_eq.mpr c62
            have c62b1 : (t550 != t536) = false := bne_eq_false_iff_eq.mpr c62
            clear c62
            obtain rfl := Option.some.inj H
            go_wp2_with ((with_reducible refine gw_ ?_); first | (refine gl_ 49 Try.func19 #[.slice Ao33 t521.length co33, .int .i64 1] ?_; (with_reducible refine (laws_markIntS.calls kj17 (fun k_ => some k_ = (.slice Ao33 t521.length co33 : Value).ownBlock) (.slice Ao33 t521.length co33) t521 1 t536 t537 w _ ?side1 ?side2 A44.out).mono ?_); (case side1 => repeat (first | (with_reducible first | exact HB.out | apply below_alloc | apply pw_below_drewN | apply below_drew1 | refine below_set ?_ GE501.out | refine below_set ?_ GE520.out) | exact HB.out)); (case side2 => exact Kd.R_tight rfl HO_8.out); rintro e w63 ⟨rfl, hy0, hb, hkp⟩; refine ⟨_, rfl, ?_⟩; replace HO_6 := Aside0.mk (Kd.R_mono (ok' := fun k_ => some k_ ≠ (.slice Ao33 t521.length co33 : Value).ownBlock) (Kd.R_keptB (HO_6.out) hkp (fun k_ hk_ hs_ => (hk_) hs_)) (fun k_ hk_ => hk_.1)); replace HO_521004 := Aside0.mk (Kd.R_mono (ok' := fun k_ => True) (Kd.R_keptB ((Kd.R_apart' HO_521004.out (Kd.R_typed HO_8.out) (by decide))) hkp (fun k_ hk_ hs_ => by first | exact hk_.2 hs_ | exact hk_.1.2 hs_ | exact hk_.1 hs_)) (fun k_ hk_ => trivial)); replace BK501 := Aside0.mk (blk_kept (bk_ BK501.out) hkp (fun hs_ => (fun e_ => (Kd.R_ne HO_8.out BK501.out (by decide)) e_) hs_)); replace BK520 := Aside0.mk (blk_kept (bk_ BK520.out) hkp (fun hs_ => (fun e_ => (Kd.R_ne HO_8.out BK520.out (by decide)) e_) hs_)); replace HO_8 := Aside0.mk (Kd.R_reok rfl hy0 (fun k_ e_ => HO_8.out.1 k_ e_)); replace HB := Aside0.mk (hb); (try clear hb); (try clear hkp); (try clear hy0)) | ((with_reducible refine gate_callee (f := 20) rfl ?_); refine goesL_ (some 52) rfl rfl Try.func20 (by kernel_rfl) rfl #[.slice Ao33 t537.length co33, .int .i64 1] rfl (by (try simp only [List.map_toArray, List.map_cons, List.map_nil]); first | done | (rw [show t537.length = t521.length from (Kd.R_reads' HO_8.out).1.symm] <;> rfl) | rfl | (simp only [List.length_drop, List.length_take]; rfl)) ?_; (with_reducible refine (laws_heldIntS.calls kj17 _ _ t537 1 t538 _ ?side1 ?side2 A45.out).mono ?_); (case side1 => repeat (first | exact (Kd.R_reads' HO_8.out).2.2 | (with_reducible refine Kd.C_alloc ?_ _) | (with_reducible refine Kd.C_drewN ?_ _) | (with_reducible refine Kd.C_drew ?_))); (case side2 => rw [show t537.length = t521.length from (Kd.R_reads' HO_8.out).1.symm]; exact (Kd.R_reads' HO_8.out).2.1); rintro e w' ⟨rfl, ⟨nd, rfl⟩⟩; refine ⟨_, rfl, ?_⟩; have hnb64 := NB501_520.out; have hnc64 := NB520_501.out; obtain ⟨hcz65_0, hcz65_1, hcz65_2, hcz65_3, hcz65_4⟩ := cz5_ BK501.out; obtain ⟨hfz65_0, hfz65_1, hfz65_2, hfz65_3, hfz65_4⟩ := fz5_ BK501.out) | (refine gl_ 59 Try.func10 #[.agg #[.int .i64 a0_0, .int .i64 a0_1, .int .i64 a0_2, .int .i64 a0_3, .slice A0_4 l0_4.length c0_4]] ?_; (with_reducible refine (laws_toTimed.calls kj17 a0_0 a0_1 a0_2 a0_3 _ _ l0_4 t539 t540 t541 t542 t543 _ ?side1 ?side2 A49.out).mono ?_); (case side1 => repeat (first | exact (Kd.C_below HR0_4.out (hb2_ HB.out GE501.out GE520.out)) | (with_reducible refine Kd.C_alloc ?_ _) | (with_reducible refine Kd.C_drewN ?_ _) | (with_reducible refine Kd.C_drew ?_))); (case side2 => exact HC0_4.out); rintro e w66 ⟨v544, rfl, ho0, hb⟩; refine ⟨_, rfl, ?_⟩; replace HO_6 := HO_6.kb hb; replace HO_8 := HO_8.kb hb; have HO545 := Aside0.mk (Kd.R_lower (Kd.R_new' ho0 (Kd.R_lt (kr_ HO_521004.out))) (below_size (hb2_ HB.out GE501.out GE520.out))); replace HO_521004 := Aside0.mk (Kd.R_elder' (kr_ HO_521004.out) (Kd.R_base ho0) hb); replace BK501 := BK501.bb hb; replace BK520 := BK520.bb hb; replace HB := HB.s2 GE501 GE520 hb; (try clear hb); (try clear ho0); obtain ⟨Ao67, co67, eo67⟩ := Kd.R_slice HO545.out; subst eo67) | (refine gl_ 61 Try.func16 #[.agg #[.int .i64 t539, .int .i64 t540, .int .i64 t541, .int .i64 t542, .slice Ao67 t543.length co67], .int .i64 a1] ?_; (with_reducible refine (impl_TrappedCells.calls kj17 t539 t540 t541 t542 _ _ t543 a1 t546 _ ?side1 ?side2 A50.out).mono ?_); (case side1 => repeat (first | exact (Kd.R_reads' HO545.out).2.2 | (with_reducible refine Kd.C_alloc ?_ _) | (with_reducible refine Kd.C_drewN ?_ _) | (with_reducible refine Kd.C_drew ?_))); (case side2 => exact (Kd.R_reads' HO545.out).2.1); rintro e w68 ⟨v547, rfl, ho0, hb⟩; refine ⟨_, rfl, ?_⟩; replace HO_521004 := HO_521004.kb hb; replace HO545 := HO545.kb hb; have HO548 := Aside0.mk (Kd.R_lower (Kd.R_new' (Kd.R_new' ho0 (Kd.R_lt (kr_ HO_6.out))) (Kd.R_lt (kr_ HO_8.out))) (below_size (hb2_ HB.out GE501.out GE520.out))); replace HO_6 := Aside0.mk (Kd.R_elder' (kr_ HO_6.out) (Kd.R_base ho0) hb); replace HO_8 := Aside0.mk (Kd.R_elder' (kr_ HO_8.out) (Kd.R_base ho0) hb); replace BK501 := BK501.bb hb; replace BK520 := BK520.bb hb; replace HB := HB.s2 GE501 GE520 hb; (try clear hb); (try clear ho0); obtain ⟨Ao69, co69, eo69⟩ := Kd.R_slice HO548.out; subst eo69) | (refine gl_ 64 Try.func17 #[.slice Ao69 t546.length co69, .slice Ao34 t510.length co34] ?_; (with_reducible refine (laws_eqIntS.calls kj17 _ _ t546 _ _ t510 true _ ?side1 ?side2 ?side3 ?side4 A51.out).mono ?_); (case side1 => repeat (first | exact (Kd.R_reads' HO548.out).2.2 | (with_reducible refine Kd.C_alloc ?_ _) | (with_reducible refine Kd.C_drewN ?_ _) | (with_reducible refine Kd.C_drew ?_))); (case side2 => exact (Kd.R_reads' HO548.out).2.1); (case side3 => repeat (first | exact (Kd.R_reads' HO_6.out).2.2 | (with_reducible refine Kd.C_alloc ?_ _) | (with_reducible refine Kd.C_drewN ?_ _) | (with_reducible refine Kd.C_drew ?_))); (case side4 => exact (Kd.R_reads' HO_6.out).2.1); rintro e w' ⟨rfl, ⟨nd, rfl⟩⟩; refine ⟨_, rfl, ?_⟩) | ((with_reducible refine gate_callee (f := 20) rfl ?_); refine goesL_ (some 68) rfl rfl Try.func20 (by kernel_rfl) rfl #[.slice Ao33 t537.length co33, .int .i64 1] rfl (by (try simp only [List.map_toArray, List.map_cons, List.map_nil]); first | done | (rw [show t537.length = t521.length from (Kd.R_reads' HO_8.out).1.symm] <;> rfl) | rfl | (simp only [List.length_drop, List.length_take]; rfl)) ?_; (with_reducible refine (laws_heldIntS.calls kj17 _ _ t537 1 t550 _ ?side1 ?side2 A53.out).mono ?_); (case side1 => repeat (first | exact (Kd.R_reads' HO_8.out).2.2 | (with_reducible refine Kd.C_alloc ?_ _) | (with_reducible refine Kd.C_drewN ?_ _) | (with_reducible refine Kd.C_drew ?_))); (case side2 => rw [show t537.length = t521.length from (Kd.R_reads' HO_8.out).1.symm]; exact (Kd.R_reads' HO_8.out).2.1); rintro e w' ⟨rfl, ⟨nd, rfl⟩⟩; refine ⟨_, rfl, ?_⟩))
            go_ret
            exact ⟨ex_, hb2_ HB.out GE501.out GE520.out⟩
           ·rw [if_neg c62] at H
            have c62b0 : (t550 == t536) = false := beq_eq_false_iff_ne.mpr c62
            have c62b1 : (t550 != t536) = true := bne_iff_ne.mpr c62
            obtain rfl := Option.some.inj H
            go_wp2_with ((with_reducible refine gw_ ?_); first | (refine gl_ 49 Try.func19 #[.slice Ao33 t521.length co33, .int .i64 1] ?_; (with_reducible refine (laws_markIntS.calls kj17 (fun k_ => some k_ = (.slice Ao33 t521.length co33 : Value).ownBlock) (.slice Ao33 t521.length co33) t521 1 t536 t537 w _ ?side1 ?side2 A44.out).mono ?_); (case side1 => repeat (first | (with_reducible first | exact HB.out | apply below_alloc | apply pw_below_drewN | apply below_drew1 | refine below_set ?_ GE501.out | refine below_set ?_ GE520.out) | exact HB.out)); (case side2 => exact Kd.R_tight rfl HO_8.out); rintro e w70 ⟨rfl, hy0, hb, hkp⟩; refine ⟨_, rfl, ?_⟩; replace HO_6 := Aside0.mk (Kd.R_mono (ok' := fun k_ => some k_ ≠ (.slice Ao33 t521.length co33 : Value).ownBlock) (Kd.R_keptB (HO_6.out) hkp (fun k_ hk_ hs_ => (hk_) hs_)) (fun k_ hk_ => hk_.1)); replace HO_521004 := Aside0.mk (Kd.R_mono (ok' := fun k_ => True) (Kd.R_keptB ((Kd.R_apart' HO_521004.out (Kd.R_typed HO_8.out) (by decide))) hkp (fun k_ hk_ hs_ => by first | exact hk_.2 hs_ | exact hk_.1.2 hs_ | exact hk_.1 hs_)) (fun k_ hk_ => trivial)); replace BK501 := Aside0.mk (blk_kept (bk_ BK501.out) hkp (fun hs_ => (fun e_ => (Kd.R_ne HO_8.out BK501.out (by decide)) e_) hs_)); replace BK520 := Aside0.mk (blk_kept (bk_ BK520.out) hkp (fun hs_ => (fun e_ => (Kd.R_ne HO_8.out BK520.out (by decide)) e_) hs_)); replace HO_8 := Aside0.mk (Kd.R_reok rfl hy0 (fun k_ e_ => HO_8.out.1 k_ e_)); replace HB := Aside0.mk (hb); (try clear hb); (try clear hkp); (try clear hy0)) | ((with_reducible refine gate_callee (f := 20) rfl ?_); refine goesL_ (some 52) rfl rfl Try.func20 (by kernel_rfl) rfl #[.slice Ao33 t537.length co33, .int .i64 1] rfl (by (try simp only [List.map_toArray, List.map_cons, List.map_nil]); first | done | (rw [show t537.length = t521.length from (Kd.R_reads' HO_8.out).1.symm] <;> rfl) | rfl | (simp only [List.length_drop, List.length_take]; rfl)) ?_; (with_reducible refine (laws_heldIntS.calls kj17 _ _ t537 1 t538 _ ?side1 ?side2 A45.out).mono ?_); (case side1 => repeat (first | exact (Kd.R_reads' HO_8.out).2.2 | (with_reducible refine Kd.C_alloc ?_ _) | (with_reducible refine Kd.C_drewN ?_ _) | (with_reducible refine Kd.C_drew ?_))); (case side2 => rw [show t537.length = t521.length from (Kd.R_reads' HO_8.out).1.symm]; exact (Kd.R_reads' HO_8.out).2.1); rintro e w' ⟨rfl, ⟨nd, rfl⟩⟩; refine ⟨_, rfl, ?_⟩; have hnb71 := NB501_520.out; have hnc71 := NB520_501.out; obtain ⟨hcz72_0, hcz72_1, hcz72_2, hcz72_3, hcz72_4⟩ := cz5_ BK501.out; obtain ⟨hfz72_0, hfz72_1, hfz72_2, hfz72_3, hfz72_4⟩ := fz5_ BK501.out) | (refine gl_ 59 Try.func10 #[.agg #[.int .i64 a0_0, .int .i64 a0_1, .int .i64 a0_2, .int .i64 a0_3, .slice A0_4 l0_4.length c0_4]] ?_; (with_reducible refine (laws_toTimed.calls kj17 a0_0 a0_1 a0_2 a0_3 _ _ l0_4 t539 t540 t541 t542 t543 _ ?side1 ?side2 A49.out).mono ?_); (case side1 => repeat (first | exact (Kd.C_below HR0_4.out (hb2_ HB.out GE501.out GE520.out)) | (with_reducible refine Kd.C_alloc ?_ _) | (with_reducible refine Kd.C_drewN ?_ _) | (with_reducible refine Kd.C_drew ?_))); (case side2 => exact HC0_4.out); rintro e w73 ⟨v544, rfl, ho0, hb⟩; refine ⟨_, rfl, ?_⟩; replace HO_6 := HO_6.kb hb; replace HO_8 := HO_8.kb hb; have HO545 := Aside0.mk (Kd.R_lower (Kd.R_new' ho0 (Kd.R_lt (kr_ HO_521004.out))) (below_size (hb2_ HB.out GE501.out GE520.out))); replace HO_521004 := Aside0.mk (Kd.R_elder' (kr_ HO_521004.out) (Kd.R_base ho0) hb); replace BK501 := BK501.bb hb; replace BK520 := BK520.bb hb; replace HB := HB.s2 GE501 GE520 hb; (try clear hb); (try clear ho0); obtain ⟨Ao74, co74, eo74⟩ := Kd.R_slice HO545.out; subst eo74) | (refine gl_ 61 Try.func16 #[.agg #[.int .i64 t539, .int .i64 t540, .int .i64 t541, .int .i64 t542, .slice Ao74 t543.length co74], .int .i64 a1] ?_; (with_reducible refine (impl_TrappedCells.calls kj17 t539 t540 t541 t542 _ _ t543 a1 t546 _ ?side1 ?side2 A50.out).mono ?_); (case side1 => repeat (first | exact (Kd.R_reads' HO545.out).2.2 | (with_reducible refine Kd.C_alloc ?_ _) | (with_reducible refine Kd.C_drewN ?_ _) | (with_reducible refine Kd.C_drew ?_))); (case side2 => exact (Kd.R_reads' HO545.out).2.1); rintro e w75 ⟨v547, rfl, ho0, hb⟩; refine ⟨_, rfl, ?_⟩; replace HO_521004 := HO_521004.kb hb; replace HO545 := HO545.kb hb; have HO548 := Aside0.mk (Kd.R_lower (Kd.R_new' (Kd.R_new' ho0 (Kd.R_lt (kr_ HO_6.out))) (Kd.R_lt (kr_ HO_8.out))) (below_size (hb2_ HB.out GE501.out GE520.out))); replace HO_6 := Aside0.mk (Kd.R_elder' (kr_ HO_6.out) (Kd.R_base ho0) hb); replace HO_8 := Aside0.mk (Kd.R_elder' (kr_ HO_8.out) (Kd.R_base ho0) hb); replace BK501 := BK501.bb hb; replace BK520 := BK520.bb hb; replace HB := HB.s2 GE501 GE520 hb; (try clear hb); (try clear ho0); obtain ⟨Ao76, co76, eo76⟩ := Kd.R_slice HO548.out; subst eo76) | (refine gl_ 64 Try.func17 #[.slice Ao76 t546.length co76, .slice Ao34 t510.length co34] ?_; (with_reducible refine (laws_eqIntS.calls kj17 _ _ t546 _ _ t510 true _ ?side1 ?side2 ?side3 ?side4 A51.out).mono ?_); (case side1 => repeat (first | exact (Kd.R_reads' HO548.out).2.2 | (with_reducible refine Kd.C_alloc ?_ _) | (with_reducible refine Kd.C_drewN ?_ _) | (with_reducible refine Kd.C_drew ?_))); (case side2 => exact (Kd.R_reads' HO548.out).2.1); (case side3 => repeat (first | exact (Kd.R_reads' HO_6.out).2.2 | (with_reducible refine Kd.C_alloc ?_ _) | (with_reducible refine Kd.C_drewN ?_ _) | (with_reducible refine Kd.C_drew ?_))); (case side4 => exact (Kd.R_reads' HO_6.out).2.1); rintro e w' ⟨rfl, ⟨nd, rfl⟩⟩; refine ⟨_, rfl, ?_⟩) | ((with_reducible refine gate_callee (f := 20) rfl ?_); refine goesL_ (some 68) rfl rfl Try.func20 (by kernel_rfl) rfl #[.slice Ao33 t537.length co33, .int .i64 1] rfl (by (try simp only [List.map_toArray, List.map_cons, List.map_nil]); first | done | (rw [show t537.length = t521.length from (Kd.R_reads' HO_8.out).1.symm] <;> rfl) | rfl | (simp only [List.length_drop, List.length_take]; rfl)) ?_; (with_reducible refine (laws_heldIntS.calls kj17 _ _ t537 1 t550 _ ?side1 ?side2 A53.out).mono ?_); (case side1 => repeat (first | exact (Kd.R_reads' HO_8.out).2.2 | (with_reducible refine Kd.C_alloc ?_ _) | (with_reducible refine Kd.C_drewN ?_ _) | (with_reducible refine Kd.C_drew ?_))); (case side2 => rw [show t537.length = t521.length from (Kd.R_reads' HO_8.out).1.symm]; exact (Kd.R_reads' HO_8.out).2.1); rintro e w' ⟨rfl, ⟨nd, rfl⟩⟩; refine ⟨_, rfl, ?_⟩))
            go_ret
            exact ⟨ex_, hb2_ HB.out GE501.out GE520.out⟩
         ·replace c52 := Bool.eq_false_iff.mpr c52
          subst c52
          have H1 : (some false) = some r := by rw [if_neg (show ¬ (false = true) by decide)] at H; exact H
          clear H
          have H := H1
          clear H1
          obtain rfl := Option.some.inj H
          go_wp2_with ((with_reducible refine gw_ ?_); first | (refine gl_ 49 Try.func19 #[.slice Ao33 t521.length co33, .int .i64 1] ?_; (with_reducible refine (laws_markIntS.calls kj17 (fun k_ => some k_ = (.slice Ao33 t521.length co33 : Value).ownBlock) (.slice Ao33 t521.length co33) t521 1 t536 t537 w _ ?side1 ?side2 A44.out).mono ?_); (case side1 => repeat (first | (with_reducible first | exact HB.out | apply below_alloc | apply pw_below_drewN | apply below_drew1 | refine below_set ?_ GE501.out | refine below_set ?_ GE520.out) | exact HB.out)); (case side2 => exact Kd.R_tight rfl HO_8.out); rintro e w77 ⟨rfl, hy0, hb, hkp⟩; refine ⟨_, rfl, ?_⟩; replace HO_6 := Aside0.mk (Kd.R_mono (ok' := fun k_ => some k_ ≠ (.slice Ao33 t521.length co33 : Value).ownBlock) (Kd.R_keptB (HO_6.out) hkp (fun k_ hk_ hs_ => (hk_) hs_)) (fun k_ hk_ => hk_.1)); replace HO_521004 := Aside0.mk (Kd.R_mono (ok' := fun k_ => True) (Kd.R_keptB ((Kd.R_apart' HO_521004.out (Kd.R_typed HO_8.out) (by decide))) hkp (fun k_ hk_ hs_ => by first | exact hk_.2 hs_ | exact hk_.1.2 hs_ | exact hk_.1 hs_)) (fun k_ hk_ => trivial)); replace BK501 := Aside0.mk (blk_kept (bk_ BK501.out) hkp (fun hs_ => (fun e_ => (Kd.R_ne HO_8.out BK501.out (by decide)) e_) hs_)); replace BK520 := Aside0.mk (blk_kept (bk_ BK520.out) hkp (fun hs_ => (fun e_ => (Kd.R_ne HO_8.out BK520.out (by decide)) e_) hs_)); replace HO_8 := Aside0.mk (Kd.R_reok rfl hy0 (fun k_ e_ => HO_8.out.1 k_ e_)); replace HB := Aside0.mk (hb); (try clear hb); (try clear hkp); (try clear hy0)) | ((with_reducible refine gate_callee (f := 20) rfl ?_); refine goesL_ (some 52) rfl rfl Try.func20 (by kernel_rfl) rfl #[.slice Ao33 t537.length co33, .int .i64 1] rfl (by (try simp only [List.map_toArray, List.map_cons, List.map_nil]); first | done | (rw [show t537.length = t521.length from (Kd.R_reads' HO_8.out).1.symm] <;> rfl) | rfl | (simp only [List.length_drop, List.length_take]; rfl)) ?_; (with_reducible refine (laws_heldIntS.calls kj17 _ _ t537 1 t538 _ ?side1 ?side2 A45.out).mono ?_); (case side1 => repeat (first | exact (Kd.R_reads' HO_8.out).2.2 | (with_reducible refine Kd.C_alloc ?_ _) | (with_reducible refine Kd.C_drewN ?_ _) | (with_reducible refine Kd.C_drew ?_))); (case side2 => rw [show t537.length = t521.length from (Kd.R_reads' HO_8.out).1.symm]; exact (Kd.R_reads' HO_8.out).2.1); rintro e w' ⟨rfl, ⟨nd, rfl⟩⟩; refine ⟨_, rfl, ?_⟩; have hnb78 := NB501_520.out; have hnc78 := NB520_501.out; obtain ⟨hcz79_0, hcz79_1, hcz79_2, hcz79_3, hcz79_4⟩ := cz5_ BK501.out; obtain ⟨hfz79_0, hfz79_1, hfz79_2, hfz79_3, hfz79_4⟩ := fz5_ BK501.out) | (refine gl_ 59 Try.func10 #[.agg #[.int .i64 a0_0, .int .i64 a0_1, .int .i64 a0_2, .int .i64 a0_3, .slice A0_4 l0_4.length c0_4]] ?_; (with_reducible refine (laws_toTimed.calls kj17 a0_0 a0_1 a0_2 a0_3 _ _ l0_4 t539 t540 t541 t542 t543 _ ?side1 ?side2 A49.out).mono ?_); (case side1 => repeat (first | exact (Kd.C_below HR0_4.out (hb2_ HB.out GE501.out GE520.out)) | (with_reducible refine Kd.C_alloc ?_ _) | (with_reducible refine Kd.C_drewN ?_ _) | (with_reducible refine Kd.C_drew ?_))); (case side2 => exact HC0_4.out); rintro e w80 ⟨v544, rfl, ho0, hb⟩; refine ⟨_, rfl, ?_⟩; replace HO_6 := HO_6.kb hb; replace HO_8 := HO_8.kb hb; have HO545 := Aside0.mk (Kd.R_lower (Kd.R_new' ho0 (Kd.R_lt (kr_ HO_521004.out))) (below_size (hb2_ HB.out GE501.out GE520.out))); replace HO_521004 := Aside0.mk (Kd.R_elder' (kr_ HO_521004.out) (Kd.R_base ho0) hb); replace BK501 := BK501.bb hb; replace BK520 := BK520.bb hb; replace HB := HB.s2 GE501 GE520 hb; (try clear hb); (try clear ho0); obtain ⟨Ao81, co81, eo81⟩ := Kd.R_slice HO545.out; subst eo81) | (refine gl_ 61 Try.func16 #[.agg #[.int .i64 t539, .int .i64 t540, .int .i64 t541, .int .i64 t542, .slice Ao81 t543.length co81], .int .i64 a1] ?_; (with_reducible refine (impl_TrappedCells.calls kj17 t539 t540 t541 t542 _ _ t543 a1 t546 _ ?side1 ?side2 A50.out).mono ?_); (case side1 => repeat (first | exact (Kd.R_reads' HO545.out).2.2 | (with_reducible refine Kd.C_alloc ?_ _) | (with_reducible refine Kd.C_drewN ?_ _) | (with_reducible refine Kd.C_drew ?_))); (case side2 => exact (Kd.R_reads' HO545.out).2.1); rintro e w82 ⟨v547, rfl, ho0, hb⟩; refine ⟨_, rfl, ?_⟩; replace HO_521004 := HO_521004.kb hb; replace HO545 := HO545.kb hb; have HO548 := Aside0.mk (Kd.R_lower (Kd.R_new' (Kd.R_new' ho0 (Kd.R_lt (kr_ HO_6.out))) (Kd.R_lt (kr_ HO_8.out))) (below_size (hb2_ HB.out GE501.out GE520.out))); replace HO_6 := Aside0.mk (Kd.R_elder' (kr_ HO_6.out) (Kd.R_base ho0) hb); replace HO_8 := Aside0.mk (Kd.R_elder' (kr_ HO_8.out) (Kd.R_base ho0) hb); replace BK501 := BK501.bb hb; replace BK520 := BK520.bb hb; replace HB := HB.s2 GE501 GE520 hb; (try clear hb); (try clear ho0); obtain ⟨Ao83, co83, eo83⟩ := Kd.R_slice HO548.out; subst eo83) | (refine gl_ 64 Try.func17 #[.slice Ao83 t546.length co83, .slice Ao34 t510.length co34] ?_; (with_reducible refine (laws_eqIntS.calls kj17 _ _ t546 _ _ t510 false _ ?side1 ?side2 ?side3 ?side4 A51.out).mono ?_); (case side1 => repeat (first | exact (Kd.R_reads' HO548.out).2.2 | (with_reducible refine Kd.C_alloc ?_ _) | (with_reducible refine Kd.C_drewN ?_ _) | (with_reducible refine Kd.C_drew ?_))); (case side2 => exact (Kd.R_reads' HO548.out).2.1); (case side3 => repeat (first | exact (Kd.R_reads' HO_6.out).2.2 | (with_reducible refine Kd.C_alloc ?_ _) | (with_reducible refine Kd.C_drewN ?_ _) | (with_reducible refine Kd.C_drew ?_))); (case side4 => exact (Kd.R_reads' HO_6.out).2.1); rintro e w' ⟨rfl, ⟨nd, rfl⟩⟩; refine ⟨_, rfl, ?_⟩))
          go_ret
          exact ⟨ex_, hb2_ HB.out GE501.out GE520.out⟩
        ·rw [if_neg c48] at H
         have c48b0 : (t538 == t536) = false := beq_eq_false_iff_ne.mpr c48
         have c48b1 : (t538 != t536) = true := bne_iff_ne.mpr c48
         obtain rfl := Option.some.inj H
         go_wp2_with ((with_reducible refine gw_ ?_); first | (refine gl_ 49 Try.func19 #[.slice Ao33 t521.length co33, .int .i64 1] ?_; (with_reducible refine (laws_markIntS.calls kj17 (fun k_ => some k_ = (.slice Ao33 t521.length co33 : Value).ownBlock) (.slice Ao33 t521.length co33) t521 1 t536 t537 w _ ?side1 ?side2 A44.out).mono ?_); (case side1 => repeat (first | (with_reducible first | exact HB.out | apply below_alloc | apply pw_below_drewN | apply below_drew1 | refine below_set ?_ GE501.out | refine below_set ?_ GE520.out) | exact HB.out)); (case side2 => exact Kd.R_tight rfl HO_8.out); rintro e w84 ⟨rfl, hy0, hb, hkp⟩; refine ⟨_, rfl, ?_⟩; replace HO_6 := Aside0.mk (Kd.R_mono (ok' := fun k_ => some k_ ≠ (.slice Ao33 t521.length co33 : Value).ownBlock) (Kd.R_keptB (HO_6.out) hkp (fun k_ hk_ hs_ => (hk_) hs_)) (fun k_ hk_ => hk_.1)); replace HO_521004 := Aside0.mk (Kd.R_mono (ok' := fun k_ => True) (Kd.R_keptB ((Kd.R_apart' HO_521004.out (Kd.R_typed HO_8.out) (by decide))) hkp (fun k_ hk_ hs_ => by first | exact hk_.2 hs_ | exact hk_.1.2 hs_ | exact hk_.1 hs_)) (fun k_ hk_ => trivial)); replace BK501 := Aside0.mk (blk_kept (bk_ BK501.out) hkp (fun hs_ => (fun e_ => (Kd.R_ne HO_8.out BK501.out (by decide)) e_) hs_)); replace BK520 := Aside0.mk (blk_kept (bk_ BK520.out) hkp (fun hs_ => (fun e_ => (Kd.R_ne HO_8.out BK520.out (by decide)) e_) hs_)); replace HO_8 := Aside0.mk (Kd.R_reok rfl hy0 (fun k_ e_ => HO_8.out.1 k_ e_)); replace HB := Aside0.mk (hb); (try clear hb); (try clear hkp); (try clear hy0)) | ((with_reducible refine gate_callee (f := 20) rfl ?_); refine goesL_ (some 52) rfl rfl Try.func20 (by kernel_rfl) rfl #[.slice Ao33 t537.length co33, .int .i64 1] rfl (by (try simp only [List.map_toArray, List.map_cons, List.map_nil]); first | done | (rw [show t537.length = t521.length from (Kd.R_reads' HO_8.out).1.symm] <;> rfl) | rfl | (simp only [List.length_drop, List.length_take]; rfl)) ?_; (with_reducible refine (laws_heldIntS.calls kj17 _ _ t537 1 t538 _ ?side1 ?side2 A45.out).mono ?_); (case side1 => repeat (first | exact (Kd.R_reads' HO_8.out).2.2 | (with_reducible refine Kd.C_alloc ?_ _) | (with_reducible refine Kd.C_drewN ?_ _) | (with_reducible refine Kd.C_drew ?_))); (case side2 => rw [show t537.length = t521.length from (Kd.R_reads' HO_8.out).1.symm]; exact (Kd.R_reads' HO_8.out).2.1); rintro e w' ⟨rfl, ⟨nd, rfl⟩⟩; refine ⟨_, rfl, ?_⟩))
         go_ret
         exact ⟨ex_, hb2_ HB.out GE501.out GE520.out⟩
   ·replace c16 := Bool.eq_false_iff.mpr c16
    subst c16
    have H1 : (some false) = some r := by rw [if_neg (show ¬ (false = true) by decide)] at H; exact H
    clear H
    have H := H1
    clear H1
    obtain rfl := Option.some.inj H
    go_enter Try.func5, Try.ntmps5
    try go_wp2_with ((with_reducible refine gw_ ?_); first | (refine box_ (N := 2) (cs := #[.int .i64 a0_0, .int .i64 a0_1, .int .i64 a0_2, .int .i64 a0_3, .slice A0_4 l0_4.length c0_4]) (t := 28) ?_; intro gb501 hg w85 hbox hb; have BK501 := Aside0.mk (hbox); have GW501 := HB.g0 hg; have GE501 := HB.g0 hg; replace HB := HB.s0 hb; clear hb hbox hg; obtain ⟨hcz86_0, hcz86_1, hcz86_2, hcz86_3, hcz86_4⟩ := cz5_ BK501.out; obtain ⟨hfz86_0, hfz86_1, hfz86_2, hfz86_3, hfz86_4⟩ := fz5_ BK501.out) | (refine gl_ 15 Try.func8 #[.agg #[.int .i64 a0_0, .int .i64 a0_1, .int .i64 a0_2, .int .i64 a0_3, .slice A0_4 l0_4.length c0_4], .int .i64 1048576] ?_; (with_reducible refine (laws_szTimed.calls a0_0 a0_1 a0_2 a0_3 _ _ l0_4 1048576 t502 _ ?side1 ?side2 A3.out).mono ?_); (case side1 => repeat (first | exact (Kd.C_below HR0_4.out HB.out) | (with_reducible refine Kd.C_alloc ?_ _) | (with_reducible refine Kd.C_drewN ?_ _) | (with_reducible refine Kd.C_drew ?_))); (case side2 => exact HC0_4.out); rintro e w87 ⟨rfl, hb⟩; refine ⟨_, rfl, ?_⟩; replace BK501 := BK501.bb hb; replace HB := HB.s1 GE501 hb; (try clear hb); obtain ⟨hcz88_0, hcz88_1, hcz88_2, hcz88_3, hcz88_4⟩ := cz5_ BK501.out; obtain ⟨hfz88_0, hfz88_1, hfz88_2, hfz88_3, hfz88_4⟩ := fz5_ BK501.out) | (refine gl_ 19 Try.func10 #[.agg #[.int .i64 a0_0, .int .i64 a0_1, .int .i64 a0_2, .int .i64 a0_3, .slice A0_4 l0_4.length c0_4]] ?_; (with_reducible refine (laws_toTimed.calls k a0_0 a0_1 a0_2 a0_3 _ _ l0_4 t503 t504 t505 t506 t507 _ ?side1 ?side2 A8.out).mono ?_); (case side1 => repeat (first | exact (Kd.C_below HR0_4.out HB.out) | (with_reducible refine Kd.C_alloc ?_ _) | (with_reducible refine Kd.C_drewN ?_ _) | (with_reducible refine Kd.C_drew ?_))); (case side2 => exact HC0_4.out); rintro e w89 ⟨v508, rfl, ho0, hb⟩; refine ⟨_, rfl, ?_⟩; have HO509 := Aside0.mk (Kd.R_lower ho0 (below_size (hb1_ HB.out GE501.out))); replace BK501 := BK501.bb hb; replace HB := HB.s1 GE501 hb; (try clear hb); (try clear ho0); obtain ⟨Ao90, co90, eo90⟩ := Kd.R_slice HO509.out; subst eo90) | (refine gl_ 21 Try.func15 #[.agg #[.int .i64 t503, .int .i64 t504, .int .i64 t505, .int .i64 t506, .slice Ao90 t507.length co90], .int .i64 a1] ?_; (with_reducible refine (spec_TrappedCells.calls k t503 t504 t505 t506 _ _ t507 a1 t510 _ ?side1 ?side2 A9.out).mono ?_); (case side1 => repeat (first | exact (Kd.R_reads' HO509.out).2.2 | (with_reducible refine Kd.C_alloc ?_ _) | (with_reducible refine Kd.C_drewN ?_ _) | (with_reducible refine Kd.C_drew ?_))); (case side2 => exact (Kd.R_reads' HO509.out).2.1); rintro e w91 ⟨v511, rfl, ho0, hb⟩; refine ⟨_, rfl, ?_⟩; replace HO509 := HO509.kb hb; have HO512 := Aside0.mk (Kd.R_lower ho0 (below_size (hb1_ HB.out GE501.out))); replace BK501 := BK501.bb hb; replace HB := HB.s1 GE501 hb; (try clear hb); (try clear ho0); obtain ⟨hcz92_0, hcz92_1, hcz92_2, hcz92_3, hcz92_4⟩ := cz5_ BK501.out; obtain ⟨hfz92_0, hfz92_1, hfz92_2, hfz92_3, hfz92_4⟩ := fz5_ BK501.out) | (refine gl_ 23 Try.func10 #[.agg #[.int .i64 a0_0, .int .i64 a0_1, .int .i64 a0_2, .int .i64 a0_3, .slice A0_4 l0_4.length c0_4]] ?_; (with_reducible refine (laws_toTimed.calls k a0_0 a0_1 a0_2 a0_3 _ _ l0_4 t513 t514 t515 t516 t517 _ ?side1 ?side2 A10.out).mono ?_); (case side1 => repeat (first | exact (Kd.C_below HR0_4.out HB.out) | (with_reducible refine Kd.C_alloc ?_ _) | (with_reducible refine Kd.C_drewN ?_ _) | (with_reducible refine Kd.C_drew ?_))); (case side2 => exact HC0_4.out); rintro e w93 ⟨v518, rfl, ho0, hb⟩; refine ⟨_, rfl, ?_⟩; replace HO512 := HO512.kb hb; have HO519 := Aside0.mk (Kd.R_lower (Kd.R_new' ho0 (Kd.R_lt (kr_ HO509.out))) (below_size (hb1_ HB.out GE501.out))); replace HO509 := Aside0.mk (Kd.R_elder' (kr_ HO509.out) (Kd.R_base ho0) hb); replace BK501 := BK501.bb hb; replace HB := HB.s1 GE501 hb; (try clear hb); (try clear ho0)) | (refine box_ (N := 7) (cs := #[.int .i64 0, .int .i64 0, .int .i64 0, .int .i64 0, .slice none 0 0]) (t := 36) ?_; intro gb520 hg w94 hbox hb; replace HO509 := HO509.kb hb; replace HO512 := HO512.kb hb; replace HO519 := HO519.kb hb; have BK520 := Aside0.mk (hbox); have GW520 := HB.g1 GE501 hg; have GE520 := HB.g1 GE501 hg; replace HB := HB.s1 GE501 hb; have NB501_520 := BK501.nl hg; have NB520_501 := BK501.nr hg; replace BK501 := BK501.bb hb; clear hb hbox hg; have hnb95 := NB520_501.out; have hnc95 := NB501_520.out; obtain ⟨hcz96_0, hcz96_1, hcz96_2, hcz96_3, hcz96_4⟩ := cz5_ BK520.out; obtain ⟨hfz96_0, hfz96_1, hfz96_2, hfz96_3, hfz96_4⟩ := fz5_ BK520.out; obtain ⟨Ao97, co97, eo97⟩ := Kd.R_slice HO519.out; subst eo97) | (refine gl_ 26 Try.func16 #[.agg #[.int .i64 t513, .int .i64 t514, .int .i64 t515, .int .i64 t516, .slice Ao97 t517.length co97], .int .i64 a1] ?_; (with_reducible refine (impl_TrappedCells.calls k t513 t514 t515 t516 _ _ t517 a1 t521 _ ?side1 ?side2 A11.out).mono ?_); (case side1 => refine (Kd.R_reads' (e := 56) (base := w.heap.size) (ok := fun k_ => (True ∧ some k_ ≠ (.slice Ao90 t507.length co90 : Value).ownBlock)) (n := t517.length) (c := co97) ?_).2.2; exact (rq5_ HO519.out BK520.out)); (case side2 => exact (Kd.R_reads' HO519.out).2.1); rintro e w98 ⟨v522, rfl, ho0, hb⟩; refine ⟨_, rfl, ?_⟩; have n0_ := Aside0.mk (Kd.R_below (rq5_ HO509.out BK520.out) hb); have n1_ := Aside0.mk (Kd.R_elder' (rq5_ HO512.out BK520.out) (Kd.R_base ho0) hb); have n2_ := Aside0.mk (Kd.R_below (rq5_ HO519.out BK520.out) hb); have n3_ := Aside0.mk (Kd.R_lower (Kd.R_new' ho0 (Kd.R_lt (rq5_ HO512.out BK520.out))) (below_size (hb2_ HB.out GE501.out GE520.out))); have n4_ := Aside0.mk (blk_below (g := gb501) (o := .cells #[.int .i64 a0_0, .int .i64 a0_1, .int .i64 a0_2, .int .i64 a0_3, .slice A0_4 l0_4.length c0_4] 28 (0, 0)) (by (with_reducible repeat (first | refine blk_drewN ?_ _ | refine blk_drew ?_ | refine blk_alloc ?_ _)); refine blk_far ?_ NB501_520.out _; (with_reducible repeat (first | refine blk_drewN ?_ _ | refine blk_drew ?_ | refine blk_alloc ?_ _)); refine blk_far ?_ NB501_520.out _; (with_reducible repeat (first | refine blk_drewN ?_ _ | refine blk_drew ?_ | refine blk_alloc ?_ _)); refine blk_far ?_ NB501_520.out _; (with_reducible repeat (first | refine blk_drewN ?_ _ | refine blk_drew ?_ | refine blk_alloc ?_ _)); refine blk_far ?_ NB501_520.out _; (with_reducible repeat (first | refine blk_drewN ?_ _ | refine blk_drew ?_ | refine blk_alloc ?_ _)); refine blk_far ?_ NB501_520.out _; (with_reducible repeat (first | refine blk_drewN ?_ _ | refine blk_drew ?_ | refine blk_alloc ?_ _)); exact BK501.out) hb); have n5_ := Aside0.mk (blk_below (bq5_ BK520.out) hb); have n6_ := HB.s2 GE501 GE520 hb; clear HO509; clear HO512; clear HO519; clear BK501; clear BK520; clear HB; have HO509 := n0_; have HO512 := n1_; have HO519 := n2_; have HO523 := n3_; have BK501 := n4_; have BK520 := n5_; have HB := n6_; clear n0_ n1_ n2_ n3_ n4_ n5_ n6_; (try clear hb); (try clear ho0); obtain ⟨Ao99, co99, eo99⟩ := Kd.R_slice HO523.out; subst eo99; obtain ⟨Ao100, co100, eo100⟩ := Kd.R_slice HO512.out; subst eo100) | (refine gl_ 29 Try.func17 #[.slice Ao99 t521.length co99, .slice Ao100 t510.length co100] ?_; (with_reducible refine (laws_eqIntS.calls k _ _ t521 _ _ t510 true _ ?side1 ?side2 ?side3 ?side4 A12.out).mono ?_); (case side1 => repeat (first | exact (Kd.R_reads' HO523.out).2.2 | (with_reducible refine Kd.C_alloc ?_ _) | (with_reducible refine Kd.C_drewN ?_ _) | (with_reducible refine Kd.C_drew ?_))); (case side2 => exact (Kd.R_reads' HO523.out).2.1); (case side3 => repeat (first | exact (Kd.R_reads' HO512.out).2.2 | (with_reducible refine Kd.C_alloc ?_ _) | (with_reducible refine Kd.C_drewN ?_ _) | (with_reducible refine Kd.C_drew ?_))); (case side4 => exact (Kd.R_reads' HO512.out).2.1); rintro e w' ⟨rfl, ⟨nd, rfl⟩⟩; refine ⟨_, rfl, ?_⟩))
    (try (rw [drewN_self w98]; generalize hq_ : World.drewN w98 _ = w98; have n0_ : Aside0 (Kd.R k56 56 w98 w.heap.size (fun k_ => some k_ ≠ (.slice Ao97 t517.length co97 : Value).ownBlock) (.slice Ao90 t507.length co90) t507) := ⟨by rw [← hq_]; exact (by (with_reducible repeat (first | apply Kd.R_alloc | apply Kd.R_drewN | apply Kd.R_drew)); exact Kd.R_mono HO509.out (fun _ hk => hk.2))⟩; have n1_ : Aside0 (Kd.R (Kd.int .i64) 3 w98 w.heap.size (fun k_ => some k_ ≠ (.slice Ao99 t521.length co99 : Value).ownBlock) (.slice Ao100 t510.length co100) t510) := ⟨by rw [← hq_]; exact (by (with_reducible repeat (first | apply Kd.R_alloc | apply Kd.R_drewN | apply Kd.R_drew)); exact Kd.R_mono HO512.out (fun _ hk => hk.2))⟩; have n2_ : Aside0 (Kd.R k56 56 w98 w.heap.size (fun k_ => some k_ ≠ (.slice Ao90 t507.length co90 : Value).ownBlock) (.slice Ao97 t517.length co97) t517) := ⟨by rw [← hq_]; exact (by (with_reducible repeat (first | apply Kd.R_alloc | apply Kd.R_drewN | apply Kd.R_drew)); exact Kd.R_mono HO519.out (fun _ hk => hk.2))⟩; have n3_ : Aside0 (Kd.R (Kd.int .i64) 3 w98 w.heap.size (fun k_ => some k_ ≠ (.slice Ao100 t510.length co100 : Value).ownBlock) (.slice Ao99 t521.length co99) t521) := ⟨by rw [← hq_]; exact (by (with_reducible repeat (first | apply Kd.R_alloc | apply Kd.R_drewN | apply Kd.R_drew)); exact Kd.R_mono HO523.out (fun _ hk => hk.2))⟩; have n4_ : Aside0 (w98.heap[gb501]? = some (.cells #[.int .i64 a0_0, .int .i64 a0_1, .int .i64 a0_2, .int .i64 a0_3, .slice A0_4 l0_4.length c0_4] 28 (0, 0))) := ⟨by rw [← hq_]; exact (bk_ BK501.out)⟩; have n5_ : Aside0 (w98.heap[gb520]? = some (.cells #[.int .i64 t513, .int .i64 t514, .int .i64 t515, .int .i64 t516, .slice Ao97 t517.length co97] 36 (0, 0))) := ⟨by rw [← hq_]; exact (bk_ BK520.out)⟩; have n6_ : Aside0 (Below w.heap.size w w98) := ⟨by rw [← hq_]; exact (hb2_ HB.out GE501.out GE520.out)⟩; clear HO509 HO512 HO519 HO523 BK501 BK520 HB hq_; have HO509 := n0_; have HO512 := n1_; have HO519 := n2_; have HO523 := n3_; have BK501 := n4_; have BK520 := n5_; have HB := n6_; clear n0_ n1_ n2_ n3_ n4_ n5_ n6_))
    replace HO509 := Aside0.mk (Kd.R_drew HO509.out)
    replace HO512 := Aside0.mk (Kd.R_drew HO512.out)
    replace HO519 := Aside0.mk (Kd.R_drew HO519.out)
    replace HO523 := Aside0.mk (Kd.R_drew HO523.out)
    replace BK501 := Aside0.mk (blk_drew BK501.out)
    replace BK520 := Aside0.mk (blk_drew BK520.out)
    replace HB := Aside0.mk (below_drew1 HB.out)
    refine start_ (n := 5) (S := fun w' => w'.cell? ⟨gb520, 0, none⟩ = some (.int .i64 t513) ∧ w'.cell? ⟨gb520, 1, none⟩ = some (.int .i64 t514) ∧ w'.cell? ⟨gb520, 2, none⟩ = some (.int .i64 t515) ∧ w'.cell? ⟨gb520, 3, none⟩ = some (.int .i64 t516) ∧ w'.cell? ⟨gb520, 4, none⟩ = some (.slice Ao97 t517.length co97) ∧ w'.cell? ⟨gb501, 0, none⟩ = some (.int .i64 a0_0) ∧ w'.cell? ⟨gb501, 1, none⟩ = some (.int .i64 a0_1) ∧ w'.cell? ⟨gb501, 2, none⟩ = some (.int .i64 a0_2) ∧ w'.cell? ⟨gb501, 3, none⟩ = some (.int .i64 a0_3) ∧ w'.cell? ⟨gb501, 4, none⟩ = some (.slice A0_4 l0_4.length c0_4)) (ds := []) #[false, false, false, false, false] (by kernel_rfl) rfl rfl ⟨BK520.c 0, BK520.c 1, BK520.c 2, BK520.c 3, BK520.c 4, BK501.c 0, BK501.c 1, BK501.c 2, BK501.c 3, BK501.c 4⟩ (fun hHeld => ?_)
    generalize w98.drew = w101 at HO509 HO512 HO519 HO523 BK501 BK520 HB hHeld ⊢
    refine take_ (i := 0) (N := some 31) (v := ?_) (a' := ?_) #[true, false, false, false, false] rfl rfl (by kernel_rfl) (fun _ _ _ h => h) (Or.inl ⟨by rfl, ?_⟩) hHeld ?_ ?_
    rotate_left
    ·rintro w' ⟨s0, s1, s2, s3, s4, s5, s6, s7, s8, s9⟩
     go_simp
     with_reducible rfl
    rotate_left
    ·simp only [Act.put, List.setIfInBounds_toArray, List.set_cons_zero, List.set_cons_succ, i64_w, i32_w]
     rfl
    refine take_ (i := 1) (N := some 32) (v := ?_) (a' := ?_) #[true, true, false, false, false] rfl rfl (by kernel_rfl) (fun _ _ _ h => h) (Or.inl ⟨by rfl, ?_⟩) hHeld ?_ ?_
    rotate_left
    ·rintro w' ⟨s0, s1, s2, s3, s4, s5, s6, s7, s8, s9⟩
     go_simp
     with_reducible rfl
    rotate_left
    ·simp only [Act.put, List.setIfInBounds_toArray, List.set_cons_zero, List.set_cons_succ, i64_w, i32_w]
     rfl
    refine one_ (i := 2) (N := some 33) #[true, true, true, false, false] rfl rfl (by kernel_rfl) (by decide) (fun K hK => ?_)
    refine gq_ Try.func10 #[.agg #[.int .i64 a0_0, .int .i64 a0_1, .int .i64 a0_2, .int .i64 a0_3, .slice A0_4 l0_4.length c0_4]] ?_
    with_reducible refine (laws_toTimed.calls k a0_0 a0_1 a0_2 a0_3 _ _ l0_4 t525 t526 t527 t528 t529 _ ?side1 ?side2 A14.out).mono ?_
    (case side1 => repeat (first | exact (Kd.C_below HR0_4.out HB.out) | (with_reducible refine Kd.C_alloc ?_ _) | (with_reducible refine Kd.C_drewN ?_ _) | (with_reducible refine Kd.C_drew ?_)))
    (case side2 => exact HC0_4.out)
    rintro e w102 ⟨v530, rfl, ho0, hb⟩
    refine ⟨_, rfl, ?_⟩
    have n0_ := Aside0.mk (Kd.R_elder' (kr_ HO509.out) (Kd.R_base ho0) hb)
    have n1_ := HO512.kb hb
    have n2_ := Aside0.mk (Kd.R_elder' (kr_ HO519.out) (Kd.R_base ho0) hb)
    have n3_ := HO523.kb hb
    have n4_ := Aside0.mk (Kd.R_lower (Kd.R_new' (Kd.R_new' ho0 (Kd.R_lt (kr_ HO509.out))) (Kd.R_lt (kr_ HO519.out))) (below_size (hb2_ HB.out GE501.out GE520.out)))
    have n5_ := BK501.bb hb
    have n6_ := BK520.bb hb
    have n7_ := HB.s2 GE501 GE520 hb
    clear HO509
    clear HO512
    clear HO519
    clear HO523
    clear BK501
    clear BK520
    clear HB
    have HO509 := n0_
    have HO512 := n1_
    have HO519 := n2_
    have HO523 := n3_
    have HO531 := n4_
    have BK501 := n5_
    have BK520 := n6_
    have HB := n7_
    clear n0_ n1_ n2_ n3_ n4_ n5_ n6_ n7_
    skip
    (try clear hb2)
    (try clear hk)
    (try clear hi)
    (try clear ho0)
    obtain ⟨Ao103, co103, eo103⟩ := Kd.R_slice HO531.out
    (first | subst eo103 | (injection eo103 with f1_ f2_ f3_; have f4_ := f1_.symm; have f5_ := f3_.symm; clear f1_ f2_ f3_; subst f4_; subst f5_))
    refine hK.out _ _ ⟨BK520.c 0, BK520.c 1, BK520.c 2, BK520.c 3, BK520.c 4, BK501.c 0, BK501.c 1, BK501.c 2, BK501.c 3, BK501.c 4⟩ (fun hHeld => ?_)
    clear hK K
    refine nm_ ?_
    refine one_ (i := 3) (N := some 34) #[true, true, true, true, false] rfl rfl (by kernel_rfl) (by decide) (fun K hK => ?_)
    refine gq_ Try.func12 #[.agg #[.int .i64 t513, .int .i64 t514, .int .i64 t515, .int .i64 t516, .slice Ao97 t517.length co97], .agg #[.int .i64 t525, .int .i64 t526, .int .i64 t527, .int .i64 t528, .slice Ao103 t529.length co103]] ?_
    with_reducible refine (laws_eqTimed.calls k t513 t514 t515 t516 _ _ t517 t525 t526 t527 t528 _ _ t529 false _ ?side1 ?side2 ?side3 ?side4 A15.out).mono ?_
    (case side1 => repeat (first | exact (Kd.R_reads' HO519.out).2.2 | (with_reducible refine Kd.C_alloc ?_ _) | (with_reducible refine Kd.C_drewN ?_ _) | (with_reducible refine Kd.C_drew ?_)))
    (case side2 => exact (Kd.R_reads' HO519.out).2.1)
    (case side3 => repeat (first | exact (Kd.R_reads' HO531.out).2.2 | (with_reducible refine Kd.C_alloc ?_ _) | (with_reducible refine Kd.C_drewN ?_ _) | (with_reducible refine Kd.C_drew ?_)))
    (case side4 => exact (Kd.R_reads' HO531.out).2.1)
    rintro e w104 ⟨rfl, hb⟩
    refine ⟨_, rfl, ?_⟩
    replace HO509 := HO509.kb hb
    replace HO512 := HO512.kb hb
    replace HO519 := HO519.kb hb
    replace HO523 := HO523.kb hb
    replace HO531 := HO531.kb hb
    replace BK501 := BK501.bb hb
    replace BK520 := BK520.bb hb
    replace HB := HB.s2 GE501 GE520 hb
    skip
    (try clear hb2)
    (try clear hk)
    (try clear hi)
    refine hK.out _ _ ⟨BK520.c 0, BK520.c 1, BK520.c 2, BK520.c 3, BK520.c 4, BK501.c 0, BK501.c 1, BK501.c 2, BK501.c 3, BK501.c 4⟩ (fun hHeld => ?_)
    clear hK K
    refine nm_ ?_
    refine pure_ (i := 4) (N := some 35) (v := ?_) (a' := ?_) #[true, true, true, true, true] rfl rfl (by kernel_rfl) (fun _ _ _ h => h) (Or.inl ⟨by rfl, ?_⟩) ?_ ?_
    rotate_left
    ·intro w'
     go_simp
     with_reducible rfl
    rotate_left
    ·simp only [Act.put, List.setIfInBounds_toArray, List.set_cons_zero, List.set_cons_succ, i64_w, i32_w]
     rfl
    refine done_ (by kernel_rfl) ?_
    try go_wp2
    go_ret
    exact ⟨ex_, hb2_ HB.out GE501.out GE520.out⟩
  ·replace c13 := Bool.eq_false_iff.mpr c13
   subst c13
   have H1 : (some false) = some r := by rw [if_neg (show ¬ (false = true) by decide)] at H; exact H
   clear H
   have H := H1
   clear H1
   obtain rfl := Option.some.inj H
   go_enter Try.func5, Try.ntmps5
   go_wp2_with ((with_reducible refine gw_ ?_); first | (refine box_ (N := 2) (cs := #[.int .i64 a0_0, .int .i64 a0_1, .int .i64 a0_2, .int .i64 a0_3, .slice A0_4 l0_4.length c0_4]) (t := 28) ?_; intro gb501 hg w105 hbox hb; have BK501 := Aside0.mk (hbox); have GW501 := HB.g0 hg; have GE501 := HB.g0 hg; replace HB := HB.s0 hb; clear hb hbox hg; obtain ⟨hcz106_0, hcz106_1, hcz106_2, hcz106_3, hcz106_4⟩ := cz5_ BK501.out; obtain ⟨hfz106_0, hfz106_1, hfz106_2, hfz106_3, hfz106_4⟩ := fz5_ BK501.out) | (refine gl_ 15 Try.func8 #[.agg #[.int .i64 a0_0, .int .i64 a0_1, .int .i64 a0_2, .int .i64 a0_3, .slice A0_4 l0_4.length c0_4], .int .i64 1048576] ?_; (with_reducible refine (laws_szTimed.calls a0_0 a0_1 a0_2 a0_3 _ _ l0_4 1048576 t502 _ ?side1 ?side2 A3.out).mono ?_); (case side1 => repeat (first | exact (Kd.C_below HR0_4.out HB.out) | (with_reducible refine Kd.C_alloc ?_ _) | (with_reducible refine Kd.C_drewN ?_ _) | (with_reducible refine Kd.C_drew ?_))); (case side2 => exact HC0_4.out); rintro e w107 ⟨rfl, hb⟩; refine ⟨_, rfl, ?_⟩; replace BK501 := BK501.bb hb; replace HB := HB.s1 GE501 hb; (try clear hb); obtain ⟨hcz108_0, hcz108_1, hcz108_2, hcz108_3, hcz108_4⟩ := cz5_ BK501.out; obtain ⟨hfz108_0, hfz108_1, hfz108_2, hfz108_3, hfz108_4⟩ := fz5_ BK501.out) | (refine gl_ 19 Try.func10 #[.agg #[.int .i64 a0_0, .int .i64 a0_1, .int .i64 a0_2, .int .i64 a0_3, .slice A0_4 l0_4.length c0_4]] ?_; (with_reducible refine (laws_toTimed.calls k a0_0 a0_1 a0_2 a0_3 _ _ l0_4 t503 t504 t505 t506 t507 _ ?side1 ?side2 A8.out).mono ?_); (case side1 => repeat (first | exact (Kd.C_below HR0_4.out HB.out) | (with_reducible refine Kd.C_alloc ?_ _) | (with_reducible refine Kd.C_drewN ?_ _) | (with_reducible refine Kd.C_drew ?_))); (case side2 => exact HC0_4.out); rintro e w109 ⟨v508, rfl, ho0, hb⟩; refine ⟨_, rfl, ?_⟩; have HO509 := Aside0.mk (Kd.R_lower ho0 (below_size (hb1_ HB.out GE501.out))); replace BK501 := BK501.bb hb; replace HB := HB.s1 GE501 hb; (try clear hb); (try clear ho0); obtain ⟨Ao110, co110, eo110⟩ := Kd.R_slice HO509.out; subst eo110) | (refine gl_ 21 Try.func15 #[.agg #[.int .i64 t503, .int .i64 t504, .int .i64 t505, .int .i64 t506, .slice Ao110 t507.length co110], .int .i64 a1] ?_; (with_reducible refine (spec_TrappedCells.calls k t503 t504 t505 t506 _ _ t507 a1 t510 _ ?side1 ?side2 A9.out).mono ?_); (case side1 => repeat (first | exact (Kd.R_reads' HO509.out).2.2 | (with_reducible refine Kd.C_alloc ?_ _) | (with_reducible refine Kd.C_drewN ?_ _) | (with_reducible refine Kd.C_drew ?_))); (case side2 => exact (Kd.R_reads' HO509.out).2.1); rintro e w111 ⟨v511, rfl, ho0, hb⟩; refine ⟨_, rfl, ?_⟩; replace HO509 := HO509.kb hb; have HO512 := Aside0.mk (Kd.R_lower ho0 (below_size (hb1_ HB.out GE501.out))); replace BK501 := BK501.bb hb; replace HB := HB.s1 GE501 hb; (try clear hb); (try clear ho0); obtain ⟨hcz112_0, hcz112_1, hcz112_2, hcz112_3, hcz112_4⟩ := cz5_ BK501.out; obtain ⟨hfz112_0, hfz112_1, hfz112_2, hfz112_3, hfz112_4⟩ := fz5_ BK501.out) | (refine gl_ 23 Try.func10 #[.agg #[.int .i64 a0_0, .int .i64 a0_1, .int .i64 a0_2, .int .i64 a0_3, .slice A0_4 l0_4.length c0_4]] ?_; (with_reducible refine (laws_toTimed.calls k a0_0 a0_1 a0_2 a0_3 _ _ l0_4 t513 t514 t515 t516 t517 _ ?side1 ?side2 A10.out).mono ?_); (case side1 => repeat (first | exact (Kd.C_below HR0_4.out HB.out) | (with_reducible refine Kd.C_alloc ?_ _) | (with_reducible refine Kd.C_drewN ?_ _) | (with_reducible refine Kd.C_drew ?_))); (case side2 => exact HC0_4.out); rintro e w113 ⟨v518, rfl, ho0, hb⟩; refine ⟨_, rfl, ?_⟩; replace HO512 := HO512.kb hb; have HO519 := Aside0.mk (Kd.R_lower (Kd.R_new' ho0 (Kd.R_lt (kr_ HO509.out))) (below_size (hb1_ HB.out GE501.out))); replace HO509 := Aside0.mk (Kd.R_elder' (kr_ HO509.out) (Kd.R_base ho0) hb); replace BK501 := BK501.bb hb; replace HB := HB.s1 GE501 hb; (try clear hb); (try clear ho0)) | (refine box_ (N := 7) (cs := #[.int .i64 0, .int .i64 0, .int .i64 0, .int .i64 0, .slice none 0 0]) (t := 36) ?_; intro gb520 hg w114 hbox hb; replace HO509 := HO509.kb hb; replace HO512 := HO512.kb hb; replace HO519 := HO519.kb hb; have BK520 := Aside0.mk (hbox); have GW520 := HB.g1 GE501 hg; have GE520 := HB.g1 GE501 hg; replace HB := HB.s1 GE501 hb; have NB501_520 := BK501.nl hg; have NB520_501 := BK501.nr hg; replace BK501 := BK501.bb hb; clear hb hbox hg; have hnb115 := NB520_501.out; have hnc115 := NB501_520.out; obtain ⟨hcz116_0, hcz116_1, hcz116_2, hcz116_3, hcz116_4⟩ := cz5_ BK520.out; obtain ⟨hfz116_0, hfz116_1, hfz116_2, hfz116_3, hfz116_4⟩ := fz5_ BK520.out; obtain ⟨Ao117, co117, eo117⟩ := Kd.R_slice HO519.out; subst eo117) | (refine gl_ 26 Try.func16 #[.agg #[.int .i64 t513, .int .i64 t514, .int .i64 t515, .int .i64 t516, .slice Ao117 t517.length co117], .int .i64 a1] ?_; (with_reducible refine (impl_TrappedCells.calls k t513 t514 t515 t516 _ _ t517 a1 t521 _ ?side1 ?side2 A11.out).mono ?_); (case side1 => refine (Kd.R_reads' (e := 56) (base := w.heap.size) (ok := fun k_ => (True ∧ some k_ ≠ (.slice Ao110 t507.length co110 : Value).ownBlock)) (n := t517.length) (c := co117) ?_).2.2; exact (rq5_ HO519.out BK520.out)); (case side2 => exact (Kd.R_reads' HO519.out).2.1); rintro e w118 ⟨v522, rfl, ho0, hb⟩; refine ⟨_, rfl, ?_⟩; have n0_ := Aside0.mk (Kd.R_below (rq5_ HO509.out BK520.out) hb); have n1_ := Aside0.mk (Kd.R_elder' (rq5_ HO512.out BK520.out) (Kd.R_base ho0) hb); have n2_ := Aside0.mk (Kd.R_below (rq5_ HO519.out BK520.out) hb); have n3_ := Aside0.mk (Kd.R_lower (Kd.R_new' ho0 (Kd.R_lt (rq5_ HO512.out BK520.out))) (below_size (hb2_ HB.out GE501.out GE520.out))); have n4_ := Aside0.mk (blk_below (g := gb501) (o := .cells #[.int .i64 a0_0, .int .i64 a0_1, .int .i64 a0_2, .int .i64 a0_3, .slice A0_4 l0_4.length c0_4] 28 (0, 0)) (by (with_reducible repeat (first | refine blk_drewN ?_ _ | refine blk_drew ?_ | refine blk_alloc ?_ _)); refine blk_far ?_ NB501_520.out _; (with_reducible repeat (first | refine blk_drewN ?_ _ | refine blk_drew ?_ | refine blk_alloc ?_ _)); refine blk_far ?_ NB501_520.out _; (with_reducible repeat (first | refine blk_drewN ?_ _ | refine blk_drew ?_ | refine blk_alloc ?_ _)); refine blk_far ?_ NB501_520.out _; (with_reducible repeat (first | refine blk_drewN ?_ _ | refine blk_drew ?_ | refine blk_alloc ?_ _)); refine blk_far ?_ NB501_520.out _; (with_reducible repeat (first | refine blk_drewN ?_ _ | refine blk_drew ?_ | refine blk_alloc ?_ _)); refine blk_far ?_ NB501_520.out _; (with_reducible repeat (first | refine blk_drewN ?_ _ | refine blk_drew ?_ | refine blk_alloc ?_ _)); exact BK501.out) hb); have n5_ := Aside0.mk (blk_below (bq5_ BK520.out) hb); have n6_ := HB.s2 GE501 GE520 hb; clear HO509; clear HO512; clear HO519; clear BK501; clear BK520; clear HB; have HO509 := n0_; have HO512 := n1_; have HO519 := n2_; have HO523 := n3_; have BK501 := n4_; have BK520 := n5_; have HB := n6_; clear n0_ n1_ n2_ n3_ n4_ n5_ n6_; (try clear hb); (try clear ho0); obtain ⟨Ao119, co119, eo119⟩ := Kd.R_slice HO523.out; subst eo119; obtain ⟨Ao120, co120, eo120⟩ := Kd.R_slice HO512.out; subst eo120) | (refine gl_ 29 Try.func17 #[.slice Ao119 t521.length co119, .slice Ao120 t510.length co120] ?_; (with_reducible refine (laws_eqIntS.calls k _ _ t521 _ _ t510 false _ ?side1 ?side2 ?side3 ?side4 A12.out).mono ?_); (case side1 => repeat (first | exact (Kd.R_reads' HO523.out).2.2 | (with_reducible refine Kd.C_alloc ?_ _) | (with_reducible refine Kd.C_drewN ?_ _) | (with_reducible refine Kd.C_drew ?_))); (case side2 => exact (Kd.R_reads' HO523.out).2.1); (case side3 => repeat (first | exact (Kd.R_reads' HO512.out).2.2 | (with_reducible refine Kd.C_alloc ?_ _) | (with_reducible refine Kd.C_drewN ?_ _) | (with_reducible refine Kd.C_drew ?_))); (case side4 => exact (Kd.R_reads' HO512.out).2.1); rintro e w' ⟨rfl, ⟨nd, rfl⟩⟩; refine ⟨_, rfl, ?_⟩))
   go_ret
   exact ⟨ex_, hb2_ HB.out GE501.out GE520.out⟩

/-- THE ONE PURE STATEMENT of laws_FnExactTrappedCells: yours. -/
def laws_FnExactTrappedCells.Pure : Prop := ∀ (a0_0 : Int) (a0_1 : Int) (a0_2 : Int) (a0_3 : Int) (l0_4 : List (S85)) (a1 : Int), (Lit.int .i64 a0_0).wf = true → (Lit.int .i64 a0_1).wf = true → (Lit.int .i64 a0_2).wf = true → (Lit.int .i64 a0_3).wf = true → l0_4.length ≤ maxLen → (Lit.int .i64 a1).wf = true → ∃ k, laws_FnExactTrappedCells.f k a0_0 a0_1 a0_2 a0_3 l0_4 a1 = some true
theorem laws_FnExactTrappedCells.walk (P : laws_FnExactTrappedCells.Pure) (a0_0 : Int) (a0_1 : Int) (a0_2 : Int) (a0_3 : Int) (a0_4 : Option Addr) (len0_4 cap0_4 : Nat) (l0_4 : List (S85)) (a1 : Int) (w : World) (w0_0 : (Lit.int .i64 a0_0).wf = true) (w0_1 : (Lit.int .i64 a0_1).wf = true) (w0_2 : (Lit.int .i64 a0_2).wf = true) (w0_3 : (Lit.int .i64 a0_3).wf = true) (w0_4 : Kd.C k85 w a0_4 len0_4 l0_4 ∧ len0_4 ≤ cap0_4 ∧ len0_4 ≤ maxLen ∧ l0_4.length = len0_4) (w1 : (Lit.int .i64 a1).wf = true) :
  Calls Try.prog 5 #[.agg #[.int .i64 a0_0, .int .i64 a0_1, .int .i64 a0_2, .int .i64 a0_3, .slice a0_4 len0_4 cap0_4], .int .i64 a1] w fun e w' => e = .returned (.bool true) ∧ Below w.heap.size w w' := by
 obtain ⟨hr0_4, hc0_4, hm0_4, rfl⟩ := w0_4
 obtain ⟨k, h⟩ := P a0_0 a0_1 a0_2 a0_3 l0_4 a1 w0_0 w0_1 w0_2 w0_3 hm0_4 w1
 refine (laws_FnExactTrappedCells.calls k a0_0 a0_1 a0_2 a0_3 _ _ l0_4 a1 true w hr0_4 hc0_4 h).mono ?_
 rintro e w' ⟨rfl, hd⟩
 exact ⟨rfl, hd⟩

end Go.Proofs.Ytlfomjhjeknnmaa.X
