-- Written by a program of this session (xprint.py), out of the translation and of hand-written contracts. Lean checks it.
import Derived.Test.YtmcllgonjlapoaaX0
import Derived.Test.YtmcllgonjlapoaaXcints
import Derived.Test.YtmcllgonjlapoaaXcto
import Derived.Test.YtmcllgonjlapoaaXimplMoveOne
import Derived.Test.YtmcllgonjlapoaaXspecMoveOne
namespace Go.Proofs.Ytmcllgonjlapoaa.X
open Go.RowKit Go.Proofs.YtmcllgonjlapoaaW.PrintWords Go.Proofs.YtmcllgonjlapoaaW.PrintLast Go.Proofs.YtmcllgonjlapoaaW.PrintMore
attribute [local go_sem] max2_int min2_int max_two min_two max_three min_three max_four min_four   -- for this text's walks alone
set_option linter.unusedVariables false
set_option linter.unusedSimpArgs false

/-! ### laws_FnExactMoveOne: function 4 -/
mutual
def laws_FnExactMoveOne.j0 : Nat → List Int → Int → Int → List Int → Bool → List Int → List Int → Bool → Bool → Int → Int → Int → Option (Bool)
 | 0, _, _, _, _, _, _, _, _, _, _, _, _ => none
 | k + 1, x1, x2, x3, x9, x10, x11, x12, x13, x51, x502000, x502001, x502002 => if x51 = true then (some false) else ((laws_toIntS.f k x1).bind fun t523 => ((laws_eqIntS.f k x11 t523).bind fun t526 => (if t526 = true then ((laws_markIntS.f k x11 1).bind fun bt527 => (if bt527.1 < 0 then (laws_FnExactMoveOne.j1 k x1 x2 x3 x9 x10 x12 true x502000 x502001 x502002) else ((laws_eqIntS.f k x12 x9).bind fun t529 => (if t529 = true then (laws_FnExactMoveOne.j1 k x1 x2 x3 x9 x10 x12 (x13 != x10) x502000 x502001 x502002) else (laws_FnExactMoveOne.j1 k x1 x2 x3 x9 x10 x12 true x502000 x502001 x502002))))) else (some false))))
def laws_FnExactMoveOne.j1 : Nat → List Int → Int → Int → List Int → Bool → List Int → Bool → Int → Int → Int → Option (Bool)
 | 0, _, _, _, _, _, _, _, _, _, _ => none
 | k + 1, x1, x2, x3, x9, x10, x12, x72, x502000, x502001, x502002 => if x72 = true then (some false) else ((laws_markIntS.f k x12 1).bind fun bt530 => ((laws_heldIntS.f k bt530.2 1).bind fun t532 => (if t532 < 0 then (some false) else (if t532 = bt530.1 then ((laws_toMaze.f x502000 x502001 x502002).bind fun bt533 => ((laws_toIntS.f k x1).bind fun t536 => ((impl_MoveOne.f k bt533.1 bt533.2.1 bt533.2.2 t536 x2 x3).bind fun bt539 => ((laws_eqIntS.f k bt539.1 x9).bind fun t543 => (if t543 = true then (laws_FnExactMoveOne.j2 k bt530.2 bt530.1 (bt539.2 != x10)) else (laws_FnExactMoveOne.j2 k bt530.2 bt530.1 true)))))) else (some false)))))
def laws_FnExactMoveOne.j2 : Nat → List Int → Int → Bool → Option (Bool)
 | 0, _, _, _ => none
 | k + 1, x12, x15, x102 => if x102 = true then (some false) else ((laws_heldIntS.f k x12 1).bind fun t544 => (if t544 < 0 then (some false) else (if t544 = x15 then (some true) else (some false))))
end
def laws_FnExactMoveOne.f (k : Nat) (a0_0 : Int) (a0_1 : Int) (a0_2 : Int) (l1 : List Int) (a2 : Int) (a3 : Int) : Option (Bool) := if (l1.length : Int) > 1048576 then (some true) else ((laws_toMaze.f a0_0 a0_1 a0_2).bind fun bt502 => ((laws_toIntS.f k l1).bind fun t505 => ((spec_MoveOne.f k bt502.1 bt502.2.1 bt502.2.2 t505 a2 a3).bind fun bt508 => ((laws_toIntS.f k l1).bind fun t512 => ((laws_toMaze.f a0_0 a0_1 a0_2).bind fun bt515 => ((impl_MoveOne.f k bt515.1 bt515.2.1 bt515.2.2 t512 a2 a3).bind fun bt518 => ((laws_eqIntS.f k bt518.1 bt508.1).bind fun t522 => (if t522 = true then (laws_FnExactMoveOne.j0 k l1 a2 a3 bt508.1 bt508.2 t512 bt518.1 bt518.2 (bt518.2 != bt508.2) a0_0 a0_1 a0_2) else (laws_FnExactMoveOne.j0 k l1 a2 a3 bt508.1 bt508.2 t512 bt518.1 bt518.2 true a0_0 a0_1 a0_2)))))))))
theorem laws_FnExactMoveOne.mono_l : ∀ k, (∀ y0 y1 y2 y3 y4 y5 y6 y7 y8 y9 y10 y11, LeO (laws_FnExactMoveOne.j0 k y0 y1 y2 y3 y4 y5 y6 y7 y8 y9 y10 y11) (laws_FnExactMoveOne.j0 (k + 1) y0 y1 y2 y3 y4 y5 y6 y7 y8 y9 y10 y11)) ∧ (∀ y0 y1 y2 y3 y4 y5 y6 y7 y8 y9, LeO (laws_FnExactMoveOne.j1 k y0 y1 y2 y3 y4 y5 y6 y7 y8 y9) (laws_FnExactMoveOne.j1 (k + 1) y0 y1 y2 y3 y4 y5 y6 y7 y8 y9)) ∧ (∀ y0 y1 y2, LeO (laws_FnExactMoveOne.j2 k y0 y1 y2) (laws_FnExactMoveOne.j2 (k + 1) y0 y1 y2))
 | 0 => ⟨fun _ _ _ _ _ _ _ _ _ _ _ _ r h => by simp [laws_FnExactMoveOne.j0] at h, fun _ _ _ _ _ _ _ _ _ _ r h => by simp [laws_FnExactMoveOne.j1] at h, fun _ _ _ r h => by simp [laws_FnExactMoveOne.j2] at h⟩
 | k + 1 => by
  obtain ⟨ih0, ih1, ih2⟩ := laws_FnExactMoveOne.mono_l k
  refine ⟨?_, ?_, ?_⟩
  ·intro y0 y1 y2 y3 y4 y5 y6 y7 y8 y9 y10 y11
   unfold laws_FnExactMoveOne.j0
   repeat' first
   | (with_reducible exact ih0 ..)
   | (with_reducible exact ih1 ..)
   | (with_reducible exact ih2 ..)
   | (with_reducible exact impl_MoveOne.mono ..)
   | (with_reducible exact laws_eqIntS.mono ..)
   | (with_reducible exact laws_heldIntS.mono ..)
   | (with_reducible exact laws_markIntS.mono ..)
   | (with_reducible exact laws_toIntS.mono ..)
   | (with_reducible exact spec_MoveOne.mono ..)
   | (with_reducible first | exact lr_ _ | exact ln_ _ | refine li_ ?_ ?_ | refine lb_ ?_ fun _ => ?_)
   | exact ih0 ..
   | exact ih1 ..
   | exact ih2 ..
   | exact impl_MoveOne.mono ..
   | exact laws_eqIntS.mono ..
   | exact laws_heldIntS.mono ..
   | exact laws_markIntS.mono ..
   | exact laws_toIntS.mono ..
   | exact spec_MoveOne.mono ..
   | exact ln_ _ | refine li_ ?_ ?_ | refine lb_ ?_ fun _ => ?_
  ·intro y0 y1 y2 y3 y4 y5 y6 y7 y8 y9
   unfold laws_FnExactMoveOne.j1
   repeat' first
   | (with_reducible exact ih0 ..)
   | (with_reducible exact ih1 ..)
   | (with_reducible exact ih2 ..)
   | (with_reducible exact impl_MoveOne.mono ..)
   | (with_reducible exact laws_eqIntS.mono ..)
   | (with_reducible exact laws_heldIntS.mono ..)
   | (with_reducible exact laws_markIntS.mono ..)
   | (with_reducible exact laws_toIntS.mono ..)
   | (with_reducible exact spec_MoveOne.mono ..)
   | (with_reducible first | exact lr_ _ | exact ln_ _ | refine li_ ?_ ?_ | refine lb_ ?_ fun _ => ?_)
   | exact ih0 ..
   | exact ih1 ..
   | exact ih2 ..
   | exact impl_MoveOne.mono ..
   | exact laws_eqIntS.mono ..
   | exact laws_heldIntS.mono ..
   | exact laws_markIntS.mono ..
   | exact laws_toIntS.mono ..
   | exact spec_MoveOne.mono ..
   | exact ln_ _ | refine li_ ?_ ?_ | refine lb_ ?_ fun _ => ?_
  ·intro y0 y1 y2
   unfold laws_FnExactMoveOne.j2
   repeat' first
   | (with_reducible exact ih0 ..)
   | (with_reducible exact ih1 ..)
   | (with_reducible exact ih2 ..)
   | (with_reducible exact impl_MoveOne.mono ..)
   | (with_reducible exact laws_eqIntS.mono ..)
   | (with_reducible exact laws_heldIntS.mono ..)
   | (with_reducible exact laws_markIntS.mono ..)
   | (with_reducible exact laws_toIntS.mono ..)
   | (with_reducible exact spec_MoveOne.mono ..)
   | (with_reducible first | exact lr_ _ | exact ln_ _ | refine li_ ?_ ?_ | refine lb_ ?_ fun _ => ?_)
   | exact ih0 ..
   | exact ih1 ..
   | exact ih2 ..
   | exact impl_MoveOne.mono ..
   | exact laws_eqIntS.mono ..
   | exact laws_heldIntS.mono ..
   | exact laws_markIntS.mono ..
   | exact laws_toIntS.mono ..
   | exact spec_MoveOne.mono ..
   | exact ln_ _ | refine li_ ?_ ?_ | refine lb_ ?_ fun _ => ?_
theorem laws_FnExactMoveOne.mono : ∀ a0 a1 a2 a3 a4 a5 k, LeO (laws_FnExactMoveOne.f k a0 a1 a2 a3 a4 a5) (laws_FnExactMoveOne.f (k + 1) a0 a1 a2 a3 a4 a5) := by
 intro a0 a1 a2 a3 a4 a5 k
 obtain ⟨ih0, ih1, ih2⟩ := laws_FnExactMoveOne.mono_l k
 unfold laws_FnExactMoveOne.f
 repeat' first
   | (with_reducible exact ih0 ..)
   | (with_reducible exact ih1 ..)
   | (with_reducible exact ih2 ..)
   | (with_reducible exact impl_MoveOne.mono ..)
   | (with_reducible exact laws_eqIntS.mono ..)
   | (with_reducible exact laws_heldIntS.mono ..)
   | (with_reducible exact laws_markIntS.mono ..)
   | (with_reducible exact laws_toIntS.mono ..)
   | (with_reducible exact spec_MoveOne.mono ..)
   | (with_reducible first | exact lr_ _ | exact ln_ _ | refine li_ ?_ ?_ | refine lb_ ?_ fun _ => ?_)
   | exact ih0 ..
   | exact ih1 ..
   | exact ih2 ..
   | exact impl_MoveOne.mono ..
   | exact laws_eqIntS.mono ..
   | exact laws_heldIntS.mono ..
   | exact laws_markIntS.mono ..
   | exact laws_toIntS.mono ..
   | exact spec_MoveOne.mono ..
   | exact ln_ _ | refine li_ ?_ ?_ | refine lb_ ?_ fun _ => ?_
set_option maxHeartbeats 8000000 in
set_option maxRecDepth 100000 in
theorem laws_FnExactMoveOne.calls (k : Nat) (a0_0 : Int) (a0_1 : Int) (a0_2 : Int) (A1 : Option Addr) (c1 : Nat) (l1 : List Int) (a2 : Int) (a3 : Int) (r : Bool) (w : World) (hr1 : Kd.C (Kd.int .i64) w A1 l1.length l1) (hc1 : l1.length ≤ c1) (h : laws_FnExactMoveOne.f k a0_0 a0_1 a0_2 l1 a2 a3 = some r) :
  Calls Try.prog 4 #[.agg #[.int .i64 a0_0, .int .i64 a0_1, .int .i64 a0_2], .slice A1 l1.length c1, .int .i64 a2, .int .i64 a3] w fun e w' => e = .returned (.bool r) ∧ Below w.heap.size w w' := by
 have hu25 := Try.underlying25
 have HR1 := Aside0.mk hr1
 have HC1 := Aside0.mk hc1
 clear hr1 hc1
 have HB := Aside0.mk (Below.refl w.heap.size w)
 have H : (if (l1.length : Int) > 1048576 then (some true) else ((laws_toMaze.f a0_0 a0_1 a0_2).bind fun bt502 => ((laws_toIntS.f k l1).bind fun t505 => ((spec_MoveOne.f k bt502.1 bt502.2.1 bt502.2.2 t505 a2 a3).bind fun bt508 => ((laws_toIntS.f k l1).bind fun t512 => ((laws_toMaze.f a0_0 a0_1 a0_2).bind fun bt515 => ((impl_MoveOne.f k bt515.1 bt515.2.1 bt515.2.2 t512 a2 a3).bind fun bt518 => ((laws_eqIntS.f k bt518.1 bt508.1).bind fun t522 => (if t522 = true then (laws_FnExactMoveOne.j0 k l1 a2 a3 bt508.1 bt508.2 t512 bt518.1 bt518.2 (bt518.2 != bt508.2) a0_0 a0_1 a0_2) else (laws_FnExactMoveOne.j0 k l1 a2 a3 bt508.1 bt508.2 t512 bt518.1 bt518.2 true a0_0 a0_1 a0_2)))))))))) = some r := h
 clear h
 by_cases c5 : (l1.length : Int) > 1048576
 ·rw [if_pos c5] at H
  have c5b0 : decide (1048576 < (l1.length : Int)) = true := decide_eq_true c5
  have c5b1 : decide (1048576 < l1.length) = true := decide_eq_true (by omega)
  clear c5
  obtain rfl := Option.some.inj H
  go_enter Try.func4, Try.ntmps4
  go_wp2_with ((with_reducible refine gw_ ?_); first | (refine box_ (N := 4) (cs := #[.int .i64 a0_0, .int .i64 a0_1, .int .i64 a0_2]) (t := 25) ?_; intro gb501 hg w6 hbox hb; have BK501 := Aside0.mk (hbox); have GW501 := HB.g0 hg; have GE501 := HB.g0 hg; replace HB := HB.s0 hb; clear hb hbox hg))
  go_ret
  exact ⟨ex_, hb1_ HB.out GE501.out⟩
 ·rw [if_neg c5] at H
  have c5b0 : decide (1048576 < (l1.length : Int)) = false := decide_eq_false c5
  have c5b1 : decide (1048576 < l1.length) = false := decide_eq_false (by omega)
  clear c5
  replace H := Option.bind_eq_some_iff.mp H
  obtain ⟨⟨t502, t503, t504⟩, A70, H⟩ := H
  replace H : ((laws_toIntS.f k l1).bind fun t505 => ((spec_MoveOne.f k t502 t503 t504 t505 a2 a3).bind fun bt508 => ((laws_toIntS.f k l1).bind fun t512 => ((laws_toMaze.f a0_0 a0_1 a0_2).bind fun bt515 => ((impl_MoveOne.f k bt515.1 bt515.2.1 bt515.2.2 t512 a2 a3).bind fun bt518 => ((laws_eqIntS.f k bt518.1 bt508.1).bind fun t522 => (if t522 = true then (laws_FnExactMoveOne.j0 k l1 a2 a3 bt508.1 bt508.2 t512 bt518.1 bt518.2 (bt518.2 != bt508.2) a0_0 a0_1 a0_2) else (laws_FnExactMoveOne.j0 k l1 a2 a3 bt508.1 bt508.2 t512 bt518.1 bt518.2 true a0_0 a0_1 a0_2)))))))) = some r := H
  have A7 := Aside0.mk A70
  clear A70
  replace H := Option.bind_eq_some_iff.mp H
  obtain ⟨t505, A80, H⟩ := H
  replace H : ((spec_MoveOne.f k t502 t503 t504 t505 a2 a3).bind fun bt508 => ((laws_toIntS.f k l1).bind fun t512 => ((laws_toMaze.f a0_0 a0_1 a0_2).bind fun bt515 => ((impl_MoveOne.f k bt515.1 bt515.2.1 bt515.2.2 t512 a2 a3).bind fun bt518 => ((laws_eqIntS.f k bt518.1 bt508.1).bind fun t522 => (if t522 = true then (laws_FnExactMoveOne.j0 k l1 a2 a3 bt508.1 bt508.2 t512 bt518.1 bt518.2 (bt518.2 != bt508.2) a0_0 a0_1 a0_2) else (laws_FnExactMoveOne.j0 k l1 a2 a3 bt508.1 bt508.2 t512 bt518.1 bt518.2 true a0_0 a0_1 a0_2))))))) = some r := H
  have A8 := Aside0.mk A80
  clear A80
  replace H := Option.bind_eq_some_iff.mp H
  obtain ⟨⟨t508, t511⟩, A90, H⟩ := H
  replace H : ((laws_toIntS.f k l1).bind fun t512 => ((laws_toMaze.f a0_0 a0_1 a0_2).bind fun bt515 => ((impl_MoveOne.f k bt515.1 bt515.2.1 bt515.2.2 t512 a2 a3).bind fun bt518 => ((laws_eqIntS.f k bt518.1 t508).bind fun t522 => (if t522 = true then (laws_FnExactMoveOne.j0 k l1 a2 a3 t508 t511 t512 bt518.1 bt518.2 (bt518.2 != t511) a0_0 a0_1 a0_2) else (laws_FnExactMoveOne.j0 k l1 a2 a3 t508 t511 t512 bt518.1 bt518.2 true a0_0 a0_1 a0_2)))))) = some r := H
  have A9 := Aside0.mk A90
  clear A90
  replace H := Option.bind_eq_some_iff.mp H
  obtain ⟨t512, A100, H⟩ := H
  replace H : ((laws_toMaze.f a0_0 a0_1 a0_2).bind fun bt515 => ((impl_MoveOne.f k bt515.1 bt515.2.1 bt515.2.2 t512 a2 a3).bind fun bt518 => ((laws_eqIntS.f k bt518.1 t508).bind fun t522 => (if t522 = true then (laws_FnExactMoveOne.j0 k l1 a2 a3 t508 t511 t512 bt518.1 bt518.2 (bt518.2 != t511) a0_0 a0_1 a0_2) else (laws_FnExactMoveOne.j0 k l1 a2 a3 t508 t511 t512 bt518.1 bt518.2 true a0_0 a0_1 a0_2))))) = some r := H
  have A10 := Aside0.mk A100
  clear A100
  replace H := Option.bind_eq_some_iff.mp H
  obtain ⟨⟨t515, t516, t517⟩, A110, H⟩ := H
  replace H : ((impl_MoveOne.f k t515 t516 t517 t512 a2 a3).bind fun bt518 => ((laws_eqIntS.f k bt518.1 t508).bind fun t522 => (if t522 = true then (laws_FnExactMoveOne.j0 k l1 a2 a3 t508 t511 t512 bt518.1 bt518.2 (bt518.2 != t511) a0_0 a0_1 a0_2) else (laws_FnExactMoveOne.j0 k l1 a2 a3 t508 t511 t512 bt518.1 bt518.2 true a0_0 a0_1 a0_2)))) = some r := H
  have A11 := Aside0.mk A110
  clear A110
  replace H := Option.bind_eq_some_iff.mp H
  obtain ⟨⟨t518, t521⟩, A120, H⟩ := H
  replace H : ((laws_eqIntS.f k t518 t508).bind fun t522 => (if t522 = true then (laws_FnExactMoveOne.j0 k l1 a2 a3 t508 t511 t512 t518 t521 (t521 != t511) a0_0 a0_1 a0_2) else (laws_FnExactMoveOne.j0 k l1 a2 a3 t508 t511 t512 t518 t521 true a0_0 a0_1 a0_2))) = some r := H
  have A12 := Aside0.mk A120
  clear A120
  have HC13 := Aside0.mk H
  clear H
  go_enter Try.func4, Try.ntmps4
  go_upto_region 6 with ((with_reducible refine gw_ ?_); first | (refine box_ (N := 4) (cs := #[.int .i64 a0_0, .int .i64 a0_1, .int .i64 a0_2]) (t := 25) ?_; intro gb501 hg w14 hbox hb; have BK501 := Aside0.mk (hbox); have GW501 := HB.g0 hg; have GE501 := HB.g0 hg; replace HB := HB.s0 hb; clear hb hbox hg; obtain ⟨hcz15_0, hcz15_1, hcz15_2⟩ := cz3_ BK501.out; obtain ⟨hfz15_0, hfz15_1, hfz15_2⟩ := fz3_ BK501.out) | (refine gl_ 24 Try.func15 #[.agg #[.int .i64 a0_0, .int .i64 a0_1, .int .i64 a0_2]] ?_; (with_reducible refine (laws_toMaze.calls a0_0 a0_1 a0_2 t502 t503 t504 _ A7.out).mono ?_); rintro e w16 ⟨rfl, hb⟩; refine ⟨_, rfl, ?_⟩; replace BK501 := BK501.bb hb; replace HB := HB.s1 GE501 hb; (try clear hb)) | (refine gl_ 26 Try.func16 #[.slice A1 l1.length c1] ?_; (with_reducible refine (laws_toIntS.calls k _ _ l1 t505 _ ?side1 ?side2 A8.out).mono ?_); (case side1 => repeat (first | exact (Kd.C_below HR1.out HB.out) | (with_reducible refine Kd.C_alloc ?_ _) | (with_reducible refine Kd.C_drewN ?_ _) | (with_reducible refine Kd.C_drew ?_))); (case side2 => exact HC1.out); rintro e w17 ⟨v506, rfl, ho0, hb⟩; refine ⟨_, rfl, ?_⟩; have HO507 := Aside0.mk (Kd.R_lower ho0 (below_size (hb1_ HB.out GE501.out))); replace BK501 := BK501.bb hb; replace HB := HB.s1 GE501 hb; (try clear hb); (try clear ho0); obtain ⟨Ao18, co18, eo18⟩ := Kd.R_slice HO507.out; subst eo18) | (refine gl_ 29 Try.func19 #[.agg #[.int .i64 t502, .int .i64 t503, .int .i64 t504], .slice Ao18 t505.length co18, .int .i64 a2, .int .i64 a3] ?_; (with_reducible refine (spec_MoveOne.calls k t502 t503 t504 _ _ t505 a2 a3 t508 t511 _ ?side1 ?side2 A9.out).mono ?_); (case side1 => repeat (first | exact (Kd.R_reads' HO507.out).2.2 | (with_reducible refine Kd.C_alloc ?_ _) | (with_reducible refine Kd.C_drewN ?_ _) | (with_reducible refine Kd.C_drew ?_))); (case side2 => exact (Kd.R_reads' HO507.out).2.1); rintro e w19 ⟨v509, rfl, ho0, hb⟩; refine ⟨_, rfl, ?_⟩; have HO510 := Aside0.mk (Kd.R_lower (Kd.R_new' ho0 (Kd.R_lt (kr_ HO507.out))) (below_size (hb1_ HB.out GE501.out))); replace HO507 := Aside0.mk (Kd.R_elder' (kr_ HO507.out) (Kd.R_base ho0) hb); replace BK501 := BK501.bb hb; replace HB := HB.s1 GE501 hb; (try clear hb); (try clear ho0)) | (refine gl_ 33 Try.func16 #[.slice A1 l1.length c1] ?_; (with_reducible refine (laws_toIntS.calls k _ _ l1 t512 _ ?side1 ?side2 A10.out).mono ?_); (case side1 => repeat (first | exact (Kd.C_below HR1.out HB.out) | (with_reducible refine Kd.C_alloc ?_ _) | (with_reducible refine Kd.C_drewN ?_ _) | (with_reducible refine Kd.C_drew ?_))); (case side2 => exact HC1.out); rintro e w20 ⟨v513, rfl, ho0, hb⟩; refine ⟨_, rfl, ?_⟩; have HO514 := Aside0.mk (Kd.R_lower (Kd.R_new' (Kd.R_new' ho0 (Kd.R_lt (kr_ HO507.out))) (Kd.R_lt (kr_ HO510.out))) (below_size (hb1_ HB.out GE501.out))); replace HO507 := Aside0.mk (Kd.R_elder' (kr_ HO507.out) (Kd.R_base ho0) hb); replace HO510 := Aside0.mk (Kd.R_elder' (kr_ HO510.out) (Kd.R_base ho0) hb); replace BK501 := BK501.bb hb; replace HB := HB.s1 GE501 hb; (try clear hb); (try clear ho0); obtain ⟨hcz21_0, hcz21_1, hcz21_2⟩ := cz3_ BK501.out; obtain ⟨hfz21_0, hfz21_1, hfz21_2⟩ := fz3_ BK501.out) | (refine gl_ 36 Try.func15 #[.agg #[.int .i64 a0_0, .int .i64 a0_1, .int .i64 a0_2]] ?_; (with_reducible refine (laws_toMaze.calls a0_0 a0_1 a0_2 t515 t516 t517 _ A11.out).mono ?_); rintro e w22 ⟨rfl, hb⟩; refine ⟨_, rfl, ?_⟩; replace HO507 := HO507.kb hb; replace HO510 := HO510.kb hb; replace HO514 := HO514.kb hb; replace BK501 := BK501.bb hb; replace HB := HB.s1 GE501 hb; (try clear hb); obtain ⟨Ao23, co23, eo23⟩ := Kd.R_slice HO514.out; subst eo23) | (refine gl_ 40 Try.func20 #[.agg #[.int .i64 t515, .int .i64 t516, .int .i64 t517], .slice Ao23 t512.length co23, .int .i64 a2, .int .i64 a3] ?_; (with_reducible refine (impl_MoveOne.calls k t515 t516 t517 _ _ t512 a2 a3 t518 t521 _ ?side1 ?side2 A12.out).mono ?_); (case side1 => repeat (first | exact (Kd.R_reads' HO514.out).2.2 | (with_reducible refine Kd.C_alloc ?_ _) | (with_reducible refine Kd.C_drewN ?_ _) | (with_reducible refine Kd.C_drew ?_))); (case side2 => exact (Kd.R_reads' HO514.out).2.1); rintro e w24 ⟨v519, rfl, ho0, hb⟩; refine ⟨_, rfl, ?_⟩; have HO520 := Aside0.mk (Kd.R_lower (Kd.R_new' (Kd.R_new' (Kd.R_new' ho0 (Kd.R_lt (kr_ HO507.out))) (Kd.R_lt (kr_ HO510.out))) (Kd.R_lt (kr_ HO514.out))) (below_size (hb1_ HB.out GE501.out))); replace HO507 := Aside0.mk (Kd.R_elder' (kr_ HO507.out) (Kd.R_base ho0) hb); replace HO510 := Aside0.mk (Kd.R_elder' (kr_ HO510.out) (Kd.R_base ho0) hb); replace HO514 := Aside0.mk (Kd.R_elder' (kr_ HO514.out) (Kd.R_base ho0) hb); replace BK501 := BK501.bb hb; replace HB := HB.s1 GE501 hb; (try clear hb); (try clear ho0)))
  (try simp only [Act.put, List.setIfInBounds_toArray, List.set_cons_zero, List.set_cons_succ])
  go_cut [51] (fun v51 wc => ∃ (kq : Nat) (x51_12 : Bool), v51 = .bool x51_12 ∧ Aside0 (laws_FnExactMoveOne.j0 kq l1 a2 a3 t508 t511 t512 t518 t521 x51_12 a0_0 a0_1 a0_2 = some r) ∧ Aside0 (kq ≤ k) ∧ Aside0 (Kd.R (Kd.int .i64) 3 wc w.heap.size (fun k_ => some k_ ≠ ((.slice Ao23 t512.length co23) : Value).ownBlock ∧ some k_ ≠ (v519 : Value).ownBlock) v509 t508) ∧ Aside0 (Kd.R (Kd.int .i64) 3 wc w.heap.size (fun k_ => some k_ ≠ (v509 : Value).ownBlock ∧ some k_ ≠ (v519 : Value).ownBlock) (.slice Ao23 t512.length co23) t512) ∧ Aside0 (Kd.R (Kd.int .i64) 3 wc w.heap.size (fun k_ => some k_ ≠ (v509 : Value).ownBlock ∧ some k_ ≠ ((.slice Ao23 t512.length co23) : Value).ownBlock) v519 t518) ∧ Aside0 (wc.heap[gb501]? = some (.cells #[.int .i64 a0_0, .int .i64 a0_1, .int .i64 a0_2] 25 (0, 0))) ∧ Aside0 (Below w.heap.size w wc))
  case first =>
   have H := HC13.out
   clear HC13
   replace H := Option.bind_eq_some_iff.mp H
   obtain ⟨t522, A250, H⟩ := H
   replace H : (if t522 = true then (laws_FnExactMoveOne.j0 k l1 a2 a3 t508 t511 t512 t518 t521 (t521 != t511) a0_0 a0_1 a0_2) else (laws_FnExactMoveOne.j0 k l1 a2 a3 t508 t511 t512 t518 t521 true a0_0 a0_1 a0_2)) = some r := H
   have A25 := Aside0.mk A250
   clear A250
   by_cases c26 : t522 = true
   ·subst c26
    have H1 : (laws_FnExactMoveOne.j0 k l1 a2 a3 t508 t511 t512 t518 t521 (t521 != t511) a0_0 a0_1 a0_2) = some r := by rw [if_pos rfl] at H; exact H
    clear H
    have H := H1
    clear H1
    have H' := Aside0.mk H
    clear H
    obtain ⟨Ao27, co27, eo27⟩ := Kd.R_slice HO520.out
    subst eo27
    obtain ⟨Ao28, co28, eo28⟩ := Kd.R_slice HO510.out
    subst eo28
    go_wp2_with ((with_reducible refine gw_ ?_); first | (refine gl_ 45 Try.func18 #[.slice Ao27 t518.length co27, .slice Ao28 t508.length co28] ?_; (with_reducible refine (laws_eqIntS.calls k _ _ t518 _ _ t508 true _ ?side1 ?side2 ?side3 ?side4 A25.out).mono ?_); (case side1 => repeat (first | exact (Kd.R_reads' HO520.out).2.2 | (with_reducible refine Kd.C_alloc ?_ _) | (with_reducible refine Kd.C_drewN ?_ _) | (with_reducible refine Kd.C_drew ?_))); (case side2 => exact (Kd.R_reads' HO520.out).2.1); (case side3 => repeat (first | exact (Kd.R_reads' HO510.out).2.2 | (with_reducible refine Kd.C_alloc ?_ _) | (with_reducible refine Kd.C_drewN ?_ _) | (with_reducible refine Kd.C_drew ?_))); (case side4 => exact (Kd.R_reads' HO510.out).2.1); rintro e w' ⟨rfl, ⟨nd, rfl⟩⟩; refine ⟨_, rfl, ?_⟩))
    go_meet
    case rel => exact ⟨_, ((t521 != t511)), (by first | rfl | (simp; done) | (simp [*]; done)), H', ⟨by first | omega | exact Nat.le_refl _⟩, ⟨by (with_reducible repeat (first | apply Kd.R_alloc | apply Kd.R_drewN | apply Kd.R_drew)); exact Kd.R_mono HO510.out (fun _ hk => ⟨hk.1.2, hk.2⟩)⟩, ⟨by (with_reducible repeat (first | apply Kd.R_alloc | apply Kd.R_drewN | apply Kd.R_drew)); exact Kd.R_mono HO514.out (fun _ hk => ⟨hk.1.2, hk.2⟩)⟩, ⟨by (with_reducible repeat (first | apply Kd.R_alloc | apply Kd.R_drewN | apply Kd.R_drew)); exact Kd.R_mono HO520.out (fun _ hk => ⟨hk.1.2, hk.2⟩)⟩, ⟨bk_ BK501.out⟩, ⟨hb1_ HB.out GE501.out⟩⟩
   ·replace c26 := Bool.eq_false_iff.mpr c26
    subst c26
    have H1 : (laws_FnExactMoveOne.j0 k l1 a2 a3 t508 t511 t512 t518 t521 true a0_0 a0_1 a0_2) = some r := by rw [if_neg (show ¬ (false = true) by decide)] at H; exact H
    clear H
    have H := H1
    clear H1
    have H' := Aside0.mk H
    clear H
    obtain ⟨Ao29, co29, eo29⟩ := Kd.R_slice HO520.out
    subst eo29
    obtain ⟨Ao30, co30, eo30⟩ := Kd.R_slice HO510.out
    subst eo30
    go_wp2_with ((with_reducible refine gw_ ?_); first | (refine gl_ 45 Try.func18 #[.slice Ao29 t518.length co29, .slice Ao30 t508.length co30] ?_; (with_reducible refine (laws_eqIntS.calls k _ _ t518 _ _ t508 false _ ?side1 ?side2 ?side3 ?side4 A25.out).mono ?_); (case side1 => repeat (first | exact (Kd.R_reads' HO520.out).2.2 | (with_reducible refine Kd.C_alloc ?_ _) | (with_reducible refine Kd.C_drewN ?_ _) | (with_reducible refine Kd.C_drew ?_))); (case side2 => exact (Kd.R_reads' HO520.out).2.1); (case side3 => repeat (first | exact (Kd.R_reads' HO510.out).2.2 | (with_reducible refine Kd.C_alloc ?_ _) | (with_reducible refine Kd.C_drewN ?_ _) | (with_reducible refine Kd.C_drew ?_))); (case side4 => exact (Kd.R_reads' HO510.out).2.1); rintro e w' ⟨rfl, ⟨nd, rfl⟩⟩; refine ⟨_, rfl, ?_⟩))
    go_meet
    case rel => exact ⟨_, (true), (by first | rfl | (simp; done) | (simp [*]; done)), H', ⟨by first | omega | exact Nat.le_refl _⟩, ⟨by (with_reducible repeat (first | apply Kd.R_alloc | apply Kd.R_drewN | apply Kd.R_drew)); exact Kd.R_mono HO510.out (fun _ hk => ⟨hk.1.2, hk.2⟩)⟩, ⟨by (with_reducible repeat (first | apply Kd.R_alloc | apply Kd.R_drewN | apply Kd.R_drew)); exact Kd.R_mono HO514.out (fun _ hk => ⟨hk.1.2, hk.2⟩)⟩, ⟨by (with_reducible repeat (first | apply Kd.R_alloc | apply Kd.R_drewN | apply Kd.R_drew)); exact Kd.R_mono HO520.out (fun _ hk => ⟨hk.1.2, hk.2⟩)⟩, ⟨bk_ BK501.out⟩, ⟨hb1_ HB.out GE501.out⟩⟩
  case rest =>
   clear HC13
   try clear c1
   try clear c2
   try clear p2
   try clear c4
   try clear c5
   try clear c5b0
   try clear c5b1
   try clear c15
   try clear c16
   try clear c18
   try clear c19
   try clear c20
   try clear c26
   try clear hcz15_0
   try clear hcz15_1
   try clear hcz15_2
   try clear hcz21_0
   try clear hcz21_1
   try clear hcz21_2
   try clear hfz15_0
   try clear hfz15_1
   try clear hfz15_2
   try clear hfz21_0
   try clear hfz21_1
   try clear hfz21_2
   obtain ⟨kq, x51_12, rfl, HA, HJ12, HO_9, HO_11, HO_12, BK501, HB⟩ := hcut
   cases kq with
   | zero => exact absurd HA.out (by simp [laws_FnExactMoveOne.j0])
   | succ kj12 =>
    have H := HA.out
    clear HA
    simp only [laws_FnExactMoveOne.j0] at H
    by_cases c31 : x51_12 = true
    ·subst c31
     have H1 : (some false) = some r := by rw [if_pos rfl] at H; exact H
     clear H
     have H := H1
     clear H1
     obtain rfl := Option.some.inj H
     go_wp2
     go_ret
     exact ⟨ex_, hb1_ HB.out GE501.out⟩
    ·replace c31 := Bool.eq_false_iff.mpr c31
     subst c31
     have H1 : ((laws_toIntS.f kj12 l1).bind fun t523 => ((laws_eqIntS.f kj12 t512 t523).bind fun t526 => (if t526 = true then ((laws_markIntS.f kj12 t512 1).bind fun bt527 => (if bt527.1 < 0 then (laws_FnExactMoveOne.j1 kj12 l1 a2 a3 t508 t511 t518 true a0_0 a0_1 a0_2) else ((laws_eqIntS.f kj12 t518 t508).bind fun t529 => (if t529 = true then (laws_FnExactMoveOne.j1 kj12 l1 a2 a3 t508 t511 t518 (t521 != t511) a0_0 a0_1 a0_2) else (laws_FnExactMoveOne.j1 kj12 l1 a2 a3 t508 t511 t518 true a0_0 a0_1 a0_2))))) else (some false)))) = some r := by rw [if_neg (show ¬ (false = true) by decide)] at H; exact H
     clear H
     have H := H1
     clear H1
     replace H := Option.bind_eq_some_iff.mp H
     obtain ⟨t523, A320, H⟩ := H
     replace H : ((laws_eqIntS.f kj12 t512 t523).bind fun t526 => (if t526 = true then ((laws_markIntS.f kj12 t512 1).bind fun bt527 => (if bt527.1 < 0 then (laws_FnExactMoveOne.j1 kj12 l1 a2 a3 t508 t511 t518 true a0_0 a0_1 a0_2) else ((laws_eqIntS.f kj12 t518 t508).bind fun t529 => (if t529 = true then (laws_FnExactMoveOne.j1 kj12 l1 a2 a3 t508 t511 t518 (t521 != t511) a0_0 a0_1 a0_2) else (laws_FnExactMoveOne.j1 kj12 l1 a2 a3 t508 t511 t518 true a0_0 a0_1 a0_2))))) else (some false))) = some r := H
     have A32 := Aside0.mk A320
     clear A320
     replace H := Option.bind_eq_some_iff.mp H
     obtain ⟨t526, A330, H⟩ := H
     replace H : (if t526 = true then ((laws_markIntS.f kj12 t512 1).bind fun bt527 => (if bt527.1 < 0 then (laws_FnExactMoveOne.j1 kj12 l1 a2 a3 t508 t511 t518 true a0_0 a0_1 a0_2) else ((laws_eqIntS.f kj12 t518 t508).bind fun t529 => (if t529 = true then (laws_FnExactMoveOne.j1 kj12 l1 a2 a3 t508 t511 t518 (t521 != t511) a0_0 a0_1 a0_2) else (laws_FnExactMoveOne.j1 kj12 l1 a2 a3 t508 t511 t518 true a0_0 a0_1 a0_2))))) else (some false)) = some r := H
     have A33 := Aside0.mk A330
     clear A330
     by_cases c34 : t526 = true
     ·subst c34
      have H1 : ((laws_markIntS.f kj12 t512 1).bind fun bt527 => (if bt527.1 < 0 then (laws_FnExactMoveOne.j1 kj12 l1 a2 a3 t508 t511 t518 true a0_0 a0_1 a0_2) else ((laws_eqIntS.f kj12 t518 t508).bind fun t529 => (if t529 = true then (laws_FnExactMoveOne.j1 kj12 l1 a2 a3 t508 t511 t518 (t521 != t511) a0_0 a0_1 a0_2) else (laws_FnExactMoveOne.j1 kj12 l1 a2 a3 t508 t511 t518 true a0_0 a0_1 a0_2))))) = some r := by rw [if_pos rfl] at H; exact H
      clear H
      have H := H1
      clear H1
      replace H := Option.bind_eq_some_iff.mp H
      obtain ⟨⟨t527, t528⟩, A350, H⟩ := H
      replace H : (if t527 < 0 then (laws_FnExactMoveOne.j1 kj12 l1 a2 a3 t508 t511 t518 true a0_0 a0_1 a0_2) else ((laws_eqIntS.f kj12 t518 t508).bind fun t529 => (if t529 = true then (laws_FnExactMoveOne.j1 kj12 l1 a2 a3 t508 t511 t518 (t521 != t511) a0_0 a0_1 a0_2) else (laws_FnExactMoveOne.j1 kj12 l1 a2 a3 t508 t511 t518 true a0_0 a0_1 a0_2)))) = some r := H
      have A35 := Aside0.mk A350
      clear A350
      have HC36 := Aside0.mk H
      clear H
      go_upto_region 12 with ((with_reducible refine gw_ ?_); first | (refine gl_ 54 Try.func16 #[.slice A1 l1.length c1] ?_; (with_reducible refine (laws_toIntS.calls kj12 _ _ l1 t523 _ ?side1 ?side2 A32.out).mono ?_); (case side1 => repeat (first | exact (Kd.C_below HR1.out HB.out) | (with_reducible refine Kd.C_alloc ?_ _) | (with_reducible refine Kd.C_drewN ?_ _) | (with_reducible refine Kd.C_drew ?_))); (case side2 => exact HC1.out); rintro e w37 ⟨v524, rfl, ho0, hb⟩; refine ⟨_, rfl, ?_⟩; have HO525 := Aside0.mk (Kd.R_lower (Kd.R_new' (Kd.R_new' (Kd.R_new' ho0 (Kd.R_lt (kr_ HO_9.out))) (Kd.R_lt (kr_ HO_11.out))) (Kd.R_lt (kr_ HO_12.out))) (below_size (hb1_ HB.out GE501.out))); replace HO_9 := Aside0.mk (Kd.R_elder' (kr_ HO_9.out) (Kd.R_base ho0) hb); replace HO_11 := Aside0.mk (Kd.R_elder' (kr_ HO_11.out) (Kd.R_base ho0) hb); replace HO_12 := Aside0.mk (Kd.R_elder' (kr_ HO_12.out) (Kd.R_base ho0) hb); replace BK501 := BK501.bb hb; replace HB := HB.s1 GE501 hb; (try clear hb); (try clear ho0); obtain ⟨Ao38, co38, eo38⟩ := Kd.R_slice HO525.out; subst eo38) | (refine gl_ 55 Try.func18 #[.slice Ao23 t512.length co23, .slice Ao38 t523.length co38] ?_; (with_reducible refine (laws_eqIntS.calls kj12 _ _ t512 _ _ t523 true _ ?side1 ?side2 ?side3 ?side4 A33.out).mono ?_); (case side1 => repeat (first | exact (Kd.R_reads' HO_11.out).2.2 | (with_reducible refine Kd.C_alloc ?_ _) | (with_reducible refine Kd.C_drewN ?_ _) | (with_reducible refine Kd.C_drew ?_))); (case side2 => exact (Kd.R_reads' HO_11.out).2.1); (case side3 => repeat (first | exact (Kd.R_reads' HO525.out).2.2 | (with_reducible refine Kd.C_alloc ?_ _) | (with_reducible refine Kd.C_drewN ?_ _) | (with_reducible refine Kd.C_drew ?_))); (case side4 => exact (Kd.R_reads' HO525.out).2.1); rintro e w' ⟨rfl, ⟨nd, rfl⟩⟩; refine ⟨_, rfl, ?_⟩) | (refine gl_ 59 Try.func21 #[.slice Ao23 t512.length co23, .int .i64 1] ?_; (with_reducible refine (laws_markIntS.calls kj12 (fun k_ => some k_ = (.slice Ao23 t512.length co23 : Value).ownBlock) (.slice Ao23 t512.length co23) t512 1 t527 t528 w _ ?side1 ?side2 A35.out).mono ?_); (case side1 => repeat (first | (with_reducible first | exact HB.out | apply below_alloc | apply pw_below_drewN | apply below_drew1 | refine below_set ?_ GE501.out) | exact HB.out)); (case side2 => exact Kd.R_tight rfl HO_11.out); rintro e w39 ⟨rfl, hy0, hb, hkp⟩; refine ⟨_, rfl, ?_⟩; replace HO_9 := Aside0.mk (Kd.R_mono (ok' := fun k_ => some k_ ≠ (.slice Ao23 t512.length co23 : Value).ownBlock ∧ some k_ ≠ (v519 : Value).ownBlock ∧ some k_ ≠ (.slice Ao38 t523.length co38 : Value).ownBlock) (Kd.R_keptB (HO_9.out) hkp (fun k_ hk_ hs_ => (hk_.1.1) hs_)) (fun k_ hk_ => ⟨hk_.1.1.1, hk_.1.1.2, hk_.1.2⟩)); replace HO_12 := Aside0.mk (Kd.R_mono (ok' := fun k_ => some k_ ≠ (v509 : Value).ownBlock ∧ some k_ ≠ (.slice Ao23 t512.length co23 : Value).ownBlock ∧ some k_ ≠ (.slice Ao38 t523.length co38 : Value).ownBlock) (Kd.R_keptB (HO_12.out) hkp (fun k_ hk_ hs_ => (hk_.1.2) hs_)) (fun k_ hk_ => ⟨hk_.1.1.1, hk_.1.1.2, hk_.1.2⟩)); replace BK501 := Aside0.mk (blk_kept (bk_ BK501.out) hkp (fun hs_ => (fun e_ => (Kd.R_ne HO_11.out BK501.out (by decide)) e_) hs_)); replace HO_11 := Aside0.mk (Kd.R_reok rfl hy0 (fun k_ e_ => HO_11.out.1 k_ e_)); replace HO525 := Aside0.mk (Kd.R_mono (ok' := fun k_ => some k_ ≠ (v509 : Value).ownBlock ∧ some k_ ≠ (.slice Ao23 t512.length co23 : Value).ownBlock ∧ some k_ ≠ (v519 : Value).ownBlock) (Kd.R_keptB (HO525.out) hkp (fun k_ hk_ hs_ => (hk_.1.2) hs_)) (fun k_ hk_ => ⟨hk_.1.1.1.2, hk_.1.1.2, hk_.1.2⟩)); replace HB := Aside0.mk (hb); (try clear hb); (try clear hkp); (try clear hy0)))
      (try simp only [Act.put, List.setIfInBounds_toArray, List.set_cons_zero, List.set_cons_succ])
      go_cut [72] (fun v72 wc => ∃ (kq : Nat) (x72_35 : Bool), v72 = .bool x72_35 ∧ Aside0 (laws_FnExactMoveOne.j1 kq l1 a2 a3 t508 t511 t518 x72_35 a0_0 a0_1 a0_2 = some r) ∧ Aside0 (kq ≤ kj12) ∧ Aside0 (Kd.R (Kd.int .i64) 3 wc w.heap.size (fun k_ => some k_ ≠ (v519 : Value).ownBlock) v509 t508) ∧ Aside0 (Kd.R (Kd.int .i64) 3 wc w.heap.size (fun k_ => some k_ ≠ (v509 : Value).ownBlock) v519 t518) ∧ Aside0 (wc.heap[gb501]? = some (.cells #[.int .i64 a0_0, .int .i64 a0_1, .int .i64 a0_2] 25 (0, 0))) ∧ Aside0 (Below w.heap.size w wc))
      case first =>
       have H := HC36.out
       clear HC36
       by_cases c40 : t527 < 0
       ·rw [if_pos c40] at H
        have c40b0 : decide (t527 < 0) = true := decide_eq_true c40
        clear c40
        (first | rw [c40b0] | (simp only [i64_w, i32_w]; rw [c40b0]) | skip)
        have H' := Aside0.mk H
        clear H
        go_wp2
        go_meet
        case rel => exact ⟨_, (true), (by first | rfl | (simp; done) | (simp [*]; done)), H', ⟨by have := HJ12.out; first | omega | exact Nat.le_refl _⟩, ⟨by (with_reducible repeat (first | apply Kd.R_alloc | apply Kd.R_drewN | apply Kd.R_drew)); exact Kd.R_mono HO_9.out (fun _ hk => hk.2.1)⟩, ⟨by (with_reducible repeat (first | apply Kd.R_alloc | apply Kd.R_drewN | apply Kd.R_drew)); exact Kd.R_mono HO_12.out (fun _ hk => hk.1)⟩, ⟨bk_ BK501.out⟩, ⟨hb1_ HB.out GE501.out⟩⟩
       ·rw [if_neg c40] at H
        have c40b0 : decide (t527 < 0) = false := decide_eq_false c40
        clear c40
        (first | rw [c40b0] | (simp only [i64_w, i32_w]; rw [c40b0]) | skip)
        replace H := Option.bind_eq_some_iff.mp H
        obtain ⟨t529, A410, H⟩ := H
        replace H : (if t529 = true then (laws_FnExactMoveOne.j1 kj12 l1 a2 a3 t508 t511 t518 (t521 != t511) a0_0 a0_1 a0_2) else (laws_FnExactMoveOne.j1 kj12 l1 a2 a3 t508 t511 t518 true a0_0 a0_1 a0_2)) = some r := H
        have A41 := Aside0.mk A410
        clear A410
        by_cases c42 : t529 = true
        ·subst c42
         have H1 : (laws_FnExactMoveOne.j1 kj12 l1 a2 a3 t508 t511 t518 (t521 != t511) a0_0 a0_1 a0_2) = some r := by rw [if_pos rfl] at H; exact H
         clear H
         have H := H1
         clear H1
         have H' := Aside0.mk H
         clear H
         obtain ⟨Ao43, co43, eo43⟩ := Kd.R_slice HO_12.out
         subst eo43
         obtain ⟨Ao44, co44, eo44⟩ := Kd.R_slice HO_9.out
         subst eo44
         go_wp2_with (first | (go_at_call 18; (with_reducible refine (laws_eqIntS.calls kj12 _ _ t518 _ _ t508 true _ ?side1 ?side2 ?side3 ?side4 A41.out).mono ?_); (case side1 => repeat (first | exact (Kd.R_reads' HO_12.out).2.2 | (with_reducible refine Kd.C_alloc ?_ _) | (with_reducible refine Kd.C_drewN ?_ _) | (with_reducible refine Kd.C_drew ?_))); (case side2 => exact (Kd.R_reads' HO_12.out).2.1); (case side3 => repeat (first | exact (Kd.R_reads' HO_9.out).2.2 | (with_reducible refine Kd.C_alloc ?_ _) | (with_reducible refine Kd.C_drewN ?_ _) | (with_reducible refine Kd.C_drew ?_))); (case side4 => exact (Kd.R_reads' HO_9.out).2.1); rintro e w' ⟨rfl, ⟨nd, rfl⟩⟩))
         go_meet
         case rel => exact ⟨_, ((t521 != t511)), (by first | rfl | (simp; done) | (simp [*]; done)), H', ⟨by have := HJ12.out; first | omega | exact Nat.le_refl _⟩, ⟨by (with_reducible repeat (first | apply Kd.R_alloc | apply Kd.R_drewN | apply Kd.R_drew)); exact Kd.R_mono HO_9.out (fun _ hk => hk.2.1)⟩, ⟨by (with_reducible repeat (first | apply Kd.R_alloc | apply Kd.R_drewN | apply Kd.R_drew)); exact Kd.R_mono HO_12.out (fun _ hk => hk.1)⟩, ⟨bk_ BK501.out⟩, ⟨hb1_ HB.out GE501.out⟩⟩
        ·replace c42 := Bool.eq_false_iff.mpr c42
         subst c42
         have H1 : (laws_FnExactMoveOne.j1 kj12 l1 a2 a3 t508 t511 t518 true a0_0 a0_1 a0_2) = some r := by rw [if_neg (show ¬ (false = true) by decide)] at H; exact H
         clear H
         have H := H1
         clear H1
         have H' := Aside0.mk H
         clear H
         obtain ⟨Ao45, co45, eo45⟩ := Kd.R_slice HO_12.out
         subst eo45
         obtain ⟨Ao46, co46, eo46⟩ := Kd.R_slice HO_9.out
         subst eo46
         go_wp2_with (first | (go_at_call 18; (with_reducible refine (laws_eqIntS.calls kj12 _ _ t518 _ _ t508 false _ ?side1 ?side2 ?side3 ?side4 A41.out).mono ?_); (case side1 => repeat (first | exact (Kd.R_reads' HO_12.out).2.2 | (with_reducible refine Kd.C_alloc ?_ _) | (with_reducible refine Kd.C_drewN ?_ _) | (with_reducible refine Kd.C_drew ?_))); (case side2 => exact (Kd.R_reads' HO_12.out).2.1); (case side3 => repeat (first | exact (Kd.R_reads' HO_9.out).2.2 | (with_reducible refine Kd.C_alloc ?_ _) | (with_reducible refine Kd.C_drewN ?_ _) | (with_reducible refine Kd.C_drew ?_))); (case side4 => exact (Kd.R_reads' HO_9.out).2.1); rintro e w' ⟨rfl, ⟨nd, rfl⟩⟩))
         go_meet
         case rel => exact ⟨_, (true), (by first | rfl | (simp; done) | (simp [*]; done)), H', ⟨by have := HJ12.out; first | omega | exact Nat.le_refl _⟩, ⟨by (with_reducible repeat (first | apply Kd.R_alloc | apply Kd.R_drewN | apply Kd.R_drew)); exact Kd.R_mono HO_9.out (fun _ hk => hk.2.1)⟩, ⟨by (with_reducible repeat (first | apply Kd.R_alloc | apply Kd.R_drewN | apply Kd.R_drew)); exact Kd.R_mono HO_12.out (fun _ hk => hk.1)⟩, ⟨bk_ BK501.out⟩, ⟨hb1_ HB.out GE501.out⟩⟩
      case rest =>
       clear HC36
       try clear c1
       try clear c2
       try clear p2
       try clear c3
       try clear c4
       try clear c5
       try clear c5b0
       try clear c5b1
       try clear c15
       try clear c16
       try clear c18
       try clear c19
       try clear c20
       try clear c21
       try clear c26
       try clear c31
       try clear c34
       try clear c40
       try clear c40b0
       try clear c42
       try clear hcz15_0
       try clear hcz15_1
       try clear hcz15_2
       try clear hcz21_0
       try clear hcz21_1
       try clear hcz21_2
       try clear hfz15_0
       try clear hfz15_1
       try clear hfz15_2
       try clear hfz21_0
       try clear hfz21_1
       try clear hfz21_2
       try clear p2
       obtain ⟨kq, x72_35, rfl, HA, HJ35, HO_9, HO_12, BK501, HB⟩ := hcut
       cases kq with
       | zero => exact absurd HA.out (by simp [laws_FnExactMoveOne.j1])
       | succ kj35 =>
        have H := HA.out
        clear HA
        simp only [laws_FnExactMoveOne.j1] at H
        by_cases c47 : x72_35 = true
        ·subst c47
         have H1 : (some false) = some r := by rw [if_pos rfl] at H; exact H
         clear H
         have H := H1
         clear H1
         obtain rfl := Option.some.inj H
         go_wp2
         go_ret
         exact ⟨ex_, hb1_ HB.out GE501.out⟩
        ·replace c47 := Bool.eq_false_iff.mpr c47
         subst c47
         have H1 : ((laws_markIntS.f kj35 t518 1).bind fun bt530 => ((laws_heldIntS.f kj35 bt530.2 1).bind fun t532 => (if t532 < 0 then (some false) else (if t532 = bt530.1 then ((laws_toMaze.f a0_0 a0_1 a0_2).bind fun bt533 => ((laws_toIntS.f kj35 l1).bind fun t536 => ((impl_MoveOne.f kj35 bt533.1 bt533.2.1 bt533.2.2 t536 a2 a3).bind fun bt539 => ((laws_eqIntS.f kj35 bt539.1 t508).bind fun t543 => (if t543 = true then (laws_FnExactMoveOne.j2 kj35 bt530.2 bt530.1 (bt539.2 != t511)) else (laws_FnExactMoveOne.j2 kj35 bt530.2 bt530.1 true)))))) else (some false))))) = some r := by rw [if_neg (show ¬ (false = true) by decide)] at H; exact H
         clear H
         have H := H1
         clear H1
         replace H := Option.bind_eq_some_iff.mp H
         obtain ⟨⟨t530, t531⟩, A480, H⟩ := H
         replace H : ((laws_heldIntS.f kj35 t531 1).bind fun t532 => (if t532 < 0 then (some false) else (if t532 = t530 then ((laws_toMaze.f a0_0 a0_1 a0_2).bind fun bt533 => ((laws_toIntS.f kj35 l1).bind fun t536 => ((impl_MoveOne.f kj35 bt533.1 bt533.2.1 bt533.2.2 t536 a2 a3).bind fun bt539 => ((laws_eqIntS.f kj35 bt539.1 t508).bind fun t543 => (if t543 = true then (laws_FnExactMoveOne.j2 kj35 t531 t530 (bt539.2 != t511)) else (laws_FnExactMoveOne.j2 kj35 t531 t530 true)))))) else (some false)))) = some r := H
         have A48 := Aside0.mk A480
         clear A480
         replace H := Option.bind_eq_some_iff.mp H
         obtain ⟨t532, A490, H⟩ := H
         replace H : (if t532 < 0 then (some false) else (if t532 = t530 then ((laws_toMaze.f a0_0 a0_1 a0_2).bind fun bt533 => ((laws_toIntS.f kj35 l1).bind fun t536 => ((impl_MoveOne.f kj35 bt533.1 bt533.2.1 bt533.2.2 t536 a2 a3).bind fun bt539 => ((laws_eqIntS.f kj35 bt539.1 t508).bind fun t543 => (if t543 = true then (laws_FnExactMoveOne.j2 kj35 t531 t530 (bt539.2 != t511)) else (laws_FnExactMoveOne.j2 kj35 t531 t530 true)))))) else (some false))) = some r := H
         have A49 := Aside0.mk A490
         clear A490
         by_cases c50 : t532 < 0
         ·rw [if_pos c50] at H
          have c50b0 : decide (t532 < 0) = true := decide_eq_true c50
          clear c50
          obtain rfl := Option.some.inj H
          obtain ⟨Ao51, co51, eo51⟩ := Kd.R_slice HO_12.out
          subst eo51
          go_wp2_with ((with_reducible refine gw_ ?_); first | (refine gl_ 75 Try.func21 #[.slice Ao51 t518.length co51, .int .i64 1] ?_; (with_reducible refine (laws_markIntS.calls kj35 (fun k_ => some k_ = (.slice Ao51 t518.length co51 : Value).ownBlock) (.slice Ao51 t518.length co51) t518 1 t530 t531 w _ ?side1 ?side2 A48.out).mono ?_); (case side1 => repeat (first | (with_reducible first | exact HB.out | apply below_alloc | apply pw_below_drewN | apply below_drew1 | refine below_set ?_ GE501.out) | exact HB.out)); (case side2 => exact Kd.R_tight rfl HO_12.out); rintro e w52 ⟨rfl, hy0, hb, hkp⟩; refine ⟨_, rfl, ?_⟩; replace HO_9 := Aside0.mk (Kd.R_mono (ok' := fun k_ => some k_ ≠ (.slice Ao51 t518.length co51 : Value).ownBlock) (Kd.R_keptB (HO_9.out) hkp (fun k_ hk_ hs_ => (hk_) hs_)) (fun k_ hk_ => hk_.1)); replace BK501 := Aside0.mk (blk_kept (bk_ BK501.out) hkp (fun hs_ => (fun e_ => (Kd.R_ne HO_12.out BK501.out (by decide)) e_) hs_)); replace HO_12 := Aside0.mk (Kd.R_reok rfl hy0 (fun k_ e_ => HO_12.out.1 k_ e_)); replace HB := Aside0.mk (hb); (try clear hb); (try clear hkp); (try clear hy0)) | ((with_reducible refine gate_callee (f := 22) rfl ?_); refine goesL_ (some 78) rfl rfl Try.func22 (by kernel_rfl) rfl #[.slice Ao51 t531.length co51, .int .i64 1] rfl (by (try simp only [List.map_toArray, List.map_cons, List.map_nil]); first | done | (rw [show t531.length = t518.length from (Kd.R_reads' HO_12.out).1.symm] <;> rfl) | rfl | (simp only [List.length_drop, List.length_take]; rfl)) ?_; (with_reducible refine (laws_heldIntS.calls kj35 _ _ t531 1 t532 _ ?side1 ?side2 A49.out).mono ?_); (case side1 => repeat (first | exact (Kd.R_reads' HO_12.out).2.2 | (with_reducible refine Kd.C_alloc ?_ _) | (with_reducible refine Kd.C_drewN ?_ _) | (with_reducible refine Kd.C_drew ?_))); (case side2 => rw [show t531.length = t518.length from (Kd.R_reads' HO_12.out).1.symm]; exact (Kd.R_reads' HO_12.out).2.1); rintro e w' ⟨rfl, ⟨nd, rfl⟩⟩; refine ⟨_, rfl, ?_⟩))
          go_ret
          exact ⟨ex_, hb1_ HB.out GE501.out⟩
         ·rw [if_neg c50] at H
          have c50b0 : decide (t532 < 0) = false := decide_eq_false c50
          clear c50
          by_cases c53 : t532 = t530
          ·rw [if_pos c53] at H
           have c53b0 : (t532 == t530) = true := beq_iff_eq.mpr c53
           have c53b1 : (t532 != t530) = false := bne_eq_false_iff_eq.mpr c53
           clear c53
           replace H := Option.bind_eq_some_iff.mp H
           obtain ⟨⟨t533, t534, t535⟩, A540, H⟩ := H
           replace H : ((laws_toIntS.f kj35 l1).bind fun t536 => ((impl_MoveOne.f kj35 t533 t534 t535 t536 a2 a3).bind fun bt539 => ((laws_eqIntS.f kj35 bt539.1 t508).bind fun t543 => (if t543 = true then (laws_FnExactMoveOne.j2 kj35 t531 t530 (bt539.2 != t511)) else (laws_FnExactMoveOne.j2 kj35 t531 t530 true))))) = some r := H
           have A54 := Aside0.mk A540
           clear A540
           replace H := Option.bind_eq_some_iff.mp H
           obtain ⟨t536, A550, H⟩ := H
           replace H : ((impl_MoveOne.f kj35 t533 t534 t535 t536 a2 a3).bind fun bt539 => ((laws_eqIntS.f kj35 bt539.1 t508).bind fun t543 => (if t543 = true then (laws_FnExactMoveOne.j2 kj35 t531 t530 (bt539.2 != t511)) else (laws_FnExactMoveOne.j2 kj35 t531 t530 true)))) = some r := H
           have A55 := Aside0.mk A550
           clear A550
           replace H := Option.bind_eq_some_iff.mp H
           obtain ⟨⟨t539, t542⟩, A560, H⟩ := H
           replace H : ((laws_eqIntS.f kj35 t539 t508).bind fun t543 => (if t543 = true then (laws_FnExactMoveOne.j2 kj35 t531 t530 (t542 != t511)) else (laws_FnExactMoveOne.j2 kj35 t531 t530 true))) = some r := H
           have A56 := Aside0.mk A560
           clear A560
           have HC57 := Aside0.mk H
           clear H
           obtain ⟨Ao58, co58, eo58⟩ := Kd.R_slice HO_12.out
           subst eo58
           go_upto_region 23 with ((with_reducible refine gw_ ?_); first | (refine gl_ 75 Try.func21 #[.slice Ao58 t518.length co58, .int .i64 1] ?_; (with_reducible refine (laws_markIntS.calls kj35 (fun k_ => some k_ = (.slice Ao58 t518.length co58 : Value).ownBlock) (.slice Ao58 t518.length co58) t518 1 t530 t531 w _ ?side1 ?side2 A48.out).mono ?_); (case side1 => repeat (first | (with_reducible first | exact HB.out | apply below_alloc | apply pw_below_drewN | apply below_drew1 | refine below_set ?_ GE501.out) | exact HB.out)); (case side2 => exact Kd.R_tight rfl HO_12.out); rintro e w59 ⟨rfl, hy0, hb, hkp⟩; refine ⟨_, rfl, ?_⟩; replace HO_9 := Aside0.mk (Kd.R_mono (ok' := fun k_ => some k_ ≠ (.slice Ao58 t518.length co58 : Value).ownBlock) (Kd.R_keptB (HO_9.out) hkp (fun k_ hk_ hs_ => (hk_) hs_)) (fun k_ hk_ => hk_.1)); replace BK501 := Aside0.mk (blk_kept (bk_ BK501.out) hkp (fun hs_ => (fun e_ => (Kd.R_ne HO_12.out BK501.out (by decide)) e_) hs_)); replace HO_12 := Aside0.mk (Kd.R_reok rfl hy0 (fun k_ e_ => HO_12.out.1 k_ e_)); replace HB := Aside0.mk (hb); (try clear hb); (try clear hkp); (try clear hy0)) | ((with_reducible refine gate_callee (f := 22) rfl ?_); refine goesL_ (some 78) rfl rfl Try.func22 (by kernel_rfl) rfl #[.slice Ao58 t531.length co58, .int .i64 1] rfl (by (try simp only [List.map_toArray, List.map_cons, List.map_nil]); first | done | (rw [show t531.length = t518.length from (Kd.R_reads' HO_12.out).1.symm] <;> rfl) | rfl | (simp only [List.length_drop, List.length_take]; rfl)) ?_; (with_reducible refine (laws_heldIntS.calls kj35 _ _ t531 1 t532 _ ?side1 ?side2 A49.out).mono ?_); (case side1 => repeat (first | exact (Kd.R_reads' HO_12.out).2.2 | (with_reducible refine Kd.C_alloc ?_ _) | (with_reducible refine Kd.C_drewN ?_ _) | (with_reducible refine Kd.C_drew ?_))); (case side2 => rw [show t531.length = t518.length from (Kd.R_reads' HO_12.out).1.symm]; exact (Kd.R_reads' HO_12.out).2.1); rintro e w' ⟨rfl, ⟨nd, rfl⟩⟩; refine ⟨_, rfl, ?_⟩; obtain ⟨hcz60_0, hcz60_1, hcz60_2⟩ := cz3_ BK501.out; obtain ⟨hfz60_0, hfz60_1, hfz60_2⟩ := fz3_ BK501.out) | (refine gl_ 86 Try.func15 #[.agg #[.int .i64 a0_0, .int .i64 a0_1, .int .i64 a0_2]] ?_; (with_reducible refine (laws_toMaze.calls a0_0 a0_1 a0_2 t533 t534 t535 _ A54.out).mono ?_); rintro e w61 ⟨rfl, hb⟩; refine ⟨_, rfl, ?_⟩; replace HO_9 := HO_9.kb hb; replace HO_12 := HO_12.kb hb; replace BK501 := BK501.bb hb; replace HB := HB.s1 GE501 hb; (try clear hb)) | (refine gl_ 88 Try.func16 #[.slice A1 l1.length c1] ?_; (with_reducible refine (laws_toIntS.calls kj35 _ _ l1 t536 _ ?side1 ?side2 A55.out).mono ?_); (case side1 => repeat (first | exact (Kd.C_below HR1.out HB.out) | (with_reducible refine Kd.C_alloc ?_ _) | (with_reducible refine Kd.C_drewN ?_ _) | (with_reducible refine Kd.C_drew ?_))); (case side2 => exact HC1.out); rintro e w62 ⟨v537, rfl, ho0, hb⟩; refine ⟨_, rfl, ?_⟩; have HO538 := Aside0.mk (Kd.R_lower (Kd.R_new' (Kd.R_new' ho0 (Kd.R_lt (kr_ HO_9.out))) (Kd.R_lt (kr_ HO_12.out))) (below_size (hb1_ HB.out GE501.out))); replace HO_9 := Aside0.mk (Kd.R_elder' (kr_ HO_9.out) (Kd.R_base ho0) hb); replace HO_12 := Aside0.mk (Kd.R_elder' (kr_ HO_12.out) (Kd.R_base ho0) hb); replace BK501 := BK501.bb hb; replace HB := HB.s1 GE501 hb; (try clear hb); (try clear ho0); obtain ⟨Ao63, co63, eo63⟩ := Kd.R_slice HO538.out; subst eo63) | (refine gl_ 91 Try.func20 #[.agg #[.int .i64 t533, .int .i64 t534, .int .i64 t535], .slice Ao63 t536.length co63, .int .i64 a2, .int .i64 a3] ?_; (with_reducible refine (impl_MoveOne.calls kj35 t533 t534 t535 _ _ t536 a2 a3 t539 t542 _ ?side1 ?side2 A56.out).mono ?_); (case side1 => repeat (first | exact (Kd.R_reads' HO538.out).2.2 | (with_reducible refine Kd.C_alloc ?_ _) | (with_reducible refine Kd.C_drewN ?_ _) | (with_reducible refine Kd.C_drew ?_))); (case side2 => exact (Kd.R_reads' HO538.out).2.1); rintro e w64 ⟨v540, rfl, ho0, hb⟩; refine ⟨_, rfl, ?_⟩; have HO541 := Aside0.mk (Kd.R_lower (Kd.R_new' (Kd.R_new' (Kd.R_new' ho0 (Kd.R_lt (kr_ HO_9.out))) (Kd.R_lt (kr_ HO_12.out))) (Kd.R_lt (kr_ HO538.out))) (below_size (hb1_ HB.out GE501.out))); replace HO_9 := Aside0.mk (Kd.R_elder' (kr_ HO_9.out) (Kd.R_base ho0) hb); replace HO_12 := Aside0.mk (Kd.R_elder' (kr_ HO_12.out) (Kd.R_base ho0) hb); replace HO538 := Aside0.mk (Kd.R_elder' (kr_ HO538.out) (Kd.R_base ho0) hb); replace BK501 := BK501.bb hb; replace HB := HB.s1 GE501 hb; (try clear hb); (try clear ho0)))
           (try simp only [Act.put, List.setIfInBounds_toArray, List.set_cons_zero, List.set_cons_succ])
           go_cut [102] (fun v102 wc => ∃ (kq : Nat) (x102_56 : Bool), v102 = .bool x102_56 ∧ Aside0 (laws_FnExactMoveOne.j2 kq t531 t530 x102_56 = some r) ∧ Aside0 (kq ≤ kj35) ∧ Aside0 (Kd.R (Kd.int .i64) 3 wc w.heap.size (fun _ => True) (.slice Ao58 t518.length co58) t531) ∧ Aside0 (wc.heap[gb501]? = some (.cells #[.int .i64 a0_0, .int .i64 a0_1, .int .i64 a0_2] 25 (0, 0))) ∧ Aside0 (Below w.heap.size w wc))
           case first =>
            have H := HC57.out
            clear HC57
            replace H := Option.bind_eq_some_iff.mp H
            obtain ⟨t543, A650, H⟩ := H
            replace H : (if t543 = true then (laws_FnExactMoveOne.j2 kj35 t531 t530 (t542 != t511)) else (laws_FnExactMoveOne.j2 kj35 t531 t530 true)) = some r := H
            have A65 := Aside0.mk A650
            clear A650
            by_cases c66 : t543 = true
            ·subst c66
             have H1 : (laws_FnExactMoveOne.j2 kj35 t531 t530 (t542 != t511)) = some r := by rw [if_pos rfl] at H; exact H
             clear H
             have H := H1
             clear H1
             have H' := Aside0.mk H
             clear H
             obtain ⟨Ao67, co67, eo67⟩ := Kd.R_slice HO541.out
             subst eo67
             obtain ⟨Ao68, co68, eo68⟩ := Kd.R_slice HO_9.out
             subst eo68
             go_wp2_with ((with_reducible refine gw_ ?_); first | (refine gl_ 96 Try.func18 #[.slice Ao67 t539.length co67, .slice Ao68 t508.length co68] ?_; (with_reducible refine (laws_eqIntS.calls kj35 _ _ t539 _ _ t508 true _ ?side1 ?side2 ?side3 ?side4 A65.out).mono ?_); (case side1 => repeat (first | exact (Kd.R_reads' HO541.out).2.2 | (with_reducible refine Kd.C_alloc ?_ _) | (with_reducible refine Kd.C_drewN ?_ _) | (with_reducible refine Kd.C_drew ?_))); (case side2 => exact (Kd.R_reads' HO541.out).2.1); (case side3 => repeat (first | exact (Kd.R_reads' HO_9.out).2.2 | (with_reducible refine Kd.C_alloc ?_ _) | (with_reducible refine Kd.C_drewN ?_ _) | (with_reducible refine Kd.C_drew ?_))); (case side4 => exact (Kd.R_reads' HO_9.out).2.1); rintro e w' ⟨rfl, ⟨nd, rfl⟩⟩; refine ⟨_, rfl, ?_⟩))
             go_meet
             case rel => exact ⟨_, ((t542 != t511)), (by first | rfl | (simp; done) | (simp [*]; done)), H', ⟨by have := HJ12.out; have := HJ35.out; first | omega | exact Nat.le_refl _⟩, ⟨by (with_reducible repeat (first | apply Kd.R_alloc | apply Kd.R_drewN | apply Kd.R_drew)); exact Kd.R_mono HO_12.out (fun _ hk => trivial)⟩, ⟨bk_ BK501.out⟩, ⟨hb1_ HB.out GE501.out⟩⟩
            ·replace c66 := Bool.eq_false_iff.mpr c66
             subst c66
             have H1 : (laws_FnExactMoveOne.j2 kj35 t531 t530 true) = some r := by rw [if_neg (show ¬ (false = true) by decide)] at H; exact H
             clear H
             have H := H1
             clear H1
             have H' := Aside0.mk H
             clear H
             obtain ⟨Ao69, co69, eo69⟩ := Kd.R_slice HO541.out
             subst eo69
             obtain ⟨Ao70, co70, eo70⟩ := Kd.R_slice HO_9.out
             subst eo70
             go_wp2_with ((with_reducible refine gw_ ?_); first | (refine gl_ 96 Try.func18 #[.slice Ao69 t539.length co69, .slice Ao70 t508.length co70] ?_; (with_reducible refine (laws_eqIntS.calls kj35 _ _ t539 _ _ t508 false _ ?side1 ?side2 ?side3 ?side4 A65.out).mono ?_); (case side1 => repeat (first | exact (Kd.R_reads' HO541.out).2.2 | (with_reducible refine Kd.C_alloc ?_ _) | (with_reducible refine Kd.C_drewN ?_ _) | (with_reducible refine Kd.C_drew ?_))); (case side2 => exact (Kd.R_reads' HO541.out).2.1); (case side3 => repeat (first | exact (Kd.R_reads' HO_9.out).2.2 | (with_reducible refine Kd.C_alloc ?_ _) | (with_reducible refine Kd.C_drewN ?_ _) | (with_reducible refine Kd.C_drew ?_))); (case side4 => exact (Kd.R_reads' HO_9.out).2.1); rintro e w' ⟨rfl, ⟨nd, rfl⟩⟩; refine ⟨_, rfl, ?_⟩))
             go_meet
             case rel => exact ⟨_, (true), (by first | rfl | (simp; done) | (simp [*]; done)), H', ⟨by have := HJ12.out; have := HJ35.out; first | omega | exact Nat.le_refl _⟩, ⟨by (with_reducible repeat (first | apply Kd.R_alloc | apply Kd.R_drewN | apply Kd.R_drew)); exact Kd.R_mono HO_12.out (fun _ hk => trivial)⟩, ⟨bk_ BK501.out⟩, ⟨hb1_ HB.out GE501.out⟩⟩
           case rest =>
            clear HC57
            try clear c1
            try clear c2
            try clear p2
            try clear c3
            try clear c4
            try clear c5
            try clear c5b0
            try clear c5b1
            try clear c6
            try clear c15
            try clear c16
            try clear c18
            try clear c19
            try clear c20
            try clear c21
            try clear c22
            try clear c26
            try clear c31
            try clear c34
            try clear c40
            try clear c40b0
            try clear c42
            try clear c47
            try clear c50
            try clear c50b0
            try clear c53
            try clear c53b0
            try clear c53b1
            try clear c66
            try clear hcz15_0
            try clear hcz15_1
            try clear hcz15_2
            try clear hcz21_0
            try clear hcz21_1
            try clear hcz21_2
            try clear hcz60_0
            try clear hcz60_1
            try clear hcz60_2
            try clear hfz15_0
            try clear hfz15_1
            try clear hfz15_2
            try clear hfz21_0
            try clear hfz21_1
            try clear hfz21_2
            try clear hfz60_0
            try clear hfz60_1
            try clear hfz60_2
            try clear p2
            obtain ⟨kq, x102_56, rfl, HA, HJ56, HO_12, BK501, HB⟩ := hcut
            have hl12_56 := (Kd.R_reads' HO_12.out).1
            rw [hl12_56] at HO_12
            (try simp only [hl12_56])
            (try simp only [hl12_56] at BK501)
            cases kq with
            | zero => exact absurd HA.out (by simp [laws_FnExactMoveOne.j2])
            | succ kj56 =>
             have H := HA.out
             clear HA
             simp only [laws_FnExactMoveOne.j2] at H
             by_cases c71 : x102_56 = true
             ·subst c71
              have H1 : (some false) = some r := by rw [if_pos rfl] at H; exact H
              clear H
              have H := H1
              clear H1
              obtain rfl := Option.some.inj H
              go_wp2
              go_ret
              exact ⟨ex_, hb1_ HB.out GE501.out⟩
             ·replace c71 := Bool.eq_false_iff.mpr c71
              subst c71
              have H1 : ((laws_heldIntS.f kj56 t531 1).bind fun t544 => (if t544 < 0 then (some false) else (if t544 = t530 then (some true) else (some false)))) = some r := by rw [if_neg (show ¬ (false = true) by decide)] at H; exact H
              clear H
              have H := H1
              clear H1
              replace H := Option.bind_eq_some_iff.mp H
              obtain ⟨t544, A720, H⟩ := H
              replace H : (if t544 < 0 then (some false) else (if t544 = t530 then (some true) else (some false))) = some r := H
              have A72 := Aside0.mk A720
              clear A720
              by_cases c73 : t544 < 0
              ·rw [if_pos c73] at H
               have c73b0 : decide (t544 < 0) = true := decide_eq_true c73
               clear c73
               obtain rfl := Option.some.inj H
               go_wp2_with ((with_reducible refine gw_ ?_); first | (refine gl_ 105 Try.func22 #[.slice Ao58 t531.length co58, .int .i64 1] ?_; (with_reducible refine (laws_heldIntS.calls kj56 _ _ t531 1 t544 _ ?side1 ?side2 A72.out).mono ?_); (case side1 => repeat (first | exact (Kd.R_reads' HO_12.out).2.2 | (with_reducible refine Kd.C_alloc ?_ _) | (with_reducible refine Kd.C_drewN ?_ _) | (with_reducible refine Kd.C_drew ?_))); (case side2 => exact (Kd.R_reads' HO_12.out).2.1); rintro e w' ⟨rfl, ⟨nd, rfl⟩⟩; refine ⟨_, rfl, ?_⟩))
               go_ret
               exact ⟨ex_, hb1_ HB.out GE501.out⟩
              ·rw [if_neg c73] at H
               have c73b0 : decide (t544 < 0) = false := decide_eq_false c73
               clear c73
               by_cases c74 : t544 = t530
               ·rw [if_pos c74] at H
                have c74b0 : (t544 == t530) = true := beq_iff_eq.mpr c74
                have c74b1 : (t544 != t530) = false := bne_eq_false_iff_eq.mpr c74
                clear c74
                obtain rfl := Option.some.inj H
                go_wp2_with ((with_reducible refine gw_ ?_); first | (refine gl_ 105 Try.func22 #[.slice Ao58 t531.length co58, .int .i64 1] ?_; (with_reducible refine (laws_heldIntS.calls kj56 _ _ t531 1 t544 _ ?side1 ?side2 A72.out).mono ?_); (case side1 => repeat (first | exact (Kd.R_reads' HO_12.out).2.2 | (with_reducible refine Kd.C_alloc ?_ _) | (with_reducible refine Kd.C_drewN ?_ _) | (with_reducible refine Kd.C_drew ?_))); (case side2 => exact (Kd.R_reads' HO_12.out).2.1); rintro e w' ⟨rfl, ⟨nd, rfl⟩⟩; refine ⟨_, rfl, ?_⟩))
                go_ret
                exact ⟨ex_, hb1_ HB.out GE501.out⟩
               ·rw [if_neg c74] at H
                have c74b0 : (t544 == t530) = false := beq_eq_false_iff_ne.mpr c74
                have c74b1 : (t544 != t530) = true := bne_iff_ne.mpr c74
                obtain rfl := Option.some.inj H
                go_wp2_with ((with_reducible refine gw_ ?_); first | (refine gl_ 105 Try.func22 #[.slice Ao58 t531.length co58, .int .i64 1] ?_; (with_reducible refine (laws_heldIntS.calls kj56 _ _ t531 1 t544 _ ?side1 ?side2 A72.out).mono ?_); (case side1 => repeat (first | exact (Kd.R_reads' HO_12.out).2.2 | (with_reducible refine Kd.C_alloc ?_ _) | (with_reducible refine Kd.C_drewN ?_ _) | (with_reducible refine Kd.C_drew ?_))); (case side2 => exact (Kd.R_reads' HO_12.out).2.1); rintro e w' ⟨rfl, ⟨nd, rfl⟩⟩; refine ⟨_, rfl, ?_⟩))
                go_ret
                exact ⟨ex_, hb1_ HB.out GE501.out⟩
          ·rw [if_neg c53] at H
           have c53b0 : (t532 == t530) = false := beq_eq_false_iff_ne.mpr c53
           have c53b1 : (t532 != t530) = true := bne_iff_ne.mpr c53
           obtain rfl := Option.some.inj H
           obtain ⟨Ao75, co75, eo75⟩ := Kd.R_slice HO_12.out
           subst eo75
           go_wp2_with ((with_reducible refine gw_ ?_); first | (refine gl_ 75 Try.func21 #[.slice Ao75 t518.length co75, .int .i64 1] ?_; (with_reducible refine (laws_markIntS.calls kj35 (fun k_ => some k_ = (.slice Ao75 t518.length co75 : Value).ownBlock) (.slice Ao75 t518.length co75) t518 1 t530 t531 w _ ?side1 ?side2 A48.out).mono ?_); (case side1 => repeat (first | (with_reducible first | exact HB.out | apply below_alloc | apply pw_below_drewN | apply below_drew1 | refine below_set ?_ GE501.out) | exact HB.out)); (case side2 => exact Kd.R_tight rfl HO_12.out); rintro e w76 ⟨rfl, hy0, hb, hkp⟩; refine ⟨_, rfl, ?_⟩; replace HO_9 := Aside0.mk (Kd.R_mono (ok' := fun k_ => some k_ ≠ (.slice Ao75 t518.length co75 : Value).ownBlock) (Kd.R_keptB (HO_9.out) hkp (fun k_ hk_ hs_ => (hk_) hs_)) (fun k_ hk_ => hk_.1)); replace BK501 := Aside0.mk (blk_kept (bk_ BK501.out) hkp (fun hs_ => (fun e_ => (Kd.R_ne HO_12.out BK501.out (by decide)) e_) hs_)); replace HO_12 := Aside0.mk (Kd.R_reok rfl hy0 (fun k_ e_ => HO_12.out.1 k_ e_)); replace HB := Aside0.mk (hb); (try clear hb); (try clear hkp); (try clear hy0)) | ((with_reducible refine gate_callee (f := 22) rfl ?_); refine goesL_ (some 78) rfl rfl Try.func22 (by kernel_rfl) rfl #[.slice Ao75 t531.length co75, .int .i64 1] rfl (by (try simp only [List.map_toArray, List.map_cons, List.map_nil]); first | done | (rw [show t531.length = t518.length from (Kd.R_reads' HO_12.out).1.symm] <;> rfl) | rfl | (simp only [List.length_drop, List.length_take]; rfl)) ?_; (with_reducible refine (laws_heldIntS.calls kj35 _ _ t531 1 t532 _ ?side1 ?side2 A49.out).mono ?_); (case side1 => repeat (first | exact (Kd.R_reads' HO_12.out).2.2 | (with_reducible refine Kd.C_alloc ?_ _) | (with_reducible refine Kd.C_drewN ?_ _) | (with_reducible refine Kd.C_drew ?_))); (case side2 => rw [show t531.length = t518.length from (Kd.R_reads' HO_12.out).1.symm]; exact (Kd.R_reads' HO_12.out).2.1); rintro e w' ⟨rfl, ⟨nd, rfl⟩⟩; refine ⟨_, rfl, ?_⟩))
           go_ret
           exact ⟨ex_, hb1_ HB.out GE501.out⟩
     ·replace c34 := Bool.eq_false_iff.mpr c34
      subst c34
      have H1 : (some false) = some r := by rw [if_neg (show ¬ (false = true) by decide)] at H; exact H
      clear H
      have H := H1
      clear H1
      obtain rfl := Option.some.inj H
      go_wp2_with ((with_reducible refine gw_ ?_); first | (refine gl_ 54 Try.func16 #[.slice A1 l1.length c1] ?_; (with_reducible refine (laws_toIntS.calls kj12 _ _ l1 t523 _ ?side1 ?side2 A32.out).mono ?_); (case side1 => repeat (first | exact (Kd.C_below HR1.out HB.out) | (with_reducible refine Kd.C_alloc ?_ _) | (with_reducible refine Kd.C_drewN ?_ _) | (with_reducible refine Kd.C_drew ?_))); (case side2 => exact HC1.out); rintro e w77 ⟨v524, rfl, ho0, hb⟩; refine ⟨_, rfl, ?_⟩; have HO525 := Aside0.mk (Kd.R_lower (Kd.R_new' (Kd.R_new' (Kd.R_new' ho0 (Kd.R_lt (kr_ HO_9.out))) (Kd.R_lt (kr_ HO_11.out))) (Kd.R_lt (kr_ HO_12.out))) (below_size (hb1_ HB.out GE501.out))); replace HO_9 := Aside0.mk (Kd.R_elder' (kr_ HO_9.out) (Kd.R_base ho0) hb); replace HO_11 := Aside0.mk (Kd.R_elder' (kr_ HO_11.out) (Kd.R_base ho0) hb); replace HO_12 := Aside0.mk (Kd.R_elder' (kr_ HO_12.out) (Kd.R_base ho0) hb); replace BK501 := BK501.bb hb; replace HB := HB.s1 GE501 hb; (try clear hb); (try clear ho0); obtain ⟨Ao78, co78, eo78⟩ := Kd.R_slice HO525.out; subst eo78) | (refine gl_ 55 Try.func18 #[.slice Ao23 t512.length co23, .slice Ao78 t523.length co78] ?_; (with_reducible refine (laws_eqIntS.calls kj12 _ _ t512 _ _ t523 false _ ?side1 ?side2 ?side3 ?side4 A33.out).mono ?_); (case side1 => repeat (first | exact (Kd.R_reads' HO_11.out).2.2 | (with_reducible refine Kd.C_alloc ?_ _) | (with_reducible refine Kd.C_drewN ?_ _) | (with_reducible refine Kd.C_drew ?_))); (case side2 => exact (Kd.R_reads' HO_11.out).2.1); (case side3 => repeat (first | exact (Kd.R_reads' HO525.out).2.2 | (with_reducible refine Kd.C_alloc ?_ _) | (with_reducible refine Kd.C_drewN ?_ _) | (with_reducible refine Kd.C_drew ?_))); (case side4 => exact (Kd.R_reads' HO525.out).2.1); rintro e w' ⟨rfl, ⟨nd, rfl⟩⟩; refine ⟨_, rfl, ?_⟩))
      go_ret
      exact ⟨ex_, hb1_ HB.out GE501.out⟩

/-- THE ONE PURE STATEMENT of laws_FnExactMoveOne: yours. -/
def laws_FnExactMoveOne.Pure : Prop := ∀ (a0_0 : Int) (a0_1 : Int) (a0_2 : Int) (l1 : List Int) (a2 : Int) (a3 : Int), (Lit.int .i64 a0_0).wf = true → (Lit.int .i64 a0_1).wf = true → (Lit.int .i64 a0_2).wf = true → l1.length ≤ maxLen → l1.length * 8 ≤ 140737488351232 → (∀ x ∈ l1, (Lit.int .i64 x).wf = true) → (Lit.int .i64 a2).wf = true → (Lit.int .i64 a3).wf = true → ∃ k, laws_FnExactMoveOne.f k a0_0 a0_1 a0_2 l1 a2 a3 = some true
theorem laws_FnExactMoveOne.walk (P : laws_FnExactMoveOne.Pure) (a0_0 : Int) (a0_1 : Int) (a0_2 : Int) (a1 : Option Addr) (len1 cap1 : Nat) (z1 : List Int) (a2 : Int) (a3 : Int) (w : World) (w0_0 : (Lit.int .i64 a0_0).wf = true) (w0_1 : (Lit.int .i64 a0_1).wf = true) (w0_2 : (Lit.int .i64 a0_2).wf = true) (w1 : (a1 = none ∧ len1 = 0 ∧ cap1 = 0 ∧ z1 = []) ∨ ∃ x, a1 = some x ∧ len1 ≤ cap1 ∧ cap1 ≤ maxLen ∧ z1.length = cap1 ∧ (∀ i, i < z1.length → w.cell? (x.add i) = some (.int .i64 (z1.getD i 0))) ∧ ∀ n ∈ z1, (Lit.int .i64 n).wf = true) (y1 : len1 * 8 ≤ 140737488351232) (w2 : (Lit.int .i64 a2).wf = true) (w3 : (Lit.int .i64 a3).wf = true) :
  Calls Try.prog 4 #[.agg #[.int .i64 a0_0, .int .i64 a0_1, .int .i64 a0_2], .slice a1 len1 cap1, .int .i64 a2, .int .i64 a3] w fun e w' => e = .returned (.bool true) ∧ Below w.heap.size w w' := by
 obtain ⟨l1, rfl, hr1, hm1, hw1, hc1⟩ := ReadsInt.ofRowC w1
 obtain ⟨k, h⟩ := P a0_0 a0_1 a0_2 l1 a2 a3 w0_0 w0_1 w0_2 hm1 y1 hw1 w2 w3
 refine (laws_FnExactMoveOne.calls k a0_0 a0_1 a0_2 _ _ l1 a2 a3 true w (Kd.C_of_reads (d := (0 : Int)) (h1 := fun _ => rfl) hr1) hc1 h).mono ?_
 rintro e w' ⟨rfl, hd⟩
 exact ⟨rfl, hd⟩

end Go.Proofs.Ytmcllgonjlapoaa.X
