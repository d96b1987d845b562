-- Written by a program of this session (xprint.py), out of the translation and of hand-written contracts. Lean checks it.
import Derived.Test.YtnipocpbpcaepaaX0
import Derived.Test.YtnipocpbpcaepaaXcints
import Derived.Test.YtnipocpbpcaepaaXcto
import Derived.Test.YtnipocpbpcaepaaXimplPopMaze
import Derived.Test.YtnipocpbpcaepaaXlawseqIntSS
import Derived.Test.YtnipocpbpcaepaaXlawsszIntSS
import Derived.Test.YtnipocpbpcaepaaXlawstoIntSS
import Derived.Test.YtnipocpbpcaepaaXspecPopMaze
namespace Go.Proofs.Ytnipocpbpcaepaa.X
open Go.RowKit Go.Proofs.YtnipocpbpcaepaaW.PrintWords Go.Proofs.YtnipocpbpcaepaaW.PrintLast Go.Proofs.YtnipocpbpcaepaaW.PrintMore
attribute [local go_sem] max2_int min2_int max_two min_two max_three min_three max_four min_four   -- for this text's walks alone
set_option linter.unusedVariables false
set_option linter.unusedSimpArgs false

/-! ### laws_FnExactPopMaze: function 4 -/
def laws_FnExactPopMaze.j0 : Nat → List (List Int) → List Int → List (List Int) → List Int → Bool → Option (Bool)
 | 0, _, _, _, _, _ => none
 | k + 1, x1, x2, x10, x11, x52 => if x52 = true then (some false) else ((laws_toIntSS.f k x1).bind fun t530 => ((laws_eqIntSS.f k x10 t530).bind fun t533 => (if t533 = true then ((laws_toIntS.f k x2).bind fun t534 => ((laws_eqIntS.f k x11 t534).bind fun t537 => (if t537 = true then (some true) else (some false)))) else (some false))))
def laws_FnExactPopMaze.f (k : Nat) (a0_0 : Int) (a0_1 : Int) (l1 : List (List Int)) (l2 : List Int) : Option (Bool) := if (l2.length : Int) > 1048576 then (some true) else ((laws_szIntSS.f k l1 1048576).bind fun t502 => (if t502 < 0 then (some true) else ((laws_toGrid.f a0_0 a0_1).bind fun bt503 => ((laws_toIntSS.f k l1).bind fun t505 => ((laws_toIntS.f k l2).bind fun t508 => ((spec_PopMaze.f k bt503.1 bt503.2 t505 t508).bind fun bt511 => ((laws_toIntSS.f k l1).bind fun t516 => ((laws_toIntS.f k l2).bind fun t519 => ((laws_toGrid.f a0_0 a0_1).bind fun bt522 => ((impl_PopMaze.f k bt522.1 bt522.2 t516 t519).bind fun bt524 => ((laws_eqMaze.f bt524.1 bt524.2.1 bt524.2.2.1 bt511.1 bt511.2.1 bt511.2.2.1).bind fun t529 => (if t529 = true then (laws_FnExactPopMaze.j0 k l1 l2 t516 t519 (bt524.2.2.2 != bt511.2.2.2)) else (laws_FnExactPopMaze.j0 k l1 l2 t516 t519 true)))))))))))))
theorem laws_FnExactPopMaze.mono_l : ∀ k, (∀ y0 y1 y2 y3 y4, LeO (laws_FnExactPopMaze.j0 k y0 y1 y2 y3 y4) (laws_FnExactPopMaze.j0 (k + 1) y0 y1 y2 y3 y4))
 | 0 => fun _ _ _ _ _ r h => by simp [laws_FnExactPopMaze.j0] at h
 | k + 1 => by
  have ih0 := laws_FnExactPopMaze.mono_l k
  ·intro y0 y1 y2 y3 y4
   unfold laws_FnExactPopMaze.j0
   repeat' first
   | (with_reducible exact ih0 ..)
   | (with_reducible exact impl_PopMaze.mono ..)
   | (with_reducible exact laws_eqIntS.mono ..)
   | (with_reducible exact laws_eqIntSS.mono ..)
   | (with_reducible exact laws_szIntSS.mono ..)
   | (with_reducible exact laws_toIntS.mono ..)
   | (with_reducible exact laws_toIntSS.mono ..)
   | (with_reducible exact spec_PopMaze.mono ..)
   | (with_reducible first | exact lr_ _ | exact ln_ _ | refine li_ ?_ ?_ | refine lb_ ?_ fun _ => ?_)
   | exact ih0 ..
   | exact impl_PopMaze.mono ..
   | exact laws_eqIntS.mono ..
   | exact laws_eqIntSS.mono ..
   | exact laws_szIntSS.mono ..
   | exact laws_toIntS.mono ..
   | exact laws_toIntSS.mono ..
   | exact spec_PopMaze.mono ..
   | exact ln_ _ | refine li_ ?_ ?_ | refine lb_ ?_ fun _ => ?_
theorem laws_FnExactPopMaze.mono : ∀ a0 a1 a2 a3 k, LeO (laws_FnExactPopMaze.f k a0 a1 a2 a3) (laws_FnExactPopMaze.f (k + 1) a0 a1 a2 a3) := by
 intro a0 a1 a2 a3 k
 have ih0 := laws_FnExactPopMaze.mono_l k
 unfold laws_FnExactPopMaze.f
 repeat' first
   | (with_reducible exact ih0 ..)
   | (with_reducible exact impl_PopMaze.mono ..)
   | (with_reducible exact laws_eqIntS.mono ..)
   | (with_reducible exact laws_eqIntSS.mono ..)
   | (with_reducible exact laws_szIntSS.mono ..)
   | (with_reducible exact laws_toIntS.mono ..)
   | (with_reducible exact laws_toIntSS.mono ..)
   | (with_reducible exact spec_PopMaze.mono ..)
   | (with_reducible first | exact lr_ _ | exact ln_ _ | refine li_ ?_ ?_ | refine lb_ ?_ fun _ => ?_)
   | exact ih0 ..
   | exact impl_PopMaze.mono ..
   | exact laws_eqIntS.mono ..
   | exact laws_eqIntSS.mono ..
   | exact laws_szIntSS.mono ..
   | exact laws_toIntS.mono ..
   | exact laws_toIntSS.mono ..
   | exact spec_PopMaze.mono ..
   | exact ln_ _ | refine li_ ?_ ?_ | refine lb_ ?_ fun _ => ?_
set_option maxHeartbeats 8000000 in
set_option maxRecDepth 100000 in
theorem laws_FnExactPopMaze.calls (k : Nat) (a0_0 : Int) (a0_1 : Int) (A1 : Option Addr) (c1 : Nat) (l1 : List (List Int)) (A2 : Option Addr) (c2 : Nat) (l2 : List Int) (r : Bool) (w : World) (hr1 : Kd.C (Kd.slice 3 (Kd.int .i64)) w A1 l1.length l1) (hc1 : l1.length ≤ c1) (hr2 : Kd.C (Kd.int .i64) w A2 l2.length l2) (hc2 : l2.length ≤ c2) (h : laws_FnExactPopMaze.f k a0_0 a0_1 l1 l2 = some r) :
  Calls Try.prog 4 #[.agg #[.int .i64 a0_0, .int .i64 a0_1], .slice A1 l1.length c1, .slice A2 l2.length c2] w fun e w' => e = .returned (.bool r) ∧ Below w.heap.size w w' := by
 have hu23 := Try.underlying23
 have hu36 := Try.underlying36
 have HR1 := Aside0.mk hr1
 have HC1 := Aside0.mk hc1
 clear hr1 hc1
 have HR2 := Aside0.mk hr2
 have HC2 := Aside0.mk hc2
 clear hr2 hc2
 have HB := Aside0.mk (Below.refl w.heap.size w)
 have H : (if (l2.length : Int) > 1048576 then (some true) else ((laws_szIntSS.f k l1 1048576).bind fun t502 => (if t502 < 0 then (some true) else ((laws_toGrid.f a0_0 a0_1).bind fun bt503 => ((laws_toIntSS.f k l1).bind fun t505 => ((laws_toIntS.f k l2).bind fun t508 => ((spec_PopMaze.f k bt503.1 bt503.2 t505 t508).bind fun bt511 => ((laws_toIntSS.f k l1).bind fun t516 => ((laws_toIntS.f k l2).bind fun t519 => ((laws_toGrid.f a0_0 a0_1).bind fun bt522 => ((impl_PopMaze.f k bt522.1 bt522.2 t516 t519).bind fun bt524 => ((laws_eqMaze.f bt524.1 bt524.2.1 bt524.2.2.1 bt511.1 bt511.2.1 bt511.2.2.1).bind fun t529 => (if t529 = true then (laws_FnExactPopMaze.j0 k l1 l2 t516 t519 (bt524.2.2.2 != bt511.2.2.2)) else (laws_FnExactPopMaze.j0 k l1 l2 t516 t519 true)))))))))))))) = some r := h
 clear h
 by_cases c4 : (l2.length : Int) > 1048576
 ·rw [if_pos c4] at H
  have c4b0 : decide (1048576 < (l2.length : Int)) = true := decide_eq_true c4
  have c4b1 : decide (1048576 < l2.length) = true := decide_eq_true (by omega)
  clear c4
  obtain rfl := Option.some.inj H
  go_enter Try.func4, Try.ntmps4
  go_wp2_with ((with_reducible refine gw_ ?_); first | (refine box_ (N := 3) (cs := #[.int .i64 a0_0, .int .i64 a0_1]) (t := 23) ?_; intro gb501 hg w5 hbox hb; have BK501 := Aside0.mk (hbox); have GW501 := HB.g0 hg; have GE501 := HB.g0 hg; replace HB := HB.s0 hb; clear hb hbox hg))
  go_ret
  exact ⟨ex_, hb1_ HB.out GE501.out⟩
 ·rw [if_neg c4] at H
  have c4b0 : decide (1048576 < (l2.length : Int)) = false := decide_eq_false c4
  have c4b1 : decide (1048576 < l2.length) = false := decide_eq_false (by omega)
  clear c4
  replace H := Option.bind_eq_some_iff.mp H
  obtain ⟨t502, A60, H⟩ := H
  replace H : (if t502 < 0 then (some true) else ((laws_toGrid.f a0_0 a0_1).bind fun bt503 => ((laws_toIntSS.f k l1).bind fun t505 => ((laws_toIntS.f k l2).bind fun t508 => ((spec_PopMaze.f k bt503.1 bt503.2 t505 t508).bind fun bt511 => ((laws_toIntSS.f k l1).bind fun t516 => ((laws_toIntS.f k l2).bind fun t519 => ((laws_toGrid.f a0_0 a0_1).bind fun bt522 => ((impl_PopMaze.f k bt522.1 bt522.2 t516 t519).bind fun bt524 => ((laws_eqMaze.f bt524.1 bt524.2.1 bt524.2.2.1 bt511.1 bt511.2.1 bt511.2.2.1).bind fun t529 => (if t529 = true then (laws_FnExactPopMaze.j0 k l1 l2 t516 t519 (bt524.2.2.2 != bt511.2.2.2)) else (laws_FnExactPopMaze.j0 k l1 l2 t516 t519 true)))))))))))) = some r := H
  have A6 := Aside0.mk A60
  clear A60
  by_cases c7 : t502 < 0
  ·rw [if_pos c7] at H
   have c7b0 : decide (t502 < 0) = true := decide_eq_true c7
   clear c7
   obtain rfl := Option.some.inj H
   go_enter Try.func4, Try.ntmps4
   go_wp2_with ((with_reducible refine gw_ ?_); first | (refine box_ (N := 3) (cs := #[.int .i64 a0_0, .int .i64 a0_1]) (t := 23) ?_; intro gb501 hg w8 hbox hb; have BK501 := Aside0.mk (hbox); have GW501 := HB.g0 hg; have GE501 := HB.g0 hg; replace HB := HB.s0 hb; clear hb hbox hg) | (refine gl_ 19 Try.func6 #[.slice A1 l1.length c1, .int .i64 1048576] ?_; (with_reducible refine (laws_szIntSS.calls k _ _ l1 1048576 t502 _ ?side1 ?side2 A6.out).mono ?_); (case side1 => repeat (first | exact (Kd.C_below HR1.out HB.out) | (with_reducible refine Kd.C_alloc ?_ _) | (with_reducible refine Kd.C_drewN ?_ _) | (with_reducible refine Kd.C_drew ?_))); (case side2 => exact HC1.out); rintro e w' ⟨rfl, ⟨nd, rfl⟩⟩; refine ⟨_, rfl, ?_⟩))
   go_ret
   exact ⟨ex_, hb1_ HB.out GE501.out⟩
  ·rw [if_neg c7] at H
   have c7b0 : decide (t502 < 0) = false := decide_eq_false c7
   clear c7
   replace H := Option.bind_eq_some_iff.mp H
   obtain ⟨⟨t503, t504⟩, A90, H⟩ := H
   replace H : ((laws_toIntSS.f k l1).bind fun t505 => ((laws_toIntS.f k l2).bind fun t508 => ((spec_PopMaze.f k t503 t504 t505 t508).bind fun bt511 => ((laws_toIntSS.f k l1).bind fun t516 => ((laws_toIntS.f k l2).bind fun t519 => ((laws_toGrid.f a0_0 a0_1).bind fun bt522 => ((impl_PopMaze.f k bt522.1 bt522.2 t516 t519).bind fun bt524 => ((laws_eqMaze.f bt524.1 bt524.2.1 bt524.2.2.1 bt511.1 bt511.2.1 bt511.2.2.1).bind fun t529 => (if t529 = true then (laws_FnExactPopMaze.j0 k l1 l2 t516 t519 (bt524.2.2.2 != bt511.2.2.2)) else (laws_FnExactPopMaze.j0 k l1 l2 t516 t519 true)))))))))) = some r := H
   have A9 := Aside0.mk A90
   clear A90
   replace H := Option.bind_eq_some_iff.mp H
   obtain ⟨t505, A100, H⟩ := H
   replace H : ((laws_toIntS.f k l2).bind fun t508 => ((spec_PopMaze.f k t503 t504 t505 t508).bind fun bt511 => ((laws_toIntSS.f k l1).bind fun t516 => ((laws_toIntS.f k l2).bind fun t519 => ((laws_toGrid.f a0_0 a0_1).bind fun bt522 => ((impl_PopMaze.f k bt522.1 bt522.2 t516 t519).bind fun bt524 => ((laws_eqMaze.f bt524.1 bt524.2.1 bt524.2.2.1 bt511.1 bt511.2.1 bt511.2.2.1).bind fun t529 => (if t529 = true then (laws_FnExactPopMaze.j0 k l1 l2 t516 t519 (bt524.2.2.2 != bt511.2.2.2)) else (laws_FnExactPopMaze.j0 k l1 l2 t516 t519 true))))))))) = some r := H
   have A10 := Aside0.mk A100
   clear A100
   replace H := Option.bind_eq_some_iff.mp H
   obtain ⟨t508, A110, H⟩ := H
   replace H : ((spec_PopMaze.f k t503 t504 t505 t508).bind fun bt511 => ((laws_toIntSS.f k l1).bind fun t516 => ((laws_toIntS.f k l2).bind fun t519 => ((laws_toGrid.f a0_0 a0_1).bind fun bt522 => ((impl_PopMaze.f k bt522.1 bt522.2 t516 t519).bind fun bt524 => ((laws_eqMaze.f bt524.1 bt524.2.1 bt524.2.2.1 bt511.1 bt511.2.1 bt511.2.2.1).bind fun t529 => (if t529 = true then (laws_FnExactPopMaze.j0 k l1 l2 t516 t519 (bt524.2.2.2 != bt511.2.2.2)) else (laws_FnExactPopMaze.j0 k l1 l2 t516 t519 true)))))))) = some r := H
   have A11 := Aside0.mk A110
   clear A110
   replace H := Option.bind_eq_some_iff.mp H
   obtain ⟨⟨t511, t512, t513, t514⟩, A120, H⟩ := H
   replace H : ((laws_toIntSS.f k l1).bind fun t516 => ((laws_toIntS.f k l2).bind fun t519 => ((laws_toGrid.f a0_0 a0_1).bind fun bt522 => ((impl_PopMaze.f k bt522.1 bt522.2 t516 t519).bind fun bt524 => ((laws_eqMaze.f bt524.1 bt524.2.1 bt524.2.2.1 t511 t512 t513).bind fun t529 => (if t529 = true then (laws_FnExactPopMaze.j0 k l1 l2 t516 t519 (bt524.2.2.2 != t514)) else (laws_FnExactPopMaze.j0 k l1 l2 t516 t519 true))))))) = some r := H
   have A12 := Aside0.mk A120
   clear A120
   replace H := Option.bind_eq_some_iff.mp H
   obtain ⟨t516, A130, H⟩ := H
   replace H : ((laws_toIntS.f k l2).bind fun t519 => ((laws_toGrid.f a0_0 a0_1).bind fun bt522 => ((impl_PopMaze.f k bt522.1 bt522.2 t516 t519).bind fun bt524 => ((laws_eqMaze.f bt524.1 bt524.2.1 bt524.2.2.1 t511 t512 t513).bind fun t529 => (if t529 = true then (laws_FnExactPopMaze.j0 k l1 l2 t516 t519 (bt524.2.2.2 != t514)) else (laws_FnExactPopMaze.j0 k l1 l2 t516 t519 true)))))) = some r := H
   have A13 := Aside0.mk A130
   clear A130
   replace H := Option.bind_eq_some_iff.mp H
   obtain ⟨t519, A140, H⟩ := H
   replace H : ((laws_toGrid.f a0_0 a0_1).bind fun bt522 => ((impl_PopMaze.f k bt522.1 bt522.2 t516 t519).bind fun bt524 => ((laws_eqMaze.f bt524.1 bt524.2.1 bt524.2.2.1 t511 t512 t513).bind fun t529 => (if t529 = true then (laws_FnExactPopMaze.j0 k l1 l2 t516 t519 (bt524.2.2.2 != t514)) else (laws_FnExactPopMaze.j0 k l1 l2 t516 t519 true))))) = some r := H
   have A14 := Aside0.mk A140
   clear A140
   replace H := Option.bind_eq_some_iff.mp H
   obtain ⟨⟨t522, t523⟩, A150, H⟩ := H
   replace H : ((impl_PopMaze.f k t522 t523 t516 t519).bind fun bt524 => ((laws_eqMaze.f bt524.1 bt524.2.1 bt524.2.2.1 t511 t512 t513).bind fun t529 => (if t529 = true then (laws_FnExactPopMaze.j0 k l1 l2 t516 t519 (bt524.2.2.2 != t514)) else (laws_FnExactPopMaze.j0 k l1 l2 t516 t519 true)))) = some r := H
   have A15 := Aside0.mk A150
   clear A150
   replace H := Option.bind_eq_some_iff.mp H
   obtain ⟨⟨t524, t525, t526, t527⟩, A160, H⟩ := H
   replace H : ((laws_eqMaze.f t524 t525 t526 t511 t512 t513).bind fun t529 => (if t529 = true then (laws_FnExactPopMaze.j0 k l1 l2 t516 t519 (t527 != t514)) else (laws_FnExactPopMaze.j0 k l1 l2 t516 t519 true))) = some r := H
   have A16 := Aside0.mk A160
   clear A160
   have HC17 := Aside0.mk H
   clear H
   go_enter Try.func4, Try.ntmps4
   go_upto_region 11 with ((with_reducible refine gw_ ?_); first | (refine box_ (N := 3) (cs := #[.int .i64 a0_0, .int .i64 a0_1]) (t := 23) ?_; intro gb501 hg w18 hbox hb; have BK501 := Aside0.mk (hbox); have GW501 := HB.g0 hg; have GE501 := HB.g0 hg; replace HB := HB.s0 hb; clear hb hbox hg) | (refine gl_ 19 Try.func6 #[.slice A1 l1.length c1, .int .i64 1048576] ?_; (with_reducible refine (laws_szIntSS.calls k _ _ l1 1048576 t502 _ ?side1 ?side2 A6.out).mono ?_); (case side1 => repeat (first | exact (Kd.C_below HR1.out HB.out) | (with_reducible refine Kd.C_alloc ?_ _) | (with_reducible refine Kd.C_drewN ?_ _) | (with_reducible refine Kd.C_drew ?_))); (case side2 => exact HC1.out); rintro e w' ⟨rfl, ⟨nd, rfl⟩⟩; refine ⟨_, rfl, ?_⟩; (try (rw [drewN_self w18]; generalize hq_ : World.drewN w18 _ = w18; have n0_ : Aside0 (w18.heap[gb501]? = some (.cells #[.int .i64 a0_0, .int .i64 a0_1] 23 (0, 0))) := ⟨by rw [← hq_]; exact (bk_ BK501.out)⟩; have n1_ : Aside0 (Below w.heap.size w w18) := ⟨by rw [← hq_]; exact (hb1_ HB.out GE501.out)⟩; clear BK501 HB hq_; have BK501 := n0_; have HB := n1_; clear n0_ n1_)); obtain ⟨hcz19_0, hcz19_1⟩ := cz2_ BK501.out; obtain ⟨hfz19_0, hfz19_1⟩ := fz2_ BK501.out) | (refine gl_ 24 Try.func8 #[.agg #[.int .i64 a0_0, .int .i64 a0_1]] ?_; (with_reducible refine (laws_toGrid.calls a0_0 a0_1 t503 t504 _ A9.out).mono ?_); rintro e w20 ⟨rfl, hb⟩; refine ⟨_, rfl, ?_⟩; replace BK501 := BK501.bb hb; replace HB := HB.s1 GE501 hb; (try clear hb)) | (refine gl_ 26 Try.func9 #[.slice A1 l1.length c1] ?_; (with_reducible refine (laws_toIntSS.calls k _ _ l1 t505 _ ?side1 ?side2 A10.out).mono ?_); (case side1 => repeat (first | exact (Kd.C_below HR1.out HB.out) | (with_reducible refine Kd.C_alloc ?_ _) | (with_reducible refine Kd.C_drewN ?_ _) | (with_reducible refine Kd.C_drew ?_))); (case side2 => exact HC1.out); rintro e w21 ⟨v506, rfl, ho0, hb⟩; refine ⟨_, rfl, ?_⟩; have HO507 := Aside0.mk (Kd.S_lower ho0 (below_size (hb1_ HB.out GE501.out))); replace BK501 := BK501.bb hb; replace HB := HB.s1 GE501 hb; (try clear hb); (try clear ho0)) | (refine gl_ 28 Try.func10 #[.slice A2 l2.length c2] ?_; (with_reducible refine (laws_toIntS.calls k _ _ l2 t508 _ ?side1 ?side2 A11.out).mono ?_); (case side1 => repeat (first | exact (Kd.C_below HR2.out HB.out) | (with_reducible refine Kd.C_alloc ?_ _) | (with_reducible refine Kd.C_drewN ?_ _) | (with_reducible refine Kd.C_drew ?_))); (case side2 => exact HC2.out); rintro e w22 ⟨v509, rfl, ho0, hb⟩; refine ⟨_, rfl, ?_⟩; replace HO507 := Aside0.mk (Kd.S_elder' (by (with_reducible repeat (first | apply Kd.S_alloc | apply Kd.S_drewN | apply Kd.S_drew)); exact HO507.out) (Kd.R_base ho0) hb); have HO510 := Aside0.mk (Kd.R_lower ho0 (below_size (hb1_ HB.out GE501.out))); replace BK501 := BK501.bb hb; replace HB := HB.s1 GE501 hb; (try clear hb); (try clear ho0); obtain ⟨Ao23, co23, eo23⟩ := Kd.S_slice HO507.out; subst eo23; obtain ⟨Ao24, co24, eo24⟩ := Kd.R_slice HO510.out; subst eo24) | (refine gl_ 29 Try.func14 #[.agg #[.int .i64 t503, .int .i64 t504], .slice Ao23 t505.length co23, .slice Ao24 t508.length co24] ?_; (with_reducible refine (spec_PopMaze.calls k t503 t504 _ _ t505 _ _ t508 t511 t512 t513 t514 _ ?side1 ?side2 ?side3 ?side4 A12.out).mono ?_); (case side1 => repeat (first | exact (Kd.S_reads' HO507.out).2.2 | (with_reducible refine Kd.C_alloc ?_ _) | (with_reducible refine Kd.C_drewN ?_ _) | (with_reducible refine Kd.C_drew ?_))); (case side2 => exact (Kd.S_reads' HO507.out).2.1); (case side3 => repeat (first | exact (Kd.R_reads' HO510.out).2.2 | (with_reducible refine Kd.C_alloc ?_ _) | (with_reducible refine Kd.C_drewN ?_ _) | (with_reducible refine Kd.C_drew ?_))); (case side4 => exact (Kd.R_reads' HO510.out).2.1); rintro e w25 ⟨rfl, hb⟩; refine ⟨_, rfl, ?_⟩; replace HO507 := Aside0.mk (Kd.S_below (by (with_reducible repeat (first | apply Kd.S_alloc | apply Kd.S_drewN | apply Kd.S_drew)); exact HO507.out) hb); replace HO510 := HO510.kb hb; replace BK501 := BK501.bb hb; replace HB := HB.s1 GE501 hb; (try clear hb)) | (refine box_ (N := 8) (cs := #[.int .i64 0, .int .i64 0, .int .i64 0]) (t := 36) ?_; intro gb515 hg w26 hbox hb; have n0_ := Aside0.mk (Kd.S_below (by (with_reducible repeat (first | apply Kd.S_alloc | apply Kd.S_drewN | apply Kd.S_drew)); exact HO507.out) hb); have n1_ := HO510.kb hb; have n2_ := BK501.bb hb; have n3_ := HB.s1 GE501 hb; have n4_ := Aside0.mk (hbox); have n5_ := HB.g1 GE501 hg; have n6_ := HB.g1 GE501 hg; have n7_ := BK501.nl hg; have n8_ := BK501.nr hg; clear HO507; clear HO510; clear BK501; clear HB; have HO507 := n0_; have HO510 := n1_; have BK501 := n2_; have HB := n3_; have BK515 := n4_; have GW515 := n5_; have GE515 := n6_; have NB501_515 := n7_; have NB515_501 := n8_; clear n0_ n1_ n2_ n3_ n4_ n5_ n6_ n7_ n8_; clear hb hbox hg; have hnb27 := NB515_501.out; have hnc27 := NB501_515.out; obtain ⟨hcz28_0, hcz28_1, hcz28_2⟩ := cz3_ BK515.out; obtain ⟨hfz28_0, hfz28_1, hfz28_2⟩ := fz3_ BK515.out) | (refine gl_ 33 Try.func9 #[.slice A1 l1.length c1] ?_; (with_reducible refine (laws_toIntSS.calls k _ _ l1 t516 _ ?side1 ?side2 A13.out).mono ?_); (case side1 => exact Kd.C_below HR1.out (hb2_ HB.out GE501.out GE515.out)); (case side2 => exact HC1.out); rintro e w29 ⟨v517, rfl, ho0, hb⟩; refine ⟨_, rfl, ?_⟩; have n0_ := Aside0.mk (Kd.S_elder' (by (with_reducible repeat (first | apply Kd.S_alloc | apply Kd.S_drewN | apply Kd.S_drew)); exact (Kd.S_mono (Kd.S_far (p := ⟨gb515, 2, none⟩) (Kd.S_far (p := ⟨gb515, 1, none⟩) (Kd.S_far (p := ⟨gb515, 0, none⟩) (Kd.S_types HO507.out BK515.out (by decide)) (fun _ hk => hk.2) (.int .i64 t511)) (fun _ hk => hk.2) (.int .i64 t512)) (fun _ hk => hk.2) (.int .i64 t513)) (fun _ h_ => h_.1))) (Kd.S_base ho0) hb); have n1_ := Aside0.mk (Kd.R_below (rq3_ HO510.out BK515.out) hb); have n2_ := Aside0.mk (Kd.S_lower (Kd.S_new' (Kd.S_new' ho0 (Kd.S_lt (by (with_reducible repeat (first | apply Kd.S_alloc | apply Kd.S_drewN | apply Kd.S_drew)); exact (Kd.S_mono (Kd.S_far (p := ⟨gb515, 2, none⟩) (Kd.S_far (p := ⟨gb515, 1, none⟩) (Kd.S_far (p := ⟨gb515, 0, none⟩) (Kd.S_types HO507.out BK515.out (by decide)) (fun _ hk => hk.2) (.int .i64 t511)) (fun _ hk => hk.2) (.int .i64 t512)) (fun _ hk => hk.2) (.int .i64 t513)) (fun _ h_ => h_.1))))) (Kd.R_lt (rq3_ HO510.out BK515.out))) (below_size (hb2_ HB.out GE501.out GE515.out))); have n3_ := Aside0.mk (blk_below (g := gb501) (o := .cells #[.int .i64 a0_0, .int .i64 a0_1] 23 (0, 0)) (by (with_reducible repeat (first | refine blk_drewN ?_ _ | refine blk_drew ?_ | refine blk_alloc ?_ _)); refine blk_far ?_ NB501_515.out _; (with_reducible repeat (first | refine blk_drewN ?_ _ | refine blk_drew ?_ | refine blk_alloc ?_ _)); refine blk_far ?_ NB501_515.out _; (with_reducible repeat (first | refine blk_drewN ?_ _ | refine blk_drew ?_ | refine blk_alloc ?_ _)); refine blk_far ?_ NB501_515.out _; (with_reducible repeat (first | refine blk_drewN ?_ _ | refine blk_drew ?_ | refine blk_alloc ?_ _)); exact BK501.out) hb); have n4_ := Aside0.mk (blk_below (bq3_ BK515.out) hb); have n5_ := HB.s2 GE501 GE515 hb; clear HO507; clear HO510; clear BK501; clear BK515; clear HB; have HO507 := n0_; have HO510 := n1_; have HO518 := n2_; have BK501 := n3_; have BK515 := n4_; have HB := n5_; clear n0_ n1_ n2_ n3_ n4_ n5_; (try clear hb); (try clear ho0)) | (refine gl_ 35 Try.func10 #[.slice A2 l2.length c2] ?_; (with_reducible refine (laws_toIntS.calls k _ _ l2 t519 _ ?side1 ?side2 A14.out).mono ?_); (case side1 => repeat (first | exact (Kd.C_below HR2.out HB.out) | (with_reducible refine Kd.C_alloc ?_ _) | (with_reducible refine Kd.C_drewN ?_ _) | (with_reducible refine Kd.C_drew ?_))); (case side2 => exact HC2.out); rintro e w30 ⟨v520, rfl, ho0, hb⟩; refine ⟨_, rfl, ?_⟩; have n0_ := Aside0.mk (Kd.S_elder' (by (with_reducible repeat (first | apply Kd.S_alloc | apply Kd.S_drewN | apply Kd.S_drew)); exact HO507.out) (Kd.R_base ho0) hb); have n1_ := Aside0.mk (Kd.R_elder' (kr_ HO510.out) (Kd.R_base ho0) hb); have n2_ := Aside0.mk (Kd.S_elder' (by (with_reducible repeat (first | apply Kd.S_alloc | apply Kd.S_drewN | apply Kd.S_drew)); exact HO518.out) (Kd.R_base ho0) hb); have n3_ := Aside0.mk (Kd.R_lower (Kd.R_new' ho0 (Kd.R_lt (kr_ HO510.out))) (below_size (hb2_ HB.out GE501.out GE515.out))); have n4_ := BK501.bb hb; have n5_ := BK515.bb hb; have n6_ := HB.s2 GE501 GE515 hb; clear HO507; clear HO510; clear HO518; clear BK501; clear BK515; clear HB; have HO507 := n0_; have HO510 := n1_; have HO518 := n2_; have HO521 := n3_; have BK501 := n4_; have BK515 := n5_; have HB := n6_; clear n0_ n1_ n2_ n3_ n4_ n5_ n6_; (try clear hb); (try clear ho0); obtain ⟨hcz31_0, hcz31_1⟩ := cz2_ BK501.out; obtain ⟨hfz31_0, hfz31_1⟩ := fz2_ BK501.out) | (refine gl_ 38 Try.func8 #[.agg #[.int .i64 a0_0, .int .i64 a0_1]] ?_; (with_reducible refine (laws_toGrid.calls a0_0 a0_1 t522 t523 _ A15.out).mono ?_); rintro e w32 ⟨rfl, hb⟩; refine ⟨_, rfl, ?_⟩; replace HO507 := Aside0.mk (Kd.S_below (by (with_reducible repeat (first | apply Kd.S_alloc | apply Kd.S_drewN | apply Kd.S_drew)); exact HO507.out) hb); replace HO510 := HO510.kb hb; replace HO518 := Aside0.mk (Kd.S_below (by (with_reducible repeat (first | apply Kd.S_alloc | apply Kd.S_drewN | apply Kd.S_drew)); exact HO518.out) hb); replace HO521 := HO521.kb hb; replace BK501 := BK501.bb hb; replace BK515 := BK515.bb hb; replace HB := HB.s2 GE501 GE515 hb; (try clear hb); obtain ⟨Ao33, co33, eo33⟩ := Kd.S_slice HO518.out; subst eo33; obtain ⟨Ao34, co34, eo34⟩ := Kd.R_slice HO521.out; subst eo34) | (refine gl_ 41 Try.func15 #[.agg #[.int .i64 t522, .int .i64 t523], .slice Ao33 t516.length co33, .slice Ao34 t519.length co34] ?_; (with_reducible refine (impl_PopMaze.calls k t522 t523 _ _ t516 _ _ t519 t524 t525 t526 t527 _ ?side1 ?side2 ?side3 ?side4 A16.out).mono ?_); (case side1 => repeat (first | exact (Kd.S_reads' HO518.out).2.2 | (with_reducible refine Kd.C_alloc ?_ _) | (with_reducible refine Kd.C_drewN ?_ _) | (with_reducible refine Kd.C_drew ?_))); (case side2 => exact (Kd.S_reads' HO518.out).2.1); (case side3 => repeat (first | exact (Kd.R_reads' HO521.out).2.2 | (with_reducible refine Kd.C_alloc ?_ _) | (with_reducible refine Kd.C_drewN ?_ _) | (with_reducible refine Kd.C_drew ?_))); (case side4 => exact (Kd.R_reads' HO521.out).2.1); rintro e w35 ⟨rfl, hb⟩; refine ⟨_, rfl, ?_⟩; replace HO507 := Aside0.mk (Kd.S_below (by (with_reducible repeat (first | apply Kd.S_alloc | apply Kd.S_drewN | apply Kd.S_drew)); exact HO507.out) hb); replace HO510 := HO510.kb hb; replace HO518 := Aside0.mk (Kd.S_below (by (with_reducible repeat (first | apply Kd.S_alloc | apply Kd.S_drewN | apply Kd.S_drew)); exact HO518.out) hb); replace HO521 := HO521.kb hb; replace BK501 := BK501.bb hb; replace BK515 := BK515.bb hb; replace HB := HB.s2 GE501 GE515 hb; (try clear hb)) | (refine box_ (N := 12) (cs := #[.int .i64 0, .int .i64 0, .int .i64 0]) (t := 36) ?_; intro gb528 hg w36 hbox hb; have n0_ := Aside0.mk (Kd.S_below (by (with_reducible repeat (first | apply Kd.S_alloc | apply Kd.S_drewN | apply Kd.S_drew)); exact HO507.out) hb); have n1_ := HO510.kb hb; have n2_ := Aside0.mk (Kd.S_below (by (with_reducible repeat (first | apply Kd.S_alloc | apply Kd.S_drewN | apply Kd.S_drew)); exact HO518.out) hb); have n3_ := HO521.kb hb; have n4_ := BK501.bb hb; have n5_ := BK515.bb hb; have n6_ := HB.s2 GE501 GE515 hb; have n7_ := Aside0.mk (hbox); have n8_ := HB.g2 GE501 GE515 hg; have n9_ := HB.g2 GE501 GE515 hg; have n10_ := BK501.nl hg; have n11_ := BK501.nr hg; have n12_ := BK515.nl hg; have n13_ := BK515.nr hg; clear HO507; clear HO510; clear HO518; clear HO521; clear BK501; clear BK515; clear HB; have HO507 := n0_; have HO510 := n1_; have HO518 := n2_; have HO521 := n3_; have BK501 := n4_; have BK515 := n5_; have HB := n6_; have BK528 := n7_; have GW528 := n8_; have GE528 := n9_; have NB501_528 := n10_; have NB528_501 := n11_; have NB515_528 := n12_; have NB528_515 := n13_; clear n0_ n1_ n2_ n3_ n4_ n5_ n6_ n7_ n8_ n9_ n10_ n11_ n12_ n13_; clear hb hbox hg; have hnb37 := NB528_501.out; have hnc37 := NB501_528.out; have hnb38 := NB528_515.out; have hnc38 := NB515_528.out; obtain ⟨hcz39_0, hcz39_1, hcz39_2⟩ := cz3_ BK528.out; obtain ⟨hfz39_0, hfz39_1, hfz39_2⟩ := fz3_ BK528.out))
   (try simp only [Act.put, List.setIfInBounds_toArray, List.set_cons_zero, List.set_cons_succ])
   go_cut [52] (fun v52 wc => ∃ (kq : Nat) (x52_16 : Bool), v52 = .bool x52_16 ∧ Aside0 (laws_FnExactPopMaze.j0 kq l1 l2 t516 t519 x52_16 = some r) ∧ Aside0 (kq ≤ k) ∧ Aside0 (Kd.S (Kd.slice 3 (Kd.int .i64)) 25 wc w.heap.size (fun k_ => some k_ ≠ ((.slice Ao34 t519.length co34) : Value).ownBlock) (.slice Ao33 t516.length co33) t516) ∧ Aside0 (Kd.R (Kd.int .i64) 3 wc w.heap.size (fun _ => True) (.slice Ao34 t519.length co34) t519) ∧ Aside0 (wc.heap[gb501]? = some (.cells #[.int .i64 a0_0, .int .i64 a0_1] 23 (0, 0))) ∧ Aside0 (wc.heap[gb515]? = some (.cells #[.int .i64 t511, .int .i64 t512, .int .i64 t513] 36 (0, 0))) ∧ Aside0 (wc.heap[gb528]? = some (.cells #[.int .i64 t524, .int .i64 t525, .int .i64 t526] 36 (0, 0))) ∧ Aside0 (Below w.heap.size w wc))
   case first =>
    have H := HC17.out
    clear HC17
    replace H := Option.bind_eq_some_iff.mp H
    obtain ⟨t529, A400, H⟩ := H
    replace H : (if t529 = true then (laws_FnExactPopMaze.j0 k l1 l2 t516 t519 (t527 != t514)) else (laws_FnExactPopMaze.j0 k l1 l2 t516 t519 true)) = some r := H
    have A40 := Aside0.mk A400
    clear A400
    by_cases c41 : t529 = true
    ·subst c41
     have H1 : (laws_FnExactPopMaze.j0 k l1 l2 t516 t519 (t527 != t514)) = some r := by rw [if_pos rfl] at H; exact H
     clear H
     have H := H1
     clear H1
     have H' := Aside0.mk H
     clear H
     have hnb42 := NB528_501.out
     have hnc42 := NB501_528.out
     have hnb43 := NB528_515.out
     have hnc43 := NB515_528.out
     obtain ⟨hcz44_0, hcz44_1, hcz44_2⟩ := cz3_ BK528.out
     obtain ⟨hfz44_0, hfz44_1, hfz44_2⟩ := fz3_ BK528.out
     have hnb45 := NB515_501.out
     have hnc45 := NB501_515.out
     obtain ⟨hcz46_0, hcz46_1, hcz46_2⟩ := cz3_ BK515.out
     obtain ⟨hfz46_0, hfz46_1, hfz46_2⟩ := fz3_ BK515.out
     go_wp2_with ((with_reducible refine gw_ ?_); first | (refine gl_ 46 Try.func16 #[.agg #[.int .i64 t524, .int .i64 t525, .int .i64 t526], .agg #[.int .i64 t511, .int .i64 t512, .int .i64 t513]] ?_; (with_reducible refine (laws_eqMaze.calls t524 t525 t526 t511 t512 t513 true _ A40.out).mono ?_); rintro e w47 ⟨rfl, hb⟩; refine ⟨_, rfl, ?_⟩; replace HO507 := Aside0.mk (Kd.S_below (by (with_reducible repeat (first | apply Kd.S_alloc | apply Kd.S_drewN | apply Kd.S_drew)); exact (Kd.S_mono (Kd.S_far (p := ⟨gb528, 2, none⟩) (Kd.S_far (p := ⟨gb528, 1, none⟩) (Kd.S_far (p := ⟨gb528, 0, none⟩) (Kd.S_types HO507.out BK528.out (by decide)) (fun _ hk => hk.2) (.int .i64 t524)) (fun _ hk => hk.2) (.int .i64 t525)) (fun _ hk => hk.2) (.int .i64 t526)) (fun _ h_ => h_.1))) hb); replace HO510 := Aside0.mk (Kd.R_below (rq3_ HO510.out BK528.out) hb); replace HO518 := Aside0.mk (Kd.S_below (by (with_reducible repeat (first | apply Kd.S_alloc | apply Kd.S_drewN | apply Kd.S_drew)); exact (Kd.S_mono (Kd.S_far (p := ⟨gb528, 2, none⟩) (Kd.S_far (p := ⟨gb528, 1, none⟩) (Kd.S_far (p := ⟨gb528, 0, none⟩) (Kd.S_types HO518.out BK528.out (by decide)) (fun _ hk => hk.2) (.int .i64 t524)) (fun _ hk => hk.2) (.int .i64 t525)) (fun _ hk => hk.2) (.int .i64 t526)) (fun _ h_ => h_.1))) hb); replace HO521 := Aside0.mk (Kd.R_below (rq3_ HO521.out BK528.out) hb); replace BK501 := Aside0.mk (blk_below (g := gb501) (o := .cells #[.int .i64 a0_0, .int .i64 a0_1] 23 (0, 0)) (by (with_reducible repeat (first | refine blk_drewN ?_ _ | refine blk_drew ?_ | refine blk_alloc ?_ _)); refine blk_far ?_ NB501_528.out _; (with_reducible repeat (first | refine blk_drewN ?_ _ | refine blk_drew ?_ | refine blk_alloc ?_ _)); refine blk_far ?_ NB501_528.out _; (with_reducible repeat (first | refine blk_drewN ?_ _ | refine blk_drew ?_ | refine blk_alloc ?_ _)); refine blk_far ?_ NB501_528.out _; (with_reducible repeat (first | refine blk_drewN ?_ _ | refine blk_drew ?_ | refine blk_alloc ?_ _)); exact BK501.out) hb); replace BK515 := Aside0.mk (blk_below (g := gb515) (o := .cells #[.int .i64 t511, .int .i64 t512, .int .i64 t513] 36 (0, 0)) (by (with_reducible repeat (first | refine blk_drewN ?_ _ | refine blk_drew ?_ | refine blk_alloc ?_ _)); refine blk_far ?_ NB515_528.out _; (with_reducible repeat (first | refine blk_drewN ?_ _ | refine blk_drew ?_ | refine blk_alloc ?_ _)); refine blk_far ?_ NB515_528.out _; (with_reducible repeat (first | refine blk_drewN ?_ _ | refine blk_drew ?_ | refine blk_alloc ?_ _)); refine blk_far ?_ NB515_528.out _; (with_reducible repeat (first | refine blk_drewN ?_ _ | refine blk_drew ?_ | refine blk_alloc ?_ _)); exact BK515.out) hb); replace BK528 := Aside0.mk (blk_below (bq3_ BK528.out) hb); replace HB := HB.s3 GE501 GE515 GE528 hb; (try clear hb)))
     go_meet
     case rel => exact ⟨_, ((t527 != t514)), (by first | rfl | (simp; done) | (simp [*]; done)), H', ⟨by first | omega | exact Nat.le_refl _⟩, ⟨by (with_reducible repeat (first | apply Kd.S_alloc | apply Kd.S_drewN | apply Kd.S_drew)); exact Kd.S_mono HO518.out (fun _ hk => hk.2)⟩, ⟨by (with_reducible repeat (first | apply Kd.R_alloc | apply Kd.R_drewN | apply Kd.R_drew)); exact Kd.R_mono HO521.out (fun _ hk => trivial)⟩, ⟨bk_ BK501.out⟩, ⟨bk_ BK515.out⟩, ⟨bk_ BK528.out⟩, ⟨hb3_ HB.out GE501.out GE515.out GE528.out⟩⟩
    ·replace c41 := Bool.eq_false_iff.mpr c41
     subst c41
     have H1 : (laws_FnExactPopMaze.j0 k l1 l2 t516 t519 true) = some r := by rw [if_neg (show ¬ (false = true) by decide)] at H; exact H
     clear H
     have H := H1
     clear H1
     have H' := Aside0.mk H
     clear H
     have hnb48 := NB528_501.out
     have hnc48 := NB501_528.out
     have hnb49 := NB528_515.out
     have hnc49 := NB515_528.out
     obtain ⟨hcz50_0, hcz50_1, hcz50_2⟩ := cz3_ BK528.out
     obtain ⟨hfz50_0, hfz50_1, hfz50_2⟩ := fz3_ BK528.out
     have hnb51 := NB515_501.out
     have hnc51 := NB501_515.out
     obtain ⟨hcz52_0, hcz52_1, hcz52_2⟩ := cz3_ BK515.out
     obtain ⟨hfz52_0, hfz52_1, hfz52_2⟩ := fz3_ BK515.out
     go_wp2_with ((with_reducible refine gw_ ?_); first | (refine gl_ 46 Try.func16 #[.agg #[.int .i64 t524, .int .i64 t525, .int .i64 t526], .agg #[.int .i64 t511, .int .i64 t512, .int .i64 t513]] ?_; (with_reducible refine (laws_eqMaze.calls t524 t525 t526 t511 t512 t513 false _ A40.out).mono ?_); rintro e w53 ⟨rfl, hb⟩; refine ⟨_, rfl, ?_⟩; replace HO507 := Aside0.mk (Kd.S_below (by (with_reducible repeat (first | apply Kd.S_alloc | apply Kd.S_drewN | apply Kd.S_drew)); exact (Kd.S_mono (Kd.S_far (p := ⟨gb528, 2, none⟩) (Kd.S_far (p := ⟨gb528, 1, none⟩) (Kd.S_far (p := ⟨gb528, 0, none⟩) (Kd.S_types HO507.out BK528.out (by decide)) (fun _ hk => hk.2) (.int .i64 t524)) (fun _ hk => hk.2) (.int .i64 t525)) (fun _ hk => hk.2) (.int .i64 t526)) (fun _ h_ => h_.1))) hb); replace HO510 := Aside0.mk (Kd.R_below (rq3_ HO510.out BK528.out) hb); replace HO518 := Aside0.mk (Kd.S_below (by (with_reducible repeat (first | apply Kd.S_alloc | apply Kd.S_drewN | apply Kd.S_drew)); exact (Kd.S_mono (Kd.S_far (p := ⟨gb528, 2, none⟩) (Kd.S_far (p := ⟨gb528, 1, none⟩) (Kd.S_far (p := ⟨gb528, 0, none⟩) (Kd.S_types HO518.out BK528.out (by decide)) (fun _ hk => hk.2) (.int .i64 t524)) (fun _ hk => hk.2) (.int .i64 t525)) (fun _ hk => hk.2) (.int .i64 t526)) (fun _ h_ => h_.1))) hb); replace HO521 := Aside0.mk (Kd.R_below (rq3_ HO521.out BK528.out) hb); replace BK501 := Aside0.mk (blk_below (g := gb501) (o := .cells #[.int .i64 a0_0, .int .i64 a0_1] 23 (0, 0)) (by (with_reducible repeat (first | refine blk_drewN ?_ _ | refine blk_drew ?_ | refine blk_alloc ?_ _)); refine blk_far ?_ NB501_528.out _; (with_reducible repeat (first | refine blk_drewN ?_ _ | refine blk_drew ?_ | refine blk_alloc ?_ _)); refine blk_far ?_ NB501_528.out _; (with_reducible repeat (first | refine blk_drewN ?_ _ | refine blk_drew ?_ | refine blk_alloc ?_ _)); refine blk_far ?_ NB501_528.out _; (with_reducible repeat (first | refine blk_drewN ?_ _ | refine blk_drew ?_ | refine blk_alloc ?_ _)); exact BK501.out) hb); replace BK515 := Aside0.mk (blk_below (g := gb515) (o := .cells #[.int .i64 t511, .int .i64 t512, .int .i64 t513] 36 (0, 0)) (by (with_reducible repeat (first | refine blk_drewN ?_ _ | refine blk_drew ?_ | refine blk_alloc ?_ _)); refine blk_far ?_ NB515_528.out _; (with_reducible repeat (first | refine blk_drewN ?_ _ | refine blk_drew ?_ | refine blk_alloc ?_ _)); refine blk_far ?_ NB515_528.out _; (with_reducible repeat (first | refine blk_drewN ?_ _ | refine blk_drew ?_ | refine blk_alloc ?_ _)); refine blk_far ?_ NB515_528.out _; (with_reducible repeat (first | refine blk_drewN ?_ _ | refine blk_drew ?_ | refine blk_alloc ?_ _)); exact BK515.out) hb); replace BK528 := Aside0.mk (blk_below (bq3_ BK528.out) hb); replace HB := HB.s3 GE501 GE515 GE528 hb; (try clear hb)))
     go_meet
     case rel => exact ⟨_, (true), (by first | rfl | (simp; done) | (simp [*]; done)), H', ⟨by first | omega | exact Nat.le_refl _⟩, ⟨by (with_reducible repeat (first | apply Kd.S_alloc | apply Kd.S_drewN | apply Kd.S_drew)); exact Kd.S_mono HO518.out (fun _ hk => hk.2)⟩, ⟨by (with_reducible repeat (first | apply Kd.R_alloc | apply Kd.R_drewN | apply Kd.R_drew)); exact Kd.R_mono HO521.out (fun _ hk => trivial)⟩, ⟨bk_ BK501.out⟩, ⟨bk_ BK515.out⟩, ⟨bk_ BK528.out⟩, ⟨hb3_ HB.out GE501.out GE515.out GE528.out⟩⟩
   case rest =>
    clear HC17
    try clear c1
    try clear c2
    try clear p2
    try clear c3
    try clear c4
    try clear c4b0
    try clear c4b1
    try clear c5
    try clear c6
    try clear c7
    try clear c7b0
    try clear c8
    try clear c9
    try clear c10
    try clear c14
    try clear c15
    try clear c16
    try clear c27
    try clear c37
    try clear c38
    try clear c41
    try clear c42
    try clear c43
    try clear c45
    try clear c48
    try clear c49
    try clear c51
    try clear hcz19_0
    try clear hcz19_1
    try clear hcz28_0
    try clear hcz28_1
    try clear hcz28_2
    try clear hcz31_0
    try clear hcz31_1
    try clear hcz39_0
    try clear hcz39_1
    try clear hcz39_2
    try clear hcz44_0
    try clear hcz44_1
    try clear hcz44_2
    try clear hcz46_0
    try clear hcz46_1
    try clear hcz46_2
    try clear hcz50_0
    try clear hcz50_1
    try clear hcz50_2
    try clear hcz52_0
    try clear hcz52_1
    try clear hcz52_2
    try clear hfz19_0
    try clear hfz19_1
    try clear hfz28_0
    try clear hfz28_1
    try clear hfz28_2
    try clear hfz31_0
    try clear hfz31_1
    try clear hfz39_0
    try clear hfz39_1
    try clear hfz39_2
    try clear hfz44_0
    try clear hfz44_1
    try clear hfz44_2
    try clear hfz46_0
    try clear hfz46_1
    try clear hfz46_2
    try clear hfz50_0
    try clear hfz50_1
    try clear hfz50_2
    try clear hfz52_0
    try clear hfz52_1
    try clear hfz52_2
    obtain ⟨kq, x52_16, rfl, HA, HJ16, HO_10, HO_11, BK501, BK515, BK528, HB⟩ := hcut
    cases kq with
    | zero => exact absurd HA.out (by simp [laws_FnExactPopMaze.j0])
    | succ kj16 =>
     have H := HA.out
     clear HA
     simp only [laws_FnExactPopMaze.j0] at H
     by_cases c54 : x52_16 = true
     ·subst c54
      have H1 : (some false) = some r := by rw [if_pos rfl] at H; exact H
      clear H
      have H := H1
      clear H1
      obtain rfl := Option.some.inj H
      go_wp2
      go_ret
      exact ⟨ex_, hb3_ HB.out GE501.out GE515.out GE528.out⟩
     ·replace c54 := Bool.eq_false_iff.mpr c54
      subst c54
      have H1 : ((laws_toIntSS.f kj16 l1).bind fun t530 => ((laws_eqIntSS.f kj16 t516 t530).bind fun t533 => (if t533 = true then ((laws_toIntS.f kj16 l2).bind fun t534 => ((laws_eqIntS.f kj16 t519 t534).bind fun t537 => (if t537 = true then (some true) else (some false)))) else (some false)))) = some r := by rw [if_neg (show ¬ (false = true) by decide)] at H; exact H
      clear H
      have H := H1
      clear H1
      replace H := Option.bind_eq_some_iff.mp H
      obtain ⟨t530, A550, H⟩ := H
      replace H : ((laws_eqIntSS.f kj16 t516 t530).bind fun t533 => (if t533 = true then ((laws_toIntS.f kj16 l2).bind fun t534 => ((laws_eqIntS.f kj16 t519 t534).bind fun t537 => (if t537 = true then (some true) else (some false)))) else (some false))) = some r := H
      have A55 := Aside0.mk A550
      clear A550
      replace H := Option.bind_eq_some_iff.mp H
      obtain ⟨t533, A560, H⟩ := H
      replace H : (if t533 = true then ((laws_toIntS.f kj16 l2).bind fun t534 => ((laws_eqIntS.f kj16 t519 t534).bind fun t537 => (if t537 = true then (some true) else (some false)))) else (some false)) = some r := H
      have A56 := Aside0.mk A560
      clear A560
      by_cases c57 : t533 = true
      ·subst c57
       have H1 : ((laws_toIntS.f kj16 l2).bind fun t534 => ((laws_eqIntS.f kj16 t519 t534).bind fun t537 => (if t537 = true then (some true) else (some false)))) = some r := by rw [if_pos rfl] at H; exact H
       clear H
       have H := H1
       clear H1
       replace H := Option.bind_eq_some_iff.mp H
       obtain ⟨t534, A580, H⟩ := H
       replace H : ((laws_eqIntS.f kj16 t519 t534).bind fun t537 => (if t537 = true then (some true) else (some false))) = some r := H
       have A58 := Aside0.mk A580
       clear A580
       replace H := Option.bind_eq_some_iff.mp H
       obtain ⟨t537, A590, H⟩ := H
       replace H : (if t537 = true then (some true) else (some false)) = some r := H
       have A59 := Aside0.mk A590
       clear A590
       by_cases c60 : t537 = true
       ·subst c60
        have H1 : (some true) = some r := by rw [if_pos rfl] at H; exact H
        clear H
        have H := H1
        clear H1
        obtain rfl := Option.some.inj H
        go_wp2_with ((with_reducible refine gw_ ?_); first | (refine gl_ 55 Try.func9 #[.slice A1 l1.length c1] ?_; (with_reducible refine (laws_toIntSS.calls kj16 _ _ l1 t530 _ ?side1 ?side2 A55.out).mono ?_); (case side1 => repeat (first | exact (Kd.C_below HR1.out HB.out) | (with_reducible refine Kd.C_alloc ?_ _) | (with_reducible refine Kd.C_drewN ?_ _) | (with_reducible refine Kd.C_drew ?_))); (case side2 => exact HC1.out); rintro e w61 ⟨v531, rfl, ho0, hb⟩; refine ⟨_, rfl, ?_⟩; have n0_ := Aside0.mk (Kd.S_elder' (by (with_reducible repeat (first | apply Kd.S_alloc | apply Kd.S_drewN | apply Kd.S_drew)); exact HO_10.out) (Kd.S_base ho0) hb); have n1_ := HO_11.kb hb; have n2_ := Aside0.mk (Kd.S_lower (Kd.S_new' (Kd.S_new' ho0 (Kd.S_lt (by (with_reducible repeat (first | apply Kd.S_alloc | apply Kd.S_drewN | apply Kd.S_drew)); exact HO_10.out))) (Kd.R_lt (kr_ HO_11.out))) (below_size (hb3_ HB.out GE501.out GE515.out GE528.out))); have n3_ := BK501.bb hb; have n4_ := BK515.bb hb; have n5_ := BK528.bb hb; have n6_ := HB.s3 GE501 GE515 GE528 hb; clear HO_10; clear HO_11; clear BK501; clear BK515; clear BK528; clear HB; have HO_10 := n0_; have HO_11 := n1_; have HO532 := n2_; have BK501 := n3_; have BK515 := n4_; have BK528 := n5_; have HB := n6_; clear n0_ n1_ n2_ n3_ n4_ n5_ n6_; (try clear hb); (try clear ho0); obtain ⟨Ao62, co62, eo62⟩ := Kd.S_slice HO532.out; subst eo62) | (refine gl_ 56 Try.func12 #[.slice Ao33 t516.length co33, .slice Ao62 t530.length co62] ?_; (with_reducible refine (laws_eqIntSS.calls kj16 _ _ t516 _ _ t530 true _ ?side1 ?side2 ?side3 ?side4 A56.out).mono ?_); (case side1 => repeat (first | exact (Kd.S_reads' HO_10.out).2.2 | (with_reducible refine Kd.C_alloc ?_ _) | (with_reducible refine Kd.C_drewN ?_ _) | (with_reducible refine Kd.C_drew ?_))); (case side2 => exact (Kd.S_reads' HO_10.out).2.1); (case side3 => repeat (first | exact (Kd.S_reads' HO532.out).2.2 | (with_reducible refine Kd.C_alloc ?_ _) | (with_reducible refine Kd.C_drewN ?_ _) | (with_reducible refine Kd.C_drew ?_))); (case side4 => exact (Kd.S_reads' HO532.out).2.1); rintro e w' ⟨rfl, ⟨nd, rfl⟩⟩; refine ⟨_, rfl, ?_⟩) | (refine gl_ 60 Try.func10 #[.slice A2 l2.length c2] ?_; (with_reducible refine (laws_toIntS.calls kj16 _ _ l2 t534 _ ?side1 ?side2 A58.out).mono ?_); (case side1 => repeat (first | exact (Kd.C_below HR2.out (hb3_ HB.out GE501.out GE515.out GE528.out)) | (with_reducible refine Kd.C_alloc ?_ _) | (with_reducible refine Kd.C_drewN ?_ _) | (with_reducible refine Kd.C_drew ?_))); (case side2 => exact HC2.out); rintro e w63 ⟨v535, rfl, ho0, hb⟩; refine ⟨_, rfl, ?_⟩; have n0_ := Aside0.mk (Kd.S_elder' (by (with_reducible repeat (first | apply Kd.S_alloc | apply Kd.S_drewN | apply Kd.S_drew)); exact HO_10.out) (Kd.R_base ho0) hb); have n1_ := Aside0.mk (Kd.R_elder' (kr_ HO_11.out) (Kd.R_base ho0) hb); have n2_ := Aside0.mk (Kd.S_elder' (by (with_reducible repeat (first | apply Kd.S_alloc | apply Kd.S_drewN | apply Kd.S_drew)); exact HO532.out) (Kd.R_base ho0) hb); have n3_ := Aside0.mk (Kd.R_lower (Kd.R_new' ho0 (Kd.R_lt (kr_ HO_11.out))) (below_size (hb3_ HB.out GE501.out GE515.out GE528.out))); have n4_ := BK501.bb hb; have n5_ := BK515.bb hb; have n6_ := BK528.bb hb; have n7_ := HB.s3 GE501 GE515 GE528 hb; clear HO_10; clear HO_11; clear HO532; clear BK501; clear BK515; clear BK528; clear HB; have HO_10 := n0_; have HO_11 := n1_; have HO532 := n2_; have HO536 := n3_; have BK501 := n4_; have BK515 := n5_; have BK528 := n6_; have HB := n7_; clear n0_ n1_ n2_ n3_ n4_ n5_ n6_ n7_; (try clear hb); (try clear ho0); obtain ⟨Ao64, co64, eo64⟩ := Kd.R_slice HO536.out; subst eo64) | (refine gl_ 61 Try.func13 #[.slice Ao34 t519.length co34, .slice Ao64 t534.length co64] ?_; (with_reducible refine (laws_eqIntS.calls kj16 _ _ t519 _ _ t534 true _ ?side1 ?side2 ?side3 ?side4 A59.out).mono ?_); (case side1 => repeat (first | exact (Kd.R_reads' HO_11.out).2.2 | (with_reducible refine Kd.C_alloc ?_ _) | (with_reducible refine Kd.C_drewN ?_ _) | (with_reducible refine Kd.C_drew ?_))); (case side2 => exact (Kd.R_reads' HO_11.out).2.1); (case side3 => repeat (first | exact (Kd.R_reads' HO536.out).2.2 | (with_reducible refine Kd.C_alloc ?_ _) | (with_reducible refine Kd.C_drewN ?_ _) | (with_reducible refine Kd.C_drew ?_))); (case side4 => exact (Kd.R_reads' HO536.out).2.1); rintro e w' ⟨rfl, ⟨nd, rfl⟩⟩; refine ⟨_, rfl, ?_⟩))
        go_ret
        exact ⟨ex_, hb3_ HB.out GE501.out GE515.out GE528.out⟩
       ·replace c60 := Bool.eq_false_iff.mpr c60
        subst c60
        have H1 : (some false) = some r := by rw [if_neg (show ¬ (false = true) by decide)] at H; exact H
        clear H
        have H := H1
        clear H1
        obtain rfl := Option.some.inj H
        go_wp2_with ((with_reducible refine gw_ ?_); first | (refine gl_ 55 Try.func9 #[.slice A1 l1.length c1] ?_; (with_reducible refine (laws_toIntSS.calls kj16 _ _ l1 t530 _ ?side1 ?side2 A55.out).mono ?_); (case side1 => repeat (first | exact (Kd.C_below HR1.out HB.out) | (with_reducible refine Kd.C_alloc ?_ _) | (with_reducible refine Kd.C_drewN ?_ _) | (with_reducible refine Kd.C_drew ?_))); (case side2 => exact HC1.out); rintro e w65 ⟨v531, rfl, ho0, hb⟩; refine ⟨_, rfl, ?_⟩; have n0_ := Aside0.mk (Kd.S_elder' (by (with_reducible repeat (first | apply Kd.S_alloc | apply Kd.S_drewN | apply Kd.S_drew)); exact HO_10.out) (Kd.S_base ho0) hb); have n1_ := HO_11.kb hb; have n2_ := Aside0.mk (Kd.S_lower (Kd.S_new' (Kd.S_new' ho0 (Kd.S_lt (by (with_reducible repeat (first | apply Kd.S_alloc | apply Kd.S_drewN | apply Kd.S_drew)); exact HO_10.out))) (Kd.R_lt (kr_ HO_11.out))) (below_size (hb3_ HB.out GE501.out GE515.out GE528.out))); have n3_ := BK501.bb hb; have n4_ := BK515.bb hb; have n5_ := BK528.bb hb; have n6_ := HB.s3 GE501 GE515 GE528 hb; clear HO_10; clear HO_11; clear BK501; clear BK515; clear BK528; clear HB; have HO_10 := n0_; have HO_11 := n1_; have HO532 := n2_; have BK501 := n3_; have BK515 := n4_; have BK528 := n5_; have HB := n6_; clear n0_ n1_ n2_ n3_ n4_ n5_ n6_; (try clear hb); (try clear ho0); obtain ⟨Ao66, co66, eo66⟩ := Kd.S_slice HO532.out; subst eo66) | (refine gl_ 56 Try.func12 #[.slice Ao33 t516.length co33, .slice Ao66 t530.length co66] ?_; (with_reducible refine (laws_eqIntSS.calls kj16 _ _ t516 _ _ t530 true _ ?side1 ?side2 ?side3 ?side4 A56.out).mono ?_); (case side1 => repeat (first | exact (Kd.S_reads' HO_10.out).2.2 | (with_reducible refine Kd.C_alloc ?_ _) | (with_reducible refine Kd.C_drewN ?_ _) | (with_reducible refine Kd.C_drew ?_))); (case side2 => exact (Kd.S_reads' HO_10.out).2.1); (case side3 => repeat (first | exact (Kd.S_reads' HO532.out).2.2 | (with_reducible refine Kd.C_alloc ?_ _) | (with_reducible refine Kd.C_drewN ?_ _) | (with_reducible refine Kd.C_drew ?_))); (case side4 => exact (Kd.S_reads' HO532.out).2.1); rintro e w' ⟨rfl, ⟨nd, rfl⟩⟩; refine ⟨_, rfl, ?_⟩) | (refine gl_ 60 Try.func10 #[.slice A2 l2.length c2] ?_; (with_reducible refine (laws_toIntS.calls kj16 _ _ l2 t534 _ ?side1 ?side2 A58.out).mono ?_); (case side1 => repeat (first | exact (Kd.C_below HR2.out (hb3_ HB.out GE501.out GE515.out GE528.out)) | (with_reducible refine Kd.C_alloc ?_ _) | (with_reducible refine Kd.C_drewN ?_ _) | (with_reducible refine Kd.C_drew ?_))); (case side2 => exact HC2.out); rintro e w67 ⟨v535, rfl, ho0, hb⟩; refine ⟨_, rfl, ?_⟩; have n0_ := Aside0.mk (Kd.S_elder' (by (with_reducible repeat (first | apply Kd.S_alloc | apply Kd.S_drewN | apply Kd.S_drew)); exact HO_10.out) (Kd.R_base ho0) hb); have n1_ := Aside0.mk (Kd.R_elder' (kr_ HO_11.out) (Kd.R_base ho0) hb); have n2_ := Aside0.mk (Kd.S_elder' (by (with_reducible repeat (first | apply Kd.S_alloc | apply Kd.S_drewN | apply Kd.S_drew)); exact HO532.out) (Kd.R_base ho0) hb); have n3_ := Aside0.mk (Kd.R_lower (Kd.R_new' ho0 (Kd.R_lt (kr_ HO_11.out))) (below_size (hb3_ HB.out GE501.out GE515.out GE528.out))); have n4_ := BK501.bb hb; have n5_ := BK515.bb hb; have n6_ := BK528.bb hb; have n7_ := HB.s3 GE501 GE515 GE528 hb; clear HO_10; clear HO_11; clear HO532; clear BK501; clear BK515; clear BK528; clear HB; have HO_10 := n0_; have HO_11 := n1_; have HO532 := n2_; have HO536 := n3_; have BK501 := n4_; have BK515 := n5_; have BK528 := n6_; have HB := n7_; clear n0_ n1_ n2_ n3_ n4_ n5_ n6_ n7_; (try clear hb); (try clear ho0); obtain ⟨Ao68, co68, eo68⟩ := Kd.R_slice HO536.out; subst eo68) | (refine gl_ 61 Try.func13 #[.slice Ao34 t519.length co34, .slice Ao68 t534.length co68] ?_; (with_reducible refine (laws_eqIntS.calls kj16 _ _ t519 _ _ t534 false _ ?side1 ?side2 ?side3 ?side4 A59.out).mono ?_); (case side1 => repeat (first | exact (Kd.R_reads' HO_11.out).2.2 | (with_reducible refine Kd.C_alloc ?_ _) | (with_reducible refine Kd.C_drewN ?_ _) | (with_reducible refine Kd.C_drew ?_))); (case side2 => exact (Kd.R_reads' HO_11.out).2.1); (case side3 => repeat (first | exact (Kd.R_reads' HO536.out).2.2 | (with_reducible refine Kd.C_alloc ?_ _) | (with_reducible refine Kd.C_drewN ?_ _) | (with_reducible refine Kd.C_drew ?_))); (case side4 => exact (Kd.R_reads' HO536.out).2.1); rintro e w' ⟨rfl, ⟨nd, rfl⟩⟩; refine ⟨_, rfl, ?_⟩))
        go_ret
        exact ⟨ex_, hb3_ HB.out GE501.out GE515.out GE528.out⟩
      ·replace c57 := Bool.eq_false_iff.mpr c57
       subst c57
       have H1 : (some false) = some r := by rw [if_neg (show ¬ (false = true) by decide)] at H; exact H
       clear H
       have H := H1
       clear H1
       obtain rfl := Option.some.inj H
       go_wp2_with ((with_reducible refine gw_ ?_); first | (refine gl_ 55 Try.func9 #[.slice A1 l1.length c1] ?_; (with_reducible refine (laws_toIntSS.calls kj16 _ _ l1 t530 _ ?side1 ?side2 A55.out).mono ?_); (case side1 => repeat (first | exact (Kd.C_below HR1.out HB.out) | (with_reducible refine Kd.C_alloc ?_ _) | (with_reducible refine Kd.C_drewN ?_ _) | (with_reducible refine Kd.C_drew ?_))); (case side2 => exact HC1.out); rintro e w69 ⟨v531, rfl, ho0, hb⟩; refine ⟨_, rfl, ?_⟩; have n0_ := Aside0.mk (Kd.S_elder' (by (with_reducible repeat (first | apply Kd.S_alloc | apply Kd.S_drewN | apply Kd.S_drew)); exact HO_10.out) (Kd.S_base ho0) hb); have n1_ := HO_11.kb hb; have n2_ := Aside0.mk (Kd.S_lower (Kd.S_new' (Kd.S_new' ho0 (Kd.S_lt (by (with_reducible repeat (first | apply Kd.S_alloc | apply Kd.S_drewN | apply Kd.S_drew)); exact HO_10.out))) (Kd.R_lt (kr_ HO_11.out))) (below_size (hb3_ HB.out GE501.out GE515.out GE528.out))); have n3_ := BK501.bb hb; have n4_ := BK515.bb hb; have n5_ := BK528.bb hb; have n6_ := HB.s3 GE501 GE515 GE528 hb; clear HO_10; clear HO_11; clear BK501; clear BK515; clear BK528; clear HB; have HO_10 := n0_; have HO_11 := n1_; have HO532 := n2_; have BK501 := n3_; have BK515 := n4_; have BK528 := n5_; have HB := n6_; clear n0_ n1_ n2_ n3_ n4_ n5_ n6_; (try clear hb); (try clear ho0); obtain ⟨Ao70, co70, eo70⟩ := Kd.S_slice HO532.out; subst eo70) | (refine gl_ 56 Try.func12 #[.slice Ao33 t516.length co33, .slice Ao70 t530.length co70] ?_; (with_reducible refine (laws_eqIntSS.calls kj16 _ _ t516 _ _ t530 false _ ?side1 ?side2 ?side3 ?side4 A56.out).mono ?_); (case side1 => repeat (first | exact (Kd.S_reads' HO_10.out).2.2 | (with_reducible refine Kd.C_alloc ?_ _) | (with_reducible refine Kd.C_drewN ?_ _) | (with_reducible refine Kd.C_drew ?_))); (case side2 => exact (Kd.S_reads' HO_10.out).2.1); (case side3 => repeat (first | exact (Kd.S_reads' HO532.out).2.2 | (with_reducible refine Kd.C_alloc ?_ _) | (with_reducible refine Kd.C_drewN ?_ _) | (with_reducible refine Kd.C_drew ?_))); (case side4 => exact (Kd.S_reads' HO532.out).2.1); rintro e w' ⟨rfl, ⟨nd, rfl⟩⟩; refine ⟨_, rfl, ?_⟩))
       go_ret
       exact ⟨ex_, hb3_ HB.out GE501.out GE515.out GE528.out⟩

/-- THE ONE PURE STATEMENT of laws_FnExactPopMaze: yours. -/
def laws_FnExactPopMaze.Pure : Prop := ∀ (a0_0 : Int) (a0_1 : Int) (l1 : List (List Int)) (l2 : List Int), (Lit.int .i64 a0_0).wf = true → (Lit.int .i64 a0_1).wf = true → l1.length ≤ maxLen → (∀ r ∈ l1, r.length ≤ maxLen) → l2.length ≤ maxLen → l2.length * 8 ≤ 140737488351232 → (∀ x ∈ l2, (Lit.int .i64 x).wf = true) → ∃ k, laws_FnExactPopMaze.f k a0_0 a0_1 l1 l2 = some true
theorem laws_FnExactPopMaze.walk (P : laws_FnExactPopMaze.Pure) (a0_0 : Int) (a0_1 : Int) (a1 : Option Addr) (len1 cap1 : Nat) (l1 : List (List Int)) (a2 : Option Addr) (len2 cap2 : Nat) (z2 : List Int) (w : World) (w0_0 : (Lit.int .i64 a0_0).wf = true) (w0_1 : (Lit.int .i64 a0_1).wf = true) (w1 : Kd.C (Kd.slice 3 (Kd.int .i64)) w a1 len1 l1 ∧ len1 ≤ cap1 ∧ len1 ≤ maxLen ∧ l1.length = len1 ∧ ∀ r ∈ l1, r.length ≤ maxLen) (w2 : (a2 = none ∧ len2 = 0 ∧ cap2 = 0 ∧ z2 = []) ∨ ∃ x, a2 = some x ∧ len2 ≤ cap2 ∧ cap2 ≤ maxLen ∧ z2.length = cap2 ∧ (∀ i, i < z2.length → w.cell? (x.add i) = some (.int .i64 (z2.getD i 0))) ∧ ∀ n ∈ z2, (Lit.int .i64 n).wf = true) (y2 : len2 * 8 ≤ 140737488351232) :
  Calls Try.prog 4 #[.agg #[.int .i64 a0_0, .int .i64 a0_1], .slice a1 len1 cap1, .slice a2 len2 cap2] w fun e w' => e = .returned (.bool true) ∧ Below w.heap.size w w' := by
 obtain ⟨hr1, hc1, hm1, rfl, hw1⟩ := w1
 obtain ⟨l2, rfl, hr2, hm2, hw2, hc2⟩ := ReadsInt.ofRowC w2
 obtain ⟨k, h⟩ := P a0_0 a0_1 l1 l2 w0_0 w0_1 hm1 hw1 hm2 y2 hw2
 refine (laws_FnExactPopMaze.calls k a0_0 a0_1 _ _ l1 _ _ l2 true w hr1 hc1 (Kd.C_of_reads (d := (0 : Int)) (h1 := fun _ => rfl) hr2) hc2 h).mono ?_
 rintro e w' ⟨rfl, hd⟩
 exact ⟨rfl, hd⟩

end Go.Proofs.Ytnipocpbpcaepaa.X
