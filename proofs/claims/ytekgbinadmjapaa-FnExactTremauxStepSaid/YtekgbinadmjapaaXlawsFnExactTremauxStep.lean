-- Written by a program of this session (xprint.py), out of the translation and of hand-written contracts. Lean checks it.
import Derived.Test.YtekgbinadmjapaaX0
import Derived.Test.YtekgbinadmjapaaXcints
import Derived.Test.YtekgbinadmjapaaXcto
import Derived.Test.YtekgbinadmjapaaXimplTremauxStep
import Derived.Test.YtekgbinadmjapaaXspecTremauxStep
namespace Go.Proofs.Ytekgbinadmjapaa.X
open Go.RowKit Go.Proofs.YtekgbinadmjapaaW.PrintWords Go.Proofs.YtekgbinadmjapaaW.PrintLast Go.Proofs.YtekgbinadmjapaaW.PrintMore
attribute [local go_sem] max2_int min2_int max_two min_two max_three min_three max_four min_four   -- for this text's walks alone
set_option linter.unusedVariables false
set_option linter.unusedSimpArgs false

/-! ### laws_FnExactTremauxStep: function 10 -/
def laws_FnExactTremauxStep.j0 : Nat → List Int → List Int → Bool → Option (Bool)
 | 0, _, _, _ => none
 | k + 1, x1, x9, x44 => if x44 = true then (some false) else ((laws_toIntS.f k x1).bind fun t528 => ((laws_eqIntS.f k x9 t528).bind fun t531 => (if t531 = true then (some true) else (some false))))
def laws_FnExactTremauxStep.f (k : Nat) (a0_0 : Int) (a0_1 : Int) (a0_2 : Int) (l1 : List Int) (a2_0 : Int) (a2_1 : Int) : Option (Bool) := if (l1.length : Int) > 1048576 then (some true) else ((laws_toMaze.f a0_0 a0_1 a0_2).bind fun bt503 => ((laws_toIntS.f k l1).bind fun t506 => ((laws_toWalker.f a2_0 a2_1).bind fun bt509 => ((spec_TremauxStep.f k bt503.1 bt503.2.1 bt503.2.2 t506 bt509.1 bt509.2).bind fun bt511 => ((laws_toIntS.f k l1).bind fun t515 => ((laws_toMaze.f a0_0 a0_1 a0_2).bind fun bt518 => ((laws_toWalker.f a2_0 a2_1).bind fun bt521 => ((impl_TremauxStep.f k bt518.1 bt518.2.1 bt518.2.2 t515 bt521.1 bt521.2).bind fun bt523 => ((laws_eqWalker.f bt523.1 bt523.2.1 bt511.1 bt511.2.1).bind fun t527 => (if t527 = true then (laws_FnExactTremauxStep.j0 k l1 t515 (bt523.2.2 != bt511.2.2)) else (laws_FnExactTremauxStep.j0 k l1 t515 true)))))))))))
theorem laws_FnExactTremauxStep.mono_l : ∀ k, (∀ y0 y1 y2, LeO (laws_FnExactTremauxStep.j0 k y0 y1 y2) (laws_FnExactTremauxStep.j0 (k + 1) y0 y1 y2))
 | 0 => fun _ _ _ r h => by simp [laws_FnExactTremauxStep.j0] at h
 | k + 1 => by
  have ih0 := laws_FnExactTremauxStep.mono_l k
  ·intro y0 y1 y2
   unfold laws_FnExactTremauxStep.j0
   repeat' first
   | (with_reducible exact ih0 _ _ _)
   | (with_reducible exact impl_TremauxStep.mono _ _ _ _ _ _ _)
   | (with_reducible exact laws_eqIntS.mono _ _ _)
   | (with_reducible exact laws_toIntS.mono _ _)
   | (with_reducible exact spec_TremauxStep.mono _ _ _ _ _ _ _)
   | (with_reducible exact LeO.refl _)
   | (with_reducible exact LeO.none _)
   | (with_reducible refine LeO.ite ?_ ?_)
   | (with_reducible refine LeO.bind ?_ (fun _ => ?_))
   | exact ih0 _ _ _
   | exact impl_TremauxStep.mono _ _ _ _ _ _ _
   | exact laws_eqIntS.mono _ _ _
   | exact laws_toIntS.mono _ _
   | exact spec_TremauxStep.mono _ _ _ _ _ _ _
   | exact LeO.none _
   | refine LeO.ite ?_ ?_
   | refine LeO.bind ?_ (fun _ => ?_)
theorem laws_FnExactTremauxStep.mono : ∀ a0 a1 a2 a3 a4 a5 k, LeO (laws_FnExactTremauxStep.f k a0 a1 a2 a3 a4 a5) (laws_FnExactTremauxStep.f (k + 1) a0 a1 a2 a3 a4 a5) := by
 intro a0 a1 a2 a3 a4 a5 k
 have ih0 := laws_FnExactTremauxStep.mono_l k
 unfold laws_FnExactTremauxStep.f
 repeat' first
   | (with_reducible exact ih0 _ _ _)
   | (with_reducible exact impl_TremauxStep.mono _ _ _ _ _ _ _)
   | (with_reducible exact laws_eqIntS.mono _ _ _)
   | (with_reducible exact laws_toIntS.mono _ _)
   | (with_reducible exact spec_TremauxStep.mono _ _ _ _ _ _ _)
   | (with_reducible exact LeO.refl _)
   | (with_reducible exact LeO.none _)
   | (with_reducible refine LeO.ite ?_ ?_)
   | (with_reducible refine LeO.bind ?_ (fun _ => ?_))
   | exact ih0 _ _ _
   | exact impl_TremauxStep.mono _ _ _ _ _ _ _
   | exact laws_eqIntS.mono _ _ _
   | exact laws_toIntS.mono _ _
   | exact spec_TremauxStep.mono _ _ _ _ _ _ _
   | exact LeO.none _
   | refine LeO.ite ?_ ?_
   | refine LeO.bind ?_ (fun _ => ?_)
def laws_FnExactTremauxStep.T3 : Bool × List (List Nat × List Nat) := (true, [([], []), ([0], [0]), ([], []), ([2, 1], [2]), ([], []), ([4, 3], [4]), ([1, 3, 5, 5], [1, 3, 5]), ([6], [6]), ([7], [7]), ([7], [7]), ([], []), ([10, 8, 6, 0, 1, 2, 3, 4, 5, 6, 7, 8, 10], [8, 10]), ([9, 11, 0, 1, 2, 3, 4, 5, 6, 7, 8, 9, 10, 11], [9])])
def laws_FnExactTremauxStep.B3 : List Nat := [0, 1, 0, 7, 0, 31, 63, 127, 255, 255, 0, 1535, 4095]
theorem laws_FnExactTremauxStep.tab3 : rtab .any (opsOf Try.f10 3) = laws_FnExactTremauxStep.T3 := by kernel_rfl
theorem laws_FnExactTremauxStep.bits3 : waitsOk laws_FnExactTremauxStep.T3.2 laws_FnExactTremauxStep.B3 = true := by kernel_rfl
def laws_FnExactTremauxStep.T5 : Bool × List (List Nat × List Nat) := (true, [([], []), ([0], [0]), ([], []), ([], []), ([3, 1], [3]), ([1, 2, 4, 4], [1, 2, 4]), ([5], [5]), ([6], [6]), ([6], [6]), ([], []), ([9, 7, 5, 0, 1, 2, 3, 4, 5, 6, 7, 9], [7, 9]), ([8, 10, 0, 1, 2, 3, 4, 5, 6, 7, 8, 9, 10], [8])])
def laws_FnExactTremauxStep.B5 : List Nat := [0, 1, 0, 0, 11, 31, 63, 127, 127, 0, 767, 2047]
theorem laws_FnExactTremauxStep.tab5 : rtab .any (opsOf Try.f10 5) = laws_FnExactTremauxStep.T5 := by kernel_rfl
theorem laws_FnExactTremauxStep.bits5 : waitsOk laws_FnExactTremauxStep.T5.2 laws_FnExactTremauxStep.B5 = true := by kernel_rfl
set_option maxHeartbeats 8000000 in
set_option maxRecDepth 100000 in
theorem laws_FnExactTremauxStep.calls (k : Nat) (a0_0 : Int) (a0_1 : Int) (a0_2 : Int) (A1 : Option Addr) (c1 : Nat) (l1 : List Int) (a2_0 : Int) (a2_1 : Int) (r : Bool) (w : World) (hr1 : Kd.C (Kd.int .i64) w A1 l1.length l1) (hc1 : l1.length ≤ c1) (h : laws_FnExactTremauxStep.f k a0_0 a0_1 a0_2 l1 a2_0 a2_1 = some r) :
  Calls Try.prog 10 #[.agg #[.int .i64 a0_0, .int .i64 a0_1, .int .i64 a0_2], .slice A1 l1.length c1, .agg #[.int .i64 a2_0, .int .i64 a2_1]] w fun e w' => e = .returned (.bool r) ∧ Below w.heap.size w w' := by
 have hu25 := Try.underlying25
 have hu63 := Try.underlying63
 have hu65 := Try.underlying65
 have HR1 := Aside0.mk hr1
 have HC1 := Aside0.mk hc1
 clear hr1 hc1
 have HB := Aside0.mk (Below.refl w.heap.size w)
 have H : (if (l1.length : Int) > 1048576 then (some true) else ((laws_toMaze.f a0_0 a0_1 a0_2).bind fun bt503 => ((laws_toIntS.f k l1).bind fun t506 => ((laws_toWalker.f a2_0 a2_1).bind fun bt509 => ((spec_TremauxStep.f k bt503.1 bt503.2.1 bt503.2.2 t506 bt509.1 bt509.2).bind fun bt511 => ((laws_toIntS.f k l1).bind fun t515 => ((laws_toMaze.f a0_0 a0_1 a0_2).bind fun bt518 => ((laws_toWalker.f a2_0 a2_1).bind fun bt521 => ((impl_TremauxStep.f k bt518.1 bt518.2.1 bt518.2.2 t515 bt521.1 bt521.2).bind fun bt523 => ((laws_eqWalker.f bt523.1 bt523.2.1 bt511.1 bt511.2.1).bind fun t527 => (if t527 = true then (laws_FnExactTremauxStep.j0 k l1 t515 (bt523.2.2 != bt511.2.2)) else (laws_FnExactTremauxStep.j0 k l1 t515 true)))))))))))) = some r := h
 clear h
 by_cases c4 : (l1.length : Int) > 1048576
 ·rw [if_pos c4] at H
  have c4b0 : decide (1048576 < (l1.length : Int)) = true := decide_eq_true c4
  have c4b1 : decide (1048576 < l1.length) = true := decide_eq_true (by omega)
  clear c4
  obtain rfl := Option.some.inj H
  go_enter Try.func10, Try.ntmps10
  go_wp2_with (first | ((with_reducible refine gate_dst (N := 3) rfl ?_); refine box_event ?hg (N := 3) ?hd (cs := #[.int .i64 a0_0, .int .i64 a0_1, .int .i64 a0_2]) (t := 25) ?hr ?_; (case hd => rfl); (case hg => rfl); (case hr => first | (go_simp; done) | (go_simp; rfl)); intro gb501 hg w5 hbox hb; have n0_ := Aside0.mk (below_step (hb0_ HB.out) hb); have n1_ := Aside0.mk (hbox); have n2_ := Aside0.mk ((gs_ hg (hb0_ HB.out))); have n3_ := Aside0.mk ((gs_ hg (hb0_ HB.out))); clear HB; have HB := n0_; have BK501 := n1_; have GW501 := n2_; have GE501 := n3_; clear n0_ n1_ n2_ n3_; clear hb hbox hg) | ((with_reducible refine gate_dst (N := 5) rfl ?_); refine box_event ?hg (N := 5) ?hd (cs := #[.int .i64 a2_0, .int .i64 a2_1]) (t := 63) ?hr ?_; (case hd => rfl); (case hg => rfl); (case hr => first | (go_simp; done) | (go_simp; rfl)); intro gb502 hg w6 hbox hb; have n0_ := Aside0.mk (bb_ BK501.out hb); have n1_ := Aside0.mk (below_step (hb1_ HB.out GE501.out) hb); have n2_ := Aside0.mk (hbox); have n3_ := Aside0.mk ((gs_ hg (hb1_ HB.out GE501.out))); have n4_ := Aside0.mk ((gs_ hg (hb1_ HB.out GE501.out))); have n5_ := Aside0.mk (nl_ hg BK501.out); have n6_ := Aside0.mk (nr_ hg BK501.out); clear BK501; clear HB; have BK501 := n0_; have HB := n1_; have BK502 := n2_; have GW502 := n3_; have GE502 := n4_; have NB501_502 := n5_; have NB502_501 := n6_; clear n0_ n1_ n2_ n3_ n4_ n5_ n6_; clear hb hbox hg))
  go_ret
  exact ⟨by first | rfl | (simp [errW_none, errW_some] <;> rfl) | (simp [*, errW_none, errW_some] <;> rfl), hb2_ HB.out GE501.out GE502.out⟩
 ·rw [if_neg c4] at H
  have c4b0 : decide (1048576 < (l1.length : Int)) = false := decide_eq_false c4
  have c4b1 : decide (1048576 < l1.length) = false := decide_eq_false (by omega)
  clear c4
  replace H := Option.bind_eq_some_iff.mp H
  obtain ⟨⟨t503, t504, t505⟩, A70, H⟩ := H
  replace H : ((laws_toIntS.f k l1).bind fun t506 => ((laws_toWalker.f a2_0 a2_1).bind fun bt509 => ((spec_TremauxStep.f k t503 t504 t505 t506 bt509.1 bt509.2).bind fun bt511 => ((laws_toIntS.f k l1).bind fun t515 => ((laws_toMaze.f a0_0 a0_1 a0_2).bind fun bt518 => ((laws_toWalker.f a2_0 a2_1).bind fun bt521 => ((impl_TremauxStep.f k bt518.1 bt518.2.1 bt518.2.2 t515 bt521.1 bt521.2).bind fun bt523 => ((laws_eqWalker.f bt523.1 bt523.2.1 bt511.1 bt511.2.1).bind fun t527 => (if t527 = true then (laws_FnExactTremauxStep.j0 k l1 t515 (bt523.2.2 != bt511.2.2)) else (laws_FnExactTremauxStep.j0 k l1 t515 true)))))))))) = some r := H
  have A7 := Aside0.mk A70
  clear A70
  replace H := Option.bind_eq_some_iff.mp H
  obtain ⟨t506, A80, H⟩ := H
  replace H : ((laws_toWalker.f a2_0 a2_1).bind fun bt509 => ((spec_TremauxStep.f k t503 t504 t505 t506 bt509.1 bt509.2).bind fun bt511 => ((laws_toIntS.f k l1).bind fun t515 => ((laws_toMaze.f a0_0 a0_1 a0_2).bind fun bt518 => ((laws_toWalker.f a2_0 a2_1).bind fun bt521 => ((impl_TremauxStep.f k bt518.1 bt518.2.1 bt518.2.2 t515 bt521.1 bt521.2).bind fun bt523 => ((laws_eqWalker.f bt523.1 bt523.2.1 bt511.1 bt511.2.1).bind fun t527 => (if t527 = true then (laws_FnExactTremauxStep.j0 k l1 t515 (bt523.2.2 != bt511.2.2)) else (laws_FnExactTremauxStep.j0 k l1 t515 true))))))))) = some r := H
  have A8 := Aside0.mk A80
  clear A80
  replace H := Option.bind_eq_some_iff.mp H
  obtain ⟨⟨t509, t510⟩, A90, H⟩ := H
  replace H : ((spec_TremauxStep.f k t503 t504 t505 t506 t509 t510).bind fun bt511 => ((laws_toIntS.f k l1).bind fun t515 => ((laws_toMaze.f a0_0 a0_1 a0_2).bind fun bt518 => ((laws_toWalker.f a2_0 a2_1).bind fun bt521 => ((impl_TremauxStep.f k bt518.1 bt518.2.1 bt518.2.2 t515 bt521.1 bt521.2).bind fun bt523 => ((laws_eqWalker.f bt523.1 bt523.2.1 bt511.1 bt511.2.1).bind fun t527 => (if t527 = true then (laws_FnExactTremauxStep.j0 k l1 t515 (bt523.2.2 != bt511.2.2)) else (laws_FnExactTremauxStep.j0 k l1 t515 true)))))))) = some r := H
  have A9 := Aside0.mk A90
  clear A90
  replace H := Option.bind_eq_some_iff.mp H
  obtain ⟨⟨t511, t512, t513⟩, A100, H⟩ := H
  replace H : ((laws_toIntS.f k l1).bind fun t515 => ((laws_toMaze.f a0_0 a0_1 a0_2).bind fun bt518 => ((laws_toWalker.f a2_0 a2_1).bind fun bt521 => ((impl_TremauxStep.f k bt518.1 bt518.2.1 bt518.2.2 t515 bt521.1 bt521.2).bind fun bt523 => ((laws_eqWalker.f bt523.1 bt523.2.1 t511 t512).bind fun t527 => (if t527 = true then (laws_FnExactTremauxStep.j0 k l1 t515 (bt523.2.2 != t513)) else (laws_FnExactTremauxStep.j0 k l1 t515 true))))))) = some r := H
  have A10 := Aside0.mk A100
  clear A100
  replace H := Option.bind_eq_some_iff.mp H
  obtain ⟨t515, A110, H⟩ := H
  replace H : ((laws_toMaze.f a0_0 a0_1 a0_2).bind fun bt518 => ((laws_toWalker.f a2_0 a2_1).bind fun bt521 => ((impl_TremauxStep.f k bt518.1 bt518.2.1 bt518.2.2 t515 bt521.1 bt521.2).bind fun bt523 => ((laws_eqWalker.f bt523.1 bt523.2.1 t511 t512).bind fun t527 => (if t527 = true then (laws_FnExactTremauxStep.j0 k l1 t515 (bt523.2.2 != t513)) else (laws_FnExactTremauxStep.j0 k l1 t515 true)))))) = some r := H
  have A11 := Aside0.mk A110
  clear A110
  replace H := Option.bind_eq_some_iff.mp H
  obtain ⟨⟨t518, t519, t520⟩, A120, H⟩ := H
  replace H : ((laws_toWalker.f a2_0 a2_1).bind fun bt521 => ((impl_TremauxStep.f k t518 t519 t520 t515 bt521.1 bt521.2).bind fun bt523 => ((laws_eqWalker.f bt523.1 bt523.2.1 t511 t512).bind fun t527 => (if t527 = true then (laws_FnExactTremauxStep.j0 k l1 t515 (bt523.2.2 != t513)) else (laws_FnExactTremauxStep.j0 k l1 t515 true))))) = some r := H
  have A12 := Aside0.mk A120
  clear A120
  replace H := Option.bind_eq_some_iff.mp H
  obtain ⟨⟨t521, t522⟩, A130, H⟩ := H
  replace H : ((impl_TremauxStep.f k t518 t519 t520 t515 t521 t522).bind fun bt523 => ((laws_eqWalker.f bt523.1 bt523.2.1 t511 t512).bind fun t527 => (if t527 = true then (laws_FnExactTremauxStep.j0 k l1 t515 (bt523.2.2 != t513)) else (laws_FnExactTremauxStep.j0 k l1 t515 true)))) = some r := H
  have A13 := Aside0.mk A130
  clear A130
  replace H := Option.bind_eq_some_iff.mp H
  obtain ⟨⟨t523, t524, t525⟩, A140, H⟩ := H
  replace H : ((laws_eqWalker.f t523 t524 t511 t512).bind fun t527 => (if t527 = true then (laws_FnExactTremauxStep.j0 k l1 t515 (t525 != t513)) else (laws_FnExactTremauxStep.j0 k l1 t515 true))) = some r := H
  have A14 := Aside0.mk A140
  clear A140
  have HC15 := Aside0.mk H
  clear H
  go_enter Try.func10, Try.ntmps10
  try go_wp2_with (first | ((with_reducible refine gate_dst (N := 3) rfl ?_); refine box_event ?hg (N := 3) ?hd (cs := #[.int .i64 a0_0, .int .i64 a0_1, .int .i64 a0_2]) (t := 25) ?hr ?_; (case hd => rfl); (case hg => rfl); (case hr => first | (go_simp; done) | (go_simp; rfl)); intro gb501 hg w16 hbox hb; have n0_ := Aside0.mk (below_step (hb0_ HB.out) hb); have n1_ := Aside0.mk (hbox); have n2_ := Aside0.mk ((gs_ hg (hb0_ HB.out))); have n3_ := Aside0.mk ((gs_ hg (hb0_ HB.out))); clear HB; have HB := n0_; have BK501 := n1_; have GW501 := n2_; have GE501 := n3_; clear n0_ n1_ n2_ n3_; clear hb hbox hg) | ((with_reducible refine gate_dst (N := 5) rfl ?_); refine box_event ?hg (N := 5) ?hd (cs := #[.int .i64 a2_0, .int .i64 a2_1]) (t := 63) ?hr ?_; (case hd => rfl); (case hg => rfl); (case hr => first | (go_simp; done) | (go_simp; rfl)); intro gb502 hg w17 hbox hb; have n0_ := Aside0.mk (bb_ BK501.out hb); have n1_ := Aside0.mk (below_step (hb1_ HB.out GE501.out) hb); have n2_ := Aside0.mk (hbox); have n3_ := Aside0.mk ((gs_ hg (hb1_ HB.out GE501.out))); have n4_ := Aside0.mk ((gs_ hg (hb1_ HB.out GE501.out))); have n5_ := Aside0.mk (nl_ hg BK501.out); have n6_ := Aside0.mk (nr_ hg BK501.out); clear BK501; clear HB; have BK501 := n0_; have HB := n1_; have BK502 := n2_; have GW502 := n3_; have GE502 := n4_; have NB501_502 := n5_; have NB502_501 := n6_; clear n0_ n1_ n2_ n3_ n4_ n5_ n6_; clear hb hbox hg))
  replace BK501 := Aside0.mk (blk_drew BK501.out)
  replace BK502 := Aside0.mk (blk_drew BK502.out)
  replace HB := Aside0.mk (below_drew1 HB.out)
  refine start_ (n := 13) (S := fun w' => w'.cell? ⟨gb501, 0, none⟩ = some (.int .i64 a0_0) ∧ w'.cell? ⟨gb501, 1, none⟩ = some (.int .i64 a0_1) ∧ w'.cell? ⟨gb501, 2, none⟩ = some (.int .i64 a0_2) ∧ w'.cell? ⟨gb502, 0, none⟩ = some (.int .i64 a2_0) ∧ w'.cell? ⟨gb502, 1, none⟩ = some (.int .i64 a2_1)) (ds := []) #[false, false, false, false, false, false, false, false, false, false, false, false, false] (by kernel_rfl) rfl rfl ⟨(blk_cell BK501.out 0).trans rfl, (blk_cell BK501.out 1).trans rfl, (blk_cell BK501.out 2).trans rfl, (blk_cell BK502.out 0).trans rfl, (blk_cell BK502.out 1).trans rfl⟩ (fun hHeld => ?_); refine with_tabW laws_FnExactTremauxStep.tab3 laws_FnExactTremauxStep.bits3 (fun HT_ HW_ => ?_)
  generalize w17.drew = w18 at BK501 BK502 HB hHeld ⊢
  refine pv_ (i := 2) (N := some 18) HT_.out ?_
  refine tv5_ (i := 0) (N := some 16) HT_.out HW_.out hHeld ?_
  refine tv5_ (i := 4) (N := some 20) HT_.out HW_.out hHeld ?_
  refine join_ (σ := Value × Nat) 2 #[true, true, true, true, true, true, true, true, true, true, true, false, false] (fun s_ => [(17, .agg #[.int .i64 t503, .int .i64 t504, .int .i64 t505]), (19, s_.1), (21, .agg #[.int .i64 t509, .int .i64 t510]), (22, .tuple #[.agg #[.int .i64 t511, .int .i64 t512], .bool t513]), (7, .pointer (some ⟨s_.2, 0, none⟩)), (15, .tuple #[.agg #[.int .i64 t511, .int .i64 t512], .bool t513]), (23, .agg #[.int .i64 t511, .int .i64 t512]), (24, .bool t513)]) (fun s_ w' => (w'.cell? ⟨gb501, 0, none⟩ = some (.int .i64 a0_0) ∧ w'.cell? ⟨gb501, 1, none⟩ = some (.int .i64 a0_1) ∧ w'.cell? ⟨gb501, 2, none⟩ = some (.int .i64 a0_2) ∧ w'.cell? ⟨gb502, 0, none⟩ = some (.int .i64 a2_0) ∧ w'.cell? ⟨gb502, 1, none⟩ = some (.int .i64 a2_1)) ∧ (Kd.R (Kd.int .i64) 3 w' w.heap.size (fun _ => True) s_.1 t506) ∧ (w'.heap[gb501]? = some (.cells #[.int .i64 a0_0, .int .i64 a0_1, .int .i64 a0_2] 25 (0, 0))) ∧ (w'.heap[gb502]? = some (.cells #[.int .i64 a2_0, .int .i64 a2_1] 63 (0, 0))) ∧ (w'.heap[s_.2]? = some (.cells #[.int .i64 0, .int .i64 0] 65 (0, 0))) ∧ (w.heap.size ≤ s_.2) ∧ (w.heap.size ≤ s_.2) ∧ (gb501 ≠ s_.2) ∧ (s_.2 ≠ gb501) ∧ (gb502 ≠ s_.2) ∧ (s_.2 ≠ gb502) ∧ (Below w.heap.size w w')) ?_ ?_
  rotate_left
  ·intro hJ1_3_5_6_10
   refine join_ (σ := Value) 3 #[true, true, true, true, true, true, true, true, true, true, false, false, false] (fun s_ => [(17, .agg #[.int .i64 t503, .int .i64 t504, .int .i64 t505]), (19, s_), (21, .agg #[.int .i64 t509, .int .i64 t510]), (22, .tuple #[.agg #[.int .i64 t511, .int .i64 t512], .bool t513]), (15, .tuple #[.agg #[.int .i64 t511, .int .i64 t512], .bool t513]), (23, .agg #[.int .i64 t511, .int .i64 t512]), (24, .bool t513)]) (fun s_ w' => (w'.cell? ⟨gb501, 0, none⟩ = some (.int .i64 a0_0) ∧ w'.cell? ⟨gb501, 1, none⟩ = some (.int .i64 a0_1) ∧ w'.cell? ⟨gb501, 2, none⟩ = some (.int .i64 a0_2) ∧ w'.cell? ⟨gb502, 0, none⟩ = some (.int .i64 a2_0) ∧ w'.cell? ⟨gb502, 1, none⟩ = some (.int .i64 a2_1)) ∧ (Kd.R (Kd.int .i64) 3 w' w.heap.size (fun _ => True) s_ t506) ∧ (w'.heap[gb501]? = some (.cells #[.int .i64 a0_0, .int .i64 a0_1, .int .i64 a0_2] 25 (0, 0))) ∧ (w'.heap[gb502]? = some (.cells #[.int .i64 a2_0, .int .i64 a2_1] 63 (0, 0))) ∧ (Below w.heap.size w w')) ?_ ?_
   rotate_left
   ·intro hJ1_3_5_6
    refine join_ (σ := Value × Nat) 6 #[true, true, true, true, true, true, false, false, false, false, true, false, false] (fun s_ => [(17, .agg #[.int .i64 t503, .int .i64 t504, .int .i64 t505]), (19, s_.1), (21, .agg #[.int .i64 t509, .int .i64 t510]), (7, .pointer (some ⟨s_.2, 0, none⟩))]) (fun s_ w' => (w'.cell? ⟨gb501, 0, none⟩ = some (.int .i64 a0_0) ∧ w'.cell? ⟨gb501, 1, none⟩ = some (.int .i64 a0_1) ∧ w'.cell? ⟨gb501, 2, none⟩ = some (.int .i64 a0_2) ∧ w'.cell? ⟨gb502, 0, none⟩ = some (.int .i64 a2_0) ∧ w'.cell? ⟨gb502, 1, none⟩ = some (.int .i64 a2_1)) ∧ (Kd.R (Kd.int .i64) 3 w' w.heap.size (fun _ => True) s_.1 t506) ∧ (w'.heap[gb501]? = some (.cells #[.int .i64 a0_0, .int .i64 a0_1, .int .i64 a0_2] 25 (0, 0))) ∧ (w'.heap[gb502]? = some (.cells #[.int .i64 a2_0, .int .i64 a2_1] 63 (0, 0))) ∧ (w'.heap[s_.2]? = some (.cells #[.int .i64 0, .int .i64 0] 65 (0, 0))) ∧ (w.heap.size ≤ s_.2) ∧ (w.heap.size ≤ s_.2) ∧ (gb501 ≠ s_.2) ∧ (s_.2 ≠ gb501) ∧ (gb502 ≠ s_.2) ∧ (s_.2 ≠ gb502) ∧ (Below w.heap.size w w')) ?_ ?_
    rotate_left
    ·intro hJ1_3_5_10
     refine join_ (σ := Value) 7 #[true, true, true, true, true, true, false, false, false, false, false, false, false] (fun s_ => [(17, .agg #[.int .i64 t503, .int .i64 t504, .int .i64 t505]), (19, s_), (21, .agg #[.int .i64 t509, .int .i64 t510])]) (fun s_ w' => (w'.cell? ⟨gb501, 0, none⟩ = some (.int .i64 a0_0) ∧ w'.cell? ⟨gb501, 1, none⟩ = some (.int .i64 a0_1) ∧ w'.cell? ⟨gb501, 2, none⟩ = some (.int .i64 a0_2) ∧ w'.cell? ⟨gb502, 0, none⟩ = some (.int .i64 a2_0) ∧ w'.cell? ⟨gb502, 1, none⟩ = some (.int .i64 a2_1)) ∧ (Kd.R (Kd.int .i64) 3 w' w.heap.size (fun _ => True) s_ t506) ∧ (w'.heap[gb501]? = some (.cells #[.int .i64 a0_0, .int .i64 a0_1, .int .i64 a0_2] 25 (0, 0))) ∧ (w'.heap[gb502]? = some (.cells #[.int .i64 a2_0, .int .i64 a2_1] 63 (0, 0))) ∧ (Below w.heap.size w w')) ?_ ?_
     rotate_left
     ·intro hJ1_3_5
      refine join_ (σ := Value × Nat) 7 #[true, true, true, true, true, false, false, false, false, false, true, false, false] (fun s_ => [(17, .agg #[.int .i64 t503, .int .i64 t504, .int .i64 t505]), (19, s_.1), (7, .pointer (some ⟨s_.2, 0, none⟩))]) (fun s_ w' => (w'.cell? ⟨gb501, 0, none⟩ = some (.int .i64 a0_0) ∧ w'.cell? ⟨gb501, 1, none⟩ = some (.int .i64 a0_1) ∧ w'.cell? ⟨gb501, 2, none⟩ = some (.int .i64 a0_2) ∧ w'.cell? ⟨gb502, 0, none⟩ = some (.int .i64 a2_0) ∧ w'.cell? ⟨gb502, 1, none⟩ = some (.int .i64 a2_1)) ∧ (Kd.R (Kd.int .i64) 3 w' w.heap.size (fun _ => True) s_.1 t506) ∧ (w'.heap[gb501]? = some (.cells #[.int .i64 a0_0, .int .i64 a0_1, .int .i64 a0_2] 25 (0, 0))) ∧ (w'.heap[gb502]? = some (.cells #[.int .i64 a2_0, .int .i64 a2_1] 63 (0, 0))) ∧ (w'.heap[s_.2]? = some (.cells #[.int .i64 0, .int .i64 0] 65 (0, 0))) ∧ (w.heap.size ≤ s_.2) ∧ (w.heap.size ≤ s_.2) ∧ (gb501 ≠ s_.2) ∧ (s_.2 ≠ gb501) ∧ (gb502 ≠ s_.2) ∧ (s_.2 ≠ gb502) ∧ (Below w.heap.size w w')) ?_ ?_
      rotate_left
      ·intro hJ1_3_10
       refine join_ (σ := Value) 8 #[true, true, true, true, true, false, false, false, false, false, false, false, false] (fun s_ => [(17, .agg #[.int .i64 t503, .int .i64 t504, .int .i64 t505]), (19, s_)]) (fun s_ w' => (w'.cell? ⟨gb501, 0, none⟩ = some (.int .i64 a0_0) ∧ w'.cell? ⟨gb501, 1, none⟩ = some (.int .i64 a0_1) ∧ w'.cell? ⟨gb501, 2, none⟩ = some (.int .i64 a0_2) ∧ w'.cell? ⟨gb502, 0, none⟩ = some (.int .i64 a2_0) ∧ w'.cell? ⟨gb502, 1, none⟩ = some (.int .i64 a2_1)) ∧ (Kd.R (Kd.int .i64) 3 w' w.heap.size (fun _ => True) s_ t506) ∧ (w'.heap[gb501]? = some (.cells #[.int .i64 a0_0, .int .i64 a0_1, .int .i64 a0_2] 25 (0, 0))) ∧ (w'.heap[gb502]? = some (.cells #[.int .i64 a2_0, .int .i64 a2_1] 63 (0, 0))) ∧ (Below w.heap.size w w')) ?_ ?_
       rotate_left
       ·intro hJ1_3
        refine join_ (σ := Nat) 8 #[true, true, true, false, true, false, false, false, false, false, true, false, false] (fun s_ => [(17, .agg #[.int .i64 t503, .int .i64 t504, .int .i64 t505]), (7, .pointer (some ⟨s_, 0, none⟩))]) (fun s_ w' => (w'.cell? ⟨gb501, 0, none⟩ = some (.int .i64 a0_0) ∧ w'.cell? ⟨gb501, 1, none⟩ = some (.int .i64 a0_1) ∧ w'.cell? ⟨gb501, 2, none⟩ = some (.int .i64 a0_2) ∧ w'.cell? ⟨gb502, 0, none⟩ = some (.int .i64 a2_0) ∧ w'.cell? ⟨gb502, 1, none⟩ = some (.int .i64 a2_1)) ∧ (w'.heap[gb501]? = some (.cells #[.int .i64 a0_0, .int .i64 a0_1, .int .i64 a0_2] 25 (0, 0))) ∧ (w'.heap[gb502]? = some (.cells #[.int .i64 a2_0, .int .i64 a2_1] 63 (0, 0))) ∧ (w'.heap[s_]? = some (.cells #[.int .i64 0, .int .i64 0] 65 (0, 0))) ∧ (w.heap.size ≤ s_) ∧ (w.heap.size ≤ s_) ∧ (gb501 ≠ s_) ∧ (s_ ≠ gb501) ∧ (gb502 ≠ s_) ∧ (s_ ≠ gb502) ∧ (Below w.heap.size w w')) ?_ ?_
        rotate_left
        ·intro hJ1_10
         refine join_ (σ := Unit) 9 #[true, true, true, false, true, false, false, false, false, false, false, false, false] (fun s_ => [(17, .agg #[.int .i64 t503, .int .i64 t504, .int .i64 t505])]) (fun s_ w' => (w'.cell? ⟨gb501, 0, none⟩ = some (.int .i64 a0_0) ∧ w'.cell? ⟨gb501, 1, none⟩ = some (.int .i64 a0_1) ∧ w'.cell? ⟨gb501, 2, none⟩ = some (.int .i64 a0_2) ∧ w'.cell? ⟨gb502, 0, none⟩ = some (.int .i64 a2_0) ∧ w'.cell? ⟨gb502, 1, none⟩ = some (.int .i64 a2_1)) ∧ (w'.heap[gb501]? = some (.cells #[.int .i64 a0_0, .int .i64 a0_1, .int .i64 a0_2] 25 (0, 0))) ∧ (w'.heap[gb502]? = some (.cells #[.int .i64 a2_0, .int .i64 a2_1] 63 (0, 0))) ∧ (Below w.heap.size w w')) ?_ ?_
         rotate_left
         ·intro hJ1
          refine join_ (σ := Nat) 9 #[true, false, true, false, true, false, false, false, false, false, true, false, false] (fun s_ => [(7, .pointer (some ⟨s_, 0, none⟩))]) (fun s_ w' => (w'.cell? ⟨gb501, 0, none⟩ = some (.int .i64 a0_0) ∧ w'.cell? ⟨gb501, 1, none⟩ = some (.int .i64 a0_1) ∧ w'.cell? ⟨gb501, 2, none⟩ = some (.int .i64 a0_2) ∧ w'.cell? ⟨gb502, 0, none⟩ = some (.int .i64 a2_0) ∧ w'.cell? ⟨gb502, 1, none⟩ = some (.int .i64 a2_1)) ∧ (w'.heap[gb501]? = some (.cells #[.int .i64 a0_0, .int .i64 a0_1, .int .i64 a0_2] 25 (0, 0))) ∧ (w'.heap[gb502]? = some (.cells #[.int .i64 a2_0, .int .i64 a2_1] 63 (0, 0))) ∧ (w'.heap[s_]? = some (.cells #[.int .i64 0, .int .i64 0] 65 (0, 0))) ∧ (w.heap.size ≤ s_) ∧ (w.heap.size ≤ s_) ∧ (gb501 ≠ s_) ∧ (s_ ≠ gb501) ∧ (gb502 ≠ s_) ∧ (s_ ≠ gb502) ∧ (Below w.heap.size w w')) ?_ ?_
          rotate_left
          ·intro hJ10
           refine two_ (i := 1) (j := 10) (Ni := some 17) (Nj := some 7) #[true, true, true, false, true, false, false, false, false, false, false, false, false] #[true, false, true, false, true, false, false, false, false, false, true, false, false] rfl rfl rfl rfl (two_of HT_.out (by kernel_rfl)) (by decide) (by decide) (fun K hK => ?_) (fun K hK => ?_)
           ·skip
            refine goes_ Try.func24 (by kernel_rfl) rfl #[.agg #[.int .i64 a0_0, .int .i64 a0_1, .int .i64 a0_2]] (by rfl) rfl rfl (ml_) ?_
            with_reducible refine (laws_toMaze.calls a0_0 a0_1 a0_2 t503 t504 t505 _ A7.out).mono ?_
            rintro e w19 ⟨rfl, hb⟩
            refine ⟨_, rfl, ?_⟩
            replace BK501 := Aside0.mk (bb_ BK501.out hb)
            replace BK502 := Aside0.mk (bb_ BK502.out hb)
            replace HB := Aside0.mk (below_step (hb2_ HB.out GE501.out GE502.out) hb)
            (try clear hb)
            (try clear hb2)
            (try clear hk)
            (try clear hi)
            refine hK.out _ _ ⟨(blk_cell BK501.out 0).trans rfl, (blk_cell BK501.out 1).trans rfl, (blk_cell BK501.out 2).trans rfl, (blk_cell BK502.out 0).trans rfl, (blk_cell BK502.out 1).trans rfl⟩ (fun hHeld => ?_)
            clear hK K
            refine norm_ (a' := ?_) ?_ ?_
            rotate_left
            ·show Act.put _ (some 17) _ = _
             simp only [Act.put, List.setIfInBounds_toArray, List.set_cons_zero, List.set_cons_succ, i64_w, i32_w]
             rfl
            exact norm_ (by first | (simp only [putAll, Act.put, List.setIfInBounds_toArray, List.set_cons_zero, List.set_cons_succ]; done) | (simp only [putAll, Act.put, List.setIfInBounds_toArray, List.set_cons_zero, List.set_cons_succ]; rfl)) (hJ1 () _ ⟨hHeld, (bk_ BK501.out), (bk_ BK502.out), (hb2_ HB.out GE501.out GE502.out)⟩)
           ·skip
            refine box_step ?hg (N := 7) ?hd (cs := #[.int .i64 0, .int .i64 0]) (t := 65) ?hr ?_; (case hd => rfl); (case hg => rfl); (case hr => first | (go_simp; done) | (go_simp; rfl))
            intro gb514 hg w19 hbox hb
            have n0_ := Aside0.mk (bb_ BK501.out hb)
            have n1_ := Aside0.mk (bb_ BK502.out hb)
            have n2_ := Aside0.mk (below_step (hb2_ HB.out GE501.out GE502.out) hb)
            have n3_ := Aside0.mk (hbox)
            have n4_ := Aside0.mk ((gs_ hg (hb2_ HB.out GE501.out GE502.out)))
            have n5_ := Aside0.mk ((gs_ hg (hb2_ HB.out GE501.out GE502.out)))
            have n6_ := Aside0.mk (nl_ hg BK501.out)
            have n7_ := Aside0.mk (nr_ hg BK501.out)
            have n8_ := Aside0.mk (nl_ hg BK502.out)
            have n9_ := Aside0.mk (nr_ hg BK502.out)
            clear BK501
            clear BK502
            clear HB
            have BK501 := n0_
            have BK502 := n1_
            have HB := n2_
            have BK514 := n3_
            have GW514 := n4_
            have GE514 := n5_
            have NB501_514 := n6_
            have NB514_501 := n7_
            have NB502_514 := n8_
            have NB514_502 := n9_
            clear n0_ n1_ n2_ n3_ n4_ n5_ n6_ n7_ n8_ n9_
            clear hb hbox hg
            refine hK.out _ _ ⟨(blk_cell BK501.out 0).trans rfl, (blk_cell BK501.out 1).trans rfl, (blk_cell BK501.out 2).trans rfl, (blk_cell BK502.out 0).trans rfl, (blk_cell BK502.out 1).trans rfl⟩ (fun hHeld => ?_)
            clear hK K
            refine norm_ (a' := ?_) ?_ ?_
            rotate_left
            ·show Act.put _ (some 7) _ = _
             simp only [Act.put, List.setIfInBounds_toArray, List.set_cons_zero, List.set_cons_succ, i64_w, i32_w]
             rfl
            exact norm_ (by first | (simp only [putAll, Act.put, List.setIfInBounds_toArray, List.set_cons_zero, List.set_cons_succ]; done) | (simp only [putAll, Act.put, List.setIfInBounds_toArray, List.set_cons_zero, List.set_cons_succ]; rfl)) (hJ10 (gb514) _ ⟨hHeld, (bk_ BK501.out), (bk_ BK502.out), (bk_ BK514.out), GW514.out, GE514.out, NB501_514.out, NB514_501.out, NB502_514.out, NB514_502.out, (hb3_ HB.out GE501.out GE502.out GE514.out)⟩)
          ·skip
           rintro gb514 w20 ⟨hS_, h0_, h1_, h2_, h3_, h4_, h5_, h6_, h7_, h8_, h9_⟩
           have n0_ : Aside0 (w20.heap[gb501]? = some (.cells #[.int .i64 a0_0, .int .i64 a0_1, .int .i64 a0_2] 25 (0, 0))) := ⟨h0_⟩
           have n1_ : Aside0 (w20.heap[gb502]? = some (.cells #[.int .i64 a2_0, .int .i64 a2_1] 63 (0, 0))) := ⟨h1_⟩
           have n2_ : Aside0 (w20.heap[gb514]? = some (.cells #[.int .i64 0, .int .i64 0] 65 (0, 0))) := ⟨h2_⟩
           have n3_ : Aside0 (w.heap.size ≤ gb514) := ⟨h3_⟩
           have n4_ : Aside0 (w.heap.size ≤ gb514) := ⟨h4_⟩
           have n5_ : Aside0 (gb501 ≠ gb514) := ⟨h5_⟩
           have n6_ : Aside0 (gb514 ≠ gb501) := ⟨h6_⟩
           have n7_ : Aside0 (gb502 ≠ gb514) := ⟨h7_⟩
           have n8_ : Aside0 (gb514 ≠ gb502) := ⟨h8_⟩
           have n9_ : Aside0 (Below w.heap.size w w20) := ⟨h9_⟩
           clear BK501
           clear BK502
           clear HB
           clear h0_ h1_ h2_ h3_ h4_ h5_ h6_ h7_ h8_ h9_
           have BK501 := n0_
           have BK502 := n1_
           have BK514 := n2_
           have GW514 := n3_
           have GE514 := n4_
           have NB501_514 := n5_
           have NB514_501 := n6_
           have NB502_514 := n7_
           have NB514_502 := n8_
           have HB := n9_
           clear n0_ n1_ n2_ n3_ n4_ n5_ n6_ n7_ n8_ n9_
           have hHeld : w20.cell? ⟨gb501, 0, none⟩ = some (.int .i64 a0_0) ∧ w20.cell? ⟨gb501, 1, none⟩ = some (.int .i64 a0_1) ∧ w20.cell? ⟨gb501, 2, none⟩ = some (.int .i64 a0_2) ∧ w20.cell? ⟨gb502, 0, none⟩ = some (.int .i64 a2_0) ∧ w20.cell? ⟨gb502, 1, none⟩ = some (.int .i64 a2_1) := hS_
           refine norm_ (a' := ?_) ?_ ?_
           rotate_left
           ·simp only [putAll, Act.put, List.setIfInBounds_toArray, List.set_cons_zero, List.set_cons_succ]
            rfl
           refine ov_ (i := 1) (N := some 17) HT_.out (fun K hK => ?_)
           refine goes_ Try.func24 (by kernel_rfl) rfl #[.agg #[.int .i64 a0_0, .int .i64 a0_1, .int .i64 a0_2]] (by rfl) rfl rfl (ml_) ?_
           with_reducible refine (laws_toMaze.calls a0_0 a0_1 a0_2 t503 t504 t505 _ A7.out).mono ?_
           rintro e w21 ⟨rfl, hb⟩
           refine ⟨_, rfl, ?_⟩
           replace BK501 := Aside0.mk (bb_ BK501.out hb)
           replace BK502 := Aside0.mk (bb_ BK502.out hb)
           replace BK514 := Aside0.mk (bb_ BK514.out hb)
           replace HB := Aside0.mk (below_step (hb3_ HB.out GE501.out GE502.out GE514.out) hb)
           (try clear hb)
           (try clear hb2)
           (try clear hk)
           (try clear hi)
           refine hK.out _ _ ⟨(blk_cell BK501.out 0).trans rfl, (blk_cell BK501.out 1).trans rfl, (blk_cell BK501.out 2).trans rfl, (blk_cell BK502.out 0).trans rfl, (blk_cell BK502.out 1).trans rfl⟩ (fun hHeld => ?_)
           clear hK K
           refine norm_ (a' := ?_) ?_ ?_
           rotate_left
           ·show Act.put _ (some 17) _ = _
            simp only [Act.put, List.setIfInBounds_toArray, List.set_cons_zero, List.set_cons_succ, i64_w, i32_w]
            rfl
           exact norm_ (by first | (simp only [putAll, Act.put, List.setIfInBounds_toArray, List.set_cons_zero, List.set_cons_succ]; done) | (simp only [putAll, Act.put, List.setIfInBounds_toArray, List.set_cons_zero, List.set_cons_succ]; rfl)) (hJ1_10 (gb514) _ ⟨hHeld, (bk_ BK501.out), (bk_ BK502.out), (bk_ BK514.out), GW514.out, GE514.out, NB501_514.out, NB514_501.out, NB502_514.out, NB514_502.out, (hb3_ HB.out GE501.out GE502.out GE514.out)⟩)
         ·skip
          rintro _ w20 ⟨hS_, h0_, h1_, h2_⟩
          have n0_ : Aside0 (w20.heap[gb501]? = some (.cells #[.int .i64 a0_0, .int .i64 a0_1, .int .i64 a0_2] 25 (0, 0))) := ⟨h0_⟩
          have n1_ : Aside0 (w20.heap[gb502]? = some (.cells #[.int .i64 a2_0, .int .i64 a2_1] 63 (0, 0))) := ⟨h1_⟩
          have n2_ : Aside0 (Below w.heap.size w w20) := ⟨h2_⟩
          clear BK501
          clear BK502
          clear HB
          clear h0_ h1_ h2_
          have BK501 := n0_
          have BK502 := n1_
          have HB := n2_
          clear n0_ n1_ n2_
          have hHeld : w20.cell? ⟨gb501, 0, none⟩ = some (.int .i64 a0_0) ∧ w20.cell? ⟨gb501, 1, none⟩ = some (.int .i64 a0_1) ∧ w20.cell? ⟨gb501, 2, none⟩ = some (.int .i64 a0_2) ∧ w20.cell? ⟨gb502, 0, none⟩ = some (.int .i64 a2_0) ∧ w20.cell? ⟨gb502, 1, none⟩ = some (.int .i64 a2_1) := hS_
          refine norm_ (a' := ?_) ?_ ?_
          rotate_left
          ·simp only [putAll, Act.put, List.setIfInBounds_toArray, List.set_cons_zero, List.set_cons_succ]
           rfl
          refine two_ (i := 3) (j := 10) (Ni := some 19) (Nj := some 7) #[true, true, true, true, true, false, false, false, false, false, false, false, false] #[true, true, true, false, true, false, false, false, false, false, true, false, false] rfl rfl rfl rfl (two_of HT_.out (by kernel_rfl)) (by decide) (by decide) (fun K hK => ?_) (fun K hK => ?_)
          ·skip
           refine goes_ Try.func42 (by kernel_rfl) rfl #[.slice A1 l1.length c1] (by rfl) rfl rfl (ml_) ?_
           with_reducible refine (laws_toIntS.calls k _ _ l1 t506 _ ?side1 ?side2 A8.out).mono ?_
           (case side1 => repeat (first | exact (Kd.C_below HR1.out HB.out) | (with_reducible refine Kd.C_alloc ?_ _) | (with_reducible refine Kd.C_drewN ?_ _) | (with_reducible refine Kd.C_drew ?_)))
           (case side2 => exact HC1.out)
           rintro e w21 ⟨v507, rfl, ho0, hb⟩
           refine ⟨_, rfl, ?_⟩
           have HO508 := Aside0.mk (Kd.R_lower ho0 (below_size (hb2_ HB.out GE501.out GE502.out)))
           replace BK501 := Aside0.mk (bb_ BK501.out hb)
           replace BK502 := Aside0.mk (bb_ BK502.out hb)
           replace HB := Aside0.mk (below_step (hb2_ HB.out GE501.out GE502.out) hb)
           (try clear hb)
           (try clear hb2)
           (try clear hk)
           (try clear hi)
           (try clear ho0)
           refine hK.out _ _ ⟨(blk_cell BK501.out 0).trans rfl, (blk_cell BK501.out 1).trans rfl, (blk_cell BK501.out 2).trans rfl, (blk_cell BK502.out 0).trans rfl, (blk_cell BK502.out 1).trans rfl⟩ (fun hHeld => ?_)
           clear hK K
           refine norm_ (a' := ?_) ?_ ?_
           rotate_left
           ·show Act.put _ (some 19) _ = _
            simp only [Act.put, List.setIfInBounds_toArray, List.set_cons_zero, List.set_cons_succ, i64_w, i32_w]
            rfl
           exact norm_ (by first | (simp only [putAll, Act.put, List.setIfInBounds_toArray, List.set_cons_zero, List.set_cons_succ]; done) | (simp only [putAll, Act.put, List.setIfInBounds_toArray, List.set_cons_zero, List.set_cons_succ]; rfl)) (hJ1_3 (v507) _ ⟨hHeld, (kr_ HO508.out), (bk_ BK501.out), (bk_ BK502.out), (hb2_ HB.out GE501.out GE502.out)⟩)
          ·skip
           refine box_step ?hg (N := 7) ?hd (cs := #[.int .i64 0, .int .i64 0]) (t := 65) ?hr ?_; (case hd => rfl); (case hg => rfl); (case hr => first | (go_simp; done) | (go_simp; rfl))
           intro gb514 hg w21 hbox hb
           have n0_ := Aside0.mk (bb_ BK501.out hb)
           have n1_ := Aside0.mk (bb_ BK502.out hb)
           have n2_ := Aside0.mk (below_step (hb2_ HB.out GE501.out GE502.out) hb)
           have n3_ := Aside0.mk (hbox)
           have n4_ := Aside0.mk ((gs_ hg (hb2_ HB.out GE501.out GE502.out)))
           have n5_ := Aside0.mk ((gs_ hg (hb2_ HB.out GE501.out GE502.out)))
           have n6_ := Aside0.mk (nl_ hg BK501.out)
           have n7_ := Aside0.mk (nr_ hg BK501.out)
           have n8_ := Aside0.mk (nl_ hg BK502.out)
           have n9_ := Aside0.mk (nr_ hg BK502.out)
           clear BK501
           clear BK502
           clear HB
           have BK501 := n0_
           have BK502 := n1_
           have HB := n2_
           have BK514 := n3_
           have GW514 := n4_
           have GE514 := n5_
           have NB501_514 := n6_
           have NB514_501 := n7_
           have NB502_514 := n8_
           have NB514_502 := n9_
           clear n0_ n1_ n2_ n3_ n4_ n5_ n6_ n7_ n8_ n9_
           clear hb hbox hg
           refine hK.out _ _ ⟨(blk_cell BK501.out 0).trans rfl, (blk_cell BK501.out 1).trans rfl, (blk_cell BK501.out 2).trans rfl, (blk_cell BK502.out 0).trans rfl, (blk_cell BK502.out 1).trans rfl⟩ (fun hHeld => ?_)
           clear hK K
           refine norm_ (a' := ?_) ?_ ?_
           rotate_left
           ·show Act.put _ (some 7) _ = _
            simp only [Act.put, List.setIfInBounds_toArray, List.set_cons_zero, List.set_cons_succ, i64_w, i32_w]
            rfl
           exact norm_ (by first | (simp only [putAll, Act.put, List.setIfInBounds_toArray, List.set_cons_zero, List.set_cons_succ]; done) | (simp only [putAll, Act.put, List.setIfInBounds_toArray, List.set_cons_zero, List.set_cons_succ]; rfl)) (hJ1_10 (gb514) _ ⟨hHeld, (bk_ BK501.out), (bk_ BK502.out), (bk_ BK514.out), GW514.out, GE514.out, NB501_514.out, NB514_501.out, NB502_514.out, NB514_502.out, (hb3_ HB.out GE501.out GE502.out GE514.out)⟩)
        ·skip
         rintro gb514 w21 ⟨hS_, h0_, h1_, h2_, h3_, h4_, h5_, h6_, h7_, h8_, h9_⟩
         have n0_ : Aside0 (w21.heap[gb501]? = some (.cells #[.int .i64 a0_0, .int .i64 a0_1, .int .i64 a0_2] 25 (0, 0))) := ⟨h0_⟩
         have n1_ : Aside0 (w21.heap[gb502]? = some (.cells #[.int .i64 a2_0, .int .i64 a2_1] 63 (0, 0))) := ⟨h1_⟩
         have n2_ : Aside0 (w21.heap[gb514]? = some (.cells #[.int .i64 0, .int .i64 0] 65 (0, 0))) := ⟨h2_⟩
         have n3_ : Aside0 (w.heap.size ≤ gb514) := ⟨h3_⟩
         have n4_ : Aside0 (w.heap.size ≤ gb514) := ⟨h4_⟩
         have n5_ : Aside0 (gb501 ≠ gb514) := ⟨h5_⟩
         have n6_ : Aside0 (gb514 ≠ gb501) := ⟨h6_⟩
         have n7_ : Aside0 (gb502 ≠ gb514) := ⟨h7_⟩
         have n8_ : Aside0 (gb514 ≠ gb502) := ⟨h8_⟩
         have n9_ : Aside0 (Below w.heap.size w w21) := ⟨h9_⟩
         clear BK501
         clear BK502
         clear HB
         clear h0_ h1_ h2_ h3_ h4_ h5_ h6_ h7_ h8_ h9_
         have BK501 := n0_
         have BK502 := n1_
         have BK514 := n2_
         have GW514 := n3_
         have GE514 := n4_
         have NB501_514 := n5_
         have NB514_501 := n6_
         have NB502_514 := n7_
         have NB514_502 := n8_
         have HB := n9_
         clear n0_ n1_ n2_ n3_ n4_ n5_ n6_ n7_ n8_ n9_
         have hHeld : w21.cell? ⟨gb501, 0, none⟩ = some (.int .i64 a0_0) ∧ w21.cell? ⟨gb501, 1, none⟩ = some (.int .i64 a0_1) ∧ w21.cell? ⟨gb501, 2, none⟩ = some (.int .i64 a0_2) ∧ w21.cell? ⟨gb502, 0, none⟩ = some (.int .i64 a2_0) ∧ w21.cell? ⟨gb502, 1, none⟩ = some (.int .i64 a2_1) := hS_
         refine norm_ (a' := ?_) ?_ ?_
         rotate_left
         ·simp only [putAll, Act.put, List.setIfInBounds_toArray, List.set_cons_zero, List.set_cons_succ]
          rfl
         refine ov_ (i := 3) (N := some 19) HT_.out (fun K hK => ?_)
         refine goes_ Try.func42 (by kernel_rfl) rfl #[.slice A1 l1.length c1] (by rfl) rfl rfl (ml_) ?_
         with_reducible refine (laws_toIntS.calls k _ _ l1 t506 _ ?side1 ?side2 A8.out).mono ?_
         (case side1 => repeat (first | exact (Kd.C_below HR1.out HB.out) | (with_reducible refine Kd.C_alloc ?_ _) | (with_reducible refine Kd.C_drewN ?_ _) | (with_reducible refine Kd.C_drew ?_)))
         (case side2 => exact HC1.out)
         rintro e w22 ⟨v507, rfl, ho0, hb⟩
         refine ⟨_, rfl, ?_⟩
         have HO508 := Aside0.mk (Kd.R_lower ho0 (below_size (hb3_ HB.out GE501.out GE502.out GE514.out)))
         replace BK501 := Aside0.mk (bb_ BK501.out hb)
         replace BK502 := Aside0.mk (bb_ BK502.out hb)
         replace BK514 := Aside0.mk (bb_ BK514.out hb)
         replace HB := Aside0.mk (below_step (hb3_ HB.out GE501.out GE502.out GE514.out) hb)
         (try clear hb)
         (try clear hb2)
         (try clear hk)
         (try clear hi)
         (try clear ho0)
         refine hK.out _ _ ⟨(blk_cell BK501.out 0).trans rfl, (blk_cell BK501.out 1).trans rfl, (blk_cell BK501.out 2).trans rfl, (blk_cell BK502.out 0).trans rfl, (blk_cell BK502.out 1).trans rfl⟩ (fun hHeld => ?_)
         clear hK K
         refine norm_ (a' := ?_) ?_ ?_
         rotate_left
         ·show Act.put _ (some 19) _ = _
          simp only [Act.put, List.setIfInBounds_toArray, List.set_cons_zero, List.set_cons_succ, i64_w, i32_w]
          rfl
         exact norm_ (by first | (simp only [putAll, Act.put, List.setIfInBounds_toArray, List.set_cons_zero, List.set_cons_succ]; done) | (simp only [putAll, Act.put, List.setIfInBounds_toArray, List.set_cons_zero, List.set_cons_succ]; rfl)) (hJ1_3_10 (v507, gb514) _ ⟨hHeld, (kr_ HO508.out), (bk_ BK501.out), (bk_ BK502.out), (bk_ BK514.out), GW514.out, GE514.out, NB501_514.out, NB514_501.out, NB502_514.out, NB514_502.out, (hb3_ HB.out GE501.out GE502.out GE514.out)⟩)
       ·skip
        rintro v507 w21 ⟨hS_, h0_, h1_, h2_, h3_⟩
        have n0_ : Aside0 (Kd.R (Kd.int .i64) 3 w21 w.heap.size (fun _ => True) v507 t506) := ⟨h0_⟩
        have n1_ : Aside0 (w21.heap[gb501]? = some (.cells #[.int .i64 a0_0, .int .i64 a0_1, .int .i64 a0_2] 25 (0, 0))) := ⟨h1_⟩
        have n2_ : Aside0 (w21.heap[gb502]? = some (.cells #[.int .i64 a2_0, .int .i64 a2_1] 63 (0, 0))) := ⟨h2_⟩
        have n3_ : Aside0 (Below w.heap.size w w21) := ⟨h3_⟩
        clear BK501
        clear BK502
        clear HB
        clear h0_ h1_ h2_ h3_
        have HO508 := n0_
        have BK501 := n1_
        have BK502 := n2_
        have HB := n3_
        clear n0_ n1_ n2_ n3_
        have hHeld : w21.cell? ⟨gb501, 0, none⟩ = some (.int .i64 a0_0) ∧ w21.cell? ⟨gb501, 1, none⟩ = some (.int .i64 a0_1) ∧ w21.cell? ⟨gb501, 2, none⟩ = some (.int .i64 a0_2) ∧ w21.cell? ⟨gb502, 0, none⟩ = some (.int .i64 a2_0) ∧ w21.cell? ⟨gb502, 1, none⟩ = some (.int .i64 a2_1) := hS_
        refine norm_ (a' := ?_) ?_ ?_
        rotate_left
        ·simp only [putAll, Act.put, List.setIfInBounds_toArray, List.set_cons_zero, List.set_cons_succ]
         rfl
        refine two_ (i := 5) (j := 10) (Ni := some 21) (Nj := some 7) #[true, true, true, true, true, true, false, false, false, false, false, false, false] #[true, true, true, true, true, false, false, false, false, false, true, false, false] rfl rfl rfl rfl (two_of HT_.out (by kernel_rfl)) (by decide) (by decide) (fun K hK => ?_) (fun K hK => ?_)
        ·skip
         refine goes_ Try.func41 (by kernel_rfl) rfl #[.agg #[.int .i64 a2_0, .int .i64 a2_1]] (by rfl) rfl rfl (ml_) ?_
         with_reducible refine (laws_toWalker.calls a2_0 a2_1 t509 t510 _ A9.out).mono ?_
         rintro e w22 ⟨rfl, hb⟩
         refine ⟨_, rfl, ?_⟩
         replace HO508 := Aside0.mk (Kd.R_below (kr_ HO508.out) hb)
         replace BK501 := Aside0.mk (bb_ BK501.out hb)
         replace BK502 := Aside0.mk (bb_ BK502.out hb)
         replace HB := Aside0.mk (below_step (hb2_ HB.out GE501.out GE502.out) hb)
         (try clear hb)
         (try clear hb2)
         (try clear hk)
         (try clear hi)
         refine hK.out _ _ ⟨(blk_cell BK501.out 0).trans rfl, (blk_cell BK501.out 1).trans rfl, (blk_cell BK501.out 2).trans rfl, (blk_cell BK502.out 0).trans rfl, (blk_cell BK502.out 1).trans rfl⟩ (fun hHeld => ?_)
         clear hK K
         refine norm_ (a' := ?_) ?_ ?_
         rotate_left
         ·show Act.put _ (some 21) _ = _
          simp only [Act.put, List.setIfInBounds_toArray, List.set_cons_zero, List.set_cons_succ, i64_w, i32_w]
          rfl
         exact norm_ (by first | (simp only [putAll, Act.put, List.setIfInBounds_toArray, List.set_cons_zero, List.set_cons_succ]; done) | (simp only [putAll, Act.put, List.setIfInBounds_toArray, List.set_cons_zero, List.set_cons_succ]; rfl)) (hJ1_3_5 (v507) _ ⟨hHeld, (kr_ HO508.out), (bk_ BK501.out), (bk_ BK502.out), (hb2_ HB.out GE501.out GE502.out)⟩)
        ·skip
         refine box_step ?hg (N := 7) ?hd (cs := #[.int .i64 0, .int .i64 0]) (t := 65) ?hr ?_; (case hd => rfl); (case hg => rfl); (case hr => first | (go_simp; done) | (go_simp; rfl))
         intro gb514 hg w22 hbox hb
         have n0_ := Aside0.mk (Kd.R_below (kr_ HO508.out) hb)
         have n1_ := Aside0.mk (bb_ BK501.out hb)
         have n2_ := Aside0.mk (bb_ BK502.out hb)
         have n3_ := Aside0.mk (below_step (hb2_ HB.out GE501.out GE502.out) hb)
         have n4_ := Aside0.mk (hbox)
         have n5_ := Aside0.mk ((gs_ hg (hb2_ HB.out GE501.out GE502.out)))
         have n6_ := Aside0.mk ((gs_ hg (hb2_ HB.out GE501.out GE502.out)))
         have n7_ := Aside0.mk (nl_ hg BK501.out)
         have n8_ := Aside0.mk (nr_ hg BK501.out)
         have n9_ := Aside0.mk (nl_ hg BK502.out)
         have n10_ := Aside0.mk (nr_ hg BK502.out)
         clear HO508
         clear BK501
         clear BK502
         clear HB
         have HO508 := n0_
         have BK501 := n1_
         have BK502 := n2_
         have HB := n3_
         have BK514 := n4_
         have GW514 := n5_
         have GE514 := n6_
         have NB501_514 := n7_
         have NB514_501 := n8_
         have NB502_514 := n9_
         have NB514_502 := n10_
         clear n0_ n1_ n2_ n3_ n4_ n5_ n6_ n7_ n8_ n9_ n10_
         clear hb hbox hg
         refine hK.out _ _ ⟨(blk_cell BK501.out 0).trans rfl, (blk_cell BK501.out 1).trans rfl, (blk_cell BK501.out 2).trans rfl, (blk_cell BK502.out 0).trans rfl, (blk_cell BK502.out 1).trans rfl⟩ (fun hHeld => ?_)
         clear hK K
         refine norm_ (a' := ?_) ?_ ?_
         rotate_left
         ·show Act.put _ (some 7) _ = _
          simp only [Act.put, List.setIfInBounds_toArray, List.set_cons_zero, List.set_cons_succ, i64_w, i32_w]
          rfl
         exact norm_ (by first | (simp only [putAll, Act.put, List.setIfInBounds_toArray, List.set_cons_zero, List.set_cons_succ]; done) | (simp only [putAll, Act.put, List.setIfInBounds_toArray, List.set_cons_zero, List.set_cons_succ]; rfl)) (hJ1_3_10 (v507, gb514) _ ⟨hHeld, (kr_ HO508.out), (bk_ BK501.out), (bk_ BK502.out), (bk_ BK514.out), GW514.out, GE514.out, NB501_514.out, NB514_501.out, NB502_514.out, NB514_502.out, (hb3_ HB.out GE501.out GE502.out GE514.out)⟩)
      ·skip
       rintro ⟨v507, gb514⟩ w22 ⟨hS_, h0_, h1_, h2_, h3_, h4_, h5_, h6_, h7_, h8_, h9_, h10_⟩
       have n0_ : Aside0 (Kd.R (Kd.int .i64) 3 w22 w.heap.size (fun _ => True) v507 t506) := ⟨h0_⟩
       have n1_ : Aside0 (w22.heap[gb501]? = some (.cells #[.int .i64 a0_0, .int .i64 a0_1, .int .i64 a0_2] 25 (0, 0))) := ⟨h1_⟩
       have n2_ : Aside0 (w22.heap[gb502]? = some (.cells #[.int .i64 a2_0, .int .i64 a2_1] 63 (0, 0))) := ⟨h2_⟩
       have n3_ : Aside0 (w22.heap[gb514]? = some (.cells #[.int .i64 0, .int .i64 0] 65 (0, 0))) := ⟨h3_⟩
       have n4_ : Aside0 (w.heap.size ≤ gb514) := ⟨h4_⟩
       have n5_ : Aside0 (w.heap.size ≤ gb514) := ⟨h5_⟩
       have n6_ : Aside0 (gb501 ≠ gb514) := ⟨h6_⟩
       have n7_ : Aside0 (gb514 ≠ gb501) := ⟨h7_⟩
       have n8_ : Aside0 (gb502 ≠ gb514) := ⟨h8_⟩
       have n9_ : Aside0 (gb514 ≠ gb502) := ⟨h9_⟩
       have n10_ : Aside0 (Below w.heap.size w w22) := ⟨h10_⟩
       clear BK501
       clear BK502
       clear HB
       clear h0_ h1_ h2_ h3_ h4_ h5_ h6_ h7_ h8_ h9_ h10_
       have HO508 := n0_
       have BK501 := n1_
       have BK502 := n2_
       have BK514 := n3_
       have GW514 := n4_
       have GE514 := n5_
       have NB501_514 := n6_
       have NB514_501 := n7_
       have NB502_514 := n8_
       have NB514_502 := n9_
       have HB := n10_
       clear n0_ n1_ n2_ n3_ n4_ n5_ n6_ n7_ n8_ n9_ n10_
       have hHeld : w22.cell? ⟨gb501, 0, none⟩ = some (.int .i64 a0_0) ∧ w22.cell? ⟨gb501, 1, none⟩ = some (.int .i64 a0_1) ∧ w22.cell? ⟨gb501, 2, none⟩ = some (.int .i64 a0_2) ∧ w22.cell? ⟨gb502, 0, none⟩ = some (.int .i64 a2_0) ∧ w22.cell? ⟨gb502, 1, none⟩ = some (.int .i64 a2_1) := hS_
       refine norm_ (a' := ?_) ?_ ?_
       rotate_left
       ·simp only [putAll, Act.put, List.setIfInBounds_toArray, List.set_cons_zero, List.set_cons_succ]
        rfl
       refine ov_ (i := 5) (N := some 21) HT_.out (fun K hK => ?_)
       refine goes_ Try.func41 (by kernel_rfl) rfl #[.agg #[.int .i64 a2_0, .int .i64 a2_1]] (by rfl) rfl rfl (ml_) ?_
       with_reducible refine (laws_toWalker.calls a2_0 a2_1 t509 t510 _ A9.out).mono ?_
       rintro e w23 ⟨rfl, hb⟩
       refine ⟨_, rfl, ?_⟩
       replace HO508 := Aside0.mk (Kd.R_below (kr_ HO508.out) hb)
       replace BK501 := Aside0.mk (bb_ BK501.out hb)
       replace BK502 := Aside0.mk (bb_ BK502.out hb)
       replace BK514 := Aside0.mk (bb_ BK514.out hb)
       replace HB := Aside0.mk (below_step (hb3_ HB.out GE501.out GE502.out GE514.out) hb)
       (try clear hb)
       (try clear hb2)
       (try clear hk)
       (try clear hi)
       refine hK.out _ _ ⟨(blk_cell BK501.out 0).trans rfl, (blk_cell BK501.out 1).trans rfl, (blk_cell BK501.out 2).trans rfl, (blk_cell BK502.out 0).trans rfl, (blk_cell BK502.out 1).trans rfl⟩ (fun hHeld => ?_)
       clear hK K
       refine norm_ (a' := ?_) ?_ ?_
       rotate_left
       ·show Act.put _ (some 21) _ = _
        simp only [Act.put, List.setIfInBounds_toArray, List.set_cons_zero, List.set_cons_succ, i64_w, i32_w]
        rfl
       exact norm_ (by first | (simp only [putAll, Act.put, List.setIfInBounds_toArray, List.set_cons_zero, List.set_cons_succ]; done) | (simp only [putAll, Act.put, List.setIfInBounds_toArray, List.set_cons_zero, List.set_cons_succ]; rfl)) (hJ1_3_5_10 (v507, gb514) _ ⟨hHeld, (kr_ HO508.out), (bk_ BK501.out), (bk_ BK502.out), (bk_ BK514.out), GW514.out, GE514.out, NB501_514.out, NB514_501.out, NB502_514.out, NB514_502.out, (hb3_ HB.out GE501.out GE502.out GE514.out)⟩)
     ·skip
      rintro v507 w22 ⟨hS_, h0_, h1_, h2_, h3_⟩
      have n0_ : Aside0 (Kd.R (Kd.int .i64) 3 w22 w.heap.size (fun _ => True) v507 t506) := ⟨h0_⟩
      have n1_ : Aside0 (w22.heap[gb501]? = some (.cells #[.int .i64 a0_0, .int .i64 a0_1, .int .i64 a0_2] 25 (0, 0))) := ⟨h1_⟩
      have n2_ : Aside0 (w22.heap[gb502]? = some (.cells #[.int .i64 a2_0, .int .i64 a2_1] 63 (0, 0))) := ⟨h2_⟩
      have n3_ : Aside0 (Below w.heap.size w w22) := ⟨h3_⟩
      clear BK501
      clear BK502
      clear HB
      clear h0_ h1_ h2_ h3_
      have HO508 := n0_
      have BK501 := n1_
      have BK502 := n2_
      have HB := n3_
      clear n0_ n1_ n2_ n3_
      have hHeld : w22.cell? ⟨gb501, 0, none⟩ = some (.int .i64 a0_0) ∧ w22.cell? ⟨gb501, 1, none⟩ = some (.int .i64 a0_1) ∧ w22.cell? ⟨gb501, 2, none⟩ = some (.int .i64 a0_2) ∧ w22.cell? ⟨gb502, 0, none⟩ = some (.int .i64 a2_0) ∧ w22.cell? ⟨gb502, 1, none⟩ = some (.int .i64 a2_1) := hS_
      obtain ⟨Ao23, co23, eo23⟩ := Kd.R_slice HO508.out
      (first | subst eo23 | (injection eo23 with f1_ f2_ f3_; have f4_ := f1_.symm; have f5_ := f3_.symm; clear f1_ f2_ f3_; subst f4_; subst f5_))
      refine norm_ (a' := ?_) ?_ ?_
      rotate_left
      ·simp only [putAll, Act.put, List.setIfInBounds_toArray, List.set_cons_zero, List.set_cons_succ]
       rfl
      refine two_ (i := 6) (j := 10) (Ni := some 22) (Nj := some 7) #[true, true, true, true, true, true, true, false, false, false, false, false, false] #[true, true, true, true, true, true, false, false, false, false, true, false, false] rfl rfl rfl rfl (two_of HT_.out (by kernel_rfl)) (by decide) (by decide) (fun K hK => ?_) (fun K hK => ?_)
      ·skip
       refine goes_ Try.func44 (by kernel_rfl) rfl #[.agg #[.int .i64 t503, .int .i64 t504, .int .i64 t505], .slice Ao23 t506.length co23, .agg #[.int .i64 t509, .int .i64 t510]] (by rfl) rfl rfl (ml_) ?_
       with_reducible refine (spec_TremauxStep.calls k t503 t504 t505 _ _ t506 t509 t510 t511 t512 t513 _ ?side1 ?side2 A10.out).mono ?_
       (case side1 => repeat (first | exact (Kd.R_reads' HO508.out).2.2 | (with_reducible refine Kd.C_alloc ?_ _) | (with_reducible refine Kd.C_drewN ?_ _) | (with_reducible refine Kd.C_drew ?_)))
       (case side2 => exact (Kd.R_reads' HO508.out).2.1)
       rintro e w24 ⟨rfl, hb⟩
       refine ⟨_, rfl, ?_⟩
       replace HO508 := Aside0.mk (Kd.R_below (kr_ HO508.out) hb)
       replace BK501 := Aside0.mk (bb_ BK501.out hb)
       replace BK502 := Aside0.mk (bb_ BK502.out hb)
       replace HB := Aside0.mk (below_step (hb2_ HB.out GE501.out GE502.out) hb)
       (try clear hb)
       (try clear hb2)
       (try clear hk)
       (try clear hi)
       refine hK.out _ _ ⟨(blk_cell BK501.out 0).trans rfl, (blk_cell BK501.out 1).trans rfl, (blk_cell BK501.out 2).trans rfl, (blk_cell BK502.out 0).trans rfl, (blk_cell BK502.out 1).trans rfl⟩ (fun hHeld => ?_)
       clear hK K
       refine norm_ (a' := ?_) ?_ ?_
       rotate_left
       ·show Act.put _ (some 22) _ = _
        simp only [Act.put, List.setIfInBounds_toArray, List.set_cons_zero, List.set_cons_succ, i64_w, i32_w]
        rfl
       refine pv_ (i := 7) (N := some 15) HT_.out ?_
       refine pv_ (i := 8) (N := some 23) HT_.out ?_
       refine pv_ (i := 9) (N := some 24) HT_.out ?_
       exact norm_ (by first | (simp only [putAll, Act.put, List.setIfInBounds_toArray, List.set_cons_zero, List.set_cons_succ]; done) | (simp only [putAll, Act.put, List.setIfInBounds_toArray, List.set_cons_zero, List.set_cons_succ]; rfl)) (hJ1_3_5_6 (.slice Ao23 t506.length co23) _ ⟨hHeld, (kr_ HO508.out), (bk_ BK501.out), (bk_ BK502.out), (hb2_ HB.out GE501.out GE502.out)⟩)
      ·skip
       refine box_step ?hg (N := 7) ?hd (cs := #[.int .i64 0, .int .i64 0]) (t := 65) ?hr ?_; (case hd => rfl); (case hg => rfl); (case hr => first | (go_simp; done) | (go_simp; rfl))
       intro gb514 hg w23 hbox hb
       have n0_ := Aside0.mk (Kd.R_below (kr_ HO508.out) hb)
       have n1_ := Aside0.mk (bb_ BK501.out hb)
       have n2_ := Aside0.mk (bb_ BK502.out hb)
       have n3_ := Aside0.mk (below_step (hb2_ HB.out GE501.out GE502.out) hb)
       have n4_ := Aside0.mk (hbox)
       have n5_ := Aside0.mk ((gs_ hg (hb2_ HB.out GE501.out GE502.out)))
       have n6_ := Aside0.mk ((gs_ hg (hb2_ HB.out GE501.out GE502.out)))
       have n7_ := Aside0.mk (nl_ hg BK501.out)
       have n8_ := Aside0.mk (nr_ hg BK501.out)
       have n9_ := Aside0.mk (nl_ hg BK502.out)
       have n10_ := Aside0.mk (nr_ hg BK502.out)
       clear HO508
       clear BK501
       clear BK502
       clear HB
       have HO508 := n0_
       have BK501 := n1_
       have BK502 := n2_
       have HB := n3_
       have BK514 := n4_
       have GW514 := n5_
       have GE514 := n6_
       have NB501_514 := n7_
       have NB514_501 := n8_
       have NB502_514 := n9_
       have NB514_502 := n10_
       clear n0_ n1_ n2_ n3_ n4_ n5_ n6_ n7_ n8_ n9_ n10_
       clear hb hbox hg
       refine hK.out _ _ ⟨(blk_cell BK501.out 0).trans rfl, (blk_cell BK501.out 1).trans rfl, (blk_cell BK501.out 2).trans rfl, (blk_cell BK502.out 0).trans rfl, (blk_cell BK502.out 1).trans rfl⟩ (fun hHeld => ?_)
       clear hK K
       refine norm_ (a' := ?_) ?_ ?_
       rotate_left
       ·show Act.put _ (some 7) _ = _
        simp only [Act.put, List.setIfInBounds_toArray, List.set_cons_zero, List.set_cons_succ, i64_w, i32_w]
        rfl
       exact norm_ (by first | (simp only [putAll, Act.put, List.setIfInBounds_toArray, List.set_cons_zero, List.set_cons_succ]; done) | (simp only [putAll, Act.put, List.setIfInBounds_toArray, List.set_cons_zero, List.set_cons_succ]; rfl)) (hJ1_3_5_10 ((.slice Ao23 t506.length co23), gb514) _ ⟨hHeld, (kr_ HO508.out), (bk_ BK501.out), (bk_ BK502.out), (bk_ BK514.out), GW514.out, GE514.out, NB501_514.out, NB514_501.out, NB502_514.out, NB514_502.out, (hb3_ HB.out GE501.out GE502.out GE514.out)⟩)
    ·skip
     rintro ⟨v507, gb514⟩ w23 ⟨hS_, h0_, h1_, h2_, h3_, h4_, h5_, h6_, h7_, h8_, h9_, h10_⟩
     have n0_ : Aside0 (Kd.R (Kd.int .i64) 3 w23 w.heap.size (fun _ => True) v507 t506) := ⟨h0_⟩
     have n1_ : Aside0 (w23.heap[gb501]? = some (.cells #[.int .i64 a0_0, .int .i64 a0_1, .int .i64 a0_2] 25 (0, 0))) := ⟨h1_⟩
     have n2_ : Aside0 (w23.heap[gb502]? = some (.cells #[.int .i64 a2_0, .int .i64 a2_1] 63 (0, 0))) := ⟨h2_⟩
     have n3_ : Aside0 (w23.heap[gb514]? = some (.cells #[.int .i64 0, .int .i64 0] 65 (0, 0))) := ⟨h3_⟩
     have n4_ : Aside0 (w.heap.size ≤ gb514) := ⟨h4_⟩
     have n5_ : Aside0 (w.heap.size ≤ gb514) := ⟨h5_⟩
     have n6_ : Aside0 (gb501 ≠ gb514) := ⟨h6_⟩
     have n7_ : Aside0 (gb514 ≠ gb501) := ⟨h7_⟩
     have n8_ : Aside0 (gb502 ≠ gb514) := ⟨h8_⟩
     have n9_ : Aside0 (gb514 ≠ gb502) := ⟨h9_⟩
     have n10_ : Aside0 (Below w.heap.size w w23) := ⟨h10_⟩
     clear BK501
     clear BK502
     clear HB
     clear h0_ h1_ h2_ h3_ h4_ h5_ h6_ h7_ h8_ h9_ h10_
     have HO508 := n0_
     have BK501 := n1_
     have BK502 := n2_
     have BK514 := n3_
     have GW514 := n4_
     have GE514 := n5_
     have NB501_514 := n6_
     have NB514_501 := n7_
     have NB502_514 := n8_
     have NB514_502 := n9_
     have HB := n10_
     clear n0_ n1_ n2_ n3_ n4_ n5_ n6_ n7_ n8_ n9_ n10_
     have hHeld : w23.cell? ⟨gb501, 0, none⟩ = some (.int .i64 a0_0) ∧ w23.cell? ⟨gb501, 1, none⟩ = some (.int .i64 a0_1) ∧ w23.cell? ⟨gb501, 2, none⟩ = some (.int .i64 a0_2) ∧ w23.cell? ⟨gb502, 0, none⟩ = some (.int .i64 a2_0) ∧ w23.cell? ⟨gb502, 1, none⟩ = some (.int .i64 a2_1) := hS_
     obtain ⟨Ao24, co24, eo24⟩ := Kd.R_slice HO508.out
     (first | subst eo24 | (injection eo24 with f1_ f2_ f3_; have f4_ := f1_.symm; have f5_ := f3_.symm; clear f1_ f2_ f3_; subst f4_; subst f5_))
     refine norm_ (a' := ?_) ?_ ?_
     rotate_left
     ·simp only [putAll, Act.put, List.setIfInBounds_toArray, List.set_cons_zero, List.set_cons_succ]
      rfl
     refine ov_ (i := 6) (N := some 22) HT_.out (fun K hK => ?_)
     refine goes_ Try.func44 (by kernel_rfl) rfl #[.agg #[.int .i64 t503, .int .i64 t504, .int .i64 t505], .slice Ao24 t506.length co24, .agg #[.int .i64 t509, .int .i64 t510]] (by rfl) rfl rfl (ml_) ?_
     with_reducible refine (spec_TremauxStep.calls k t503 t504 t505 _ _ t506 t509 t510 t511 t512 t513 _ ?side1 ?side2 A10.out).mono ?_
     (case side1 => repeat (first | exact (Kd.R_reads' HO508.out).2.2 | (with_reducible refine Kd.C_alloc ?_ _) | (with_reducible refine Kd.C_drewN ?_ _) | (with_reducible refine Kd.C_drew ?_)))
     (case side2 => exact (Kd.R_reads' HO508.out).2.1)
     rintro e w25 ⟨rfl, hb⟩
     refine ⟨_, rfl, ?_⟩
     replace HO508 := Aside0.mk (Kd.R_below (kr_ HO508.out) hb)
     replace BK501 := Aside0.mk (bb_ BK501.out hb)
     replace BK502 := Aside0.mk (bb_ BK502.out hb)
     replace BK514 := Aside0.mk (bb_ BK514.out hb)
     replace HB := Aside0.mk (below_step (hb3_ HB.out GE501.out GE502.out GE514.out) hb)
     (try clear hb)
     (try clear hb2)
     (try clear hk)
     (try clear hi)
     refine hK.out _ _ ⟨(blk_cell BK501.out 0).trans rfl, (blk_cell BK501.out 1).trans rfl, (blk_cell BK501.out 2).trans rfl, (blk_cell BK502.out 0).trans rfl, (blk_cell BK502.out 1).trans rfl⟩ (fun hHeld => ?_)
     clear hK K
     refine norm_ (a' := ?_) ?_ ?_
     rotate_left
     ·show Act.put _ (some 22) _ = _
      simp only [Act.put, List.setIfInBounds_toArray, List.set_cons_zero, List.set_cons_succ, i64_w, i32_w]
      rfl
     refine pv_ (i := 7) (N := some 15) HT_.out ?_
     refine pv_ (i := 8) (N := some 23) HT_.out ?_
     refine pv_ (i := 9) (N := some 24) HT_.out ?_
     exact norm_ (by first | (simp only [putAll, Act.put, List.setIfInBounds_toArray, List.set_cons_zero, List.set_cons_succ]; done) | (simp only [putAll, Act.put, List.setIfInBounds_toArray, List.set_cons_zero, List.set_cons_succ]; rfl)) (hJ1_3_5_6_10 (.slice Ao24 t506.length co24, gb514) _ ⟨hHeld, (kr_ HO508.out), (bk_ BK501.out), (bk_ BK502.out), (bk_ BK514.out), GW514.out, GE514.out, NB501_514.out, NB514_501.out, NB502_514.out, NB514_502.out, (hb3_ HB.out GE501.out GE502.out GE514.out)⟩)
   ·skip
    rintro v507 w24 ⟨hS_, h0_, h1_, h2_, h3_⟩
    have n0_ : Aside0 (Kd.R (Kd.int .i64) 3 w24 w.heap.size (fun _ => True) v507 t506) := ⟨h0_⟩
    have n1_ : Aside0 (w24.heap[gb501]? = some (.cells #[.int .i64 a0_0, .int .i64 a0_1, .int .i64 a0_2] 25 (0, 0))) := ⟨h1_⟩
    have n2_ : Aside0 (w24.heap[gb502]? = some (.cells #[.int .i64 a2_0, .int .i64 a2_1] 63 (0, 0))) := ⟨h2_⟩
    have n3_ : Aside0 (Below w.heap.size w w24) := ⟨h3_⟩
    clear BK501
    clear BK502
    clear HB
    clear h0_ h1_ h2_ h3_
    have HO508 := n0_
    have BK501 := n1_
    have BK502 := n2_
    have HB := n3_
    clear n0_ n1_ n2_ n3_
    have hHeld : w24.cell? ⟨gb501, 0, none⟩ = some (.int .i64 a0_0) ∧ w24.cell? ⟨gb501, 1, none⟩ = some (.int .i64 a0_1) ∧ w24.cell? ⟨gb501, 2, none⟩ = some (.int .i64 a0_2) ∧ w24.cell? ⟨gb502, 0, none⟩ = some (.int .i64 a2_0) ∧ w24.cell? ⟨gb502, 1, none⟩ = some (.int .i64 a2_1) := hS_
    refine norm_ (a' := ?_) ?_ ?_
    rotate_left
    ·simp only [putAll, Act.put, List.setIfInBounds_toArray, List.set_cons_zero, List.set_cons_succ]
     rfl
    refine ov_ (i := 10) (N := some 7) HT_.out (fun K hK => ?_)
    refine box_step ?hg (N := 7) ?hd (cs := #[.int .i64 0, .int .i64 0]) (t := 65) ?hr ?_; (case hd => rfl); (case hg => rfl); (case hr => first | (go_simp; done) | (go_simp; rfl))
    intro gb514 hg w25 hbox hb
    have n0_ := Aside0.mk (Kd.R_below (kr_ HO508.out) hb)
    have n1_ := Aside0.mk (bb_ BK501.out hb)
    have n2_ := Aside0.mk (bb_ BK502.out hb)
    have n3_ := Aside0.mk (below_step (hb2_ HB.out GE501.out GE502.out) hb)
    have n4_ := Aside0.mk (hbox)
    have n5_ := Aside0.mk ((gs_ hg (hb2_ HB.out GE501.out GE502.out)))
    have n6_ := Aside0.mk ((gs_ hg (hb2_ HB.out GE501.out GE502.out)))
    have n7_ := Aside0.mk (nl_ hg BK501.out)
    have n8_ := Aside0.mk (nr_ hg BK501.out)
    have n9_ := Aside0.mk (nl_ hg BK502.out)
    have n10_ := Aside0.mk (nr_ hg BK502.out)
    clear HO508
    clear BK501
    clear BK502
    clear HB
    have HO508 := n0_
    have BK501 := n1_
    have BK502 := n2_
    have HB := n3_
    have BK514 := n4_
    have GW514 := n5_
    have GE514 := n6_
    have NB501_514 := n7_
    have NB514_501 := n8_
    have NB502_514 := n9_
    have NB514_502 := n10_
    clear n0_ n1_ n2_ n3_ n4_ n5_ n6_ n7_ n8_ n9_ n10_
    clear hb hbox hg
    refine hK.out _ _ ⟨(blk_cell BK501.out 0).trans rfl, (blk_cell BK501.out 1).trans rfl, (blk_cell BK501.out 2).trans rfl, (blk_cell BK502.out 0).trans rfl, (blk_cell BK502.out 1).trans rfl⟩ (fun hHeld => ?_)
    clear hK K
    refine norm_ (a' := ?_) ?_ ?_
    rotate_left
    ·show Act.put _ (some 7) _ = _
     simp only [Act.put, List.setIfInBounds_toArray, List.set_cons_zero, List.set_cons_succ, i64_w, i32_w]
     rfl
    exact norm_ (by first | (simp only [putAll, Act.put, List.setIfInBounds_toArray, List.set_cons_zero, List.set_cons_succ]; done) | (simp only [putAll, Act.put, List.setIfInBounds_toArray, List.set_cons_zero, List.set_cons_succ]; rfl)) (hJ1_3_5_6_10 (v507, gb514) _ ⟨hHeld, (kr_ HO508.out), (bk_ BK501.out), (bk_ BK502.out), (bk_ BK514.out), GW514.out, GE514.out, NB501_514.out, NB514_501.out, NB502_514.out, NB514_502.out, (hb3_ HB.out GE501.out GE502.out GE514.out)⟩)
  rintro ⟨v507, gb514⟩ w25 ⟨hS_, h0_, h1_, h2_, h3_, h4_, h5_, h6_, h7_, h8_, h9_, h10_⟩
  have n0_ : Aside0 (Kd.R (Kd.int .i64) 3 w25 w.heap.size (fun _ => True) v507 t506) := ⟨h0_⟩
  have n1_ : Aside0 (w25.heap[gb501]? = some (.cells #[.int .i64 a0_0, .int .i64 a0_1, .int .i64 a0_2] 25 (0, 0))) := ⟨h1_⟩
  have n2_ : Aside0 (w25.heap[gb502]? = some (.cells #[.int .i64 a2_0, .int .i64 a2_1] 63 (0, 0))) := ⟨h2_⟩
  have n3_ : Aside0 (w25.heap[gb514]? = some (.cells #[.int .i64 0, .int .i64 0] 65 (0, 0))) := ⟨h3_⟩
  have n4_ : Aside0 (w.heap.size ≤ gb514) := ⟨h4_⟩
  have n5_ : Aside0 (w.heap.size ≤ gb514) := ⟨h5_⟩
  have n6_ : Aside0 (gb501 ≠ gb514) := ⟨h6_⟩
  have n7_ : Aside0 (gb514 ≠ gb501) := ⟨h7_⟩
  have n8_ : Aside0 (gb502 ≠ gb514) := ⟨h8_⟩
  have n9_ : Aside0 (gb514 ≠ gb502) := ⟨h9_⟩
  have n10_ : Aside0 (Below w.heap.size w w25) := ⟨h10_⟩
  clear BK501
  clear BK502
  clear HB
  clear h0_ h1_ h2_ h3_ h4_ h5_ h6_ h7_ h8_ h9_ h10_
  have HO508 := n0_
  have BK501 := n1_
  have BK502 := n2_
  have BK514 := n3_
  have GW514 := n4_
  have GE514 := n5_
  have NB501_514 := n6_
  have NB514_501 := n7_
  have NB502_514 := n8_
  have NB514_502 := n9_
  have HB := n10_
  clear n0_ n1_ n2_ n3_ n4_ n5_ n6_ n7_ n8_ n9_ n10_
  have hHeld : w25.cell? ⟨gb501, 0, none⟩ = some (.int .i64 a0_0) ∧ w25.cell? ⟨gb501, 1, none⟩ = some (.int .i64 a0_1) ∧ w25.cell? ⟨gb501, 2, none⟩ = some (.int .i64 a0_2) ∧ w25.cell? ⟨gb502, 0, none⟩ = some (.int .i64 a2_0) ∧ w25.cell? ⟨gb502, 1, none⟩ = some (.int .i64 a2_1) := hS_
  refine norm_ (a' := ?_) ?_ ?_
  rotate_left
  ·simp only [putAll, Act.put, List.setIfInBounds_toArray, List.set_cons_zero, List.set_cons_succ]
   rfl
  refine one_ (i := 11) (N := none) #[true, true, true, true, true, true, true, true, true, true, true, true, false] rfl rfl (one_of HT_.out (by kernel_rfl)) (by decide) (fun K hK => ?_)
  have hs26 : w25.cell? ⟨gb514, 0, none⟩ = some (.int .i64 0) := (blk_cell BK514.out 0).trans rfl
  have hfs26 := blk_frozen BK514.out 0
  have hns26_0 := NB501_514.out
  have hns26_1 := NB502_514.out
  have hms26_0 := NB514_501.out
  have hms26_1 := NB514_502.out
  have hs27 : w25.cell? ⟨gb514, 1, none⟩ = some (.int .i64 0) := (blk_cell BK514.out 1).trans rfl
  have hfs27 := blk_frozen BK514.out 1
  have hns27_0 := NB501_514.out
  have hns27_1 := NB502_514.out
  have hms27_0 := NB514_501.out
  have hms27_1 := NB514_502.out
  refine skip_ (w1 := ?_) (by rfl) rfl ?_ ?_
  rotate_left
  ·go_simp
   rfl
  refine hK.out _ _ ⟨((cell_far (p := ⟨gb514, _, none⟩) NB501_514.out _).trans (((cell_far (p := ⟨gb514, _, none⟩) NB501_514.out _).trans (hHeld.1)))), ((cell_far (p := ⟨gb514, _, none⟩) NB501_514.out _).trans (((cell_far (p := ⟨gb514, _, none⟩) NB501_514.out _).trans (hHeld.2.1)))), ((cell_far (p := ⟨gb514, _, none⟩) NB501_514.out _).trans (((cell_far (p := ⟨gb514, _, none⟩) NB501_514.out _).trans (hHeld.2.2.1)))), ((cell_far (p := ⟨gb514, _, none⟩) NB502_514.out _).trans (((cell_far (p := ⟨gb514, _, none⟩) NB502_514.out _).trans (hHeld.2.2.2.1)))), ((cell_far (p := ⟨gb514, _, none⟩) NB502_514.out _).trans (((cell_far (p := ⟨gb514, _, none⟩) NB502_514.out _).trans (hHeld.2.2.2.2))))⟩ (fun hHeld => ?_)
  clear hK K
  refine pv_ (i := 12) (N := some 8) HT_.out ?_
  refine done_ (done_of HT_.out (by kernel_rfl)) ?_
  try go_wp2_with (first | ((with_reducible refine gate_callee (f := 42) rfl ?_); refine goesL_ (some 26) rfl rfl Try.func42 (by kernel_rfl) rfl #[.slice A1 l1.length c1] rfl (ml_) ?_; (with_reducible refine (laws_toIntS.calls k _ _ l1 t515 _ ?side1 ?side2 A11.out).mono ?_); (case side1 => exact Kd.C_below HR1.out (hb3_ HB.out GE501.out GE502.out GE514.out)); (case side2 => exact HC1.out); rintro e w28 ⟨v516, rfl, ho0, hb⟩; refine ⟨_, rfl, ?_⟩; have n0_ := Aside0.mk (Kd.R_elder' (by (with_reducible repeat (first | apply Kd.R_alloc | apply Kd.R_drewN | apply Kd.R_drew)); exact (Kd.R_mono (Kd.R_far (p := ⟨gb514, 1, none⟩) (Kd.R_far (p := ⟨gb514, 0, none⟩) (Kd.R_types HO508.out BK514.out (by decide)) (fun _ hk => hk.2) (.int .i64 t511)) (fun _ hk => hk.2) (.int .i64 t512)) (fun _ h_ => h_.1))) (Kd.R_base ho0) hb); have n1_ := Aside0.mk (Kd.R_lower (Kd.R_new' ho0 (Kd.R_lt (by (with_reducible repeat (first | apply Kd.R_alloc | apply Kd.R_drewN | apply Kd.R_drew)); exact (Kd.R_mono (Kd.R_far (p := ⟨gb514, 1, none⟩) (Kd.R_far (p := ⟨gb514, 0, none⟩) (Kd.R_types HO508.out BK514.out (by decide)) (fun _ hk => hk.2) (.int .i64 t511)) (fun _ hk => hk.2) (.int .i64 t512)) (fun _ h_ => h_.1))))) (below_size (hb3_ HB.out GE501.out GE502.out GE514.out))); have n2_ := Aside0.mk (blk_below (g := gb501) (o := .cells #[.int .i64 a0_0, .int .i64 a0_1, .int .i64 a0_2] 25 (0, 0)) (by (with_reducible repeat (first | refine blk_drewN ?_ _ | refine blk_drew ?_ | refine blk_alloc ?_ _)); refine blk_far ?_ NB501_514.out _; (with_reducible repeat (first | refine blk_drewN ?_ _ | refine blk_drew ?_ | refine blk_alloc ?_ _)); refine blk_far ?_ NB501_514.out _; (with_reducible repeat (first | refine blk_drewN ?_ _ | refine blk_drew ?_ | refine blk_alloc ?_ _)); exact BK501.out) hb); have n3_ := Aside0.mk (blk_below (g := gb502) (o := .cells #[.int .i64 a2_0, .int .i64 a2_1] 63 (0, 0)) (by (with_reducible repeat (first | refine blk_drewN ?_ _ | refine blk_drew ?_ | refine blk_alloc ?_ _)); refine blk_far ?_ NB502_514.out _; (with_reducible repeat (first | refine blk_drewN ?_ _ | refine blk_drew ?_ | refine blk_alloc ?_ _)); refine blk_far ?_ NB502_514.out _; (with_reducible repeat (first | refine blk_drewN ?_ _ | refine blk_drew ?_ | refine blk_alloc ?_ _)); exact BK502.out) hb); have n4_ := Aside0.mk (blk_below (g := gb514) (o := .cells #[.int .i64 t511, .int .i64 t512] 65 (0, 0)) (by (with_reducible repeat (first | refine blk_drewN ?_ _ | refine blk_drew ?_ | refine blk_alloc ?_ _)); refine blk_put (cs := #[.int .i64 t511, .int .i64 0]) ?_ 1 _ rfl; (with_reducible repeat (first | refine blk_drewN ?_ _ | refine blk_drew ?_ | refine blk_alloc ?_ _)); refine blk_put (cs := #[.int .i64 0, .int .i64 0]) ?_ 0 _ rfl; (with_reducible repeat (first | refine blk_drewN ?_ _ | refine blk_drew ?_ | refine blk_alloc ?_ _)); exact BK514.out) hb); have n5_ := Aside0.mk (below_step (hb3_ HB.out GE501.out GE502.out GE514.out) hb); clear HO508; clear BK501; clear BK502; clear BK514; clear HB; have HO508 := n0_; have HO517 := n1_; have BK501 := n2_; have BK502 := n3_; have BK514 := n4_; have HB := n5_; clear n0_ n1_ n2_ n3_ n4_ n5_; (try clear hb); (try clear hb2); (try clear hk); (try clear hi); (try clear ho0); obtain ⟨Ao29, co29, eo29⟩ := Kd.R_slice HO517.out; subst eo29))
  replace HO508 := Aside0.mk (Kd.R_drew HO508.out)
  replace HO517 := Aside0.mk (Kd.R_drew HO517.out)
  replace BK501 := Aside0.mk (blk_drew BK501.out)
  replace BK502 := Aside0.mk (blk_drew BK502.out)
  replace BK514 := Aside0.mk (blk_drew BK514.out)
  replace HB := Aside0.mk (below_drew1 HB.out)
  refine start_ (n := 12) (S := fun w' => w'.cell? ⟨gb501, 0, none⟩ = some (.int .i64 a0_0) ∧ w'.cell? ⟨gb501, 1, none⟩ = some (.int .i64 a0_1) ∧ w'.cell? ⟨gb501, 2, none⟩ = some (.int .i64 a0_2) ∧ w'.cell? ⟨gb502, 0, none⟩ = some (.int .i64 a2_0) ∧ w'.cell? ⟨gb502, 1, none⟩ = some (.int .i64 a2_1)) (ds := []) #[false, false, false, false, false, false, false, false, false, false, false, false] (by kernel_rfl) rfl rfl ⟨(blk_cell BK501.out 0).trans rfl, (blk_cell BK501.out 1).trans rfl, (blk_cell BK501.out 2).trans rfl, (blk_cell BK502.out 0).trans rfl, (blk_cell BK502.out 1).trans rfl⟩ (fun hHeld => ?_); refine with_tabW laws_FnExactTremauxStep.tab5 laws_FnExactTremauxStep.bits5 (fun HT_ HW_ => ?_)
  generalize w28.drew = w30 at HO508 HO517 BK501 BK502 BK514 HB hHeld ⊢
  refine pv_ (i := 2) (N := some 30) HT_.out ?_
  refine tv5_ (i := 0) (N := some 28) HT_.out HW_.out hHeld ?_
  refine tv5_ (i := 3) (N := some 31) HT_.out HW_.out hHeld ?_
  refine join_ (σ := Nat) 2 #[true, true, true, true, true, true, true, true, true, true, false, false] (fun s_ => [(29, .agg #[.int .i64 t518, .int .i64 t519, .int .i64 t520]), (32, .agg #[.int .i64 t521, .int .i64 t522]), (33, .tuple #[.agg #[.int .i64 t523, .int .i64 t524], .bool t525]), (10, .pointer (some ⟨s_, 0, none⟩)), (27, .tuple #[.agg #[.int .i64 t523, .int .i64 t524], .bool t525]), (34, .agg #[.int .i64 t523, .int .i64 t524]), (35, .bool t525)]) (fun s_ w' => (w'.cell? ⟨gb501, 0, none⟩ = some (.int .i64 a0_0) ∧ w'.cell? ⟨gb501, 1, none⟩ = some (.int .i64 a0_1) ∧ w'.cell? ⟨gb501, 2, none⟩ = some (.int .i64 a0_2) ∧ w'.cell? ⟨gb502, 0, none⟩ = some (.int .i64 a2_0) ∧ w'.cell? ⟨gb502, 1, none⟩ = some (.int .i64 a2_1)) ∧ (Kd.R (Kd.int .i64) 3 w' w.heap.size (fun k_ => some k_ ≠ (.slice Ao29 t515.length co29 : Value).ownBlock) v507 t506) ∧ (Kd.R (Kd.int .i64) 3 w' w.heap.size (fun k_ => some k_ ≠ (v507 : Value).ownBlock) (.slice Ao29 t515.length co29) t515) ∧ (w'.heap[gb501]? = some (.cells #[.int .i64 a0_0, .int .i64 a0_1, .int .i64 a0_2] 25 (0, 0))) ∧ (w'.heap[gb502]? = some (.cells #[.int .i64 a2_0, .int .i64 a2_1] 63 (0, 0))) ∧ (w'.heap[gb514]? = some (.cells #[.int .i64 t511, .int .i64 t512] 65 (0, 0))) ∧ (w'.heap[s_]? = some (.cells #[.int .i64 0, .int .i64 0] 65 (0, 0))) ∧ (w.heap.size ≤ s_) ∧ (w.heap.size ≤ s_) ∧ (gb501 ≠ s_) ∧ (s_ ≠ gb501) ∧ (gb502 ≠ s_) ∧ (s_ ≠ gb502) ∧ (gb514 ≠ s_) ∧ (s_ ≠ gb514) ∧ (Below w.heap.size w w')) ?_ ?_
  rotate_left
  ·intro hCont
   refine two_ (i := 1) (j := 9) (Ni := some 29) (Nj := some 10) #[true, true, true, true, false, false, false, false, false, false, false, false] #[true, false, true, true, false, false, false, false, false, true, false, false] rfl rfl rfl rfl (two_of HT_.out (by kernel_rfl)) (by decide) (by decide) (fun K hK => ?_) (fun K hK => ?_)
   ·skip
    refine goes_ Try.func24 (by kernel_rfl) rfl #[.agg #[.int .i64 a0_0, .int .i64 a0_1, .int .i64 a0_2]] (by rfl) rfl rfl (ml_) ?_
    with_reducible refine (laws_toMaze.calls a0_0 a0_1 a0_2 t518 t519 t520 _ A12.out).mono ?_
    rintro e w31 ⟨rfl, hb⟩
    refine ⟨_, rfl, ?_⟩
    replace HO508 := Aside0.mk (Kd.R_below (kr_ HO508.out) hb)
    replace HO517 := Aside0.mk (Kd.R_below (kr_ HO517.out) hb)
    replace BK501 := Aside0.mk (bb_ BK501.out hb)
    replace BK502 := Aside0.mk (bb_ BK502.out hb)
    replace BK514 := Aside0.mk (bb_ BK514.out hb)
    replace HB := Aside0.mk (below_step (hb3_ HB.out GE501.out GE502.out GE514.out) hb)
    (try clear hb)
    (try clear hb2)
    (try clear hk)
    (try clear hi)
    refine hK.out _ _ ⟨(blk_cell BK501.out 0).trans rfl, (blk_cell BK501.out 1).trans rfl, (blk_cell BK501.out 2).trans rfl, (blk_cell BK502.out 0).trans rfl, (blk_cell BK502.out 1).trans rfl⟩ (fun hHeld => ?_)
    clear hK K
    refine norm_ (a' := ?_) ?_ ?_
    rotate_left
    ·show Act.put _ (some 29) _ = _
     simp only [Act.put, List.setIfInBounds_toArray, List.set_cons_zero, List.set_cons_succ, i64_w, i32_w]
     rfl
    refine two_ (i := 4) (j := 9) (Ni := some 32) (Nj := some 10) #[true, true, true, true, true, false, false, false, false, false, false, false] #[true, true, true, true, false, false, false, false, false, true, false, false] rfl rfl rfl rfl (two_of HT_.out (by kernel_rfl)) (by decide) (by decide) (fun K hK => ?_) (fun K hK => ?_)
    ·skip
     refine goes_ Try.func41 (by kernel_rfl) rfl #[.agg #[.int .i64 a2_0, .int .i64 a2_1]] (by rfl) rfl rfl (ml_) ?_
     with_reducible refine (laws_toWalker.calls a2_0 a2_1 t521 t522 _ A13.out).mono ?_
     rintro e w32 ⟨rfl, hb⟩
     refine ⟨_, rfl, ?_⟩
     replace HO508 := Aside0.mk (Kd.R_below (kr_ HO508.out) hb)
     replace HO517 := Aside0.mk (Kd.R_below (kr_ HO517.out) hb)
     replace BK501 := Aside0.mk (bb_ BK501.out hb)
     replace BK502 := Aside0.mk (bb_ BK502.out hb)
     replace BK514 := Aside0.mk (bb_ BK514.out hb)
     replace HB := Aside0.mk (below_step (hb3_ HB.out GE501.out GE502.out GE514.out) hb)
     (try clear hb)
     (try clear hb2)
     (try clear hk)
     (try clear hi)
     refine hK.out _ _ ⟨(blk_cell BK501.out 0).trans rfl, (blk_cell BK501.out 1).trans rfl, (blk_cell BK501.out 2).trans rfl, (blk_cell BK502.out 0).trans rfl, (blk_cell BK502.out 1).trans rfl⟩ (fun hHeld => ?_)
     clear hK K
     refine norm_ (a' := ?_) ?_ ?_
     rotate_left
     ·show Act.put _ (some 32) _ = _
      simp only [Act.put, List.setIfInBounds_toArray, List.set_cons_zero, List.set_cons_succ, i64_w, i32_w]
      rfl
     refine two_ (i := 5) (j := 9) (Ni := some 33) (Nj := some 10) #[true, true, true, true, true, true, false, false, false, false, false, false] #[true, true, true, true, true, false, false, false, false, true, false, false] rfl rfl rfl rfl (two_of HT_.out (by kernel_rfl)) (by decide) (by decide) (fun K hK => ?_) (fun K hK => ?_)
     ·skip
      refine goes_ Try.func45 (by kernel_rfl) rfl #[.agg #[.int .i64 t518, .int .i64 t519, .int .i64 t520], .slice Ao29 t515.length co29, .agg #[.int .i64 t521, .int .i64 t522]] (by rfl) rfl rfl (ml_) ?_
      with_reducible refine (impl_TremauxStep.calls k t518 t519 t520 _ _ t515 t521 t522 t523 t524 t525 _ ?side1 ?side2 A14.out).mono ?_
      (case side1 => repeat (first | exact (Kd.R_reads' HO517.out).2.2 | (with_reducible refine Kd.C_alloc ?_ _) | (with_reducible refine Kd.C_drewN ?_ _) | (with_reducible refine Kd.C_drew ?_)))
      (case side2 => exact (Kd.R_reads' HO517.out).2.1)
      rintro e w33 ⟨rfl, hb⟩
      refine ⟨_, rfl, ?_⟩
      replace HO508 := Aside0.mk (Kd.R_below (kr_ HO508.out) hb)
      replace HO517 := Aside0.mk (Kd.R_below (kr_ HO517.out) hb)
      replace BK501 := Aside0.mk (bb_ BK501.out hb)
      replace BK502 := Aside0.mk (bb_ BK502.out hb)
      replace BK514 := Aside0.mk (bb_ BK514.out hb)
      replace HB := Aside0.mk (below_step (hb3_ HB.out GE501.out GE502.out GE514.out) hb)
      (try clear hb)
      (try clear hb2)
      (try clear hk)
      (try clear hi)
      refine hK.out _ _ ⟨(blk_cell BK501.out 0).trans rfl, (blk_cell BK501.out 1).trans rfl, (blk_cell BK501.out 2).trans rfl, (blk_cell BK502.out 0).trans rfl, (blk_cell BK502.out 1).trans rfl⟩ (fun hHeld => ?_)
      clear hK K
      refine norm_ (a' := ?_) ?_ ?_
      rotate_left
      ·show Act.put _ (some 33) _ = _
       simp only [Act.put, List.setIfInBounds_toArray, List.set_cons_zero, List.set_cons_succ, i64_w, i32_w]
       rfl
      refine pv_ (i := 6) (N := some 27) HT_.out ?_
      refine pv_ (i := 7) (N := some 34) HT_.out ?_
      refine pv_ (i := 8) (N := some 35) HT_.out ?_
      refine ov_ (i := 9) (N := some 10) HT_.out (fun K hK => ?_)
      refine box_step ?hg (N := 10) ?hd (cs := #[.int .i64 0, .int .i64 0]) (t := 65) ?hr ?_; (case hd => rfl); (case hg => rfl); (case hr => first | (go_simp; done) | (go_simp; rfl))
      intro gb526 hg w34 hbox hb
      have n0_ := Aside0.mk (Kd.R_below (kr_ HO508.out) hb)
      have n1_ := Aside0.mk (Kd.R_below (kr_ HO517.out) hb)
      have n2_ := Aside0.mk (bb_ BK501.out hb)
      have n3_ := Aside0.mk (bb_ BK502.out hb)
      have n4_ := Aside0.mk (bb_ BK514.out hb)
      have n5_ := Aside0.mk (below_step (hb3_ HB.out GE501.out GE502.out GE514.out) hb)
      have n6_ := Aside0.mk (hbox)
      have n7_ := Aside0.mk ((gs_ hg (hb3_ HB.out GE501.out GE502.out GE514.out)))
      have n8_ := Aside0.mk ((gs_ hg (hb3_ HB.out GE501.out GE502.out GE514.out)))
      have n9_ := Aside0.mk (nl_ hg BK501.out)
      have n10_ := Aside0.mk (nr_ hg BK501.out)
      have n11_ := Aside0.mk (nl_ hg BK502.out)
      have n12_ := Aside0.mk (nr_ hg BK502.out)
      have n13_ := Aside0.mk (nl_ hg BK514.out)
      have n14_ := Aside0.mk (nr_ hg BK514.out)
      clear HO508
      clear HO517
      clear BK501
      clear BK502
      clear BK514
      clear HB
      have HO508 := n0_
      have HO517 := n1_
      have BK501 := n2_
      have BK502 := n3_
      have BK514 := n4_
      have HB := n5_
      have BK526 := n6_
      have GW526 := n7_
      have GE526 := n8_
      have NB501_526 := n9_
      have NB526_501 := n10_
      have NB502_526 := n11_
      have NB526_502 := n12_
      have NB514_526 := n13_
      have NB526_514 := n14_
      clear n0_ n1_ n2_ n3_ n4_ n5_ n6_ n7_ n8_ n9_ n10_ n11_ n12_ n13_ n14_
      clear hb hbox hg
      refine hK.out _ _ ⟨(blk_cell BK501.out 0).trans rfl, (blk_cell BK501.out 1).trans rfl, (blk_cell BK501.out 2).trans rfl, (blk_cell BK502.out 0).trans rfl, (blk_cell BK502.out 1).trans rfl⟩ (fun hHeld => ?_)
      clear hK K
      refine norm_ (a' := ?_) ?_ ?_
      rotate_left
      ·show Act.put _ (some 10) _ = _
       simp only [Act.put, List.setIfInBounds_toArray, List.set_cons_zero, List.set_cons_succ, i64_w, i32_w]
       rfl
      exact norm_ (by simp only [putAll, Act.put, List.setIfInBounds_toArray, List.set_cons_zero, List.set_cons_succ]) (hCont (gb526) _ ⟨hHeld, (by (with_reducible repeat (first | apply Kd.R_alloc | apply Kd.R_drewN | apply Kd.R_drew)); exact Kd.R_mono HO508.out (fun _ hk => hk.2)), (by (with_reducible repeat (first | apply Kd.R_alloc | apply Kd.R_drewN | apply Kd.R_drew)); exact Kd.R_mono HO517.out (fun _ hk => hk.2)), (bk_ BK501.out), (bk_ BK502.out), (bk_ BK514.out), (bk_ BK526.out), GW526.out, GE526.out, NB501_526.out, NB526_501.out, NB502_526.out, NB526_502.out, NB514_526.out, NB526_514.out, (hb4_ HB.out GE501.out GE502.out GE514.out GE526.out)⟩)
     ·skip
      refine box_step ?hg (N := 10) ?hd (cs := #[.int .i64 0, .int .i64 0]) (t := 65) ?hr ?_; (case hd => rfl); (case hg => rfl); (case hr => first | (go_simp; done) | (go_simp; rfl))
      intro gb526 hg w33 hbox hb
      have n0_ := Aside0.mk (Kd.R_below (kr_ HO508.out) hb)
      have n1_ := Aside0.mk (Kd.R_below (kr_ HO517.out) hb)
      have n2_ := Aside0.mk (bb_ BK501.out hb)
      have n3_ := Aside0.mk (bb_ BK502.out hb)
      have n4_ := Aside0.mk (bb_ BK514.out hb)
      have n5_ := Aside0.mk (below_step (hb3_ HB.out GE501.out GE502.out GE514.out) hb)
      have n6_ := Aside0.mk (hbox)
      have n7_ := Aside0.mk ((gs_ hg (hb3_ HB.out GE501.out GE502.out GE514.out)))
      have n8_ := Aside0.mk ((gs_ hg (hb3_ HB.out GE501.out GE502.out GE514.out)))
      have n9_ := Aside0.mk (nl_ hg BK501.out)
      have n10_ := Aside0.mk (nr_ hg BK501.out)
      have n11_ := Aside0.mk (nl_ hg BK502.out)
      have n12_ := Aside0.mk (nr_ hg BK502.out)
      have n13_ := Aside0.mk (nl_ hg BK514.out)
      have n14_ := Aside0.mk (nr_ hg BK514.out)
      clear HO508
      clear HO517
      clear BK501
      clear BK502
      clear BK514
      clear HB
      have HO508 := n0_
      have HO517 := n1_
      have BK501 := n2_
      have BK502 := n3_
      have BK514 := n4_
      have HB := n5_
      have BK526 := n6_
      have GW526 := n7_
      have GE526 := n8_
      have NB501_526 := n9_
      have NB526_501 := n10_
      have NB502_526 := n11_
      have NB526_502 := n12_
      have NB514_526 := n13_
      have NB526_514 := n14_
      clear n0_ n1_ n2_ n3_ n4_ n5_ n6_ n7_ n8_ n9_ n10_ n11_ n12_ n13_ n14_
      clear hb hbox hg
      refine hK.out _ _ ⟨(blk_cell BK501.out 0).trans rfl, (blk_cell BK501.out 1).trans rfl, (blk_cell BK501.out 2).trans rfl, (blk_cell BK502.out 0).trans rfl, (blk_cell BK502.out 1).trans rfl⟩ (fun hHeld => ?_)
      clear hK K
      refine norm_ (a' := ?_) ?_ ?_
      rotate_left
      ·show Act.put _ (some 10) _ = _
       simp only [Act.put, List.setIfInBounds_toArray, List.set_cons_zero, List.set_cons_succ, i64_w, i32_w]
       rfl
      refine ov_ (i := 5) (N := some 33) HT_.out (fun K hK => ?_)
      refine goes_ Try.func45 (by kernel_rfl) rfl #[.agg #[.int .i64 t518, .int .i64 t519, .int .i64 t520], .slice Ao29 t515.length co29, .agg #[.int .i64 t521, .int .i64 t522]] (by rfl) rfl rfl (ml_) ?_
      with_reducible refine (impl_TremauxStep.calls k t518 t519 t520 _ _ t515 t521 t522 t523 t524 t525 _ ?side1 ?side2 A14.out).mono ?_
      (case side1 => repeat (first | exact (Kd.R_reads' HO517.out).2.2 | (with_reducible refine Kd.C_alloc ?_ _) | (with_reducible refine Kd.C_drewN ?_ _) | (with_reducible refine Kd.C_drew ?_)))
      (case side2 => exact (Kd.R_reads' HO517.out).2.1)
      rintro e w34 ⟨rfl, hb⟩
      refine ⟨_, rfl, ?_⟩
      replace HO508 := Aside0.mk (Kd.R_below (kr_ HO508.out) hb)
      replace HO517 := Aside0.mk (Kd.R_below (kr_ HO517.out) hb)
      replace BK501 := Aside0.mk (bb_ BK501.out hb)
      replace BK502 := Aside0.mk (bb_ BK502.out hb)
      replace BK514 := Aside0.mk (bb_ BK514.out hb)
      replace BK526 := Aside0.mk (bb_ BK526.out hb)
      replace HB := Aside0.mk (below_step (hb4_ HB.out GE501.out GE502.out GE514.out GE526.out) hb)
      (try clear hb)
      (try clear hb2)
      (try clear hk)
      (try clear hi)
      refine hK.out _ _ ⟨(blk_cell BK501.out 0).trans rfl, (blk_cell BK501.out 1).trans rfl, (blk_cell BK501.out 2).trans rfl, (blk_cell BK502.out 0).trans rfl, (blk_cell BK502.out 1).trans rfl⟩ (fun hHeld => ?_)
      clear hK K
      refine norm_ (a' := ?_) ?_ ?_
      rotate_left
      ·show Act.put _ (some 33) _ = _
       simp only [Act.put, List.setIfInBounds_toArray, List.set_cons_zero, List.set_cons_succ, i64_w, i32_w]
       rfl
      refine pv_ (i := 6) (N := some 27) HT_.out ?_
      refine pv_ (i := 7) (N := some 34) HT_.out ?_
      refine pv_ (i := 8) (N := some 35) HT_.out ?_
      exact norm_ (by simp only [putAll, Act.put, List.setIfInBounds_toArray, List.set_cons_zero, List.set_cons_succ]) (hCont (gb526) _ ⟨hHeld, (by (with_reducible repeat (first | apply Kd.R_alloc | apply Kd.R_drewN | apply Kd.R_drew)); exact Kd.R_mono HO508.out (fun _ hk => hk.2)), (by (with_reducible repeat (first | apply Kd.R_alloc | apply Kd.R_drewN | apply Kd.R_drew)); exact Kd.R_mono HO517.out (fun _ hk => hk.2)), (bk_ BK501.out), (bk_ BK502.out), (bk_ BK514.out), (bk_ BK526.out), GW526.out, GE526.out, NB501_526.out, NB526_501.out, NB502_526.out, NB526_502.out, NB514_526.out, NB526_514.out, (hb4_ HB.out GE501.out GE502.out GE514.out GE526.out)⟩)
    ·skip
     refine box_step ?hg (N := 10) ?hd (cs := #[.int .i64 0, .int .i64 0]) (t := 65) ?hr ?_; (case hd => rfl); (case hg => rfl); (case hr => first | (go_simp; done) | (go_simp; rfl))
     intro gb526 hg w32 hbox hb
     have n0_ := Aside0.mk (Kd.R_below (kr_ HO508.out) hb)
     have n1_ := Aside0.mk (Kd.R_below (kr_ HO517.out) hb)
     have n2_ := Aside0.mk (bb_ BK501.out hb)
     have n3_ := Aside0.mk (bb_ BK502.out hb)
     have n4_ := Aside0.mk (bb_ BK514.out hb)
     have n5_ := Aside0.mk (below_step (hb3_ HB.out GE501.out GE502.out GE514.out) hb)
     have n6_ := Aside0.mk (hbox)
     have n7_ := Aside0.mk ((gs_ hg (hb3_ HB.out GE501.out GE502.out GE514.out)))
     have n8_ := Aside0.mk ((gs_ hg (hb3_ HB.out GE501.out GE502.out GE514.out)))
     have n9_ := Aside0.mk (nl_ hg BK501.out)
     have n10_ := Aside0.mk (nr_ hg BK501.out)
     have n11_ := Aside0.mk (nl_ hg BK502.out)
     have n12_ := Aside0.mk (nr_ hg BK502.out)
     have n13_ := Aside0.mk (nl_ hg BK514.out)
     have n14_ := Aside0.mk (nr_ hg BK514.out)
     clear HO508
     clear HO517
     clear BK501
     clear BK502
     clear BK514
     clear HB
     have HO508 := n0_
     have HO517 := n1_
     have BK501 := n2_
     have BK502 := n3_
     have BK514 := n4_
     have HB := n5_
     have BK526 := n6_
     have GW526 := n7_
     have GE526 := n8_
     have NB501_526 := n9_
     have NB526_501 := n10_
     have NB502_526 := n11_
     have NB526_502 := n12_
     have NB514_526 := n13_
     have NB526_514 := n14_
     clear n0_ n1_ n2_ n3_ n4_ n5_ n6_ n7_ n8_ n9_ n10_ n11_ n12_ n13_ n14_
     clear hb hbox hg
     refine hK.out _ _ ⟨(blk_cell BK501.out 0).trans rfl, (blk_cell BK501.out 1).trans rfl, (blk_cell BK501.out 2).trans rfl, (blk_cell BK502.out 0).trans rfl, (blk_cell BK502.out 1).trans rfl⟩ (fun hHeld => ?_)
     clear hK K
     refine norm_ (a' := ?_) ?_ ?_
     rotate_left
     ·show Act.put _ (some 10) _ = _
      simp only [Act.put, List.setIfInBounds_toArray, List.set_cons_zero, List.set_cons_succ, i64_w, i32_w]
      rfl
     refine ov_ (i := 4) (N := some 32) HT_.out (fun K hK => ?_)
     refine goes_ Try.func41 (by kernel_rfl) rfl #[.agg #[.int .i64 a2_0, .int .i64 a2_1]] (by rfl) rfl rfl (ml_) ?_
     with_reducible refine (laws_toWalker.calls a2_0 a2_1 t521 t522 _ A13.out).mono ?_
     rintro e w33 ⟨rfl, hb⟩
     refine ⟨_, rfl, ?_⟩
     replace HO508 := Aside0.mk (Kd.R_below (kr_ HO508.out) hb)
     replace HO517 := Aside0.mk (Kd.R_below (kr_ HO517.out) hb)
     replace BK501 := Aside0.mk (bb_ BK501.out hb)
     replace BK502 := Aside0.mk (bb_ BK502.out hb)
     replace BK514 := Aside0.mk (bb_ BK514.out hb)
     replace BK526 := Aside0.mk (bb_ BK526.out hb)
     replace HB := Aside0.mk (below_step (hb4_ HB.out GE501.out GE502.out GE514.out GE526.out) hb)
     (try clear hb)
     (try clear hb2)
     (try clear hk)
     (try clear hi)
     refine hK.out _ _ ⟨(blk_cell BK501.out 0).trans rfl, (blk_cell BK501.out 1).trans rfl, (blk_cell BK501.out 2).trans rfl, (blk_cell BK502.out 0).trans rfl, (blk_cell BK502.out 1).trans rfl⟩ (fun hHeld => ?_)
     clear hK K
     refine norm_ (a' := ?_) ?_ ?_
     rotate_left
     ·show Act.put _ (some 32) _ = _
      simp only [Act.put, List.setIfInBounds_toArray, List.set_cons_zero, List.set_cons_succ, i64_w, i32_w]
      rfl
     refine ov_ (i := 5) (N := some 33) HT_.out (fun K hK => ?_)
     refine goes_ Try.func45 (by kernel_rfl) rfl #[.agg #[.int .i64 t518, .int .i64 t519, .int .i64 t520], .slice Ao29 t515.length co29, .agg #[.int .i64 t521, .int .i64 t522]] (by rfl) rfl rfl (ml_) ?_
     with_reducible refine (impl_TremauxStep.calls k t518 t519 t520 _ _ t515 t521 t522 t523 t524 t525 _ ?side1 ?side2 A14.out).mono ?_
     (case side1 => repeat (first | exact (Kd.R_reads' HO517.out).2.2 | (with_reducible refine Kd.C_alloc ?_ _) | (with_reducible refine Kd.C_drewN ?_ _) | (with_reducible refine Kd.C_drew ?_)))
     (case side2 => exact (Kd.R_reads' HO517.out).2.1)
     rintro e w34 ⟨rfl, hb⟩
     refine ⟨_, rfl, ?_⟩
     replace HO508 := Aside0.mk (Kd.R_below (kr_ HO508.out) hb)
     replace HO517 := Aside0.mk (Kd.R_below (kr_ HO517.out) hb)
     replace BK501 := Aside0.mk (bb_ BK501.out hb)
     replace BK502 := Aside0.mk (bb_ BK502.out hb)
     replace BK514 := Aside0.mk (bb_ BK514.out hb)
     replace BK526 := Aside0.mk (bb_ BK526.out hb)
     replace HB := Aside0.mk (below_step (hb4_ HB.out GE501.out GE502.out GE514.out GE526.out) hb)
     (try clear hb)
     (try clear hb2)
     (try clear hk)
     (try clear hi)
     refine hK.out _ _ ⟨(blk_cell BK501.out 0).trans rfl, (blk_cell BK501.out 1).trans rfl, (blk_cell BK501.out 2).trans rfl, (blk_cell BK502.out 0).trans rfl, (blk_cell BK502.out 1).trans rfl⟩ (fun hHeld => ?_)
     clear hK K
     refine norm_ (a' := ?_) ?_ ?_
     rotate_left
     ·show Act.put _ (some 33) _ = _
      simp only [Act.put, List.setIfInBounds_toArray, List.set_cons_zero, List.set_cons_succ, i64_w, i32_w]
      rfl
     refine pv_ (i := 6) (N := some 27) HT_.out ?_
     refine pv_ (i := 7) (N := some 34) HT_.out ?_
     refine pv_ (i := 8) (N := some 35) HT_.out ?_
     exact norm_ (by simp only [putAll, Act.put, List.setIfInBounds_toArray, List.set_cons_zero, List.set_cons_succ]) (hCont (gb526) _ ⟨hHeld, (by (with_reducible repeat (first | apply Kd.R_alloc | apply Kd.R_drewN | apply Kd.R_drew)); exact Kd.R_mono HO508.out (fun _ hk => hk.2)), (by (with_reducible repeat (first | apply Kd.R_alloc | apply Kd.R_drewN | apply Kd.R_drew)); exact Kd.R_mono HO517.out (fun _ hk => hk.2)), (bk_ BK501.out), (bk_ BK502.out), (bk_ BK514.out), (bk_ BK526.out), GW526.out, GE526.out, NB501_526.out, NB526_501.out, NB502_526.out, NB526_502.out, NB514_526.out, NB526_514.out, (hb4_ HB.out GE501.out GE502.out GE514.out GE526.out)⟩)
   ·skip
    refine box_step ?hg (N := 10) ?hd (cs := #[.int .i64 0, .int .i64 0]) (t := 65) ?hr ?_; (case hd => rfl); (case hg => rfl); (case hr => first | (go_simp; done) | (go_simp; rfl))
    intro gb526 hg w31 hbox hb
    have n0_ := Aside0.mk (Kd.R_below (kr_ HO508.out) hb)
    have n1_ := Aside0.mk (Kd.R_below (kr_ HO517.out) hb)
    have n2_ := Aside0.mk (bb_ BK501.out hb)
    have n3_ := Aside0.mk (bb_ BK502.out hb)
    have n4_ := Aside0.mk (bb_ BK514.out hb)
    have n5_ := Aside0.mk (below_step (hb3_ HB.out GE501.out GE502.out GE514.out) hb)
    have n6_ := Aside0.mk (hbox)
    have n7_ := Aside0.mk ((gs_ hg (hb3_ HB.out GE501.out GE502.out GE514.out)))
    have n8_ := Aside0.mk ((gs_ hg (hb3_ HB.out GE501.out GE502.out GE514.out)))
    have n9_ := Aside0.mk (nl_ hg BK501.out)
    have n10_ := Aside0.mk (nr_ hg BK501.out)
    have n11_ := Aside0.mk (nl_ hg BK502.out)
    have n12_ := Aside0.mk (nr_ hg BK502.out)
    have n13_ := Aside0.mk (nl_ hg BK514.out)
    have n14_ := Aside0.mk (nr_ hg BK514.out)
    clear HO508
    clear HO517
    clear BK501
    clear BK502
    clear BK514
    clear HB
    have HO508 := n0_
    have HO517 := n1_
    have BK501 := n2_
    have BK502 := n3_
    have BK514 := n4_
    have HB := n5_
    have BK526 := n6_
    have GW526 := n7_
    have GE526 := n8_
    have NB501_526 := n9_
    have NB526_501 := n10_
    have NB502_526 := n11_
    have NB526_502 := n12_
    have NB514_526 := n13_
    have NB526_514 := n14_
    clear n0_ n1_ n2_ n3_ n4_ n5_ n6_ n7_ n8_ n9_ n10_ n11_ n12_ n13_ n14_
    clear hb hbox hg
    refine hK.out _ _ ⟨(blk_cell BK501.out 0).trans rfl, (blk_cell BK501.out 1).trans rfl, (blk_cell BK501.out 2).trans rfl, (blk_cell BK502.out 0).trans rfl, (blk_cell BK502.out 1).trans rfl⟩ (fun hHeld => ?_)
    clear hK K
    refine norm_ (a' := ?_) ?_ ?_
    rotate_left
    ·show Act.put _ (some 10) _ = _
     simp only [Act.put, List.setIfInBounds_toArray, List.set_cons_zero, List.set_cons_succ, i64_w, i32_w]
     rfl
    refine ov_ (i := 1) (N := some 29) HT_.out (fun K hK => ?_)
    refine goes_ Try.func24 (by kernel_rfl) rfl #[.agg #[.int .i64 a0_0, .int .i64 a0_1, .int .i64 a0_2]] (by rfl) rfl rfl (ml_) ?_
    with_reducible refine (laws_toMaze.calls a0_0 a0_1 a0_2 t518 t519 t520 _ A12.out).mono ?_
    rintro e w32 ⟨rfl, hb⟩
    refine ⟨_, rfl, ?_⟩
    replace HO508 := Aside0.mk (Kd.R_below (kr_ HO508.out) hb)
    replace HO517 := Aside0.mk (Kd.R_below (kr_ HO517.out) hb)
    replace BK501 := Aside0.mk (bb_ BK501.out hb)
    replace BK502 := Aside0.mk (bb_ BK502.out hb)
    replace BK514 := Aside0.mk (bb_ BK514.out hb)
    replace BK526 := Aside0.mk (bb_ BK526.out hb)
    replace HB := Aside0.mk (below_step (hb4_ HB.out GE501.out GE502.out GE514.out GE526.out) hb)
    (try clear hb)
    (try clear hb2)
    (try clear hk)
    (try clear hi)
    refine hK.out _ _ ⟨(blk_cell BK501.out 0).trans rfl, (blk_cell BK501.out 1).trans rfl, (blk_cell BK501.out 2).trans rfl, (blk_cell BK502.out 0).trans rfl, (blk_cell BK502.out 1).trans rfl⟩ (fun hHeld => ?_)
    clear hK K
    refine norm_ (a' := ?_) ?_ ?_
    rotate_left
    ·show Act.put _ (some 29) _ = _
     simp only [Act.put, List.setIfInBounds_toArray, List.set_cons_zero, List.set_cons_succ, i64_w, i32_w]
     rfl
    refine ov_ (i := 4) (N := some 32) HT_.out (fun K hK => ?_)
    refine goes_ Try.func41 (by kernel_rfl) rfl #[.agg #[.int .i64 a2_0, .int .i64 a2_1]] (by rfl) rfl rfl (ml_) ?_
    with_reducible refine (laws_toWalker.calls a2_0 a2_1 t521 t522 _ A13.out).mono ?_
    rintro e w33 ⟨rfl, hb⟩
    refine ⟨_, rfl, ?_⟩
    replace HO508 := Aside0.mk (Kd.R_below (kr_ HO508.out) hb)
    replace HO517 := Aside0.mk (Kd.R_below (kr_ HO517.out) hb)
    replace BK501 := Aside0.mk (bb_ BK501.out hb)
    replace BK502 := Aside0.mk (bb_ BK502.out hb)
    replace BK514 := Aside0.mk (bb_ BK514.out hb)
    replace BK526 := Aside0.mk (bb_ BK526.out hb)
    replace HB := Aside0.mk (below_step (hb4_ HB.out GE501.out GE502.out GE514.out GE526.out) hb)
    (try clear hb)
    (try clear hb2)
    (try clear hk)
    (try clear hi)
    refine hK.out _ _ ⟨(blk_cell BK501.out 0).trans rfl, (blk_cell BK501.out 1).trans rfl, (blk_cell BK501.out 2).trans rfl, (blk_cell BK502.out 0).trans rfl, (blk_cell BK502.out 1).trans rfl⟩ (fun hHeld => ?_)
    clear hK K
    refine norm_ (a' := ?_) ?_ ?_
    rotate_left
    ·show Act.put _ (some 32) _ = _
     simp only [Act.put, List.setIfInBounds_toArray, List.set_cons_zero, List.set_cons_succ, i64_w, i32_w]
     rfl
    refine ov_ (i := 5) (N := some 33) HT_.out (fun K hK => ?_)
    refine goes_ Try.func45 (by kernel_rfl) rfl #[.agg #[.int .i64 t518, .int .i64 t519, .int .i64 t520], .slice Ao29 t515.length co29, .agg #[.int .i64 t521, .int .i64 t522]] (by rfl) rfl rfl (ml_) ?_
    with_reducible refine (impl_TremauxStep.calls k t518 t519 t520 _ _ t515 t521 t522 t523 t524 t525 _ ?side1 ?side2 A14.out).mono ?_
    (case side1 => repeat (first | exact (Kd.R_reads' HO517.out).2.2 | (with_reducible refine Kd.C_alloc ?_ _) | (with_reducible refine Kd.C_drewN ?_ _) | (with_reducible refine Kd.C_drew ?_)))
    (case side2 => exact (Kd.R_reads' HO517.out).2.1)
    rintro e w34 ⟨rfl, hb⟩
    refine ⟨_, rfl, ?_⟩
    replace HO508 := Aside0.mk (Kd.R_below (kr_ HO508.out) hb)
    replace HO517 := Aside0.mk (Kd.R_below (kr_ HO517.out) hb)
    replace BK501 := Aside0.mk (bb_ BK501.out hb)
    replace BK502 := Aside0.mk (bb_ BK502.out hb)
    replace BK514 := Aside0.mk (bb_ BK514.out hb)
    replace BK526 := Aside0.mk (bb_ BK526.out hb)
    replace HB := Aside0.mk (below_step (hb4_ HB.out GE501.out GE502.out GE514.out GE526.out) hb)
    (try clear hb)
    (try clear hb2)
    (try clear hk)
    (try clear hi)
    refine hK.out _ _ ⟨(blk_cell BK501.out 0).trans rfl, (blk_cell BK501.out 1).trans rfl, (blk_cell BK501.out 2).trans rfl, (blk_cell BK502.out 0).trans rfl, (blk_cell BK502.out 1).trans rfl⟩ (fun hHeld => ?_)
    clear hK K
    refine norm_ (a' := ?_) ?_ ?_
    rotate_left
    ·show Act.put _ (some 33) _ = _
     simp only [Act.put, List.setIfInBounds_toArray, List.set_cons_zero, List.set_cons_succ, i64_w, i32_w]
     rfl
    refine pv_ (i := 6) (N := some 27) HT_.out ?_
    refine pv_ (i := 7) (N := some 34) HT_.out ?_
    refine pv_ (i := 8) (N := some 35) HT_.out ?_
    exact norm_ (by simp only [putAll, Act.put, List.setIfInBounds_toArray, List.set_cons_zero, List.set_cons_succ]) (hCont (gb526) _ ⟨hHeld, (by (with_reducible repeat (first | apply Kd.R_alloc | apply Kd.R_drewN | apply Kd.R_drew)); exact Kd.R_mono HO508.out (fun _ hk => hk.2)), (by (with_reducible repeat (first | apply Kd.R_alloc | apply Kd.R_drewN | apply Kd.R_drew)); exact Kd.R_mono HO517.out (fun _ hk => hk.2)), (bk_ BK501.out), (bk_ BK502.out), (bk_ BK514.out), (bk_ BK526.out), GW526.out, GE526.out, NB501_526.out, NB526_501.out, NB502_526.out, NB526_502.out, NB514_526.out, NB526_514.out, (hb4_ HB.out GE501.out GE502.out GE514.out GE526.out)⟩)
  rintro gb526 w35 ⟨hS_, h0_, h1_, h2_, h3_, h4_, h5_, h6_, h7_, h8_, h9_, h10_, h11_, h12_, h13_, h14_⟩
  have n0_ : Aside0 (Kd.R (Kd.int .i64) 3 w35 w.heap.size (fun k_ => some k_ ≠ (.slice Ao29 t515.length co29 : Value).ownBlock) v507 t506) := ⟨h0_⟩
  have n1_ : Aside0 (Kd.R (Kd.int .i64) 3 w35 w.heap.size (fun k_ => some k_ ≠ (v507 : Value).ownBlock) (.slice Ao29 t515.length co29) t515) := ⟨h1_⟩
  have n2_ : Aside0 (w35.heap[gb501]? = some (.cells #[.int .i64 a0_0, .int .i64 a0_1, .int .i64 a0_2] 25 (0, 0))) := ⟨h2_⟩
  have n3_ : Aside0 (w35.heap[gb502]? = some (.cells #[.int .i64 a2_0, .int .i64 a2_1] 63 (0, 0))) := ⟨h3_⟩
  have n4_ : Aside0 (w35.heap[gb514]? = some (.cells #[.int .i64 t511, .int .i64 t512] 65 (0, 0))) := ⟨h4_⟩
  have n5_ : Aside0 (w35.heap[gb526]? = some (.cells #[.int .i64 0, .int .i64 0] 65 (0, 0))) := ⟨h5_⟩
  have n6_ : Aside0 (w.heap.size ≤ gb526) := ⟨h6_⟩
  have n7_ : Aside0 (w.heap.size ≤ gb526) := ⟨h7_⟩
  have n8_ : Aside0 (gb501 ≠ gb526) := ⟨h8_⟩
  have n9_ : Aside0 (gb526 ≠ gb501) := ⟨h9_⟩
  have n10_ : Aside0 (gb502 ≠ gb526) := ⟨h10_⟩
  have n11_ : Aside0 (gb526 ≠ gb502) := ⟨h11_⟩
  have n12_ : Aside0 (gb514 ≠ gb526) := ⟨h12_⟩
  have n13_ : Aside0 (gb526 ≠ gb514) := ⟨h13_⟩
  have n14_ : Aside0 (Below w.heap.size w w35) := ⟨h14_⟩
  clear HO508
  clear HO517
  clear BK501
  clear BK502
  clear BK514
  clear HB
  clear h0_ h1_ h2_ h3_ h4_ h5_ h6_ h7_ h8_ h9_ h10_ h11_ h12_ h13_ h14_
  have HO508 := n0_
  have HO517 := n1_
  have BK501 := n2_
  have BK502 := n3_
  have BK514 := n4_
  have BK526 := n5_
  have GW526 := n6_
  have GE526 := n7_
  have NB501_526 := n8_
  have NB526_501 := n9_
  have NB502_526 := n10_
  have NB526_502 := n11_
  have NB514_526 := n12_
  have NB526_514 := n13_
  have HB := n14_
  clear n0_ n1_ n2_ n3_ n4_ n5_ n6_ n7_ n8_ n9_ n10_ n11_ n12_ n13_ n14_
  have hHeld : w35.cell? ⟨gb501, 0, none⟩ = some (.int .i64 a0_0) ∧ w35.cell? ⟨gb501, 1, none⟩ = some (.int .i64 a0_1) ∧ w35.cell? ⟨gb501, 2, none⟩ = some (.int .i64 a0_2) ∧ w35.cell? ⟨gb502, 0, none⟩ = some (.int .i64 a2_0) ∧ w35.cell? ⟨gb502, 1, none⟩ = some (.int .i64 a2_1) := hS_
  refine norm_ (a' := ?_) ?_ ?_
  rotate_left
  ·simp only [putAll, Act.put, List.setIfInBounds_toArray, List.set_cons_zero, List.set_cons_succ]
   rfl
  refine one_ (i := 10) (N := none) #[true, true, true, true, true, true, true, true, true, true, true, false] rfl rfl (one_of HT_.out (by kernel_rfl)) (by decide) (fun K hK => ?_)
  have hs36 : w35.cell? ⟨gb526, 0, none⟩ = some (.int .i64 0) := (blk_cell BK526.out 0).trans rfl
  have hfs36 := blk_frozen BK526.out 0
  have hns36_0 := NB501_526.out
  have hns36_1 := NB502_526.out
  have hns36_2 := NB514_526.out
  have hms36_0 := NB526_501.out
  have hms36_1 := NB526_502.out
  have hms36_2 := NB526_514.out
  have hs37 : w35.cell? ⟨gb526, 1, none⟩ = some (.int .i64 0) := (blk_cell BK526.out 1).trans rfl
  have hfs37 := blk_frozen BK526.out 1
  have hns37_0 := NB501_526.out
  have hns37_1 := NB502_526.out
  have hns37_2 := NB514_526.out
  have hms37_0 := NB526_501.out
  have hms37_1 := NB526_502.out
  have hms37_2 := NB526_514.out
  refine skip_ (w1 := ?_) (by rfl) rfl ?_ ?_
  rotate_left
  ·go_simp
   rfl
  refine hK.out _ _ ⟨((cell_far (p := ⟨gb526, _, none⟩) NB501_526.out _).trans (((cell_far (p := ⟨gb526, _, none⟩) NB501_526.out _).trans (hHeld.1)))), ((cell_far (p := ⟨gb526, _, none⟩) NB501_526.out _).trans (((cell_far (p := ⟨gb526, _, none⟩) NB501_526.out _).trans (hHeld.2.1)))), ((cell_far (p := ⟨gb526, _, none⟩) NB501_526.out _).trans (((cell_far (p := ⟨gb526, _, none⟩) NB501_526.out _).trans (hHeld.2.2.1)))), ((cell_far (p := ⟨gb526, _, none⟩) NB502_526.out _).trans (((cell_far (p := ⟨gb526, _, none⟩) NB502_526.out _).trans (hHeld.2.2.2.1)))), ((cell_far (p := ⟨gb526, _, none⟩) NB502_526.out _).trans (((cell_far (p := ⟨gb526, _, none⟩) NB502_526.out _).trans (hHeld.2.2.2.2))))⟩ (fun hHeld => ?_)
  clear hK K
  refine pv_ (i := 11) (N := some 11) HT_.out ?_
  refine done_ (done_of HT_.out (by kernel_rfl)) ?_
  go_upto_region 6 with (fail)
  go_cut [44] (fun v44 wc => ∃ (kq : Nat) (x44_14 : Bool), v44 = .bool x44_14 ∧ Aside0 (laws_FnExactTremauxStep.j0 kq l1 t515 x44_14 = some r) ∧ Aside0 (kq ≤ k) ∧ Aside0 (Kd.R (Kd.int .i64) 3 wc w.heap.size (fun _ => True) (.slice Ao29 t515.length co29) t515) ∧ Aside0 (wc.heap[gb501]? = some (.cells #[.int .i64 a0_0, .int .i64 a0_1, .int .i64 a0_2] 25 (0, 0))) ∧ Aside0 (wc.heap[gb502]? = some (.cells #[.int .i64 a2_0, .int .i64 a2_1] 63 (0, 0))) ∧ Aside0 (wc.heap[gb514]? = some (.cells #[.int .i64 t511, .int .i64 t512] 65 (0, 0))) ∧ Aside0 (wc.heap[gb526]? = some (.cells #[.int .i64 t523, .int .i64 t524] 65 (0, 0))) ∧ Aside0 (Below w.heap.size w wc))
  case first =>
   have H := HC15.out
   clear HC15
   replace H := Option.bind_eq_some_iff.mp H
   obtain ⟨t527, A380, H⟩ := H
   replace H : (if t527 = true then (laws_FnExactTremauxStep.j0 k l1 t515 (t525 != t513)) else (laws_FnExactTremauxStep.j0 k l1 t515 true)) = some r := H
   have A38 := Aside0.mk A380
   clear A380
   by_cases c39 : t527 = true
   ·subst c39
    have H1 : (laws_FnExactTremauxStep.j0 k l1 t515 (t525 != t513)) = some r := by rw [if_pos rfl] at H; exact H
    clear H
    have H := H1
    clear H1
    have H' := Aside0.mk H
    clear H
    have hnb40 := NB526_501.out
    have hnc40 := NB501_526.out
    have hnb41 := NB526_502.out
    have hnc41 := NB502_526.out
    have hnb42 := NB526_514.out
    have hnc42 := NB514_526.out
    obtain ⟨hcz43_0, hcz43_1⟩ := cz2_ BK526.out
    obtain ⟨hfz43_0, hfz43_1⟩ := fz2_ BK526.out
    have hnb44 := NB514_501.out
    have hnc44 := NB501_514.out
    have hnb45 := NB514_502.out
    have hnc45 := NB502_514.out
    obtain ⟨hcz46_0, hcz46_1⟩ := cz2_ BK514.out
    obtain ⟨hfz46_0, hfz46_1⟩ := fz2_ BK514.out
    go_wp2_with (first | ((with_reducible refine gate_callee (f := 46) rfl ?_); refine goesL_ (some 38) rfl rfl Try.func46 (by kernel_rfl) rfl #[.agg #[.int .i64 t523, .int .i64 t524], .agg #[.int .i64 t511, .int .i64 t512]] rfl (ml_) ?_; (with_reducible refine (laws_eqWalker.calls t523 t524 t511 t512 true _ A38.out).mono ?_); rintro e w47 ⟨rfl, hb⟩; refine ⟨_, rfl, ?_⟩; replace HO508 := Aside0.mk (Kd.R_below (by (with_reducible repeat (first | apply Kd.R_alloc | apply Kd.R_drewN | apply Kd.R_drew)); exact (Kd.R_mono (Kd.R_far (p := ⟨gb526, 1, none⟩) (Kd.R_far (p := ⟨gb526, 0, none⟩) (Kd.R_types HO508.out BK526.out (by decide)) (fun _ hk => hk.2) (.int .i64 t523)) (fun _ hk => hk.2) (.int .i64 t524)) (fun _ h_ => h_.1))) hb); replace HO517 := Aside0.mk (Kd.R_below (by (with_reducible repeat (first | apply Kd.R_alloc | apply Kd.R_drewN | apply Kd.R_drew)); exact (Kd.R_mono (Kd.R_far (p := ⟨gb526, 1, none⟩) (Kd.R_far (p := ⟨gb526, 0, none⟩) (Kd.R_types HO517.out BK526.out (by decide)) (fun _ hk => hk.2) (.int .i64 t523)) (fun _ hk => hk.2) (.int .i64 t524)) (fun _ h_ => h_.1))) hb); replace BK501 := Aside0.mk (blk_below (g := gb501) (o := .cells #[.int .i64 a0_0, .int .i64 a0_1, .int .i64 a0_2] 25 (0, 0)) (by (with_reducible repeat (first | refine blk_drewN ?_ _ | refine blk_drew ?_ | refine blk_alloc ?_ _)); refine blk_far ?_ NB501_526.out _; (with_reducible repeat (first | refine blk_drewN ?_ _ | refine blk_drew ?_ | refine blk_alloc ?_ _)); refine blk_far ?_ NB501_526.out _; (with_reducible repeat (first | refine blk_drewN ?_ _ | refine blk_drew ?_ | refine blk_alloc ?_ _)); exact BK501.out) hb); replace BK502 := Aside0.mk (blk_below (g := gb502) (o := .cells #[.int .i64 a2_0, .int .i64 a2_1] 63 (0, 0)) (by (with_reducible repeat (first | refine blk_drewN ?_ _ | refine blk_drew ?_ | refine blk_alloc ?_ _)); refine blk_far ?_ NB502_526.out _; (with_reducible repeat (first | refine blk_drewN ?_ _ | refine blk_drew ?_ | refine blk_alloc ?_ _)); refine blk_far ?_ NB502_526.out _; (with_reducible repeat (first | refine blk_drewN ?_ _ | refine blk_drew ?_ | refine blk_alloc ?_ _)); exact BK502.out) hb); replace BK514 := Aside0.mk (blk_below (g := gb514) (o := .cells #[.int .i64 t511, .int .i64 t512] 65 (0, 0)) (by (with_reducible repeat (first | refine blk_drewN ?_ _ | refine blk_drew ?_ | refine blk_alloc ?_ _)); refine blk_far ?_ NB514_526.out _; (with_reducible repeat (first | refine blk_drewN ?_ _ | refine blk_drew ?_ | refine blk_alloc ?_ _)); refine blk_far ?_ NB514_526.out _; (with_reducible repeat (first | refine blk_drewN ?_ _ | refine blk_drew ?_ | refine blk_alloc ?_ _)); exact BK514.out) hb); replace BK526 := Aside0.mk (blk_below (g := gb526) (o := .cells #[.int .i64 t523, .int .i64 t524] 65 (0, 0)) (by (with_reducible repeat (first | refine blk_drewN ?_ _ | refine blk_drew ?_ | refine blk_alloc ?_ _)); refine blk_put (cs := #[.int .i64 t523, .int .i64 0]) ?_ 1 _ rfl; (with_reducible repeat (first | refine blk_drewN ?_ _ | refine blk_drew ?_ | refine blk_alloc ?_ _)); refine blk_put (cs := #[.int .i64 0, .int .i64 0]) ?_ 0 _ rfl; (with_reducible repeat (first | refine blk_drewN ?_ _ | refine blk_drew ?_ | refine blk_alloc ?_ _)); exact BK526.out) hb); replace HB := Aside0.mk (below_step (hb4_ HB.out GE501.out GE502.out GE514.out GE526.out) hb); (try clear hb); (try clear hb2); (try clear hk); (try clear hi)))
    go_meet
    case rel => exact ⟨_, ((t525 != t513)), (by first | rfl | (simp; done) | (simp [*]; done)), H', ⟨by first | omega | exact Nat.le_refl _⟩, ⟨by (with_reducible repeat (first | apply Kd.R_alloc | apply Kd.R_drewN | apply Kd.R_drew)); exact Kd.R_mono HO517.out (fun _ hk => trivial)⟩, ⟨bk_ BK501.out⟩, ⟨bk_ BK502.out⟩, ⟨bk_ BK514.out⟩, ⟨bk_ BK526.out⟩, ⟨hb4_ HB.out GE501.out GE502.out GE514.out GE526.out⟩⟩
   ·replace c39 := Bool.eq_false_iff.mpr c39
    subst c39
    have H1 : (laws_FnExactTremauxStep.j0 k l1 t515 true) = some r := by rw [if_neg (show ¬ (false = true) by decide)] at H; exact H
    clear H
    have H := H1
    clear H1
    have H' := Aside0.mk H
    clear H
    have hnb48 := NB526_501.out
    have hnc48 := NB501_526.out
    have hnb49 := NB526_502.out
    have hnc49 := NB502_526.out
    have hnb50 := NB526_514.out
    have hnc50 := NB514_526.out
    obtain ⟨hcz51_0, hcz51_1⟩ := cz2_ BK526.out
    obtain ⟨hfz51_0, hfz51_1⟩ := fz2_ BK526.out
    have hnb52 := NB514_501.out
    have hnc52 := NB501_514.out
    have hnb53 := NB514_502.out
    have hnc53 := NB502_514.out
    obtain ⟨hcz54_0, hcz54_1⟩ := cz2_ BK514.out
    obtain ⟨hfz54_0, hfz54_1⟩ := fz2_ BK514.out
    go_wp2_with (first | ((with_reducible refine gate_callee (f := 46) rfl ?_); refine goesL_ (some 38) rfl rfl Try.func46 (by kernel_rfl) rfl #[.agg #[.int .i64 t523, .int .i64 t524], .agg #[.int .i64 t511, .int .i64 t512]] rfl (ml_) ?_; (with_reducible refine (laws_eqWalker.calls t523 t524 t511 t512 false _ A38.out).mono ?_); rintro e w55 ⟨rfl, hb⟩; refine ⟨_, rfl, ?_⟩; replace HO508 := Aside0.mk (Kd.R_below (by (with_reducible repeat (first | apply Kd.R_alloc | apply Kd.R_drewN | apply Kd.R_drew)); exact (Kd.R_mono (Kd.R_far (p := ⟨gb526, 1, none⟩) (Kd.R_far (p := ⟨gb526, 0, none⟩) (Kd.R_types HO508.out BK526.out (by decide)) (fun _ hk => hk.2) (.int .i64 t523)) (fun _ hk => hk.2) (.int .i64 t524)) (fun _ h_ => h_.1))) hb); replace HO517 := Aside0.mk (Kd.R_below (by (with_reducible repeat (first | apply Kd.R_alloc | apply Kd.R_drewN | apply Kd.R_drew)); exact (Kd.R_mono (Kd.R_far (p := ⟨gb526, 1, none⟩) (Kd.R_far (p := ⟨gb526, 0, none⟩) (Kd.R_types HO517.out BK526.out (by decide)) (fun _ hk => hk.2) (.int .i64 t523)) (fun _ hk => hk.2) (.int .i64 t524)) (fun _ h_ => h_.1))) hb); replace BK501 := Aside0.mk (blk_below (g := gb501) (o := .cells #[.int .i64 a0_0, .int .i64 a0_1, .int .i64 a0_2] 25 (0, 0)) (by (with_reducible repeat (first | refine blk_drewN ?_ _ | refine blk_drew ?_ | refine blk_alloc ?_ _)); refine blk_far ?_ NB501_526.out _; (with_reducible repeat (first | refine blk_drewN ?_ _ | refine blk_drew ?_ | refine blk_alloc ?_ _)); refine blk_far ?_ NB501_526.out _; (with_reducible repeat (first | refine blk_drewN ?_ _ | refine blk_drew ?_ | refine blk_alloc ?_ _)); exact BK501.out) hb); replace BK502 := Aside0.mk (blk_below (g := gb502) (o := .cells #[.int .i64 a2_0, .int .i64 a2_1] 63 (0, 0)) (by (with_reducible repeat (first | refine blk_drewN ?_ _ | refine blk_drew ?_ | refine blk_alloc ?_ _)); refine blk_far ?_ NB502_526.out _; (with_reducible repeat (first | refine blk_drewN ?_ _ | refine blk_drew ?_ | refine blk_alloc ?_ _)); refine blk_far ?_ NB502_526.out _; (with_reducible repeat (first | refine blk_drewN ?_ _ | refine blk_drew ?_ | refine blk_alloc ?_ _)); exact BK502.out) hb); replace BK514 := Aside0.mk (blk_below (g := gb514) (o := .cells #[.int .i64 t511, .int .i64 t512] 65 (0, 0)) (by (with_reducible repeat (first | refine blk_drewN ?_ _ | refine blk_drew ?_ | refine blk_alloc ?_ _)); refine blk_far ?_ NB514_526.out _; (with_reducible repeat (first | refine blk_drewN ?_ _ | refine blk_drew ?_ | refine blk_alloc ?_ _)); refine blk_far ?_ NB514_526.out _; (with_reducible repeat (first | refine blk_drewN ?_ _ | refine blk_drew ?_ | refine blk_alloc ?_ _)); exact BK514.out) hb); replace BK526 := Aside0.mk (blk_below (g := gb526) (o := .cells #[.int .i64 t523, .int .i64 t524] 65 (0, 0)) (by (with_reducible repeat (first | refine blk_drewN ?_ _ | refine blk_drew ?_ | refine blk_alloc ?_ _)); refine blk_put (cs := #[.int .i64 t523, .int .i64 0]) ?_ 1 _ rfl; (with_reducible repeat (first | refine blk_drewN ?_ _ | refine blk_drew ?_ | refine blk_alloc ?_ _)); refine blk_put (cs := #[.int .i64 0, .int .i64 0]) ?_ 0 _ rfl; (with_reducible repeat (first | refine blk_drewN ?_ _ | refine blk_drew ?_ | refine blk_alloc ?_ _)); exact BK526.out) hb); replace HB := Aside0.mk (below_step (hb4_ HB.out GE501.out GE502.out GE514.out GE526.out) hb); (try clear hb); (try clear hb2); (try clear hk); (try clear hi)))
    go_meet
    case rel => exact ⟨_, (true), (by first | rfl | (simp; done) | (simp [*]; done)), H', ⟨by first | omega | exact Nat.le_refl _⟩, ⟨by (with_reducible repeat (first | apply Kd.R_alloc | apply Kd.R_drewN | apply Kd.R_drew)); exact Kd.R_mono HO517.out (fun _ hk => trivial)⟩, ⟨bk_ BK501.out⟩, ⟨bk_ BK502.out⟩, ⟨bk_ BK514.out⟩, ⟨bk_ BK526.out⟩, ⟨hb4_ HB.out GE501.out GE502.out GE514.out GE526.out⟩⟩
  case rest =>
   clear HC15
   try clear c2
   try clear p2
   try clear c3
   try clear c4
   try clear c5
   try clear c24
   try clear c39
   try clear c40
   try clear c41
   try clear c42
   try clear c44
   try clear c45
   try clear c46
   try clear c48
   try clear c49
   try clear c50
   try clear c52
   try clear c53
   try clear hcz43_0
   try clear hcz43_1
   try clear hcz46_0
   try clear hcz46_1
   try clear hcz51_0
   try clear hcz51_1
   try clear hcz54_0
   try clear hcz54_1
   try clear hfz43_0
   try clear hfz43_1
   try clear hfz46_0
   try clear hfz46_1
   try clear hfz51_0
   try clear hfz51_1
   try clear hfz54_0
   try clear hfz54_1
   obtain ⟨kq, x44_14, rfl, HA, HJ14, HO_9, BK501, BK502, BK514, BK526, HB⟩ := hcut
   cases kq with
   | zero => exact absurd HA.out (by simp [laws_FnExactTremauxStep.j0])
   | succ kj14 =>
    have H := HA.out
    clear HA
    simp only [laws_FnExactTremauxStep.j0] at H
    by_cases c56 : x44_14 = true
    ·subst c56
     have H1 : (some false) = some r := by rw [if_pos rfl] at H; exact H
     clear H
     have H := H1
     clear H1
     obtain rfl := Option.some.inj H
     go_wp2
     go_ret
     exact ⟨by first | rfl | (simp [errW_none, errW_some] <;> rfl) | (simp [*, errW_none, errW_some] <;> rfl), hb4_ HB.out GE501.out GE502.out GE514.out GE526.out⟩
    ·replace c56 := Bool.eq_false_iff.mpr c56
     subst c56
     have H1 : ((laws_toIntS.f kj14 l1).bind fun t528 => ((laws_eqIntS.f kj14 t515 t528).bind fun t531 => (if t531 = true then (some true) else (some false)))) = some r := by rw [if_neg (show ¬ (false = true) by decide)] at H; exact H
     clear H
     have H := H1
     clear H1
     replace H := Option.bind_eq_some_iff.mp H
     obtain ⟨t528, A570, H⟩ := H
     replace H : ((laws_eqIntS.f kj14 t515 t528).bind fun t531 => (if t531 = true then (some true) else (some false))) = some r := H
     have A57 := Aside0.mk A570
     clear A570
     replace H := Option.bind_eq_some_iff.mp H
     obtain ⟨t531, A580, H⟩ := H
     replace H : (if t531 = true then (some true) else (some false)) = some r := H
     have A58 := Aside0.mk A580
     clear A580
     by_cases c59 : t531 = true
     ·subst c59
      have H1 : (some true) = some r := by rw [if_pos rfl] at H; exact H
      clear H
      have H := H1
      clear H1
      obtain rfl := Option.some.inj H
      go_wp2_with (first | ((with_reducible refine gate_callee (f := 42) rfl ?_); refine goesL_ (some 47) rfl rfl Try.func42 (by kernel_rfl) rfl #[.slice A1 l1.length c1] rfl (ml_) ?_; (with_reducible refine (laws_toIntS.calls kj14 _ _ l1 t528 _ ?side1 ?side2 A57.out).mono ?_); (case side1 => repeat (first | exact (Kd.C_below HR1.out HB.out) | (with_reducible refine Kd.C_alloc ?_ _) | (with_reducible refine Kd.C_drewN ?_ _) | (with_reducible refine Kd.C_drew ?_))); (case side2 => exact HC1.out); rintro e w60 ⟨v529, rfl, ho0, hb⟩; refine ⟨_, rfl, ?_⟩; have n0_ := Aside0.mk (Kd.R_elder' (kr_ HO_9.out) (Kd.R_base ho0) hb); have n1_ := Aside0.mk (Kd.R_lower (Kd.R_new' ho0 (Kd.R_lt (kr_ HO_9.out))) (below_size (hb4_ HB.out GE501.out GE502.out GE514.out GE526.out))); have n2_ := Aside0.mk (bb_ BK501.out hb); have n3_ := Aside0.mk (bb_ BK502.out hb); have n4_ := Aside0.mk (bb_ BK514.out hb); have n5_ := Aside0.mk (bb_ BK526.out hb); have n6_ := Aside0.mk (below_step (hb4_ HB.out GE501.out GE502.out GE514.out GE526.out) hb); clear HO_9; clear BK501; clear BK502; clear BK514; clear BK526; clear HB; have HO_9 := n0_; have HO530 := n1_; have BK501 := n2_; have BK502 := n3_; have BK514 := n4_; have BK526 := n5_; have HB := n6_; clear n0_ n1_ n2_ n3_ n4_ n5_ n6_; (try clear hb); (try clear hb2); (try clear hk); (try clear hi); (try clear ho0); obtain ⟨Ao61, co61, eo61⟩ := Kd.R_slice HO530.out; subst eo61) | ((with_reducible refine gate_callee (f := 26) rfl ?_); refine goesL_ (some 48) rfl rfl Try.func26 (by kernel_rfl) rfl #[.slice Ao29 t515.length co29, .slice Ao61 t528.length co61] rfl (ml_) ?_; (with_reducible refine (laws_eqIntS.calls kj14 _ _ t515 _ _ t528 true _ ?side1 ?side2 ?side3 ?side4 A58.out).mono ?_); (case side1 => repeat (first | exact (Kd.R_reads' HO_9.out).2.2 | (with_reducible refine Kd.C_alloc ?_ _) | (with_reducible refine Kd.C_drewN ?_ _) | (with_reducible refine Kd.C_drew ?_))); (case side2 => exact (Kd.R_reads' HO_9.out).2.1); (case side3 => repeat (first | exact (Kd.R_reads' HO530.out).2.2 | (with_reducible refine Kd.C_alloc ?_ _) | (with_reducible refine Kd.C_drewN ?_ _) | (with_reducible refine Kd.C_drew ?_))); (case side4 => exact (Kd.R_reads' HO530.out).2.1); rintro e w' ⟨rfl, ⟨nd, rfl⟩⟩; refine ⟨_, rfl, ?_⟩))
      go_ret
      exact ⟨by first | rfl | (simp [errW_none, errW_some] <;> rfl) | (simp [*, errW_none, errW_some] <;> rfl), hb4_ HB.out GE501.out GE502.out GE514.out GE526.out⟩
     ·replace c59 := Bool.eq_false_iff.mpr c59
      subst c59
      have H1 : (some false) = some r := by rw [if_neg (show ¬ (false = true) by decide)] at H; exact H
      clear H
      have H := H1
      clear H1
      obtain rfl := Option.some.inj H
      go_wp2_with (first | ((with_reducible refine gate_callee (f := 42) rfl ?_); refine goesL_ (some 47) rfl rfl Try.func42 (by kernel_rfl) rfl #[.slice A1 l1.length c1] rfl (ml_) ?_; (with_reducible refine (laws_toIntS.calls kj14 _ _ l1 t528 _ ?side1 ?side2 A57.out).mono ?_); (case side1 => repeat (first | exact (Kd.C_below HR1.out HB.out) | (with_reducible refine Kd.C_alloc ?_ _) | (with_reducible refine Kd.C_drewN ?_ _) | (with_reducible refine Kd.C_drew ?_))); (case side2 => exact HC1.out); rintro e w62 ⟨v529, rfl, ho0, hb⟩; refine ⟨_, rfl, ?_⟩; have n0_ := Aside0.mk (Kd.R_elder' (kr_ HO_9.out) (Kd.R_base ho0) hb); have n1_ := Aside0.mk (Kd.R_lower (Kd.R_new' ho0 (Kd.R_lt (kr_ HO_9.out))) (below_size (hb4_ HB.out GE501.out GE502.out GE514.out GE526.out))); have n2_ := Aside0.mk (bb_ BK501.out hb); have n3_ := Aside0.mk (bb_ BK502.out hb); have n4_ := Aside0.mk (bb_ BK514.out hb); have n5_ := Aside0.mk (bb_ BK526.out hb); have n6_ := Aside0.mk (below_step (hb4_ HB.out GE501.out GE502.out GE514.out GE526.out) hb); clear HO_9; clear BK501; clear BK502; clear BK514; clear BK526; clear HB; have HO_9 := n0_; have HO530 := n1_; have BK501 := n2_; have BK502 := n3_; have BK514 := n4_; have BK526 := n5_; have HB := n6_; clear n0_ n1_ n2_ n3_ n4_ n5_ n6_; (try clear hb); (try clear hb2); (try clear hk); (try clear hi); (try clear ho0); obtain ⟨Ao63, co63, eo63⟩ := Kd.R_slice HO530.out; subst eo63) | ((with_reducible refine gate_callee (f := 26) rfl ?_); refine goesL_ (some 48) rfl rfl Try.func26 (by kernel_rfl) rfl #[.slice Ao29 t515.length co29, .slice Ao63 t528.length co63] rfl (ml_) ?_; (with_reducible refine (laws_eqIntS.calls kj14 _ _ t515 _ _ t528 false _ ?side1 ?side2 ?side3 ?side4 A58.out).mono ?_); (case side1 => repeat (first | exact (Kd.R_reads' HO_9.out).2.2 | (with_reducible refine Kd.C_alloc ?_ _) | (with_reducible refine Kd.C_drewN ?_ _) | (with_reducible refine Kd.C_drew ?_))); (case side2 => exact (Kd.R_reads' HO_9.out).2.1); (case side3 => repeat (first | exact (Kd.R_reads' HO530.out).2.2 | (with_reducible refine Kd.C_alloc ?_ _) | (with_reducible refine Kd.C_drewN ?_ _) | (with_reducible refine Kd.C_drew ?_))); (case side4 => exact (Kd.R_reads' HO530.out).2.1); rintro e w' ⟨rfl, ⟨nd, rfl⟩⟩; refine ⟨_, rfl, ?_⟩))
      go_ret
      exact ⟨by first | rfl | (simp [errW_none, errW_some] <;> rfl) | (simp [*, errW_none, errW_some] <;> rfl), hb4_ HB.out GE501.out GE502.out GE514.out GE526.out⟩

/-- THE ONE PURE STATEMENT of laws_FnExactTremauxStep: yours. -/
def laws_FnExactTremauxStep.Pure : Prop := ∀ (a0_0 : Int) (a0_1 : Int) (a0_2 : Int) (l1 : List Int) (a2_0 : Int) (a2_1 : Int), (Lit.int .i64 a0_0).wf = true → (Lit.int .i64 a0_1).wf = true → (Lit.int .i64 a0_2).wf = true → l1.length ≤ maxLen → l1.length * 8 ≤ 140737488351232 → (∀ x ∈ l1, (Lit.int .i64 x).wf = true) → (Lit.int .i64 a2_0).wf = true → (Lit.int .i64 a2_1).wf = true → ∃ k, laws_FnExactTremauxStep.f k a0_0 a0_1 a0_2 l1 a2_0 a2_1 = some true
theorem laws_FnExactTremauxStep.walk (P : laws_FnExactTremauxStep.Pure) (a0_0 : Int) (a0_1 : Int) (a0_2 : Int) (a1 : Option Addr) (len1 cap1 : Nat) (z1 : List Int) (a2_0 : Int) (a2_1 : Int) (w : World) (w0_0 : (Lit.int .i64 a0_0).wf = true) (w0_1 : (Lit.int .i64 a0_1).wf = true) (w0_2 : (Lit.int .i64 a0_2).wf = true) (w1 : (a1 = none ∧ len1 = 0 ∧ cap1 = 0 ∧ z1 = []) ∨ ∃ x, a1 = some x ∧ len1 ≤ cap1 ∧ cap1 ≤ maxLen ∧ z1.length = cap1 ∧ (∀ i, i < z1.length → w.cell? (x.add i) = some (.int .i64 (z1.getD i 0))) ∧ ∀ n ∈ z1, (Lit.int .i64 n).wf = true) (y1 : len1 * 8 ≤ 140737488351232) (w2_0 : (Lit.int .i64 a2_0).wf = true) (w2_1 : (Lit.int .i64 a2_1).wf = true) :
  Calls Try.prog 10 #[.agg #[.int .i64 a0_0, .int .i64 a0_1, .int .i64 a0_2], .slice a1 len1 cap1, .agg #[.int .i64 a2_0, .int .i64 a2_1]] w fun e w' => e = .returned (.bool true) ∧ Below w.heap.size w w' := by
 obtain ⟨l1, rfl, hr1, hm1, hw1, hc1⟩ := ReadsInt.ofRowC w1
 obtain ⟨k, h⟩ := P a0_0 a0_1 a0_2 l1 a2_0 a2_1 w0_0 w0_1 w0_2 hm1 y1 hw1 w2_0 w2_1
 refine (laws_FnExactTremauxStep.calls k a0_0 a0_1 a0_2 _ _ l1 a2_0 a2_1 true w (Kd.C_of_reads (d := (0 : Int)) (h1 := fun _ => rfl) hr1) hc1 h).mono ?_
 rintro e w' ⟨rfl, hd⟩
 exact ⟨rfl, hd⟩

end Go.Proofs.Ytekgbinadmjapaa.X
