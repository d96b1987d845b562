-- Written by a program of this session (xprint.py), out of the translation and of hand-written contracts. Lean checks it.
import Derived.Test.YtekgbinadmjapabX0
import Derived.Test.YtekgbinadmjapabXimplCircuitsOk
import Derived.Test.YtekgbinadmjapabXimplIsLabyrinth
import Derived.Test.YtekgbinadmjapabXimplStepPairs
import Derived.Test.YtekgbinadmjapabXimplTurnInside
import Derived.Test.YtekgbinadmjapabXlawsat
import Derived.Test.YtekgbinadmjapabXlawsbig
import Derived.Test.YtekgbinadmjapabXlawssameInts
import Derived.Test.YtekgbinadmjapabXspecDrawCircuits
namespace Go.Proofs.Ytekgbinadmjapab.X
open Go.RowKit Go.Proofs.YtekgbinadmjapabW.PrintWords Go.Proofs.YtekgbinadmjapabW.PrintLast Go.Proofs.YtekgbinadmjapabW.PrintMore
attribute [local go_sem] max2_int min2_int max_two min_two max_three min_three max_four min_four   -- for this text's walks alone
set_option linter.unusedVariables false
set_option linter.unusedSimpArgs false

/-! ### laws_FnLabyrinths: function 3 -/
mutual
def laws_FnLabyrinths.j1 : Nat → List Int → List Int → Int → List Int → List Int → Option (Bool)
 | 0, _, _, _, _, _ => none
 | k + 1, x3, x4, x5, x6, x7 => (impl_CircuitsOk.f k x4).bind fun t521 => (if t521 = true then ((impl_TurnInside.f k x4).bind fun t522 => ((laws_sameInts.f k t522 x3).bind fun t525 => (if t525 = true then ((impl_IsLabyrinth.f k x4).bind fun t526 => ((impl_IsLabyrinth.f k x3).bind fun t527 => (if (t526 == t527) = true then (if x5 = 5 then ((impl_StepPairs.f k x3 0).bind fun t528 => ((impl_StepPairs.f k x3 1).bind fun t531 => (some ((wrap64 ((t528.length : Int) + (t531.length : Int))) == (wrap64 ((x3.length : Int) + 1)))))) else ((impl_IsLabyrinth.f k x6).bind fun t534 => (if t534 = true then ((impl_IsLabyrinth.f k x7).bind fun t535 => (if t535 = true then ((impl_StepPairs.f k x3 0).bind fun t536 => ((impl_StepPairs.f k x3 1).bind fun t539 => (some ((wrap64 ((t536.length : Int) + (t539.length : Int))) == (wrap64 ((x3.length : Int) + 1)))))) else (some false))) else (some false)))) else (some false)))) else (some false)))) else (some false))
def laws_FnLabyrinths.l0 : Nat → List Int → List Int → Int → List Int → List Int → Int → Option (Bool)
 | 0, _, _, _, _, _, _ => none
 | k + 1, x3, x4, x5, x6, x7, x8 => if x8 ≤ (wrap64 ((wrap64 (2 * x5)) + 1)) then (if x5 < 5 then (if x6.length < 17592186044416 then (if x7.length < 17592186044416 then (laws_FnLabyrinths.l0 k x3 x4 x5 (x6 ++ [x8]) (x7 ++ [wrap64 ((wrap64 ((wrap64 (2 * x5)) + 2)) - x8)]) (wrap64 (x8 + 1))) else (none)) else (none)) else (laws_FnLabyrinths.j1 k x3 x4 x5 x6 x7)) else (laws_FnLabyrinths.j1 k x3 x4 x5 x6 x7)
end
def laws_FnLabyrinths.f (k : Nat) (l0 : List Int) : Option (Bool) := (laws_big.f l0).bind fun t501 => (if t501 = true then (some true) else ((spec_DrawCircuits.f k l0).bind fun t502 => ((impl_TurnInside.f k t502).bind fun t505 => ((laws_at.f l0 0).bind fun t508 => (laws_FnLabyrinths.l0 k t502 t505 (Int.tmod t508 6) (([] : List Int)) (([] : List Int)) 1)))))
theorem laws_FnLabyrinths.mono_l : ∀ k, (∀ y0 y1 y2 y3 y4, LeO (laws_FnLabyrinths.j1 k y0 y1 y2 y3 y4) (laws_FnLabyrinths.j1 (k + 1) y0 y1 y2 y3 y4)) ∧ (∀ y0 y1 y2 y3 y4 y5, LeO (laws_FnLabyrinths.l0 k y0 y1 y2 y3 y4 y5) (laws_FnLabyrinths.l0 (k + 1) y0 y1 y2 y3 y4 y5))
 | 0 => ⟨fun _ _ _ _ _ r h => by simp [laws_FnLabyrinths.j1] at h, fun _ _ _ _ _ _ r h => by simp [laws_FnLabyrinths.l0] at h⟩
 | k + 1 => by
  obtain ⟨ih0, ih1⟩ := laws_FnLabyrinths.mono_l k
  refine ⟨?_, ?_⟩
  ·intro y0 y1 y2 y3 y4
   unfold laws_FnLabyrinths.j1
   repeat' first
   | (with_reducible exact ih0 _ _ _ _ _)
   | (with_reducible exact ih1 _ _ _ _ _ _)
   | (with_reducible exact impl_CircuitsOk.mono _ _)
   | (with_reducible exact impl_IsLabyrinth.mono _ _)
   | (with_reducible exact impl_StepPairs.mono _ _ _)
   | (with_reducible exact impl_TurnInside.mono _ _)
   | (with_reducible exact laws_sameInts.mono _ _ _)
   | (with_reducible exact spec_DrawCircuits.mono _ _)
   | (with_reducible exact LeO.refl _)
   | (with_reducible exact LeO.none _)
   | (with_reducible refine LeO.ite ?_ ?_)
   | (with_reducible refine LeO.bind ?_ (fun _ => ?_))
   | exact ih0 _ _ _ _ _
   | exact ih1 _ _ _ _ _ _
   | exact impl_CircuitsOk.mono _ _
   | exact impl_IsLabyrinth.mono _ _
   | exact impl_StepPairs.mono _ _ _
   | exact impl_TurnInside.mono _ _
   | exact laws_sameInts.mono _ _ _
   | exact spec_DrawCircuits.mono _ _
   | exact LeO.none _
   | refine LeO.ite ?_ ?_
   | refine LeO.bind ?_ (fun _ => ?_)
  ·intro y0 y1 y2 y3 y4 y5
   unfold laws_FnLabyrinths.l0
   repeat' first
   | (with_reducible exact ih0 _ _ _ _ _)
   | (with_reducible exact ih1 _ _ _ _ _ _)
   | (with_reducible exact impl_CircuitsOk.mono _ _)
   | (with_reducible exact impl_IsLabyrinth.mono _ _)
   | (with_reducible exact impl_StepPairs.mono _ _ _)
   | (with_reducible exact impl_TurnInside.mono _ _)
   | (with_reducible exact laws_sameInts.mono _ _ _)
   | (with_reducible exact spec_DrawCircuits.mono _ _)
   | (with_reducible exact LeO.refl _)
   | (with_reducible exact LeO.none _)
   | (with_reducible refine LeO.ite ?_ ?_)
   | (with_reducible refine LeO.bind ?_ (fun _ => ?_))
   | exact ih0 _ _ _ _ _
   | exact ih1 _ _ _ _ _ _
   | exact impl_CircuitsOk.mono _ _
   | exact impl_IsLabyrinth.mono _ _
   | exact impl_StepPairs.mono _ _ _
   | exact impl_TurnInside.mono _ _
   | exact laws_sameInts.mono _ _ _
   | exact spec_DrawCircuits.mono _ _
   | exact LeO.none _
   | refine LeO.ite ?_ ?_
   | refine LeO.bind ?_ (fun _ => ?_)
theorem laws_FnLabyrinths.mono : ∀ a0 k, LeO (laws_FnLabyrinths.f k a0) (laws_FnLabyrinths.f (k + 1) a0) := by
 intro a0 k
 obtain ⟨ih0, ih1⟩ := laws_FnLabyrinths.mono_l k
 unfold laws_FnLabyrinths.f
 repeat' first
   | (with_reducible exact ih0 _ _ _ _ _)
   | (with_reducible exact ih1 _ _ _ _ _ _)
   | (with_reducible exact impl_CircuitsOk.mono _ _)
   | (with_reducible exact impl_IsLabyrinth.mono _ _)
   | (with_reducible exact impl_StepPairs.mono _ _ _)
   | (with_reducible exact impl_TurnInside.mono _ _)
   | (with_reducible exact laws_sameInts.mono _ _ _)
   | (with_reducible exact spec_DrawCircuits.mono _ _)
   | (with_reducible exact LeO.refl _)
   | (with_reducible exact LeO.none _)
   | (with_reducible refine LeO.ite ?_ ?_)
   | (with_reducible refine LeO.bind ?_ (fun _ => ?_))
   | exact ih0 _ _ _ _ _
   | exact ih1 _ _ _ _ _ _
   | exact impl_CircuitsOk.mono _ _
   | exact impl_IsLabyrinth.mono _ _
   | exact impl_StepPairs.mono _ _ _
   | exact impl_TurnInside.mono _ _
   | exact laws_sameInts.mono _ _ _
   | exact spec_DrawCircuits.mono _ _
   | exact LeO.none _
   | refine LeO.ite ?_ ?_
   | refine LeO.bind ?_ (fun _ => ?_)
set_option maxHeartbeats 8000000 in
set_option maxRecDepth 100000 in
theorem laws_FnLabyrinths.calls (k : Nat) (A0 : Option Addr) (c0 : Nat) (l0 : List Int) (r : Bool) (w : World) (hr0 : Kd.C (Kd.int .u8) w A0 l0.length l0) (hc0 : l0.length ≤ c0) (h : laws_FnLabyrinths.f k l0 = some r) :
  Calls Try.prog 3 #[.slice A0 l0.length c0] w fun e w' => e = .returned (.bool r) ∧ Below w.heap.size w w' := by
 have HR0 := Aside0.mk hr0
 have HC0 := Aside0.mk hc0
 clear hr0 hc0
 have HB := Aside0.mk (Below.refl w.heap.size w)
 have H : ((laws_big.f l0).bind fun t501 => (if t501 = true then (some true) else ((spec_DrawCircuits.f k l0).bind fun t502 => ((impl_TurnInside.f k t502).bind fun t505 => ((laws_at.f l0 0).bind fun t508 => (laws_FnLabyrinths.l0 k t502 t505 (Int.tmod t508 6) (([] : List Int)) (([] : List Int)) 1)))))) = some r := h
 clear h
 replace H := Option.bind_eq_some_iff.mp H
 obtain ⟨t501, A20, H⟩ := H
 replace H : (if t501 = true then (some true) else ((spec_DrawCircuits.f k l0).bind fun t502 => ((impl_TurnInside.f k t502).bind fun t505 => ((laws_at.f l0 0).bind fun t508 => (laws_FnLabyrinths.l0 k t502 t505 (Int.tmod t508 6) (([] : List Int)) (([] : List Int)) 1))))) = some r := H
 have A2 := Aside0.mk A20
 clear A20
 by_cases c3 : t501 = true
 ·subst c3
  have H1 : (some true) = some r := by rw [if_pos rfl] at H; exact H
  clear H
  have H := H1
  clear H1
  obtain rfl := Option.some.inj H
  go_enter Try.func3, Try.ntmps3
  go_wp2_with (first | ((with_reducible refine gate_callee (f := 9) rfl ?_); refine goesL_ (some 10) rfl rfl Try.func9 (by kernel_rfl) rfl #[.slice A0 l0.length c0] rfl (ml_) ?_; (with_reducible refine (laws_big.calls _ _ l0 true _ ?side1 ?side2 A2.out).mono ?_); (case side1 => repeat (first | exact HR0.out | (with_reducible refine Kd.C_alloc ?_ _) | (with_reducible refine Kd.C_drewN ?_ _) | (with_reducible refine Kd.C_drew ?_))); (case side2 => exact HC0.out); rintro e w' ⟨rfl, ⟨nd, rfl⟩⟩; refine ⟨_, rfl, ?_⟩))
  go_ret
  exact ⟨by first | rfl | (simp [errW_none, errW_some] <;> rfl) | (simp [*, errW_none, errW_some] <;> rfl), hb0_ HB.out⟩
 ·replace c3 := Bool.eq_false_iff.mpr c3
  subst c3
  have H1 : ((spec_DrawCircuits.f k l0).bind fun t502 => ((impl_TurnInside.f k t502).bind fun t505 => ((laws_at.f l0 0).bind fun t508 => (laws_FnLabyrinths.l0 k t502 t505 (Int.tmod t508 6) (([] : List Int)) (([] : List Int)) 1)))) = some r := by rw [if_neg (show ¬ (false = true) by decide)] at H; exact H
  clear H
  have H := H1
  clear H1
  replace H := Option.bind_eq_some_iff.mp H
  obtain ⟨t502, A40, H⟩ := H
  replace H : ((impl_TurnInside.f k t502).bind fun t505 => ((laws_at.f l0 0).bind fun t508 => (laws_FnLabyrinths.l0 k t502 t505 (Int.tmod t508 6) (([] : List Int)) (([] : List Int)) 1))) = some r := H
  have A4 := Aside0.mk A40
  clear A40
  replace H := Option.bind_eq_some_iff.mp H
  obtain ⟨t505, A50, H⟩ := H
  replace H : ((laws_at.f l0 0).bind fun t508 => (laws_FnLabyrinths.l0 k t502 t505 (Int.tmod t508 6) (([] : List Int)) (([] : List Int)) 1)) = some r := H
  have A5 := Aside0.mk A50
  clear A50
  replace H := Option.bind_eq_some_iff.mp H
  obtain ⟨t508, A60, H⟩ := H
  replace H : (laws_FnLabyrinths.l0 k t502 t505 (Int.tmod t508 6) (([] : List Int)) (([] : List Int)) 1) = some r := H
  have A6 := Aside0.mk A60
  clear A60
  obtain ⟨y509, hy509⟩ : ∃ y_ : List Int, y_ = (([] : List Int)) := ⟨_, rfl⟩
  replace H : (laws_FnLabyrinths.l0 k t502 t505 (Int.tmod t508 6) y509 (([] : List Int)) 1) = some r := by first | (rw [hy509]; with_reducible exact H) | (have H2_ := (Option.bind_some _ _).symm.trans H; rw [hy509]; with_reducible exact H2_) | (have H2_ := (Option.bind_some _ _).symm.trans H; with_reducible exact H2_) | with_reducible exact H | (rw [hy509]; exact H) | exact H
  have Ny509 := Aside0.mk hy509
  clear hy509
  obtain ⟨y512, hy512⟩ : ∃ y_ : List Int, y_ = (([] : List Int)) := ⟨_, rfl⟩
  replace H : (laws_FnLabyrinths.l0 k t502 t505 (Int.tmod t508 6) y509 y512 1) = some r := by first | (rw [hy512]; with_reducible exact H) | (have H2_ := (Option.bind_some _ _).symm.trans H; rw [hy512]; with_reducible exact H2_) | (have H2_ := (Option.bind_some _ _).symm.trans H; with_reducible exact H2_) | with_reducible exact H | (rw [hy512]; exact H) | exact H
  have Ny512 := Aside0.mk hy512
  clear hy512
  have HC7 := Aside0.mk H
  clear H
  go_enter Try.func3, Try.ntmps3
  go_upto_block 0 with (first | ((with_reducible refine gate_callee (f := 9) rfl ?_); refine goesL_ (some 10) rfl rfl Try.func9 (by kernel_rfl) rfl #[.slice A0 l0.length c0] rfl (ml_) ?_; (with_reducible refine (laws_big.calls _ _ l0 false _ ?side1 ?side2 A2.out).mono ?_); (case side1 => repeat (first | exact HR0.out | (with_reducible refine Kd.C_alloc ?_ _) | (with_reducible refine Kd.C_drewN ?_ _) | (with_reducible refine Kd.C_drew ?_))); (case side2 => exact HC0.out); rintro e w' ⟨rfl, ⟨nd, rfl⟩⟩; refine ⟨_, rfl, ?_⟩) | ((with_reducible refine gate_callee (f := 10) rfl ?_); refine goesL_ (some 12) rfl rfl Try.func10 (by kernel_rfl) rfl #[.slice A0 l0.length c0] rfl (ml_) ?_; (with_reducible refine (spec_DrawCircuits.calls k _ _ l0 t502 _ ?side1 ?side2 A4.out).mono ?_); (case side1 => repeat (first | exact HR0.out | (with_reducible refine Kd.C_alloc ?_ _) | (with_reducible refine Kd.C_drewN ?_ _) | (with_reducible refine Kd.C_drew ?_))); (case side2 => exact HC0.out); rintro e w8 ⟨v503, rfl, ho0, hb⟩; refine ⟨_, rfl, ?_⟩; have HO504 := Aside0.mk (Kd.R_lower ho0 (below_size (hb0_ HB.out))); replace HB := Aside0.mk (below_step (hb0_ HB.out) hb); (try clear hb); (try clear hb2); (try clear hk); (try clear hi); (try clear ho0); obtain ⟨Ao9, co9, eo9⟩ := Kd.R_slice HO504.out; subst eo9) | ((with_reducible refine gate_callee (f := 11) rfl ?_); refine goesL_ (some 14) rfl rfl Try.func11 (by kernel_rfl) rfl #[.slice Ao9 t502.length co9] rfl (ml_) ?_; (with_reducible refine (impl_TurnInside.calls k _ _ t502 t505 _ ?side1 ?side2 A5.out).mono ?_); (case side1 => repeat (first | exact (Kd.R_reads' HO504.out).2.2 | (with_reducible refine Kd.C_alloc ?_ _) | (with_reducible refine Kd.C_drewN ?_ _) | (with_reducible refine Kd.C_drew ?_))); (case side2 => exact (Kd.R_reads' HO504.out).2.1); rintro e w10 ⟨v506, rfl, ho0, hb⟩; refine ⟨_, rfl, ?_⟩; have n0_ := Aside0.mk (Kd.R_elder' (kr_ HO504.out) (Kd.R_base ho0) hb); have n1_ := Aside0.mk (Kd.R_lower (Kd.R_new' ho0 (Kd.R_lt (kr_ HO504.out))) (below_size (hb0_ HB.out))); have n2_ := Aside0.mk (below_step (hb0_ HB.out) hb); clear HO504; clear HB; have HO504 := n0_; have HO507 := n1_; have HB := n2_; clear n0_ n1_ n2_; (try clear hb); (try clear hb2); (try clear hk); (try clear hi); (try clear ho0)) | ((with_reducible refine gate_callee (f := 12) rfl ?_); refine goesL_ (some 16) rfl rfl Try.func12 (by kernel_rfl) rfl #[.slice A0 l0.length c0, .int .i64 0] rfl (ml_) ?_; (with_reducible refine (laws_at.calls _ _ l0 0 t508 _ ?side1 ?side2 A6.out).mono ?_); (case side1 => repeat (first | exact (Kd.C_below HR0.out HB.out) | (with_reducible refine Kd.C_alloc ?_ _) | (with_reducible refine Kd.C_drewN ?_ _) | (with_reducible refine Kd.C_drew ?_))); (case side2 => exact HC0.out); rintro e w' ⟨rfl, ⟨nd, rfl⟩⟩; refine ⟨_, rfl, ?_⟩) | ((with_reducible refine gate_dst (N := 18) rfl ?_); (try (refine gate_guard (by rfl) ?_; dsimp only)); refine Kd.R_lit (Kd.int .i64) _ 3 ?hg (N := 18) ?hd (xs := ([] : List Int)) (inner := []) (ok := fun _ => True) (okp := fun _ => True) ?hr ?hp (fun _ hk => hk) trivial (Below.refl _ _) (Nat.le_refl _) (by simp) ?_; (case hd => rfl); (case hg => rfl); (case hr => first | (go_simp; done) | (go_simp; rfl)); (case hp => exact (Reps.none _ _)); intro v510 w11 ho12 hb hg_ hnew_; clear hg_ hnew_; (first | rw [← Ny509.out] at ho12 | (simp only [Int.reduceToNat] at ho12; rw [← Ny509.out] at ho12)); have n0_ := Aside0.mk (Kd.R_elder' (kr_ HO504.out) (Kd.R_base ho12) hb); have n1_ := Aside0.mk (Kd.R_elder' (kr_ HO507.out) (Kd.R_base ho12) hb); have n2_ := Aside0.mk (Kd.R_lower (Kd.R_new' (Kd.R_new' ho12 (Kd.R_lt (kr_ HO504.out))) (Kd.R_lt (kr_ HO507.out))) (below_size (hb0_ HB.out))); have n3_ := Aside0.mk (below_step (hb0_ HB.out) hb); clear HO504; clear HO507; clear HB; have HO504 := n0_; have HO507 := n1_; have HO511 := n2_; have HB := n3_; clear n0_ n1_ n2_ n3_; clear hb ho12) | ((with_reducible refine gate_dst (N := 19) rfl ?_); (try (refine gate_guard (by rfl) ?_; dsimp only)); refine Kd.R_lit (Kd.int .i64) _ 3 ?hg (N := 19) ?hd (xs := ([] : List Int)) (inner := []) (ok := fun _ => True) (okp := fun _ => True) ?hr ?hp (fun _ hk => hk) trivial (Below.refl _ _) (Nat.le_refl _) (by simp) ?_; (case hd => rfl); (case hg => rfl); (case hr => first | (go_simp; done) | (go_simp; rfl)); (case hp => exact (Reps.none _ _)); intro v513 w13 ho14 hb hg_ hnew_; clear hg_ hnew_; (first | rw [← Ny512.out] at ho14 | (simp only [Int.reduceToNat] at ho14; rw [← Ny512.out] at ho14)); have n0_ := Aside0.mk (Kd.R_elder' (kr_ HO504.out) (Kd.R_base ho14) hb); have n1_ := Aside0.mk (Kd.R_elder' (kr_ HO507.out) (Kd.R_base ho14) hb); have n2_ := Aside0.mk (Kd.R_elder' (kr_ HO511.out) (Kd.R_base ho14) hb); have n3_ := Aside0.mk (Kd.R_lower (Kd.R_new' (Kd.R_new' (Kd.R_new' ho14 (Kd.R_lt (kr_ HO504.out))) (Kd.R_lt (kr_ HO507.out))) (Kd.R_lt (kr_ HO511.out))) (below_size (hb0_ HB.out))); have n4_ := Aside0.mk (below_step (hb0_ HB.out) hb); clear HO504; clear HO507; clear HO511; clear HB; have HO504 := n0_; have HO507 := n1_; have HO511 := n2_; have HO514 := n3_; have HB := n4_; clear n0_ n1_ n2_ n3_ n4_; clear hb ho14))
  (try simp only [Act.put, List.setIfInBounds_toArray, List.set_cons_zero, List.set_cons_succ])
  go_cut [6, 7] (fun v6 v7 wc => ∃ (kq : Nat) (x6_6 : List Int) (x7_6 : List Int), Aside0 (laws_FnLabyrinths.j1 kq t502 t505 (Int.tmod t508 6) x6_6 x7_6 = some r) ∧ Aside0 (kq ≤ k) ∧ Aside0 (Kd.R (Kd.int .i64) 3 wc w.heap.size (fun k_ => some k_ ≠ (v506 : Value).ownBlock ∧ some k_ ≠ (v6 : Value).ownBlock ∧ some k_ ≠ (v7 : Value).ownBlock) (.slice Ao9 t502.length co9) t502) ∧ Aside0 (Kd.R (Kd.int .i64) 3 wc w.heap.size (fun k_ => some k_ ≠ ((.slice Ao9 t502.length co9) : Value).ownBlock ∧ some k_ ≠ (v6 : Value).ownBlock ∧ some k_ ≠ (v7 : Value).ownBlock) v506 t505) ∧ Aside0 (Kd.R (Kd.int .i64) 3 wc w.heap.size (fun k_ => some k_ ≠ ((.slice Ao9 t502.length co9) : Value).ownBlock ∧ some k_ ≠ (v506 : Value).ownBlock ∧ some k_ ≠ (v7 : Value).ownBlock) v6 x6_6) ∧ Aside0 (Kd.R (Kd.int .i64) 3 wc w.heap.size (fun k_ => some k_ ≠ ((.slice Ao9 t502.length co9) : Value).ownBlock ∧ some k_ ≠ (v506 : Value).ownBlock ∧ some k_ ≠ (v6 : Value).ownBlock) v7 x7_6) ∧ Aside0 (Below w.heap.size w wc))
  case first =>
   have H := HC7.out
   clear HC7
   have H' := Aside0.mk H
   clear H
   go_wp2
   go_loopg [6, 7, 8] k (fun kq v6 v7 v8 w' => ∃ (x6_1 : List Int) (x7_1 : List Int) (x8_1 : Int), v8 = .int .i64 x8_1 ∧ Aside0 (laws_FnLabyrinths.l0 kq t502 t505 (Int.tmod t508 6) x6_1 x7_1 x8_1 = some r) ∧ Aside0 (kq ≤ k) ∧ Aside0 (Kd.R (Kd.int .i64) 3 w' w.heap.size (fun k_ => some k_ ≠ (v506 : Value).ownBlock ∧ some k_ ≠ (v6 : Value).ownBlock ∧ some k_ ≠ (v7 : Value).ownBlock) (.slice Ao9 t502.length co9) t502) ∧ Aside0 (Kd.R (Kd.int .i64) 3 w' w.heap.size (fun k_ => some k_ ≠ ((.slice Ao9 t502.length co9) : Value).ownBlock ∧ some k_ ≠ (v6 : Value).ownBlock ∧ some k_ ≠ (v7 : Value).ownBlock) v506 t505) ∧ Aside0 (Kd.R (Kd.int .i64) 3 w' w.heap.size (fun k_ => some k_ ≠ ((.slice Ao9 t502.length co9) : Value).ownBlock ∧ some k_ ≠ (v506 : Value).ownBlock ∧ some k_ ≠ (v7 : Value).ownBlock) v6 x6_1) ∧ Aside0 (Kd.R (Kd.int .i64) 3 w' w.heap.size (fun k_ => some k_ ≠ ((.slice Ao9 t502.length co9) : Value).ownBlock ∧ some k_ ≠ (v506 : Value).ownBlock ∧ some k_ ≠ (v6 : Value).ownBlock) v7 x7_1) ∧ Aside0 (Below w.heap.size w w'))
   case atStart => exact ⟨(y509), (y512), (1), (by first | rfl | (simp; done) | (simp [*]; done)), H', ⟨Nat.le_refl _⟩, ⟨by (with_reducible repeat (first | apply Kd.R_alloc | apply Kd.R_drewN | apply Kd.R_drew)); exact Kd.R_mono HO504.out (fun _ hk => ⟨hk.1.1.2, ⟨hk.1.2, hk.2⟩⟩)⟩, ⟨by (with_reducible repeat (first | apply Kd.R_alloc | apply Kd.R_drewN | apply Kd.R_drew)); exact Kd.R_mono HO507.out (fun _ hk => ⟨hk.1.1.2, ⟨hk.1.2, hk.2⟩⟩)⟩, ⟨by (with_reducible repeat (first | apply Kd.R_alloc | apply Kd.R_drewN | apply Kd.R_drew)); exact Kd.R_mono HO511.out (fun _ hk => ⟨hk.1.1.2, ⟨hk.1.2, hk.2⟩⟩)⟩, ⟨by (with_reducible repeat (first | apply Kd.R_alloc | apply Kd.R_drewN | apply Kd.R_drew)); exact Kd.R_mono HO514.out (fun _ hk => ⟨hk.1.1.2, ⟨hk.1.2, hk.2⟩⟩)⟩, ⟨hb0_ HB.out⟩⟩
   case round =>
    clear H'
    try clear c1
    try clear p2
    try clear c3
    try clear c9
    try clear c10
    try clear c11
    try clear c12
    obtain ⟨x6_1, x7_1, x8_1, rfl, HA, HK1, HO_3, HO_4, HO_6, HO_7, HB⟩ := hrel
    cases gk with
    | zero => exact absurd HA.out (by simp [laws_FnLabyrinths.l0])
    | succ k1 =>
     have H := HA.out
     clear HA
     simp only [laws_FnLabyrinths.l0] at H
     by_cases c15 : x8_1 ≤ (wrap64 ((wrap64 (2 * (Int.tmod t508 6))) + 1))
     ·rw [if_pos c15] at H
      have c15b0 : decide (x8_1 ≤ (wrap64 ((wrap64 (2 * (Int.tmod t508 6))) + 1))) = true := decide_eq_true c15
      clear c15
      (first | rw [c15b0] | (simp only [i64_w, i32_w]; rw [c15b0]) | skip)
      by_cases c16 : (Int.tmod t508 6) < 5
      ·rw [if_pos c16] at H
       have c16b0 : decide ((Int.tmod t508 6) < 5) = true := decide_eq_true c16
       clear c16
       by_cases c17 : x6_1.length < 17592186044416
       ·rw [if_pos c17] at H
        have LMc17 := Aside0.mk c17
        clear c17
        obtain ⟨y515, hy515⟩ : ∃ y_ : List Int, y_ = (x6_1 ++ [x8_1]) := ⟨_, rfl⟩
        replace H : (if x7_1.length < 17592186044416 then (laws_FnLabyrinths.l0 k1 t502 t505 (Int.tmod t508 6) y515 (x7_1 ++ [wrap64 ((wrap64 ((wrap64 (2 * (Int.tmod t508 6))) + 2)) - x8_1)]) (wrap64 (x8_1 + 1))) else (none)) = some r := by first | (rw [hy515]; with_reducible exact H) | (have H2_ := (Option.bind_some _ _).symm.trans H; rw [hy515]; with_reducible exact H2_) | (have H2_ := (Option.bind_some _ _).symm.trans H; with_reducible exact H2_) | with_reducible exact H | (rw [hy515]; exact H) | exact H
        have Ny515 := Aside0.mk hy515
        clear hy515
        by_cases c18 : x7_1.length < 17592186044416
        ·rw [if_pos c18] at H
         have LMc18 := Aside0.mk c18
         clear c18
         obtain ⟨y518, hy518⟩ : ∃ y_ : List Int, y_ = (x7_1 ++ [wrap64 ((wrap64 ((wrap64 (2 * (Int.tmod t508 6))) + 2)) - x8_1)]) := ⟨_, rfl⟩
         replace H : (laws_FnLabyrinths.l0 k1 t502 t505 (Int.tmod t508 6) y515 y518 (wrap64 (x8_1 + 1))) = some r := by first | (rw [hy518]; with_reducible exact H) | (have H2_ := (Option.bind_some _ _).symm.trans H; rw [hy518]; with_reducible exact H2_) | (have H2_ := (Option.bind_some _ _).symm.trans H; with_reducible exact H2_) | with_reducible exact H | (rw [hy518]; exact H) | exact H
         have Ny518 := Aside0.mk hy518
         clear hy518
         have H' := Aside0.mk H
         clear H
         go_wp2_with (first | ((with_reducible refine gate_builtin (b := .append) (xs := #[.tmp 31, .tmp 33]) rfl ?_); (try (refine gate_guard (by rfl) ?_; dsimp only)); at_builtin; refine Kd.R_append (Kd.int .i64) (w0 := w) w.heap.size rfl (.tmp 31) (.tmp 33) 24 3 (.int .i64 0) 8 rfl Try.underlying24 info3 rfl (by decide) (by omega) u6 x6_1 x8_1 [.int .i64 x8_1] (fun k_ => some k_ ≠ (.slice Ao9 t502.length co9 : Value).ownBlock ∧ some k_ ≠ (v506 : Value).ownBlock ∧ some k_ ≠ (u7 : Value).ownBlock) (fun _ => False) rfl rfl ?aP (fun _ hk => hk.elim) ?aF ?aO ?aB ?aS ?aL ?_; (case aP => exact rfl); (case aB => exact (hb0_ HB.out)); (case aF => exact (fun k_ hk => ⟨Kd.fresh' (Kd.R_lt (kr_ HO_3.out)) k_ hk, Kd.fresh' (Kd.R_lt (kr_ HO_4.out)) k_ hk, Kd.fresh' (Kd.R_lt (kr_ HO_7.out)) k_ hk⟩)); (case aO => exact (kr_ HO_6.out)); (case aS => exact (below_size (hb0_ HB.out))); (case aL => have := LMc17.out; omega); intro v516 w19 ho hb hg hat; rw [← Ny515.out] at ho; replace HO_3 := Aside0.mk (Kd.R_after (ok := (fun k_ => some k_ ≠ (v506 : Value).ownBlock ∧ some k_ ≠ (u7 : Value).ownBlock)) (by (with_reducible repeat (first | apply Kd.R_alloc | apply Kd.R_drewN | apply Kd.R_drew)); exact Kd.R_mono HO_3.out (fun _ hk => ⟨⟨hk.1, hk.2.2⟩, hk.2.1⟩)) hg hat); replace HO_4 := Aside0.mk (Kd.R_after (ok := (fun k_ => some k_ ≠ (.slice Ao9 t502.length co9 : Value).ownBlock ∧ some k_ ≠ (u7 : Value).ownBlock)) (by (with_reducible repeat (first | apply Kd.R_alloc | apply Kd.R_drewN | apply Kd.R_drew)); exact Kd.R_mono HO_4.out (fun _ hk => ⟨⟨hk.1, hk.2.2⟩, hk.2.1⟩)) hg hat); replace HO_7 := Aside0.mk (Kd.R_after (ok := (fun k_ => some k_ ≠ (.slice Ao9 t502.length co9 : Value).ownBlock ∧ some k_ ≠ (v506 : Value).ownBlock)) (by (with_reducible repeat (first | apply Kd.R_alloc | apply Kd.R_drewN | apply Kd.R_drew)); exact Kd.R_mono HO_7.out (fun _ hk => ⟨⟨hk.1, hk.2.1⟩, hk.2.2⟩)) hg hat); replace HB := Aside0.mk (hb); have HO517 := Aside0.mk (ho); clear HO_6; clear ho hb hg hat) | ((with_reducible refine gate_builtin (b := .append) (xs := #[.tmp 35, .tmp 41]) rfl ?_); (try (refine gate_guard (by rfl) ?_; dsimp only)); at_builtin; refine Kd.R_append (Kd.int .i64) (w0 := w) w.heap.size rfl (.tmp 35) (.tmp 41) 24 3 (.int .i64 0) 8 rfl Try.underlying24 info3 rfl (by decide) (by omega) u7 x7_1 (wrap64 ((wrap64 ((wrap64 (2 * (Int.tmod t508 6))) + 2)) - x8_1)) [.int .i64 (wrap64 ((wrap64 ((wrap64 (2 * (Int.tmod t508 6))) + 2)) - x8_1))] (fun k_ => some k_ ≠ (.slice Ao9 t502.length co9 : Value).ownBlock ∧ some k_ ≠ (v506 : Value).ownBlock ∧ some k_ ≠ (v516 : Value).ownBlock) (fun _ => False) rfl rfl ?aP (fun _ hk => hk.elim) ?aF ?aO ?aB ?aS ?aL ?_; (case aP => exact rfl); (case aB => exact (hb0_ HB.out)); (case aF => exact (fun k_ hk => ⟨Kd.fresh' (Kd.R_lt (kr_ HO_3.out)) k_ hk, Kd.fresh' (Kd.R_lt (kr_ HO_4.out)) k_ hk, Kd.fresh' (Kd.R_lt (kr_ HO517.out)) k_ hk⟩)); (case aO => exact (by (with_reducible repeat (first | apply Kd.R_alloc | apply Kd.R_drewN | apply Kd.R_drew)); exact Kd.R_mono HO_7.out (fun _ hk => ⟨hk.1.1, ⟨hk.1.2, hk.2⟩⟩))); (case aS => exact (below_size (hb0_ HB.out))); (case aL => have := LMc18.out; omega); intro v519 w20 ho hb hg hat; rw [← Ny518.out] at ho; replace HO_3 := Aside0.mk (Kd.R_after (ok := (fun k_ => some k_ ≠ (v506 : Value).ownBlock ∧ some k_ ≠ (v516 : Value).ownBlock)) (by (with_reducible repeat (first | apply Kd.R_alloc | apply Kd.R_drewN | apply Kd.R_drew)); exact Kd.R_mono HO_3.out (fun _ hk => ⟨⟨hk.1.1, hk.2⟩, hk.1.2⟩)) hg hat); replace HO_4 := Aside0.mk (Kd.R_after (ok := (fun k_ => some k_ ≠ (.slice Ao9 t502.length co9 : Value).ownBlock ∧ some k_ ≠ (v516 : Value).ownBlock)) (by (with_reducible repeat (first | apply Kd.R_alloc | apply Kd.R_drewN | apply Kd.R_drew)); exact Kd.R_mono HO_4.out (fun _ hk => ⟨⟨hk.1.1, hk.2⟩, hk.1.2⟩)) hg hat); replace HO517 := Aside0.mk (Kd.R_after (ok := (fun k_ => some k_ ≠ (.slice Ao9 t502.length co9 : Value).ownBlock ∧ some k_ ≠ (v506 : Value).ownBlock)) (by (with_reducible repeat (first | apply Kd.R_alloc | apply Kd.R_drewN | apply Kd.R_drew)); exact Kd.R_mono HO517.out (fun _ hk => ⟨⟨hk.1, hk.2.1⟩, hk.2.2⟩)) hg hat); replace HB := Aside0.mk (hb); have HO520 := Aside0.mk (ho); clear HO_7; clear ho hb hg hat))
         go_roundg k1
         case measure => have := HK1.out; omega
         case rel => exact ⟨(y515), (y518), (wrap64 (x8_1 + 1)), (by first | rfl | (simp; done) | (simp [*]; done)), H', ⟨by have := HK1.out; omega⟩, ⟨by (with_reducible repeat (first | apply Kd.R_alloc | apply Kd.R_drewN | apply Kd.R_drew)); exact Kd.R_mono HO_3.out (fun _ hk => ⟨hk.1.1, ⟨hk.1.2, hk.2⟩⟩)⟩, ⟨by (with_reducible repeat (first | apply Kd.R_alloc | apply Kd.R_drewN | apply Kd.R_drew)); exact Kd.R_mono HO_4.out (fun _ hk => ⟨hk.1.1, ⟨hk.1.2, hk.2⟩⟩)⟩, ⟨by (with_reducible repeat (first | apply Kd.R_alloc | apply Kd.R_drewN | apply Kd.R_drew)); exact Kd.R_mono HO517.out (fun _ hk => ⟨hk.1.1, ⟨hk.1.2, hk.2⟩⟩)⟩, ⟨kr_ HO520.out⟩, ⟨hb0_ HB.out⟩⟩
        ·rw [if_neg c18] at H
         exact absurd H (by simp)
       ·rw [if_neg c17] at H
        exact absurd H (by simp)
      ·rw [if_neg c16] at H
       have c16b0 : decide ((Int.tmod t508 6) < 5) = false := decide_eq_false c16
       clear c16
       have H' := Aside0.mk H
       clear H
       go_wp2
       go_meet
       case rel => exact ⟨_, (x6_1), (x7_1), H', ⟨by have := HK1.out; first | omega | exact Nat.le_refl _⟩, ⟨kr_ HO_3.out⟩, ⟨kr_ HO_4.out⟩, ⟨kr_ HO_6.out⟩, ⟨kr_ HO_7.out⟩, ⟨hb0_ HB.out⟩⟩
     ·rw [if_neg c15] at H
      have c15b0 : decide (x8_1 ≤ (wrap64 ((wrap64 (2 * (Int.tmod t508 6))) + 1))) = false := decide_eq_false c15
      clear c15
      (first | rw [c15b0] | (simp only [i64_w, i32_w]; rw [c15b0]) | skip)
      have H' := Aside0.mk H
      clear H
      go_wp2
      go_meet
      case rel => exact ⟨_, (x6_1), (x7_1), H', ⟨by have := HK1.out; first | omega | exact Nat.le_refl _⟩, ⟨kr_ HO_3.out⟩, ⟨kr_ HO_4.out⟩, ⟨kr_ HO_6.out⟩, ⟨kr_ HO_7.out⟩, ⟨hb0_ HB.out⟩⟩
  case rest =>
   clear HC7
   try clear c1
   try clear p2
   try clear c3
   try clear p6
   try clear c9
   try clear c10
   try clear c11
   try clear c12
   try clear c15
   try clear c15b0
   try clear c16
   try clear c16b0
   try clear c17
   try clear c18
   try clear p2
   obtain ⟨kq, x6_6, x7_6, HA, HJ6, HO_3, HO_4, HO_6, HO_7, HB⟩ := hcut
   cases kq with
   | zero => exact absurd HA.out (by simp [laws_FnLabyrinths.j1])
   | succ kj6 =>
    have H := HA.out
    clear HA
    simp only [laws_FnLabyrinths.j1] at H
    replace H := Option.bind_eq_some_iff.mp H
    obtain ⟨t521, A210, H⟩ := H
    replace H : (if t521 = true then ((impl_TurnInside.f kj6 t505).bind fun t522 => ((laws_sameInts.f kj6 t522 t502).bind fun t525 => (if t525 = true then ((impl_IsLabyrinth.f kj6 t505).bind fun t526 => ((impl_IsLabyrinth.f kj6 t502).bind fun t527 => (if (t526 == t527) = true then (if (Int.tmod t508 6) = 5 then ((impl_StepPairs.f kj6 t502 0).bind fun t528 => ((impl_StepPairs.f kj6 t502 1).bind fun t531 => (some ((wrap64 ((t528.length : Int) + (t531.length : Int))) == (wrap64 ((t502.length : Int) + 1)))))) else ((impl_IsLabyrinth.f kj6 x6_6).bind fun t534 => (if t534 = true then ((impl_IsLabyrinth.f kj6 x7_6).bind fun t535 => (if t535 = true then ((impl_StepPairs.f kj6 t502 0).bind fun t536 => ((impl_StepPairs.f kj6 t502 1).bind fun t539 => (some ((wrap64 ((t536.length : Int) + (t539.length : Int))) == (wrap64 ((t502.length : Int) + 1)))))) else (some false))) else (some false)))) else (some false)))) else (some false)))) else (some false)) = some r := H
    have A21 := Aside0.mk A210
    clear A210
    by_cases c22 : t521 = true
    ·subst c22
     have H1 : ((impl_TurnInside.f kj6 t505).bind fun t522 => ((laws_sameInts.f kj6 t522 t502).bind fun t525 => (if t525 = true then ((impl_IsLabyrinth.f kj6 t505).bind fun t526 => ((impl_IsLabyrinth.f kj6 t502).bind fun t527 => (if (t526 == t527) = true then (if (Int.tmod t508 6) = 5 then ((impl_StepPairs.f kj6 t502 0).bind fun t528 => ((impl_StepPairs.f kj6 t502 1).bind fun t531 => (some ((wrap64 ((t528.length : Int) + (t531.length : Int))) == (wrap64 ((t502.length : Int) + 1)))))) else ((impl_IsLabyrinth.f kj6 x6_6).bind fun t534 => (if t534 = true then ((impl_IsLabyrinth.f kj6 x7_6).bind fun t535 => (if t535 = true then ((impl_StepPairs.f kj6 t502 0).bind fun t536 => ((impl_StepPairs.f kj6 t502 1).bind fun t539 => (some ((wrap64 ((t536.length : Int) + (t539.length : Int))) == (wrap64 ((t502.length : Int) + 1)))))) else (some false))) else (some false)))) else (some false)))) else (some false)))) = some r := by rw [if_pos rfl] at H; exact H
     clear H
     have H := H1
     clear H1
     replace H := Option.bind_eq_some_iff.mp H
     obtain ⟨t522, A230, H⟩ := H
     replace H : ((laws_sameInts.f kj6 t522 t502).bind fun t525 => (if t525 = true then ((impl_IsLabyrinth.f kj6 t505).bind fun t526 => ((impl_IsLabyrinth.f kj6 t502).bind fun t527 => (if (t526 == t527) = true then (if (Int.tmod t508 6) = 5 then ((impl_StepPairs.f kj6 t502 0).bind fun t528 => ((impl_StepPairs.f kj6 t502 1).bind fun t531 => (some ((wrap64 ((t528.length : Int) + (t531.length : Int))) == (wrap64 ((t502.length : Int) + 1)))))) else ((impl_IsLabyrinth.f kj6 x6_6).bind fun t534 => (if t534 = true then ((impl_IsLabyrinth.f kj6 x7_6).bind fun t535 => (if t535 = true then ((impl_StepPairs.f kj6 t502 0).bind fun t536 => ((impl_StepPairs.f kj6 t502 1).bind fun t539 => (some ((wrap64 ((t536.length : Int) + (t539.length : Int))) == (wrap64 ((t502.length : Int) + 1)))))) else (some false))) else (some false)))) else (some false)))) else (some false))) = some r := H
     have A23 := Aside0.mk A230
     clear A230
     replace H := Option.bind_eq_some_iff.mp H
     obtain ⟨t525, A240, H⟩ := H
     replace H : (if t525 = true then ((impl_IsLabyrinth.f kj6 t505).bind fun t526 => ((impl_IsLabyrinth.f kj6 t502).bind fun t527 => (if (t526 == t527) = true then (if (Int.tmod t508 6) = 5 then ((impl_StepPairs.f kj6 t502 0).bind fun t528 => ((impl_StepPairs.f kj6 t502 1).bind fun t531 => (some ((wrap64 ((t528.length : Int) + (t531.length : Int))) == (wrap64 ((t502.length : Int) + 1)))))) else ((impl_IsLabyrinth.f kj6 x6_6).bind fun t534 => (if t534 = true then ((impl_IsLabyrinth.f kj6 x7_6).bind fun t535 => (if t535 = true then ((impl_StepPairs.f kj6 t502 0).bind fun t536 => ((impl_StepPairs.f kj6 t502 1).bind fun t539 => (some ((wrap64 ((t536.length : Int) + (t539.length : Int))) == (wrap64 ((t502.length : Int) + 1)))))) else (some false))) else (some false)))) else (some false)))) else (some false)) = some r := H
     have A24 := Aside0.mk A240
     clear A240
     by_cases c25 : t525 = true
     ·subst c25
      have H1 : ((impl_IsLabyrinth.f kj6 t505).bind fun t526 => ((impl_IsLabyrinth.f kj6 t502).bind fun t527 => (if (t526 == t527) = true then (if (Int.tmod t508 6) = 5 then ((impl_StepPairs.f kj6 t502 0).bind fun t528 => ((impl_StepPairs.f kj6 t502 1).bind fun t531 => (some ((wrap64 ((t528.length : Int) + (t531.length : Int))) == (wrap64 ((t502.length : Int) + 1)))))) else ((impl_IsLabyrinth.f kj6 x6_6).bind fun t534 => (if t534 = true then ((impl_IsLabyrinth.f kj6 x7_6).bind fun t535 => (if t535 = true then ((impl_StepPairs.f kj6 t502 0).bind fun t536 => ((impl_StepPairs.f kj6 t502 1).bind fun t539 => (some ((wrap64 ((t536.length : Int) + (t539.length : Int))) == (wrap64 ((t502.length : Int) + 1)))))) else (some false))) else (some false)))) else (some false)))) = some r := by rw [if_pos rfl] at H; exact H
      clear H
      have H := H1
      clear H1
      replace H := Option.bind_eq_some_iff.mp H
      obtain ⟨t526, A260, H⟩ := H
      replace H : ((impl_IsLabyrinth.f kj6 t502).bind fun t527 => (if (t526 == t527) = true then (if (Int.tmod t508 6) = 5 then ((impl_StepPairs.f kj6 t502 0).bind fun t528 => ((impl_StepPairs.f kj6 t502 1).bind fun t531 => (some ((wrap64 ((t528.length : Int) + (t531.length : Int))) == (wrap64 ((t502.length : Int) + 1)))))) else ((impl_IsLabyrinth.f kj6 x6_6).bind fun t534 => (if t534 = true then ((impl_IsLabyrinth.f kj6 x7_6).bind fun t535 => (if t535 = true then ((impl_StepPairs.f kj6 t502 0).bind fun t536 => ((impl_StepPairs.f kj6 t502 1).bind fun t539 => (some ((wrap64 ((t536.length : Int) + (t539.length : Int))) == (wrap64 ((t502.length : Int) + 1)))))) else (some false))) else (some false)))) else (some false))) = some r := H
      have A26 := Aside0.mk A260
      clear A260
      replace H := Option.bind_eq_some_iff.mp H
      obtain ⟨t527, A270, H⟩ := H
      replace H : (if (t526 == t527) = true then (if (Int.tmod t508 6) = 5 then ((impl_StepPairs.f kj6 t502 0).bind fun t528 => ((impl_StepPairs.f kj6 t502 1).bind fun t531 => (some ((wrap64 ((t528.length : Int) + (t531.length : Int))) == (wrap64 ((t502.length : Int) + 1)))))) else ((impl_IsLabyrinth.f kj6 x6_6).bind fun t534 => (if t534 = true then ((impl_IsLabyrinth.f kj6 x7_6).bind fun t535 => (if t535 = true then ((impl_StepPairs.f kj6 t502 0).bind fun t536 => ((impl_StepPairs.f kj6 t502 1).bind fun t539 => (some ((wrap64 ((t536.length : Int) + (t539.length : Int))) == (wrap64 ((t502.length : Int) + 1)))))) else (some false))) else (some false)))) else (some false)) = some r := H
      have A27 := Aside0.mk A270
      clear A270
      by_cases c28 : (t526 == t527) = true
      ·rw [if_pos c28] at H
       have c28b0 : (t526 == t527) = true := c28
       (try (have c28b1 : decide (t526 = t527) = true := by simpa using c28))
       (try (have c28b2 : (t526 == t527) = true := by simpa using c28))
       clear c28
       by_cases c29 : (Int.tmod t508 6) = 5
       ·rw [if_pos c29] at H
        have c29b0 : ((Int.tmod t508 6) == 5) = true := beq_iff_eq.mpr c29
        have c29b1 : ((Int.tmod t508 6) != 5) = false := bne_eq_false_iff_eq.mpr c29
        clear c29
        replace H := Option.bind_eq_some_iff.mp H
        obtain ⟨t528, A300, H⟩ := H
        replace H : ((impl_StepPairs.f kj6 t502 1).bind fun t531 => (some ((wrap64 ((t528.length : Int) + (t531.length : Int))) == (wrap64 ((t502.length : Int) + 1))))) = some r := H
        have A30 := Aside0.mk A300
        clear A300
        replace H := Option.bind_eq_some_iff.mp H
        obtain ⟨t531, A310, H⟩ := H
        replace H : (some ((wrap64 ((t528.length : Int) + (t531.length : Int))) == (wrap64 ((t502.length : Int) + 1)))) = some r := H
        have A31 := Aside0.mk A310
        clear A310
        obtain rfl := Option.some.inj H
        obtain ⟨Ao32, co32, eo32⟩ := Kd.R_slice HO_4.out
        subst eo32
        go_wp2_with (first | ((with_reducible refine gate_callee (f := 13) rfl ?_); refine goesL_ (some 44) rfl rfl Try.func13 (by kernel_rfl) rfl #[.slice Ao32 t505.length co32] rfl (ml_) ?_; (with_reducible refine (impl_CircuitsOk.calls kj6 _ _ t505 true _ ?side1 ?side2 A21.out).mono ?_); (case side1 => repeat (first | exact (Kd.R_reads' HO_4.out).2.2 | (with_reducible refine Kd.C_alloc ?_ _) | (with_reducible refine Kd.C_drewN ?_ _) | (with_reducible refine Kd.C_drew ?_))); (case side2 => exact (Kd.R_reads' HO_4.out).2.1); rintro e w' ⟨rfl, ⟨nd, rfl⟩⟩; refine ⟨_, rfl, ?_⟩) | (go_at_call 11; (with_reducible refine (impl_TurnInside.calls kj6 _ _ t505 t522 _ ?side1 ?side2 A23.out).mono ?_); (case side1 => repeat (first | exact (Kd.R_reads' HO_4.out).2.2 | (with_reducible refine Kd.C_alloc ?_ _) | (with_reducible refine Kd.C_drewN ?_ _) | (with_reducible refine Kd.C_drew ?_))); (case side2 => exact (Kd.R_reads' HO_4.out).2.1); rintro e w33 ⟨v523, rfl, ho0, hb⟩; have n0_ := Aside0.mk (Kd.R_elder' (kr_ HO_3.out) (Kd.R_base ho0) hb); have n1_ := Aside0.mk (Kd.R_elder' (kr_ HO_4.out) (Kd.R_base ho0) hb); have n2_ := Aside0.mk (Kd.R_elder' (kr_ HO_6.out) (Kd.R_base ho0) hb); have n3_ := Aside0.mk (Kd.R_elder' (kr_ HO_7.out) (Kd.R_base ho0) hb); have n4_ := Aside0.mk (Kd.R_lower (Kd.R_new' (Kd.R_new' (Kd.R_new' (Kd.R_new' ho0 (Kd.R_lt (kr_ HO_3.out))) (Kd.R_lt (kr_ HO_4.out))) (Kd.R_lt (kr_ HO_6.out))) (Kd.R_lt (kr_ HO_7.out))) (below_size (hb0_ HB.out))); have n5_ := Aside0.mk (below_step (hb0_ HB.out) hb); clear HO_3; clear HO_4; clear HO_6; clear HO_7; clear HB; have HO_3 := n0_; have HO_4 := n1_; have HO_6 := n2_; have HO_7 := n3_; have HO524 := n4_; have HB := n5_; clear n0_ n1_ n2_ n3_ n4_ n5_; (try clear hb); (try clear hb2); (try clear hk); (try clear hi); (try clear ho0); obtain ⟨Ao34, co34, eo34⟩ := Kd.R_slice HO524.out; subst eo34) | (go_at_call 14; (with_reducible refine (laws_sameInts.calls kj6 _ _ t522 _ _ t502 true _ ?side1 ?side2 ?side3 ?side4 A24.out).mono ?_); (case side1 => repeat (first | exact (Kd.R_reads' HO524.out).2.2 | (with_reducible refine Kd.C_alloc ?_ _) | (with_reducible refine Kd.C_drewN ?_ _) | (with_reducible refine Kd.C_drew ?_))); (case side2 => exact (Kd.R_reads' HO524.out).2.1); (case side3 => repeat (first | exact (Kd.R_reads' HO_3.out).2.2 | (with_reducible refine Kd.C_alloc ?_ _) | (with_reducible refine Kd.C_drewN ?_ _) | (with_reducible refine Kd.C_drew ?_))); (case side4 => exact (Kd.R_reads' HO_3.out).2.1); rintro e w' ⟨rfl, ⟨nd, rfl⟩⟩) | (go_at_call 15; (with_reducible refine (impl_IsLabyrinth.calls kj6 _ _ t505 t526 _ ?side1 ?side2 A26.out).mono ?_); (case side1 => repeat (first | exact (Kd.R_reads' HO_4.out).2.2 | (with_reducible refine Kd.C_alloc ?_ _) | (with_reducible refine Kd.C_drewN ?_ _) | (with_reducible refine Kd.C_drew ?_))); (case side2 => exact (Kd.R_reads' HO_4.out).2.1); rintro e w35 ⟨rfl, hb⟩; replace HO_3 := Aside0.mk (Kd.R_below (kr_ HO_3.out) hb); replace HO_4 := Aside0.mk (Kd.R_below (kr_ HO_4.out) hb); replace HO_6 := Aside0.mk (Kd.R_below (kr_ HO_6.out) hb); replace HO_7 := Aside0.mk (Kd.R_below (kr_ HO_7.out) hb); replace HO524 := Aside0.mk (Kd.R_below (kr_ HO524.out) hb); replace HB := Aside0.mk (below_step (hb0_ HB.out) hb); (try clear hb); (try clear hb2); (try clear hk); (try clear hi)) | (go_at_call 15; (with_reducible refine (impl_IsLabyrinth.calls kj6 _ _ t502 t527 _ ?side1 ?side2 A27.out).mono ?_); (case side1 => repeat (first | exact (Kd.R_reads' HO_3.out).2.2 | (with_reducible refine Kd.C_alloc ?_ _) | (with_reducible refine Kd.C_drewN ?_ _) | (with_reducible refine Kd.C_drew ?_))); (case side2 => exact (Kd.R_reads' HO_3.out).2.1); rintro e w36 ⟨rfl, hb⟩; replace HO_3 := Aside0.mk (Kd.R_below (kr_ HO_3.out) hb); replace HO_4 := Aside0.mk (Kd.R_below (kr_ HO_4.out) hb); replace HO_6 := Aside0.mk (Kd.R_below (kr_ HO_6.out) hb); replace HO_7 := Aside0.mk (Kd.R_below (kr_ HO_7.out) hb); replace HO524 := Aside0.mk (Kd.R_below (kr_ HO524.out) hb); replace HB := Aside0.mk (below_step (hb0_ HB.out) hb); (try clear hb); (try clear hb2); (try clear hk); (try clear hi)) | (go_at_call 16; (with_reducible refine (impl_StepPairs.calls kj6 _ _ t502 0 t528 _ ?side1 ?side2 A30.out).mono ?_); (case side1 => repeat (first | exact (Kd.R_reads' HO_3.out).2.2 | (with_reducible refine Kd.C_alloc ?_ _) | (with_reducible refine Kd.C_drewN ?_ _) | (with_reducible refine Kd.C_drew ?_))); (case side2 => exact (Kd.R_reads' HO_3.out).2.1); rintro e w37 ⟨v529, rfl, ho0, hb⟩; have n0_ := Aside0.mk (Kd.R_below (kr_ HO_3.out) hb); have n1_ := Aside0.mk (Kd.R_below (kr_ HO_4.out) hb); have n2_ := Aside0.mk (Kd.R_below (kr_ HO_6.out) hb); have n3_ := Aside0.mk (Kd.R_below (kr_ HO_7.out) hb); have n4_ := Aside0.mk (Kd.R_below (kr_ HO524.out) hb); have n5_ := Aside0.mk (Kd.S_lower (Kd.S_new' (Kd.S_new' (Kd.S_new' (Kd.S_new' (Kd.S_new' ho0 (Kd.R_lt (kr_ HO_3.out))) (Kd.R_lt (kr_ HO_4.out))) (Kd.R_lt (kr_ HO_6.out))) (Kd.R_lt (kr_ HO_7.out))) (Kd.R_lt (kr_ HO524.out))) (below_size (hb0_ HB.out))); have n6_ := Aside0.mk (below_step (hb0_ HB.out) hb); clear HO_3; clear HO_4; clear HO_6; clear HO_7; clear HO524; clear HB; have HO_3 := n0_; have HO_4 := n1_; have HO_6 := n2_; have HO_7 := n3_; have HO524 := n4_; have HO530 := n5_; have HB := n6_; clear n0_ n1_ n2_ n3_ n4_ n5_ n6_; (try clear hb); (try clear hb2); (try clear hk); (try clear hi); (try clear ho0); obtain ⟨Ao38, co38, eo38⟩ := Kd.S_slice HO530.out; subst eo38) | (go_at_call 16; (with_reducible refine (impl_StepPairs.calls kj6 _ _ t502 1 t531 _ ?side1 ?side2 A31.out).mono ?_); (case side1 => repeat (first | exact (Kd.R_reads' HO_3.out).2.2 | (with_reducible refine Kd.C_alloc ?_ _) | (with_reducible refine Kd.C_drewN ?_ _) | (with_reducible refine Kd.C_drew ?_))); (case side2 => exact (Kd.R_reads' HO_3.out).2.1); rintro e w39 ⟨v532, rfl, ho0, hb⟩; have n0_ := Aside0.mk (Kd.R_below (kr_ HO_3.out) hb); have n1_ := Aside0.mk (Kd.R_below (kr_ HO_4.out) hb); have n2_ := Aside0.mk (Kd.R_below (kr_ HO_6.out) hb); have n3_ := Aside0.mk (Kd.R_below (kr_ HO_7.out) hb); have n4_ := Aside0.mk (Kd.R_below (kr_ HO524.out) hb); have n5_ := Aside0.mk (Kd.S_elder' (by (with_reducible repeat (first | apply Kd.S_alloc | apply Kd.S_drewN | apply Kd.S_drew)); exact HO530.out) (Kd.S_base ho0) hb); have n6_ := Aside0.mk (Kd.S_lower (Kd.S_new' (Kd.S_new' (Kd.S_new' (Kd.S_new' (Kd.S_new' (Kd.S_new' ho0 (Kd.R_lt (kr_ HO_3.out))) (Kd.R_lt (kr_ HO_4.out))) (Kd.R_lt (kr_ HO_6.out))) (Kd.R_lt (kr_ HO_7.out))) (Kd.R_lt (kr_ HO524.out))) (Kd.S_lt (by (with_reducible repeat (first | apply Kd.S_alloc | apply Kd.S_drewN | apply Kd.S_drew)); exact HO530.out))) (below_size (hb0_ HB.out))); have n7_ := Aside0.mk (below_step (hb0_ HB.out) hb); clear HO_3; clear HO_4; clear HO_6; clear HO_7; clear HO524; clear HO530; clear HB; have HO_3 := n0_; have HO_4 := n1_; have HO_6 := n2_; have HO_7 := n3_; have HO524 := n4_; have HO530 := n5_; have HO533 := n6_; have HB := n7_; clear n0_ n1_ n2_ n3_ n4_ n5_ n6_ n7_; (try clear hb); (try clear hb2); (try clear hk); (try clear hi); (try clear ho0); obtain ⟨Ao40, co40, eo40⟩ := Kd.S_slice HO533.out; subst eo40))
        go_ret
        exact ⟨by first | rfl | (simp [errW_none, errW_some] <;> rfl) | (simp [*, errW_none, errW_some] <;> rfl), hb0_ HB.out⟩
       ·rw [if_neg c29] at H
        have c29b0 : ((Int.tmod t508 6) == 5) = false := beq_eq_false_iff_ne.mpr c29
        have c29b1 : ((Int.tmod t508 6) != 5) = true := bne_iff_ne.mpr c29
        replace H := Option.bind_eq_some_iff.mp H
        obtain ⟨t534, A410, H⟩ := H
        replace H : (if t534 = true then ((impl_IsLabyrinth.f kj6 x7_6).bind fun t535 => (if t535 = true then ((impl_StepPairs.f kj6 t502 0).bind fun t536 => ((impl_StepPairs.f kj6 t502 1).bind fun t539 => (some ((wrap64 ((t536.length : Int) + (t539.length : Int))) == (wrap64 ((t502.length : Int) + 1)))))) else (some false))) else (some false)) = some r := H
        have A41 := Aside0.mk A410
        clear A410
        by_cases c42 : t534 = true
        ·subst c42
         have H1 : ((impl_IsLabyrinth.f kj6 x7_6).bind fun t535 => (if t535 = true then ((impl_StepPairs.f kj6 t502 0).bind fun t536 => ((impl_StepPairs.f kj6 t502 1).bind fun t539 => (some ((wrap64 ((t536.length : Int) + (t539.length : Int))) == (wrap64 ((t502.length : Int) + 1)))))) else (some false))) = some r := by rw [if_pos rfl] at H; exact H
         clear H
         have H := H1
         clear H1
         replace H := Option.bind_eq_some_iff.mp H
         obtain ⟨t535, A430, H⟩ := H
         replace H : (if t535 = true then ((impl_StepPairs.f kj6 t502 0).bind fun t536 => ((impl_StepPairs.f kj6 t502 1).bind fun t539 => (some ((wrap64 ((t536.length : Int) + (t539.length : Int))) == (wrap64 ((t502.length : Int) + 1)))))) else (some false)) = some r := H
         have A43 := Aside0.mk A430
         clear A430
         by_cases c44 : t535 = true
         ·subst c44
          have H1 : ((impl_StepPairs.f kj6 t502 0).bind fun t536 => ((impl_StepPairs.f kj6 t502 1).bind fun t539 => (some ((wrap64 ((t536.length : Int) + (t539.length : Int))) == (wrap64 ((t502.length : Int) + 1)))))) = some r := by rw [if_pos rfl] at H; exact H
          clear H
          have H := H1
          clear H1
          replace H := Option.bind_eq_some_iff.mp H
          obtain ⟨t536, A450, H⟩ := H
          replace H : ((impl_StepPairs.f kj6 t502 1).bind fun t539 => (some ((wrap64 ((t536.length : Int) + (t539.length : Int))) == (wrap64 ((t502.length : Int) + 1))))) = some r := H
          have A45 := Aside0.mk A450
          clear A450
          replace H := Option.bind_eq_some_iff.mp H
          obtain ⟨t539, A460, H⟩ := H
          replace H : (some ((wrap64 ((t536.length : Int) + (t539.length : Int))) == (wrap64 ((t502.length : Int) + 1)))) = some r := H
          have A46 := Aside0.mk A460
          clear A460
          obtain rfl := Option.some.inj H
          obtain ⟨Ao47, co47, eo47⟩ := Kd.R_slice HO_4.out
          subst eo47
          go_wp2_with (first | ((with_reducible refine gate_callee (f := 13) rfl ?_); refine goesL_ (some 44) rfl rfl Try.func13 (by kernel_rfl) rfl #[.slice Ao47 t505.length co47] rfl (ml_) ?_; (with_reducible refine (impl_CircuitsOk.calls kj6 _ _ t505 true _ ?side1 ?side2 A21.out).mono ?_); (case side1 => repeat (first | exact (Kd.R_reads' HO_4.out).2.2 | (with_reducible refine Kd.C_alloc ?_ _) | (with_reducible refine Kd.C_drewN ?_ _) | (with_reducible refine Kd.C_drew ?_))); (case side2 => exact (Kd.R_reads' HO_4.out).2.1); rintro e w' ⟨rfl, ⟨nd, rfl⟩⟩; refine ⟨_, rfl, ?_⟩) | (go_at_call 11; (with_reducible refine (impl_TurnInside.calls kj6 _ _ t505 t522 _ ?side1 ?side2 A23.out).mono ?_); (case side1 => repeat (first | exact (Kd.R_reads' HO_4.out).2.2 | (with_reducible refine Kd.C_alloc ?_ _) | (with_reducible refine Kd.C_drewN ?_ _) | (with_reducible refine Kd.C_drew ?_))); (case side2 => exact (Kd.R_reads' HO_4.out).2.1); rintro e w48 ⟨v523, rfl, ho0, hb⟩; have n0_ := Aside0.mk (Kd.R_elder' (kr_ HO_3.out) (Kd.R_base ho0) hb); have n1_ := Aside0.mk (Kd.R_elder' (kr_ HO_4.out) (Kd.R_base ho0) hb); have n2_ := Aside0.mk (Kd.R_elder' (kr_ HO_6.out) (Kd.R_base ho0) hb); have n3_ := Aside0.mk (Kd.R_elder' (kr_ HO_7.out) (Kd.R_base ho0) hb); have n4_ := Aside0.mk (Kd.R_lower (Kd.R_new' (Kd.R_new' (Kd.R_new' (Kd.R_new' ho0 (Kd.R_lt (kr_ HO_3.out))) (Kd.R_lt (kr_ HO_4.out))) (Kd.R_lt (kr_ HO_6.out))) (Kd.R_lt (kr_ HO_7.out))) (below_size (hb0_ HB.out))); have n5_ := Aside0.mk (below_step (hb0_ HB.out) hb); clear HO_3; clear HO_4; clear HO_6; clear HO_7; clear HB; have HO_3 := n0_; have HO_4 := n1_; have HO_6 := n2_; have HO_7 := n3_; have HO524 := n4_; have HB := n5_; clear n0_ n1_ n2_ n3_ n4_ n5_; (try clear hb); (try clear hb2); (try clear hk); (try clear hi); (try clear ho0); obtain ⟨Ao49, co49, eo49⟩ := Kd.R_slice HO524.out; subst eo49) | (go_at_call 14; (with_reducible refine (laws_sameInts.calls kj6 _ _ t522 _ _ t502 true _ ?side1 ?side2 ?side3 ?side4 A24.out).mono ?_); (case side1 => repeat (first | exact (Kd.R_reads' HO524.out).2.2 | (with_reducible refine Kd.C_alloc ?_ _) | (with_reducible refine Kd.C_drewN ?_ _) | (with_reducible refine Kd.C_drew ?_))); (case side2 => exact (Kd.R_reads' HO524.out).2.1); (case side3 => repeat (first | exact (Kd.R_reads' HO_3.out).2.2 | (with_reducible refine Kd.C_alloc ?_ _) | (with_reducible refine Kd.C_drewN ?_ _) | (with_reducible refine Kd.C_drew ?_))); (case side4 => exact (Kd.R_reads' HO_3.out).2.1); rintro e w' ⟨rfl, ⟨nd, rfl⟩⟩) | (go_at_call 15; (with_reducible refine (impl_IsLabyrinth.calls kj6 _ _ t505 t526 _ ?side1 ?side2 A26.out).mono ?_); (case side1 => repeat (first | exact (Kd.R_reads' HO_4.out).2.2 | (with_reducible refine Kd.C_alloc ?_ _) | (with_reducible refine Kd.C_drewN ?_ _) | (with_reducible refine Kd.C_drew ?_))); (case side2 => exact (Kd.R_reads' HO_4.out).2.1); rintro e w50 ⟨rfl, hb⟩; replace HO_3 := Aside0.mk (Kd.R_below (kr_ HO_3.out) hb); replace HO_4 := Aside0.mk (Kd.R_below (kr_ HO_4.out) hb); replace HO_6 := Aside0.mk (Kd.R_below (kr_ HO_6.out) hb); replace HO_7 := Aside0.mk (Kd.R_below (kr_ HO_7.out) hb); replace HO524 := Aside0.mk (Kd.R_below (kr_ HO524.out) hb); replace HB := Aside0.mk (below_step (hb0_ HB.out) hb); (try clear hb); (try clear hb2); (try clear hk); (try clear hi)) | (go_at_call 15; (with_reducible refine (impl_IsLabyrinth.calls kj6 _ _ t502 t527 _ ?side1 ?side2 A27.out).mono ?_); (case side1 => repeat (first | exact (Kd.R_reads' HO_3.out).2.2 | (with_reducible refine Kd.C_alloc ?_ _) | (with_reducible refine Kd.C_drewN ?_ _) | (with_reducible refine Kd.C_drew ?_))); (case side2 => exact (Kd.R_reads' HO_3.out).2.1); rintro e w51 ⟨rfl, hb⟩; replace HO_3 := Aside0.mk (Kd.R_below (kr_ HO_3.out) hb); replace HO_4 := Aside0.mk (Kd.R_below (kr_ HO_4.out) hb); replace HO_6 := Aside0.mk (Kd.R_below (kr_ HO_6.out) hb); replace HO_7 := Aside0.mk (Kd.R_below (kr_ HO_7.out) hb); replace HO524 := Aside0.mk (Kd.R_below (kr_ HO524.out) hb); replace HB := Aside0.mk (below_step (hb0_ HB.out) hb); (try clear hb); (try clear hb2); (try clear hk); (try clear hi); obtain ⟨Ao52, co52, eo52⟩ := Kd.R_slice HO_6.out; subst eo52) | (go_at_call 15; (with_reducible refine (impl_IsLabyrinth.calls kj6 _ _ x6_6 true _ ?side1 ?side2 A41.out).mono ?_); (case side1 => repeat (first | exact (Kd.R_reads' HO_6.out).2.2 | (with_reducible refine Kd.C_alloc ?_ _) | (with_reducible refine Kd.C_drewN ?_ _) | (with_reducible refine Kd.C_drew ?_))); (case side2 => exact (Kd.R_reads' HO_6.out).2.1); rintro e w53 ⟨rfl, hb⟩; replace HO_3 := Aside0.mk (Kd.R_below (kr_ HO_3.out) hb); replace HO_4 := Aside0.mk (Kd.R_below (kr_ HO_4.out) hb); replace HO_6 := Aside0.mk (Kd.R_below (kr_ HO_6.out) hb); replace HO_7 := Aside0.mk (Kd.R_below (kr_ HO_7.out) hb); replace HO524 := Aside0.mk (Kd.R_below (kr_ HO524.out) hb); replace HB := Aside0.mk (below_step (hb0_ HB.out) hb); (try clear hb); (try clear hb2); (try clear hk); (try clear hi); obtain ⟨Ao54, co54, eo54⟩ := Kd.R_slice HO_7.out; subst eo54) | (go_at_call 15; (with_reducible refine (impl_IsLabyrinth.calls kj6 _ _ x7_6 true _ ?side1 ?side2 A43.out).mono ?_); (case side1 => repeat (first | exact (Kd.R_reads' HO_7.out).2.2 | (with_reducible refine Kd.C_alloc ?_ _) | (with_reducible refine Kd.C_drewN ?_ _) | (with_reducible refine Kd.C_drew ?_))); (case side2 => exact (Kd.R_reads' HO_7.out).2.1); rintro e w55 ⟨rfl, hb⟩; replace HO_3 := Aside0.mk (Kd.R_below (kr_ HO_3.out) hb); replace HO_4 := Aside0.mk (Kd.R_below (kr_ HO_4.out) hb); replace HO_6 := Aside0.mk (Kd.R_below (kr_ HO_6.out) hb); replace HO_7 := Aside0.mk (Kd.R_below (kr_ HO_7.out) hb); replace HO524 := Aside0.mk (Kd.R_below (kr_ HO524.out) hb); replace HB := Aside0.mk (below_step (hb0_ HB.out) hb); (try clear hb); (try clear hb2); (try clear hk); (try clear hi)) | (go_at_call 16; (with_reducible refine (impl_StepPairs.calls kj6 _ _ t502 0 t536 _ ?side1 ?side2 A45.out).mono ?_); (case side1 => repeat (first | exact (Kd.R_reads' HO_3.out).2.2 | (with_reducible refine Kd.C_alloc ?_ _) | (with_reducible refine Kd.C_drewN ?_ _) | (with_reducible refine Kd.C_drew ?_))); (case side2 => exact (Kd.R_reads' HO_3.out).2.1); rintro e w56 ⟨v537, rfl, ho0, hb⟩; have n0_ := Aside0.mk (Kd.R_below (kr_ HO_3.out) hb); have n1_ := Aside0.mk (Kd.R_below (kr_ HO_4.out) hb); have n2_ := Aside0.mk (Kd.R_below (kr_ HO_6.out) hb); have n3_ := Aside0.mk (Kd.R_below (kr_ HO_7.out) hb); have n4_ := Aside0.mk (Kd.R_below (kr_ HO524.out) hb); have n5_ := Aside0.mk (Kd.S_lower (Kd.S_new' (Kd.S_new' (Kd.S_new' (Kd.S_new' (Kd.S_new' ho0 (Kd.R_lt (kr_ HO_3.out))) (Kd.R_lt (kr_ HO_4.out))) (Kd.R_lt (kr_ HO_6.out))) (Kd.R_lt (kr_ HO_7.out))) (Kd.R_lt (kr_ HO524.out))) (below_size (hb0_ HB.out))); have n6_ := Aside0.mk (below_step (hb0_ HB.out) hb); clear HO_3; clear HO_4; clear HO_6; clear HO_7; clear HO524; clear HB; have HO_3 := n0_; have HO_4 := n1_; have HO_6 := n2_; have HO_7 := n3_; have HO524 := n4_; have HO538 := n5_; have HB := n6_; clear n0_ n1_ n2_ n3_ n4_ n5_ n6_; (try clear hb); (try clear hb2); (try clear hk); (try clear hi); (try clear ho0); obtain ⟨Ao57, co57, eo57⟩ := Kd.S_slice HO538.out; subst eo57) | (go_at_call 16; (with_reducible refine (impl_StepPairs.calls kj6 _ _ t502 1 t539 _ ?side1 ?side2 A46.out).mono ?_); (case side1 => repeat (first | exact (Kd.R_reads' HO_3.out).2.2 | (with_reducible refine Kd.C_alloc ?_ _) | (with_reducible refine Kd.C_drewN ?_ _) | (with_reducible refine Kd.C_drew ?_))); (case side2 => exact (Kd.R_reads' HO_3.out).2.1); rintro e w58 ⟨v540, rfl, ho0, hb⟩; have n0_ := Aside0.mk (Kd.R_below (kr_ HO_3.out) hb); have n1_ := Aside0.mk (Kd.R_below (kr_ HO_4.out) hb); have n2_ := Aside0.mk (Kd.R_below (kr_ HO_6.out) hb); have n3_ := Aside0.mk (Kd.R_below (kr_ HO_7.out) hb); have n4_ := Aside0.mk (Kd.R_below (kr_ HO524.out) hb); have n5_ := Aside0.mk (Kd.S_elder' (by (with_reducible repeat (first | apply Kd.S_alloc | apply Kd.S_drewN | apply Kd.S_drew)); exact HO538.out) (Kd.S_base ho0) hb); have n6_ := Aside0.mk (Kd.S_lower (Kd.S_new' (Kd.S_new' (Kd.S_new' (Kd.S_new' (Kd.S_new' (Kd.S_new' ho0 (Kd.R_lt (kr_ HO_3.out))) (Kd.R_lt (kr_ HO_4.out))) (Kd.R_lt (kr_ HO_6.out))) (Kd.R_lt (kr_ HO_7.out))) (Kd.R_lt (kr_ HO524.out))) (Kd.S_lt (by (with_reducible repeat (first | apply Kd.S_alloc | apply Kd.S_drewN | apply Kd.S_drew)); exact HO538.out))) (below_size (hb0_ HB.out))); have n7_ := Aside0.mk (below_step (hb0_ HB.out) hb); clear HO_3; clear HO_4; clear HO_6; clear HO_7; clear HO524; clear HO538; clear HB; have HO_3 := n0_; have HO_4 := n1_; have HO_6 := n2_; have HO_7 := n3_; have HO524 := n4_; have HO538 := n5_; have HO541 := n6_; have HB := n7_; clear n0_ n1_ n2_ n3_ n4_ n5_ n6_ n7_; (try clear hb); (try clear hb2); (try clear hk); (try clear hi); (try clear ho0); obtain ⟨Ao59, co59, eo59⟩ := Kd.S_slice HO541.out; subst eo59))
          go_ret
          exact ⟨by first | rfl | (simp [errW_none, errW_some] <;> rfl) | (simp [*, errW_none, errW_some] <;> rfl), hb0_ HB.out⟩
         ·replace c44 := Bool.eq_false_iff.mpr c44
          subst c44
          have H1 : (some false) = some r := by rw [if_neg (show ¬ (false = true) by decide)] at H; exact H
          clear H
          have H := H1
          clear H1
          obtain rfl := Option.some.inj H
          obtain ⟨Ao60, co60, eo60⟩ := Kd.R_slice HO_4.out
          subst eo60
          go_wp2_with (first | ((with_reducible refine gate_callee (f := 13) rfl ?_); refine goesL_ (some 44) rfl rfl Try.func13 (by kernel_rfl) rfl #[.slice Ao60 t505.length co60] rfl (ml_) ?_; (with_reducible refine (impl_CircuitsOk.calls kj6 _ _ t505 true _ ?side1 ?side2 A21.out).mono ?_); (case side1 => repeat (first | exact (Kd.R_reads' HO_4.out).2.2 | (with_reducible refine Kd.C_alloc ?_ _) | (with_reducible refine Kd.C_drewN ?_ _) | (with_reducible refine Kd.C_drew ?_))); (case side2 => exact (Kd.R_reads' HO_4.out).2.1); rintro e w' ⟨rfl, ⟨nd, rfl⟩⟩; refine ⟨_, rfl, ?_⟩) | (go_at_call 11; (with_reducible refine (impl_TurnInside.calls kj6 _ _ t505 t522 _ ?side1 ?side2 A23.out).mono ?_); (case side1 => repeat (first | exact (Kd.R_reads' HO_4.out).2.2 | (with_reducible refine Kd.C_alloc ?_ _) | (with_reducible refine Kd.C_drewN ?_ _) | (with_reducible refine Kd.C_drew ?_))); (case side2 => exact (Kd.R_reads' HO_4.out).2.1); rintro e w61 ⟨v523, rfl, ho0, hb⟩; have n0_ := Aside0.mk (Kd.R_elder' (kr_ HO_3.out) (Kd.R_base ho0) hb); have n1_ := Aside0.mk (Kd.R_elder' (kr_ HO_4.out) (Kd.R_base ho0) hb); have n2_ := Aside0.mk (Kd.R_elder' (kr_ HO_6.out) (Kd.R_base ho0) hb); have n3_ := Aside0.mk (Kd.R_elder' (kr_ HO_7.out) (Kd.R_base ho0) hb); have n4_ := Aside0.mk (Kd.R_lower (Kd.R_new' (Kd.R_new' (Kd.R_new' (Kd.R_new' ho0 (Kd.R_lt (kr_ HO_3.out))) (Kd.R_lt (kr_ HO_4.out))) (Kd.R_lt (kr_ HO_6.out))) (Kd.R_lt (kr_ HO_7.out))) (below_size (hb0_ HB.out))); have n5_ := Aside0.mk (below_step (hb0_ HB.out) hb); clear HO_3; clear HO_4; clear HO_6; clear HO_7; clear HB; have HO_3 := n0_; have HO_4 := n1_; have HO_6 := n2_; have HO_7 := n3_; have HO524 := n4_; have HB := n5_; clear n0_ n1_ n2_ n3_ n4_ n5_; (try clear hb); (try clear hb2); (try clear hk); (try clear hi); (try clear ho0); obtain ⟨Ao62, co62, eo62⟩ := Kd.R_slice HO524.out; subst eo62) | (go_at_call 14; (with_reducible refine (laws_sameInts.calls kj6 _ _ t522 _ _ t502 true _ ?side1 ?side2 ?side3 ?side4 A24.out).mono ?_); (case side1 => repeat (first | exact (Kd.R_reads' HO524.out).2.2 | (with_reducible refine Kd.C_alloc ?_ _) | (with_reducible refine Kd.C_drewN ?_ _) | (with_reducible refine Kd.C_drew ?_))); (case side2 => exact (Kd.R_reads' HO524.out).2.1); (case side3 => repeat (first | exact (Kd.R_reads' HO_3.out).2.2 | (with_reducible refine Kd.C_alloc ?_ _) | (with_reducible refine Kd.C_drewN ?_ _) | (with_reducible refine Kd.C_drew ?_))); (case side4 => exact (Kd.R_reads' HO_3.out).2.1); rintro e w' ⟨rfl, ⟨nd, rfl⟩⟩) | (go_at_call 15; (with_reducible refine (impl_IsLabyrinth.calls kj6 _ _ t505 t526 _ ?side1 ?side2 A26.out).mono ?_); (case side1 => repeat (first | exact (Kd.R_reads' HO_4.out).2.2 | (with_reducible refine Kd.C_alloc ?_ _) | (with_reducible refine Kd.C_drewN ?_ _) | (with_reducible refine Kd.C_drew ?_))); (case side2 => exact (Kd.R_reads' HO_4.out).2.1); rintro e w63 ⟨rfl, hb⟩; replace HO_3 := Aside0.mk (Kd.R_below (kr_ HO_3.out) hb); replace HO_4 := Aside0.mk (Kd.R_below (kr_ HO_4.out) hb); replace HO_6 := Aside0.mk (Kd.R_below (kr_ HO_6.out) hb); replace HO_7 := Aside0.mk (Kd.R_below (kr_ HO_7.out) hb); replace HO524 := Aside0.mk (Kd.R_below (kr_ HO524.out) hb); replace HB := Aside0.mk (below_step (hb0_ HB.out) hb); (try clear hb); (try clear hb2); (try clear hk); (try clear hi)) | (go_at_call 15; (with_reducible refine (impl_IsLabyrinth.calls kj6 _ _ t502 t527 _ ?side1 ?side2 A27.out).mono ?_); (case side1 => repeat (first | exact (Kd.R_reads' HO_3.out).2.2 | (with_reducible refine Kd.C_alloc ?_ _) | (with_reducible refine Kd.C_drewN ?_ _) | (with_reducible refine Kd.C_drew ?_))); (case side2 => exact (Kd.R_reads' HO_3.out).2.1); rintro e w64 ⟨rfl, hb⟩; replace HO_3 := Aside0.mk (Kd.R_below (kr_ HO_3.out) hb); replace HO_4 := Aside0.mk (Kd.R_below (kr_ HO_4.out) hb); replace HO_6 := Aside0.mk (Kd.R_below (kr_ HO_6.out) hb); replace HO_7 := Aside0.mk (Kd.R_below (kr_ HO_7.out) hb); replace HO524 := Aside0.mk (Kd.R_below (kr_ HO524.out) hb); replace HB := Aside0.mk (below_step (hb0_ HB.out) hb); (try clear hb); (try clear hb2); (try clear hk); (try clear hi); obtain ⟨Ao65, co65, eo65⟩ := Kd.R_slice HO_6.out; subst eo65) | (go_at_call 15; (with_reducible refine (impl_IsLabyrinth.calls kj6 _ _ x6_6 true _ ?side1 ?side2 A41.out).mono ?_); (case side1 => repeat (first | exact (Kd.R_reads' HO_6.out).2.2 | (with_reducible refine Kd.C_alloc ?_ _) | (with_reducible refine Kd.C_drewN ?_ _) | (with_reducible refine Kd.C_drew ?_))); (case side2 => exact (Kd.R_reads' HO_6.out).2.1); rintro e w66 ⟨rfl, hb⟩; replace HO_3 := Aside0.mk (Kd.R_below (kr_ HO_3.out) hb); replace HO_4 := Aside0.mk (Kd.R_below (kr_ HO_4.out) hb); replace HO_6 := Aside0.mk (Kd.R_below (kr_ HO_6.out) hb); replace HO_7 := Aside0.mk (Kd.R_below (kr_ HO_7.out) hb); replace HO524 := Aside0.mk (Kd.R_below (kr_ HO524.out) hb); replace HB := Aside0.mk (below_step (hb0_ HB.out) hb); (try clear hb); (try clear hb2); (try clear hk); (try clear hi); obtain ⟨Ao67, co67, eo67⟩ := Kd.R_slice HO_7.out; subst eo67) | (go_at_call 15; (with_reducible refine (impl_IsLabyrinth.calls kj6 _ _ x7_6 false _ ?side1 ?side2 A43.out).mono ?_); (case side1 => repeat (first | exact (Kd.R_reads' HO_7.out).2.2 | (with_reducible refine Kd.C_alloc ?_ _) | (with_reducible refine Kd.C_drewN ?_ _) | (with_reducible refine Kd.C_drew ?_))); (case side2 => exact (Kd.R_reads' HO_7.out).2.1); rintro e w68 ⟨rfl, hb⟩; replace HO_3 := Aside0.mk (Kd.R_below (kr_ HO_3.out) hb); replace HO_4 := Aside0.mk (Kd.R_below (kr_ HO_4.out) hb); replace HO_6 := Aside0.mk (Kd.R_below (kr_ HO_6.out) hb); replace HO_7 := Aside0.mk (Kd.R_below (kr_ HO_7.out) hb); replace HO524 := Aside0.mk (Kd.R_below (kr_ HO524.out) hb); replace HB := Aside0.mk (below_step (hb0_ HB.out) hb); (try clear hb); (try clear hb2); (try clear hk); (try clear hi)))
          go_ret
          exact ⟨by first | rfl | (simp [errW_none, errW_some] <;> rfl) | (simp [*, errW_none, errW_some] <;> rfl), hb0_ HB.out⟩
        ·replace c42 := Bool.eq_false_iff.mpr c42
         subst c42
         have H1 : (some false) = some r := by rw [if_neg (show ¬ (false = true) by decide)] at H; exact H
         clear H
         have H := H1
         clear H1
         obtain rfl := Option.some.inj H
         obtain ⟨Ao69, co69, eo69⟩ := Kd.R_slice HO_4.out
         subst eo69
         go_wp2_with (first | ((with_reducible refine gate_callee (f := 13) rfl ?_); refine goesL_ (some 44) rfl rfl Try.func13 (by kernel_rfl) rfl #[.slice Ao69 t505.length co69] rfl (ml_) ?_; (with_reducible refine (impl_CircuitsOk.calls kj6 _ _ t505 true _ ?side1 ?side2 A21.out).mono ?_); (case side1 => repeat (first | exact (Kd.R_reads' HO_4.out).2.2 | (with_reducible refine Kd.C_alloc ?_ _) | (with_reducible refine Kd.C_drewN ?_ _) | (with_reducible refine Kd.C_drew ?_))); (case side2 => exact (Kd.R_reads' HO_4.out).2.1); rintro e w' ⟨rfl, ⟨nd, rfl⟩⟩; refine ⟨_, rfl, ?_⟩) | (go_at_call 11; (with_reducible refine (impl_TurnInside.calls kj6 _ _ t505 t522 _ ?side1 ?side2 A23.out).mono ?_); (case side1 => repeat (first | exact (Kd.R_reads' HO_4.out).2.2 | (with_reducible refine Kd.C_alloc ?_ _) | (with_reducible refine Kd.C_drewN ?_ _) | (with_reducible refine Kd.C_drew ?_))); (case side2 => exact (Kd.R_reads' HO_4.out).2.1); rintro e w70 ⟨v523, rfl, ho0, hb⟩; have n0_ := Aside0.mk (Kd.R_elder' (kr_ HO_3.out) (Kd.R_base ho0) hb); have n1_ := Aside0.mk (Kd.R_elder' (kr_ HO_4.out) (Kd.R_base ho0) hb); have n2_ := Aside0.mk (Kd.R_elder' (kr_ HO_6.out) (Kd.R_base ho0) hb); have n3_ := Aside0.mk (Kd.R_elder' (kr_ HO_7.out) (Kd.R_base ho0) hb); have n4_ := Aside0.mk (Kd.R_lower (Kd.R_new' (Kd.R_new' (Kd.R_new' (Kd.R_new' ho0 (Kd.R_lt (kr_ HO_3.out))) (Kd.R_lt (kr_ HO_4.out))) (Kd.R_lt (kr_ HO_6.out))) (Kd.R_lt (kr_ HO_7.out))) (below_size (hb0_ HB.out))); have n5_ := Aside0.mk (below_step (hb0_ HB.out) hb); clear HO_3; clear HO_4; clear HO_6; clear HO_7; clear HB; have HO_3 := n0_; have HO_4 := n1_; have HO_6 := n2_; have HO_7 := n3_; have HO524 := n4_; have HB := n5_; clear n0_ n1_ n2_ n3_ n4_ n5_; (try clear hb); (try clear hb2); (try clear hk); (try clear hi); (try clear ho0); obtain ⟨Ao71, co71, eo71⟩ := Kd.R_slice HO524.out; subst eo71) | (go_at_call 14; (with_reducible refine (laws_sameInts.calls kj6 _ _ t522 _ _ t502 true _ ?side1 ?side2 ?side3 ?side4 A24.out).mono ?_); (case side1 => repeat (first | exact (Kd.R_reads' HO524.out).2.2 | (with_reducible refine Kd.C_alloc ?_ _) | (with_reducible refine Kd.C_drewN ?_ _) | (with_reducible refine Kd.C_drew ?_))); (case side2 => exact (Kd.R_reads' HO524.out).2.1); (case side3 => repeat (first | exact (Kd.R_reads' HO_3.out).2.2 | (with_reducible refine Kd.C_alloc ?_ _) | (with_reducible refine Kd.C_drewN ?_ _) | (with_reducible refine Kd.C_drew ?_))); (case side4 => exact (Kd.R_reads' HO_3.out).2.1); rintro e w' ⟨rfl, ⟨nd, rfl⟩⟩) | (go_at_call 15; (with_reducible refine (impl_IsLabyrinth.calls kj6 _ _ t505 t526 _ ?side1 ?side2 A26.out).mono ?_); (case side1 => repeat (first | exact (Kd.R_reads' HO_4.out).2.2 | (with_reducible refine Kd.C_alloc ?_ _) | (with_reducible refine Kd.C_drewN ?_ _) | (with_reducible refine Kd.C_drew ?_))); (case side2 => exact (Kd.R_reads' HO_4.out).2.1); rintro e w72 ⟨rfl, hb⟩; replace HO_3 := Aside0.mk (Kd.R_below (kr_ HO_3.out) hb); replace HO_4 := Aside0.mk (Kd.R_below (kr_ HO_4.out) hb); replace HO_6 := Aside0.mk (Kd.R_below (kr_ HO_6.out) hb); replace HO_7 := Aside0.mk (Kd.R_below (kr_ HO_7.out) hb); replace HO524 := Aside0.mk (Kd.R_below (kr_ HO524.out) hb); replace HB := Aside0.mk (below_step (hb0_ HB.out) hb); (try clear hb); (try clear hb2); (try clear hk); (try clear hi)) | (go_at_call 15; (with_reducible refine (impl_IsLabyrinth.calls kj6 _ _ t502 t527 _ ?side1 ?side2 A27.out).mono ?_); (case side1 => repeat (first | exact (Kd.R_reads' HO_3.out).2.2 | (with_reducible refine Kd.C_alloc ?_ _) | (with_reducible refine Kd.C_drewN ?_ _) | (with_reducible refine Kd.C_drew ?_))); (case side2 => exact (Kd.R_reads' HO_3.out).2.1); rintro e w73 ⟨rfl, hb⟩; replace HO_3 := Aside0.mk (Kd.R_below (kr_ HO_3.out) hb); replace HO_4 := Aside0.mk (Kd.R_below (kr_ HO_4.out) hb); replace HO_6 := Aside0.mk (Kd.R_below (kr_ HO_6.out) hb); replace HO_7 := Aside0.mk (Kd.R_below (kr_ HO_7.out) hb); replace HO524 := Aside0.mk (Kd.R_below (kr_ HO524.out) hb); replace HB := Aside0.mk (below_step (hb0_ HB.out) hb); (try clear hb); (try clear hb2); (try clear hk); (try clear hi); obtain ⟨Ao74, co74, eo74⟩ := Kd.R_slice HO_6.out; subst eo74) | (go_at_call 15; (with_reducible refine (impl_IsLabyrinth.calls kj6 _ _ x6_6 false _ ?side1 ?side2 A41.out).mono ?_); (case side1 => repeat (first | exact (Kd.R_reads' HO_6.out).2.2 | (with_reducible refine Kd.C_alloc ?_ _) | (with_reducible refine Kd.C_drewN ?_ _) | (with_reducible refine Kd.C_drew ?_))); (case side2 => exact (Kd.R_reads' HO_6.out).2.1); rintro e w75 ⟨rfl, hb⟩; replace HO_3 := Aside0.mk (Kd.R_below (kr_ HO_3.out) hb); replace HO_4 := Aside0.mk (Kd.R_below (kr_ HO_4.out) hb); replace HO_6 := Aside0.mk (Kd.R_below (kr_ HO_6.out) hb); replace HO_7 := Aside0.mk (Kd.R_below (kr_ HO_7.out) hb); replace HO524 := Aside0.mk (Kd.R_below (kr_ HO524.out) hb); replace HB := Aside0.mk (below_step (hb0_ HB.out) hb); (try clear hb); (try clear hb2); (try clear hk); (try clear hi)))
         go_ret
         exact ⟨by first | rfl | (simp [errW_none, errW_some] <;> rfl) | (simp [*, errW_none, errW_some] <;> rfl), hb0_ HB.out⟩
      ·rw [if_neg c28] at H
       have c28b0 : (t526 == t527) = false := by simpa using c28
       (try (have c28b1 : decide (t526 = t527) = false := by simpa using c28))
       (try (have c28b2 : (t526 == t527) = false := by simpa using c28))
       (try (have c28b3 : ¬ (t526 = t527) := by simpa using c28))
       clear c28
       obtain rfl := Option.some.inj H
       obtain ⟨Ao76, co76, eo76⟩ := Kd.R_slice HO_4.out
       subst eo76
       go_wp2_with (first | ((with_reducible refine gate_callee (f := 13) rfl ?_); refine goesL_ (some 44) rfl rfl Try.func13 (by kernel_rfl) rfl #[.slice Ao76 t505.length co76] rfl (ml_) ?_; (with_reducible refine (impl_CircuitsOk.calls kj6 _ _ t505 true _ ?side1 ?side2 A21.out).mono ?_); (case side1 => repeat (first | exact (Kd.R_reads' HO_4.out).2.2 | (with_reducible refine Kd.C_alloc ?_ _) | (with_reducible refine Kd.C_drewN ?_ _) | (with_reducible refine Kd.C_drew ?_))); (case side2 => exact (Kd.R_reads' HO_4.out).2.1); rintro e w' ⟨rfl, ⟨nd, rfl⟩⟩; refine ⟨_, rfl, ?_⟩) | (go_at_call 11; (with_reducible refine (impl_TurnInside.calls kj6 _ _ t505 t522 _ ?side1 ?side2 A23.out).mono ?_); (case side1 => repeat (first | exact (Kd.R_reads' HO_4.out).2.2 | (with_reducible refine Kd.C_alloc ?_ _) | (with_reducible refine Kd.C_drewN ?_ _) | (with_reducible refine Kd.C_drew ?_))); (case side2 => exact (Kd.R_reads' HO_4.out).2.1); rintro e w77 ⟨v523, rfl, ho0, hb⟩; have n0_ := Aside0.mk (Kd.R_elder' (kr_ HO_3.out) (Kd.R_base ho0) hb); have n1_ := Aside0.mk (Kd.R_elder' (kr_ HO_4.out) (Kd.R_base ho0) hb); have n2_ := Aside0.mk (Kd.R_elder' (kr_ HO_6.out) (Kd.R_base ho0) hb); have n3_ := Aside0.mk (Kd.R_elder' (kr_ HO_7.out) (Kd.R_base ho0) hb); have n4_ := Aside0.mk (Kd.R_lower (Kd.R_new' (Kd.R_new' (Kd.R_new' (Kd.R_new' ho0 (Kd.R_lt (kr_ HO_3.out))) (Kd.R_lt (kr_ HO_4.out))) (Kd.R_lt (kr_ HO_6.out))) (Kd.R_lt (kr_ HO_7.out))) (below_size (hb0_ HB.out))); have n5_ := Aside0.mk (below_step (hb0_ HB.out) hb); clear HO_3; clear HO_4; clear HO_6; clear HO_7; clear HB; have HO_3 := n0_; have HO_4 := n1_; have HO_6 := n2_; have HO_7 := n3_; have HO524 := n4_; have HB := n5_; clear n0_ n1_ n2_ n3_ n4_ n5_; (try clear hb); (try clear hb2); (try clear hk); (try clear hi); (try clear ho0); obtain ⟨Ao78, co78, eo78⟩ := Kd.R_slice HO524.out; subst eo78) | (go_at_call 14; (with_reducible refine (laws_sameInts.calls kj6 _ _ t522 _ _ t502 true _ ?side1 ?side2 ?side3 ?side4 A24.out).mono ?_); (case side1 => repeat (first | exact (Kd.R_reads' HO524.out).2.2 | (with_reducible refine Kd.C_alloc ?_ _) | (with_reducible refine Kd.C_drewN ?_ _) | (with_reducible refine Kd.C_drew ?_))); (case side2 => exact (Kd.R_reads' HO524.out).2.1); (case side3 => repeat (first | exact (Kd.R_reads' HO_3.out).2.2 | (with_reducible refine Kd.C_alloc ?_ _) | (with_reducible refine Kd.C_drewN ?_ _) | (with_reducible refine Kd.C_drew ?_))); (case side4 => exact (Kd.R_reads' HO_3.out).2.1); rintro e w' ⟨rfl, ⟨nd, rfl⟩⟩) | (go_at_call 15; (with_reducible refine (impl_IsLabyrinth.calls kj6 _ _ t505 t526 _ ?side1 ?side2 A26.out).mono ?_); (case side1 => repeat (first | exact (Kd.R_reads' HO_4.out).2.2 | (with_reducible refine Kd.C_alloc ?_ _) | (with_reducible refine Kd.C_drewN ?_ _) | (with_reducible refine Kd.C_drew ?_))); (case side2 => exact (Kd.R_reads' HO_4.out).2.1); rintro e w79 ⟨rfl, hb⟩; replace HO_3 := Aside0.mk (Kd.R_below (kr_ HO_3.out) hb); replace HO_4 := Aside0.mk (Kd.R_below (kr_ HO_4.out) hb); replace HO_6 := Aside0.mk (Kd.R_below (kr_ HO_6.out) hb); replace HO_7 := Aside0.mk (Kd.R_below (kr_ HO_7.out) hb); replace HO524 := Aside0.mk (Kd.R_below (kr_ HO524.out) hb); replace HB := Aside0.mk (below_step (hb0_ HB.out) hb); (try clear hb); (try clear hb2); (try clear hk); (try clear hi)) | (go_at_call 15; (with_reducible refine (impl_IsLabyrinth.calls kj6 _ _ t502 t527 _ ?side1 ?side2 A27.out).mono ?_); (case side1 => repeat (first | exact (Kd.R_reads' HO_3.out).2.2 | (with_reducible refine Kd.C_alloc ?_ _) | (with_reducible refine Kd.C_drewN ?_ _) | (with_reducible refine Kd.C_drew ?_))); (case side2 => exact (Kd.R_reads' HO_3.out).2.1); rintro e w80 ⟨rfl, hb⟩; replace HO_3 := Aside0.mk (Kd.R_below (kr_ HO_3.out) hb); replace HO_4 := Aside0.mk (Kd.R_below (kr_ HO_4.out) hb); replace HO_6 := Aside0.mk (Kd.R_below (kr_ HO_6.out) hb); replace HO_7 := Aside0.mk (Kd.R_below (kr_ HO_7.out) hb); replace HO524 := Aside0.mk (Kd.R_below (kr_ HO524.out) hb); replace HB := Aside0.mk (below_step (hb0_ HB.out) hb); (try clear hb); (try clear hb2); (try clear hk); (try clear hi)))
       go_ret
       exact ⟨by first | rfl | (simp [errW_none, errW_some] <;> rfl) | (simp [*, errW_none, errW_some] <;> rfl), hb0_ HB.out⟩
     ·replace c25 := Bool.eq_false_iff.mpr c25
      subst c25
      have H1 : (some false) = some r := by rw [if_neg (show ¬ (false = true) by decide)] at H; exact H
      clear H
      have H := H1
      clear H1
      obtain rfl := Option.some.inj H
      obtain ⟨Ao81, co81, eo81⟩ := Kd.R_slice HO_4.out
      subst eo81
      go_wp2_with (first | ((with_reducible refine gate_callee (f := 13) rfl ?_); refine goesL_ (some 44) rfl rfl Try.func13 (by kernel_rfl) rfl #[.slice Ao81 t505.length co81] rfl (ml_) ?_; (with_reducible refine (impl_CircuitsOk.calls kj6 _ _ t505 true _ ?side1 ?side2 A21.out).mono ?_); (case side1 => repeat (first | exact (Kd.R_reads' HO_4.out).2.2 | (with_reducible refine Kd.C_alloc ?_ _) | (with_reducible refine Kd.C_drewN ?_ _) | (with_reducible refine Kd.C_drew ?_))); (case side2 => exact (Kd.R_reads' HO_4.out).2.1); rintro e w' ⟨rfl, ⟨nd, rfl⟩⟩; refine ⟨_, rfl, ?_⟩) | (go_at_call 11; (with_reducible refine (impl_TurnInside.calls kj6 _ _ t505 t522 _ ?side1 ?side2 A23.out).mono ?_); (case side1 => repeat (first | exact (Kd.R_reads' HO_4.out).2.2 | (with_reducible refine Kd.C_alloc ?_ _) | (with_reducible refine Kd.C_drewN ?_ _) | (with_reducible refine Kd.C_drew ?_))); (case side2 => exact (Kd.R_reads' HO_4.out).2.1); rintro e w82 ⟨v523, rfl, ho0, hb⟩; have n0_ := Aside0.mk (Kd.R_elder' (kr_ HO_3.out) (Kd.R_base ho0) hb); have n1_ := Aside0.mk (Kd.R_elder' (kr_ HO_4.out) (Kd.R_base ho0) hb); have n2_ := Aside0.mk (Kd.R_elder' (kr_ HO_6.out) (Kd.R_base ho0) hb); have n3_ := Aside0.mk (Kd.R_elder' (kr_ HO_7.out) (Kd.R_base ho0) hb); have n4_ := Aside0.mk (Kd.R_lower (Kd.R_new' (Kd.R_new' (Kd.R_new' (Kd.R_new' ho0 (Kd.R_lt (kr_ HO_3.out))) (Kd.R_lt (kr_ HO_4.out))) (Kd.R_lt (kr_ HO_6.out))) (Kd.R_lt (kr_ HO_7.out))) (below_size (hb0_ HB.out))); have n5_ := Aside0.mk (below_step (hb0_ HB.out) hb); clear HO_3; clear HO_4; clear HO_6; clear HO_7; clear HB; have HO_3 := n0_; have HO_4 := n1_; have HO_6 := n2_; have HO_7 := n3_; have HO524 := n4_; have HB := n5_; clear n0_ n1_ n2_ n3_ n4_ n5_; (try clear hb); (try clear hb2); (try clear hk); (try clear hi); (try clear ho0); obtain ⟨Ao83, co83, eo83⟩ := Kd.R_slice HO524.out; subst eo83) | (go_at_call 14; (with_reducible refine (laws_sameInts.calls kj6 _ _ t522 _ _ t502 false _ ?side1 ?side2 ?side3 ?side4 A24.out).mono ?_); (case side1 => repeat (first | exact (Kd.R_reads' HO524.out).2.2 | (with_reducible refine Kd.C_alloc ?_ _) | (with_reducible refine Kd.C_drewN ?_ _) | (with_reducible refine Kd.C_drew ?_))); (case side2 => exact (Kd.R_reads' HO524.out).2.1); (case side3 => repeat (first | exact (Kd.R_reads' HO_3.out).2.2 | (with_reducible refine Kd.C_alloc ?_ _) | (with_reducible refine Kd.C_drewN ?_ _) | (with_reducible refine Kd.C_drew ?_))); (case side4 => exact (Kd.R_reads' HO_3.out).2.1); rintro e w' ⟨rfl, ⟨nd, rfl⟩⟩))
      go_ret
      exact ⟨by first | rfl | (simp [errW_none, errW_some] <;> rfl) | (simp [*, errW_none, errW_some] <;> rfl), hb0_ HB.out⟩
    ·replace c22 := Bool.eq_false_iff.mpr c22
     subst c22
     have H1 : (some false) = some r := by rw [if_neg (show ¬ (false = true) by decide)] at H; exact H
     clear H
     have H := H1
     clear H1
     obtain rfl := Option.some.inj H
     obtain ⟨Ao84, co84, eo84⟩ := Kd.R_slice HO_4.out
     subst eo84
     go_wp2_with (first | ((with_reducible refine gate_callee (f := 13) rfl ?_); refine goesL_ (some 44) rfl rfl Try.func13 (by kernel_rfl) rfl #[.slice Ao84 t505.length co84] rfl (ml_) ?_; (with_reducible refine (impl_CircuitsOk.calls kj6 _ _ t505 false _ ?side1 ?side2 A21.out).mono ?_); (case side1 => repeat (first | exact (Kd.R_reads' HO_4.out).2.2 | (with_reducible refine Kd.C_alloc ?_ _) | (with_reducible refine Kd.C_drewN ?_ _) | (with_reducible refine Kd.C_drew ?_))); (case side2 => exact (Kd.R_reads' HO_4.out).2.1); rintro e w' ⟨rfl, ⟨nd, rfl⟩⟩; refine ⟨_, rfl, ?_⟩))
     go_ret
     exact ⟨by first | rfl | (simp [errW_none, errW_some] <;> rfl) | (simp [*, errW_none, errW_some] <;> rfl), hb0_ HB.out⟩

/-- THE ONE PURE STATEMENT of laws_FnLabyrinths: yours. -/
def laws_FnLabyrinths.Pure : Prop := ∀ (l0 : List Int), l0.length ≤ maxLen → l0.length * 1 ≤ 140737488351232 → (∀ x ∈ l0, (Lit.int .u8 x).wf = true) → ∃ k, laws_FnLabyrinths.f k l0 = some true
theorem laws_FnLabyrinths.walk (P : laws_FnLabyrinths.Pure) (a0 : Option Addr) (len0 cap0 : Nat) (z0 : List Int) (w : World) (w0 : (a0 = none ∧ len0 = 0 ∧ cap0 = 0 ∧ z0 = []) ∨ ∃ x, a0 = some x ∧ len0 ≤ cap0 ∧ cap0 ≤ maxLen ∧ z0.length = cap0 ∧ (∀ i, i < z0.length → w.cell? (x.add i) = some (.int .u8 (z0.getD i 0))) ∧ ∀ n ∈ z0, (Lit.int .u8 n).wf = true) (y0 : len0 * 1 ≤ 140737488351232) :
  Calls Try.prog 3 #[.slice a0 len0 cap0] w fun e w' => e = .returned (.bool true) ∧ Below w.heap.size w w' := by
 obtain ⟨l0, rfl, hr0, hm0, hw0, hc0⟩ := ReadsInt.ofRowC w0
 obtain ⟨k, h⟩ := P l0 hm0 y0 hw0
 refine (laws_FnLabyrinths.calls k _ _ l0 true w (Kd.C_of_reads (d := (0 : Int)) (h1 := fun _ => rfl) hr0) hc0 h).mono ?_
 rintro e w' ⟨rfl, hd⟩
 exact ⟨rfl, hd⟩

end Go.Proofs.Ytekgbinadmjapab.X
