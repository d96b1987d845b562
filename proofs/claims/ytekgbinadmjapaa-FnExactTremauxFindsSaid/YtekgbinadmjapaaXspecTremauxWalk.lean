-- Written by a program of this session (xprint.py), out of the translation and of hand-written contracts. Lean checks it.
import Derived.Test.YtekgbinadmjapaaX0
import Derived.Test.YtekgbinadmjapaaXcgaps
import Derived.Test.YtekgbinadmjapaaXcin
import Derived.Test.YtekgbinadmjapaaXcnbr
import Derived.Test.YtekgbinadmjapaaXcstep
import Derived.Test.YtekgbinadmjapaaXspecTremauxStep
namespace Go.Proofs.Ytekgbinadmjapaa.X
open Go.RowKit Go.Proofs.YtekgbinadmjapaaW.PrintWords Go.Proofs.YtekgbinadmjapaaW.PrintLast Go.Proofs.YtekgbinadmjapaaW.PrintMore
attribute [local go_sem] max2_int min2_int max_two min_two max_three min_three max_four min_four   -- for this text's walks alone
set_option linter.unusedVariables false
set_option linter.unusedSimpArgs false

/-! ### spec_TremauxWalk: function 47 -/
def spec_TremauxWalk.l0 : Nat → List Int → List Int → Int → Int → Int → Int → Int → Int → Option (List Int × List Int)
 | 0, _, _, _, _, _, _, _, _ => none
 | k + 1, x6, x7, x10, x502000, x502001, x502002, x526000, x526001 => if x10 < 200 then ((spec_TremauxStep.f k x502000 x502001 x502002 x6 x526000 x526001).bind fun bt529 => (if bt529.2.2 = true then ((spec_GapAt.f k x502000 x502001 x526000 bt529.2.1).bind fun t533 => (if 0 ≤ t533 then (if t533 < (x6.length : Int) then (if x7.length < 17592186044416 then (spec_TremauxWalk.l0 k (x6.set (t533 : Int).toNat (wrap64 ((rd x6 t533) + 1))) (x7 ++ [bt529.1]) (wrap64 (x10 + 1)) x502000 x502001 x502002 bt529.1 bt529.2.1) else (none)) else (none)) else (none))) else (some (x7, x6)))) else (some (x7, x6))
def spec_TremauxWalk.f (k : Nat) (a0_0 : Int) (a0_1 : Int) (a0_2 : Int) (a1 : Int) : Option (List Int × List Int) := (spec_l04Has.f a0_0 a0_1 a0_2 a1).bind fun t502 => (if t502 = true then ((spec_CountGaps.f a0_0 a0_1).bind fun t509 => (if 0 ≤ t509 then (if (t509 : Int).toNat ≤ 35184372088832 then ((some (List.replicate (t509 : Int).toNat 0 : List Int)).bind fun y510 => ((some (([a1] : List Int) : List Int)).bind fun y513 => ((spec_WaysFrom.f k a0_0 a0_1 a0_2 a1).bind fun t516 => (if (t516.length : Int) = 0 then (some (y513, y510)) else (if 0 < (t516.length : Int) then ((spec_GapAt.f k a0_0 a0_1 a1 (rd t516 0)).bind fun t520 => (if 0 ≤ t520 then (if t520 < (y510.length : Int) then ((spec_Step.f k a0_0 a0_1 a0_2 a1 (rd t516 0)).bind fun t523 => (if y513.length < 17592186044416 then (spec_TremauxWalk.l0 k (y510.set (t520 : Int).toNat 1) (y513 ++ [t523]) 1 a0_0 a0_1 a0_2 t523 (rd t516 0)) else (none))) else (none)) else (none))) else (none)))))) else (none)) else (none))) else (some ((([] : List Int)), (([] : List Int)))))
theorem spec_TremauxWalk.mono_l : ∀ k, (∀ y0 y1 y2 y3 y4 y5 y6 y7, LeO (spec_TremauxWalk.l0 k y0 y1 y2 y3 y4 y5 y6 y7) (spec_TremauxWalk.l0 (k + 1) y0 y1 y2 y3 y4 y5 y6 y7))
 | 0 => fun _ _ _ _ _ _ _ _ r h => by simp [spec_TremauxWalk.l0] at h
 | k + 1 => by
  have ih0 := spec_TremauxWalk.mono_l k
  ·intro y0 y1 y2 y3 y4 y5 y6 y7
   unfold spec_TremauxWalk.l0
   repeat' first
   | (with_reducible exact ih0 _ _ _ _ _ _ _ _)
   | (with_reducible exact spec_GapAt.mono _ _ _ _ _)
   | (with_reducible exact spec_Step.mono _ _ _ _ _ _)
   | (with_reducible exact spec_TremauxStep.mono _ _ _ _ _ _ _)
   | (with_reducible exact spec_WaysFrom.mono _ _ _ _ _)
   | (with_reducible exact LeO.refl _)
   | (with_reducible exact LeO.none _)
   | (with_reducible refine LeO.ite ?_ ?_)
   | (with_reducible refine LeO.bind ?_ (fun _ => ?_))
   | exact ih0 _ _ _ _ _ _ _ _
   | exact spec_GapAt.mono _ _ _ _ _
   | exact spec_Step.mono _ _ _ _ _ _
   | exact spec_TremauxStep.mono _ _ _ _ _ _ _
   | exact spec_WaysFrom.mono _ _ _ _ _
   | exact LeO.none _
   | refine LeO.ite ?_ ?_
   | refine LeO.bind ?_ (fun _ => ?_)
theorem spec_TremauxWalk.mono : ∀ a0 a1 a2 a3 k, LeO (spec_TremauxWalk.f k a0 a1 a2 a3) (spec_TremauxWalk.f (k + 1) a0 a1 a2 a3) := by
 intro a0 a1 a2 a3 k
 have ih0 := spec_TremauxWalk.mono_l k
 unfold spec_TremauxWalk.f
 repeat' first
   | (with_reducible exact ih0 _ _ _ _ _ _ _ _)
   | (with_reducible exact spec_GapAt.mono _ _ _ _ _)
   | (with_reducible exact spec_Step.mono _ _ _ _ _ _)
   | (with_reducible exact spec_TremauxStep.mono _ _ _ _ _ _ _)
   | (with_reducible exact spec_WaysFrom.mono _ _ _ _ _)
   | (with_reducible exact LeO.refl _)
   | (with_reducible exact LeO.none _)
   | (with_reducible refine LeO.ite ?_ ?_)
   | (with_reducible refine LeO.bind ?_ (fun _ => ?_))
   | exact ih0 _ _ _ _ _ _ _ _
   | exact spec_GapAt.mono _ _ _ _ _
   | exact spec_Step.mono _ _ _ _ _ _
   | exact spec_TremauxStep.mono _ _ _ _ _ _ _
   | exact spec_WaysFrom.mono _ _ _ _ _
   | exact LeO.none _
   | refine LeO.ite ?_ ?_
   | refine LeO.bind ?_ (fun _ => ?_)
def spec_TremauxWalk.T8 : Bool × List (List Nat × List Nat) := (true, [([], []), ([], []), ([1], [1]), ([], []), ([], []), ([4], [4]), ([5], [5]), ([2, 3, 6], [2, 3, 6]), ([0, 7, 0, 1, 2, 3, 4, 5, 6, 7], [0, 7]), ([8, 7, 0, 1, 2, 3, 4, 5, 6, 7], [8])])
def spec_TremauxWalk.B8 : List Nat := [0, 0, 2, 0, 0, 16, 48, 126, 255, 511]
theorem spec_TremauxWalk.tab8 : rtab .any (opsOf Try.f47 8) = spec_TremauxWalk.T8 := by kernel_rfl
theorem spec_TremauxWalk.bits8 : waitsOk spec_TremauxWalk.T8.2 spec_TremauxWalk.B8 = true := by kernel_rfl
def spec_TremauxWalk.T9 : Bool × List (List Nat × List Nat) := (true, [([], []), ([], []), ([], []), ([2], [2]), ([3], [3]), ([0, 1, 4], [0, 1, 4]), ([], []), ([6], [6]), ([7], [7]), ([5, 8], [5, 8]), ([], []), ([10, 9, 5, 0, 1, 2, 3, 4, 5, 6, 7, 8, 9, 10], [9, 10])])
def spec_TremauxWalk.B9 : List Nat := [0, 0, 0, 4, 12, 31, 0, 64, 192, 511, 0, 2047]
theorem spec_TremauxWalk.tab9 : rtab .any (opsOf Try.f47 9) = spec_TremauxWalk.T9 := by kernel_rfl
theorem spec_TremauxWalk.bits9 : waitsOk spec_TremauxWalk.T9.2 spec_TremauxWalk.B9 = true := by kernel_rfl
set_option maxHeartbeats 8000000 in
set_option maxRecDepth 100000 in
theorem spec_TremauxWalk.calls (k : Nat) (a0_0 : Int) (a0_1 : Int) (a0_2 : Int) (a1 : Int) (r1 : List Int) (r2 : List Int) (w : World) (h : spec_TremauxWalk.f k a0_0 a0_1 a0_2 a1 = some (r1, r2)) :
  Calls Try.prog 47 #[.agg #[.int .i64 a0_0, .int .i64 a0_1, .int .i64 a0_2], .int .i64 a1] w fun e w' => ∃ v0_ v1_ : Value, e = .returned (.tuple #[v0_, v1_]) ∧ Kd.R (Kd.int .i64) 3 w' w.heap.size (fun k_ => some k_ ≠ (v1_ : Value).ownBlock) v0_ r1 ∧ Kd.R (Kd.int .i64) 3 w' w.heap.size (fun k_ => some k_ ≠ (v0_ : Value).ownBlock) v1_ r2 ∧ Below w.heap.size w w' := by
 have hu33 := Try.underlying33
 have hu31 := Try.underlying31
 have hu65 := Try.underlying65
 have HB := Aside0.mk (Below.refl w.heap.size w)
 have H : ((spec_l04Has.f a0_0 a0_1 a0_2 a1).bind fun t502 => (if t502 = true then ((spec_CountGaps.f a0_0 a0_1).bind fun t509 => (if 0 ≤ t509 then (if (t509 : Int).toNat ≤ 35184372088832 then ((some (List.replicate (t509 : Int).toNat 0 : List Int)).bind fun y510 => ((some (([a1] : List Int) : List Int)).bind fun y513 => ((spec_WaysFrom.f k a0_0 a0_1 a0_2 a1).bind fun t516 => (if (t516.length : Int) = 0 then (some (y513, y510)) else (if 0 < (t516.length : Int) then ((spec_GapAt.f k a0_0 a0_1 a1 (rd t516 0)).bind fun t520 => (if 0 ≤ t520 then (if t520 < (y510.length : Int) then ((spec_Step.f k a0_0 a0_1 a0_2 a1 (rd t516 0)).bind fun t523 => (if y513.length < 17592186044416 then (spec_TremauxWalk.l0 k (y510.set (t520 : Int).toNat 1) (y513 ++ [t523]) 1 a0_0 a0_1 a0_2 t523 (rd t516 0)) else (none))) else (none)) else (none))) else (none)))))) else (none)) else (none))) else (some ((([] : List Int)), (([] : List Int)))))) = some (r1, r2) := h
 clear h
 replace H := Option.bind_eq_some_iff.mp H
 obtain ⟨t502, A30, H⟩ := H
 replace H : (if t502 = true then ((spec_CountGaps.f a0_0 a0_1).bind fun t509 => (if 0 ≤ t509 then (if (t509 : Int).toNat ≤ 35184372088832 then ((some (List.replicate (t509 : Int).toNat 0 : List Int)).bind fun y510 => ((some (([a1] : List Int) : List Int)).bind fun y513 => ((spec_WaysFrom.f k a0_0 a0_1 a0_2 a1).bind fun t516 => (if (t516.length : Int) = 0 then (some (y513, y510)) else (if 0 < (t516.length : Int) then ((spec_GapAt.f k a0_0 a0_1 a1 (rd t516 0)).bind fun t520 => (if 0 ≤ t520 then (if t520 < (y510.length : Int) then ((spec_Step.f k a0_0 a0_1 a0_2 a1 (rd t516 0)).bind fun t523 => (if y513.length < 17592186044416 then (spec_TremauxWalk.l0 k (y510.set (t520 : Int).toNat 1) (y513 ++ [t523]) 1 a0_0 a0_1 a0_2 t523 (rd t516 0)) else (none))) else (none)) else (none))) else (none)))))) else (none)) else (none))) else (some ((([] : List Int)), (([] : List Int))))) = some (r1, r2) := H
 have A3 := Aside0.mk A30
 clear A30
 by_cases c4 : t502 = true
 ·subst c4
  have H1 : ((spec_CountGaps.f a0_0 a0_1).bind fun t509 => (if 0 ≤ t509 then (if (t509 : Int).toNat ≤ 35184372088832 then ((some (List.replicate (t509 : Int).toNat 0 : List Int)).bind fun y510 => ((some (([a1] : List Int) : List Int)).bind fun y513 => ((spec_WaysFrom.f k a0_0 a0_1 a0_2 a1).bind fun t516 => (if (t516.length : Int) = 0 then (some (y513, y510)) else (if 0 < (t516.length : Int) then ((spec_GapAt.f k a0_0 a0_1 a1 (rd t516 0)).bind fun t520 => (if 0 ≤ t520 then (if t520 < (y510.length : Int) then ((spec_Step.f k a0_0 a0_1 a0_2 a1 (rd t516 0)).bind fun t523 => (if y513.length < 17592186044416 then (spec_TremauxWalk.l0 k (y510.set (t520 : Int).toNat 1) (y513 ++ [t523]) 1 a0_0 a0_1 a0_2 t523 (rd t516 0)) else (none))) else (none)) else (none))) else (none)))))) else (none)) else (none))) = some (r1, r2) := by rw [if_pos rfl] at H; exact H
  clear H
  have H := H1
  clear H1
  replace H := Option.bind_eq_some_iff.mp H
  obtain ⟨t509, A50, H⟩ := H
  replace H : (if 0 ≤ t509 then (if (t509 : Int).toNat ≤ 35184372088832 then ((some (List.replicate (t509 : Int).toNat 0 : List Int)).bind fun y510 => ((some (([a1] : List Int) : List Int)).bind fun y513 => ((spec_WaysFrom.f k a0_0 a0_1 a0_2 a1).bind fun t516 => (if (t516.length : Int) = 0 then (some (y513, y510)) else (if 0 < (t516.length : Int) then ((spec_GapAt.f k a0_0 a0_1 a1 (rd t516 0)).bind fun t520 => (if 0 ≤ t520 then (if t520 < (y510.length : Int) then ((spec_Step.f k a0_0 a0_1 a0_2 a1 (rd t516 0)).bind fun t523 => (if y513.length < 17592186044416 then (spec_TremauxWalk.l0 k (y510.set (t520 : Int).toNat 1) (y513 ++ [t523]) 1 a0_0 a0_1 a0_2 t523 (rd t516 0)) else (none))) else (none)) else (none))) else (none)))))) else (none)) else (none)) = some (r1, r2) := H
  have A5 := Aside0.mk A50
  clear A50
  by_cases c6 : 0 ≤ t509
  ·rw [if_pos c6] at H
   have c6b0 := eq_true c6
   have c6b1 : decide (0 ≤ t509) = true := decide_eq_true c6
   clear c6
   by_cases c7 : (t509 : Int).toNat ≤ 35184372088832
   ·rw [if_pos c7] at H
    have c7b0 := eq_true c7
    have c7b1 : decide ((t509 : Int).toNat ≤ 35184372088832) = true := decide_eq_true c7
    clear c7
    obtain ⟨y510, hy510⟩ : ∃ y_ : List Int, y_ = (List.replicate (t509 : Int).toNat 0) := ⟨_, rfl⟩
    replace H : ((some (([a1] : List Int) : List Int)).bind fun y513 => ((spec_WaysFrom.f k a0_0 a0_1 a0_2 a1).bind fun t516 => (if (t516.length : Int) = 0 then (some (y513, y510)) else (if 0 < (t516.length : Int) then ((spec_GapAt.f k a0_0 a0_1 a1 (rd t516 0)).bind fun t520 => (if 0 ≤ t520 then (if t520 < (y510.length : Int) then ((spec_Step.f k a0_0 a0_1 a0_2 a1 (rd t516 0)).bind fun t523 => (if y513.length < 17592186044416 then (spec_TremauxWalk.l0 k (y510.set (t520 : Int).toNat 1) (y513 ++ [t523]) 1 a0_0 a0_1 a0_2 t523 (rd t516 0)) else (none))) else (none)) else (none))) else (none))))) = some (r1, r2) := by first | (rw [hy510]; with_reducible exact H) | (have H2_ := (Option.bind_some _ _).symm.trans H; rw [hy510]; with_reducible exact H2_) | (have H2_ := (Option.bind_some _ _).symm.trans H; with_reducible exact H2_) | with_reducible exact H | (rw [hy510]; exact H) | exact H
    have Ny510 := Aside0.mk hy510
    clear hy510
    obtain ⟨y513, hy513⟩ : ∃ y_ : List Int, y_ = (([a1] : List Int)) := ⟨_, rfl⟩
    replace H : ((spec_WaysFrom.f k a0_0 a0_1 a0_2 a1).bind fun t516 => (if (t516.length : Int) = 0 then (some (y513, y510)) else (if 0 < (t516.length : Int) then ((spec_GapAt.f k a0_0 a0_1 a1 (rd t516 0)).bind fun t520 => (if 0 ≤ t520 then (if t520 < (y510.length : Int) then ((spec_Step.f k a0_0 a0_1 a0_2 a1 (rd t516 0)).bind fun t523 => (if y513.length < 17592186044416 then (spec_TremauxWalk.l0 k (y510.set (t520 : Int).toNat 1) (y513 ++ [t523]) 1 a0_0 a0_1 a0_2 t523 (rd t516 0)) else (none))) else (none)) else (none))) else (none)))) = some (r1, r2) := by first | (rw [hy513]; with_reducible exact H) | (have H2_ := (Option.bind_some _ _).symm.trans H; rw [hy513]; with_reducible exact H2_) | (have H2_ := (Option.bind_some _ _).symm.trans H; with_reducible exact H2_) | with_reducible exact H | (rw [hy513]; exact H) | exact H
    have Ny513 := Aside0.mk hy513
    clear hy513
    replace H := Option.bind_eq_some_iff.mp H
    obtain ⟨t516, A80, H⟩ := H
    replace H : (if (t516.length : Int) = 0 then (some (y513, y510)) else (if 0 < (t516.length : Int) then ((spec_GapAt.f k a0_0 a0_1 a1 (rd t516 0)).bind fun t520 => (if 0 ≤ t520 then (if t520 < (y510.length : Int) then ((spec_Step.f k a0_0 a0_1 a0_2 a1 (rd t516 0)).bind fun t523 => (if y513.length < 17592186044416 then (spec_TremauxWalk.l0 k (y510.set (t520 : Int).toNat 1) (y513 ++ [t523]) 1 a0_0 a0_1 a0_2 t523 (rd t516 0)) else (none))) else (none)) else (none))) else (none))) = some (r1, r2) := H
    have A8 := Aside0.mk A80
    clear A80
    by_cases c9 : (t516.length : Int) = 0
    ·rw [if_pos c9] at H
     have c9b0 : ((t516.length : Int) == 0) = true := beq_iff_eq.mpr c9
     have c9b1 : ((t516.length : Int) != 0) = false := bne_eq_false_iff_eq.mpr c9
     clear c9
     simp only [Option.some.injEq, Prod.mk.injEq] at H
     obtain ⟨rfl, rfl⟩ := H
     go_enter Try.func47, Try.ntmps47
     go_wp2_with (first | ((with_reducible refine gate_dst (N := 2) rfl ?_); refine box_event ?hg (N := 2) ?hd (cs := #[.int .i64 a0_0, .int .i64 a0_1, .int .i64 a0_2]) (t := 33) ?hr ?_; (case hd => rfl); (case hg => rfl); (case hr => first | (go_simp; done) | (go_simp; rfl)); intro gb501 hg w10 hbox hb; have n0_ := Aside0.mk (below_step (hb0_ HB.out) hb); have n1_ := Aside0.mk (hbox); have n2_ := Aside0.mk ((gs_ hg (hb0_ HB.out))); have n3_ := Aside0.mk ((gs_ hg (hb0_ HB.out))); clear HB; have HB := n0_; have BK501 := n1_; have GW501 := n2_; have GE501 := n3_; clear n0_ n1_ n2_ n3_; clear hb hbox hg; obtain ⟨hcz11_0, hcz11_1, hcz11_2⟩ := cz3_ BK501.out; obtain ⟨hfz11_0, hfz11_1, hfz11_2⟩ := fz3_ BK501.out) | ((with_reducible refine gate_callee (f := 67) rfl ?_); refine goesL_ (some 16) rfl rfl Try.func67 (by kernel_rfl) rfl #[.agg #[.int .i64 a0_0, .int .i64 a0_1, .int .i64 a0_2], .int .i64 a1] rfl (ml_) ?_; (with_reducible refine (spec_l04Has.calls a0_0 a0_1 a0_2 a1 true _ A3.out).mono ?_); rintro e w12 ⟨rfl, hb⟩; refine ⟨_, rfl, ?_⟩; replace BK501 := Aside0.mk (bb_ BK501.out hb); replace HB := Aside0.mk (below_step (hb1_ HB.out GE501.out) hb); (try clear hb); (try clear hb2); (try clear hk); (try clear hi); obtain ⟨hcz13_0, hcz13_1, hcz13_2⟩ := cz3_ BK501.out; obtain ⟨hfz13_0, hfz13_1, hfz13_2⟩ := fz3_ BK501.out) | ((with_reducible refine gate_callee (f := 57) rfl ?_); refine goesL_ (some 22) rfl rfl Try.func57 (by kernel_rfl) rfl #[.agg #[.int .i64 a0_0, .int .i64 a0_1]] rfl (ml_) ?_; (with_reducible refine (spec_CountGaps.calls a0_0 a0_1 t509 _ A5.out).mono ?_); rintro e w14 ⟨rfl, hb⟩; refine ⟨_, rfl, ?_⟩; replace BK501 := Aside0.mk (bb_ BK501.out hb); replace HB := Aside0.mk (below_step (hb1_ HB.out GE501.out) hb); (try clear hb); (try clear hb2); (try clear hk); (try clear hi)) | ((with_reducible refine gate_dst (N := 23) rfl ?_); refine Kd.R_make (Kd.int .i64) _ 3 rfl (N := 23) rfl 26 _ _ rfl t509 rfl rfl Try.underlying26 (.int .i64 0) 8 info3 rfl (by decide) (by omega) 0 (ok := fun _ => True) (okp := fun _ => True) rfl (fun _ hk => hk) trivial (of_decide_eq_true (as_)) (Nat.le_trans (Nat.mul_le_mul_right _ (of_decide_eq_true (as_) : t509.toNat ≤ 35184372088832)) (by omega)) (Below.refl _ _) (Nat.le_refl _) ?_; intro v511 w15 ho16 hb hg_ hnew_; clear hg_ hnew_; (first | rw [← Ny510.out] at ho16 | (simp only [Int.reduceToNat] at ho16; rw [← Ny510.out] at ho16)); have HO512 := Aside0.mk (Kd.R_lower ho16 (below_size (hb1_ HB.out GE501.out))); replace BK501 := Aside0.mk (bb_ BK501.out hb); replace HB := Aside0.mk (below_step (hb1_ HB.out GE501.out) hb); clear hb ho16) | ((with_reducible refine gate_dst (N := 25) rfl ?_); refine Kd.R_lit (Kd.int .i64) _ 3 ?hg (N := 25) ?hd (xs := ([a1] : List Int)) (inner := [.int .i64 a1]) (ok := fun _ => True) (okp := fun _ => True) ?hr ?hp (fun _ hk => hk) trivial (Below.refl _ _) (Nat.le_refl _) (by simp) ?_; (case hd => rfl); (case hg => rfl); (case hr => first | (go_simp; done) | (go_simp; rfl)); (case hp => exact (Reps.one (show Kd.M (Kd.int .i64) _ _ _ a1 [.int .i64 a1] from rfl) (Reps.none _ _))); intro v514 w17 ho18 hb hg_ hnew_; clear hg_ hnew_; (first | rw [← Ny513.out] at ho18 | (simp only [Int.reduceToNat] at ho18; rw [← Ny513.out] at ho18)); have n0_ := Aside0.mk (Kd.R_elder' (kr_ HO512.out) (Kd.R_base ho18) hb); have n1_ := Aside0.mk (Kd.R_lower (Kd.R_new' ho18 (Kd.R_lt (kr_ HO512.out))) (below_size (hb1_ HB.out GE501.out))); have n2_ := Aside0.mk (bb_ BK501.out hb); have n3_ := Aside0.mk (below_step (hb1_ HB.out GE501.out) hb); clear HO512; clear BK501; clear HB; have HO512 := n0_; have HO515 := n1_; have BK501 := n2_; have HB := n3_; clear n0_ n1_ n2_ n3_; clear hb ho18; obtain ⟨hcz19_0, hcz19_1, hcz19_2⟩ := cz3_ BK501.out; obtain ⟨hfz19_0, hfz19_1, hfz19_2⟩ := fz3_ BK501.out) | ((with_reducible refine gate_callee (f := 56) rfl ?_); refine goesL_ (some 28) rfl rfl Try.func56 (by kernel_rfl) rfl #[.agg #[.int .i64 a0_0, .int .i64 a0_1, .int .i64 a0_2], .int .i64 a1] rfl (ml_) ?_; (with_reducible refine (spec_WaysFrom.calls k a0_0 a0_1 a0_2 a1 t516 _ A8.out).mono ?_); rintro e w20 ⟨v517, rfl, ho0, hb⟩; refine ⟨_, rfl, ?_⟩; have n0_ := Aside0.mk (Kd.R_elder' (kr_ HO512.out) (Kd.R_base ho0) hb); have n1_ := Aside0.mk (Kd.R_elder' (kr_ HO515.out) (Kd.R_base ho0) hb); have n2_ := Aside0.mk (Kd.R_lower (Kd.R_new' (Kd.R_new' ho0 (Kd.R_lt (kr_ HO512.out))) (Kd.R_lt (kr_ HO515.out))) (below_size (hb1_ HB.out GE501.out))); have n3_ := Aside0.mk (bb_ BK501.out hb); have n4_ := Aside0.mk (below_step (hb1_ HB.out GE501.out) hb); clear HO512; clear HO515; clear BK501; clear HB; have HO512 := n0_; have HO515 := n1_; have HO518 := n2_; have BK501 := n3_; have HB := n4_; clear n0_ n1_ n2_ n3_ n4_; (try clear hb); (try clear hb2); (try clear hk); (try clear hi); (try clear ho0); obtain ⟨Ao21, co21, eo21⟩ := Kd.R_slice HO518.out; subst eo21))
     go_ret2
     exact ⟨_, _, by first | rfl | (simp [errW_none, errW_some] <;> rfl) | (simp [*, errW_none, errW_some] <;> rfl), by (with_reducible repeat (first | apply Kd.R_alloc | apply Kd.R_drewN | apply Kd.R_drew)); exact Kd.R_mono HO515.out (fun _ hk => hk.1.2), by (with_reducible repeat (first | apply Kd.R_alloc | apply Kd.R_drewN | apply Kd.R_drew)); exact Kd.R_mono HO512.out (fun _ hk => hk.1.2), hb1_ HB.out GE501.out⟩
    ·rw [if_neg c9] at H
     have c9b0 : ((t516.length : Int) == 0) = false := beq_eq_false_iff_ne.mpr c9
     have c9b1 : ((t516.length : Int) != 0) = true := bne_iff_ne.mpr c9
     have c9b2 : ¬ (t516 = []) := fun h_ => c9 (by rw [h_]; rfl)
     by_cases c22 : 0 < (t516.length : Int)
     ·rw [if_pos c22] at H
      have c22b0 : decide (0 < (t516.length : Int)) = true := decide_eq_true c22
      have c22b1 : decide (0 < t516.length) = true := decide_eq_true (by omega)
      clear c22
      replace H := Option.bind_eq_some_iff.mp H
      obtain ⟨t520, A230, H⟩ := H
      replace H : (if 0 ≤ t520 then (if t520 < (y510.length : Int) then ((spec_Step.f k a0_0 a0_1 a0_2 a1 (rd t516 0)).bind fun t523 => (if y513.length < 17592186044416 then (spec_TremauxWalk.l0 k (y510.set (t520 : Int).toNat 1) (y513 ++ [t523]) 1 a0_0 a0_1 a0_2 t523 (rd t516 0)) else (none))) else (none)) else (none)) = some (r1, r2) := H
      have A23 := Aside0.mk A230
      clear A230
      by_cases c24 : 0 ≤ t520
      ·rw [if_pos c24] at H
       have c24b0 : decide (0 ≤ t520) = true := decide_eq_true c24
       clear c24
       by_cases c25 : t520 < (y510.length : Int)
       ·rw [if_pos c25] at H
        have c25b0 : decide (t520 < (y510.length : Int)) = true := decide_eq_true c25
        clear c25
        obtain ⟨y521, hy521⟩ : ∃ y_ : List Int, y_ = (y510.set (t520 : Int).toNat 1) := ⟨_, rfl⟩
        replace H : ((spec_Step.f k a0_0 a0_1 a0_2 a1 (rd t516 0)).bind fun t523 => (if y513.length < 17592186044416 then (spec_TremauxWalk.l0 k y521 (y513 ++ [t523]) 1 a0_0 a0_1 a0_2 t523 (rd t516 0)) else (none))) = some (r1, r2) := by first | (rw [hy521]; with_reducible exact H) | (have H2_ := (Option.bind_some _ _).symm.trans H; rw [hy521]; with_reducible exact H2_) | (have H2_ := (Option.bind_some _ _).symm.trans H; with_reducible exact H2_) | with_reducible exact H | (rw [hy521]; exact H) | exact H
        have Ny521 := Aside0.mk hy521
        clear hy521
        replace H := Option.bind_eq_some_iff.mp H
        obtain ⟨t523, A270, H⟩ := H
        replace H : (if y513.length < 17592186044416 then (spec_TremauxWalk.l0 k y521 (y513 ++ [t523]) 1 a0_0 a0_1 a0_2 t523 (rd t516 0)) else (none)) = some (r1, r2) := H
        have A27 := Aside0.mk A270
        clear A270
        by_cases c28 : y513.length < 17592186044416
        ·rw [if_pos c28] at H
         have LMc28 := Aside0.mk c28
         clear c28
         obtain ⟨y526, hy526⟩ : ∃ y_ : List Int, y_ = (y513 ++ [t523]) := ⟨_, rfl⟩
         replace H : (spec_TremauxWalk.l0 k y521 y526 1 a0_0 a0_1 a0_2 t523 (rd t516 0)) = some (r1, r2) := by first | (rw [hy526]; with_reducible exact H) | (have H2_ := (Option.bind_some _ _).symm.trans H; rw [hy526]; with_reducible exact H2_) | (have H2_ := (Option.bind_some _ _).symm.trans H; with_reducible exact H2_) | with_reducible exact H | (rw [hy526]; exact H) | exact H
         have Ny526 := Aside0.mk hy526
         clear hy526
         have H' := Aside0.mk H
         clear H
         go_enter Try.func47, Try.ntmps47
         try go_wp2_with (first | ((with_reducible refine gate_dst (N := 2) rfl ?_); refine box_event ?hg (N := 2) ?hd (cs := #[.int .i64 a0_0, .int .i64 a0_1, .int .i64 a0_2]) (t := 33) ?hr ?_; (case hd => rfl); (case hg => rfl); (case hr => first | (go_simp; done) | (go_simp; rfl)); intro gb501 hg w29 hbox hb; have n0_ := Aside0.mk (below_step (hb0_ HB.out) hb); have n1_ := Aside0.mk (hbox); have n2_ := Aside0.mk ((gs_ hg (hb0_ HB.out))); have n3_ := Aside0.mk ((gs_ hg (hb0_ HB.out))); clear HB; have HB := n0_; have BK501 := n1_; have GW501 := n2_; have GE501 := n3_; clear n0_ n1_ n2_ n3_; clear hb hbox hg; obtain ⟨hcz30_0, hcz30_1, hcz30_2⟩ := cz3_ BK501.out; obtain ⟨hfz30_0, hfz30_1, hfz30_2⟩ := fz3_ BK501.out) | ((with_reducible refine gate_callee (f := 67) rfl ?_); refine goesL_ (some 16) rfl rfl Try.func67 (by kernel_rfl) rfl #[.agg #[.int .i64 a0_0, .int .i64 a0_1, .int .i64 a0_2], .int .i64 a1] rfl (ml_) ?_; (with_reducible refine (spec_l04Has.calls a0_0 a0_1 a0_2 a1 true _ A3.out).mono ?_); rintro e w31 ⟨rfl, hb⟩; refine ⟨_, rfl, ?_⟩; replace BK501 := Aside0.mk (bb_ BK501.out hb); replace HB := Aside0.mk (below_step (hb1_ HB.out GE501.out) hb); (try clear hb); (try clear hb2); (try clear hk); (try clear hi); obtain ⟨hcz32_0, hcz32_1, hcz32_2⟩ := cz3_ BK501.out; obtain ⟨hfz32_0, hfz32_1, hfz32_2⟩ := fz3_ BK501.out) | ((with_reducible refine gate_callee (f := 57) rfl ?_); refine goesL_ (some 22) rfl rfl Try.func57 (by kernel_rfl) rfl #[.agg #[.int .i64 a0_0, .int .i64 a0_1]] rfl (ml_) ?_; (with_reducible refine (spec_CountGaps.calls a0_0 a0_1 t509 _ A5.out).mono ?_); rintro e w33 ⟨rfl, hb⟩; refine ⟨_, rfl, ?_⟩; replace BK501 := Aside0.mk (bb_ BK501.out hb); replace HB := Aside0.mk (below_step (hb1_ HB.out GE501.out) hb); (try clear hb); (try clear hb2); (try clear hk); (try clear hi)) | ((with_reducible refine gate_dst (N := 23) rfl ?_); refine Kd.R_make (Kd.int .i64) _ 3 rfl (N := 23) rfl 26 _ _ rfl t509 rfl rfl Try.underlying26 (.int .i64 0) 8 info3 rfl (by decide) (by omega) 0 (ok := fun _ => True) (okp := fun _ => True) rfl (fun _ hk => hk) trivial (of_decide_eq_true (as_)) (Nat.le_trans (Nat.mul_le_mul_right _ (of_decide_eq_true (as_) : t509.toNat ≤ 35184372088832)) (by omega)) (Below.refl _ _) (Nat.le_refl _) ?_; intro v511 w34 ho35 hb hg_ hnew_; clear hg_ hnew_; (first | rw [← Ny510.out] at ho35 | (simp only [Int.reduceToNat] at ho35; rw [← Ny510.out] at ho35)); have HO512 := Aside0.mk (Kd.R_lower ho35 (below_size (hb1_ HB.out GE501.out))); replace BK501 := Aside0.mk (bb_ BK501.out hb); replace HB := Aside0.mk (below_step (hb1_ HB.out GE501.out) hb); clear hb ho35) | ((with_reducible refine gate_dst (N := 25) rfl ?_); refine Kd.R_lit (Kd.int .i64) _ 3 ?hg (N := 25) ?hd (xs := ([a1] : List Int)) (inner := [.int .i64 a1]) (ok := fun _ => True) (okp := fun _ => True) ?hr ?hp (fun _ hk => hk) trivial (Below.refl _ _) (Nat.le_refl _) (by simp) ?_; (case hd => rfl); (case hg => rfl); (case hr => first | (go_simp; done) | (go_simp; rfl)); (case hp => exact (Reps.one (show Kd.M (Kd.int .i64) _ _ _ a1 [.int .i64 a1] from rfl) (Reps.none _ _))); intro v514 w36 ho37 hb hg_ hnew_; clear hg_ hnew_; (first | rw [← Ny513.out] at ho37 | (simp only [Int.reduceToNat] at ho37; rw [← Ny513.out] at ho37)); have n0_ := Aside0.mk (Kd.R_elder' (kr_ HO512.out) (Kd.R_base ho37) hb); have n1_ := Aside0.mk (Kd.R_lower (Kd.R_new' ho37 (Kd.R_lt (kr_ HO512.out))) (below_size (hb1_ HB.out GE501.out))); have n2_ := Aside0.mk (bb_ BK501.out hb); have n3_ := Aside0.mk (below_step (hb1_ HB.out GE501.out) hb); clear HO512; clear BK501; clear HB; have HO512 := n0_; have HO515 := n1_; have BK501 := n2_; have HB := n3_; clear n0_ n1_ n2_ n3_; clear hb ho37; obtain ⟨hcz38_0, hcz38_1, hcz38_2⟩ := cz3_ BK501.out; obtain ⟨hfz38_0, hfz38_1, hfz38_2⟩ := fz3_ BK501.out) | ((with_reducible refine gate_callee (f := 56) rfl ?_); refine goesL_ (some 28) rfl rfl Try.func56 (by kernel_rfl) rfl #[.agg #[.int .i64 a0_0, .int .i64 a0_1, .int .i64 a0_2], .int .i64 a1] rfl (ml_) ?_; (with_reducible refine (spec_WaysFrom.calls k a0_0 a0_1 a0_2 a1 t516 _ A8.out).mono ?_); rintro e w39 ⟨v517, rfl, ho0, hb⟩; refine ⟨_, rfl, ?_⟩; have n0_ := Aside0.mk (Kd.R_elder' (kr_ HO512.out) (Kd.R_base ho0) hb); have n1_ := Aside0.mk (Kd.R_elder' (kr_ HO515.out) (Kd.R_base ho0) hb); have n2_ := Aside0.mk (Kd.R_lower (Kd.R_new' (Kd.R_new' ho0 (Kd.R_lt (kr_ HO512.out))) (Kd.R_lt (kr_ HO515.out))) (below_size (hb1_ HB.out GE501.out))); have n3_ := Aside0.mk (bb_ BK501.out hb); have n4_ := Aside0.mk (below_step (hb1_ HB.out GE501.out) hb); clear HO512; clear HO515; clear BK501; clear HB; have HO512 := n0_; have HO515 := n1_; have HO518 := n2_; have BK501 := n3_; have HB := n4_; clear n0_ n1_ n2_ n3_ n4_; (try clear hb); (try clear hb2); (try clear hk); (try clear hi); (try clear ho0); obtain ⟨Ao40, co40, eo40⟩ := Kd.R_slice HO518.out; subst eo40))
         replace HO512 := Aside0.mk (Kd.R_drew HO512.out)
         replace HO515 := Aside0.mk (Kd.R_drew HO515.out)
         replace HO518 := Aside0.mk (Kd.R_drew HO518.out)
         replace BK501 := Aside0.mk (blk_drew BK501.out)
         replace HB := Aside0.mk (below_drew1 HB.out)
         have p519 : 0 ≤ (0 : Int) := (by omega)
         have q519 : 0 < (t516.length : Int) := of_decide_eq_true (as_)
         obtain ⟨ad519, e519, hx519_0⟩ := Kd.at_int (Kd.R_reads' HO518.out).2.2 0 p519 q519
         cases e519
         have qi519 : (0 < t516.length) = True := eq_true (by omega)
         (try rw [show ((0 : Int)).toNat = 0 from rfl] at hx519_0)
         (try rw [Addr.add_zero'] at hx519_0)
         replace p519 := eq_true p519
         replace q519 := eq_true q519
         refine start_ (n := 10) (S := fun w' => w'.cell? ⟨gb501, 0, none⟩ = some (.int .i64 a0_0) ∧ w'.cell? ⟨gb501, 1, none⟩ = some (.int .i64 a0_1) ∧ w'.cell? ⟨gb501, 2, none⟩ = some (.int .i64 a0_2) ∧ w'.cell? ad519 = some (.int .i64 (rd t516 0))) (ds := [9]) #[false, false, false, false, false, false, false, false, false, false] (by kernel_rfl) rfl rfl ⟨(blk_cell BK501.out 0).trans rfl, (blk_cell BK501.out 1).trans rfl, (blk_cell BK501.out 2).trans rfl, hx519_0⟩ (fun hHeld => ?_); refine with_tabW spec_TremauxWalk.tab8 spec_TremauxWalk.bits8 (fun HT_ HW_ => ?_)
         generalize w39.drew = w41 at HO512 HO515 HO518 BK501 HB hx519_0 hHeld ⊢
         refine pv_ (i := 0) (N := some 34) HT_.out ?_
         refine pv_ (i := 1) (N := some 35) HT_.out ?_
         refine pv_ (i := 3) (N := some 37) HT_.out ?_
         refine pv_ (i := 4) (N := some 38) HT_.out ?_
         refine pv_ (i := 5) (N := some 39) HT_.out ?_
         refine tv4_ (i := 2) (N := some 36) HT_.out HW_.out hHeld ?_
         refine tv4_ (i := 6) (N := some 40) HT_.out HW_.out hHeld ?_
         refine ov_ (i := 7) (N := some 41) HT_.out (fun K hK => ?_)
         refine goes_ Try.func88 (by kernel_rfl) rfl #[.agg #[.int .i64 a0_0, .int .i64 a0_1], .int .i64 a1, .int .i64 (rd t516 0)] (by rfl) rfl rfl (ml_) ?_
         with_reducible refine (spec_GapAt.calls k a0_0 a0_1 a1 (rd t516 0) t520 _ A23.out).mono ?_
         rintro e w42 ⟨rfl, hb⟩
         have HS3_ := (hb.cell (World.block_lt_of_cell? _ _ (hHeld.2.2.2))).trans (hHeld.2.2.2)
         refine ⟨_, rfl, ?_⟩
         replace HO512 := Aside0.mk (Kd.R_below (kr_ HO512.out) hb)
         replace HO515 := Aside0.mk (Kd.R_below (kr_ HO515.out) hb)
         replace HO518 := Aside0.mk (Kd.R_below (kr_ HO518.out) hb)
         replace BK501 := Aside0.mk (bb_ BK501.out hb)
         replace HB := Aside0.mk (below_step (hb1_ HB.out GE501.out) hb)
         (try clear hb)
         (try clear hb2)
         (try clear hk)
         (try clear hi)
         have p26 : 0 ≤ (t520 : Int) := of_decide_eq_true (as_)
         have q26 : (t520 : Int) < ((y510.length : Int) : Int) := of_decide_eq_true (as_)
         obtain ⟨go26, co26, eo26, gb26, gl26, cl26, HG26⟩ := Kd.R_form HO512.out (by omega)
         (first | cases eo26 | (injection eo26 with ea_ en_ ec_; (first | subst ea_ | (injection ea_ with ea_; subst ea_)); subst ec_; clear en_))
         have GB26 := Aside0.mk gb26
         have GG26 := Aside0.mk HG26
         clear gb26 gl26 HG26
         obtain ⟨hx26_0, hf26_0⟩ := Kd.R_celln 0 HO512.out (t520 : Int) p26 q26
         replace p26 := eq_true p26
         replace q26 := eq_true q26
         have HP43 := Kd.R_putn HO512.out (t520 : Int) 1
         rw [← Ny521.out] at HP43
         have HQ43 := Aside0.mk HP43
         clear HP43
         refine hK.out _ _ ⟨(blk_cell BK501.out 0).trans rfl, (blk_cell BK501.out 1).trans rfl, (blk_cell BK501.out 2).trans rfl, HS3_⟩ (fun hHeld => ?_)
         clear hK K
         refine norm_ (a' := ?_) ?_ ?_
         rotate_left
         ·show Act.put _ (some 41) _ = _
          simp only [Act.put, List.setIfInBounds_toArray, List.set_cons_zero, List.set_cons_succ, i64_w, i32_w]
          rfl
         refine pv_ (i := 8) (N := some 42) HT_.out ?_
         refine last_ (i := 9) (N := none) #[true, true, true, true, true, true, true, true, true, true] rfl rfl (one_of HT_.out (by kernel_rfl)) (by decide) (fun K hK => ?_)
         refine skip_ (w1 := ?_) (by rfl) rfl ?_ ?_
         rotate_left
         ·go_simp
          rfl
         refine hK.out _ _ ?_
         clear hK K
         refine done_ (done_of HT_.out (by kernel_rfl)) ?_
         have n0_ : Aside0 (Kd.R (Kd.int .i64) 3 (w42.setCell ⟨go26, (t520 : Int).toNat, none⟩ (.int .i64 1)) w.heap.size (fun k_ => some k_ ≠ (v514 : Value).ownBlock ∧ some k_ ≠ (.slice (some ad519) t516.length co40 : Value).ownBlock) (.slice (some ⟨go26, 0, none⟩) y510.length co26) y521) := ⟨by (with_reducible repeat (first | apply Kd.R_alloc | apply Kd.R_drewN | apply Kd.R_drew)); exact Kd.R_mono HQ43.out (fun _ hk => ⟨hk.1.2, hk.2⟩)⟩
         have n1_ : Aside0 (Kd.R (Kd.int .i64) 3 (w42.setCell ⟨go26, (t520 : Int).toNat, none⟩ (.int .i64 1)) w.heap.size (fun k_ => some k_ ≠ (.slice (some ⟨go26, 0, none⟩) y510.length co26 : Value).ownBlock ∧ some k_ ≠ (.slice (some ad519) t516.length co40 : Value).ownBlock) v514 y513) := ⟨by (with_reducible repeat (first | apply Kd.R_alloc | apply Kd.R_drewN | apply Kd.R_drew)); exact Kd.R_mono (Kd.R_far (p := ⟨go26, (t520 : Int).toNat, none⟩) (Kd.R_mono HO515.out (fun k_ hk => (⟨hk, fun e_ => hk.1.2 (by rw [e_]; rfl)⟩ : _ ∧ k_ ≠ go26))) (fun _ hk => hk.2) (.int .i64 1)) (fun _ hk => ⟨hk.1.1.2, hk.1.2⟩)⟩
         have n2_ : Aside0 (Kd.R (Kd.int .i64) 3 (w42.setCell ⟨go26, (t520 : Int).toNat, none⟩ (.int .i64 1)) w.heap.size (fun k_ => some k_ ≠ (.slice (some ⟨go26, 0, none⟩) y510.length co26 : Value).ownBlock ∧ some k_ ≠ (v514 : Value).ownBlock) (.slice (some ad519) t516.length co40) t516) := ⟨by (with_reducible repeat (first | apply Kd.R_alloc | apply Kd.R_drewN | apply Kd.R_drew)); exact Kd.R_mono (Kd.R_far (p := ⟨go26, (t520 : Int).toNat, none⟩) (Kd.R_mono HO518.out (fun k_ hk => (⟨hk, fun e_ => hk.1.2 (by rw [e_]; rfl)⟩ : _ ∧ k_ ≠ go26))) (fun _ hk => hk.2) (.int .i64 1)) (fun _ hk => ⟨hk.1.1.2, hk.1.2⟩)⟩
         have n3_ : Aside0 ((w42.setCell ⟨go26, (t520 : Int).toNat, none⟩ (.int .i64 1)).heap[gb501]? = some (.cells #[.int .i64 a0_0, .int .i64 a0_1, .int .i64 a0_2] 33 (0, 0))) := ⟨by (with_reducible repeat (first | refine blk_drewN ?_ _ | refine blk_drew ?_ | refine blk_alloc ?_ _)); refine blk_far ?_ (by have h_ := Kd.R_ne HO512.out BK501.out (by decide); intro e_; exact h_ (by rw [e_]; rfl)) _; (with_reducible repeat (first | refine blk_drewN ?_ _ | refine blk_drew ?_ | refine blk_alloc ?_ _)); exact BK501.out⟩
         have n4_ : Aside0 (Below w.heap.size w (w42.setCell ⟨go26, (t520 : Int).toNat, none⟩ (.int .i64 1))) := ⟨hb2_ HB.out GB26.out GE501.out⟩
         (try clear HO512)
         (try clear HO515)
         (try clear HO518)
         (try clear BK501)
         (try clear HB)
         generalize (w42.setCell ⟨go26, (t520 : Int).toNat, none⟩ (.int .i64 1)) = w44 at n0_ n1_ n2_ n3_ n4_ ⊢
         have HO512 := n0_
         have HO515 := n1_
         have HO518 := n2_
         have BK501 := n3_
         have HB := n4_
         clear n0_ n1_ n2_ n3_ n4_
         try go_wp2
         replace HO512 := Aside0.mk (Kd.R_drew HO512.out)
         replace HO515 := Aside0.mk (Kd.R_drew HO515.out)
         replace HO518 := Aside0.mk (Kd.R_drew HO518.out)
         replace BK501 := Aside0.mk (blk_drew BK501.out)
         replace HB := Aside0.mk (below_drew1 HB.out)
         have p522 : 0 ≤ (0 : Int) := (by omega)
         have q522 : 0 < (t516.length : Int) := of_decide_eq_true (as_)
         obtain ⟨ad522, e522, hx522_0⟩ := Kd.at_int (Kd.R_reads' HO518.out).2.2 0 p522 q522
         obtain rfl : ad519 = ad522 := (by injection e522)
         have qi522 : (0 < t516.length) = True := eq_true (by omega)
         (try rw [show ((0 : Int)).toNat = 0 from rfl] at hx522_0)
         (try rw [Addr.add_zero'] at hx522_0)
         replace p522 := eq_true p522
         replace q522 := eq_true q522
         have p524 : 0 ≤ (0 : Int) := (by omega)
         have q524 : 0 < (t516.length : Int) := of_decide_eq_true (as_)
         obtain ⟨ad524, e524, hx524_0⟩ := Kd.at_int (Kd.R_reads' HO518.out).2.2 0 p524 q524
         obtain rfl : ad519 = ad524 := (by injection e524)
         have qi524 : (0 < t516.length) = True := eq_true (by omega)
         (try rw [show ((0 : Int)).toNat = 0 from rfl] at hx524_0)
         (try rw [Addr.add_zero'] at hx524_0)
         replace p524 := eq_true p524
         replace q524 := eq_true q524
         refine start_ (n := 12) (S := fun w' => w'.cell? ⟨gb501, 0, none⟩ = some (.int .i64 a0_0) ∧ w'.cell? ⟨gb501, 1, none⟩ = some (.int .i64 a0_1) ∧ w'.cell? ⟨gb501, 2, none⟩ = some (.int .i64 a0_2) ∧ w'.cell? ad519 = some (.int .i64 (rd t516 0)) ∧ w'.cell? ad519 = some (.int .i64 (rd t516 0))) (ds := []) #[false, false, false, false, false, false, false, false, false, false, false, false] (by kernel_rfl) rfl rfl ⟨(blk_cell BK501.out 0).trans rfl, (blk_cell BK501.out 1).trans rfl, (blk_cell BK501.out 2).trans rfl, hx522_0, hx524_0⟩ (fun hHeld => ?_); refine with_tabW spec_TremauxWalk.tab9 spec_TremauxWalk.bits9 (fun HT_ HW_ => ?_)
         generalize w44.drew = w45 at HO512 HO515 HO518 BK501 HB hx522_0 hx524_0 hHeld ⊢
         refine pv_ (i := 1) (N := some 44) HT_.out ?_
         refine pv_ (i := 2) (N := some 45) HT_.out ?_
         refine pv_ (i := 3) (N := some 46) HT_.out ?_
         refine pv_ (i := 6) (N := some 49) HT_.out ?_
         refine pv_ (i := 7) (N := some 50) HT_.out ?_
         refine tv5_ (i := 0) (N := some 43) HT_.out HW_.out hHeld ?_
         refine tv5_ (i := 4) (N := some 47) HT_.out HW_.out hHeld ?_
         refine tv5_ (i := 8) (N := some 51) HT_.out HW_.out hHeld ?_
         refine join_ (σ := Nat) 1 #[true, true, true, true, true, true, true, true, true, true, true, false] (fun s_ => [(48, .int .i64 t523), (9, .pointer (some ⟨s_, 0, none⟩)), (52, .agg #[.int .i64 t523, .int .i64 (rd t516 0)])]) (fun s_ w' => (w'.cell? ⟨gb501, 0, none⟩ = some (.int .i64 a0_0) ∧ w'.cell? ⟨gb501, 1, none⟩ = some (.int .i64 a0_1) ∧ w'.cell? ⟨gb501, 2, none⟩ = some (.int .i64 a0_2) ∧ w'.cell? ad519 = some (.int .i64 (rd t516 0)) ∧ w'.cell? ad519 = some (.int .i64 (rd t516 0))) ∧ (Kd.R (Kd.int .i64) 3 w' w.heap.size (fun k_ => some k_ ≠ (v514 : Value).ownBlock ∧ some k_ ≠ (.slice (some ad519) t516.length co40 : Value).ownBlock) (.slice (some ⟨go26, 0, none⟩) y510.length co26) y521) ∧ (Kd.R (Kd.int .i64) 3 w' w.heap.size (fun k_ => some k_ ≠ (.slice (some ⟨go26, 0, none⟩) y510.length co26 : Value).ownBlock ∧ some k_ ≠ (.slice (some ad519) t516.length co40 : Value).ownBlock) v514 y513) ∧ (Kd.R (Kd.int .i64) 3 w' w.heap.size (fun k_ => some k_ ≠ (.slice (some ⟨go26, 0, none⟩) y510.length co26 : Value).ownBlock ∧ some k_ ≠ (v514 : Value).ownBlock) (.slice (some ad519) t516.length co40) t516) ∧ (w'.heap[gb501]? = some (.cells #[.int .i64 a0_0, .int .i64 a0_1, .int .i64 a0_2] 33 (0, 0))) ∧ (w'.heap[s_]? = some (.cells #[.int .i64 0, .int .i64 0] 65 (0, 0))) ∧ (w.heap.size ≤ s_) ∧ (w.heap.size ≤ s_) ∧ (gb501 ≠ s_) ∧ (s_ ≠ gb501) ∧ (Below w.heap.size w w')) ?_ ?_
         rotate_left
         ·intro hCont
          refine two_ (i := 5) (j := 10) (Ni := some 48) (Nj := some 9) #[true, true, true, true, true, true, true, true, true, false, false, false] #[true, true, true, true, true, false, true, true, true, false, true, false] rfl rfl rfl rfl (two_of HT_.out (by kernel_rfl)) (by decide) (by decide) (fun K hK => ?_) (fun K hK => ?_)
          ·skip
           refine goes_ Try.func68 (by kernel_rfl) rfl #[.agg #[.int .i64 a0_0, .int .i64 a0_1, .int .i64 a0_2], .int .i64 a1, .int .i64 (rd t516 0)] (by rfl) rfl rfl (ml_) ?_
           with_reducible refine (spec_Step.calls k a0_0 a0_1 a0_2 a1 (rd t516 0) t523 _ A27.out).mono ?_
           rintro e w46 ⟨rfl, hb⟩
           have HS3_ := (hb.cell (World.block_lt_of_cell? _ _ (hHeld.2.2.2.1))).trans (hHeld.2.2.2.1)
           have HS4_ := (hb.cell (World.block_lt_of_cell? _ _ (hHeld.2.2.2.2))).trans (hHeld.2.2.2.2)
           refine ⟨_, rfl, ?_⟩
           replace HO512 := Aside0.mk (Kd.R_below (kr_ HO512.out) hb)
           replace HO515 := Aside0.mk (Kd.R_below (kr_ HO515.out) hb)
           replace HO518 := Aside0.mk (Kd.R_below (kr_ HO518.out) hb)
           replace BK501 := Aside0.mk (bb_ BK501.out hb)
           replace HB := Aside0.mk (below_step (hb1_ HB.out GE501.out) hb)
           (try clear hb)
           (try clear hb2)
           (try clear hk)
           (try clear hi)
           refine hK.out _ _ ⟨(blk_cell BK501.out 0).trans rfl, (blk_cell BK501.out 1).trans rfl, (blk_cell BK501.out 2).trans rfl, HS3_, HS4_⟩ (fun hHeld => ?_)
           clear hK K
           refine norm_ (a' := ?_) ?_ ?_
           rotate_left
           ·show Act.put _ (some 48) _ = _
            simp only [Act.put, List.setIfInBounds_toArray, List.set_cons_zero, List.set_cons_succ, i64_w, i32_w]
            rfl
           refine pv_ (i := 9) (N := some 52) HT_.out ?_
           refine ov_ (i := 10) (N := some 9) HT_.out (fun K hK => ?_)
           refine box_step ?hg (N := 9) ?hd (cs := #[.int .i64 0, .int .i64 0]) (t := 65) ?hr ?_; (case hd => rfl); (case hg => rfl); (case hr => first | (go_simp; done) | (go_simp; rfl))
           intro gb525 hg w47 hbox hb
           have HS3_ := (hb.cell (World.block_lt_of_cell? _ _ (hHeld.2.2.2.1))).trans (hHeld.2.2.2.1)
           have HS4_ := (hb.cell (World.block_lt_of_cell? _ _ (hHeld.2.2.2.2))).trans (hHeld.2.2.2.2)
           have n0_ := Aside0.mk (Kd.R_below (kr_ HO512.out) hb)
           have n1_ := Aside0.mk (Kd.R_below (kr_ HO515.out) hb)
           have n2_ := Aside0.mk (Kd.R_below (kr_ HO518.out) hb)
           have n3_ := Aside0.mk (bb_ BK501.out hb)
           have n4_ := Aside0.mk (below_step (hb1_ HB.out GE501.out) hb)
           have n5_ := Aside0.mk (hbox)
           have n6_ := Aside0.mk ((gs_ hg (hb1_ HB.out GE501.out)))
           have n7_ := Aside0.mk ((gs_ hg (hb1_ HB.out GE501.out)))
           have n8_ := Aside0.mk (nl_ hg BK501.out)
           have n9_ := Aside0.mk (nr_ hg BK501.out)
           clear HO512
           clear HO515
           clear HO518
           clear BK501
           clear HB
           have HO512 := n0_
           have HO515 := n1_
           have HO518 := n2_
           have BK501 := n3_
           have HB := n4_
           have BK525 := n5_
           have GW525 := n6_
           have GE525 := n7_
           have NB501_525 := n8_
           have NB525_501 := n9_
           clear n0_ n1_ n2_ n3_ n4_ n5_ n6_ n7_ n8_ n9_
           clear hb hbox hg
           refine hK.out _ _ ⟨(blk_cell BK501.out 0).trans rfl, (blk_cell BK501.out 1).trans rfl, (blk_cell BK501.out 2).trans rfl, HS3_, HS4_⟩ (fun hHeld => ?_)
           clear hK K
           refine norm_ (a' := ?_) ?_ ?_
           rotate_left
           ·show Act.put _ (some 9) _ = _
            simp only [Act.put, List.setIfInBounds_toArray, List.set_cons_zero, List.set_cons_succ, i64_w, i32_w]
            rfl
           exact norm_ (by simp only [putAll, Act.put, List.setIfInBounds_toArray, List.set_cons_zero, List.set_cons_succ]) (hCont (gb525) _ ⟨hHeld, (kr_ HO512.out), (kr_ HO515.out), (kr_ HO518.out), (bk_ BK501.out), (bk_ BK525.out), GW525.out, GE525.out, NB501_525.out, NB525_501.out, (hb2_ HB.out GE501.out GE525.out)⟩)
          ·skip
           refine box_step ?hg (N := 9) ?hd (cs := #[.int .i64 0, .int .i64 0]) (t := 65) ?hr ?_; (case hd => rfl); (case hg => rfl); (case hr => first | (go_simp; done) | (go_simp; rfl))
           intro gb525 hg w46 hbox hb
           have HS3_ := (hb.cell (World.block_lt_of_cell? _ _ (hHeld.2.2.2.1))).trans (hHeld.2.2.2.1)
           have HS4_ := (hb.cell (World.block_lt_of_cell? _ _ (hHeld.2.2.2.2))).trans (hHeld.2.2.2.2)
           have n0_ := Aside0.mk (Kd.R_below (kr_ HO512.out) hb)
           have n1_ := Aside0.mk (Kd.R_below (kr_ HO515.out) hb)
           have n2_ := Aside0.mk (Kd.R_below (kr_ HO518.out) hb)
           have n3_ := Aside0.mk (bb_ BK501.out hb)
           have n4_ := Aside0.mk (below_step (hb1_ HB.out GE501.out) hb)
           have n5_ := Aside0.mk (hbox)
           have n6_ := Aside0.mk ((gs_ hg (hb1_ HB.out GE501.out)))
           have n7_ := Aside0.mk ((gs_ hg (hb1_ HB.out GE501.out)))
           have n8_ := Aside0.mk (nl_ hg BK501.out)
           have n9_ := Aside0.mk (nr_ hg BK501.out)
           clear HO512
           clear HO515
           clear HO518
           clear BK501
           clear HB
           have HO512 := n0_
           have HO515 := n1_
           have HO518 := n2_
           have BK501 := n3_
           have HB := n4_
           have BK525 := n5_
           have GW525 := n6_
           have GE525 := n7_
           have NB501_525 := n8_
           have NB525_501 := n9_
           clear n0_ n1_ n2_ n3_ n4_ n5_ n6_ n7_ n8_ n9_
           clear hb hbox hg
           refine hK.out _ _ ⟨(blk_cell BK501.out 0).trans rfl, (blk_cell BK501.out 1).trans rfl, (blk_cell BK501.out 2).trans rfl, HS3_, HS4_⟩ (fun hHeld => ?_)
           clear hK K
           refine norm_ (a' := ?_) ?_ ?_
           rotate_left
           ·show Act.put _ (some 9) _ = _
            simp only [Act.put, List.setIfInBounds_toArray, List.set_cons_zero, List.set_cons_succ, i64_w, i32_w]
            rfl
           refine ov_ (i := 5) (N := some 48) HT_.out (fun K hK => ?_)
           refine goes_ Try.func68 (by kernel_rfl) rfl #[.agg #[.int .i64 a0_0, .int .i64 a0_1, .int .i64 a0_2], .int .i64 a1, .int .i64 (rd t516 0)] (by rfl) rfl rfl (ml_) ?_
           with_reducible refine (spec_Step.calls k a0_0 a0_1 a0_2 a1 (rd t516 0) t523 _ A27.out).mono ?_
           rintro e w47 ⟨rfl, hb⟩
           have HS3_ := (hb.cell (World.block_lt_of_cell? _ _ (hHeld.2.2.2.1))).trans (hHeld.2.2.2.1)
           have HS4_ := (hb.cell (World.block_lt_of_cell? _ _ (hHeld.2.2.2.2))).trans (hHeld.2.2.2.2)
           refine ⟨_, rfl, ?_⟩
           replace HO512 := Aside0.mk (Kd.R_below (kr_ HO512.out) hb)
           replace HO515 := Aside0.mk (Kd.R_below (kr_ HO515.out) hb)
           replace HO518 := Aside0.mk (Kd.R_below (kr_ HO518.out) hb)
           replace BK501 := Aside0.mk (bb_ BK501.out hb)
           replace BK525 := Aside0.mk (bb_ BK525.out hb)
           replace HB := Aside0.mk (below_step (hb2_ HB.out GE501.out GE525.out) hb)
           (try clear hb)
           (try clear hb2)
           (try clear hk)
           (try clear hi)
           refine hK.out _ _ ⟨(blk_cell BK501.out 0).trans rfl, (blk_cell BK501.out 1).trans rfl, (blk_cell BK501.out 2).trans rfl, HS3_, HS4_⟩ (fun hHeld => ?_)
           clear hK K
           refine norm_ (a' := ?_) ?_ ?_
           rotate_left
           ·show Act.put _ (some 48) _ = _
            simp only [Act.put, List.setIfInBounds_toArray, List.set_cons_zero, List.set_cons_succ, i64_w, i32_w]
            rfl
           refine pv_ (i := 9) (N := some 52) HT_.out ?_
           exact norm_ (by simp only [putAll, Act.put, List.setIfInBounds_toArray, List.set_cons_zero, List.set_cons_succ]) (hCont (gb525) _ ⟨hHeld, (kr_ HO512.out), (kr_ HO515.out), (kr_ HO518.out), (bk_ BK501.out), (bk_ BK525.out), GW525.out, GE525.out, NB501_525.out, NB525_501.out, (hb2_ HB.out GE501.out GE525.out)⟩)
         rintro gb525 w48 ⟨hS_, h0_, h1_, h2_, h3_, h4_, h5_, h6_, h7_, h8_, h9_⟩
         have n0_ : Aside0 (Kd.R (Kd.int .i64) 3 w48 w.heap.size (fun k_ => some k_ ≠ (v514 : Value).ownBlock ∧ some k_ ≠ (.slice (some ad519) t516.length co40 : Value).ownBlock) (.slice (some ⟨go26, 0, none⟩) y510.length co26) y521) := ⟨h0_⟩
         have n1_ : Aside0 (Kd.R (Kd.int .i64) 3 w48 w.heap.size (fun k_ => some k_ ≠ (.slice (some ⟨go26, 0, none⟩) y510.length co26 : Value).ownBlock ∧ some k_ ≠ (.slice (some ad519) t516.length co40 : Value).ownBlock) v514 y513) := ⟨h1_⟩
         have n2_ : Aside0 (Kd.R (Kd.int .i64) 3 w48 w.heap.size (fun k_ => some k_ ≠ (.slice (some ⟨go26, 0, none⟩) y510.length co26 : Value).ownBlock ∧ some k_ ≠ (v514 : Value).ownBlock) (.slice (some ad519) t516.length co40) t516) := ⟨h2_⟩
         have n3_ : Aside0 (w48.heap[gb501]? = some (.cells #[.int .i64 a0_0, .int .i64 a0_1, .int .i64 a0_2] 33 (0, 0))) := ⟨h3_⟩
         have n4_ : Aside0 (w48.heap[gb525]? = some (.cells #[.int .i64 0, .int .i64 0] 65 (0, 0))) := ⟨h4_⟩
         have n5_ : Aside0 (w.heap.size ≤ gb525) := ⟨h5_⟩
         have n6_ : Aside0 (w.heap.size ≤ gb525) := ⟨h6_⟩
         have n7_ : Aside0 (gb501 ≠ gb525) := ⟨h7_⟩
         have n8_ : Aside0 (gb525 ≠ gb501) := ⟨h8_⟩
         have n9_ : Aside0 (Below w.heap.size w w48) := ⟨h9_⟩
         clear HO512
         clear HO515
         clear HO518
         clear BK501
         clear HB
         clear h0_ h1_ h2_ h3_ h4_ h5_ h6_ h7_ h8_ h9_
         have HO512 := n0_
         have HO515 := n1_
         have HO518 := n2_
         have BK501 := n3_
         have BK525 := n4_
         have GW525 := n5_
         have GE525 := n6_
         have NB501_525 := n7_
         have NB525_501 := n8_
         have HB := n9_
         clear n0_ n1_ n2_ n3_ n4_ n5_ n6_ n7_ n8_ n9_
         have hHeld : w48.cell? ⟨gb501, 0, none⟩ = some (.int .i64 a0_0) ∧ w48.cell? ⟨gb501, 1, none⟩ = some (.int .i64 a0_1) ∧ w48.cell? ⟨gb501, 2, none⟩ = some (.int .i64 a0_2) ∧ w48.cell? ad519 = some (.int .i64 (rd t516 0)) ∧ w48.cell? ad519 = some (.int .i64 (rd t516 0)) := hS_
         refine norm_ (a' := ?_) ?_ ?_
         rotate_left
         ·simp only [putAll, Act.put, List.setIfInBounds_toArray, List.set_cons_zero, List.set_cons_succ]
          rfl
         refine one_ (i := 11) (N := none) #[true, true, true, true, true, true, true, true, true, true, true, true] rfl rfl (one_of HT_.out (by kernel_rfl)) (by decide) (fun K hK => ?_)
         have hs49 : w48.cell? ⟨gb525, 0, none⟩ = some (.int .i64 0) := (blk_cell BK525.out 0).trans rfl
         have hfs49 := blk_frozen BK525.out 0
         have hns49_0 := NB501_525.out
         have hms49_0 := NB525_501.out
         have hs50 : w48.cell? ⟨gb525, 1, none⟩ = some (.int .i64 0) := (blk_cell BK525.out 1).trans rfl
         have hfs50 := blk_frozen BK525.out 1
         have hns50_0 := NB501_525.out
         have hms50_0 := NB525_501.out
         refine skip_ (w1 := ?_) (by rfl) rfl ?_ ?_
         rotate_left
         ·go_simp
          rfl
         refine hK.out _ _ ⟨((cell_far (p := ⟨gb525, _, none⟩) NB501_525.out _).trans (((cell_far (p := ⟨gb525, _, none⟩) NB501_525.out _).trans (hHeld.1)))), ((cell_far (p := ⟨gb525, _, none⟩) NB501_525.out _).trans (((cell_far (p := ⟨gb525, _, none⟩) NB501_525.out _).trans (hHeld.2.1)))), ((cell_far (p := ⟨gb525, _, none⟩) NB501_525.out _).trans (((cell_far (p := ⟨gb525, _, none⟩) NB501_525.out _).trans (hHeld.2.2.1)))), ((cell_far (p := ⟨gb525, _, none⟩) (by first | exact Kd.own_blk (Kd.R_ne HO518.out BK525.out (by decide)) | (rw [add_block]; exact Kd.own_blk (Kd.R_ne HO518.out BK525.out (by decide))) | (show (Addr.add _ _).block ≠ _; rw [add_block]; exact Kd.own_blk (Kd.R_ne HO518.out BK525.out (by decide))) | (dsimp only; exact Kd.own_blk (Kd.R_ne HO518.out BK525.out (by decide)))) _).trans (((cell_far (p := ⟨gb525, _, none⟩) (by first | exact Kd.own_blk (Kd.R_ne HO518.out BK525.out (by decide)) | (rw [add_block]; exact Kd.own_blk (Kd.R_ne HO518.out BK525.out (by decide))) | (show (Addr.add _ _).block ≠ _; rw [add_block]; exact Kd.own_blk (Kd.R_ne HO518.out BK525.out (by decide))) | (dsimp only; exact Kd.own_blk (Kd.R_ne HO518.out BK525.out (by decide)))) _).trans (hHeld.2.2.2.1)))), ((cell_far (p := ⟨gb525, _, none⟩) (by first | exact Kd.own_blk (Kd.R_ne HO518.out BK525.out (by decide)) | (rw [add_block]; exact Kd.own_blk (Kd.R_ne HO518.out BK525.out (by decide))) | (show (Addr.add _ _).block ≠ _; rw [add_block]; exact Kd.own_blk (Kd.R_ne HO518.out BK525.out (by decide))) | (dsimp only; exact Kd.own_blk (Kd.R_ne HO518.out BK525.out (by decide)))) _).trans (((cell_far (p := ⟨gb525, _, none⟩) (by first | exact Kd.own_blk (Kd.R_ne HO518.out BK525.out (by decide)) | (rw [add_block]; exact Kd.own_blk (Kd.R_ne HO518.out BK525.out (by decide))) | (show (Addr.add _ _).block ≠ _; rw [add_block]; exact Kd.own_blk (Kd.R_ne HO518.out BK525.out (by decide))) | (dsimp only; exact Kd.own_blk (Kd.R_ne HO518.out BK525.out (by decide)))) _).trans (hHeld.2.2.2.2))))⟩ (fun hHeld => ?_)
         clear hK K
         refine done_ (done_of HT_.out (by kernel_rfl)) ?_
         have hnb51 := NB525_501.out
         have hnc51 := NB501_525.out
         obtain ⟨hcz52_0, hcz52_1⟩ := cz2_ BK525.out
         obtain ⟨hfz52_0, hfz52_1⟩ := fz2_ BK525.out
         try go_wp2_with (first | ((with_reducible refine gate_builtin (b := .append) (xs := #[.tmp 53, .tmp 56]) rfl ?_); at_builtin; refine Kd.R_append (Kd.int .i64) (w0 := w) w.heap.size rfl (.tmp 53) (.tmp 56) 26 3 (.int .i64 0) 8 rfl Try.underlying26 info3 rfl (by decide) (by omega) v514 y513 t523 [.int .i64 t523] (fun k_ => some k_ ≠ (.slice (some ⟨go26, 0, none⟩) y510.length co26 : Value).ownBlock ∧ some k_ ≠ (.slice (some ad519) t516.length co40 : Value).ownBlock) (fun _ => False) rfl (by first | (go_simp; done) | (go_simp; rfl)) ?aP (fun _ hk => hk.elim) ?aF ?aO ?aB ?aS ?aL ?_; (case aP => exact rfl); (case aB => exact (hb2_ HB.out GE501.out GE525.out)); (case aF => exact (fun k_ hk => ⟨Kd.fresh' (Kd.R_lt (by (with_reducible repeat (first | apply Kd.R_alloc | apply Kd.R_drewN | apply Kd.R_drew)); exact (Kd.R_mono (Kd.R_far (p := ⟨gb525, 1, none⟩) (Kd.R_far (p := ⟨gb525, 0, none⟩) (Kd.R_types HO512.out BK525.out (by decide)) (fun _ hk => hk.2) (.int .i64 t523)) (fun _ hk => hk.2) (.int .i64 (rd t516 0))) (fun _ h_ => h_.1)))) k_ hk, Kd.fresh' (Kd.R_lt (by (with_reducible repeat (first | apply Kd.R_alloc | apply Kd.R_drewN | apply Kd.R_drew)); exact (Kd.R_mono (Kd.R_far (p := ⟨gb525, 1, none⟩) (Kd.R_far (p := ⟨gb525, 0, none⟩) (Kd.R_types HO518.out BK525.out (by decide)) (fun _ hk => hk.2) (.int .i64 t523)) (fun _ hk => hk.2) (.int .i64 (rd t516 0))) (fun _ h_ => h_.1)))) k_ hk⟩)); (case aO => exact (by (with_reducible repeat (first | apply Kd.R_alloc | apply Kd.R_drewN | apply Kd.R_drew)); exact Kd.R_mono (Kd.R_far (p := ⟨gb525, 1, none⟩) (Kd.R_far (p := ⟨gb525, 0, none⟩) (Kd.R_types HO515.out BK525.out (by decide)) (fun _ hk => hk.2) (.int .i64 t523)) (fun _ hk => hk.2) (.int .i64 (rd t516 0))) (fun _ hk => ⟨hk.1.1, hk.1.2⟩))); (case aS => exact (below_size (hb2_ HB.out GE501.out GE525.out))); (case aL => have := LMc28.out; omega); intro v527 w53 ho hb hg hat; rw [← Ny526.out] at ho; replace BK501 := Aside0.mk (blk_grown (g := gb501) (o := .cells #[.int .i64 a0_0, .int .i64 a0_1, .int .i64 a0_2] 33 (0, 0)) (by (with_reducible repeat (first | refine blk_drewN ?_ _ | refine blk_drew ?_ | refine blk_alloc ?_ _)); refine blk_far ?_ NB501_525.out _; (with_reducible repeat (first | refine blk_drewN ?_ _ | refine blk_drew ?_ | refine blk_alloc ?_ _)); refine blk_far ?_ NB501_525.out _; (with_reducible repeat (first | refine blk_drewN ?_ _ | refine blk_drew ?_ | refine blk_alloc ?_ _)); exact BK501.out) hg (Kd.R_ne HO515.out BK501.out (by decide))); replace HO512 := Aside0.mk (Kd.R_after (ok := (fun k_ => some k_ ≠ (.slice (some ad519) t516.length co40 : Value).ownBlock)) (by (with_reducible repeat (first | apply Kd.R_alloc | apply Kd.R_drewN | apply Kd.R_drew)); exact Kd.R_mono (Kd.R_far (p := ⟨gb525, 1, none⟩) (Kd.R_far (p := ⟨gb525, 0, none⟩) (Kd.R_types HO512.out BK525.out (by decide)) (fun _ hk => hk.2) (.int .i64 t523)) (fun _ hk => hk.2) (.int .i64 (rd t516 0))) (fun _ hk => ⟨hk.1.2, hk.1.1⟩)) hg hat); replace HO518 := Aside0.mk (Kd.R_after (ok := (fun k_ => some k_ ≠ (.slice (some ⟨go26, 0, none⟩) y510.length co26 : Value).ownBlock)) (by (with_reducible repeat (first | apply Kd.R_alloc | apply Kd.R_drewN | apply Kd.R_drew)); exact Kd.R_mono (Kd.R_far (p := ⟨gb525, 1, none⟩) (Kd.R_far (p := ⟨gb525, 0, none⟩) (Kd.R_types HO518.out BK525.out (by decide)) (fun _ hk => hk.2) (.int .i64 t523)) (fun _ hk => hk.2) (.int .i64 (rd t516 0))) (fun _ hk => ⟨hk.1.1, hk.1.2⟩)) hg hat); replace BK525 := Aside0.mk (blk_grown (g := gb525) (o := .cells #[.int .i64 t523, .int .i64 (rd t516 0)] 65 (0, 0)) (by (with_reducible repeat (first | refine blk_drewN ?_ _ | refine blk_drew ?_ | refine blk_alloc ?_ _)); refine blk_put (cs := #[.int .i64 t523, .int .i64 0]) ?_ 1 _ rfl; (with_reducible repeat (first | refine blk_drewN ?_ _ | refine blk_drew ?_ | refine blk_alloc ?_ _)); refine blk_put (cs := #[.int .i64 0, .int .i64 0]) ?_ 0 _ rfl; (with_reducible repeat (first | refine blk_drewN ?_ _ | refine blk_drew ?_ | refine blk_alloc ?_ _)); exact BK525.out) hg (Kd.R_ne HO515.out BK525.out (by decide))); replace HB := Aside0.mk (hb); have HO528 := Aside0.mk (ho); clear HO515; clear ho hb hg hat))
         go_loopg [7, 10] k (fun kq v7 v10 w' => ∃ (x6_1 : List Int) (x7_1 : List Int) (x10_1 : Int) (x526000_1 : Int) (x526001_1 : Int), v10 = .int .i64 x10_1 ∧ Aside0 (spec_TremauxWalk.l0 kq x6_1 x7_1 x10_1 a0_0 a0_1 a0_2 x526000_1 x526001_1 = some (r1, r2)) ∧ Aside0 (kq ≤ k) ∧ Aside0 (Kd.R (Kd.int .i64) 3 w' w.heap.size (fun k_ => some k_ ≠ (v7 : Value).ownBlock) (.slice (some ⟨go26, 0, none⟩) y510.length co26) x6_1) ∧ Aside0 (Kd.R (Kd.int .i64) 3 w' w.heap.size (fun k_ => some k_ ≠ ((.slice (some ⟨go26, 0, none⟩) y510.length co26) : Value).ownBlock) v7 x7_1) ∧ Aside0 (w'.heap[gb501]? = some (.cells #[.int .i64 a0_0, .int .i64 a0_1, .int .i64 a0_2] 33 (0, 0))) ∧ Aside0 (w'.heap[gb525]? = some (.cells #[.int .i64 x526000_1, .int .i64 x526001_1] 65 (0, 0))) ∧ Aside0 (Below w.heap.size w w'))
         case atStart => exact ⟨(y521), (y526), (1), (t523), (rd t516 0), (by first | rfl | (simp; done) | (simp [*]; done)), H', ⟨Nat.le_refl _⟩, ⟨by (with_reducible repeat (first | apply Kd.R_alloc | apply Kd.R_drewN | apply Kd.R_drew)); exact Kd.R_mono HO512.out (fun _ hk => hk.2)⟩, ⟨by (with_reducible repeat (first | apply Kd.R_alloc | apply Kd.R_drewN | apply Kd.R_drew)); exact Kd.R_mono HO528.out (fun _ hk => hk.1)⟩, ⟨bk_ BK501.out⟩, ⟨bk_ BK525.out⟩, ⟨hb2_ HB.out GE501.out GE525.out⟩⟩
         case round =>
          clear H'
          try clear c2
          try clear p2
          try clear q2
          try clear hx2
          try clear hf2
          try clear c4
          try clear c5
          try clear p5
          try clear q5
          try clear hx5
          try clear qi5
          try clear c6
          try clear c6b0
          try clear c6b1
          try clear c7
          try clear c7b0
          try clear c7b1
          try clear c8
          try clear c9
          try clear c9b0
          try clear c9b1
          try clear c9b2
          try clear c22
          try clear c22b0
          try clear c22b1
          try clear c24
          try clear c24b0
          try clear c25
          try clear c25b0
          try clear p26
          try clear q26
          try clear hx26
          try clear hf26
          try clear c28
          try clear c47
          try clear c51
          try clear p51
          try clear q51
          try clear hx51
          try clear qi51
          try clear p52
          try clear q52
          try clear hx52
          try clear qi52
          try clear hcz11_0
          try clear hcz11_1
          try clear hcz11_2
          try clear hcz13_0
          try clear hcz13_1
          try clear hcz13_2
          try clear hcz19_0
          try clear hcz19_1
          try clear hcz19_2
          try clear hcz30_0
          try clear hcz30_1
          try clear hcz30_2
          try clear hcz32_0
          try clear hcz32_1
          try clear hcz32_2
          try clear hcz38_0
          try clear hcz38_1
          try clear hcz38_2
          try clear hcz52_0
          try clear hcz52_1
          try clear hfz11_0
          try clear hfz11_1
          try clear hfz11_2
          try clear hfz13_0
          try clear hfz13_1
          try clear hfz13_2
          try clear hfz19_0
          try clear hfz19_1
          try clear hfz19_2
          try clear hfz30_0
          try clear hfz30_1
          try clear hfz30_2
          try clear hfz32_0
          try clear hfz32_1
          try clear hfz32_2
          try clear hfz38_0
          try clear hfz38_1
          try clear hfz38_2
          try clear hfz52_0
          try clear hfz52_1
          try clear hx26_0
          try clear hx519_0
          try clear hx522_0
          try clear hx524_0
          try clear p26
          try clear p519
          try clear p522
          try clear p524
          try clear q26
          try clear q519
          try clear q522
          try clear q524
          obtain ⟨x6_1, x7_1, x10_1, x526000_1, x526001_1, rfl, HA, HK1, HO_6, HO_7, BK501, BK525, HB⟩ := hrel
          have hl6_1 := (Kd.R_reads' HO_6.out).1
          rw [hl6_1] at HO_6
          (try simp only [hl6_1])
          (try simp only [hl6_1] at BK501)
          (try simp only [hl6_1] at BK525)
          (try simp only [hl6_1] at HO_7)
          cases gk with
          | zero => exact absurd HA.out (by simp [spec_TremauxWalk.l0])
          | succ k1 =>
           have H := HA.out
           clear HA
           simp only [spec_TremauxWalk.l0] at H
           by_cases c54 : x10_1 < 200
           ·rw [if_pos c54] at H
            have c54b0 : decide (x10_1 < 200) = true := decide_eq_true c54
            clear c54
            replace H := Option.bind_eq_some_iff.mp H
            obtain ⟨⟨t529, t530, t531⟩, A550, H⟩ := H
            replace H : (if t531 = true then ((spec_GapAt.f k1 a0_0 a0_1 x526000_1 t530).bind fun t533 => (if 0 ≤ t533 then (if t533 < (x6_1.length : Int) then (if x7_1.length < 17592186044416 then (spec_TremauxWalk.l0 k1 (x6_1.set (t533 : Int).toNat (wrap64 ((rd x6_1 t533) + 1))) (x7_1 ++ [t529]) (wrap64 (x10_1 + 1)) a0_0 a0_1 a0_2 t529 t530) else (none)) else (none)) else (none))) else (some (x7_1, x6_1))) = some (r1, r2) := H
            have A55 := Aside0.mk A550
            clear A550
            by_cases c56 : t531 = true
            ·subst c56
             have H1 : ((spec_GapAt.f k1 a0_0 a0_1 x526000_1 t530).bind fun t533 => (if 0 ≤ t533 then (if t533 < (x6_1.length : Int) then (if x7_1.length < 17592186044416 then (spec_TremauxWalk.l0 k1 (x6_1.set (t533 : Int).toNat (wrap64 ((rd x6_1 t533) + 1))) (x7_1 ++ [t529]) (wrap64 (x10_1 + 1)) a0_0 a0_1 a0_2 t529 t530) else (none)) else (none)) else (none))) = some (r1, r2) := by rw [if_pos rfl] at H; exact H
             clear H
             have H := H1
             clear H1
             replace H := Option.bind_eq_some_iff.mp H
             obtain ⟨t533, A570, H⟩ := H
             replace H : (if 0 ≤ t533 then (if t533 < (x6_1.length : Int) then (if x7_1.length < 17592186044416 then (spec_TremauxWalk.l0 k1 (x6_1.set (t533 : Int).toNat (wrap64 ((rd x6_1 t533) + 1))) (x7_1 ++ [t529]) (wrap64 (x10_1 + 1)) a0_0 a0_1 a0_2 t529 t530) else (none)) else (none)) else (none)) = some (r1, r2) := H
             have A57 := Aside0.mk A570
             clear A570
             by_cases c58 : 0 ≤ t533
             ·rw [if_pos c58] at H
              have c58b0 : decide (0 ≤ t533) = true := decide_eq_true c58
              clear c58
              by_cases c59 : t533 < (x6_1.length : Int)
              ·rw [if_pos c59] at H
               have c59b0 : decide (t533 < (x6_1.length : Int)) = true := decide_eq_true c59
               clear c59
               obtain ⟨y535, hy535⟩ : ∃ y_ : List Int, y_ = (x6_1.set (t533 : Int).toNat (wrap64 ((rd x6_1 t533) + 1))) := ⟨_, rfl⟩
               replace H : (if x7_1.length < 17592186044416 then (spec_TremauxWalk.l0 k1 y535 (x7_1 ++ [t529]) (wrap64 (x10_1 + 1)) a0_0 a0_1 a0_2 t529 t530) else (none)) = some (r1, r2) := by first | (rw [hy535]; with_reducible exact H) | (have H2_ := (Option.bind_some _ _).symm.trans H; rw [hy535]; with_reducible exact H2_) | (have H2_ := (Option.bind_some _ _).symm.trans H; with_reducible exact H2_) | with_reducible exact H | (rw [hy535]; exact H) | exact H
               have Ny535 := Aside0.mk hy535
               clear hy535
               by_cases c61 : x7_1.length < 17592186044416
               ·rw [if_pos c61] at H
                have LMc61 := Aside0.mk c61
                clear c61
                obtain ⟨y536, hy536⟩ : ∃ y_ : List Int, y_ = (x7_1 ++ [t529]) := ⟨_, rfl⟩
                replace H : (spec_TremauxWalk.l0 k1 y535 y536 (wrap64 (x10_1 + 1)) a0_0 a0_1 a0_2 t529 t530) = some (r1, r2) := by first | (rw [hy536]; with_reducible exact H) | (have H2_ := (Option.bind_some _ _).symm.trans H; rw [hy536]; with_reducible exact H2_) | (have H2_ := (Option.bind_some _ _).symm.trans H; with_reducible exact H2_) | with_reducible exact H | (rw [hy536]; exact H) | exact H
                have Ny536 := Aside0.mk hy536
                clear hy536
                have H' := Aside0.mk H
                clear H
                have hnb62 := NB501_525.out
                have hnc62 := NB525_501.out
                obtain ⟨hcz63_0, hcz63_1, hcz63_2⟩ := cz3_ BK501.out
                obtain ⟨hfz63_0, hfz63_1, hfz63_2⟩ := fz3_ BK501.out
                obtain ⟨hcz64_0, hcz64_1⟩ := cz2_ BK525.out
                obtain ⟨hfz64_0, hfz64_1⟩ := fz2_ BK525.out
                go_wp2_with (first | ((with_reducible refine gate_callee (f := 44) rfl ?_); refine goesL_ (some 66) rfl rfl Try.func44 (by kernel_rfl) rfl #[.agg #[.int .i64 a0_0, .int .i64 a0_1, .int .i64 a0_2], .slice (some ⟨go26, 0, none⟩) x6_1.length co26, .agg #[.int .i64 x526000_1, .int .i64 x526001_1]] rfl (ml_) ?_; (with_reducible refine (spec_TremauxStep.calls k1 a0_0 a0_1 a0_2 _ _ x6_1 x526000_1 x526001_1 t529 t530 true _ ?side1 ?side2 A55.out).mono ?_); (case side1 => repeat (first | exact (Kd.R_reads' HO_6.out).2.2 | (with_reducible refine Kd.C_alloc ?_ _) | (with_reducible refine Kd.C_drewN ?_ _) | (with_reducible refine Kd.C_drew ?_))); (case side2 => exact (Kd.R_reads' HO_6.out).2.1); rintro e w65 ⟨rfl, hb⟩; refine ⟨_, rfl, ?_⟩; replace HO_6 := Aside0.mk (Kd.R_below (kr_ HO_6.out) hb); replace HO_7 := Aside0.mk (Kd.R_below (kr_ HO_7.out) hb); replace BK501 := Aside0.mk (bb_ BK501.out hb); replace BK525 := Aside0.mk (bb_ BK525.out hb); replace HB := Aside0.mk (below_step (hb2_ HB.out GE501.out GE525.out) hb); (try clear hb); (try clear hb2); (try clear hk); (try clear hi)) | ((with_reducible refine gate_dst (N := 11) rfl ?_); refine box_event ?hg (N := 11) ?hd (cs := #[.int .i64 0, .int .i64 0]) (t := 65) ?hr ?_; (case hd => rfl); (case hg => rfl); (case hr => first | (go_simp; done) | (go_simp; rfl)); intro gb532 hg w66 hbox hb; have n0_ := Aside0.mk (Kd.R_below (kr_ HO_6.out) hb); have n1_ := Aside0.mk (Kd.R_below (kr_ HO_7.out) hb); have n2_ := Aside0.mk (bb_ BK501.out hb); have n3_ := Aside0.mk (bb_ BK525.out hb); have n4_ := Aside0.mk (below_step (hb2_ HB.out GE501.out GE525.out) hb); have n5_ := Aside0.mk (hbox); have n6_ := Aside0.mk ((gs_ hg (hb2_ HB.out GE501.out GE525.out))); have n7_ := Aside0.mk ((gs_ hg (hb2_ HB.out GE501.out GE525.out))); have n8_ := Aside0.mk (nl_ hg BK501.out); have n9_ := Aside0.mk (nr_ hg BK501.out); have n10_ := Aside0.mk (nl_ hg BK525.out); have n11_ := Aside0.mk (nr_ hg BK525.out); clear HO_6; clear HO_7; clear BK501; clear BK525; clear HB; have HO_6 := n0_; have HO_7 := n1_; have BK501 := n2_; have BK525 := n3_; have HB := n4_; have BK532 := n5_; have GW532 := n6_; have GE532 := n7_; have NB501_532 := n8_; have NB532_501 := n9_; have NB525_532 := n10_; have NB532_525 := n11_; clear n0_ n1_ n2_ n3_ n4_ n5_ n6_ n7_ n8_ n9_ n10_ n11_; clear hb hbox hg; have hnb67 := NB532_501.out; have hnc67 := NB501_532.out; have hnb68 := NB532_525.out; have hnc68 := NB525_532.out; obtain ⟨hcz69_0, hcz69_1⟩ := cz2_ BK532.out; obtain ⟨hfz69_0, hfz69_1⟩ := fz2_ BK532.out; obtain ⟨hcz70_0, hcz70_1, hcz70_2⟩ := cz3_ BK501.out; obtain ⟨hfz70_0, hfz70_1, hfz70_2⟩ := fz3_ BK501.out; obtain ⟨hcz71_0, hcz71_1⟩ := cz2_ BK525.out; obtain ⟨hfz71_0, hfz71_1⟩ := fz2_ BK525.out) | ((with_reducible refine gate_callee (f := 88) rfl ?_); refine goesL_ (some 77) rfl rfl Try.func88 (by kernel_rfl) rfl #[.agg #[.int .i64 a0_0, .int .i64 a0_1], .int .i64 x526000_1, .int .i64 t530] rfl (ml_) ?_; (with_reducible refine (spec_GapAt.calls k1 a0_0 a0_1 x526000_1 t530 t533 _ A57.out).mono ?_); rintro e w72 ⟨rfl, hb⟩; refine ⟨_, rfl, ?_⟩; replace HO_6 := Aside0.mk (Kd.R_below (by (with_reducible repeat (first | apply Kd.R_alloc | apply Kd.R_drewN | apply Kd.R_drew)); exact (Kd.R_mono (Kd.R_far (p := ⟨gb532, 1, none⟩) (Kd.R_far (p := ⟨gb532, 0, none⟩) (Kd.R_types HO_6.out BK532.out (by decide)) (fun _ hk => hk.2) (.int .i64 t529)) (fun _ hk => hk.2) (.int .i64 t530)) (fun _ h_ => h_.1))) hb); replace HO_7 := Aside0.mk (Kd.R_below (by (with_reducible repeat (first | apply Kd.R_alloc | apply Kd.R_drewN | apply Kd.R_drew)); exact (Kd.R_mono (Kd.R_far (p := ⟨gb532, 1, none⟩) (Kd.R_far (p := ⟨gb532, 0, none⟩) (Kd.R_types HO_7.out BK532.out (by decide)) (fun _ hk => hk.2) (.int .i64 t529)) (fun _ hk => hk.2) (.int .i64 t530)) (fun _ h_ => h_.1))) hb); replace BK501 := Aside0.mk (blk_below (g := gb501) (o := .cells #[.int .i64 a0_0, .int .i64 a0_1, .int .i64 a0_2] 33 (0, 0)) (by (with_reducible repeat (first | refine blk_drewN ?_ _ | refine blk_drew ?_ | refine blk_alloc ?_ _)); refine blk_far ?_ NB501_532.out _; (with_reducible repeat (first | refine blk_drewN ?_ _ | refine blk_drew ?_ | refine blk_alloc ?_ _)); refine blk_far ?_ NB501_532.out _; (with_reducible repeat (first | refine blk_drewN ?_ _ | refine blk_drew ?_ | refine blk_alloc ?_ _)); exact BK501.out) hb); replace BK525 := Aside0.mk (blk_below (g := gb525) (o := .cells #[.int .i64 x526000_1, .int .i64 x526001_1] 65 (0, 0)) (by (with_reducible repeat (first | refine blk_drewN ?_ _ | refine blk_drew ?_ | refine blk_alloc ?_ _)); refine blk_far ?_ NB525_532.out _; (with_reducible repeat (first | refine blk_drewN ?_ _ | refine blk_drew ?_ | refine blk_alloc ?_ _)); refine blk_far ?_ NB525_532.out _; (with_reducible repeat (first | refine blk_drewN ?_ _ | refine blk_drew ?_ | refine blk_alloc ?_ _)); exact BK525.out) hb); replace BK532 := Aside0.mk (blk_below (g := gb532) (o := .cells #[.int .i64 t529, .int .i64 t530] 65 (0, 0)) (by (with_reducible repeat (first | refine blk_drewN ?_ _ | refine blk_drew ?_ | refine blk_alloc ?_ _)); refine blk_put (cs := #[.int .i64 t529, .int .i64 0]) ?_ 1 _ rfl; (with_reducible repeat (first | refine blk_drewN ?_ _ | refine blk_drew ?_ | refine blk_alloc ?_ _)); refine blk_put (cs := #[.int .i64 0, .int .i64 0]) ?_ 0 _ rfl; (with_reducible repeat (first | refine blk_drewN ?_ _ | refine blk_drew ?_ | refine blk_alloc ?_ _)); exact BK532.out) hb); replace HB := Aside0.mk (below_step (hb3_ HB.out GE501.out GE525.out GE532.out) hb); (try clear hb); (try clear hb2); (try clear hk); (try clear hi); have p534 : 0 ≤ (t533 : Int) := of_decide_eq_true (as_); have q534 : t533 < (x6_1.length : Int) := of_decide_eq_true (as_); obtain ⟨ad534, e534, hx534_0⟩ := Kd.at_int (Kd.R_reads' HO_6.out).2.2 t533 p534 q534; obtain rfl : (⟨go26, 0, none⟩ : Addr) = ad534 := (by injection e534); (first | simp only [add_plain] at hx534_0 | simp only [add_at] at hx534_0 | simp only [Addr.add, Nat.zero_add] at hx534_0 | skip); replace p534 := eq_true p534; replace q534 := eq_true q534; have p60 : 0 ≤ (t533 : Int) := of_decide_eq_true (as_); have q60 : (t533 : Int) < ((x6_1.length : Int) : Int) := of_decide_eq_true (as_); obtain ⟨hx60_0, hf60_0⟩ := Kd.R_celln 0 HO_6.out (t533 : Int) p60 q60; replace p60 := eq_true p60; replace q60 := eq_true q60; obtain ⟨hy73_, hz73_⟩ := Kd.R_celln 0 HO_6.out (t533 : Int) (of_decide_eq_true (as_)) (of_decide_eq_true (as_)); have HP73 := Kd.R_putg HO_6.out (t533 : Int) (wrap64 ((rd x6_1 t533) + 1))) | ((with_reducible refine gate_store (t := 3) (p := 85) rfl ?_); refine store_event (t := 3) (p := 85) (v := ?vo_w74) (w1 := (w72.setCell ⟨go26, (t533 : Int).toNat, none⟩ (.int .i64 (wrap64 ((rd x6_1 t533) + 1))))) ?hg ?ho ?hn ?hr ?_; (case ho => rfl); (case hg => rfl); (case hn => rfl); (case hr => first | (go_simp; done) | (go_simp; rfl)); intro w74 hw; have hg : w72.grownBy w74 (some go26) := (by rw [hw]; exact HP73.2); have hp_ : Kd.R (Kd.int .i64) 3 w74 w.heap.size (fun k_ => some k_ ≠ (u7 : Value).ownBlock) (.slice (some ⟨go26, 0, none⟩) x6_1.length co26) y535 := (by rw [hw, Ny535.out]; exact HP73.1); clear HP73; have n0_ := Aside0.mk (hp_); have n1_ := Aside0.mk (Kd.R_after (v := (.slice (some ⟨go26, 0, none⟩) x6_1.length co26)) (v1 := (.slice (some ⟨go26, 0, none⟩) x6_1.length co26)) (ok := (fun _ => True)) (by (with_reducible repeat (first | apply Kd.R_alloc | apply Kd.R_drewN | apply Kd.R_drew)); exact Kd.R_mono HO_7.out (fun _ hk => ⟨trivial, hk⟩)) hg (.inl rfl)); have n2_ := Aside0.mk (blk_grown (g := gb501) (o := .cells #[.int .i64 a0_0, .int .i64 a0_1, .int .i64 a0_2] 33 (0, 0)) (bk_ BK501.out) hg (Kd.R_ne HO_6.out BK501.out (by decide))); have n3_ := Aside0.mk (blk_grown (g := gb525) (o := .cells #[.int .i64 x526000_1, .int .i64 x526001_1] 65 (0, 0)) (bk_ BK525.out) hg (Kd.R_ne HO_6.out BK525.out (by decide))); have n4_ := Aside0.mk (blk_grown (g := gb532) (o := .cells #[.int .i64 t529, .int .i64 t530] 65 (0, 0)) (bk_ BK532.out) hg (Kd.R_ne HO_6.out BK532.out (by decide))); have n5_ := Aside0.mk ((by rw [hw]; exact below_set (HB.out) GB26.out : Below w.heap.size w w74)); clear HO_6; clear HO_7; clear BK501; clear BK525; clear BK532; clear HB; have HO_6 := n0_; have HO_7 := n1_; have BK501 := n2_; have BK525 := n3_; have BK532 := n4_; have HB := n5_; clear n0_ n1_ n2_ n3_ n4_ n5_; clear hg hw hp_; obtain ⟨hcz75_0, hcz75_1⟩ := cz2_ BK532.out; obtain ⟨hfz75_0, hfz75_1⟩ := fz2_ BK532.out; obtain ⟨hcz76_0, hcz76_1⟩ := cz2_ BK525.out; obtain ⟨hfz76_0, hfz76_1⟩ := fz2_ BK525.out) | ((with_reducible refine gate_builtin (b := .append) (xs := #[.tmp 87, .tmp 90]) rfl ?_); at_builtin; refine Kd.R_append (Kd.int .i64) (w0 := w) w.heap.size rfl (.tmp 87) (.tmp 90) 26 3 (.int .i64 0) 8 rfl Try.underlying26 info3 rfl (by decide) (by omega) u7 x7_1 t529 [.int .i64 t529] (fun k_ => some k_ ≠ (.slice (some ⟨go26, 0, none⟩) x6_1.length co26 : Value).ownBlock) (fun _ => False) rfl (by first | (go_simp; done) | (go_simp; rfl)) ?aP (fun _ hk => hk.elim) ?aF ?aO ?aB ?aS ?aL ?_; (case aP => exact rfl); (case aB => exact (hb3_ HB.out GE501.out GE525.out GE532.out)); (case aF => exact (fun k_ hk => Kd.fresh' (Kd.R_lt (by (with_reducible repeat (first | apply Kd.R_alloc | apply Kd.R_drewN | apply Kd.R_drew)); exact (Kd.R_mono (Kd.R_far (p := ⟨gb525, 1, none⟩) (Kd.R_far (p := ⟨gb525, 0, none⟩) (Kd.R_types HO_6.out BK525.out (by decide)) (fun _ hk => hk.2) (.int .i64 t529)) (fun _ hk => hk.2) (.int .i64 t530)) (fun _ h_ => h_.1)))) k_ hk)); (case aO => exact (by (with_reducible repeat (first | apply Kd.R_alloc | apply Kd.R_drewN | apply Kd.R_drew)); exact Kd.R_mono (Kd.R_far (p := ⟨gb525, 1, none⟩) (Kd.R_far (p := ⟨gb525, 0, none⟩) (Kd.R_types HO_7.out BK525.out (by decide)) (fun _ hk => hk.2) (.int .i64 t529)) (fun _ hk => hk.2) (.int .i64 t530)) (fun _ hk => hk.1.2))); (case aS => exact (below_size (hb3_ HB.out GE501.out GE525.out GE532.out))); (case aL => have := LMc61.out; omega); intro v537 w77 ho hb hg hat; rw [← Ny536.out] at ho; replace HO_6 := Aside0.mk (Kd.R_after (ok := (fun _ => True)) (by (with_reducible repeat (first | apply Kd.R_alloc | apply Kd.R_drewN | apply Kd.R_drew)); exact Kd.R_mono (Kd.R_far (p := ⟨gb525, 1, none⟩) (Kd.R_far (p := ⟨gb525, 0, none⟩) (Kd.R_types HO_6.out BK525.out (by decide)) (fun _ hk => hk.2) (.int .i64 t529)) (fun _ hk => hk.2) (.int .i64 t530)) (fun _ hk => ⟨trivial, hk.1⟩)) hg hat); replace BK501 := Aside0.mk (blk_grown (g := gb501) (o := .cells #[.int .i64 a0_0, .int .i64 a0_1, .int .i64 a0_2] 33 (0, 0)) (by (with_reducible repeat (first | refine blk_drewN ?_ _ | refine blk_drew ?_ | refine blk_alloc ?_ _)); refine blk_far ?_ NB501_525.out _; (with_reducible repeat (first | refine blk_drewN ?_ _ | refine blk_drew ?_ | refine blk_alloc ?_ _)); refine blk_far ?_ NB501_525.out _; (with_reducible repeat (first | refine blk_drewN ?_ _ | refine blk_drew ?_ | refine blk_alloc ?_ _)); exact BK501.out) hg (Kd.R_ne HO_7.out BK501.out (by decide))); replace BK525 := Aside0.mk (blk_grown (g := gb525) (o := .cells #[.int .i64 t529, .int .i64 t530] 65 (0, 0)) (by (with_reducible repeat (first | refine blk_drewN ?_ _ | refine blk_drew ?_ | refine blk_alloc ?_ _)); refine blk_put (cs := #[.int .i64 t529, .int .i64 x526001_1]) ?_ 1 _ rfl; (with_reducible repeat (first | refine blk_drewN ?_ _ | refine blk_drew ?_ | refine blk_alloc ?_ _)); refine blk_put (cs := #[.int .i64 x526000_1, .int .i64 x526001_1]) ?_ 0 _ rfl; (with_reducible repeat (first | refine blk_drewN ?_ _ | refine blk_drew ?_ | refine blk_alloc ?_ _)); exact BK525.out) hg (Kd.R_ne HO_7.out BK525.out (by decide))); replace BK532 := Aside0.mk (blk_grown (g := gb532) (o := .cells #[.int .i64 t529, .int .i64 t530] 65 (0, 0)) (by (with_reducible repeat (first | refine blk_drewN ?_ _ | refine blk_drew ?_ | refine blk_alloc ?_ _)); refine blk_far ?_ NB532_525.out _; (with_reducible repeat (first | refine blk_drewN ?_ _ | refine blk_drew ?_ | refine blk_alloc ?_ _)); refine blk_far ?_ NB532_525.out _; (with_reducible repeat (first | refine blk_drewN ?_ _ | refine blk_drew ?_ | refine blk_alloc ?_ _)); exact BK532.out) hg (Kd.R_ne HO_7.out BK532.out (by decide))); replace HB := Aside0.mk (hb); have HO538 := Aside0.mk (ho); clear HO_7; clear ho hb hg hat))
                (try simp only [← hl6_1])
                go_roundg k1
                case measure => have := HK1.out; omega
                case rel => exact ⟨(y535), (y536), (wrap64 (x10_1 + 1)), (t529), (t530), (by first | rfl | (simp; done) | (simp [*]; done)), H', ⟨by have := HK1.out; omega⟩, ⟨by (try simp only [hl6_1]); (with_reducible repeat (first | apply Kd.R_alloc | apply Kd.R_drewN | apply Kd.R_drew)); exact Kd.R_mono HO_6.out (fun _ hk => hk.2)⟩, ⟨by (try simp only [hl6_1]); (with_reducible repeat (first | apply Kd.R_alloc | apply Kd.R_drewN | apply Kd.R_drew)); exact HO538.out⟩, ⟨by (try simp only [hl6_1]); (with_reducible repeat (first | refine blk_drewN ?_ _ | refine blk_drew ?_ | refine blk_alloc ?_ _)); exact BK501.out⟩, ⟨by (try simp only [hl6_1]); (with_reducible repeat (first | refine blk_drewN ?_ _ | refine blk_drew ?_ | refine blk_alloc ?_ _)); exact BK525.out⟩, ⟨hb3_ HB.out GE501.out GE525.out GE532.out⟩⟩
               ·rw [if_neg c61] at H
                exact absurd H (by simp)
              ·rw [if_neg c59] at H
               exact absurd H (by simp)
             ·rw [if_neg c58] at H
              exact absurd H (by simp)
            ·replace c56 := Bool.eq_false_iff.mpr c56
             subst c56
             have H1 : (some (x7_1, x6_1)) = some (r1, r2) := by rw [if_neg (show ¬ (false = true) by decide)] at H; exact H
             clear H
             have H := H1
             clear H1
             simp only [Option.some.injEq, Prod.mk.injEq] at H
             obtain ⟨rfl, rfl⟩ := H
             have hnb78 := NB501_525.out
             have hnc78 := NB525_501.out
             obtain ⟨hcz79_0, hcz79_1, hcz79_2⟩ := cz3_ BK501.out
             obtain ⟨hfz79_0, hfz79_1, hfz79_2⟩ := fz3_ BK501.out
             obtain ⟨hcz80_0, hcz80_1⟩ := cz2_ BK525.out
             obtain ⟨hfz80_0, hfz80_1⟩ := fz2_ BK525.out
             go_wp2_with (first | ((with_reducible refine gate_callee (f := 44) rfl ?_); refine goesL_ (some 66) rfl rfl Try.func44 (by kernel_rfl) rfl #[.agg #[.int .i64 a0_0, .int .i64 a0_1, .int .i64 a0_2], .slice (some ⟨go26, 0, none⟩) x6_1.length co26, .agg #[.int .i64 x526000_1, .int .i64 x526001_1]] rfl (ml_) ?_; (with_reducible refine (spec_TremauxStep.calls k1 a0_0 a0_1 a0_2 _ _ x6_1 x526000_1 x526001_1 t529 t530 false _ ?side1 ?side2 A55.out).mono ?_); (case side1 => repeat (first | exact (Kd.R_reads' HO_6.out).2.2 | (with_reducible refine Kd.C_alloc ?_ _) | (with_reducible refine Kd.C_drewN ?_ _) | (with_reducible refine Kd.C_drew ?_))); (case side2 => exact (Kd.R_reads' HO_6.out).2.1); rintro e w81 ⟨rfl, hb⟩; refine ⟨_, rfl, ?_⟩; replace HO_6 := Aside0.mk (Kd.R_below (kr_ HO_6.out) hb); replace HO_7 := Aside0.mk (Kd.R_below (kr_ HO_7.out) hb); replace BK501 := Aside0.mk (bb_ BK501.out hb); replace BK525 := Aside0.mk (bb_ BK525.out hb); replace HB := Aside0.mk (below_step (hb2_ HB.out GE501.out GE525.out) hb); (try clear hb); (try clear hb2); (try clear hk); (try clear hi)) | ((with_reducible refine gate_dst (N := 11) rfl ?_); refine box_event ?hg (N := 11) ?hd (cs := #[.int .i64 0, .int .i64 0]) (t := 65) ?hr ?_; (case hd => rfl); (case hg => rfl); (case hr => first | (go_simp; done) | (go_simp; rfl)); intro gb532 hg w82 hbox hb; have n0_ := Aside0.mk (Kd.R_below (kr_ HO_6.out) hb); have n1_ := Aside0.mk (Kd.R_below (kr_ HO_7.out) hb); have n2_ := Aside0.mk (bb_ BK501.out hb); have n3_ := Aside0.mk (bb_ BK525.out hb); have n4_ := Aside0.mk (below_step (hb2_ HB.out GE501.out GE525.out) hb); have n5_ := Aside0.mk (hbox); have n6_ := Aside0.mk ((gs_ hg (hb2_ HB.out GE501.out GE525.out))); have n7_ := Aside0.mk ((gs_ hg (hb2_ HB.out GE501.out GE525.out))); have n8_ := Aside0.mk (nl_ hg BK501.out); have n9_ := Aside0.mk (nr_ hg BK501.out); have n10_ := Aside0.mk (nl_ hg BK525.out); have n11_ := Aside0.mk (nr_ hg BK525.out); clear HO_6; clear HO_7; clear BK501; clear BK525; clear HB; have HO_6 := n0_; have HO_7 := n1_; have BK501 := n2_; have BK525 := n3_; have HB := n4_; have BK532 := n5_; have GW532 := n6_; have GE532 := n7_; have NB501_532 := n8_; have NB532_501 := n9_; have NB525_532 := n10_; have NB532_525 := n11_; clear n0_ n1_ n2_ n3_ n4_ n5_ n6_ n7_ n8_ n9_ n10_ n11_; clear hb hbox hg; have hnb83 := NB532_501.out; have hnc83 := NB501_532.out; have hnb84 := NB532_525.out; have hnc84 := NB525_532.out; obtain ⟨hcz85_0, hcz85_1⟩ := cz2_ BK532.out; obtain ⟨hfz85_0, hfz85_1⟩ := fz2_ BK532.out))
             go_ret2
             exact ⟨_, _, by first | rfl | (simp [errW_none, errW_some] <;> rfl) | (simp [*, errW_none, errW_some] <;> rfl), by (with_reducible repeat (first | apply Kd.R_alloc | apply Kd.R_drewN | apply Kd.R_drew)); exact Kd.R_mono (Kd.R_far (p := ⟨gb532, 1, none⟩) (Kd.R_far (p := ⟨gb532, 0, none⟩) (Kd.R_types HO_7.out BK532.out (by decide)) (fun _ hk => hk.2) (.int .i64 t529)) (fun _ hk => hk.2) (.int .i64 t530)) (fun _ hk => hk.1), by (with_reducible repeat (first | apply Kd.R_alloc | apply Kd.R_drewN | apply Kd.R_drew)); exact Kd.R_mono (Kd.R_far (p := ⟨gb532, 1, none⟩) (Kd.R_far (p := ⟨gb532, 0, none⟩) (Kd.R_types HO_6.out BK532.out (by decide)) (fun _ hk => hk.2) (.int .i64 t529)) (fun _ hk => hk.2) (.int .i64 t530)) (fun _ hk => hk.1), hb3_ HB.out GE501.out GE525.out GE532.out⟩
           ·rw [if_neg c54] at H
            have c54b0 : decide (x10_1 < 200) = false := decide_eq_false c54
            clear c54
            simp only [Option.some.injEq, Prod.mk.injEq] at H
            obtain ⟨rfl, rfl⟩ := H
            go_wp2
            go_ret2
            exact ⟨_, _, by first | rfl | (simp [errW_none, errW_some] <;> rfl) | (simp [*, errW_none, errW_some] <;> rfl), kr_ HO_7.out, kr_ HO_6.out, hb2_ HB.out GE501.out GE525.out⟩
        ·rw [if_neg c28] at H
         exact absurd H (by simp)
       ·rw [if_neg c25] at H
        exact absurd H (by simp)
      ·rw [if_neg c24] at H
       exact absurd H (by simp)
     ·rw [if_neg c22] at H
      exact absurd H (by simp)
   ·rw [if_neg c7] at H
    exact absurd H (by simp)
  ·rw [if_neg c6] at H
   exact absurd H (by simp)
 ·replace c4 := Bool.eq_false_iff.mpr c4
  subst c4
  have H1 : (some ((([] : List Int)), (([] : List Int)))) = some (r1, r2) := by rw [if_neg (show ¬ (false = true) by decide)] at H; exact H
  clear H
  have H := H1
  clear H1
  obtain ⟨y503, hy503⟩ : ∃ y_ : List Int, y_ = (([] : List Int)) := ⟨_, rfl⟩
  replace H : (some (y503, (([] : List Int)))) = some (r1, r2) := by first | (rw [hy503]; with_reducible exact H) | (have H2_ := (Option.bind_some _ _).symm.trans H; rw [hy503]; with_reducible exact H2_) | (have H2_ := (Option.bind_some _ _).symm.trans H; with_reducible exact H2_) | with_reducible exact H | (rw [hy503]; exact H) | exact H
  have Ny503 := Aside0.mk hy503
  clear hy503
  obtain ⟨y506, hy506⟩ : ∃ y_ : List Int, y_ = (([] : List Int)) := ⟨_, rfl⟩
  replace H : (some (y503, y506)) = some (r1, r2) := by first | (rw [hy506]; with_reducible exact H) | (have H2_ := (Option.bind_some _ _).symm.trans H; rw [hy506]; with_reducible exact H2_) | (have H2_ := (Option.bind_some _ _).symm.trans H; with_reducible exact H2_) | with_reducible exact H | (rw [hy506]; exact H) | exact H
  have Ny506 := Aside0.mk hy506
  clear hy506
  simp only [Option.some.injEq, Prod.mk.injEq] at H
  obtain ⟨rfl, rfl⟩ := H
  go_enter Try.func47, Try.ntmps47
  go_wp2_with (first | ((with_reducible refine gate_dst (N := 2) rfl ?_); refine box_event ?hg (N := 2) ?hd (cs := #[.int .i64 a0_0, .int .i64 a0_1, .int .i64 a0_2]) (t := 33) ?hr ?_; (case hd => rfl); (case hg => rfl); (case hr => first | (go_simp; done) | (go_simp; rfl)); intro gb501 hg w86 hbox hb; have n0_ := Aside0.mk (below_step (hb0_ HB.out) hb); have n1_ := Aside0.mk (hbox); have n2_ := Aside0.mk ((gs_ hg (hb0_ HB.out))); have n3_ := Aside0.mk ((gs_ hg (hb0_ HB.out))); clear HB; have HB := n0_; have BK501 := n1_; have GW501 := n2_; have GE501 := n3_; clear n0_ n1_ n2_ n3_; clear hb hbox hg; obtain ⟨hcz87_0, hcz87_1, hcz87_2⟩ := cz3_ BK501.out; obtain ⟨hfz87_0, hfz87_1, hfz87_2⟩ := fz3_ BK501.out) | ((with_reducible refine gate_callee (f := 67) rfl ?_); refine goesL_ (some 16) rfl rfl Try.func67 (by kernel_rfl) rfl #[.agg #[.int .i64 a0_0, .int .i64 a0_1, .int .i64 a0_2], .int .i64 a1] rfl (ml_) ?_; (with_reducible refine (spec_l04Has.calls a0_0 a0_1 a0_2 a1 false _ A3.out).mono ?_); rintro e w88 ⟨rfl, hb⟩; refine ⟨_, rfl, ?_⟩; replace BK501 := Aside0.mk (bb_ BK501.out hb); replace HB := Aside0.mk (below_step (hb1_ HB.out GE501.out) hb); (try clear hb); (try clear hb2); (try clear hk); (try clear hi)) | ((with_reducible refine gate_dst (N := 18) rfl ?_); refine Kd.R_lit (Kd.int .i64) _ 3 ?hg (N := 18) ?hd (xs := ([] : List Int)) (inner := []) (ok := fun _ => True) (okp := fun _ => True) ?hr ?hp (fun _ hk => hk) trivial (Below.refl _ _) (Nat.le_refl _) (by simp) ?_; (case hd => rfl); (case hg => rfl); (case hr => first | (go_simp; done) | (go_simp; rfl)); (case hp => exact (Reps.none _ _)); intro v504 w89 ho90 hb hg_ hnew_; clear hg_ hnew_; (first | rw [← Ny503.out] at ho90 | (simp only [Int.reduceToNat] at ho90; rw [← Ny503.out] at ho90)); have HO505 := Aside0.mk (Kd.R_lower ho90 (below_size (hb1_ HB.out GE501.out))); replace BK501 := Aside0.mk (bb_ BK501.out hb); replace HB := Aside0.mk (below_step (hb1_ HB.out GE501.out) hb); clear hb ho90) | ((with_reducible refine gate_dst (N := 19) rfl ?_); refine Kd.R_lit (Kd.int .i64) _ 3 ?hg (N := 19) ?hd (xs := ([] : List Int)) (inner := []) (ok := fun _ => True) (okp := fun _ => True) ?hr ?hp (fun _ hk => hk) trivial (Below.refl _ _) (Nat.le_refl _) (by simp) ?_; (case hd => rfl); (case hg => rfl); (case hr => first | (go_simp; done) | (go_simp; rfl)); (case hp => exact (Reps.none _ _)); intro v507 w91 ho92 hb hg_ hnew_; clear hg_ hnew_; (first | rw [← Ny506.out] at ho92 | (simp only [Int.reduceToNat] at ho92; rw [← Ny506.out] at ho92)); have n0_ := Aside0.mk (Kd.R_elder' (kr_ HO505.out) (Kd.R_base ho92) hb); have n1_ := Aside0.mk (Kd.R_lower (Kd.R_new' ho92 (Kd.R_lt (kr_ HO505.out))) (below_size (hb1_ HB.out GE501.out))); have n2_ := Aside0.mk (bb_ BK501.out hb); have n3_ := Aside0.mk (below_step (hb1_ HB.out GE501.out) hb); clear HO505; clear BK501; clear HB; have HO505 := n0_; have HO508 := n1_; have BK501 := n2_; have HB := n3_; clear n0_ n1_ n2_ n3_; clear hb ho92))
  go_ret2
  exact ⟨_, _, by first | rfl | (simp [errW_none, errW_some] <;> rfl) | (simp [*, errW_none, errW_some] <;> rfl), by (with_reducible repeat (first | apply Kd.R_alloc | apply Kd.R_drewN | apply Kd.R_drew)); exact Kd.R_mono HO505.out (fun _ hk => hk.2), by (with_reducible repeat (first | apply Kd.R_alloc | apply Kd.R_drewN | apply Kd.R_drew)); exact Kd.R_mono HO508.out (fun _ hk => hk.2), hb1_ HB.out GE501.out⟩

end Go.Proofs.Ytekgbinadmjapaa.X
