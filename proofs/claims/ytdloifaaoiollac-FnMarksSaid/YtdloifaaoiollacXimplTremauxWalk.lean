-- Written by a program of this session (xprint.py), out of the translation and of hand-written contracts. Lean checks it.
import Derived.Test.YtdloifaaoiollacX0
import Derived.Test.YtdloifaaoiollacXcgaps
import Derived.Test.YtdloifaaoiollacXcin
import Derived.Test.YtdloifaaoiollacXcnbr
import Derived.Test.YtdloifaaoiollacXcstep
import Derived.Test.YtdloifaaoiollacXimplTremauxStep
import Derived.Test.YtdloifaaoiollacXimplmarked
namespace Go.Proofs.Ytdloifaaoiollac.X
open Go.RowKit Go.Proofs.YtdloifaaoiollacW.PrintWords Go.Proofs.YtdloifaaoiollacW.PrintLast Go.Proofs.YtdloifaaoiollacW.PrintMore
attribute [local go_sem] max2_int min2_int max_two min_two max_three min_three max_four min_four   -- for this text's walks alone
set_option linter.unusedVariables false
set_option linter.unusedSimpArgs false

/-! ### impl_TremauxWalk: function 18 -/
mutual
def impl_TremauxWalk.l0 : Nat → List Int → List Int → Bool → Int → Int → Int → Int → Int → Int → Option (List Int × List Int)
 | 0, _, _, _, _, _, _, _, _, _ => none
 | k + 1, x6, x7, x11, x12, x502000, x502001, x502002, x521000, x521001 => if x11 = true then (impl_TremauxWalk.j1 k x6 x7 x12 (decide ((x6.length : Int) ≤ 200)) x502000 x502001 x502002 x521000 x521001) else (impl_TremauxWalk.j1 k x6 x7 x12 false x502000 x502001 x502002 x521000 x521001)
def impl_TremauxWalk.j1 : Nat → List Int → List Int → Int → Bool → Int → Int → Int → Int → Int → Option (List Int × List Int)
 | 0, _, _, _, _, _, _, _, _, _ => none
 | k + 1, x6, x7, x12, x46, x502000, x502001, x502002, x521000, x521001 => if x46 = true then ((impl_GapAt.f k x502000 x502001 x12 x521001).bind fun t521 => (if 0 ≤ t521 then (if t521 < (x7.length : Int) then ((some (x7.set (t521 : Int).toNat (wrap64 ((rd x7 t521) + 1)) : List Int)).bind fun y523 => (if x6.length < 17592186044416 then ((impl_TremauxStep.f k x502000 x502001 x502002 y523 x521000 x521001).bind fun bt527 => (impl_TremauxWalk.l0 k (x6 ++ [x521000]) y523 bt527.2.2 x521000 x502000 x502001 x502002 bt527.1 bt527.2.1)) else (none))) else (none)) else (none))) else (some (x6, x7))
end
def impl_TremauxWalk.f (k : Nat) (a0_0 : Int) (a0_1 : Int) (a0_2 : Int) (a1 : Int) : Option (List Int × List Int) := (impl_isIn.f a0_0 a0_1 a0_2 (([a1] : List Int))).bind fun t505 => (if t505 = true then ((some (([a1] : List Int) : List Int)).bind fun y506 => ((impl_CountGaps.f a0_0 a0_1).bind fun t509 => (if 0 ≤ t509 then (if (t509 : Int).toNat ≤ 35184372088832 then ((some (List.replicate (t509 : Int).toNat 0 : List Int)).bind fun y510 => ((impl_WaysFrom.f k a0_0 a0_1 a0_2 a1).bind fun t513 => (if (t513.length : Int) = 0 then (some (y506, y510)) else (if 0 < (t513.length : Int) then ((impl_marked.f k a0_0 a0_1 a0_2 a1 0 (rd t513 0)).bind fun bt517 => (impl_TremauxWalk.l0 k y506 y510 true a1 a0_0 a0_1 a0_2 bt517.1 bt517.2)) else (none))))) else (none)) else (none)))) else (some (([] : List Int), ([] : List Int))))
theorem impl_TremauxWalk.mono_l : ∀ k, (∀ y0 y1 y2 y3 y4 y5 y6 y7 y8, LeO (impl_TremauxWalk.l0 k y0 y1 y2 y3 y4 y5 y6 y7 y8) (impl_TremauxWalk.l0 (k + 1) y0 y1 y2 y3 y4 y5 y6 y7 y8)) ∧ (∀ y0 y1 y2 y3 y4 y5 y6 y7 y8, LeO (impl_TremauxWalk.j1 k y0 y1 y2 y3 y4 y5 y6 y7 y8) (impl_TremauxWalk.j1 (k + 1) y0 y1 y2 y3 y4 y5 y6 y7 y8))
 | 0 => ⟨fun _ _ _ _ _ _ _ _ _ r h => by simp [impl_TremauxWalk.l0] at h, fun _ _ _ _ _ _ _ _ _ r h => by simp [impl_TremauxWalk.j1] at h⟩
 | k + 1 => by
  obtain ⟨ih0, ih1⟩ := impl_TremauxWalk.mono_l k
  refine ⟨?_, ?_⟩
  ·intro y0 y1 y2 y3 y4 y5 y6 y7 y8
   unfold impl_TremauxWalk.l0
   repeat' first
   | (with_reducible exact ih0 _ _ _ _ _ _ _ _ _)
   | (with_reducible exact ih1 _ _ _ _ _ _ _ _ _)
   | (with_reducible exact impl_GapAt.mono _ _ _ _ _)
   | (with_reducible exact impl_TremauxStep.mono _ _ _ _ _ _ _)
   | (with_reducible exact impl_WaysFrom.mono _ _ _ _ _)
   | (with_reducible exact impl_marked.mono _ _ _ _ _ _ _)
   | (with_reducible exact LeO.refl _)
   | (with_reducible exact LeO.none _)
   | (with_reducible refine LeO.ite ?_ ?_)
   | (with_reducible refine LeO.bind ?_ (fun _ => ?_))
   | exact ih0 _ _ _ _ _ _ _ _ _
   | exact ih1 _ _ _ _ _ _ _ _ _
   | exact impl_GapAt.mono _ _ _ _ _
   | exact impl_TremauxStep.mono _ _ _ _ _ _ _
   | exact impl_WaysFrom.mono _ _ _ _ _
   | exact impl_marked.mono _ _ _ _ _ _ _
   | exact LeO.none _
   | refine LeO.ite ?_ ?_
   | refine LeO.bind ?_ (fun _ => ?_)
  ·intro y0 y1 y2 y3 y4 y5 y6 y7 y8
   unfold impl_TremauxWalk.j1
   repeat' first
   | (with_reducible exact ih0 _ _ _ _ _ _ _ _ _)
   | (with_reducible exact ih1 _ _ _ _ _ _ _ _ _)
   | (with_reducible exact impl_GapAt.mono _ _ _ _ _)
   | (with_reducible exact impl_TremauxStep.mono _ _ _ _ _ _ _)
   | (with_reducible exact impl_WaysFrom.mono _ _ _ _ _)
   | (with_reducible exact impl_marked.mono _ _ _ _ _ _ _)
   | (with_reducible exact LeO.refl _)
   | (with_reducible exact LeO.none _)
   | (with_reducible refine LeO.ite ?_ ?_)
   | (with_reducible refine LeO.bind ?_ (fun _ => ?_))
   | exact ih0 _ _ _ _ _ _ _ _ _
   | exact ih1 _ _ _ _ _ _ _ _ _
   | exact impl_GapAt.mono _ _ _ _ _
   | exact impl_TremauxStep.mono _ _ _ _ _ _ _
   | exact impl_WaysFrom.mono _ _ _ _ _
   | exact impl_marked.mono _ _ _ _ _ _ _
   | exact LeO.none _
   | refine LeO.ite ?_ ?_
   | refine LeO.bind ?_ (fun _ => ?_)
theorem impl_TremauxWalk.mono : ∀ a0 a1 a2 a3 k, LeO (impl_TremauxWalk.f k a0 a1 a2 a3) (impl_TremauxWalk.f (k + 1) a0 a1 a2 a3) := by
 intro a0 a1 a2 a3 k
 obtain ⟨ih0, ih1⟩ := impl_TremauxWalk.mono_l k
 unfold impl_TremauxWalk.f
 repeat' first
   | (with_reducible exact ih0 _ _ _ _ _ _ _ _ _)
   | (with_reducible exact ih1 _ _ _ _ _ _ _ _ _)
   | (with_reducible exact impl_GapAt.mono _ _ _ _ _)
   | (with_reducible exact impl_TremauxStep.mono _ _ _ _ _ _ _)
   | (with_reducible exact impl_WaysFrom.mono _ _ _ _ _)
   | (with_reducible exact impl_marked.mono _ _ _ _ _ _ _)
   | (with_reducible exact LeO.refl _)
   | (with_reducible exact LeO.none _)
   | (with_reducible refine LeO.ite ?_ ?_)
   | (with_reducible refine LeO.bind ?_ (fun _ => ?_))
   | exact ih0 _ _ _ _ _ _ _ _ _
   | exact ih1 _ _ _ _ _ _ _ _ _
   | exact impl_GapAt.mono _ _ _ _ _
   | exact impl_TremauxStep.mono _ _ _ _ _ _ _
   | exact impl_WaysFrom.mono _ _ _ _ _
   | exact impl_marked.mono _ _ _ _ _ _ _
   | exact LeO.none _
   | refine LeO.ite ?_ ?_
   | refine LeO.bind ?_ (fun _ => ?_)
def impl_TremauxWalk.T3 : Bool × List (List Nat × List Nat) := (true, [([], []), ([0], [0]), ([], []), ([2], [2]), ([3], [3]), ([4, 4], [4]), ([1, 4, 0, 1], [1]), ([5, 6, 0, 1, 2, 3, 4, 5, 6], [5])])
def impl_TremauxWalk.B3 : List Nat := [0, 1, 0, 4, 12, 28, 31, 127]
theorem impl_TremauxWalk.tab3 : rtab .any (opsOf Try.f18 3) = impl_TremauxWalk.T3 := by kernel_rfl
theorem impl_TremauxWalk.bits3 : waitsOk impl_TremauxWalk.T3.2 impl_TremauxWalk.B3 = true := by kernel_rfl
def impl_TremauxWalk.T7 : Bool × List (List Nat × List Nat) := (true, [([], []), ([], []), ([], []), ([2], [2]), ([], []), ([4], [4]), ([5], [5]), ([1, 3, 6], [1, 3, 6]), ([], []), ([], []), ([8, 0, 7, 0, 8, 9], [0, 8]), ([9, 7, 10, 0, 1, 2, 3, 4, 5, 6, 7, 8, 9, 10], [7, 9]), ([11, 0, 1, 2, 3, 4, 5, 6, 7, 8, 9, 10, 11], [])])
def impl_TremauxWalk.B7 : List Nat := [0, 0, 0, 4, 0, 16, 48, 126, 0, 0, 1023, 2047, 4095]
theorem impl_TremauxWalk.tab7 : rtab .any (opsOf Try.f18 7) = impl_TremauxWalk.T7 := by kernel_rfl
theorem impl_TremauxWalk.bits7 : waitsOk impl_TremauxWalk.T7.2 impl_TremauxWalk.B7 = true := by kernel_rfl
set_option maxHeartbeats 8000000 in
set_option maxRecDepth 100000 in
theorem impl_TremauxWalk.calls (k : Nat) (a0_0 : Int) (a0_1 : Int) (a0_2 : Int) (a1 : Int) (r1 : List Int) (r2 : List Int) (w : World) (h : impl_TremauxWalk.f k a0_0 a0_1 a0_2 a1 = some (r1, r2)) :
  Calls Try.prog 18 #[.agg #[.int .i64 a0_0, .int .i64 a0_1, .int .i64 a0_2], .int .i64 a1] w fun e w' => ∃ v0_ v1_ : Value, e = .returned (.tuple #[v0_, v1_]) ∧ Kd.R (Kd.int .i64) 3 w' w.heap.size (fun k_ => some k_ ≠ (v1_ : Value).ownBlock) v0_ r1 ∧ Kd.R (Kd.int .i64) 3 w' w.heap.size (fun k_ => some k_ ≠ (v0_ : Value).ownBlock) v1_ r2 ∧ Below w.heap.size w w' := by
 have hu36 := Try.underlying36
 have hu34 := Try.underlying34
 have hu60 := Try.underlying60
 have HB := Aside0.mk (Below.refl w.heap.size w)
 have H : ((impl_isIn.f a0_0 a0_1 a0_2 (([a1] : List Int))).bind fun t505 => (if t505 = true then ((some (([a1] : List Int) : List Int)).bind fun y506 => ((impl_CountGaps.f a0_0 a0_1).bind fun t509 => (if 0 ≤ t509 then (if (t509 : Int).toNat ≤ 35184372088832 then ((some (List.replicate (t509 : Int).toNat 0 : List Int)).bind fun y510 => ((impl_WaysFrom.f k a0_0 a0_1 a0_2 a1).bind fun t513 => (if (t513.length : Int) = 0 then (some (y506, y510)) else (if 0 < (t513.length : Int) then ((impl_marked.f k a0_0 a0_1 a0_2 a1 0 (rd t513 0)).bind fun bt517 => (impl_TremauxWalk.l0 k y506 y510 true a1 a0_0 a0_1 a0_2 bt517.1 bt517.2)) else (none))))) else (none)) else (none)))) else (some (([] : List Int), ([] : List Int))))) = some (r1, r2) := h
 clear h
 obtain ⟨y502, hy502⟩ : ∃ y_ : List Int, y_ = (([a1] : List Int)) := ⟨_, rfl⟩
 replace H : ((impl_isIn.f a0_0 a0_1 a0_2 y502).bind fun t505 => (if t505 = true then ((some (([a1] : List Int) : List Int)).bind fun y506 => ((impl_CountGaps.f a0_0 a0_1).bind fun t509 => (if 0 ≤ t509 then (if (t509 : Int).toNat ≤ 35184372088832 then ((some (List.replicate (t509 : Int).toNat 0 : List Int)).bind fun y510 => ((impl_WaysFrom.f k a0_0 a0_1 a0_2 a1).bind fun t513 => (if (t513.length : Int) = 0 then (some (y506, y510)) else (if 0 < (t513.length : Int) then ((impl_marked.f k a0_0 a0_1 a0_2 a1 0 (rd t513 0)).bind fun bt517 => (impl_TremauxWalk.l0 k y506 y510 true a1 a0_0 a0_1 a0_2 bt517.1 bt517.2)) else (none))))) else (none)) else (none)))) else (some (([] : List Int), ([] : List Int))))) = some (r1, r2) := by first | (rw [hy502]; with_reducible exact H) | (have H2_ := (Option.bind_some _ _).symm.trans H; rw [hy502]; with_reducible exact H2_) | (have H2_ := (Option.bind_some _ _).symm.trans H; with_reducible exact H2_) | with_reducible exact H | (rw [hy502]; exact H) | exact H
 have Ny502 := Aside0.mk hy502
 clear hy502
 replace H := Option.bind_eq_some_iff.mp H
 obtain ⟨t505, A30, H⟩ := H
 replace H : (if t505 = true then ((some (([a1] : List Int) : List Int)).bind fun y506 => ((impl_CountGaps.f a0_0 a0_1).bind fun t509 => (if 0 ≤ t509 then (if (t509 : Int).toNat ≤ 35184372088832 then ((some (List.replicate (t509 : Int).toNat 0 : List Int)).bind fun y510 => ((impl_WaysFrom.f k a0_0 a0_1 a0_2 a1).bind fun t513 => (if (t513.length : Int) = 0 then (some (y506, y510)) else (if 0 < (t513.length : Int) then ((impl_marked.f k a0_0 a0_1 a0_2 a1 0 (rd t513 0)).bind fun bt517 => (impl_TremauxWalk.l0 k y506 y510 true a1 a0_0 a0_1 a0_2 bt517.1 bt517.2)) else (none))))) else (none)) else (none)))) else (some (([] : List Int), ([] : List Int)))) = some (r1, r2) := H
 have A3 := Aside0.mk A30
 clear A30
 by_cases c4 : t505 = true
 ·subst c4
  have H1 : ((some (([a1] : List Int) : List Int)).bind fun y506 => ((impl_CountGaps.f a0_0 a0_1).bind fun t509 => (if 0 ≤ t509 then (if (t509 : Int).toNat ≤ 35184372088832 then ((some (List.replicate (t509 : Int).toNat 0 : List Int)).bind fun y510 => ((impl_WaysFrom.f k a0_0 a0_1 a0_2 a1).bind fun t513 => (if (t513.length : Int) = 0 then (some (y506, y510)) else (if 0 < (t513.length : Int) then ((impl_marked.f k a0_0 a0_1 a0_2 a1 0 (rd t513 0)).bind fun bt517 => (impl_TremauxWalk.l0 k y506 y510 true a1 a0_0 a0_1 a0_2 bt517.1 bt517.2)) else (none))))) else (none)) else (none)))) = some (r1, r2) := by rw [if_pos rfl] at H; exact H
  clear H
  have H := H1
  clear H1
  obtain ⟨y506, hy506⟩ : ∃ y_ : List Int, y_ = (([a1] : List Int)) := ⟨_, rfl⟩
  replace H : ((impl_CountGaps.f a0_0 a0_1).bind fun t509 => (if 0 ≤ t509 then (if (t509 : Int).toNat ≤ 35184372088832 then ((some (List.replicate (t509 : Int).toNat 0 : List Int)).bind fun y510 => ((impl_WaysFrom.f k a0_0 a0_1 a0_2 a1).bind fun t513 => (if (t513.length : Int) = 0 then (some (y506, y510)) else (if 0 < (t513.length : Int) then ((impl_marked.f k a0_0 a0_1 a0_2 a1 0 (rd t513 0)).bind fun bt517 => (impl_TremauxWalk.l0 k y506 y510 true a1 a0_0 a0_1 a0_2 bt517.1 bt517.2)) else (none))))) else (none)) else (none))) = some (r1, r2) := by first | (rw [hy506]; with_reducible exact H) | (have H2_ := (Option.bind_some _ _).symm.trans H; rw [hy506]; with_reducible exact H2_) | (have H2_ := (Option.bind_some _ _).symm.trans H; with_reducible exact H2_) | with_reducible exact H | (rw [hy506]; exact H) | exact H
  have Ny506 := Aside0.mk hy506
  clear hy506
  replace H := Option.bind_eq_some_iff.mp H
  obtain ⟨t509, A50, H⟩ := H
  replace H : (if 0 ≤ t509 then (if (t509 : Int).toNat ≤ 35184372088832 then ((some (List.replicate (t509 : Int).toNat 0 : List Int)).bind fun y510 => ((impl_WaysFrom.f k a0_0 a0_1 a0_2 a1).bind fun t513 => (if (t513.length : Int) = 0 then (some (y506, y510)) else (if 0 < (t513.length : Int) then ((impl_marked.f k a0_0 a0_1 a0_2 a1 0 (rd t513 0)).bind fun bt517 => (impl_TremauxWalk.l0 k y506 y510 true a1 a0_0 a0_1 a0_2 bt517.1 bt517.2)) else (none))))) else (none)) else (none)) = some (r1, r2) := H
  have A5 := Aside0.mk A50
  clear A50
  by_cases c6 : 0 ≤ t509
  ·rw [if_pos c6] at H
   have c6b0 := eq_true c6
   have c6b1 : decide (0 ≤ t509) = true := decide_eq_true c6
   clear c6
   by_cases c7 : (t509 : Int).toNat ≤ 35184372088832
   ·rw [if_pos c7] at H
    have c7b0 := eq_true c7
    have c7b1 : decide ((t509 : Int).toNat ≤ 35184372088832) = true := decide_eq_true c7
    clear c7
    obtain ⟨y510, hy510⟩ : ∃ y_ : List Int, y_ = (List.replicate (t509 : Int).toNat 0) := ⟨_, rfl⟩
    replace H : ((impl_WaysFrom.f k a0_0 a0_1 a0_2 a1).bind fun t513 => (if (t513.length : Int) = 0 then (some (y506, y510)) else (if 0 < (t513.length : Int) then ((impl_marked.f k a0_0 a0_1 a0_2 a1 0 (rd t513 0)).bind fun bt517 => (impl_TremauxWalk.l0 k y506 y510 true a1 a0_0 a0_1 a0_2 bt517.1 bt517.2)) else (none)))) = some (r1, r2) := by first | (rw [hy510]; with_reducible exact H) | (have H2_ := (Option.bind_some _ _).symm.trans H; rw [hy510]; with_reducible exact H2_) | (have H2_ := (Option.bind_some _ _).symm.trans H; with_reducible exact H2_) | with_reducible exact H | (rw [hy510]; exact H) | exact H
    have Ny510 := Aside0.mk hy510
    clear hy510
    replace H := Option.bind_eq_some_iff.mp H
    obtain ⟨t513, A80, H⟩ := H
    replace H : (if (t513.length : Int) = 0 then (some (y506, y510)) else (if 0 < (t513.length : Int) then ((impl_marked.f k a0_0 a0_1 a0_2 a1 0 (rd t513 0)).bind fun bt517 => (impl_TremauxWalk.l0 k y506 y510 true a1 a0_0 a0_1 a0_2 bt517.1 bt517.2)) else (none))) = some (r1, r2) := H
    have A8 := Aside0.mk A80
    clear A80
    by_cases c9 : (t513.length : Int) = 0
    ·rw [if_pos c9] at H
     have c9b0 : ((t513.length : Int) == 0) = true := beq_iff_eq.mpr c9
     have c9b1 : ((t513.length : Int) != 0) = false := bne_eq_false_iff_eq.mpr c9
     clear c9
     simp only [Option.some.injEq, Prod.mk.injEq] at H
     obtain ⟨rfl, rfl⟩ := H
     go_enter Try.func18, Try.ntmps18
     try go_wp2_with (first | ((with_reducible refine gate_dst (N := 2) rfl ?_); (try (refine gate_guard (by rfl) ?_; dsimp only)); refine box_event ?hg (N := 2) ?hd (cs := #[.int .i64 a0_0, .int .i64 a0_1, .int .i64 a0_2]) (t := 36) ?hr ?_; (case hd => rfl); (case hg => rfl); (case hr => first | (go_simp; done) | (go_simp; rfl)); intro gb501 hg w10 hbox hb; have n0_ := Aside0.mk (below_step (hb0_ HB.out) hb); have n1_ := Aside0.mk (hbox); have n2_ := Aside0.mk ((gs_ hg (hb0_ HB.out))); have n3_ := Aside0.mk ((gs_ hg (hb0_ HB.out))); clear HB; have HB := n0_; have BK501 := n1_; have GW501 := n2_; have GE501 := n3_; clear n0_ n1_ n2_ n3_; clear hb hbox hg; obtain ⟨hcz11_0, hcz11_1, hcz11_2⟩ := cz3_ BK501.out; obtain ⟨hfz11_0, hfz11_1, hfz11_2⟩ := fz3_ BK501.out) | ((with_reducible refine gate_dst (N := 15) rfl ?_); (try (refine gate_guard (by rfl) ?_; dsimp only)); refine Kd.R_lit (Kd.int .i64) _ 3 ?hg (N := 15) ?hd (xs := ([a1] : List Int)) (inner := [.int .i64 a1]) (ok := fun _ => True) (okp := fun _ => True) ?hr ?hp (fun _ hk => hk) trivial (Below.refl _ _) (Nat.le_refl _) (by simp) ?_; (case hd => rfl); (case hg => rfl); (case hr => first | (go_simp; done) | (go_simp; rfl)); (case hp => exact (Reps.one (show Kd.M (Kd.int .i64) _ _ _ a1 [.int .i64 a1] from rfl) (Reps.none _ _))); intro v503 w12 ho13 hb hg_ hnew_; clear hg_ hnew_; (first | rw [← Ny502.out] at ho13 | (simp only [Int.reduceToNat] at ho13; rw [← Ny502.out] at ho13)); have HO504 := Aside0.mk (Kd.R_lower ho13 (below_size (hb1_ HB.out GE501.out))); replace BK501 := Aside0.mk (bb_ BK501.out hb); replace HB := Aside0.mk (below_step (hb1_ HB.out GE501.out) hb); clear hb ho13; obtain ⟨Ao14, co14, eo14⟩ := Kd.R_slice HO504.out; subst eo14) | ((with_reducible refine gate_callee (f := 44) rfl ?_); refine goesL_ (some 16) rfl rfl Try.func44 (by kernel_rfl) rfl #[.agg #[.int .i64 a0_0, .int .i64 a0_1, .int .i64 a0_2], .slice Ao14 y502.length co14] rfl (ml_) ?_; (with_reducible refine (impl_isIn.calls a0_0 a0_1 a0_2 _ _ y502 true _ ?side1 ?side2 A3.out).mono ?_); (case side1 => repeat (first | exact (Kd.R_reads' HO504.out).2.2 | (with_reducible refine Kd.C_alloc ?_ _) | (with_reducible refine Kd.C_drewN ?_ _) | (with_reducible refine Kd.C_drew ?_))); (case side2 => exact (Kd.R_reads' HO504.out).2.1); rintro e w15 ⟨rfl, hb⟩; refine ⟨_, rfl, ?_⟩; replace HO504 := Aside0.mk (Kd.R_below (kr_ HO504.out) hb); replace BK501 := Aside0.mk (bb_ BK501.out hb); replace HB := Aside0.mk (below_step (hb1_ HB.out GE501.out) hb); (try clear hb); (try clear hb2); (try clear hk); (try clear hi)))
     replace HO504 := Aside0.mk (Kd.R_drew HO504.out)
     replace BK501 := Aside0.mk (blk_drew BK501.out)
     replace HB := Aside0.mk (below_drew1 HB.out)
     refine start_ (n := 8) (S := fun w' => w'.cell? ⟨gb501, 0, none⟩ = some (.int .i64 a0_0) ∧ w'.cell? ⟨gb501, 1, none⟩ = some (.int .i64 a0_1) ∧ w'.cell? ⟨gb501, 2, none⟩ = some (.int .i64 a0_2)) (ds := []) #[false, false, false, false, false, false, false, false] (by kernel_rfl) rfl rfl ⟨(blk_cell BK501.out 0).trans rfl, (blk_cell BK501.out 1).trans rfl, (blk_cell BK501.out 2).trans rfl⟩ (fun hHeld => ?_); refine with_tabW impl_TremauxWalk.tab3 impl_TremauxWalk.bits3 (fun HT_ HW_ => ?_)
     generalize w15.drew = w16 at HO504 BK501 HB hHeld ⊢
     refine pv_ (i := 0) (N := some 18) HT_.out ?_
     refine pv_ (i := 2) (N := some 20) HT_.out ?_
     refine tv3_ (i := 3) (N := some 21) HT_.out HW_.out hHeld ?_
     refine join_ (σ := Value × Value) 1 #[true, true, true, true, true, true, true, false] (fun s_ => [(19, s_.1), (22, .int .i64 t509), (23, s_.2), (6, s_.1)]) (fun s_ w' => (w'.cell? ⟨gb501, 0, none⟩ = some (.int .i64 a0_0) ∧ w'.cell? ⟨gb501, 1, none⟩ = some (.int .i64 a0_1) ∧ w'.cell? ⟨gb501, 2, none⟩ = some (.int .i64 a0_2)) ∧ (Kd.R (Kd.int .i64) 3 w' w.heap.size (fun k_ => some k_ ≠ (s_.1 : Value).ownBlock ∧ some k_ ≠ (s_.2 : Value).ownBlock) (.slice Ao14 y502.length co14) y502) ∧ (Kd.R (Kd.int .i64) 3 w' w.heap.size (fun k_ => some k_ ≠ (.slice Ao14 y502.length co14 : Value).ownBlock ∧ some k_ ≠ (s_.2 : Value).ownBlock) s_.1 y506) ∧ (Kd.R (Kd.int .i64) 3 w' w.heap.size (fun k_ => some k_ ≠ (.slice Ao14 y502.length co14 : Value).ownBlock ∧ some k_ ≠ (s_.1 : Value).ownBlock) s_.2 y510) ∧ (w'.heap[gb501]? = some (.cells #[.int .i64 a0_0, .int .i64 a0_1, .int .i64 a0_2] 36 (0, 0))) ∧ (Below w.heap.size w w')) ?_ ?_
     rotate_left
     ·intro hCont
      refine two_ (i := 1) (j := 4) (Ni := some 19) (Nj := some 22) #[true, true, true, true, false, false, false, false] #[true, false, true, true, true, false, false, false] rfl rfl rfl rfl (two_of HT_.out (by kernel_rfl)) (by decide) (by decide) (fun K hK => ?_) (fun K hK => ?_)
      ·skip
       refine Kd.R_lit_step (Kd.int .i64) _ 3 ?hg (N := 19) ?hd (xs := ([a1] : List Int)) (inner := [.int .i64 a1]) (ok := fun _ => True) (okp := fun _ => True) ?hr ?hp (fun _ hk => hk) trivial (Below.refl _ _) (Nat.le_refl _) (by simp) ?_; (case hd => rfl); (case hg => rfl); (case hr => first | (go_simp; done) | (go_simp; rfl)); (case hp => exact (Reps.one (show Kd.M (Kd.int .i64) _ _ _ a1 [.int .i64 a1] from rfl) (Reps.none _ _)))
       intro v507 w17 ho18 hb hg_ hnew_
       clear hg_ hnew_
       (first | rw [← Ny506.out] at ho18 | (simp only [Int.reduceToNat] at ho18; rw [← Ny506.out] at ho18))
       have n0_ := Aside0.mk (Kd.R_elder' (kr_ HO504.out) (Kd.R_base ho18) hb)
       have n1_ := Aside0.mk (Kd.R_lower (Kd.R_new' ho18 (Kd.R_lt (kr_ HO504.out))) (below_size (hb1_ HB.out GE501.out)))
       have n2_ := Aside0.mk (bb_ BK501.out hb)
       have n3_ := Aside0.mk (below_step (hb1_ HB.out GE501.out) hb)
       clear HO504
       clear BK501
       clear HB
       have HO504 := n0_
       have HO508 := n1_
       have BK501 := n2_
       have HB := n3_
       clear n0_ n1_ n2_ n3_
       clear hb ho18
       refine hK.out _ _ ⟨(blk_cell BK501.out 0).trans rfl, (blk_cell BK501.out 1).trans rfl, (blk_cell BK501.out 2).trans rfl⟩ (fun hHeld => ?_)
       clear hK K
       refine norm_ (a' := ?_) ?_ ?_
       rotate_left
       ·show Act.put _ (some 19) _ = _
        simp only [Act.put, List.setIfInBounds_toArray, List.set_cons_zero, List.set_cons_succ, i64_w, i32_w]
        rfl
       refine ov_ (i := 4) (N := some 22) HT_.out (fun K hK => ?_)
       refine goes_ Try.func45 (by kernel_rfl) rfl #[.agg #[.int .i64 a0_0, .int .i64 a0_1]] (by rfl) rfl rfl (ml_) ?_
       with_reducible refine (impl_CountGaps.calls a0_0 a0_1 t509 _ A5.out).mono ?_
       rintro e w19 ⟨rfl, hb⟩
       refine ⟨_, rfl, ?_⟩
       replace HO504 := Aside0.mk (Kd.R_below (kr_ HO504.out) hb)
       replace HO508 := Aside0.mk (Kd.R_below (kr_ HO508.out) hb)
       replace BK501 := Aside0.mk (bb_ BK501.out hb)
       replace HB := Aside0.mk (below_step (hb1_ HB.out GE501.out) hb)
       (try clear hb)
       (try clear hb2)
       (try clear hk)
       (try clear hi)
       refine hK.out _ _ ⟨(blk_cell BK501.out 0).trans rfl, (blk_cell BK501.out 1).trans rfl, (blk_cell BK501.out 2).trans rfl⟩ (fun hHeld => ?_)
       clear hK K
       refine norm_ (a' := ?_) ?_ ?_
       rotate_left
       ·show Act.put _ (some 22) _ = _
        simp only [Act.put, List.setIfInBounds_toArray, List.set_cons_zero, List.set_cons_succ, i64_w, i32_w]
        rfl
       refine pv_ (i := 6) (N := some 6) HT_.out ?_
       refine ov_ (i := 5) (N := some 23) HT_.out (fun K hK => ?_)
       refine Kd.R_make_step (Kd.int .i64) _ 3 (by rfl) (N := 23) rfl 22 _ _ rfl t509 rfl rfl Try.underlying22 (.int .i64 0) 8 info3 rfl (by decide) (by omega) 0 (ok := fun _ => True) (okp := fun _ => True) rfl (fun _ hk => hk) trivial (of_decide_eq_true (as_)) (Nat.le_trans (Nat.mul_le_mul_right _ (of_decide_eq_true (as_) : t509.toNat ≤ 35184372088832)) (by omega)) (Below.refl _ _) (Nat.le_refl _) ?_
       intro v511 w20 ho21 hb hg_ hnew_
       clear hg_ hnew_
       (first | rw [← Ny510.out] at ho21 | (simp only [Int.reduceToNat] at ho21; rw [← Ny510.out] at ho21))
       have n0_ := Aside0.mk (Kd.R_elder' (kr_ HO504.out) (Kd.R_base ho21) hb)
       have n1_ := Aside0.mk (Kd.R_elder' (kr_ HO508.out) (Kd.R_base ho21) hb)
       have n2_ := Aside0.mk (Kd.R_lower (Kd.R_new' (Kd.R_new' ho21 (Kd.R_lt (kr_ HO504.out))) (Kd.R_lt (kr_ HO508.out))) (below_size (hb1_ HB.out GE501.out)))
       have n3_ := Aside0.mk (bb_ BK501.out hb)
       have n4_ := Aside0.mk (below_step (hb1_ HB.out GE501.out) hb)
       clear HO504
       clear HO508
       clear BK501
       clear HB
       have HO504 := n0_
       have HO508 := n1_
       have HO512 := n2_
       have BK501 := n3_
       have HB := n4_
       clear n0_ n1_ n2_ n3_ n4_
       clear hb ho21
       refine hK.out _ _ ⟨(blk_cell BK501.out 0).trans rfl, (blk_cell BK501.out 1).trans rfl, (blk_cell BK501.out 2).trans rfl⟩ (fun hHeld => ?_)
       clear hK K
       refine norm_ (a' := ?_) ?_ ?_
       rotate_left
       ·show Act.put _ (some 23) _ = _
        simp only [Act.put, List.setIfInBounds_toArray, List.set_cons_zero, List.set_cons_succ, i64_w, i32_w]
        rfl
       exact norm_ (by simp only [putAll, Act.put, List.setIfInBounds_toArray, List.set_cons_zero, List.set_cons_succ]) (hCont (v507, v511) _ ⟨hHeld, (by (with_reducible repeat (first | apply Kd.R_alloc | apply Kd.R_drewN | apply Kd.R_drew)); exact Kd.R_mono HO504.out (fun _ hk => ⟨hk.1.2, hk.2⟩)), (by (with_reducible repeat (first | apply Kd.R_alloc | apply Kd.R_drewN | apply Kd.R_drew)); exact Kd.R_mono HO508.out (fun _ hk => ⟨hk.1.2, hk.2⟩)), (by (with_reducible repeat (first | apply Kd.R_alloc | apply Kd.R_drewN | apply Kd.R_drew)); exact Kd.R_mono HO512.out (fun _ hk => ⟨hk.1.2, hk.2⟩)), (bk_ BK501.out), (hb1_ HB.out GE501.out)⟩)
      ·skip
       refine goes_ Try.func45 (by kernel_rfl) rfl #[.agg #[.int .i64 a0_0, .int .i64 a0_1]] (by rfl) rfl rfl (ml_) ?_
       with_reducible refine (impl_CountGaps.calls a0_0 a0_1 t509 _ A5.out).mono ?_
       rintro e w17 ⟨rfl, hb⟩
       refine ⟨_, rfl, ?_⟩
       replace HO504 := Aside0.mk (Kd.R_below (kr_ HO504.out) hb)
       replace BK501 := Aside0.mk (bb_ BK501.out hb)
       replace HB := Aside0.mk (below_step (hb1_ HB.out GE501.out) hb)
       (try clear hb)
       (try clear hb2)
       (try clear hk)
       (try clear hi)
       refine hK.out _ _ ⟨(blk_cell BK501.out 0).trans rfl, (blk_cell BK501.out 1).trans rfl, (blk_cell BK501.out 2).trans rfl⟩ (fun hHeld => ?_)
       clear hK K
       refine norm_ (a' := ?_) ?_ ?_
       rotate_left
       ·show Act.put _ (some 22) _ = _
        simp only [Act.put, List.setIfInBounds_toArray, List.set_cons_zero, List.set_cons_succ, i64_w, i32_w]
        rfl
       refine two_ (i := 1) (j := 5) (Ni := some 19) (Nj := some 23) #[true, true, true, true, true, false, false, false] #[true, false, true, true, true, true, false, false] rfl rfl rfl rfl (two_of HT_.out (by kernel_rfl)) (by decide) (by decide) (fun K hK => ?_) (fun K hK => ?_)
       ·skip
        refine Kd.R_lit_step (Kd.int .i64) _ 3 ?hg (N := 19) ?hd (xs := ([a1] : List Int)) (inner := [.int .i64 a1]) (ok := fun _ => True) (okp := fun _ => True) ?hr ?hp (fun _ hk => hk) trivial (Below.refl _ _) (Nat.le_refl _) (by simp) ?_; (case hd => rfl); (case hg => rfl); (case hr => first | (go_simp; done) | (go_simp; rfl)); (case hp => exact (Reps.one (show Kd.M (Kd.int .i64) _ _ _ a1 [.int .i64 a1] from rfl) (Reps.none _ _)))
        intro v507 w18 ho19 hb hg_ hnew_
        clear hg_ hnew_
        (first | rw [← Ny506.out] at ho19 | (simp only [Int.reduceToNat] at ho19; rw [← Ny506.out] at ho19))
        have n0_ := Aside0.mk (Kd.R_elder' (kr_ HO504.out) (Kd.R_base ho19) hb)
        have n1_ := Aside0.mk (Kd.R_lower (Kd.R_new' ho19 (Kd.R_lt (kr_ HO504.out))) (below_size (hb1_ HB.out GE501.out)))
        have n2_ := Aside0.mk (bb_ BK501.out hb)
        have n3_ := Aside0.mk (below_step (hb1_ HB.out GE501.out) hb)
        clear HO504
        clear BK501
        clear HB
        have HO504 := n0_
        have HO508 := n1_
        have BK501 := n2_
        have HB := n3_
        clear n0_ n1_ n2_ n3_
        clear hb ho19
        refine hK.out _ _ ⟨(blk_cell BK501.out 0).trans rfl, (blk_cell BK501.out 1).trans rfl, (blk_cell BK501.out 2).trans rfl⟩ (fun hHeld => ?_)
        clear hK K
        refine norm_ (a' := ?_) ?_ ?_
        rotate_left
        ·show Act.put _ (some 19) _ = _
         simp only [Act.put, List.setIfInBounds_toArray, List.set_cons_zero, List.set_cons_succ, i64_w, i32_w]
         rfl
        refine pv_ (i := 6) (N := some 6) HT_.out ?_
        refine ov_ (i := 5) (N := some 23) HT_.out (fun K hK => ?_)
        refine Kd.R_make_step (Kd.int .i64) _ 3 (by rfl) (N := 23) rfl 22 _ _ rfl t509 rfl rfl Try.underlying22 (.int .i64 0) 8 info3 rfl (by decide) (by omega) 0 (ok := fun _ => True) (okp := fun _ => True) rfl (fun _ hk => hk) trivial (of_decide_eq_true (as_)) (Nat.le_trans (Nat.mul_le_mul_right _ (of_decide_eq_true (as_) : t509.toNat ≤ 35184372088832)) (by omega)) (Below.refl _ _) (Nat.le_refl _) ?_
        intro v511 w20 ho21 hb hg_ hnew_
        clear hg_ hnew_
        (first | rw [← Ny510.out] at ho21 | (simp only [Int.reduceToNat] at ho21; rw [← Ny510.out] at ho21))
        have n0_ := Aside0.mk (Kd.R_elder' (kr_ HO504.out) (Kd.R_base ho21) hb)
        have n1_ := Aside0.mk (Kd.R_elder' (kr_ HO508.out) (Kd.R_base ho21) hb)
        have n2_ := Aside0.mk (Kd.R_lower (Kd.R_new' (Kd.R_new' ho21 (Kd.R_lt (kr_ HO504.out))) (Kd.R_lt (kr_ HO508.out))) (below_size (hb1_ HB.out GE501.out)))
        have n3_ := Aside0.mk (bb_ BK501.out hb)
        have n4_ := Aside0.mk (below_step (hb1_ HB.out GE501.out) hb)
        clear HO504
        clear HO508
        clear BK501
        clear HB
        have HO504 := n0_
        have HO508 := n1_
        have HO512 := n2_
        have BK501 := n3_
        have HB := n4_
        clear n0_ n1_ n2_ n3_ n4_
        clear hb ho21
        refine hK.out _ _ ⟨(blk_cell BK501.out 0).trans rfl, (blk_cell BK501.out 1).trans rfl, (blk_cell BK501.out 2).trans rfl⟩ (fun hHeld => ?_)
        clear hK K
        refine norm_ (a' := ?_) ?_ ?_
        rotate_left
        ·show Act.put _ (some 23) _ = _
         simp only [Act.put, List.setIfInBounds_toArray, List.set_cons_zero, List.set_cons_succ, i64_w, i32_w]
         rfl
        exact norm_ (by simp only [putAll, Act.put, List.setIfInBounds_toArray, List.set_cons_zero, List.set_cons_succ]) (hCont (v507, v511) _ ⟨hHeld, (by (with_reducible repeat (first | apply Kd.R_alloc | apply Kd.R_drewN | apply Kd.R_drew)); exact Kd.R_mono HO504.out (fun _ hk => ⟨hk.1.2, hk.2⟩)), (by (with_reducible repeat (first | apply Kd.R_alloc | apply Kd.R_drewN | apply Kd.R_drew)); exact Kd.R_mono HO508.out (fun _ hk => ⟨hk.1.2, hk.2⟩)), (by (with_reducible repeat (first | apply Kd.R_alloc | apply Kd.R_drewN | apply Kd.R_drew)); exact Kd.R_mono HO512.out (fun _ hk => ⟨hk.1.2, hk.2⟩)), (bk_ BK501.out), (hb1_ HB.out GE501.out)⟩)
       ·skip
        refine Kd.R_make_step (Kd.int .i64) _ 3 (by rfl) (N := 23) rfl 22 _ _ rfl t509 rfl rfl Try.underlying22 (.int .i64 0) 8 info3 rfl (by decide) (by omega) 0 (ok := fun _ => True) (okp := fun _ => True) rfl (fun _ hk => hk) trivial (of_decide_eq_true (as_)) (Nat.le_trans (Nat.mul_le_mul_right _ (of_decide_eq_true (as_) : t509.toNat ≤ 35184372088832)) (by omega)) (Below.refl _ _) (Nat.le_refl _) ?_
        intro v511 w18 ho19 hb hg_ hnew_
        clear hg_ hnew_
        (first | rw [← Ny510.out] at ho19 | (simp only [Int.reduceToNat] at ho19; rw [← Ny510.out] at ho19))
        have n0_ := Aside0.mk (Kd.R_elder' (kr_ HO504.out) (Kd.R_base ho19) hb)
        have n1_ := Aside0.mk (Kd.R_lower (Kd.R_new' ho19 (Kd.R_lt (kr_ HO504.out))) (below_size (hb1_ HB.out GE501.out)))
        have n2_ := Aside0.mk (bb_ BK501.out hb)
        have n3_ := Aside0.mk (below_step (hb1_ HB.out GE501.out) hb)
        clear HO504
        clear BK501
        clear HB
        have HO504 := n0_
        have HO512 := n1_
        have BK501 := n2_
        have HB := n3_
        clear n0_ n1_ n2_ n3_
        clear hb ho19
        refine hK.out _ _ ⟨(blk_cell BK501.out 0).trans rfl, (blk_cell BK501.out 1).trans rfl, (blk_cell BK501.out 2).trans rfl⟩ (fun hHeld => ?_)
        clear hK K
        refine norm_ (a' := ?_) ?_ ?_
        rotate_left
        ·show Act.put _ (some 23) _ = _
         simp only [Act.put, List.setIfInBounds_toArray, List.set_cons_zero, List.set_cons_succ, i64_w, i32_w]
         rfl
        refine ov_ (i := 1) (N := some 19) HT_.out (fun K hK => ?_)
        refine Kd.R_lit_step (Kd.int .i64) _ 3 ?hg (N := 19) ?hd (xs := ([a1] : List Int)) (inner := [.int .i64 a1]) (ok := fun _ => True) (okp := fun _ => True) ?hr ?hp (fun _ hk => hk) trivial (Below.refl _ _) (Nat.le_refl _) (by simp) ?_; (case hd => rfl); (case hg => rfl); (case hr => first | (go_simp; done) | (go_simp; rfl)); (case hp => exact (Reps.one (show Kd.M (Kd.int .i64) _ _ _ a1 [.int .i64 a1] from rfl) (Reps.none _ _)))
        intro v507 w20 ho21 hb hg_ hnew_
        clear hg_ hnew_
        (first | rw [← Ny506.out] at ho21 | (simp only [Int.reduceToNat] at ho21; rw [← Ny506.out] at ho21))
        have n0_ := Aside0.mk (Kd.R_elder' (kr_ HO504.out) (Kd.R_base ho21) hb)
        have n1_ := Aside0.mk (Kd.R_elder' (kr_ HO512.out) (Kd.R_base ho21) hb)
        have n2_ := Aside0.mk (Kd.R_lower (Kd.R_new' (Kd.R_new' ho21 (Kd.R_lt (kr_ HO504.out))) (Kd.R_lt (kr_ HO512.out))) (below_size (hb1_ HB.out GE501.out)))
        have n3_ := Aside0.mk (bb_ BK501.out hb)
        have n4_ := Aside0.mk (below_step (hb1_ HB.out GE501.out) hb)
        clear HO504
        clear HO512
        clear BK501
        clear HB
        have HO504 := n0_
        have HO512 := n1_
        have HO508 := n2_
        have BK501 := n3_
        have HB := n4_
        clear n0_ n1_ n2_ n3_ n4_
        clear hb ho21
        refine hK.out _ _ ⟨(blk_cell BK501.out 0).trans rfl, (blk_cell BK501.out 1).trans rfl, (blk_cell BK501.out 2).trans rfl⟩ (fun hHeld => ?_)
        clear hK K
        refine norm_ (a' := ?_) ?_ ?_
        rotate_left
        ·show Act.put _ (some 19) _ = _
         simp only [Act.put, List.setIfInBounds_toArray, List.set_cons_zero, List.set_cons_succ, i64_w, i32_w]
         rfl
        refine pv_ (i := 6) (N := some 6) HT_.out ?_
        exact norm_ (by simp only [putAll, Act.put, List.setIfInBounds_toArray, List.set_cons_zero, List.set_cons_succ]) (hCont (v507, v511) _ ⟨hHeld, (by (with_reducible repeat (first | apply Kd.R_alloc | apply Kd.R_drewN | apply Kd.R_drew)); exact Kd.R_mono HO504.out (fun _ hk => ⟨hk.2, hk.1.2⟩)), (by (with_reducible repeat (first | apply Kd.R_alloc | apply Kd.R_drewN | apply Kd.R_drew)); exact Kd.R_mono HO508.out (fun _ hk => ⟨hk.1.2, hk.2⟩)), (by (with_reducible repeat (first | apply Kd.R_alloc | apply Kd.R_drewN | apply Kd.R_drew)); exact Kd.R_mono HO512.out (fun _ hk => ⟨hk.1.2, hk.2⟩)), (bk_ BK501.out), (hb1_ HB.out GE501.out)⟩)
     rintro ⟨v507, v511⟩ w22 ⟨hS_, h0_, h1_, h2_, h3_, h4_⟩
     have n0_ : Aside0 (Kd.R (Kd.int .i64) 3 w22 w.heap.size (fun k_ => some k_ ≠ (v507 : Value).ownBlock ∧ some k_ ≠ (v511 : Value).ownBlock) (.slice Ao14 y502.length co14) y502) := ⟨h0_⟩
     have n1_ : Aside0 (Kd.R (Kd.int .i64) 3 w22 w.heap.size (fun k_ => some k_ ≠ (.slice Ao14 y502.length co14 : Value).ownBlock ∧ some k_ ≠ (v511 : Value).ownBlock) v507 y506) := ⟨h1_⟩
     have n2_ : Aside0 (Kd.R (Kd.int .i64) 3 w22 w.heap.size (fun k_ => some k_ ≠ (.slice Ao14 y502.length co14 : Value).ownBlock ∧ some k_ ≠ (v507 : Value).ownBlock) v511 y510) := ⟨h2_⟩
     have n3_ : Aside0 (w22.heap[gb501]? = some (.cells #[.int .i64 a0_0, .int .i64 a0_1, .int .i64 a0_2] 36 (0, 0))) := ⟨h3_⟩
     have n4_ : Aside0 (Below w.heap.size w w22) := ⟨h4_⟩
     clear HO504
     clear BK501
     clear HB
     clear h0_ h1_ h2_ h3_ h4_
     have HO504 := n0_
     have HO508 := n1_
     have HO512 := n2_
     have BK501 := n3_
     have HB := n4_
     clear n0_ n1_ n2_ n3_ n4_
     have hHeld : w22.cell? ⟨gb501, 0, none⟩ = some (.int .i64 a0_0) ∧ w22.cell? ⟨gb501, 1, none⟩ = some (.int .i64 a0_1) ∧ w22.cell? ⟨gb501, 2, none⟩ = some (.int .i64 a0_2) := hS_
     refine norm_ (a' := ?_) ?_ ?_
     rotate_left
     ·simp only [putAll, Act.put, List.setIfInBounds_toArray, List.set_cons_zero, List.set_cons_succ]
      rfl
     refine pv_ (i := 7) (N := some 7) HT_.out ?_
     refine done_ (done_of HT_.out (by kernel_rfl)) ?_
     obtain ⟨hcz23_0, hcz23_1, hcz23_2⟩ := cz3_ BK501.out
     obtain ⟨hfz23_0, hfz23_1, hfz23_2⟩ := fz3_ BK501.out
     try go_wp2_with (first | ((with_reducible refine gate_callee (f := 46) rfl ?_); refine goesL_ (some 26) rfl rfl Try.func46 (by kernel_rfl) rfl #[.agg #[.int .i64 a0_0, .int .i64 a0_1, .int .i64 a0_2], .int .i64 a1] rfl (ml_) ?_; (with_reducible refine (impl_WaysFrom.calls k a0_0 a0_1 a0_2 a1 t513 _ A8.out).mono ?_); rintro e w24 ⟨v514, rfl, ho0, hb⟩; refine ⟨_, rfl, ?_⟩; have n0_ := Aside0.mk (Kd.R_elder' (kr_ HO504.out) (Kd.R_base ho0) hb); have n1_ := Aside0.mk (Kd.R_elder' (kr_ HO508.out) (Kd.R_base ho0) hb); have n2_ := Aside0.mk (Kd.R_elder' (kr_ HO512.out) (Kd.R_base ho0) hb); have n3_ := Aside0.mk (Kd.R_lower (Kd.R_new' (Kd.R_new' (Kd.R_new' ho0 (Kd.R_lt (kr_ HO504.out))) (Kd.R_lt (kr_ HO508.out))) (Kd.R_lt (kr_ HO512.out))) (below_size (hb1_ HB.out GE501.out))); have n4_ := Aside0.mk (bb_ BK501.out hb); have n5_ := Aside0.mk (below_step (hb1_ HB.out GE501.out) hb); clear HO504; clear HO508; clear HO512; clear BK501; clear HB; have HO504 := n0_; have HO508 := n1_; have HO512 := n2_; have HO515 := n3_; have BK501 := n4_; have HB := n5_; clear n0_ n1_ n2_ n3_ n4_ n5_; (try clear hb); (try clear hb2); (try clear hk); (try clear hi); (try clear ho0); obtain ⟨Ao25, co25, eo25⟩ := Kd.R_slice HO515.out; subst eo25))
     go_ret2
     exact ⟨_, _, by first | rfl | (simp [errW_none, errW_some] <;> rfl) | (simp [*, errW_none, errW_some] <;> rfl), by (with_reducible repeat (first | apply Kd.R_alloc | apply Kd.R_drewN | apply Kd.R_drew)); exact Kd.R_mono HO508.out (fun _ hk => hk.1.2), by (with_reducible repeat (first | apply Kd.R_alloc | apply Kd.R_drewN | apply Kd.R_drew)); exact Kd.R_mono HO512.out (fun _ hk => hk.1.2), hb1_ HB.out GE501.out⟩
    ·rw [if_neg c9] at H
     have c9b0 : ((t513.length : Int) == 0) = false := beq_eq_false_iff_ne.mpr c9
     have c9b1 : ((t513.length : Int) != 0) = true := bne_iff_ne.mpr c9
     have c9b2 : ¬ (t513 = []) := fun h_ => c9 (by rw [h_]; rfl)
     by_cases c26 : 0 < (t513.length : Int)
     ·rw [if_pos c26] at H
      have c26b0 : decide (0 < (t513.length : Int)) = true := decide_eq_true c26
      have c26b1 : decide (0 < t513.length) = true := decide_eq_true (by omega)
      clear c26
      replace H := Option.bind_eq_some_iff.mp H
      obtain ⟨⟨t517, t518⟩, A270, H⟩ := H
      replace H : (impl_TremauxWalk.l0 k y506 y510 true a1 a0_0 a0_1 a0_2 t517 t518) = some (r1, r2) := H
      have A27 := Aside0.mk A270
      clear A270
      have H' := Aside0.mk H
      clear H
      go_enter Try.func18, Try.ntmps18
      try go_wp2_with (first | ((with_reducible refine gate_dst (N := 2) rfl ?_); (try (refine gate_guard (by rfl) ?_; dsimp only)); refine box_event ?hg (N := 2) ?hd (cs := #[.int .i64 a0_0, .int .i64 a0_1, .int .i64 a0_2]) (t := 36) ?hr ?_; (case hd => rfl); (case hg => rfl); (case hr => first | (go_simp; done) | (go_simp; rfl)); intro gb501 hg w28 hbox hb; have n0_ := Aside0.mk (below_step (hb0_ HB.out) hb); have n1_ := Aside0.mk (hbox); have n2_ := Aside0.mk ((gs_ hg (hb0_ HB.out))); have n3_ := Aside0.mk ((gs_ hg (hb0_ HB.out))); clear HB; have HB := n0_; have BK501 := n1_; have GW501 := n2_; have GE501 := n3_; clear n0_ n1_ n2_ n3_; clear hb hbox hg; obtain ⟨hcz29_0, hcz29_1, hcz29_2⟩ := cz3_ BK501.out; obtain ⟨hfz29_0, hfz29_1, hfz29_2⟩ := fz3_ BK501.out) | ((with_reducible refine gate_dst (N := 15) rfl ?_); (try (refine gate_guard (by rfl) ?_; dsimp only)); refine Kd.R_lit (Kd.int .i64) _ 3 ?hg (N := 15) ?hd (xs := ([a1] : List Int)) (inner := [.int .i64 a1]) (ok := fun _ => True) (okp := fun _ => True) ?hr ?hp (fun _ hk => hk) trivial (Below.refl _ _) (Nat.le_refl _) (by simp) ?_; (case hd => rfl); (case hg => rfl); (case hr => first | (go_simp; done) | (go_simp; rfl)); (case hp => exact (Reps.one (show Kd.M (Kd.int .i64) _ _ _ a1 [.int .i64 a1] from rfl) (Reps.none _ _))); intro v503 w30 ho31 hb hg_ hnew_; clear hg_ hnew_; (first | rw [← Ny502.out] at ho31 | (simp only [Int.reduceToNat] at ho31; rw [← Ny502.out] at ho31)); have HO504 := Aside0.mk (Kd.R_lower ho31 (below_size (hb1_ HB.out GE501.out))); replace BK501 := Aside0.mk (bb_ BK501.out hb); replace HB := Aside0.mk (below_step (hb1_ HB.out GE501.out) hb); clear hb ho31; obtain ⟨Ao32, co32, eo32⟩ := Kd.R_slice HO504.out; subst eo32) | ((with_reducible refine gate_callee (f := 44) rfl ?_); refine goesL_ (some 16) rfl rfl Try.func44 (by kernel_rfl) rfl #[.agg #[.int .i64 a0_0, .int .i64 a0_1, .int .i64 a0_2], .slice Ao32 y502.length co32] rfl (ml_) ?_; (with_reducible refine (impl_isIn.calls a0_0 a0_1 a0_2 _ _ y502 true _ ?side1 ?side2 A3.out).mono ?_); (case side1 => repeat (first | exact (Kd.R_reads' HO504.out).2.2 | (with_reducible refine Kd.C_alloc ?_ _) | (with_reducible refine Kd.C_drewN ?_ _) | (with_reducible refine Kd.C_drew ?_))); (case side2 => exact (Kd.R_reads' HO504.out).2.1); rintro e w33 ⟨rfl, hb⟩; refine ⟨_, rfl, ?_⟩; replace HO504 := Aside0.mk (Kd.R_below (kr_ HO504.out) hb); replace BK501 := Aside0.mk (bb_ BK501.out hb); replace HB := Aside0.mk (below_step (hb1_ HB.out GE501.out) hb); (try clear hb); (try clear hb2); (try clear hk); (try clear hi)))
      replace HO504 := Aside0.mk (Kd.R_drew HO504.out)
      replace BK501 := Aside0.mk (blk_drew BK501.out)
      replace HB := Aside0.mk (below_drew1 HB.out)
      refine start_ (n := 8) (S := fun w' => w'.cell? ⟨gb501, 0, none⟩ = some (.int .i64 a0_0) ∧ w'.cell? ⟨gb501, 1, none⟩ = some (.int .i64 a0_1) ∧ w'.cell? ⟨gb501, 2, none⟩ = some (.int .i64 a0_2)) (ds := []) #[false, false, false, false, false, false, false, false] (by kernel_rfl) rfl rfl ⟨(blk_cell BK501.out 0).trans rfl, (blk_cell BK501.out 1).trans rfl, (blk_cell BK501.out 2).trans rfl⟩ (fun hHeld => ?_); refine with_tabW impl_TremauxWalk.tab3 impl_TremauxWalk.bits3 (fun HT_ HW_ => ?_)
      generalize w33.drew = w34 at HO504 BK501 HB hHeld ⊢
      refine pv_ (i := 0) (N := some 18) HT_.out ?_
      refine pv_ (i := 2) (N := some 20) HT_.out ?_
      refine tv3_ (i := 3) (N := some 21) HT_.out HW_.out hHeld ?_
      refine join_ (σ := Value × Value) 1 #[true, true, true, true, true, true, true, false] (fun s_ => [(19, s_.1), (22, .int .i64 t509), (23, s_.2), (6, s_.1)]) (fun s_ w' => (w'.cell? ⟨gb501, 0, none⟩ = some (.int .i64 a0_0) ∧ w'.cell? ⟨gb501, 1, none⟩ = some (.int .i64 a0_1) ∧ w'.cell? ⟨gb501, 2, none⟩ = some (.int .i64 a0_2)) ∧ (Kd.R (Kd.int .i64) 3 w' w.heap.size (fun k_ => some k_ ≠ (s_.1 : Value).ownBlock ∧ some k_ ≠ (s_.2 : Value).ownBlock) (.slice Ao32 y502.length co32) y502) ∧ (Kd.R (Kd.int .i64) 3 w' w.heap.size (fun k_ => some k_ ≠ (.slice Ao32 y502.length co32 : Value).ownBlock ∧ some k_ ≠ (s_.2 : Value).ownBlock) s_.1 y506) ∧ (Kd.R (Kd.int .i64) 3 w' w.heap.size (fun k_ => some k_ ≠ (.slice Ao32 y502.length co32 : Value).ownBlock ∧ some k_ ≠ (s_.1 : Value).ownBlock) s_.2 y510) ∧ (w'.heap[gb501]? = some (.cells #[.int .i64 a0_0, .int .i64 a0_1, .int .i64 a0_2] 36 (0, 0))) ∧ (Below w.heap.size w w')) ?_ ?_
      rotate_left
      ·intro hCont
       refine two_ (i := 1) (j := 4) (Ni := some 19) (Nj := some 22) #[true, true, true, true, false, false, false, false] #[true, false, true, true, true, false, false, false] rfl rfl rfl rfl (two_of HT_.out (by kernel_rfl)) (by decide) (by decide) (fun K hK => ?_) (fun K hK => ?_)
       ·skip
        refine Kd.R_lit_step (Kd.int .i64) _ 3 ?hg (N := 19) ?hd (xs := ([a1] : List Int)) (inner := [.int .i64 a1]) (ok := fun _ => True) (okp := fun _ => True) ?hr ?hp (fun _ hk => hk) trivial (Below.refl _ _) (Nat.le_refl _) (by simp) ?_; (case hd => rfl); (case hg => rfl); (case hr => first | (go_simp; done) | (go_simp; rfl)); (case hp => exact (Reps.one (show Kd.M (Kd.int .i64) _ _ _ a1 [.int .i64 a1] from rfl) (Reps.none _ _)))
        intro v507 w35 ho36 hb hg_ hnew_
        clear hg_ hnew_
        (first | rw [← Ny506.out] at ho36 | (simp only [Int.reduceToNat] at ho36; rw [← Ny506.out] at ho36))
        have n0_ := Aside0.mk (Kd.R_elder' (kr_ HO504.out) (Kd.R_base ho36) hb)
        have n1_ := Aside0.mk (Kd.R_lower (Kd.R_new' ho36 (Kd.R_lt (kr_ HO504.out))) (below_size (hb1_ HB.out GE501.out)))
        have n2_ := Aside0.mk (bb_ BK501.out hb)
        have n3_ := Aside0.mk (below_step (hb1_ HB.out GE501.out) hb)
        clear HO504
        clear BK501
        clear HB
        have HO504 := n0_
        have HO508 := n1_
        have BK501 := n2_
        have HB := n3_
        clear n0_ n1_ n2_ n3_
        clear hb ho36
        refine hK.out _ _ ⟨(blk_cell BK501.out 0).trans rfl, (blk_cell BK501.out 1).trans rfl, (blk_cell BK501.out 2).trans rfl⟩ (fun hHeld => ?_)
        clear hK K
        refine norm_ (a' := ?_) ?_ ?_
        rotate_left
        ·show Act.put _ (some 19) _ = _
         simp only [Act.put, List.setIfInBounds_toArray, List.set_cons_zero, List.set_cons_succ, i64_w, i32_w]
         rfl
        refine ov_ (i := 4) (N := some 22) HT_.out (fun K hK => ?_)
        refine goes_ Try.func45 (by kernel_rfl) rfl #[.agg #[.int .i64 a0_0, .int .i64 a0_1]] (by rfl) rfl rfl (ml_) ?_
        with_reducible refine (impl_CountGaps.calls a0_0 a0_1 t509 _ A5.out).mono ?_
        rintro e w37 ⟨rfl, hb⟩
        refine ⟨_, rfl, ?_⟩
        replace HO504 := Aside0.mk (Kd.R_below (kr_ HO504.out) hb)
        replace HO508 := Aside0.mk (Kd.R_below (kr_ HO508.out) hb)
        replace BK501 := Aside0.mk (bb_ BK501.out hb)
        replace HB := Aside0.mk (below_step (hb1_ HB.out GE501.out) hb)
        (try clear hb)
        (try clear hb2)
        (try clear hk)
        (try clear hi)
        refine hK.out _ _ ⟨(blk_cell BK501.out 0).trans rfl, (blk_cell BK501.out 1).trans rfl, (blk_cell BK501.out 2).trans rfl⟩ (fun hHeld => ?_)
        clear hK K
        refine norm_ (a' := ?_) ?_ ?_
        rotate_left
        ·show Act.put _ (some 22) _ = _
         simp only [Act.put, List.setIfInBounds_toArray, List.set_cons_zero, List.set_cons_succ, i64_w, i32_w]
         rfl
        refine pv_ (i := 6) (N := some 6) HT_.out ?_
        refine ov_ (i := 5) (N := some 23) HT_.out (fun K hK => ?_)
        refine Kd.R_make_step (Kd.int .i64) _ 3 (by rfl) (N := 23) rfl 22 _ _ rfl t509 rfl rfl Try.underlying22 (.int .i64 0) 8 info3 rfl (by decide) (by omega) 0 (ok := fun _ => True) (okp := fun _ => True) rfl (fun _ hk => hk) trivial (of_decide_eq_true (as_)) (Nat.le_trans (Nat.mul_le_mul_right _ (of_decide_eq_true (as_) : t509.toNat ≤ 35184372088832)) (by omega)) (Below.refl _ _) (Nat.le_refl _) ?_
        intro v511 w38 ho39 hb hg_ hnew_
        clear hg_ hnew_
        (first | rw [← Ny510.out] at ho39 | (simp only [Int.reduceToNat] at ho39; rw [← Ny510.out] at ho39))
        have n0_ := Aside0.mk (Kd.R_elder' (kr_ HO504.out) (Kd.R_base ho39) hb)
        have n1_ := Aside0.mk (Kd.R_elder' (kr_ HO508.out) (Kd.R_base ho39) hb)
        have n2_ := Aside0.mk (Kd.R_lower (Kd.R_new' (Kd.R_new' ho39 (Kd.R_lt (kr_ HO504.out))) (Kd.R_lt (kr_ HO508.out))) (below_size (hb1_ HB.out GE501.out)))
        have n3_ := Aside0.mk (bb_ BK501.out hb)
        have n4_ := Aside0.mk (below_step (hb1_ HB.out GE501.out) hb)
        clear HO504
        clear HO508
        clear BK501
        clear HB
        have HO504 := n0_
        have HO508 := n1_
        have HO512 := n2_
        have BK501 := n3_
        have HB := n4_
        clear n0_ n1_ n2_ n3_ n4_
        clear hb ho39
        refine hK.out _ _ ⟨(blk_cell BK501.out 0).trans rfl, (blk_cell BK501.out 1).trans rfl, (blk_cell BK501.out 2).trans rfl⟩ (fun hHeld => ?_)
        clear hK K
        refine norm_ (a' := ?_) ?_ ?_
        rotate_left
        ·show Act.put _ (some 23) _ = _
         simp only [Act.put, List.setIfInBounds_toArray, List.set_cons_zero, List.set_cons_succ, i64_w, i32_w]
         rfl
        exact norm_ (by simp only [putAll, Act.put, List.setIfInBounds_toArray, List.set_cons_zero, List.set_cons_succ]) (hCont (v507, v511) _ ⟨hHeld, (by (with_reducible repeat (first | apply Kd.R_alloc | apply Kd.R_drewN | apply Kd.R_drew)); exact Kd.R_mono HO504.out (fun _ hk => ⟨hk.1.2, hk.2⟩)), (by (with_reducible repeat (first | apply Kd.R_alloc | apply Kd.R_drewN | apply Kd.R_drew)); exact Kd.R_mono HO508.out (fun _ hk => ⟨hk.1.2, hk.2⟩)), (by (with_reducible repeat (first | apply Kd.R_alloc | apply Kd.R_drewN | apply Kd.R_drew)); exact Kd.R_mono HO512.out (fun _ hk => ⟨hk.1.2, hk.2⟩)), (bk_ BK501.out), (hb1_ HB.out GE501.out)⟩)
       ·skip
        refine goes_ Try.func45 (by kernel_rfl) rfl #[.agg #[.int .i64 a0_0, .int .i64 a0_1]] (by rfl) rfl rfl (ml_) ?_
        with_reducible refine (impl_CountGaps.calls a0_0 a0_1 t509 _ A5.out).mono ?_
        rintro e w35 ⟨rfl, hb⟩
        refine ⟨_, rfl, ?_⟩
        replace HO504 := Aside0.mk (Kd.R_below (kr_ HO504.out) hb)
        replace BK501 := Aside0.mk (bb_ BK501.out hb)
        replace HB := Aside0.mk (below_step (hb1_ HB.out GE501.out) hb)
        (try clear hb)
        (try clear hb2)
        (try clear hk)
        (try clear hi)
        refine hK.out _ _ ⟨(blk_cell BK501.out 0).trans rfl, (blk_cell BK501.out 1).trans rfl, (blk_cell BK501.out 2).trans rfl⟩ (fun hHeld => ?_)
        clear hK K
        refine norm_ (a' := ?_) ?_ ?_
        rotate_left
        ·show Act.put _ (some 22) _ = _
         simp only [Act.put, List.setIfInBounds_toArray, List.set_cons_zero, List.set_cons_succ, i64_w, i32_w]
         rfl
        refine two_ (i := 1) (j := 5) (Ni := some 19) (Nj := some 23) #[true, true, true, true, true, false, false, false] #[true, false, true, true, true, true, false, false] rfl rfl rfl rfl (two_of HT_.out (by kernel_rfl)) (by decide) (by decide) (fun K hK => ?_) (fun K hK => ?_)
        ·skip
         refine Kd.R_lit_step (Kd.int .i64) _ 3 ?hg (N := 19) ?hd (xs := ([a1] : List Int)) (inner := [.int .i64 a1]) (ok := fun _ => True) (okp := fun _ => True) ?hr ?hp (fun _ hk => hk) trivial (Below.refl _ _) (Nat.le_refl _) (by simp) ?_; (case hd => rfl); (case hg => rfl); (case hr => first | (go_simp; done) | (go_simp; rfl)); (case hp => exact (Reps.one (show Kd.M (Kd.int .i64) _ _ _ a1 [.int .i64 a1] from rfl) (Reps.none _ _)))
         intro v507 w36 ho37 hb hg_ hnew_
         clear hg_ hnew_
         (first | rw [← Ny506.out] at ho37 | (simp only [Int.reduceToNat] at ho37; rw [← Ny506.out] at ho37))
         have n0_ := Aside0.mk (Kd.R_elder' (kr_ HO504.out) (Kd.R_base ho37) hb)
         have n1_ := Aside0.mk (Kd.R_lower (Kd.R_new' ho37 (Kd.R_lt (kr_ HO504.out))) (below_size (hb1_ HB.out GE501.out)))
         have n2_ := Aside0.mk (bb_ BK501.out hb)
         have n3_ := Aside0.mk (below_step (hb1_ HB.out GE501.out) hb)
         clear HO504
         clear BK501
         clear HB
         have HO504 := n0_
         have HO508 := n1_
         have BK501 := n2_
         have HB := n3_
         clear n0_ n1_ n2_ n3_
         clear hb ho37
         refine hK.out _ _ ⟨(blk_cell BK501.out 0).trans rfl, (blk_cell BK501.out 1).trans rfl, (blk_cell BK501.out 2).trans rfl⟩ (fun hHeld => ?_)
         clear hK K
         refine norm_ (a' := ?_) ?_ ?_
         rotate_left
         ·show Act.put _ (some 19) _ = _
          simp only [Act.put, List.setIfInBounds_toArray, List.set_cons_zero, List.set_cons_succ, i64_w, i32_w]
          rfl
         refine pv_ (i := 6) (N := some 6) HT_.out ?_
         refine ov_ (i := 5) (N := some 23) HT_.out (fun K hK => ?_)
         refine Kd.R_make_step (Kd.int .i64) _ 3 (by rfl) (N := 23) rfl 22 _ _ rfl t509 rfl rfl Try.underlying22 (.int .i64 0) 8 info3 rfl (by decide) (by omega) 0 (ok := fun _ => True) (okp := fun _ => True) rfl (fun _ hk => hk) trivial (of_decide_eq_true (as_)) (Nat.le_trans (Nat.mul_le_mul_right _ (of_decide_eq_true (as_) : t509.toNat ≤ 35184372088832)) (by omega)) (Below.refl _ _) (Nat.le_refl _) ?_
         intro v511 w38 ho39 hb hg_ hnew_
         clear hg_ hnew_
         (first | rw [← Ny510.out] at ho39 | (simp only [Int.reduceToNat] at ho39; rw [← Ny510.out] at ho39))
         have n0_ := Aside0.mk (Kd.R_elder' (kr_ HO504.out) (Kd.R_base ho39) hb)
         have n1_ := Aside0.mk (Kd.R_elder' (kr_ HO508.out) (Kd.R_base ho39) hb)
         have n2_ := Aside0.mk (Kd.R_lower (Kd.R_new' (Kd.R_new' ho39 (Kd.R_lt (kr_ HO504.out))) (Kd.R_lt (kr_ HO508.out))) (below_size (hb1_ HB.out GE501.out)))
         have n3_ := Aside0.mk (bb_ BK501.out hb)
         have n4_ := Aside0.mk (below_step (hb1_ HB.out GE501.out) hb)
         clear HO504
         clear HO508
         clear BK501
         clear HB
         have HO504 := n0_
         have HO508 := n1_
         have HO512 := n2_
         have BK501 := n3_
         have HB := n4_
         clear n0_ n1_ n2_ n3_ n4_
         clear hb ho39
         refine hK.out _ _ ⟨(blk_cell BK501.out 0).trans rfl, (blk_cell BK501.out 1).trans rfl, (blk_cell BK501.out 2).trans rfl⟩ (fun hHeld => ?_)
         clear hK K
         refine norm_ (a' := ?_) ?_ ?_
         rotate_left
         ·show Act.put _ (some 23) _ = _
          simp only [Act.put, List.setIfInBounds_toArray, List.set_cons_zero, List.set_cons_succ, i64_w, i32_w]
          rfl
         exact norm_ (by simp only [putAll, Act.put, List.setIfInBounds_toArray, List.set_cons_zero, List.set_cons_succ]) (hCont (v507, v511) _ ⟨hHeld, (by (with_reducible repeat (first | apply Kd.R_alloc | apply Kd.R_drewN | apply Kd.R_drew)); exact Kd.R_mono HO504.out (fun _ hk => ⟨hk.1.2, hk.2⟩)), (by (with_reducible repeat (first | apply Kd.R_alloc | apply Kd.R_drewN | apply Kd.R_drew)); exact Kd.R_mono HO508.out (fun _ hk => ⟨hk.1.2, hk.2⟩)), (by (with_reducible repeat (first | apply Kd.R_alloc | apply Kd.R_drewN | apply Kd.R_drew)); exact Kd.R_mono HO512.out (fun _ hk => ⟨hk.1.2, hk.2⟩)), (bk_ BK501.out), (hb1_ HB.out GE501.out)⟩)
        ·skip
         refine Kd.R_make_step (Kd.int .i64) _ 3 (by rfl) (N := 23) rfl 22 _ _ rfl t509 rfl rfl Try.underlying22 (.int .i64 0) 8 info3 rfl (by decide) (by omega) 0 (ok := fun _ => True) (okp := fun _ => True) rfl (fun _ hk => hk) trivial (of_decide_eq_true (as_)) (Nat.le_trans (Nat.mul_le_mul_right _ (of_decide_eq_true (as_) : t509.toNat ≤ 35184372088832)) (by omega)) (Below.refl _ _) (Nat.le_refl _) ?_
         intro v511 w36 ho37 hb hg_ hnew_
         clear hg_ hnew_
         (first | rw [← Ny510.out] at ho37 | (simp only [Int.reduceToNat] at ho37; rw [← Ny510.out] at ho37))
         have n0_ := Aside0.mk (Kd.R_elder' (kr_ HO504.out) (Kd.R_base ho37) hb)
         have n1_ := Aside0.mk (Kd.R_lower (Kd.R_new' ho37 (Kd.R_lt (kr_ HO504.out))) (below_size (hb1_ HB.out GE501.out)))
         have n2_ := Aside0.mk (bb_ BK501.out hb)
         have n3_ := Aside0.mk (below_step (hb1_ HB.out GE501.out) hb)
         clear HO504
         clear BK501
         clear HB
         have HO504 := n0_
         have HO512 := n1_
         have BK501 := n2_
         have HB := n3_
         clear n0_ n1_ n2_ n3_
         clear hb ho37
         refine hK.out _ _ ⟨(blk_cell BK501.out 0).trans rfl, (blk_cell BK501.out 1).trans rfl, (blk_cell BK501.out 2).trans rfl⟩ (fun hHeld => ?_)
         clear hK K
         refine norm_ (a' := ?_) ?_ ?_
         rotate_left
         ·show Act.put _ (some 23) _ = _
          simp only [Act.put, List.setIfInBounds_toArray, List.set_cons_zero, List.set_cons_succ, i64_w, i32_w]
          rfl
         refine ov_ (i := 1) (N := some 19) HT_.out (fun K hK => ?_)
         refine Kd.R_lit_step (Kd.int .i64) _ 3 ?hg (N := 19) ?hd (xs := ([a1] : List Int)) (inner := [.int .i64 a1]) (ok := fun _ => True) (okp := fun _ => True) ?hr ?hp (fun _ hk => hk) trivial (Below.refl _ _) (Nat.le_refl _) (by simp) ?_; (case hd => rfl); (case hg => rfl); (case hr => first | (go_simp; done) | (go_simp; rfl)); (case hp => exact (Reps.one (show Kd.M (Kd.int .i64) _ _ _ a1 [.int .i64 a1] from rfl) (Reps.none _ _)))
         intro v507 w38 ho39 hb hg_ hnew_
         clear hg_ hnew_
         (first | rw [← Ny506.out] at ho39 | (simp only [Int.reduceToNat] at ho39; rw [← Ny506.out] at ho39))
         have n0_ := Aside0.mk (Kd.R_elder' (kr_ HO504.out) (Kd.R_base ho39) hb)
         have n1_ := Aside0.mk (Kd.R_elder' (kr_ HO512.out) (Kd.R_base ho39) hb)
         have n2_ := Aside0.mk (Kd.R_lower (Kd.R_new' (Kd.R_new' ho39 (Kd.R_lt (kr_ HO504.out))) (Kd.R_lt (kr_ HO512.out))) (below_size (hb1_ HB.out GE501.out)))
         have n3_ := Aside0.mk (bb_ BK501.out hb)
         have n4_ := Aside0.mk (below_step (hb1_ HB.out GE501.out) hb)
         clear HO504
         clear HO512
         clear BK501
         clear HB
         have HO504 := n0_
         have HO512 := n1_
         have HO508 := n2_
         have BK501 := n3_
         have HB := n4_
         clear n0_ n1_ n2_ n3_ n4_
         clear hb ho39
         refine hK.out _ _ ⟨(blk_cell BK501.out 0).trans rfl, (blk_cell BK501.out 1).trans rfl, (blk_cell BK501.out 2).trans rfl⟩ (fun hHeld => ?_)
         clear hK K
         refine norm_ (a' := ?_) ?_ ?_
         rotate_left
         ·show Act.put _ (some 19) _ = _
          simp only [Act.put, List.setIfInBounds_toArray, List.set_cons_zero, List.set_cons_succ, i64_w, i32_w]
          rfl
         refine pv_ (i := 6) (N := some 6) HT_.out ?_
         exact norm_ (by simp only [putAll, Act.put, List.setIfInBounds_toArray, List.set_cons_zero, List.set_cons_succ]) (hCont (v507, v511) _ ⟨hHeld, (by (with_reducible repeat (first | apply Kd.R_alloc | apply Kd.R_drewN | apply Kd.R_drew)); exact Kd.R_mono HO504.out (fun _ hk => ⟨hk.2, hk.1.2⟩)), (by (with_reducible repeat (first | apply Kd.R_alloc | apply Kd.R_drewN | apply Kd.R_drew)); exact Kd.R_mono HO508.out (fun _ hk => ⟨hk.1.2, hk.2⟩)), (by (with_reducible repeat (first | apply Kd.R_alloc | apply Kd.R_drewN | apply Kd.R_drew)); exact Kd.R_mono HO512.out (fun _ hk => ⟨hk.1.2, hk.2⟩)), (bk_ BK501.out), (hb1_ HB.out GE501.out)⟩)
      rintro ⟨v507, v511⟩ w40 ⟨hS_, h0_, h1_, h2_, h3_, h4_⟩
      have n0_ : Aside0 (Kd.R (Kd.int .i64) 3 w40 w.heap.size (fun k_ => some k_ ≠ (v507 : Value).ownBlock ∧ some k_ ≠ (v511 : Value).ownBlock) (.slice Ao32 y502.length co32) y502) := ⟨h0_⟩
      have n1_ : Aside0 (Kd.R (Kd.int .i64) 3 w40 w.heap.size (fun k_ => some k_ ≠ (.slice Ao32 y502.length co32 : Value).ownBlock ∧ some k_ ≠ (v511 : Value).ownBlock) v507 y506) := ⟨h1_⟩
      have n2_ : Aside0 (Kd.R (Kd.int .i64) 3 w40 w.heap.size (fun k_ => some k_ ≠ (.slice Ao32 y502.length co32 : Value).ownBlock ∧ some k_ ≠ (v507 : Value).ownBlock) v511 y510) := ⟨h2_⟩
      have n3_ : Aside0 (w40.heap[gb501]? = some (.cells #[.int .i64 a0_0, .int .i64 a0_1, .int .i64 a0_2] 36 (0, 0))) := ⟨h3_⟩
      have n4_ : Aside0 (Below w.heap.size w w40) := ⟨h4_⟩
      clear HO504
      clear BK501
      clear HB
      clear h0_ h1_ h2_ h3_ h4_
      have HO504 := n0_
      have HO508 := n1_
      have HO512 := n2_
      have BK501 := n3_
      have HB := n4_
      clear n0_ n1_ n2_ n3_ n4_
      have hHeld : w40.cell? ⟨gb501, 0, none⟩ = some (.int .i64 a0_0) ∧ w40.cell? ⟨gb501, 1, none⟩ = some (.int .i64 a0_1) ∧ w40.cell? ⟨gb501, 2, none⟩ = some (.int .i64 a0_2) := hS_
      refine norm_ (a' := ?_) ?_ ?_
      rotate_left
      ·simp only [putAll, Act.put, List.setIfInBounds_toArray, List.set_cons_zero, List.set_cons_succ]
       rfl
      refine pv_ (i := 7) (N := some 7) HT_.out ?_
      refine done_ (done_of HT_.out (by kernel_rfl)) ?_
      obtain ⟨hcz41_0, hcz41_1, hcz41_2⟩ := cz3_ BK501.out
      obtain ⟨hfz41_0, hfz41_1, hfz41_2⟩ := fz3_ BK501.out
      try go_wp2_with (first | ((with_reducible refine gate_callee (f := 46) rfl ?_); refine goesL_ (some 26) rfl rfl Try.func46 (by kernel_rfl) rfl #[.agg #[.int .i64 a0_0, .int .i64 a0_1, .int .i64 a0_2], .int .i64 a1] rfl (ml_) ?_; (with_reducible refine (impl_WaysFrom.calls k a0_0 a0_1 a0_2 a1 t513 _ A8.out).mono ?_); rintro e w42 ⟨v514, rfl, ho0, hb⟩; refine ⟨_, rfl, ?_⟩; have n0_ := Aside0.mk (Kd.R_elder' (kr_ HO504.out) (Kd.R_base ho0) hb); have n1_ := Aside0.mk (Kd.R_elder' (kr_ HO508.out) (Kd.R_base ho0) hb); have n2_ := Aside0.mk (Kd.R_elder' (kr_ HO512.out) (Kd.R_base ho0) hb); have n3_ := Aside0.mk (Kd.R_lower (Kd.R_new' (Kd.R_new' (Kd.R_new' ho0 (Kd.R_lt (kr_ HO504.out))) (Kd.R_lt (kr_ HO508.out))) (Kd.R_lt (kr_ HO512.out))) (below_size (hb1_ HB.out GE501.out))); have n4_ := Aside0.mk (bb_ BK501.out hb); have n5_ := Aside0.mk (below_step (hb1_ HB.out GE501.out) hb); clear HO504; clear HO508; clear HO512; clear BK501; clear HB; have HO504 := n0_; have HO508 := n1_; have HO512 := n2_; have HO515 := n3_; have BK501 := n4_; have HB := n5_; clear n0_ n1_ n2_ n3_ n4_ n5_; (try clear hb); (try clear hb2); (try clear hk); (try clear hi); (try clear ho0); obtain ⟨Ao43, co43, eo43⟩ := Kd.R_slice HO515.out; subst eo43))
      replace HO504 := Aside0.mk (Kd.R_drew HO504.out)
      replace HO508 := Aside0.mk (Kd.R_drew HO508.out)
      replace HO512 := Aside0.mk (Kd.R_drew HO512.out)
      replace HO515 := Aside0.mk (Kd.R_drew HO515.out)
      replace BK501 := Aside0.mk (blk_drew BK501.out)
      replace HB := Aside0.mk (below_drew1 HB.out)
      have p516 : 0 ≤ (0 : Int) := (by omega)
      have q516 : 0 < (t513.length : Int) := of_decide_eq_true (as_)
      obtain ⟨ad516, e516, hx516_0⟩ := Kd.at_int (Kd.R_reads' HO515.out).2.2 0 p516 q516
      cases e516
      have qi516 : (0 < t513.length) = True := eq_true (by omega)
      (try rw [show ((0 : Int)).toNat = 0 from rfl] at hx516_0)
      (try rw [Addr.add_zero'] at hx516_0)
      replace p516 := eq_true p516
      replace q516 := eq_true q516
      refine start_ (n := 13) (S := fun w' => w'.cell? ⟨gb501, 0, none⟩ = some (.int .i64 a0_0) ∧ w'.cell? ⟨gb501, 1, none⟩ = some (.int .i64 a0_1) ∧ w'.cell? ⟨gb501, 2, none⟩ = some (.int .i64 a0_2) ∧ w'.cell? ad516 = some (.int .i64 (rd t513 0))) (ds := []) #[false, false, false, false, false, false, false, false, false, false, false, false, false] (by kernel_rfl) rfl rfl ⟨(blk_cell BK501.out 0).trans rfl, (blk_cell BK501.out 1).trans rfl, (blk_cell BK501.out 2).trans rfl, hx516_0⟩ (fun hHeld => ?_); refine with_tabW impl_TremauxWalk.tab7 impl_TremauxWalk.bits7 (fun HT_ HW_ => ?_)
      generalize w42.drew = w44 at HO504 HO508 HO512 HO515 BK501 HB hx516_0 hHeld ⊢
      refine pv_ (i := 0) (N := some 32) HT_.out ?_
      refine pv_ (i := 2) (N := some 34) HT_.out ?_
      refine pv_ (i := 3) (N := some 35) HT_.out ?_
      refine pv_ (i := 4) (N := some 36) HT_.out ?_
      refine pv_ (i := 5) (N := some 37) HT_.out ?_
      refine tv4_ (i := 1) (N := some 33) HT_.out HW_.out hHeld ?_
      refine tv4_ (i := 6) (N := some 38) HT_.out HW_.out hHeld ?_
      refine join_ (σ := Nat × Nat) 3 #[true, true, true, true, true, true, true, true, true, true, false, false, false] (fun s_ => [(39, .agg #[.int .i64 t517, .int .i64 t518]), (9, .pointer (some ⟨s_.1, 0, none⟩)), (10, .pointer (some ⟨s_.2, 0, none⟩))]) (fun s_ w' => (w'.cell? ⟨gb501, 0, none⟩ = some (.int .i64 a0_0) ∧ w'.cell? ⟨gb501, 1, none⟩ = some (.int .i64 a0_1) ∧ w'.cell? ⟨gb501, 2, none⟩ = some (.int .i64 a0_2) ∧ w'.cell? ad516 = some (.int .i64 (rd t513 0))) ∧ (Kd.R (Kd.int .i64) 3 w' w.heap.size (fun k_ => some k_ ≠ (v507 : Value).ownBlock ∧ some k_ ≠ (v511 : Value).ownBlock ∧ some k_ ≠ (.slice (some ad516) t513.length co43 : Value).ownBlock) (.slice Ao32 y502.length co32) y502) ∧ (Kd.R (Kd.int .i64) 3 w' w.heap.size (fun k_ => some k_ ≠ (.slice Ao32 y502.length co32 : Value).ownBlock ∧ some k_ ≠ (v511 : Value).ownBlock ∧ some k_ ≠ (.slice (some ad516) t513.length co43 : Value).ownBlock) v507 y506) ∧ (Kd.R (Kd.int .i64) 3 w' w.heap.size (fun k_ => some k_ ≠ (.slice Ao32 y502.length co32 : Value).ownBlock ∧ some k_ ≠ (v507 : Value).ownBlock ∧ some k_ ≠ (.slice (some ad516) t513.length co43 : Value).ownBlock) v511 y510) ∧ (Kd.R (Kd.int .i64) 3 w' w.heap.size (fun k_ => some k_ ≠ (.slice Ao32 y502.length co32 : Value).ownBlock ∧ some k_ ≠ (v507 : Value).ownBlock ∧ some k_ ≠ (v511 : Value).ownBlock) (.slice (some ad516) t513.length co43) t513) ∧ (w'.heap[gb501]? = some (.cells #[.int .i64 a0_0, .int .i64 a0_1, .int .i64 a0_2] 36 (0, 0))) ∧ (w'.heap[s_.1]? = some (.cells #[.int .i64 0, .int .i64 0] 60 (0, 0))) ∧ (w'.heap[s_.2]? = some (.cells #[.int .i64 0, .int .i64 0] 60 (0, 0))) ∧ (w.heap.size ≤ s_.1) ∧ (w.heap.size ≤ s_.1) ∧ (gb501 ≠ s_.1) ∧ (s_.1 ≠ gb501) ∧ (s_.2 ≠ s_.1) ∧ (s_.1 ≠ s_.2) ∧ (w.heap.size ≤ s_.2) ∧ (w.heap.size ≤ s_.2) ∧ (gb501 ≠ s_.2) ∧ (s_.2 ≠ gb501) ∧ (Below w.heap.size w w')) ?_ ?_
      rotate_left
      ·intro hJ7_8_9
       refine join_ (σ := Nat) 4 #[true, true, true, true, true, true, true, true, true, false, false, false, false] (fun s_ => [(39, .agg #[.int .i64 t517, .int .i64 t518]), (9, .pointer (some ⟨s_, 0, none⟩))]) (fun s_ w' => (w'.cell? ⟨gb501, 0, none⟩ = some (.int .i64 a0_0) ∧ w'.cell? ⟨gb501, 1, none⟩ = some (.int .i64 a0_1) ∧ w'.cell? ⟨gb501, 2, none⟩ = some (.int .i64 a0_2) ∧ w'.cell? ad516 = some (.int .i64 (rd t513 0))) ∧ (Kd.R (Kd.int .i64) 3 w' w.heap.size (fun k_ => some k_ ≠ (v507 : Value).ownBlock ∧ some k_ ≠ (v511 : Value).ownBlock ∧ some k_ ≠ (.slice (some ad516) t513.length co43 : Value).ownBlock) (.slice Ao32 y502.length co32) y502) ∧ (Kd.R (Kd.int .i64) 3 w' w.heap.size (fun k_ => some k_ ≠ (.slice Ao32 y502.length co32 : Value).ownBlock ∧ some k_ ≠ (v511 : Value).ownBlock ∧ some k_ ≠ (.slice (some ad516) t513.length co43 : Value).ownBlock) v507 y506) ∧ (Kd.R (Kd.int .i64) 3 w' w.heap.size (fun k_ => some k_ ≠ (.slice Ao32 y502.length co32 : Value).ownBlock ∧ some k_ ≠ (v507 : Value).ownBlock ∧ some k_ ≠ (.slice (some ad516) t513.length co43 : Value).ownBlock) v511 y510) ∧ (Kd.R (Kd.int .i64) 3 w' w.heap.size (fun k_ => some k_ ≠ (.slice Ao32 y502.length co32 : Value).ownBlock ∧ some k_ ≠ (v507 : Value).ownBlock ∧ some k_ ≠ (v511 : Value).ownBlock) (.slice (some ad516) t513.length co43) t513) ∧ (w'.heap[gb501]? = some (.cells #[.int .i64 a0_0, .int .i64 a0_1, .int .i64 a0_2] 36 (0, 0))) ∧ (w'.heap[s_]? = some (.cells #[.int .i64 0, .int .i64 0] 60 (0, 0))) ∧ (w.heap.size ≤ s_) ∧ (w.heap.size ≤ s_) ∧ (gb501 ≠ s_) ∧ (s_ ≠ gb501) ∧ (Below w.heap.size w w')) ?_ ?_
       rotate_left
       ·intro hJ7_8
        refine join_ (σ := Nat) 4 #[true, true, true, true, true, true, true, true, false, true, false, false, false] (fun s_ => [(39, .agg #[.int .i64 t517, .int .i64 t518]), (10, .pointer (some ⟨s_, 0, none⟩))]) (fun s_ w' => (w'.cell? ⟨gb501, 0, none⟩ = some (.int .i64 a0_0) ∧ w'.cell? ⟨gb501, 1, none⟩ = some (.int .i64 a0_1) ∧ w'.cell? ⟨gb501, 2, none⟩ = some (.int .i64 a0_2) ∧ w'.cell? ad516 = some (.int .i64 (rd t513 0))) ∧ (Kd.R (Kd.int .i64) 3 w' w.heap.size (fun k_ => some k_ ≠ (v507 : Value).ownBlock ∧ some k_ ≠ (v511 : Value).ownBlock ∧ some k_ ≠ (.slice (some ad516) t513.length co43 : Value).ownBlock) (.slice Ao32 y502.length co32) y502) ∧ (Kd.R (Kd.int .i64) 3 w' w.heap.size (fun k_ => some k_ ≠ (.slice Ao32 y502.length co32 : Value).ownBlock ∧ some k_ ≠ (v511 : Value).ownBlock ∧ some k_ ≠ (.slice (some ad516) t513.length co43 : Value).ownBlock) v507 y506) ∧ (Kd.R (Kd.int .i64) 3 w' w.heap.size (fun k_ => some k_ ≠ (.slice Ao32 y502.length co32 : Value).ownBlock ∧ some k_ ≠ (v507 : Value).ownBlock ∧ some k_ ≠ (.slice (some ad516) t513.length co43 : Value).ownBlock) v511 y510) ∧ (Kd.R (Kd.int .i64) 3 w' w.heap.size (fun k_ => some k_ ≠ (.slice Ao32 y502.length co32 : Value).ownBlock ∧ some k_ ≠ (v507 : Value).ownBlock ∧ some k_ ≠ (v511 : Value).ownBlock) (.slice (some ad516) t513.length co43) t513) ∧ (w'.heap[gb501]? = some (.cells #[.int .i64 a0_0, .int .i64 a0_1, .int .i64 a0_2] 36 (0, 0))) ∧ (w'.heap[s_]? = some (.cells #[.int .i64 0, .int .i64 0] 60 (0, 0))) ∧ (w.heap.size ≤ s_) ∧ (w.heap.size ≤ s_) ∧ (gb501 ≠ s_) ∧ (s_ ≠ gb501) ∧ (Below w.heap.size w w')) ?_ ?_
        rotate_left
        ·intro hJ7_9
         refine join_ (σ := Nat × Nat) 4 #[true, true, true, true, true, true, true, false, true, true, false, false, false] (fun s_ => [(9, .pointer (some ⟨s_.1, 0, none⟩)), (10, .pointer (some ⟨s_.2, 0, none⟩))]) (fun s_ w' => (w'.cell? ⟨gb501, 0, none⟩ = some (.int .i64 a0_0) ∧ w'.cell? ⟨gb501, 1, none⟩ = some (.int .i64 a0_1) ∧ w'.cell? ⟨gb501, 2, none⟩ = some (.int .i64 a0_2) ∧ w'.cell? ad516 = some (.int .i64 (rd t513 0))) ∧ (Kd.R (Kd.int .i64) 3 w' w.heap.size (fun k_ => some k_ ≠ (v507 : Value).ownBlock ∧ some k_ ≠ (v511 : Value).ownBlock ∧ some k_ ≠ (.slice (some ad516) t513.length co43 : Value).ownBlock) (.slice Ao32 y502.length co32) y502) ∧ (Kd.R (Kd.int .i64) 3 w' w.heap.size (fun k_ => some k_ ≠ (.slice Ao32 y502.length co32 : Value).ownBlock ∧ some k_ ≠ (v511 : Value).ownBlock ∧ some k_ ≠ (.slice (some ad516) t513.length co43 : Value).ownBlock) v507 y506) ∧ (Kd.R (Kd.int .i64) 3 w' w.heap.size (fun k_ => some k_ ≠ (.slice Ao32 y502.length co32 : Value).ownBlock ∧ some k_ ≠ (v507 : Value).ownBlock ∧ some k_ ≠ (.slice (some ad516) t513.length co43 : Value).ownBlock) v511 y510) ∧ (Kd.R (Kd.int .i64) 3 w' w.heap.size (fun k_ => some k_ ≠ (.slice Ao32 y502.length co32 : Value).ownBlock ∧ some k_ ≠ (v507 : Value).ownBlock ∧ some k_ ≠ (v511 : Value).ownBlock) (.slice (some ad516) t513.length co43) t513) ∧ (w'.heap[gb501]? = some (.cells #[.int .i64 a0_0, .int .i64 a0_1, .int .i64 a0_2] 36 (0, 0))) ∧ (w'.heap[s_.1]? = some (.cells #[.int .i64 0, .int .i64 0] 60 (0, 0))) ∧ (w'.heap[s_.2]? = some (.cells #[.int .i64 0, .int .i64 0] 60 (0, 0))) ∧ (w.heap.size ≤ s_.1) ∧ (w.heap.size ≤ s_.1) ∧ (gb501 ≠ s_.1) ∧ (s_.1 ≠ gb501) ∧ (s_.2 ≠ s_.1) ∧ (s_.1 ≠ s_.2) ∧ (w.heap.size ≤ s_.2) ∧ (w.heap.size ≤ s_.2) ∧ (gb501 ≠ s_.2) ∧ (s_.2 ≠ gb501) ∧ (Below w.heap.size w w')) ?_ ?_
         rotate_left
         ·intro hJ8_9
          refine join_ (σ := Unit) 5 #[true, true, true, true, true, true, true, true, false, false, false, false, false] (fun s_ => [(39, .agg #[.int .i64 t517, .int .i64 t518])]) (fun s_ w' => (w'.cell? ⟨gb501, 0, none⟩ = some (.int .i64 a0_0) ∧ w'.cell? ⟨gb501, 1, none⟩ = some (.int .i64 a0_1) ∧ w'.cell? ⟨gb501, 2, none⟩ = some (.int .i64 a0_2) ∧ w'.cell? ad516 = some (.int .i64 (rd t513 0))) ∧ (Kd.R (Kd.int .i64) 3 w' w.heap.size (fun k_ => some k_ ≠ (v507 : Value).ownBlock ∧ some k_ ≠ (v511 : Value).ownBlock ∧ some k_ ≠ (.slice (some ad516) t513.length co43 : Value).ownBlock) (.slice Ao32 y502.length co32) y502) ∧ (Kd.R (Kd.int .i64) 3 w' w.heap.size (fun k_ => some k_ ≠ (.slice Ao32 y502.length co32 : Value).ownBlock ∧ some k_ ≠ (v511 : Value).ownBlock ∧ some k_ ≠ (.slice (some ad516) t513.length co43 : Value).ownBlock) v507 y506) ∧ (Kd.R (Kd.int .i64) 3 w' w.heap.size (fun k_ => some k_ ≠ (.slice Ao32 y502.length co32 : Value).ownBlock ∧ some k_ ≠ (v507 : Value).ownBlock ∧ some k_ ≠ (.slice (some ad516) t513.length co43 : Value).ownBlock) v511 y510) ∧ (Kd.R (Kd.int .i64) 3 w' w.heap.size (fun k_ => some k_ ≠ (.slice Ao32 y502.length co32 : Value).ownBlock ∧ some k_ ≠ (v507 : Value).ownBlock ∧ some k_ ≠ (v511 : Value).ownBlock) (.slice (some ad516) t513.length co43) t513) ∧ (w'.heap[gb501]? = some (.cells #[.int .i64 a0_0, .int .i64 a0_1, .int .i64 a0_2] 36 (0, 0))) ∧ (Below w.heap.size w w')) ?_ ?_
          rotate_left
          ·intro hJ7
           refine join_ (σ := Nat) 5 #[true, true, true, true, true, true, true, false, true, false, false, false, false] (fun s_ => [(9, .pointer (some ⟨s_, 0, none⟩))]) (fun s_ w' => (w'.cell? ⟨gb501, 0, none⟩ = some (.int .i64 a0_0) ∧ w'.cell? ⟨gb501, 1, none⟩ = some (.int .i64 a0_1) ∧ w'.cell? ⟨gb501, 2, none⟩ = some (.int .i64 a0_2) ∧ w'.cell? ad516 = some (.int .i64 (rd t513 0))) ∧ (Kd.R (Kd.int .i64) 3 w' w.heap.size (fun k_ => some k_ ≠ (v507 : Value).ownBlock ∧ some k_ ≠ (v511 : Value).ownBlock ∧ some k_ ≠ (.slice (some ad516) t513.length co43 : Value).ownBlock) (.slice Ao32 y502.length co32) y502) ∧ (Kd.R (Kd.int .i64) 3 w' w.heap.size (fun k_ => some k_ ≠ (.slice Ao32 y502.length co32 : Value).ownBlock ∧ some k_ ≠ (v511 : Value).ownBlock ∧ some k_ ≠ (.slice (some ad516) t513.length co43 : Value).ownBlock) v507 y506) ∧ (Kd.R (Kd.int .i64) 3 w' w.heap.size (fun k_ => some k_ ≠ (.slice Ao32 y502.length co32 : Value).ownBlock ∧ some k_ ≠ (v507 : Value).ownBlock ∧ some k_ ≠ (.slice (some ad516) t513.length co43 : Value).ownBlock) v511 y510) ∧ (Kd.R (Kd.int .i64) 3 w' w.heap.size (fun k_ => some k_ ≠ (.slice Ao32 y502.length co32 : Value).ownBlock ∧ some k_ ≠ (v507 : Value).ownBlock ∧ some k_ ≠ (v511 : Value).ownBlock) (.slice (some ad516) t513.length co43) t513) ∧ (w'.heap[gb501]? = some (.cells #[.int .i64 a0_0, .int .i64 a0_1, .int .i64 a0_2] 36 (0, 0))) ∧ (w'.heap[s_]? = some (.cells #[.int .i64 0, .int .i64 0] 60 (0, 0))) ∧ (w.heap.size ≤ s_) ∧ (w.heap.size ≤ s_) ∧ (gb501 ≠ s_) ∧ (s_ ≠ gb501) ∧ (Below w.heap.size w w')) ?_ ?_
           rotate_left
           ·intro hJ8
            refine join_ (σ := Nat) 5 #[true, true, true, true, true, true, true, false, false, true, false, false, false] (fun s_ => [(10, .pointer (some ⟨s_, 0, none⟩))]) (fun s_ w' => (w'.cell? ⟨gb501, 0, none⟩ = some (.int .i64 a0_0) ∧ w'.cell? ⟨gb501, 1, none⟩ = some (.int .i64 a0_1) ∧ w'.cell? ⟨gb501, 2, none⟩ = some (.int .i64 a0_2) ∧ w'.cell? ad516 = some (.int .i64 (rd t513 0))) ∧ (Kd.R (Kd.int .i64) 3 w' w.heap.size (fun k_ => some k_ ≠ (v507 : Value).ownBlock ∧ some k_ ≠ (v511 : Value).ownBlock ∧ some k_ ≠ (.slice (some ad516) t513.length co43 : Value).ownBlock) (.slice Ao32 y502.length co32) y502) ∧ (Kd.R (Kd.int .i64) 3 w' w.heap.size (fun k_ => some k_ ≠ (.slice Ao32 y502.length co32 : Value).ownBlock ∧ some k_ ≠ (v511 : Value).ownBlock ∧ some k_ ≠ (.slice (some ad516) t513.length co43 : Value).ownBlock) v507 y506) ∧ (Kd.R (Kd.int .i64) 3 w' w.heap.size (fun k_ => some k_ ≠ (.slice Ao32 y502.length co32 : Value).ownBlock ∧ some k_ ≠ (v507 : Value).ownBlock ∧ some k_ ≠ (.slice (some ad516) t513.length co43 : Value).ownBlock) v511 y510) ∧ (Kd.R (Kd.int .i64) 3 w' w.heap.size (fun k_ => some k_ ≠ (.slice Ao32 y502.length co32 : Value).ownBlock ∧ some k_ ≠ (v507 : Value).ownBlock ∧ some k_ ≠ (v511 : Value).ownBlock) (.slice (some ad516) t513.length co43) t513) ∧ (w'.heap[gb501]? = some (.cells #[.int .i64 a0_0, .int .i64 a0_1, .int .i64 a0_2] 36 (0, 0))) ∧ (w'.heap[s_]? = some (.cells #[.int .i64 0, .int .i64 0] 60 (0, 0))) ∧ (w.heap.size ≤ s_) ∧ (w.heap.size ≤ s_) ∧ (gb501 ≠ s_) ∧ (s_ ≠ gb501) ∧ (Below w.heap.size w w')) ?_ ?_
            rotate_left
            ·intro hJ9
             refine three_ (i := 7) (j := 8) (k := 9) (Ni := some 39) (Nj := some 9) (Nk := some 10) #[true, true, true, true, true, true, true, true, false, false, false, false, false] #[true, true, true, true, true, true, true, false, true, false, false, false, false] #[true, true, true, true, true, true, true, false, false, true, false, false, false] rfl rfl rfl rfl rfl rfl (three_of HT_.out (by kernel_rfl)) (by decide) (by decide) (by decide) (fun K hK => ?_) (fun K hK => ?_) (fun K hK => ?_)
             ·skip
              refine goes_ Try.func47 (by kernel_rfl) rfl #[.agg #[.int .i64 a0_0, .int .i64 a0_1, .int .i64 a0_2], .agg #[.int .i64 a1, .int .i64 0], .int .i64 (rd t513 0)] (by rfl) rfl rfl (ml_) ?_
              with_reducible refine (impl_marked.calls k a0_0 a0_1 a0_2 a1 0 (rd t513 0) t517 t518 _ A27.out).mono ?_
              rintro e w45 ⟨rfl, hb⟩
              have HS3_ := (hb.cell (World.block_lt_of_cell? _ _ (hHeld.2.2.2))).trans (hHeld.2.2.2)
              refine ⟨_, rfl, ?_⟩
              replace HO504 := Aside0.mk (Kd.R_below (kr_ HO504.out) hb)
              replace HO508 := Aside0.mk (Kd.R_below (kr_ HO508.out) hb)
              replace HO512 := Aside0.mk (Kd.R_below (kr_ HO512.out) hb)
              replace HO515 := Aside0.mk (Kd.R_below (kr_ HO515.out) hb)
              replace BK501 := Aside0.mk (bb_ BK501.out hb)
              replace HB := Aside0.mk (below_step (hb1_ HB.out GE501.out) hb)
              (try clear hb)
              (try clear hb2)
              (try clear hk)
              (try clear hi)
              refine hK.out _ _ ⟨(blk_cell BK501.out 0).trans rfl, (blk_cell BK501.out 1).trans rfl, (blk_cell BK501.out 2).trans rfl, HS3_⟩ (fun hHeld => ?_)
              clear hK K
              refine norm_ (a' := ?_) ?_ ?_
              rotate_left
              ·show Act.put _ (some 39) _ = _
               simp only [Act.put, List.setIfInBounds_toArray, List.set_cons_zero, List.set_cons_succ, i64_w, i32_w]
               rfl
              exact norm_ (by first | (simp only [putAll, Act.put, List.setIfInBounds_toArray, List.set_cons_zero, List.set_cons_succ]; done) | (simp only [putAll, Act.put, List.setIfInBounds_toArray, List.set_cons_zero, List.set_cons_succ]; rfl)) (hJ7 () _ ⟨hHeld, (by (with_reducible repeat (first | apply Kd.R_alloc | apply Kd.R_drewN | apply Kd.R_drew)); exact Kd.R_mono HO504.out (fun _ hk => ⟨hk.1.1, ⟨hk.1.2, hk.2⟩⟩)), (by (with_reducible repeat (first | apply Kd.R_alloc | apply Kd.R_drewN | apply Kd.R_drew)); exact Kd.R_mono HO508.out (fun _ hk => ⟨hk.1.1, ⟨hk.1.2, hk.2⟩⟩)), (by (with_reducible repeat (first | apply Kd.R_alloc | apply Kd.R_drewN | apply Kd.R_drew)); exact Kd.R_mono HO512.out (fun _ hk => ⟨hk.1.1, ⟨hk.1.2, hk.2⟩⟩)), (by (with_reducible repeat (first | apply Kd.R_alloc | apply Kd.R_drewN | apply Kd.R_drew)); exact Kd.R_mono HO515.out (fun _ hk => ⟨hk.1.1.2, ⟨hk.1.2, hk.2⟩⟩)), (bk_ BK501.out), (hb1_ HB.out GE501.out)⟩)
             ·skip
              refine box_step ?hg (N := 9) ?hd (cs := #[.int .i64 0, .int .i64 0]) (t := 60) ?hr ?_; (case hd => rfl); (case hg => rfl); (case hr => first | (go_simp; done) | (go_simp; rfl))
              intro gb519 hg w45 hbox hb
              have HS3_ := (hb.cell (World.block_lt_of_cell? _ _ (hHeld.2.2.2))).trans (hHeld.2.2.2)
              have n0_ := Aside0.mk (Kd.R_below (kr_ HO504.out) hb)
              have n1_ := Aside0.mk (Kd.R_below (kr_ HO508.out) hb)
              have n2_ := Aside0.mk (Kd.R_below (kr_ HO512.out) hb)
              have n3_ := Aside0.mk (Kd.R_below (kr_ HO515.out) hb)
              have n4_ := Aside0.mk (bb_ BK501.out hb)
              have n5_ := Aside0.mk (below_step (hb1_ HB.out GE501.out) hb)
              have n6_ := Aside0.mk (hbox)
              have n7_ := Aside0.mk ((gs_ hg (hb1_ HB.out GE501.out)))
              have n8_ := Aside0.mk ((gs_ hg (hb1_ HB.out GE501.out)))
              have n9_ := Aside0.mk (nl_ hg BK501.out)
              have n10_ := Aside0.mk (nr_ hg BK501.out)
              clear HO504
              clear HO508
              clear HO512
              clear HO515
              clear BK501
              clear HB
              have HO504 := n0_
              have HO508 := n1_
              have HO512 := n2_
              have HO515 := n3_
              have BK501 := n4_
              have HB := n5_
              have BK519 := n6_
              have GW519 := n7_
              have GE519 := n8_
              have NB501_519 := n9_
              have NB519_501 := n10_
              clear n0_ n1_ n2_ n3_ n4_ n5_ n6_ n7_ n8_ n9_ n10_
              clear hb hbox hg
              refine hK.out _ _ ⟨(blk_cell BK501.out 0).trans rfl, (blk_cell BK501.out 1).trans rfl, (blk_cell BK501.out 2).trans rfl, HS3_⟩ (fun hHeld => ?_)
              clear hK K
              refine norm_ (a' := ?_) ?_ ?_
              rotate_left
              ·show Act.put _ (some 9) _ = _
               simp only [Act.put, List.setIfInBounds_toArray, List.set_cons_zero, List.set_cons_succ, i64_w, i32_w]
               rfl
              exact norm_ (by first | (simp only [putAll, Act.put, List.setIfInBounds_toArray, List.set_cons_zero, List.set_cons_succ]; done) | (simp only [putAll, Act.put, List.setIfInBounds_toArray, List.set_cons_zero, List.set_cons_succ]; rfl)) (hJ8 (gb519) _ ⟨hHeld, (by (with_reducible repeat (first | apply Kd.R_alloc | apply Kd.R_drewN | apply Kd.R_drew)); exact Kd.R_mono HO504.out (fun _ hk => ⟨hk.1.1, ⟨hk.1.2, hk.2⟩⟩)), (by (with_reducible repeat (first | apply Kd.R_alloc | apply Kd.R_drewN | apply Kd.R_drew)); exact Kd.R_mono HO508.out (fun _ hk => ⟨hk.1.1, ⟨hk.1.2, hk.2⟩⟩)), (by (with_reducible repeat (first | apply Kd.R_alloc | apply Kd.R_drewN | apply Kd.R_drew)); exact Kd.R_mono HO512.out (fun _ hk => ⟨hk.1.1, ⟨hk.1.2, hk.2⟩⟩)), (by (with_reducible repeat (first | apply Kd.R_alloc | apply Kd.R_drewN | apply Kd.R_drew)); exact Kd.R_mono HO515.out (fun _ hk => ⟨hk.1.1.2, ⟨hk.1.2, hk.2⟩⟩)), (bk_ BK501.out), (bk_ BK519.out), GW519.out, GE519.out, NB501_519.out, NB519_501.out, (hb2_ HB.out GE501.out GE519.out)⟩)
             ·skip
              refine box_step ?hg (N := 10) ?hd (cs := #[.int .i64 0, .int .i64 0]) (t := 60) ?hr ?_; (case hd => rfl); (case hg => rfl); (case hr => first | (go_simp; done) | (go_simp; rfl))
              intro gb520 hg w45 hbox hb
              have HS3_ := (hb.cell (World.block_lt_of_cell? _ _ (hHeld.2.2.2))).trans (hHeld.2.2.2)
              have n0_ := Aside0.mk (Kd.R_below (kr_ HO504.out) hb)
              have n1_ := Aside0.mk (Kd.R_below (kr_ HO508.out) hb)
              have n2_ := Aside0.mk (Kd.R_below (kr_ HO512.out) hb)
              have n3_ := Aside0.mk (Kd.R_below (kr_ HO515.out) hb)
              have n4_ := Aside0.mk (bb_ BK501.out hb)
              have n5_ := Aside0.mk (below_step (hb1_ HB.out GE501.out) hb)
              have n6_ := Aside0.mk (hbox)
              have n7_ := Aside0.mk ((gs_ hg (hb1_ HB.out GE501.out)))
              have n8_ := Aside0.mk ((gs_ hg (hb1_ HB.out GE501.out)))
              have n9_ := Aside0.mk (nl_ hg BK501.out)
              have n10_ := Aside0.mk (nr_ hg BK501.out)
              clear HO504
              clear HO508
              clear HO512
              clear HO515
              clear BK501
              clear HB
              have HO504 := n0_
              have HO508 := n1_
              have HO512 := n2_
              have HO515 := n3_
              have BK501 := n4_
              have HB := n5_
              have BK520 := n6_
              have GW520 := n7_
              have GE520 := n8_
              have NB501_520 := n9_
              have NB520_501 := n10_
              clear n0_ n1_ n2_ n3_ n4_ n5_ n6_ n7_ n8_ n9_ n10_
              clear hb hbox hg
              refine hK.out _ _ ⟨(blk_cell BK501.out 0).trans rfl, (blk_cell BK501.out 1).trans rfl, (blk_cell BK501.out 2).trans rfl, HS3_⟩ (fun hHeld => ?_)
              clear hK K
              refine norm_ (a' := ?_) ?_ ?_
              rotate_left
              ·show Act.put _ (some 10) _ = _
               simp only [Act.put, List.setIfInBounds_toArray, List.set_cons_zero, List.set_cons_succ, i64_w, i32_w]
               rfl
              exact norm_ (by first | (simp only [putAll, Act.put, List.setIfInBounds_toArray, List.set_cons_zero, List.set_cons_succ]; done) | (simp only [putAll, Act.put, List.setIfInBounds_toArray, List.set_cons_zero, List.set_cons_succ]; rfl)) (hJ9 (gb520) _ ⟨hHeld, (by (with_reducible repeat (first | apply Kd.R_alloc | apply Kd.R_drewN | apply Kd.R_drew)); exact Kd.R_mono HO504.out (fun _ hk => ⟨hk.1.1, ⟨hk.1.2, hk.2⟩⟩)), (by (with_reducible repeat (first | apply Kd.R_alloc | apply Kd.R_drewN | apply Kd.R_drew)); exact Kd.R_mono HO508.out (fun _ hk => ⟨hk.1.1, ⟨hk.1.2, hk.2⟩⟩)), (by (with_reducible repeat (first | apply Kd.R_alloc | apply Kd.R_drewN | apply Kd.R_drew)); exact Kd.R_mono HO512.out (fun _ hk => ⟨hk.1.1, ⟨hk.1.2, hk.2⟩⟩)), (by (with_reducible repeat (first | apply Kd.R_alloc | apply Kd.R_drewN | apply Kd.R_drew)); exact Kd.R_mono HO515.out (fun _ hk => ⟨hk.1.1.2, ⟨hk.1.2, hk.2⟩⟩)), (bk_ BK501.out), (bk_ BK520.out), GW520.out, GE520.out, NB501_520.out, NB520_501.out, (hb2_ HB.out GE501.out GE520.out)⟩)
            ·skip
             rintro gb520 w46 ⟨hS_, h0_, h1_, h2_, h3_, h4_, h5_, h6_, h7_, h8_, h9_, h10_⟩
             have n0_ : Aside0 (Kd.R (Kd.int .i64) 3 w46 w.heap.size (fun k_ => some k_ ≠ (v507 : Value).ownBlock ∧ some k_ ≠ (v511 : Value).ownBlock ∧ some k_ ≠ (.slice (some ad516) t513.length co43 : Value).ownBlock) (.slice Ao32 y502.length co32) y502) := ⟨h0_⟩
             have n1_ : Aside0 (Kd.R (Kd.int .i64) 3 w46 w.heap.size (fun k_ => some k_ ≠ (.slice Ao32 y502.length co32 : Value).ownBlock ∧ some k_ ≠ (v511 : Value).ownBlock ∧ some k_ ≠ (.slice (some ad516) t513.length co43 : Value).ownBlock) v507 y506) := ⟨h1_⟩
             have n2_ : Aside0 (Kd.R (Kd.int .i64) 3 w46 w.heap.size (fun k_ => some k_ ≠ (.slice Ao32 y502.length co32 : Value).ownBlock ∧ some k_ ≠ (v507 : Value).ownBlock ∧ some k_ ≠ (.slice (some ad516) t513.length co43 : Value).ownBlock) v511 y510) := ⟨h2_⟩
             have n3_ : Aside0 (Kd.R (Kd.int .i64) 3 w46 w.heap.size (fun k_ => some k_ ≠ (.slice Ao32 y502.length co32 : Value).ownBlock ∧ some k_ ≠ (v507 : Value).ownBlock ∧ some k_ ≠ (v511 : Value).ownBlock) (.slice (some ad516) t513.length co43) t513) := ⟨h3_⟩
             have n4_ : Aside0 (w46.heap[gb501]? = some (.cells #[.int .i64 a0_0, .int .i64 a0_1, .int .i64 a0_2] 36 (0, 0))) := ⟨h4_⟩
             have n5_ : Aside0 (w46.heap[gb520]? = some (.cells #[.int .i64 0, .int .i64 0] 60 (0, 0))) := ⟨h5_⟩
             have n6_ : Aside0 (w.heap.size ≤ gb520) := ⟨h6_⟩
             have n7_ : Aside0 (w.heap.size ≤ gb520) := ⟨h7_⟩
             have n8_ : Aside0 (gb501 ≠ gb520) := ⟨h8_⟩
             have n9_ : Aside0 (gb520 ≠ gb501) := ⟨h9_⟩
             have n10_ : Aside0 (Below w.heap.size w w46) := ⟨h10_⟩
             clear HO504
             clear HO508
             clear HO512
             clear HO515
             clear BK501
             clear HB
             clear h0_ h1_ h2_ h3_ h4_ h5_ h6_ h7_ h8_ h9_ h10_
             have HO504 := n0_
             have HO508 := n1_
             have HO512 := n2_
             have HO515 := n3_
             have BK501 := n4_
             have BK520 := n5_
             have GW520 := n6_
             have GE520 := n7_
             have NB501_520 := n8_
             have NB520_501 := n9_
             have HB := n10_
             clear n0_ n1_ n2_ n3_ n4_ n5_ n6_ n7_ n8_ n9_ n10_
             have hHeld : w46.cell? ⟨gb501, 0, none⟩ = some (.int .i64 a0_0) ∧ w46.cell? ⟨gb501, 1, none⟩ = some (.int .i64 a0_1) ∧ w46.cell? ⟨gb501, 2, none⟩ = some (.int .i64 a0_2) ∧ w46.cell? ad516 = some (.int .i64 (rd t513 0)) := hS_
             refine norm_ (a' := ?_) ?_ ?_
             rotate_left
             ·simp only [putAll, Act.put, List.setIfInBounds_toArray, List.set_cons_zero, List.set_cons_succ]
              rfl
             refine two_ (i := 7) (j := 8) (Ni := some 39) (Nj := some 9) #[true, true, true, true, true, true, true, true, false, true, false, false, false] #[true, true, true, true, true, true, true, false, true, true, false, false, false] rfl rfl rfl rfl (two_of HT_.out (by kernel_rfl)) (by decide) (by decide) (fun K hK => ?_) (fun K hK => ?_)
             ·skip
              refine goes_ Try.func47 (by kernel_rfl) rfl #[.agg #[.int .i64 a0_0, .int .i64 a0_1, .int .i64 a0_2], .agg #[.int .i64 a1, .int .i64 0], .int .i64 (rd t513 0)] (by rfl) rfl rfl (ml_) ?_
              with_reducible refine (impl_marked.calls k a0_0 a0_1 a0_2 a1 0 (rd t513 0) t517 t518 _ A27.out).mono ?_
              rintro e w47 ⟨rfl, hb⟩
              have HS3_ := (hb.cell (World.block_lt_of_cell? _ _ (hHeld.2.2.2))).trans (hHeld.2.2.2)
              refine ⟨_, rfl, ?_⟩
              replace HO504 := Aside0.mk (Kd.R_below (kr_ HO504.out) hb)
              replace HO508 := Aside0.mk (Kd.R_below (kr_ HO508.out) hb)
              replace HO512 := Aside0.mk (Kd.R_below (kr_ HO512.out) hb)
              replace HO515 := Aside0.mk (Kd.R_below (kr_ HO515.out) hb)
              replace BK501 := Aside0.mk (bb_ BK501.out hb)
              replace BK520 := Aside0.mk (bb_ BK520.out hb)
              replace HB := Aside0.mk (below_step (hb2_ HB.out GE501.out GE520.out) hb)
              (try clear hb)
              (try clear hb2)
              (try clear hk)
              (try clear hi)
              refine hK.out _ _ ⟨(blk_cell BK501.out 0).trans rfl, (blk_cell BK501.out 1).trans rfl, (blk_cell BK501.out 2).trans rfl, HS3_⟩ (fun hHeld => ?_)
              clear hK K
              refine norm_ (a' := ?_) ?_ ?_
              rotate_left
              ·show Act.put _ (some 39) _ = _
               simp only [Act.put, List.setIfInBounds_toArray, List.set_cons_zero, List.set_cons_succ, i64_w, i32_w]
               rfl
              exact norm_ (by first | (simp only [putAll, Act.put, List.setIfInBounds_toArray, List.set_cons_zero, List.set_cons_succ]; done) | (simp only [putAll, Act.put, List.setIfInBounds_toArray, List.set_cons_zero, List.set_cons_succ]; rfl)) (hJ7_9 (gb520) _ ⟨hHeld, (kr_ HO504.out), (kr_ HO508.out), (kr_ HO512.out), (kr_ HO515.out), (bk_ BK501.out), (bk_ BK520.out), GW520.out, GE520.out, NB501_520.out, NB520_501.out, (hb2_ HB.out GE501.out GE520.out)⟩)
             ·skip
              refine box_step ?hg (N := 9) ?hd (cs := #[.int .i64 0, .int .i64 0]) (t := 60) ?hr ?_; (case hd => rfl); (case hg => rfl); (case hr => first | (go_simp; done) | (go_simp; rfl))
              intro gb519 hg w47 hbox hb
              have HS3_ := (hb.cell (World.block_lt_of_cell? _ _ (hHeld.2.2.2))).trans (hHeld.2.2.2)
              have n0_ := Aside0.mk (Kd.R_below (kr_ HO504.out) hb)
              have n1_ := Aside0.mk (Kd.R_below (kr_ HO508.out) hb)
              have n2_ := Aside0.mk (Kd.R_below (kr_ HO512.out) hb)
              have n3_ := Aside0.mk (Kd.R_below (kr_ HO515.out) hb)
              have n4_ := Aside0.mk (bb_ BK501.out hb)
              have n5_ := Aside0.mk (bb_ BK520.out hb)
              have n6_ := Aside0.mk (below_step (hb2_ HB.out GE501.out GE520.out) hb)
              have n7_ := Aside0.mk (hbox)
              have n8_ := Aside0.mk ((gs_ hg (hb2_ HB.out GE501.out GE520.out)))
              have n9_ := Aside0.mk ((gs_ hg (hb2_ HB.out GE501.out GE520.out)))
              have n10_ := Aside0.mk (nl_ hg BK501.out)
              have n11_ := Aside0.mk (nr_ hg BK501.out)
              have n12_ := Aside0.mk (nl_ hg BK520.out)
              have n13_ := Aside0.mk (nr_ hg BK520.out)
              clear HO504
              clear HO508
              clear HO512
              clear HO515
              clear BK501
              clear BK520
              clear HB
              have HO504 := n0_
              have HO508 := n1_
              have HO512 := n2_
              have HO515 := n3_
              have BK501 := n4_
              have BK520 := n5_
              have HB := n6_
              have BK519 := n7_
              have GW519 := n8_
              have GE519 := n9_
              have NB501_519 := n10_
              have NB519_501 := n11_
              have NB520_519 := n12_
              have NB519_520 := n13_
              clear n0_ n1_ n2_ n3_ n4_ n5_ n6_ n7_ n8_ n9_ n10_ n11_ n12_ n13_
              clear hb hbox hg
              refine hK.out _ _ ⟨(blk_cell BK501.out 0).trans rfl, (blk_cell BK501.out 1).trans rfl, (blk_cell BK501.out 2).trans rfl, HS3_⟩ (fun hHeld => ?_)
              clear hK K
              refine norm_ (a' := ?_) ?_ ?_
              rotate_left
              ·show Act.put _ (some 9) _ = _
               simp only [Act.put, List.setIfInBounds_toArray, List.set_cons_zero, List.set_cons_succ, i64_w, i32_w]
               rfl
              exact norm_ (by first | (simp only [putAll, Act.put, List.setIfInBounds_toArray, List.set_cons_zero, List.set_cons_succ]; done) | (simp only [putAll, Act.put, List.setIfInBounds_toArray, List.set_cons_zero, List.set_cons_succ]; rfl)) (hJ8_9 (gb519, gb520) _ ⟨hHeld, (kr_ HO504.out), (kr_ HO508.out), (kr_ HO512.out), (kr_ HO515.out), (bk_ BK501.out), (bk_ BK519.out), (bk_ BK520.out), GW519.out, GE519.out, NB501_519.out, NB519_501.out, NB520_519.out, NB519_520.out, GW520.out, GE520.out, NB501_520.out, NB520_501.out, (hb3_ HB.out GE501.out GE520.out GE519.out)⟩)
           ·skip
            rintro gb519 w46 ⟨hS_, h0_, h1_, h2_, h3_, h4_, h5_, h6_, h7_, h8_, h9_, h10_⟩
            have n0_ : Aside0 (Kd.R (Kd.int .i64) 3 w46 w.heap.size (fun k_ => some k_ ≠ (v507 : Value).ownBlock ∧ some k_ ≠ (v511 : Value).ownBlock ∧ some k_ ≠ (.slice (some ad516) t513.length co43 : Value).ownBlock) (.slice Ao32 y502.length co32) y502) := ⟨h0_⟩
            have n1_ : Aside0 (Kd.R (Kd.int .i64) 3 w46 w.heap.size (fun k_ => some k_ ≠ (.slice Ao32 y502.length co32 : Value).ownBlock ∧ some k_ ≠ (v511 : Value).ownBlock ∧ some k_ ≠ (.slice (some ad516) t513.length co43 : Value).ownBlock) v507 y506) := ⟨h1_⟩
            have n2_ : Aside0 (Kd.R (Kd.int .i64) 3 w46 w.heap.size (fun k_ => some k_ ≠ (.slice Ao32 y502.length co32 : Value).ownBlock ∧ some k_ ≠ (v507 : Value).ownBlock ∧ some k_ ≠ (.slice (some ad516) t513.length co43 : Value).ownBlock) v511 y510) := ⟨h2_⟩
            have n3_ : Aside0 (Kd.R (Kd.int .i64) 3 w46 w.heap.size (fun k_ => some k_ ≠ (.slice Ao32 y502.length co32 : Value).ownBlock ∧ some k_ ≠ (v507 : Value).ownBlock ∧ some k_ ≠ (v511 : Value).ownBlock) (.slice (some ad516) t513.length co43) t513) := ⟨h3_⟩
            have n4_ : Aside0 (w46.heap[gb501]? = some (.cells #[.int .i64 a0_0, .int .i64 a0_1, .int .i64 a0_2] 36 (0, 0))) := ⟨h4_⟩
            have n5_ : Aside0 (w46.heap[gb519]? = some (.cells #[.int .i64 0, .int .i64 0] 60 (0, 0))) := ⟨h5_⟩
            have n6_ : Aside0 (w.heap.size ≤ gb519) := ⟨h6_⟩
            have n7_ : Aside0 (w.heap.size ≤ gb519) := ⟨h7_⟩
            have n8_ : Aside0 (gb501 ≠ gb519) := ⟨h8_⟩
            have n9_ : Aside0 (gb519 ≠ gb501) := ⟨h9_⟩
            have n10_ : Aside0 (Below w.heap.size w w46) := ⟨h10_⟩
            clear HO504
            clear HO508
            clear HO512
            clear HO515
            clear BK501
            clear HB
            clear h0_ h1_ h2_ h3_ h4_ h5_ h6_ h7_ h8_ h9_ h10_
            have HO504 := n0_
            have HO508 := n1_
            have HO512 := n2_
            have HO515 := n3_
            have BK501 := n4_
            have BK519 := n5_
            have GW519 := n6_
            have GE519 := n7_
            have NB501_519 := n8_
            have NB519_501 := n9_
            have HB := n10_
            clear n0_ n1_ n2_ n3_ n4_ n5_ n6_ n7_ n8_ n9_ n10_
            have hHeld : w46.cell? ⟨gb501, 0, none⟩ = some (.int .i64 a0_0) ∧ w46.cell? ⟨gb501, 1, none⟩ = some (.int .i64 a0_1) ∧ w46.cell? ⟨gb501, 2, none⟩ = some (.int .i64 a0_2) ∧ w46.cell? ad516 = some (.int .i64 (rd t513 0)) := hS_
            refine norm_ (a' := ?_) ?_ ?_
            rotate_left
            ·simp only [putAll, Act.put, List.setIfInBounds_toArray, List.set_cons_zero, List.set_cons_succ]
             rfl
            refine two_ (i := 7) (j := 9) (Ni := some 39) (Nj := some 10) #[true, true, true, true, true, true, true, true, true, false, false, false, false] #[true, true, true, true, true, true, true, false, true, true, false, false, false] rfl rfl rfl rfl (two_of HT_.out (by kernel_rfl)) (by decide) (by decide) (fun K hK => ?_) (fun K hK => ?_)
            ·skip
             refine goes_ Try.func47 (by kernel_rfl) rfl #[.agg #[.int .i64 a0_0, .int .i64 a0_1, .int .i64 a0_2], .agg #[.int .i64 a1, .int .i64 0], .int .i64 (rd t513 0)] (by rfl) rfl rfl (ml_) ?_
             with_reducible refine (impl_marked.calls k a0_0 a0_1 a0_2 a1 0 (rd t513 0) t517 t518 _ A27.out).mono ?_
             rintro e w47 ⟨rfl, hb⟩
             have HS3_ := (hb.cell (World.block_lt_of_cell? _ _ (hHeld.2.2.2))).trans (hHeld.2.2.2)
             refine ⟨_, rfl, ?_⟩
             replace HO504 := Aside0.mk (Kd.R_below (kr_ HO504.out) hb)
             replace HO508 := Aside0.mk (Kd.R_below (kr_ HO508.out) hb)
             replace HO512 := Aside0.mk (Kd.R_below (kr_ HO512.out) hb)
             replace HO515 := Aside0.mk (Kd.R_below (kr_ HO515.out) hb)
             replace BK501 := Aside0.mk (bb_ BK501.out hb)
             replace BK519 := Aside0.mk (bb_ BK519.out hb)
             replace HB := Aside0.mk (below_step (hb2_ HB.out GE501.out GE519.out) hb)
             (try clear hb)
             (try clear hb2)
             (try clear hk)
             (try clear hi)
             refine hK.out _ _ ⟨(blk_cell BK501.out 0).trans rfl, (blk_cell BK501.out 1).trans rfl, (blk_cell BK501.out 2).trans rfl, HS3_⟩ (fun hHeld => ?_)
             clear hK K
             refine norm_ (a' := ?_) ?_ ?_
             rotate_left
             ·show Act.put _ (some 39) _ = _
              simp only [Act.put, List.setIfInBounds_toArray, List.set_cons_zero, List.set_cons_succ, i64_w, i32_w]
              rfl
             exact norm_ (by first | (simp only [putAll, Act.put, List.setIfInBounds_toArray, List.set_cons_zero, List.set_cons_succ]; done) | (simp only [putAll, Act.put, List.setIfInBounds_toArray, List.set_cons_zero, List.set_cons_succ]; rfl)) (hJ7_8 (gb519) _ ⟨hHeld, (kr_ HO504.out), (kr_ HO508.out), (kr_ HO512.out), (kr_ HO515.out), (bk_ BK501.out), (bk_ BK519.out), GW519.out, GE519.out, NB501_519.out, NB519_501.out, (hb2_ HB.out GE501.out GE519.out)⟩)
            ·skip
             refine box_step ?hg (N := 10) ?hd (cs := #[.int .i64 0, .int .i64 0]) (t := 60) ?hr ?_; (case hd => rfl); (case hg => rfl); (case hr => first | (go_simp; done) | (go_simp; rfl))
             intro gb520 hg w47 hbox hb
             have HS3_ := (hb.cell (World.block_lt_of_cell? _ _ (hHeld.2.2.2))).trans (hHeld.2.2.2)
             have n0_ := Aside0.mk (Kd.R_below (kr_ HO504.out) hb)
             have n1_ := Aside0.mk (Kd.R_below (kr_ HO508.out) hb)
             have n2_ := Aside0.mk (Kd.R_below (kr_ HO512.out) hb)
             have n3_ := Aside0.mk (Kd.R_below (kr_ HO515.out) hb)
             have n4_ := Aside0.mk (bb_ BK501.out hb)
             have n5_ := Aside0.mk (bb_ BK519.out hb)
             have n6_ := Aside0.mk (below_step (hb2_ HB.out GE501.out GE519.out) hb)
             have n7_ := Aside0.mk (hbox)
             have n8_ := Aside0.mk ((gs_ hg (hb2_ HB.out GE501.out GE519.out)))
             have n9_ := Aside0.mk ((gs_ hg (hb2_ HB.out GE501.out GE519.out)))
             have n10_ := Aside0.mk (nl_ hg BK501.out)
             have n11_ := Aside0.mk (nr_ hg BK501.out)
             have n12_ := Aside0.mk (nl_ hg BK519.out)
             have n13_ := Aside0.mk (nr_ hg BK519.out)
             clear HO504
             clear HO508
             clear HO512
             clear HO515
             clear BK501
             clear BK519
             clear HB
             have HO504 := n0_
             have HO508 := n1_
             have HO512 := n2_
             have HO515 := n3_
             have BK501 := n4_
             have BK519 := n5_
             have HB := n6_
             have BK520 := n7_
             have GW520 := n8_
             have GE520 := n9_
             have NB501_520 := n10_
             have NB520_501 := n11_
             have NB519_520 := n12_
             have NB520_519 := n13_
             clear n0_ n1_ n2_ n3_ n4_ n5_ n6_ n7_ n8_ n9_ n10_ n11_ n12_ n13_
             clear hb hbox hg
             refine hK.out _ _ ⟨(blk_cell BK501.out 0).trans rfl, (blk_cell BK501.out 1).trans rfl, (blk_cell BK501.out 2).trans rfl, HS3_⟩ (fun hHeld => ?_)
             clear hK K
             refine norm_ (a' := ?_) ?_ ?_
             rotate_left
             ·show Act.put _ (some 10) _ = _
              simp only [Act.put, List.setIfInBounds_toArray, List.set_cons_zero, List.set_cons_succ, i64_w, i32_w]
              rfl
             exact norm_ (by first | (simp only [putAll, Act.put, List.setIfInBounds_toArray, List.set_cons_zero, List.set_cons_succ]; done) | (simp only [putAll, Act.put, List.setIfInBounds_toArray, List.set_cons_zero, List.set_cons_succ]; rfl)) (hJ8_9 (gb519, gb520) _ ⟨hHeld, (kr_ HO504.out), (kr_ HO508.out), (kr_ HO512.out), (kr_ HO515.out), (bk_ BK501.out), (bk_ BK519.out), (bk_ BK520.out), GW519.out, GE519.out, NB501_519.out, NB519_501.out, NB520_519.out, NB519_520.out, GW520.out, GE520.out, NB501_520.out, NB520_501.out, (hb3_ HB.out GE501.out GE519.out GE520.out)⟩)
          ·skip
           rintro _ w46 ⟨hS_, h0_, h1_, h2_, h3_, h4_, h5_⟩
           have n0_ : Aside0 (Kd.R (Kd.int .i64) 3 w46 w.heap.size (fun k_ => some k_ ≠ (v507 : Value).ownBlock ∧ some k_ ≠ (v511 : Value).ownBlock ∧ some k_ ≠ (.slice (some ad516) t513.length co43 : Value).ownBlock) (.slice Ao32 y502.length co32) y502) := ⟨h0_⟩
           have n1_ : Aside0 (Kd.R (Kd.int .i64) 3 w46 w.heap.size (fun k_ => some k_ ≠ (.slice Ao32 y502.length co32 : Value).ownBlock ∧ some k_ ≠ (v511 : Value).ownBlock ∧ some k_ ≠ (.slice (some ad516) t513.length co43 : Value).ownBlock) v507 y506) := ⟨h1_⟩
           have n2_ : Aside0 (Kd.R (Kd.int .i64) 3 w46 w.heap.size (fun k_ => some k_ ≠ (.slice Ao32 y502.length co32 : Value).ownBlock ∧ some k_ ≠ (v507 : Value).ownBlock ∧ some k_ ≠ (.slice (some ad516) t513.length co43 : Value).ownBlock) v511 y510) := ⟨h2_⟩
           have n3_ : Aside0 (Kd.R (Kd.int .i64) 3 w46 w.heap.size (fun k_ => some k_ ≠ (.slice Ao32 y502.length co32 : Value).ownBlock ∧ some k_ ≠ (v507 : Value).ownBlock ∧ some k_ ≠ (v511 : Value).ownBlock) (.slice (some ad516) t513.length co43) t513) := ⟨h3_⟩
           have n4_ : Aside0 (w46.heap[gb501]? = some (.cells #[.int .i64 a0_0, .int .i64 a0_1, .int .i64 a0_2] 36 (0, 0))) := ⟨h4_⟩
           have n5_ : Aside0 (Below w.heap.size w w46) := ⟨h5_⟩
           clear HO504
           clear HO508
           clear HO512
           clear HO515
           clear BK501
           clear HB
           clear h0_ h1_ h2_ h3_ h4_ h5_
           have HO504 := n0_
           have HO508 := n1_
           have HO512 := n2_
           have HO515 := n3_
           have BK501 := n4_
           have HB := n5_
           clear n0_ n1_ n2_ n3_ n4_ n5_
           have hHeld : w46.cell? ⟨gb501, 0, none⟩ = some (.int .i64 a0_0) ∧ w46.cell? ⟨gb501, 1, none⟩ = some (.int .i64 a0_1) ∧ w46.cell? ⟨gb501, 2, none⟩ = some (.int .i64 a0_2) ∧ w46.cell? ad516 = some (.int .i64 (rd t513 0)) := hS_
           refine norm_ (a' := ?_) ?_ ?_
           rotate_left
           ·simp only [putAll, Act.put, List.setIfInBounds_toArray, List.set_cons_zero, List.set_cons_succ]
            rfl
           refine two_ (i := 8) (j := 9) (Ni := some 9) (Nj := some 10) #[true, true, true, true, true, true, true, true, true, false, false, false, false] #[true, true, true, true, true, true, true, true, false, true, false, false, false] rfl rfl rfl rfl (two_of HT_.out (by kernel_rfl)) (by decide) (by decide) (fun K hK => ?_) (fun K hK => ?_)
           ·skip
            refine box_step ?hg (N := 9) ?hd (cs := #[.int .i64 0, .int .i64 0]) (t := 60) ?hr ?_; (case hd => rfl); (case hg => rfl); (case hr => first | (go_simp; done) | (go_simp; rfl))
            intro gb519 hg w47 hbox hb
            have HS3_ := (hb.cell (World.block_lt_of_cell? _ _ (hHeld.2.2.2))).trans (hHeld.2.2.2)
            have n0_ := Aside0.mk (Kd.R_below (kr_ HO504.out) hb)
            have n1_ := Aside0.mk (Kd.R_below (kr_ HO508.out) hb)
            have n2_ := Aside0.mk (Kd.R_below (kr_ HO512.out) hb)
            have n3_ := Aside0.mk (Kd.R_below (kr_ HO515.out) hb)
            have n4_ := Aside0.mk (bb_ BK501.out hb)
            have n5_ := Aside0.mk (below_step (hb1_ HB.out GE501.out) hb)
            have n6_ := Aside0.mk (hbox)
            have n7_ := Aside0.mk ((gs_ hg (hb1_ HB.out GE501.out)))
            have n8_ := Aside0.mk ((gs_ hg (hb1_ HB.out GE501.out)))
            have n9_ := Aside0.mk (nl_ hg BK501.out)
            have n10_ := Aside0.mk (nr_ hg BK501.out)
            clear HO504
            clear HO508
            clear HO512
            clear HO515
            clear BK501
            clear HB
            have HO504 := n0_
            have HO508 := n1_
            have HO512 := n2_
            have HO515 := n3_
            have BK501 := n4_
            have HB := n5_
            have BK519 := n6_
            have GW519 := n7_
            have GE519 := n8_
            have NB501_519 := n9_
            have NB519_501 := n10_
            clear n0_ n1_ n2_ n3_ n4_ n5_ n6_ n7_ n8_ n9_ n10_
            clear hb hbox hg
            refine hK.out _ _ ⟨(blk_cell BK501.out 0).trans rfl, (blk_cell BK501.out 1).trans rfl, (blk_cell BK501.out 2).trans rfl, HS3_⟩ (fun hHeld => ?_)
            clear hK K
            refine norm_ (a' := ?_) ?_ ?_
            rotate_left
            ·show Act.put _ (some 9) _ = _
             simp only [Act.put, List.setIfInBounds_toArray, List.set_cons_zero, List.set_cons_succ, i64_w, i32_w]
             rfl
            exact norm_ (by first | (simp only [putAll, Act.put, List.setIfInBounds_toArray, List.set_cons_zero, List.set_cons_succ]; done) | (simp only [putAll, Act.put, List.setIfInBounds_toArray, List.set_cons_zero, List.set_cons_succ]; rfl)) (hJ7_8 (gb519) _ ⟨hHeld, (kr_ HO504.out), (kr_ HO508.out), (kr_ HO512.out), (kr_ HO515.out), (bk_ BK501.out), (bk_ BK519.out), GW519.out, GE519.out, NB501_519.out, NB519_501.out, (hb2_ HB.out GE501.out GE519.out)⟩)
           ·skip
            refine box_step ?hg (N := 10) ?hd (cs := #[.int .i64 0, .int .i64 0]) (t := 60) ?hr ?_; (case hd => rfl); (case hg => rfl); (case hr => first | (go_simp; done) | (go_simp; rfl))
            intro gb520 hg w47 hbox hb
            have HS3_ := (hb.cell (World.block_lt_of_cell? _ _ (hHeld.2.2.2))).trans (hHeld.2.2.2)
            have n0_ := Aside0.mk (Kd.R_below (kr_ HO504.out) hb)
            have n1_ := Aside0.mk (Kd.R_below (kr_ HO508.out) hb)
            have n2_ := Aside0.mk (Kd.R_below (kr_ HO512.out) hb)
            have n3_ := Aside0.mk (Kd.R_below (kr_ HO515.out) hb)
            have n4_ := Aside0.mk (bb_ BK501.out hb)
            have n5_ := Aside0.mk (below_step (hb1_ HB.out GE501.out) hb)
            have n6_ := Aside0.mk (hbox)
            have n7_ := Aside0.mk ((gs_ hg (hb1_ HB.out GE501.out)))
            have n8_ := Aside0.mk ((gs_ hg (hb1_ HB.out GE501.out)))
            have n9_ := Aside0.mk (nl_ hg BK501.out)
            have n10_ := Aside0.mk (nr_ hg BK501.out)
            clear HO504
            clear HO508
            clear HO512
            clear HO515
            clear BK501
            clear HB
            have HO504 := n0_
            have HO508 := n1_
            have HO512 := n2_
            have HO515 := n3_
            have BK501 := n4_
            have HB := n5_
            have BK520 := n6_
            have GW520 := n7_
            have GE520 := n8_
            have NB501_520 := n9_
            have NB520_501 := n10_
            clear n0_ n1_ n2_ n3_ n4_ n5_ n6_ n7_ n8_ n9_ n10_
            clear hb hbox hg
            refine hK.out _ _ ⟨(blk_cell BK501.out 0).trans rfl, (blk_cell BK501.out 1).trans rfl, (blk_cell BK501.out 2).trans rfl, HS3_⟩ (fun hHeld => ?_)
            clear hK K
            refine norm_ (a' := ?_) ?_ ?_
            rotate_left
            ·show Act.put _ (some 10) _ = _
             simp only [Act.put, List.setIfInBounds_toArray, List.set_cons_zero, List.set_cons_succ, i64_w, i32_w]
             rfl
            exact norm_ (by first | (simp only [putAll, Act.put, List.setIfInBounds_toArray, List.set_cons_zero, List.set_cons_succ]; done) | (simp only [putAll, Act.put, List.setIfInBounds_toArray, List.set_cons_zero, List.set_cons_succ]; rfl)) (hJ7_9 (gb520) _ ⟨hHeld, (kr_ HO504.out), (kr_ HO508.out), (kr_ HO512.out), (kr_ HO515.out), (bk_ BK501.out), (bk_ BK520.out), GW520.out, GE520.out, NB501_520.out, NB520_501.out, (hb2_ HB.out GE501.out GE520.out)⟩)
         ·skip
          rintro ⟨gb519, gb520⟩ w47 ⟨hS_, h0_, h1_, h2_, h3_, h4_, h5_, h6_, h7_, h8_, h9_, h10_, h11_, h12_, h13_, h14_, h15_, h16_, h17_⟩
          have n0_ : Aside0 (Kd.R (Kd.int .i64) 3 w47 w.heap.size (fun k_ => some k_ ≠ (v507 : Value).ownBlock ∧ some k_ ≠ (v511 : Value).ownBlock ∧ some k_ ≠ (.slice (some ad516) t513.length co43 : Value).ownBlock) (.slice Ao32 y502.length co32) y502) := ⟨h0_⟩
          have n1_ : Aside0 (Kd.R (Kd.int .i64) 3 w47 w.heap.size (fun k_ => some k_ ≠ (.slice Ao32 y502.length co32 : Value).ownBlock ∧ some k_ ≠ (v511 : Value).ownBlock ∧ some k_ ≠ (.slice (some ad516) t513.length co43 : Value).ownBlock) v507 y506) := ⟨h1_⟩
          have n2_ : Aside0 (Kd.R (Kd.int .i64) 3 w47 w.heap.size (fun k_ => some k_ ≠ (.slice Ao32 y502.length co32 : Value).ownBlock ∧ some k_ ≠ (v507 : Value).ownBlock ∧ some k_ ≠ (.slice (some ad516) t513.length co43 : Value).ownBlock) v511 y510) := ⟨h2_⟩
          have n3_ : Aside0 (Kd.R (Kd.int .i64) 3 w47 w.heap.size (fun k_ => some k_ ≠ (.slice Ao32 y502.length co32 : Value).ownBlock ∧ some k_ ≠ (v507 : Value).ownBlock ∧ some k_ ≠ (v511 : Value).ownBlock) (.slice (some ad516) t513.length co43) t513) := ⟨h3_⟩
          have n4_ : Aside0 (w47.heap[gb501]? = some (.cells #[.int .i64 a0_0, .int .i64 a0_1, .int .i64 a0_2] 36 (0, 0))) := ⟨h4_⟩
          have n5_ : Aside0 (w47.heap[gb519]? = some (.cells #[.int .i64 0, .int .i64 0] 60 (0, 0))) := ⟨h5_⟩
          have n6_ : Aside0 (w47.heap[gb520]? = some (.cells #[.int .i64 0, .int .i64 0] 60 (0, 0))) := ⟨h6_⟩
          have n7_ : Aside0 (w.heap.size ≤ gb519) := ⟨h7_⟩
          have n8_ : Aside0 (w.heap.size ≤ gb519) := ⟨h8_⟩
          have n9_ : Aside0 (gb501 ≠ gb519) := ⟨h9_⟩
          have n10_ : Aside0 (gb519 ≠ gb501) := ⟨h10_⟩
          have n11_ : Aside0 (gb520 ≠ gb519) := ⟨h11_⟩
          have n12_ : Aside0 (gb519 ≠ gb520) := ⟨h12_⟩
          have n13_ : Aside0 (w.heap.size ≤ gb520) := ⟨h13_⟩
          have n14_ : Aside0 (w.heap.size ≤ gb520) := ⟨h14_⟩
          have n15_ : Aside0 (gb501 ≠ gb520) := ⟨h15_⟩
          have n16_ : Aside0 (gb520 ≠ gb501) := ⟨h16_⟩
          have n17_ : Aside0 (Below w.heap.size w w47) := ⟨h17_⟩
          clear HO504
          clear HO508
          clear HO512
          clear HO515
          clear BK501
          clear HB
          clear h0_ h1_ h2_ h3_ h4_ h5_ h6_ h7_ h8_ h9_ h10_ h11_ h12_ h13_ h14_ h15_ h16_ h17_
          have HO504 := n0_
          have HO508 := n1_
          have HO512 := n2_
          have HO515 := n3_
          have BK501 := n4_
          have BK519 := n5_
          have BK520 := n6_
          have GW519 := n7_
          have GE519 := n8_
          have NB501_519 := n9_
          have NB519_501 := n10_
          have NB520_519 := n11_
          have NB519_520 := n12_
          have GW520 := n13_
          have GE520 := n14_
          have NB501_520 := n15_
          have NB520_501 := n16_
          have HB := n17_
          clear n0_ n1_ n2_ n3_ n4_ n5_ n6_ n7_ n8_ n9_ n10_ n11_ n12_ n13_ n14_ n15_ n16_ n17_
          have hHeld : w47.cell? ⟨gb501, 0, none⟩ = some (.int .i64 a0_0) ∧ w47.cell? ⟨gb501, 1, none⟩ = some (.int .i64 a0_1) ∧ w47.cell? ⟨gb501, 2, none⟩ = some (.int .i64 a0_2) ∧ w47.cell? ad516 = some (.int .i64 (rd t513 0)) := hS_
          refine norm_ (a' := ?_) ?_ ?_
          rotate_left
          ·simp only [putAll, Act.put, List.setIfInBounds_toArray, List.set_cons_zero, List.set_cons_succ]
           rfl
          refine ov_ (i := 7) (N := some 39) HT_.out (fun K hK => ?_)
          refine goes_ Try.func47 (by kernel_rfl) rfl #[.agg #[.int .i64 a0_0, .int .i64 a0_1, .int .i64 a0_2], .agg #[.int .i64 a1, .int .i64 0], .int .i64 (rd t513 0)] (by rfl) rfl rfl (ml_) ?_
          with_reducible refine (impl_marked.calls k a0_0 a0_1 a0_2 a1 0 (rd t513 0) t517 t518 _ A27.out).mono ?_
          rintro e w48 ⟨rfl, hb⟩
          have HS3_ := (hb.cell (World.block_lt_of_cell? _ _ (hHeld.2.2.2))).trans (hHeld.2.2.2)
          refine ⟨_, rfl, ?_⟩
          replace HO504 := Aside0.mk (Kd.R_below (kr_ HO504.out) hb)
          replace HO508 := Aside0.mk (Kd.R_below (kr_ HO508.out) hb)
          replace HO512 := Aside0.mk (Kd.R_below (kr_ HO512.out) hb)
          replace HO515 := Aside0.mk (Kd.R_below (kr_ HO515.out) hb)
          replace BK501 := Aside0.mk (bb_ BK501.out hb)
          replace BK519 := Aside0.mk (bb_ BK519.out hb)
          replace BK520 := Aside0.mk (bb_ BK520.out hb)
          replace HB := Aside0.mk (below_step (hb3_ HB.out GE501.out GE519.out GE520.out) hb)
          (try clear hb)
          (try clear hb2)
          (try clear hk)
          (try clear hi)
          refine hK.out _ _ ⟨(blk_cell BK501.out 0).trans rfl, (blk_cell BK501.out 1).trans rfl, (blk_cell BK501.out 2).trans rfl, HS3_⟩ (fun hHeld => ?_)
          clear hK K
          refine norm_ (a' := ?_) ?_ ?_
          rotate_left
          ·show Act.put _ (some 39) _ = _
           simp only [Act.put, List.setIfInBounds_toArray, List.set_cons_zero, List.set_cons_succ, i64_w, i32_w]
           rfl
          exact norm_ (by first | (simp only [putAll, Act.put, List.setIfInBounds_toArray, List.set_cons_zero, List.set_cons_succ]; done) | (simp only [putAll, Act.put, List.setIfInBounds_toArray, List.set_cons_zero, List.set_cons_succ]; rfl)) (hJ7_8_9 (gb519, gb520) _ ⟨hHeld, (kr_ HO504.out), (kr_ HO508.out), (kr_ HO512.out), (kr_ HO515.out), (bk_ BK501.out), (bk_ BK519.out), (bk_ BK520.out), GW519.out, GE519.out, NB501_519.out, NB519_501.out, NB520_519.out, NB519_520.out, GW520.out, GE520.out, NB501_520.out, NB520_501.out, (hb3_ HB.out GE501.out GE519.out GE520.out)⟩)
        ·skip
         rintro gb520 w47 ⟨hS_, h0_, h1_, h2_, h3_, h4_, h5_, h6_, h7_, h8_, h9_, h10_⟩
         have n0_ : Aside0 (Kd.R (Kd.int .i64) 3 w47 w.heap.size (fun k_ => some k_ ≠ (v507 : Value).ownBlock ∧ some k_ ≠ (v511 : Value).ownBlock ∧ some k_ ≠ (.slice (some ad516) t513.length co43 : Value).ownBlock) (.slice Ao32 y502.length co32) y502) := ⟨h0_⟩
         have n1_ : Aside0 (Kd.R (Kd.int .i64) 3 w47 w.heap.size (fun k_ => some k_ ≠ (.slice Ao32 y502.length co32 : Value).ownBlock ∧ some k_ ≠ (v511 : Value).ownBlock ∧ some k_ ≠ (.slice (some ad516) t513.length co43 : Value).ownBlock) v507 y506) := ⟨h1_⟩
         have n2_ : Aside0 (Kd.R (Kd.int .i64) 3 w47 w.heap.size (fun k_ => some k_ ≠ (.slice Ao32 y502.length co32 : Value).ownBlock ∧ some k_ ≠ (v507 : Value).ownBlock ∧ some k_ ≠ (.slice (some ad516) t513.length co43 : Value).ownBlock) v511 y510) := ⟨h2_⟩
         have n3_ : Aside0 (Kd.R (Kd.int .i64) 3 w47 w.heap.size (fun k_ => some k_ ≠ (.slice Ao32 y502.length co32 : Value).ownBlock ∧ some k_ ≠ (v507 : Value).ownBlock ∧ some k_ ≠ (v511 : Value).ownBlock) (.slice (some ad516) t513.length co43) t513) := ⟨h3_⟩
         have n4_ : Aside0 (w47.heap[gb501]? = some (.cells #[.int .i64 a0_0, .int .i64 a0_1, .int .i64 a0_2] 36 (0, 0))) := ⟨h4_⟩
         have n5_ : Aside0 (w47.heap[gb520]? = some (.cells #[.int .i64 0, .int .i64 0] 60 (0, 0))) := ⟨h5_⟩
         have n6_ : Aside0 (w.heap.size ≤ gb520) := ⟨h6_⟩
         have n7_ : Aside0 (w.heap.size ≤ gb520) := ⟨h7_⟩
         have n8_ : Aside0 (gb501 ≠ gb520) := ⟨h8_⟩
         have n9_ : Aside0 (gb520 ≠ gb501) := ⟨h9_⟩
         have n10_ : Aside0 (Below w.heap.size w w47) := ⟨h10_⟩
         clear HO504
         clear HO508
         clear HO512
         clear HO515
         clear BK501
         clear HB
         clear h0_ h1_ h2_ h3_ h4_ h5_ h6_ h7_ h8_ h9_ h10_
         have HO504 := n0_
         have HO508 := n1_
         have HO512 := n2_
         have HO515 := n3_
         have BK501 := n4_
         have BK520 := n5_
         have GW520 := n6_
         have GE520 := n7_
         have NB501_520 := n8_
         have NB520_501 := n9_
         have HB := n10_
         clear n0_ n1_ n2_ n3_ n4_ n5_ n6_ n7_ n8_ n9_ n10_
         have hHeld : w47.cell? ⟨gb501, 0, none⟩ = some (.int .i64 a0_0) ∧ w47.cell? ⟨gb501, 1, none⟩ = some (.int .i64 a0_1) ∧ w47.cell? ⟨gb501, 2, none⟩ = some (.int .i64 a0_2) ∧ w47.cell? ad516 = some (.int .i64 (rd t513 0)) := hS_
         refine norm_ (a' := ?_) ?_ ?_
         rotate_left
         ·simp only [putAll, Act.put, List.setIfInBounds_toArray, List.set_cons_zero, List.set_cons_succ]
          rfl
         refine ov_ (i := 8) (N := some 9) HT_.out (fun K hK => ?_)
         refine box_step ?hg (N := 9) ?hd (cs := #[.int .i64 0, .int .i64 0]) (t := 60) ?hr ?_; (case hd => rfl); (case hg => rfl); (case hr => first | (go_simp; done) | (go_simp; rfl))
         intro gb519 hg w48 hbox hb
         have HS3_ := (hb.cell (World.block_lt_of_cell? _ _ (hHeld.2.2.2))).trans (hHeld.2.2.2)
         have n0_ := Aside0.mk (Kd.R_below (kr_ HO504.out) hb)
         have n1_ := Aside0.mk (Kd.R_below (kr_ HO508.out) hb)
         have n2_ := Aside0.mk (Kd.R_below (kr_ HO512.out) hb)
         have n3_ := Aside0.mk (Kd.R_below (kr_ HO515.out) hb)
         have n4_ := Aside0.mk (bb_ BK501.out hb)
         have n5_ := Aside0.mk (bb_ BK520.out hb)
         have n6_ := Aside0.mk (below_step (hb2_ HB.out GE501.out GE520.out) hb)
         have n7_ := Aside0.mk (hbox)
         have n8_ := Aside0.mk ((gs_ hg (hb2_ HB.out GE501.out GE520.out)))
         have n9_ := Aside0.mk ((gs_ hg (hb2_ HB.out GE501.out GE520.out)))
         have n10_ := Aside0.mk (nl_ hg BK501.out)
         have n11_ := Aside0.mk (nr_ hg BK501.out)
         have n12_ := Aside0.mk (nl_ hg BK520.out)
         have n13_ := Aside0.mk (nr_ hg BK520.out)
         clear HO504
         clear HO508
         clear HO512
         clear HO515
         clear BK501
         clear BK520
         clear HB
         have HO504 := n0_
         have HO508 := n1_
         have HO512 := n2_
         have HO515 := n3_
         have BK501 := n4_
         have BK520 := n5_
         have HB := n6_
         have BK519 := n7_
         have GW519 := n8_
         have GE519 := n9_
         have NB501_519 := n10_
         have NB519_501 := n11_
         have NB520_519 := n12_
         have NB519_520 := n13_
         clear n0_ n1_ n2_ n3_ n4_ n5_ n6_ n7_ n8_ n9_ n10_ n11_ n12_ n13_
         clear hb hbox hg
         refine hK.out _ _ ⟨(blk_cell BK501.out 0).trans rfl, (blk_cell BK501.out 1).trans rfl, (blk_cell BK501.out 2).trans rfl, HS3_⟩ (fun hHeld => ?_)
         clear hK K
         refine norm_ (a' := ?_) ?_ ?_
         rotate_left
         ·show Act.put _ (some 9) _ = _
          simp only [Act.put, List.setIfInBounds_toArray, List.set_cons_zero, List.set_cons_succ, i64_w, i32_w]
          rfl
         exact norm_ (by first | (simp only [putAll, Act.put, List.setIfInBounds_toArray, List.set_cons_zero, List.set_cons_succ]; done) | (simp only [putAll, Act.put, List.setIfInBounds_toArray, List.set_cons_zero, List.set_cons_succ]; rfl)) (hJ7_8_9 (gb519, gb520) _ ⟨hHeld, (kr_ HO504.out), (kr_ HO508.out), (kr_ HO512.out), (kr_ HO515.out), (bk_ BK501.out), (bk_ BK519.out), (bk_ BK520.out), GW519.out, GE519.out, NB501_519.out, NB519_501.out, NB520_519.out, NB519_520.out, GW520.out, GE520.out, NB501_520.out, NB520_501.out, (hb3_ HB.out GE501.out GE520.out GE519.out)⟩)
       ·skip
        rintro gb519 w47 ⟨hS_, h0_, h1_, h2_, h3_, h4_, h5_, h6_, h7_, h8_, h9_, h10_⟩
        have n0_ : Aside0 (Kd.R (Kd.int .i64) 3 w47 w.heap.size (fun k_ => some k_ ≠ (v507 : Value).ownBlock ∧ some k_ ≠ (v511 : Value).ownBlock ∧ some k_ ≠ (.slice (some ad516) t513.length co43 : Value).ownBlock) (.slice Ao32 y502.length co32) y502) := ⟨h0_⟩
        have n1_ : Aside0 (Kd.R (Kd.int .i64) 3 w47 w.heap.size (fun k_ => some k_ ≠ (.slice Ao32 y502.length co32 : Value).ownBlock ∧ some k_ ≠ (v511 : Value).ownBlock ∧ some k_ ≠ (.slice (some ad516) t513.length co43 : Value).ownBlock) v507 y506) := ⟨h1_⟩
        have n2_ : Aside0 (Kd.R (Kd.int .i64) 3 w47 w.heap.size (fun k_ => some k_ ≠ (.slice Ao32 y502.length co32 : Value).ownBlock ∧ some k_ ≠ (v507 : Value).ownBlock ∧ some k_ ≠ (.slice (some ad516) t513.length co43 : Value).ownBlock) v511 y510) := ⟨h2_⟩
        have n3_ : Aside0 (Kd.R (Kd.int .i64) 3 w47 w.heap.size (fun k_ => some k_ ≠ (.slice Ao32 y502.length co32 : Value).ownBlock ∧ some k_ ≠ (v507 : Value).ownBlock ∧ some k_ ≠ (v511 : Value).ownBlock) (.slice (some ad516) t513.length co43) t513) := ⟨h3_⟩
        have n4_ : Aside0 (w47.heap[gb501]? = some (.cells #[.int .i64 a0_0, .int .i64 a0_1, .int .i64 a0_2] 36 (0, 0))) := ⟨h4_⟩
        have n5_ : Aside0 (w47.heap[gb519]? = some (.cells #[.int .i64 0, .int .i64 0] 60 (0, 0))) := ⟨h5_⟩
        have n6_ : Aside0 (w.heap.size ≤ gb519) := ⟨h6_⟩
        have n7_ : Aside0 (w.heap.size ≤ gb519) := ⟨h7_⟩
        have n8_ : Aside0 (gb501 ≠ gb519) := ⟨h8_⟩
        have n9_ : Aside0 (gb519 ≠ gb501) := ⟨h9_⟩
        have n10_ : Aside0 (Below w.heap.size w w47) := ⟨h10_⟩
        clear HO504
        clear HO508
        clear HO512
        clear HO515
        clear BK501
        clear HB
        clear h0_ h1_ h2_ h3_ h4_ h5_ h6_ h7_ h8_ h9_ h10_
        have HO504 := n0_
        have HO508 := n1_
        have HO512 := n2_
        have HO515 := n3_
        have BK501 := n4_
        have BK519 := n5_
        have GW519 := n6_
        have GE519 := n7_
        have NB501_519 := n8_
        have NB519_501 := n9_
        have HB := n10_
        clear n0_ n1_ n2_ n3_ n4_ n5_ n6_ n7_ n8_ n9_ n10_
        have hHeld : w47.cell? ⟨gb501, 0, none⟩ = some (.int .i64 a0_0) ∧ w47.cell? ⟨gb501, 1, none⟩ = some (.int .i64 a0_1) ∧ w47.cell? ⟨gb501, 2, none⟩ = some (.int .i64 a0_2) ∧ w47.cell? ad516 = some (.int .i64 (rd t513 0)) := hS_
        refine norm_ (a' := ?_) ?_ ?_
        rotate_left
        ·simp only [putAll, Act.put, List.setIfInBounds_toArray, List.set_cons_zero, List.set_cons_succ]
         rfl
        refine ov_ (i := 9) (N := some 10) HT_.out (fun K hK => ?_)
        refine box_step ?hg (N := 10) ?hd (cs := #[.int .i64 0, .int .i64 0]) (t := 60) ?hr ?_; (case hd => rfl); (case hg => rfl); (case hr => first | (go_simp; done) | (go_simp; rfl))
        intro gb520 hg w48 hbox hb
        have HS3_ := (hb.cell (World.block_lt_of_cell? _ _ (hHeld.2.2.2))).trans (hHeld.2.2.2)
        have n0_ := Aside0.mk (Kd.R_below (kr_ HO504.out) hb)
        have n1_ := Aside0.mk (Kd.R_below (kr_ HO508.out) hb)
        have n2_ := Aside0.mk (Kd.R_below (kr_ HO512.out) hb)
        have n3_ := Aside0.mk (Kd.R_below (kr_ HO515.out) hb)
        have n4_ := Aside0.mk (bb_ BK501.out hb)
        have n5_ := Aside0.mk (bb_ BK519.out hb)
        have n6_ := Aside0.mk (below_step (hb2_ HB.out GE501.out GE519.out) hb)
        have n7_ := Aside0.mk (hbox)
        have n8_ := Aside0.mk ((gs_ hg (hb2_ HB.out GE501.out GE519.out)))
        have n9_ := Aside0.mk ((gs_ hg (hb2_ HB.out GE501.out GE519.out)))
        have n10_ := Aside0.mk (nl_ hg BK501.out)
        have n11_ := Aside0.mk (nr_ hg BK501.out)
        have n12_ := Aside0.mk (nl_ hg BK519.out)
        have n13_ := Aside0.mk (nr_ hg BK519.out)
        clear HO504
        clear HO508
        clear HO512
        clear HO515
        clear BK501
        clear BK519
        clear HB
        have HO504 := n0_
        have HO508 := n1_
        have HO512 := n2_
        have HO515 := n3_
        have BK501 := n4_
        have BK519 := n5_
        have HB := n6_
        have BK520 := n7_
        have GW520 := n8_
        have GE520 := n9_
        have NB501_520 := n10_
        have NB520_501 := n11_
        have NB519_520 := n12_
        have NB520_519 := n13_
        clear n0_ n1_ n2_ n3_ n4_ n5_ n6_ n7_ n8_ n9_ n10_ n11_ n12_ n13_
        clear hb hbox hg
        refine hK.out _ _ ⟨(blk_cell BK501.out 0).trans rfl, (blk_cell BK501.out 1).trans rfl, (blk_cell BK501.out 2).trans rfl, HS3_⟩ (fun hHeld => ?_)
        clear hK K
        refine norm_ (a' := ?_) ?_ ?_
        rotate_left
        ·show Act.put _ (some 10) _ = _
         simp only [Act.put, List.setIfInBounds_toArray, List.set_cons_zero, List.set_cons_succ, i64_w, i32_w]
         rfl
        exact norm_ (by first | (simp only [putAll, Act.put, List.setIfInBounds_toArray, List.set_cons_zero, List.set_cons_succ]; done) | (simp only [putAll, Act.put, List.setIfInBounds_toArray, List.set_cons_zero, List.set_cons_succ]; rfl)) (hJ7_8_9 (gb519, gb520) _ ⟨hHeld, (kr_ HO504.out), (kr_ HO508.out), (kr_ HO512.out), (kr_ HO515.out), (bk_ BK501.out), (bk_ BK519.out), (bk_ BK520.out), GW519.out, GE519.out, NB501_519.out, NB519_501.out, NB520_519.out, NB519_520.out, GW520.out, GE520.out, NB501_520.out, NB520_501.out, (hb3_ HB.out GE501.out GE519.out GE520.out)⟩)
      rintro ⟨gb519, gb520⟩ w48 ⟨hS_, h0_, h1_, h2_, h3_, h4_, h5_, h6_, h7_, h8_, h9_, h10_, h11_, h12_, h13_, h14_, h15_, h16_, h17_⟩
      have n0_ : Aside0 (Kd.R (Kd.int .i64) 3 w48 w.heap.size (fun k_ => some k_ ≠ (v507 : Value).ownBlock ∧ some k_ ≠ (v511 : Value).ownBlock ∧ some k_ ≠ (.slice (some ad516) t513.length co43 : Value).ownBlock) (.slice Ao32 y502.length co32) y502) := ⟨h0_⟩
      have n1_ : Aside0 (Kd.R (Kd.int .i64) 3 w48 w.heap.size (fun k_ => some k_ ≠ (.slice Ao32 y502.length co32 : Value).ownBlock ∧ some k_ ≠ (v511 : Value).ownBlock ∧ some k_ ≠ (.slice (some ad516) t513.length co43 : Value).ownBlock) v507 y506) := ⟨h1_⟩
      have n2_ : Aside0 (Kd.R (Kd.int .i64) 3 w48 w.heap.size (fun k_ => some k_ ≠ (.slice Ao32 y502.length co32 : Value).ownBlock ∧ some k_ ≠ (v507 : Value).ownBlock ∧ some k_ ≠ (.slice (some ad516) t513.length co43 : Value).ownBlock) v511 y510) := ⟨h2_⟩
      have n3_ : Aside0 (Kd.R (Kd.int .i64) 3 w48 w.heap.size (fun k_ => some k_ ≠ (.slice Ao32 y502.length co32 : Value).ownBlock ∧ some k_ ≠ (v507 : Value).ownBlock ∧ some k_ ≠ (v511 : Value).ownBlock) (.slice (some ad516) t513.length co43) t513) := ⟨h3_⟩
      have n4_ : Aside0 (w48.heap[gb501]? = some (.cells #[.int .i64 a0_0, .int .i64 a0_1, .int .i64 a0_2] 36 (0, 0))) := ⟨h4_⟩
      have n5_ : Aside0 (w48.heap[gb519]? = some (.cells #[.int .i64 0, .int .i64 0] 60 (0, 0))) := ⟨h5_⟩
      have n6_ : Aside0 (w48.heap[gb520]? = some (.cells #[.int .i64 0, .int .i64 0] 60 (0, 0))) := ⟨h6_⟩
      have n7_ : Aside0 (w.heap.size ≤ gb519) := ⟨h7_⟩
      have n8_ : Aside0 (w.heap.size ≤ gb519) := ⟨h8_⟩
      have n9_ : Aside0 (gb501 ≠ gb519) := ⟨h9_⟩
      have n10_ : Aside0 (gb519 ≠ gb501) := ⟨h10_⟩
      have n11_ : Aside0 (gb520 ≠ gb519) := ⟨h11_⟩
      have n12_ : Aside0 (gb519 ≠ gb520) := ⟨h12_⟩
      have n13_ : Aside0 (w.heap.size ≤ gb520) := ⟨h13_⟩
      have n14_ : Aside0 (w.heap.size ≤ gb520) := ⟨h14_⟩
      have n15_ : Aside0 (gb501 ≠ gb520) := ⟨h15_⟩
      have n16_ : Aside0 (gb520 ≠ gb501) := ⟨h16_⟩
      have n17_ : Aside0 (Below w.heap.size w w48) := ⟨h17_⟩
      clear HO504
      clear HO508
      clear HO512
      clear HO515
      clear BK501
      clear HB
      clear h0_ h1_ h2_ h3_ h4_ h5_ h6_ h7_ h8_ h9_ h10_ h11_ h12_ h13_ h14_ h15_ h16_ h17_
      have HO504 := n0_
      have HO508 := n1_
      have HO512 := n2_
      have HO515 := n3_
      have BK501 := n4_
      have BK519 := n5_
      have BK520 := n6_
      have GW519 := n7_
      have GE519 := n8_
      have NB501_519 := n9_
      have NB519_501 := n10_
      have NB520_519 := n11_
      have NB519_520 := n12_
      have GW520 := n13_
      have GE520 := n14_
      have NB501_520 := n15_
      have NB520_501 := n16_
      have HB := n17_
      clear n0_ n1_ n2_ n3_ n4_ n5_ n6_ n7_ n8_ n9_ n10_ n11_ n12_ n13_ n14_ n15_ n16_ n17_
      have hHeld : w48.cell? ⟨gb501, 0, none⟩ = some (.int .i64 a0_0) ∧ w48.cell? ⟨gb501, 1, none⟩ = some (.int .i64 a0_1) ∧ w48.cell? ⟨gb501, 2, none⟩ = some (.int .i64 a0_2) ∧ w48.cell? ad516 = some (.int .i64 (rd t513 0)) := hS_
      refine norm_ (a' := ?_) ?_ ?_
      rotate_left
      ·simp only [putAll, Act.put, List.setIfInBounds_toArray, List.set_cons_zero, List.set_cons_succ]
       rfl
      refine one_ (i := 10) (N := none) #[true, true, true, true, true, true, true, true, true, true, true, false, false] rfl rfl (one_of HT_.out (by kernel_rfl)) (by decide) (fun K hK => ?_)
      have hs49 : w48.cell? ⟨gb519, 0, none⟩ = some (.int .i64 0) := (blk_cell BK519.out 0).trans rfl
      have hfs49 := blk_frozen BK519.out 0
      have hns49_0 := NB501_519.out
      have hns49_2 := NB520_519.out
      have hms49_0 := NB519_501.out
      have hms49_2 := NB519_520.out
      have hs50 : w48.cell? ⟨gb519, 1, none⟩ = some (.int .i64 0) := (blk_cell BK519.out 1).trans rfl
      have hfs50 := blk_frozen BK519.out 1
      have hns50_0 := NB501_519.out
      have hns50_2 := NB520_519.out
      have hms50_0 := NB519_501.out
      have hms50_2 := NB519_520.out
      refine skip_ (w1 := ?_) (by rfl) rfl ?_ ?_
      rotate_left
      ·go_simp
       rfl
      refine hK.out _ _ ⟨((cell_far (p := ⟨gb519, _, none⟩) NB501_519.out _).trans (((cell_far (p := ⟨gb519, _, none⟩) NB501_519.out _).trans (hHeld.1)))), ((cell_far (p := ⟨gb519, _, none⟩) NB501_519.out _).trans (((cell_far (p := ⟨gb519, _, none⟩) NB501_519.out _).trans (hHeld.2.1)))), ((cell_far (p := ⟨gb519, _, none⟩) NB501_519.out _).trans (((cell_far (p := ⟨gb519, _, none⟩) NB501_519.out _).trans (hHeld.2.2.1)))), ((cell_far (p := ⟨gb519, _, none⟩) (by first | exact Kd.own_blk (Kd.R_ne HO515.out BK519.out (by decide)) | (rw [add_block]; exact Kd.own_blk (Kd.R_ne HO515.out BK519.out (by decide))) | (show (Addr.add _ _).block ≠ _; rw [add_block]; exact Kd.own_blk (Kd.R_ne HO515.out BK519.out (by decide))) | (dsimp only; exact Kd.own_blk (Kd.R_ne HO515.out BK519.out (by decide)))) _).trans (((cell_far (p := ⟨gb519, _, none⟩) (by first | exact Kd.own_blk (Kd.R_ne HO515.out BK519.out (by decide)) | (rw [add_block]; exact Kd.own_blk (Kd.R_ne HO515.out BK519.out (by decide))) | (show (Addr.add _ _).block ≠ _; rw [add_block]; exact Kd.own_blk (Kd.R_ne HO515.out BK519.out (by decide))) | (dsimp only; exact Kd.own_blk (Kd.R_ne HO515.out BK519.out (by decide)))) _).trans (hHeld.2.2.2))))⟩ (fun hHeld => ?_)
      clear hK K
      refine one_ (i := 11) (N := none) #[true, true, true, true, true, true, true, true, true, true, true, true, false] rfl rfl (one_of HT_.out (by kernel_rfl)) (by decide) (fun K hK => ?_)
      have hs51 : w48.cell? ⟨gb520, 0, none⟩ = some (.int .i64 0) := (blk_cell BK520.out 0).trans rfl
      have hfs51 := blk_frozen BK520.out 0
      have hns51_0 := NB501_520.out
      have hns51_1 := NB519_520.out
      have hms51_0 := NB520_501.out
      have hms51_1 := NB520_519.out
      have hs52 : w48.cell? ⟨gb520, 1, none⟩ = some (.int .i64 0) := (blk_cell BK520.out 1).trans rfl
      have hfs52 := blk_frozen BK520.out 1
      have hns52_0 := NB501_520.out
      have hns52_1 := NB519_520.out
      have hms52_0 := NB520_501.out
      have hms52_1 := NB520_519.out
      refine skip_ (w1 := ?_) (by rfl) rfl ?_ ?_
      rotate_left
      ·go_simp
       rfl
      refine hK.out _ _ ⟨((cell_far (p := ⟨gb520, _, none⟩) NB501_520.out _).trans (((cell_far (p := ⟨gb520, _, none⟩) NB501_520.out _).trans (hHeld.1)))), ((cell_far (p := ⟨gb520, _, none⟩) NB501_520.out _).trans (((cell_far (p := ⟨gb520, _, none⟩) NB501_520.out _).trans (hHeld.2.1)))), ((cell_far (p := ⟨gb520, _, none⟩) NB501_520.out _).trans (((cell_far (p := ⟨gb520, _, none⟩) NB501_520.out _).trans (hHeld.2.2.1)))), ((cell_far (p := ⟨gb520, _, none⟩) (by first | exact Kd.own_blk (Kd.R_ne HO515.out BK520.out (by decide)) | (rw [add_block]; exact Kd.own_blk (Kd.R_ne HO515.out BK520.out (by decide))) | (show (Addr.add _ _).block ≠ _; rw [add_block]; exact Kd.own_blk (Kd.R_ne HO515.out BK520.out (by decide))) | (dsimp only; exact Kd.own_blk (Kd.R_ne HO515.out BK520.out (by decide)))) _).trans (((cell_far (p := ⟨gb520, _, none⟩) (by first | exact Kd.own_blk (Kd.R_ne HO515.out BK520.out (by decide)) | (rw [add_block]; exact Kd.own_blk (Kd.R_ne HO515.out BK520.out (by decide))) | (show (Addr.add _ _).block ≠ _; rw [add_block]; exact Kd.own_blk (Kd.R_ne HO515.out BK520.out (by decide))) | (dsimp only; exact Kd.own_blk (Kd.R_ne HO515.out BK520.out (by decide)))) _).trans (hHeld.2.2.2))))⟩ (fun hHeld => ?_)
      clear hK K
      refine pv_ (i := 12) (N := some 11) HT_.out ?_
      refine done_ (done_of HT_.out (by kernel_rfl)) ?_
      try go_wp2
      go_loopg [6, 11, 12] k (fun kq v6 v11 v12 w' => ∃ (x6_1 : List Int) (x7_1 : List Int) (x11_1 : Bool) (x12_1 : Int) (x520000_1 : Int) (x520001_1 : Int) (x521000_1 : Int) (x521001_1 : Int), v11 = .bool x11_1 ∧ v12 = .int .i64 x12_1 ∧ Aside0 (impl_TremauxWalk.l0 kq x6_1 x7_1 x11_1 x12_1 a0_0 a0_1 a0_2 x521000_1 x521001_1 = some (r1, r2)) ∧ Aside0 (kq ≤ k) ∧ Aside0 (Kd.R (Kd.int .i64) 3 w' w.heap.size (fun k_ => some k_ ≠ (v511 : Value).ownBlock) v6 x6_1) ∧ Aside0 (Kd.R (Kd.int .i64) 3 w' w.heap.size (fun k_ => some k_ ≠ (v6 : Value).ownBlock) v511 x7_1) ∧ Aside0 (w'.heap[gb501]? = some (.cells #[.int .i64 a0_0, .int .i64 a0_1, .int .i64 a0_2] 36 (0, 0))) ∧ Aside0 (w'.heap[gb519]? = some (.cells #[.int .i64 x520000_1, .int .i64 x520001_1] 60 (0, 0))) ∧ Aside0 (w'.heap[gb520]? = some (.cells #[.int .i64 x521000_1, .int .i64 x521001_1] 60 (0, 0))) ∧ Aside0 (Below w.heap.size w w'))
      case atStart => exact ⟨(y506), (y510), (true), (a1), (0), (0), (t517), (t518), (by first | rfl | (simp; done) | (simp [*]; done)), (by first | rfl | (simp; done) | (simp [*]; done)), H', ⟨Nat.le_refl _⟩, ⟨by (with_reducible repeat (first | apply Kd.R_alloc | apply Kd.R_drewN | apply Kd.R_drew)); exact Kd.R_mono (Kd.R_far (p := ⟨gb520, 1, none⟩) (Kd.R_far (p := ⟨gb520, 0, none⟩) (Kd.R_far (p := ⟨gb519, 1, none⟩) (Kd.R_far (p := ⟨gb519, 0, none⟩) (Kd.R_types (Kd.R_types HO508.out BK519.out (by decide)) BK520.out (by decide)) (fun _ hk => hk.1.2) (.int .i64 0)) (fun _ hk => hk.1.2) (.int .i64 0)) (fun _ hk => hk.2) (.int .i64 t517)) (fun _ hk => hk.2) (.int .i64 t518)) (fun _ hk => hk.1.1.2.1)⟩, ⟨by (with_reducible repeat (first | apply Kd.R_alloc | apply Kd.R_drewN | apply Kd.R_drew)); exact Kd.R_mono (Kd.R_far (p := ⟨gb520, 1, none⟩) (Kd.R_far (p := ⟨gb520, 0, none⟩) (Kd.R_far (p := ⟨gb519, 1, none⟩) (Kd.R_far (p := ⟨gb519, 0, none⟩) (Kd.R_types (Kd.R_types HO512.out BK519.out (by decide)) BK520.out (by decide)) (fun _ hk => hk.1.2) (.int .i64 0)) (fun _ hk => hk.1.2) (.int .i64 0)) (fun _ hk => hk.2) (.int .i64 t517)) (fun _ hk => hk.2) (.int .i64 t518)) (fun _ hk => hk.1.1.2.1)⟩, ⟨by (with_reducible repeat (first | refine blk_drewN ?_ _ | refine blk_drew ?_ | refine blk_alloc ?_ _)); refine blk_far ?_ NB501_520.out _; (with_reducible repeat (first | refine blk_drewN ?_ _ | refine blk_drew ?_ | refine blk_alloc ?_ _)); refine blk_far ?_ NB501_520.out _; (with_reducible repeat (first | refine blk_drewN ?_ _ | refine blk_drew ?_ | refine blk_alloc ?_ _)); refine blk_far ?_ NB501_519.out _; (with_reducible repeat (first | refine blk_drewN ?_ _ | refine blk_drew ?_ | refine blk_alloc ?_ _)); refine blk_far ?_ NB501_519.out _; (with_reducible repeat (first | refine blk_drewN ?_ _ | refine blk_drew ?_ | refine blk_alloc ?_ _)); exact BK501.out⟩, ⟨by (with_reducible repeat (first | refine blk_drewN ?_ _ | refine blk_drew ?_ | refine blk_alloc ?_ _)); refine blk_far ?_ NB519_520.out _; (with_reducible repeat (first | refine blk_drewN ?_ _ | refine blk_drew ?_ | refine blk_alloc ?_ _)); refine blk_far ?_ NB519_520.out _; (with_reducible repeat (first | refine blk_drewN ?_ _ | refine blk_drew ?_ | refine blk_alloc ?_ _)); refine blk_put (cs := #[.int .i64 0, .int .i64 0]) ?_ 1 _ rfl; (with_reducible repeat (first | refine blk_drewN ?_ _ | refine blk_drew ?_ | refine blk_alloc ?_ _)); refine blk_put (cs := #[.int .i64 0, .int .i64 0]) ?_ 0 _ rfl; (with_reducible repeat (first | refine blk_drewN ?_ _ | refine blk_drew ?_ | refine blk_alloc ?_ _)); exact BK519.out⟩, ⟨by (with_reducible repeat (first | refine blk_drewN ?_ _ | refine blk_drew ?_ | refine blk_alloc ?_ _)); refine blk_put (cs := #[.int .i64 t517, .int .i64 0]) ?_ 1 _ rfl; (with_reducible repeat (first | refine blk_drewN ?_ _ | refine blk_drew ?_ | refine blk_alloc ?_ _)); refine blk_put (cs := #[.int .i64 0, .int .i64 0]) ?_ 0 _ rfl; (with_reducible repeat (first | refine blk_drewN ?_ _ | refine blk_drew ?_ | refine blk_alloc ?_ _)); refine blk_far ?_ NB520_519.out _; (with_reducible repeat (first | refine blk_drewN ?_ _ | refine blk_drew ?_ | refine blk_alloc ?_ _)); refine blk_far ?_ NB520_519.out _; (with_reducible repeat (first | refine blk_drewN ?_ _ | refine blk_drew ?_ | refine blk_alloc ?_ _)); exact BK520.out⟩, ⟨hb3_ HB.out GE501.out GE519.out GE520.out⟩⟩
      case round =>
       clear H'
       try clear p2
       try clear c4
       try clear c47
       obtain ⟨x6_1, x7_1, x11_1, x12_1, x520000_1, x520001_1, x521000_1, x521001_1, rfl, rfl, HA, HK1, HO_6, HO_7, BK501, BK519, BK520, HB⟩ := hrel
       cases gk with
       | zero => exact absurd HA.out (by simp [impl_TremauxWalk.l0])
       | succ k1 =>
        have H := HA.out
        clear HA
        simp only [impl_TremauxWalk.l0] at H
        have HC53 := Aside0.mk H
        clear H
        go_upto_region 9 with (fail)
        go_cut [46] (fun v46 wc => ∃ (kq : Nat) (x46_52 : Bool), v46 = .bool x46_52 ∧ Aside0 (impl_TremauxWalk.j1 kq x6_1 x7_1 x12_1 x46_52 a0_0 a0_1 a0_2 x521000_1 x521001_1 = some (r1, r2)) ∧ Aside0 (kq ≤ k1) ∧ Aside0 (Kd.R (Kd.int .i64) 3 wc w.heap.size (fun k_ => some k_ ≠ (v511 : Value).ownBlock) u6 x6_1) ∧ Aside0 (Kd.R (Kd.int .i64) 3 wc w.heap.size (fun k_ => some k_ ≠ (u6 : Value).ownBlock) v511 x7_1) ∧ Aside0 (wc.heap[gb501]? = some (.cells #[.int .i64 a0_0, .int .i64 a0_1, .int .i64 a0_2] 36 (0, 0))) ∧ Aside0 (wc.heap[gb519]? = some (.cells #[.int .i64 x520000_1, .int .i64 x520001_1] 60 (0, 0))) ∧ Aside0 (wc.heap[gb520]? = some (.cells #[.int .i64 x521000_1, .int .i64 x521001_1] 60 (0, 0))) ∧ Aside0 (Below w.heap.size w wc))
        case first =>
         have H := HC53.out
         clear HC53
         by_cases c54 : x11_1 = true
         ·subst c54
          have H1 : (impl_TremauxWalk.j1 k1 x6_1 x7_1 x12_1 (decide ((x6_1.length : Int) ≤ 200)) a0_0 a0_1 a0_2 x521000_1 x521001_1) = some (r1, r2) := by rw [if_pos rfl] at H; exact H
          clear H
          have H := H1
          clear H1
          have H' := Aside0.mk H
          clear H
          obtain ⟨Ao55, co55, eo55⟩ := Kd.R_slice HO_6.out
          subst eo55
          go_wp2
          go_meet
          case rel => exact ⟨_, (decide ((x6_1.length : Int) ≤ 200)), (by first | rfl | (simp; done) | (simp [*]; done)), H', ⟨by have := HK1.out; first | omega | exact Nat.le_refl _⟩, ⟨kr_ HO_6.out⟩, ⟨kr_ HO_7.out⟩, ⟨bk_ BK501.out⟩, ⟨bk_ BK519.out⟩, ⟨bk_ BK520.out⟩, ⟨hb3_ HB.out GE501.out GE519.out GE520.out⟩⟩
         ·replace c54 := Bool.eq_false_iff.mpr c54
          subst c54
          have H1 : (impl_TremauxWalk.j1 k1 x6_1 x7_1 x12_1 false a0_0 a0_1 a0_2 x521000_1 x521001_1) = some (r1, r2) := by rw [if_neg (show ¬ (false = true) by decide)] at H; exact H
          clear H
          have H := H1
          clear H1
          have H' := Aside0.mk H
          clear H
          go_wp2
          go_meet
          case rel => exact ⟨_, (false), (by first | rfl | (simp; done) | (simp [*]; done)), H', ⟨by have := HK1.out; first | omega | exact Nat.le_refl _⟩, ⟨kr_ HO_6.out⟩, ⟨kr_ HO_7.out⟩, ⟨bk_ BK501.out⟩, ⟨bk_ BK519.out⟩, ⟨bk_ BK520.out⟩, ⟨hb3_ HB.out GE501.out GE519.out GE520.out⟩⟩
        case rest =>
         clear HC53
         try clear p2
         try clear c4
         try clear c5
         try clear c47
         try clear c54
         try clear p2
         obtain ⟨kq, x46_52, rfl, HA, HJ52, HO_6, HO_7, BK501, BK519, BK520, HB⟩ := hcut
         cases kq with
         | zero => exact absurd HA.out (by simp [impl_TremauxWalk.j1])
         | succ kj52 =>
          have H := HA.out
          clear HA
          simp only [impl_TremauxWalk.j1] at H
          by_cases c56 : x46_52 = true
          ·subst c56
           have H1 : ((impl_GapAt.f kj52 a0_0 a0_1 x12_1 x521001_1).bind fun t521 => (if 0 ≤ t521 then (if t521 < (x7_1.length : Int) then ((some (x7_1.set (t521 : Int).toNat (wrap64 ((rd x7_1 t521) + 1)) : List Int)).bind fun y523 => (if x6_1.length < 17592186044416 then ((impl_TremauxStep.f kj52 a0_0 a0_1 a0_2 y523 x521000_1 x521001_1).bind fun bt527 => (impl_TremauxWalk.l0 kj52 (x6_1 ++ [x521000_1]) y523 bt527.2.2 x521000_1 a0_0 a0_1 a0_2 bt527.1 bt527.2.1)) else (none))) else (none)) else (none))) = some (r1, r2) := by rw [if_pos rfl] at H; exact H
           clear H
           have H := H1
           clear H1
           replace H := Option.bind_eq_some_iff.mp H
           obtain ⟨t521, A570, H⟩ := H
           replace H : (if 0 ≤ t521 then (if t521 < (x7_1.length : Int) then ((some (x7_1.set (t521 : Int).toNat (wrap64 ((rd x7_1 t521) + 1)) : List Int)).bind fun y523 => (if x6_1.length < 17592186044416 then ((impl_TremauxStep.f kj52 a0_0 a0_1 a0_2 y523 x521000_1 x521001_1).bind fun bt527 => (impl_TremauxWalk.l0 kj52 (x6_1 ++ [x521000_1]) y523 bt527.2.2 x521000_1 a0_0 a0_1 a0_2 bt527.1 bt527.2.1)) else (none))) else (none)) else (none)) = some (r1, r2) := H
           have A57 := Aside0.mk A570
           clear A570
           by_cases c58 : 0 ≤ t521
           ·rw [if_pos c58] at H
            have c58b0 : decide (0 ≤ t521) = true := decide_eq_true c58
            clear c58
            by_cases c59 : t521 < (x7_1.length : Int)
            ·rw [if_pos c59] at H
             have c59b0 : decide (t521 < (x7_1.length : Int)) = true := decide_eq_true c59
             clear c59
             obtain ⟨y523, hy523⟩ : ∃ y_ : List Int, y_ = (x7_1.set (t521 : Int).toNat (wrap64 ((rd x7_1 t521) + 1))) := ⟨_, rfl⟩
             replace H : (if x6_1.length < 17592186044416 then ((impl_TremauxStep.f kj52 a0_0 a0_1 a0_2 y523 x521000_1 x521001_1).bind fun bt527 => (impl_TremauxWalk.l0 kj52 (x6_1 ++ [x521000_1]) y523 bt527.2.2 x521000_1 a0_0 a0_1 a0_2 bt527.1 bt527.2.1)) else (none)) = some (r1, r2) := by first | (rw [hy523]; with_reducible exact H) | (have H2_ := (Option.bind_some _ _).symm.trans H; rw [hy523]; with_reducible exact H2_) | (have H2_ := (Option.bind_some _ _).symm.trans H; with_reducible exact H2_) | with_reducible exact H | (rw [hy523]; exact H) | exact H
             have Ny523 := Aside0.mk hy523
             clear hy523
             by_cases c61 : x6_1.length < 17592186044416
             ·rw [if_pos c61] at H
              have LMc61 := Aside0.mk c61
              clear c61
              obtain ⟨y524, hy524⟩ : ∃ y_ : List Int, y_ = (x6_1 ++ [x521000_1]) := ⟨_, rfl⟩
              replace H : ((impl_TremauxStep.f kj52 a0_0 a0_1 a0_2 y523 x521000_1 x521001_1).bind fun bt527 => (impl_TremauxWalk.l0 kj52 y524 y523 bt527.2.2 x521000_1 a0_0 a0_1 a0_2 bt527.1 bt527.2.1)) = some (r1, r2) := by first | (rw [hy524]; with_reducible exact H) | (have H2_ := (Option.bind_some _ _).symm.trans H; rw [hy524]; with_reducible exact H2_) | (have H2_ := (Option.bind_some _ _).symm.trans H; with_reducible exact H2_) | with_reducible exact H | (rw [hy524]; exact H) | exact H
              have Ny524 := Aside0.mk hy524
              clear hy524
              replace H := Option.bind_eq_some_iff.mp H
              obtain ⟨⟨t527, t528, t529⟩, A620, H⟩ := H
              replace H : (impl_TremauxWalk.l0 kj52 y524 y523 t529 x521000_1 a0_0 a0_1 a0_2 t527 t528) = some (r1, r2) := H
              have A62 := Aside0.mk A620
              clear A620
              have H' := Aside0.mk H
              clear H
              have hnb63 := NB501_519.out
              have hnc63 := NB519_501.out
              have hnb64 := NB501_520.out
              have hnc64 := NB520_501.out
              obtain ⟨hcz65_0, hcz65_1, hcz65_2⟩ := cz3_ BK501.out
              obtain ⟨hfz65_0, hfz65_1, hfz65_2⟩ := fz3_ BK501.out
              have hnb66 := NB520_519.out
              have hnc66 := NB519_520.out
              obtain ⟨hcz67_0, hcz67_1⟩ := cz2_ BK520.out
              obtain ⟨hfz67_0, hfz67_1⟩ := fz2_ BK520.out
              go_wp2_with (first | ((with_reducible refine gate_callee (f := 48) rfl ?_); refine goesL_ (some 55) rfl rfl Try.func48 (by kernel_rfl) rfl #[.agg #[.int .i64 a0_0, .int .i64 a0_1], .int .i64 x12_1, .int .i64 x521001_1] rfl (ml_) ?_; (with_reducible refine (impl_GapAt.calls kj52 a0_0 a0_1 x12_1 x521001_1 t521 _ A57.out).mono ?_); rintro e w68 ⟨rfl, hb⟩; refine ⟨_, rfl, ?_⟩; replace HO_6 := Aside0.mk (Kd.R_below (kr_ HO_6.out) hb); replace HO_7 := Aside0.mk (Kd.R_below (kr_ HO_7.out) hb); replace BK501 := Aside0.mk (bb_ BK501.out hb); replace BK519 := Aside0.mk (bb_ BK519.out hb); replace BK520 := Aside0.mk (bb_ BK520.out hb); replace HB := Aside0.mk (below_step (hb3_ HB.out GE501.out GE519.out GE520.out) hb); (try clear hb); (try clear hb2); (try clear hk); (try clear hi); obtain ⟨Ao69, co69, eo69⟩ := Kd.R_slice HO_7.out; subst eo69; have p522 : 0 ≤ (t521 : Int) := of_decide_eq_true (as_); have q522 : t521 < (x7_1.length : Int) := of_decide_eq_true (as_); obtain ⟨ad522, e522, hx522_0⟩ := Kd.at_int (Kd.R_reads' HO_7.out).2.2 t521 p522 q522; cases e522; replace p522 := eq_true p522; replace q522 := eq_true q522; have p60 : 0 ≤ (t521 : Int) := of_decide_eq_true (as_); have q60 : (t521 : Int) < ((x7_1.length : Int) : Int) := of_decide_eq_true (as_); obtain ⟨go60, co60, eo60, gb60, gl60, cl60, HG60⟩ := Kd.R_form HO_7.out (by omega); (first | cases eo60 | (injection eo60 with ea_ en_ ec_; (first | subst ea_ | (injection ea_ with ea_; subst ea_)); subst ec_; clear en_)); have GB60 := Aside0.mk gb60; have GG60 := Aside0.mk HG60; clear gb60 gl60 HG60; (first | simp only [add_plain] at hx522_0 | skip); obtain ⟨hx60_0, hf60_0⟩ := Kd.R_celln 0 HO_7.out (t521 : Int) p60 q60; replace p60 := eq_true p60; replace q60 := eq_true q60; obtain ⟨hy70_, hz70_⟩ := Kd.R_celln 0 HO_7.out (t521 : Int) (of_decide_eq_true (as_)) (of_decide_eq_true (as_)); have HP70 := Kd.R_putg HO_7.out (t521 : Int) (wrap64 ((rd x7_1 t521) + 1))) | ((with_reducible refine gate_store (t := 3) (p := 59) rfl ?_); refine store_event (t := 3) (p := 59) (v := ?vo_w71) (w1 := (w68.setCell ⟨go60, (t521 : Int).toNat, none⟩ (.int .i64 (wrap64 ((rd x7_1 t521) + 1))))) ?hg ?ho ?hn ?hr ?_; (case ho => rfl); (case hg => rfl); (case hn => rfl); (case hr => first | (go_simp; done) | (go_simp; rfl)); intro w71 hw; have hg : w68.grownBy w71 (some go60) := (by rw [hw]; exact HP70.2); have hp_ : Kd.R (Kd.int .i64) 3 w71 w.heap.size (fun k_ => some k_ ≠ (u6 : Value).ownBlock) (.slice (some ⟨go60, 0, none⟩) x7_1.length co69) y523 := (by rw [hw, Ny523.out]; exact HP70.1); clear HP70; have n0_ := Aside0.mk (Kd.R_after (v := (.slice (some ⟨go60, 0, none⟩) x7_1.length co69)) (v1 := (.slice (some ⟨go60, 0, none⟩) x7_1.length co69)) (ok := (fun _ => True)) (by (with_reducible repeat (first | apply Kd.R_alloc | apply Kd.R_drewN | apply Kd.R_drew)); exact Kd.R_mono HO_6.out (fun _ hk => ⟨trivial, hk⟩)) hg (.inl rfl)); have n1_ := Aside0.mk (hp_); have n2_ := Aside0.mk (blk_grown (g := gb501) (o := .cells #[.int .i64 a0_0, .int .i64 a0_1, .int .i64 a0_2] 36 (0, 0)) (bk_ BK501.out) hg (Kd.R_ne HO_7.out BK501.out (by decide))); have n3_ := Aside0.mk (blk_grown (g := gb519) (o := .cells #[.int .i64 x520000_1, .int .i64 x520001_1] 60 (0, 0)) (bk_ BK519.out) hg (Kd.R_ne HO_7.out BK519.out (by decide))); have n4_ := Aside0.mk (blk_grown (g := gb520) (o := .cells #[.int .i64 x521000_1, .int .i64 x521001_1] 60 (0, 0)) (bk_ BK520.out) hg (Kd.R_ne HO_7.out BK520.out (by decide))); have n5_ := Aside0.mk ((by rw [hw]; exact below_set (HB.out) GB60.out : Below w.heap.size w w71)); clear HO_6; clear HO_7; clear BK501; clear BK519; clear BK520; clear HB; have HO_6 := n0_; have HO_7 := n1_; have BK501 := n2_; have BK519 := n3_; have BK520 := n4_; have HB := n5_; clear n0_ n1_ n2_ n3_ n4_ n5_; clear hg hw hp_; obtain ⟨hcz72_0, hcz72_1⟩ := cz2_ BK520.out; obtain ⟨hfz72_0, hfz72_1⟩ := fz2_ BK520.out; obtain ⟨hcz73_0, hcz73_1⟩ := cz2_ BK519.out; obtain ⟨hfz73_0, hfz73_1⟩ := fz2_ BK519.out) | ((with_reducible refine gate_builtin (b := .append) (xs := #[.tmp 61, .tmp 64]) rfl ?_); (try (refine gate_guard (by rfl) ?_; dsimp only)); at_builtin; refine Kd.R_append (Kd.int .i64) (w0 := w) w.heap.size rfl (.tmp 61) (.tmp 64) 22 3 (.int .i64 0) 8 rfl Try.underlying22 info3 rfl (by decide) (by omega) u6 x6_1 x521000_1 [.int .i64 x521000_1] (fun k_ => some k_ ≠ (.slice (some ⟨go60, 0, none⟩) x7_1.length co69 : Value).ownBlock) (fun _ => False) rfl (by first | (go_simp; done) | (go_simp; rfl)) ?aP (fun _ hk => hk.elim) ?aF ?aO ?aB ?aS ?aL ?_; (case aP => exact rfl); (case aB => exact (hb3_ HB.out GE501.out GE519.out GE520.out)); (case aF => exact (fun k_ hk => Kd.fresh' (Kd.R_lt (by (with_reducible repeat (first | apply Kd.R_alloc | apply Kd.R_drewN | apply Kd.R_drew)); exact (Kd.R_mono (Kd.R_far (p := ⟨gb519, 1, none⟩) (Kd.R_far (p := ⟨gb519, 0, none⟩) (Kd.R_types HO_7.out BK519.out (by decide)) (fun _ hk => hk.2) (.int .i64 x521000_1)) (fun _ hk => hk.2) (.int .i64 x521001_1)) (fun _ h_ => h_.1)))) k_ hk)); (case aO => exact (by (with_reducible repeat (first | apply Kd.R_alloc | apply Kd.R_drewN | apply Kd.R_drew)); exact Kd.R_mono (Kd.R_far (p := ⟨gb519, 1, none⟩) (Kd.R_far (p := ⟨gb519, 0, none⟩) (Kd.R_types HO_6.out BK519.out (by decide)) (fun _ hk => hk.2) (.int .i64 x521000_1)) (fun _ hk => hk.2) (.int .i64 x521001_1)) (fun _ hk => hk.1.2))); (case aS => exact (below_size (hb3_ HB.out GE501.out GE519.out GE520.out))); (case aL => have := LMc61.out; omega); intro v525 w74 ho hb hg hat; rw [← Ny524.out] at ho; replace HO_7 := Aside0.mk (Kd.R_after (ok := (fun _ => True)) (by (with_reducible repeat (first | apply Kd.R_alloc | apply Kd.R_drewN | apply Kd.R_drew)); exact Kd.R_mono (Kd.R_far (p := ⟨gb519, 1, none⟩) (Kd.R_far (p := ⟨gb519, 0, none⟩) (Kd.R_types HO_7.out BK519.out (by decide)) (fun _ hk => hk.2) (.int .i64 x521000_1)) (fun _ hk => hk.2) (.int .i64 x521001_1)) (fun _ hk => ⟨trivial, hk.1⟩)) hg hat); replace BK501 := Aside0.mk (blk_grown (g := gb501) (o := .cells #[.int .i64 a0_0, .int .i64 a0_1, .int .i64 a0_2] 36 (0, 0)) (by (with_reducible repeat (first | refine blk_drewN ?_ _ | refine blk_drew ?_ | refine blk_alloc ?_ _)); refine blk_far ?_ NB501_519.out _; (with_reducible repeat (first | refine blk_drewN ?_ _ | refine blk_drew ?_ | refine blk_alloc ?_ _)); refine blk_far ?_ NB501_519.out _; (with_reducible repeat (first | refine blk_drewN ?_ _ | refine blk_drew ?_ | refine blk_alloc ?_ _)); exact BK501.out) hg (Kd.R_ne HO_6.out BK501.out (by decide))); replace BK519 := Aside0.mk (blk_grown (g := gb519) (o := .cells #[.int .i64 x521000_1, .int .i64 x521001_1] 60 (0, 0)) (by (with_reducible repeat (first | refine blk_drewN ?_ _ | refine blk_drew ?_ | refine blk_alloc ?_ _)); refine blk_put (cs := #[.int .i64 x521000_1, .int .i64 x520001_1]) ?_ 1 _ rfl; (with_reducible repeat (first | refine blk_drewN ?_ _ | refine blk_drew ?_ | refine blk_alloc ?_ _)); refine blk_put (cs := #[.int .i64 x520000_1, .int .i64 x520001_1]) ?_ 0 _ rfl; (with_reducible repeat (first | refine blk_drewN ?_ _ | refine blk_drew ?_ | refine blk_alloc ?_ _)); exact BK519.out) hg (Kd.R_ne HO_6.out BK519.out (by decide))); replace BK520 := Aside0.mk (blk_grown (g := gb520) (o := .cells #[.int .i64 x521000_1, .int .i64 x521001_1] 60 (0, 0)) (by (with_reducible repeat (first | refine blk_drewN ?_ _ | refine blk_drew ?_ | refine blk_alloc ?_ _)); refine blk_far ?_ NB520_519.out _; (with_reducible repeat (first | refine blk_drewN ?_ _ | refine blk_drew ?_ | refine blk_alloc ?_ _)); refine blk_far ?_ NB520_519.out _; (with_reducible repeat (first | refine blk_drewN ?_ _ | refine blk_drew ?_ | refine blk_alloc ?_ _)); exact BK520.out) hg (Kd.R_ne HO_6.out BK520.out (by decide))); replace HB := Aside0.mk (hb); have HO526 := Aside0.mk (ho); clear HO_6; clear ho hb hg hat; obtain ⟨hcz75_0, hcz75_1, hcz75_2⟩ := cz3_ BK501.out; obtain ⟨hfz75_0, hfz75_1, hfz75_2⟩ := fz3_ BK501.out; obtain ⟨hcz76_0, hcz76_1⟩ := cz2_ BK519.out; obtain ⟨hfz76_0, hfz76_1⟩ := fz2_ BK519.out) | ((with_reducible refine gate_callee (f := 49) rfl ?_); refine goesL_ (some 70) rfl rfl Try.func49 (by kernel_rfl) rfl #[.agg #[.int .i64 a0_0, .int .i64 a0_1, .int .i64 a0_2], .slice (some ⟨go60, 0, none⟩) y523.length co69, .agg #[.int .i64 x521000_1, .int .i64 x521001_1]] rfl (by (try simp only [List.map_toArray, List.map_cons, List.map_nil]); first | done | (rw [show y523.length = x7_1.length from (Kd.R_reads' HO_7.out).1.symm] <;> rfl) | rfl | (simp only [List.length_drop, List.length_take]; rfl)) ?_; (with_reducible refine (impl_TremauxStep.calls kj52 a0_0 a0_1 a0_2 _ _ y523 x521000_1 x521001_1 t527 t528 t529 _ ?side1 ?side2 A62.out).mono ?_); (case side1 => repeat (first | exact (Kd.R_reads' HO_7.out).2.2 | (with_reducible refine Kd.C_alloc ?_ _) | (with_reducible refine Kd.C_drewN ?_ _) | (with_reducible refine Kd.C_drew ?_))); (case side2 => rw [show y523.length = x7_1.length from (Kd.R_reads' HO_7.out).1.symm]; exact (Kd.R_reads' HO_7.out).2.1); rintro e w77 ⟨rfl, hb⟩; refine ⟨_, rfl, ?_⟩; replace HO_7 := Aside0.mk (Kd.R_below (kr_ HO_7.out) hb); replace HO526 := Aside0.mk (Kd.R_below (kr_ HO526.out) hb); replace BK501 := Aside0.mk (bb_ BK501.out hb); replace BK519 := Aside0.mk (bb_ BK519.out hb); replace BK520 := Aside0.mk (bb_ BK520.out hb); replace HB := Aside0.mk (below_step (hb3_ HB.out GE501.out GE519.out GE520.out) hb); (try clear hb); (try clear hb2); (try clear hk); (try clear hi); obtain ⟨hcz78_0, hcz78_1⟩ := cz2_ BK520.out; obtain ⟨hfz78_0, hfz78_1⟩ := fz2_ BK520.out; obtain ⟨hcz79_0, hcz79_1⟩ := cz2_ BK519.out; obtain ⟨hfz79_0, hfz79_1⟩ := fz2_ BK519.out))
              go_roundg kj52
              case measure => have := HK1.out; have := HJ52.out; omega
              case rel => exact ⟨(y524), (y523), (t529), (x521000_1), (x521000_1), (x521001_1), (t527), (t528), (by first | rfl | (simp; done) | (simp [*]; done)), (by first | rfl | (simp; done) | (simp [*]; done)), H', ⟨by have := HK1.out; have := HJ52.out; omega⟩, ⟨by (with_reducible repeat (first | apply Kd.R_alloc | apply Kd.R_drewN | apply Kd.R_drew)); exact Kd.R_mono (Kd.R_far (p := ⟨gb520, 1, none⟩) (Kd.R_far (p := ⟨gb520, 0, none⟩) (Kd.R_types HO526.out BK520.out (by decide)) (fun _ hk => hk.2) (.int .i64 t527)) (fun _ hk => hk.2) (.int .i64 t528)) (fun _ hk => hk.1)⟩, ⟨by (with_reducible repeat (first | apply Kd.R_alloc | apply Kd.R_drewN | apply Kd.R_drew)); exact Kd.R_mono (Kd.R_far (p := ⟨gb520, 1, none⟩) (Kd.R_far (p := ⟨gb520, 0, none⟩) (Kd.R_types HO_7.out BK520.out (by decide)) (fun _ hk => hk.2) (.int .i64 t527)) (fun _ hk => hk.2) (.int .i64 t528)) (fun _ hk => hk.1.2)⟩, ⟨by (with_reducible repeat (first | refine blk_drewN ?_ _ | refine blk_drew ?_ | refine blk_alloc ?_ _)); refine blk_far ?_ NB501_520.out _; (with_reducible repeat (first | refine blk_drewN ?_ _ | refine blk_drew ?_ | refine blk_alloc ?_ _)); refine blk_far ?_ NB501_520.out _; (with_reducible repeat (first | refine blk_drewN ?_ _ | refine blk_drew ?_ | refine blk_alloc ?_ _)); exact BK501.out⟩, ⟨by (with_reducible repeat (first | refine blk_drewN ?_ _ | refine blk_drew ?_ | refine blk_alloc ?_ _)); refine blk_far ?_ NB519_520.out _; (with_reducible repeat (first | refine blk_drewN ?_ _ | refine blk_drew ?_ | refine blk_alloc ?_ _)); refine blk_far ?_ NB519_520.out _; (with_reducible repeat (first | refine blk_drewN ?_ _ | refine blk_drew ?_ | refine blk_alloc ?_ _)); exact BK519.out⟩, ⟨by (with_reducible repeat (first | refine blk_drewN ?_ _ | refine blk_drew ?_ | refine blk_alloc ?_ _)); refine blk_put (cs := #[.int .i64 t527, .int .i64 x521001_1]) ?_ 1 _ rfl; (with_reducible repeat (first | refine blk_drewN ?_ _ | refine blk_drew ?_ | refine blk_alloc ?_ _)); refine blk_put (cs := #[.int .i64 x521000_1, .int .i64 x521001_1]) ?_ 0 _ rfl; (with_reducible repeat (first | refine blk_drewN ?_ _ | refine blk_drew ?_ | refine blk_alloc ?_ _)); exact BK520.out⟩, ⟨hb3_ HB.out GE501.out GE519.out GE520.out⟩⟩
             ·rw [if_neg c61] at H
              exact absurd H (by simp)
            ·rw [if_neg c59] at H
             exact absurd H (by simp)
           ·rw [if_neg c58] at H
            exact absurd H (by simp)
          ·replace c56 := Bool.eq_false_iff.mpr c56
           subst c56
           have H1 : (some (x6_1, x7_1)) = some (r1, r2) := by rw [if_neg (show ¬ (false = true) by decide)] at H; exact H
           clear H
           have H := H1
           clear H1
           simp only [Option.some.injEq, Prod.mk.injEq] at H
           obtain ⟨rfl, rfl⟩ := H
           go_wp2
           go_ret2
           exact ⟨_, _, by first | rfl | (simp [errW_none, errW_some] <;> rfl) | (simp [*, errW_none, errW_some] <;> rfl), kr_ HO_6.out, kr_ HO_7.out, hb3_ HB.out GE501.out GE519.out GE520.out⟩
     ·rw [if_neg c26] at H
      exact absurd H (by simp)
   ·rw [if_neg c7] at H
    exact absurd H (by simp)
  ·rw [if_neg c6] at H
   exact absurd H (by simp)
 ·replace c4 := Bool.eq_false_iff.mpr c4
  subst c4
  have H1 : (some (([] : List Int), ([] : List Int))) = some (r1, r2) := by rw [if_neg (show ¬ (false = true) by decide)] at H; exact H
  clear H
  have H := H1
  clear H1
  simp only [Option.some.injEq, Prod.mk.injEq] at H
  obtain ⟨rfl, rfl⟩ := H
  go_enter Try.func18, Try.ntmps18
  go_wp2_with (first | ((with_reducible refine gate_dst (N := 2) rfl ?_); (try (refine gate_guard (by rfl) ?_; dsimp only)); refine box_event ?hg (N := 2) ?hd (cs := #[.int .i64 a0_0, .int .i64 a0_1, .int .i64 a0_2]) (t := 36) ?hr ?_; (case hd => rfl); (case hg => rfl); (case hr => first | (go_simp; done) | (go_simp; rfl)); intro gb501 hg w80 hbox hb; have n0_ := Aside0.mk (below_step (hb0_ HB.out) hb); have n1_ := Aside0.mk (hbox); have n2_ := Aside0.mk ((gs_ hg (hb0_ HB.out))); have n3_ := Aside0.mk ((gs_ hg (hb0_ HB.out))); clear HB; have HB := n0_; have BK501 := n1_; have GW501 := n2_; have GE501 := n3_; clear n0_ n1_ n2_ n3_; clear hb hbox hg; obtain ⟨hcz81_0, hcz81_1, hcz81_2⟩ := cz3_ BK501.out; obtain ⟨hfz81_0, hfz81_1, hfz81_2⟩ := fz3_ BK501.out) | ((with_reducible refine gate_dst (N := 15) rfl ?_); (try (refine gate_guard (by rfl) ?_; dsimp only)); refine Kd.R_lit (Kd.int .i64) _ 3 ?hg (N := 15) ?hd (xs := ([a1] : List Int)) (inner := [.int .i64 a1]) (ok := fun _ => True) (okp := fun _ => True) ?hr ?hp (fun _ hk => hk) trivial (Below.refl _ _) (Nat.le_refl _) (by simp) ?_; (case hd => rfl); (case hg => rfl); (case hr => first | (go_simp; done) | (go_simp; rfl)); (case hp => exact (Reps.one (show Kd.M (Kd.int .i64) _ _ _ a1 [.int .i64 a1] from rfl) (Reps.none _ _))); intro v503 w82 ho83 hb hg_ hnew_; clear hg_ hnew_; (first | rw [← Ny502.out] at ho83 | (simp only [Int.reduceToNat] at ho83; rw [← Ny502.out] at ho83)); have HO504 := Aside0.mk (Kd.R_lower ho83 (below_size (hb1_ HB.out GE501.out))); replace BK501 := Aside0.mk (bb_ BK501.out hb); replace HB := Aside0.mk (below_step (hb1_ HB.out GE501.out) hb); clear hb ho83; obtain ⟨Ao84, co84, eo84⟩ := Kd.R_slice HO504.out; subst eo84) | ((with_reducible refine gate_callee (f := 44) rfl ?_); refine goesL_ (some 16) rfl rfl Try.func44 (by kernel_rfl) rfl #[.agg #[.int .i64 a0_0, .int .i64 a0_1, .int .i64 a0_2], .slice Ao84 y502.length co84] rfl (ml_) ?_; (with_reducible refine (impl_isIn.calls a0_0 a0_1 a0_2 _ _ y502 false _ ?side1 ?side2 A3.out).mono ?_); (case side1 => repeat (first | exact (Kd.R_reads' HO504.out).2.2 | (with_reducible refine Kd.C_alloc ?_ _) | (with_reducible refine Kd.C_drewN ?_ _) | (with_reducible refine Kd.C_drew ?_))); (case side2 => exact (Kd.R_reads' HO504.out).2.1); rintro e w85 ⟨rfl, hb⟩; refine ⟨_, rfl, ?_⟩; replace HO504 := Aside0.mk (Kd.R_below (kr_ HO504.out) hb); replace BK501 := Aside0.mk (bb_ BK501.out hb); replace HB := Aside0.mk (below_step (hb1_ HB.out GE501.out) hb); (try clear hb); (try clear hb2); (try clear hk); (try clear hi)))
  go_ret2
  exact ⟨_, _, by first | rfl | (simp [errW_none, errW_some] <;> rfl) | (simp [*, errW_none, errW_some] <;> rfl), by first | exact Kd.R_nil _ _ _ _ _ | exact Kd.N_nil _ _ _ _ _ | exact Kd.V_nil _ _ _ _ _ | exact Kd.Q_nil _ _ _ _ _ | exact Kd.S_nil _ _ _ _ _, by first | exact Kd.R_nil _ _ _ _ _ | exact Kd.N_nil _ _ _ _ _ | exact Kd.V_nil _ _ _ _ _ | exact Kd.Q_nil _ _ _ _ _ | exact Kd.S_nil _ _ _ _ _, hb1_ HB.out GE501.out⟩

end Go.Proofs.Ytdloifaaoiollac.X
