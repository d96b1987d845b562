-- Written by a program of this session (xprint.py), out of the translation and of hand-written contracts. Lean checks it.
import Derived.Test.YtmcllgonjlapoaaX0
import Derived.Test.YtmcllgonjlapoaaXcfollow
import Derived.Test.YtmcllgonjlapoaaXcgaps
import Derived.Test.YtmcllgonjlapoaaXcgrid
import Derived.Test.YtmcllgonjlapoaaXcstrees
import Derived.Test.YtmcllgonjlapoaaXctrees
import Derived.Test.YtmcllgonjlapoaaXcturns
import Derived.Test.YtmcllgonjlapoaaXimplFullMaze
import Derived.Test.YtmcllgonjlapoaaXspecFullMaze
namespace Go.Proofs.Ytmcllgonjlapoaa.X
open Go.RowKit Go.Proofs.YtmcllgonjlapoaaW.PrintWords Go.Proofs.YtmcllgonjlapoaaW.PrintLast Go.Proofs.YtmcllgonjlapoaaW.PrintMore
attribute [local go_sem] max2_int min2_int max_two min_two max_three min_three max_four min_four   -- for this text's walks alone
set_option linter.unusedVariables false
set_option linter.unusedSimpArgs false

/-! ### spec_FirstFailure: function 45 -/
mutual
def spec_FirstFailure.j0 : Nat → List Int → Bool → Int → Int → Option (Int × Int × Int × Int × Int × Bool)
 | 0, _, _, _, _ => none
 | k + 1, x1, x23, x502000, x502001 => if x23 = true then (some (0, 0, 0, 0, 0, false)) else ((spec_FullMaze.f x502000 x502001).bind fun bt507 => ((spec_ListTrees.f k bt507.1 bt507.2.1 bt507.2.2).bind fun t510 => (spec_FirstFailure.l0 k x1 t510 0 x502000 x502001)))
def spec_FirstFailure.l0 : Nat → List Int → List (S30) → Int → Int → Int → Option (Int × Int × Int × Int × Int × Bool)
 | 0, _, _, _, _, _ => none
 | k + 1, x1, x7, x8, x502000, x502001 => if x8 < (x7.length : Int) then (spec_FirstFailure.l1 k x1 x7 x8 0 x502000 x502001) else (some (0, 0, 0, 0, 0, false))
def spec_FirstFailure.l1 : Nat → List Int → List (S30) → Int → Int → Int → Int → Option (Int × Int × Int × Int × Int × Bool)
 | 0, _, _, _, _, _, _ => none
 | k + 1, x1, x7, x8, x9, x502000, x502001 => (spec_CountCells.f x502000 x502001).bind fun t513 => (if x9 < (wrap64 (4 * t513)) then (if 0 ≤ x8 then (if x8 < (x7.length : Int) then ((spec_CoversAll.f k ((rd_T30 x7 x8).f0.f0) ((rd_T30 x7 x8).f0.f1) ((rd_T30 x7 x8).f1) (wrap64 (Int.tdiv x9 4)) (Int.tmod x9 4) x1).bind fun t516 => (if t516 = true then (spec_FirstFailure.l1 k x1 x7 x8 (wrap64 (x9 + 1)) x502000 x502001) else (some ((rd_T30 x7 x8).f0.f0, (rd_T30 x7 x8).f0.f1, (rd_T30 x7 x8).f1, wrap64 (Int.tdiv x9 4), Int.tmod x9 4, true)))) else (none)) else (none)) else (spec_FirstFailure.l0 k x1 x7 (wrap64 (x8 + 1)) x502000 x502001))
end
def spec_FirstFailure.f (k : Nat) (a0_0 : Int) (a0_1 : Int) (l1 : List Int) : Option (Int × Int × Int × Int × Int × Bool) := (spec_GridOk.f a0_0 a0_1).bind fun t504 => (if t504 = true then ((spec_CountGaps.f a0_0 a0_1).bind fun t505 => (if t505 > 7 then (spec_FirstFailure.j0 k l1 true a0_0 a0_1) else ((spec_l26Turns.f k l1).bind fun t506 => (spec_FirstFailure.j0 k l1 (!t506) a0_0 a0_1)))) else (spec_FirstFailure.j0 k l1 true a0_0 a0_1))
theorem spec_FirstFailure.mono_l : ∀ k, (∀ y0 y1 y2 y3, LeO (spec_FirstFailure.j0 k y0 y1 y2 y3) (spec_FirstFailure.j0 (k + 1) y0 y1 y2 y3)) ∧ (∀ y0 y1 y2 y3 y4, LeO (spec_FirstFailure.l0 k y0 y1 y2 y3 y4) (spec_FirstFailure.l0 (k + 1) y0 y1 y2 y3 y4)) ∧ (∀ y0 y1 y2 y3 y4 y5, LeO (spec_FirstFailure.l1 k y0 y1 y2 y3 y4 y5) (spec_FirstFailure.l1 (k + 1) y0 y1 y2 y3 y4 y5))
 | 0 => ⟨fun _ _ _ _ r h => by simp [spec_FirstFailure.j0] at h, fun _ _ _ _ _ r h => by simp [spec_FirstFailure.l0] at h, fun _ _ _ _ _ _ r h => by simp [spec_FirstFailure.l1] at h⟩
 | k + 1 => by
  obtain ⟨ih0, ih1, ih2⟩ := spec_FirstFailure.mono_l k
  refine ⟨?_, ?_, ?_⟩
  ·intro y0 y1 y2 y3
   unfold spec_FirstFailure.j0
   repeat' first
   | (with_reducible exact ih0 ..)
   | (with_reducible exact ih1 ..)
   | (with_reducible exact ih2 ..)
   | (with_reducible exact spec_CoversAll.mono ..)
   | (with_reducible exact spec_ListTrees.mono ..)
   | (with_reducible exact spec_l26Turns.mono ..)
   | (with_reducible first | exact lr_ _ | exact ln_ _ | refine li_ ?_ ?_ | refine lb_ ?_ fun _ => ?_)
   | exact ih0 ..
   | exact ih1 ..
   | exact ih2 ..
   | exact spec_CoversAll.mono ..
   | exact spec_ListTrees.mono ..
   | exact spec_l26Turns.mono ..
   | exact ln_ _ | refine li_ ?_ ?_ | refine lb_ ?_ fun _ => ?_
  ·intro y0 y1 y2 y3 y4
   unfold spec_FirstFailure.l0
   repeat' first
   | (with_reducible exact ih0 ..)
   | (with_reducible exact ih1 ..)
   | (with_reducible exact ih2 ..)
   | (with_reducible exact spec_CoversAll.mono ..)
   | (with_reducible exact spec_ListTrees.mono ..)
   | (with_reducible exact spec_l26Turns.mono ..)
   | (with_reducible first | exact lr_ _ | exact ln_ _ | refine li_ ?_ ?_ | refine lb_ ?_ fun _ => ?_)
   | exact ih0 ..
   | exact ih1 ..
   | exact ih2 ..
   | exact spec_CoversAll.mono ..
   | exact spec_ListTrees.mono ..
   | exact spec_l26Turns.mono ..
   | exact ln_ _ | refine li_ ?_ ?_ | refine lb_ ?_ fun _ => ?_
  ·intro y0 y1 y2 y3 y4 y5
   unfold spec_FirstFailure.l1
   repeat' first
   | (with_reducible exact ih0 ..)
   | (with_reducible exact ih1 ..)
   | (with_reducible exact ih2 ..)
   | (with_reducible exact spec_CoversAll.mono ..)
   | (with_reducible exact spec_ListTrees.mono ..)
   | (with_reducible exact spec_l26Turns.mono ..)
   | (with_reducible first | exact lr_ _ | exact ln_ _ | refine li_ ?_ ?_ | refine lb_ ?_ fun _ => ?_)
   | exact ih0 ..
   | exact ih1 ..
   | exact ih2 ..
   | exact spec_CoversAll.mono ..
   | exact spec_ListTrees.mono ..
   | exact spec_l26Turns.mono ..
   | exact ln_ _ | refine li_ ?_ ?_ | refine lb_ ?_ fun _ => ?_
theorem spec_FirstFailure.mono : ∀ a0 a1 a2 k, LeO (spec_FirstFailure.f k a0 a1 a2) (spec_FirstFailure.f (k + 1) a0 a1 a2) := by
 intro a0 a1 a2 k
 obtain ⟨ih0, ih1, ih2⟩ := spec_FirstFailure.mono_l k
 unfold spec_FirstFailure.f
 repeat' first
   | (with_reducible exact ih0 ..)
   | (with_reducible exact ih1 ..)
   | (with_reducible exact ih2 ..)
   | (with_reducible exact spec_CoversAll.mono ..)
   | (with_reducible exact spec_ListTrees.mono ..)
   | (with_reducible exact spec_l26Turns.mono ..)
   | (with_reducible first | exact lr_ _ | exact ln_ _ | refine li_ ?_ ?_ | refine lb_ ?_ fun _ => ?_)
   | exact ih0 ..
   | exact ih1 ..
   | exact ih2 ..
   | exact spec_CoversAll.mono ..
   | exact spec_ListTrees.mono ..
   | exact spec_l26Turns.mono ..
   | exact ln_ _ | refine li_ ?_ ?_ | refine lb_ ?_ fun _ => ?_
def spec_FirstFailure.T11 : Bool × List (List Nat × List Nat) := (true, [([], []), ([], []), ([0, 1], [0, 1]), ([2], [2]), ([], []), ([], []), ([3, 4, 5], [3, 4, 5]), ([6], [6])])
def spec_FirstFailure.B11 : List Nat := [0, 0, 3, 7, 0, 0, 63, 127]
theorem spec_FirstFailure.tab11 : rtab .any (opsOf Try.f45 11) = spec_FirstFailure.T11 := by kernel_rfl
theorem spec_FirstFailure.bits11 : waitsOk spec_FirstFailure.T11.2 spec_FirstFailure.B11 = true := by kernel_rfl
def spec_FirstFailure.T12 : Bool × List (List Nat × List Nat) := (true, [([], []), ([], []), ([0, 1], [0, 1]), ([2], [2]), ([], []), ([3, 0, 1, 2, 3], [3]), ([4, 5, 0, 1, 2, 3, 4, 5], [4]), ([6, 0, 1, 2, 3, 4, 5, 6], [])])
def spec_FirstFailure.B12 : List Nat := [0, 0, 3, 7, 0, 15, 63, 127]
theorem spec_FirstFailure.tab12 : rtab .any (opsOf Try.f45 12) = spec_FirstFailure.T12 := by kernel_rfl
theorem spec_FirstFailure.bits12 : waitsOk spec_FirstFailure.T12.2 spec_FirstFailure.B12 = true := by kernel_rfl
set_option maxHeartbeats 8000000 in
set_option maxRecDepth 100000 in
theorem spec_FirstFailure.calls (k : Nat) (a0_0 : Int) (a0_1 : Int) (A1 : Option Addr) (c1 : Nat) (l1 : List Int) (r1 : Int) (r2 : Int) (r3 : Int) (r4 : Int) (r5 : Int) (r6 : Bool) (w : World) (hr1 : Kd.C (Kd.int .i64) w A1 l1.length l1) (hc1 : l1.length ≤ c1) (h : spec_FirstFailure.f k a0_0 a0_1 l1 = some (r1, r2, r3, r4, r5, r6)) :
  Calls Try.prog 45 #[.agg #[.int .i64 a0_0, .int .i64 a0_1], .slice A1 l1.length c1] w fun e w' => e = .returned (.tuple #[.agg #[.int .i64 r1, .int .i64 r2, .int .i64 r3], .agg #[.int .i64 r4, .int .i64 r5], .bool r6]) ∧ Below w.heap.size w w' := by
 have hu28 := Try.underlying28
 have hu30 := Try.underlying30
 have hu48 := Try.underlying48
 have HR1 := Aside0.mk hr1
 have HC1 := Aside0.mk hc1
 clear hr1 hc1
 have HB := Aside0.mk (Below.refl w.heap.size w)
 have H : ((spec_GridOk.f a0_0 a0_1).bind fun t504 => (if t504 = true then ((spec_CountGaps.f a0_0 a0_1).bind fun t505 => (if t505 > 7 then (spec_FirstFailure.j0 k l1 true a0_0 a0_1) else ((spec_l26Turns.f k l1).bind fun t506 => (spec_FirstFailure.j0 k l1 (!t506) a0_0 a0_1)))) else (spec_FirstFailure.j0 k l1 true a0_0 a0_1))) = some (r1, r2, r3, r4, r5, r6) := h
 clear h
 have HC3 := Aside0.mk H
 clear H
 go_enter Try.func45, Try.ntmps45
 go_upto_region 1 with (first | (refine box_ (N := 2) (cs := #[.int .i64 a0_0, .int .i64 a0_1]) (t := 28) ?_; intro gb501 hg w4 hbox hb; have BK501 := Aside0.mk (hbox); have GW501 := HB.g0 hg; have GE501 := HB.g0 hg; replace HB := HB.s0 hb; clear hb hbox hg) | (refine box_ (N := 4) (cs := #[.int .i64 0, .int .i64 0, .int .i64 0]) (t := 30) ?_; intro gb502 hg w5 hbox hb; have BK502 := Aside0.mk (hbox); have GW502 := HB.g1 GE501 hg; have GE502 := HB.g1 GE501 hg; replace HB := HB.s1 GE501 hb; have NB501_502 := BK501.nl hg; have NB502_501 := BK501.nr hg; replace BK501 := BK501.bb hb; clear hb hbox hg) | (refine box_ (N := 5) (cs := #[.int .i64 0, .int .i64 0]) (t := 48) ?_; intro gb503 hg w6 hbox hb; have BK503 := Aside0.mk (hbox); have GW503 := HB.g2 GE501 GE502 hg; have GE503 := HB.g2 GE501 GE502 hg; replace HB := HB.s2 GE501 GE502 hb; have NB501_503 := BK501.nl hg; have NB503_501 := BK501.nr hg; replace BK501 := BK501.bb hb; have NB502_503 := BK502.nl hg; have NB503_502 := BK502.nr hg; replace BK502 := BK502.bb hb; clear hb hbox hg))
 (try simp only [Act.put, List.setIfInBounds_toArray, List.set_cons_zero, List.set_cons_succ])
 go_cut [23] (fun v23 wc => ∃ (kq : Nat) (x23_2 : Bool), v23 = .bool x23_2 ∧ Aside0 (spec_FirstFailure.j0 kq l1 x23_2 a0_0 a0_1 = some (r1, r2, r3, r4, r5, r6)) ∧ Aside0 (kq ≤ k) ∧ Aside0 (wc.heap[gb501]? = some (.cells #[.int .i64 a0_0, .int .i64 a0_1] 28 (0, 0))) ∧ Aside0 (wc.heap[gb502]? = some (.cells #[.int .i64 0, .int .i64 0, .int .i64 0] 30 (0, 0))) ∧ Aside0 (wc.heap[gb503]? = some (.cells #[.int .i64 0, .int .i64 0] 48 (0, 0))) ∧ Aside0 (Below w.heap.size w wc))
 case first =>
  have H := HC3.out
  clear HC3
  replace H := Option.bind_eq_some_iff.mp H
  obtain ⟨t504, A70, H⟩ := H
  replace H : (if t504 = true then ((spec_CountGaps.f a0_0 a0_1).bind fun t505 => (if t505 > 7 then (spec_FirstFailure.j0 k l1 true a0_0 a0_1) else ((spec_l26Turns.f k l1).bind fun t506 => (spec_FirstFailure.j0 k l1 (!t506) a0_0 a0_1)))) else (spec_FirstFailure.j0 k l1 true a0_0 a0_1)) = some (r1, r2, r3, r4, r5, r6) := H
  have A7 := Aside0.mk A70
  clear A70
  by_cases c8 : t504 = true
  ·subst c8
   have H1 : ((spec_CountGaps.f a0_0 a0_1).bind fun t505 => (if t505 > 7 then (spec_FirstFailure.j0 k l1 true a0_0 a0_1) else ((spec_l26Turns.f k l1).bind fun t506 => (spec_FirstFailure.j0 k l1 (!t506) a0_0 a0_1)))) = some (r1, r2, r3, r4, r5, r6) := by rw [if_pos rfl] at H; exact H
   clear H
   have H := H1
   clear H1
   replace H := Option.bind_eq_some_iff.mp H
   obtain ⟨t505, A90, H⟩ := H
   replace H : (if t505 > 7 then (spec_FirstFailure.j0 k l1 true a0_0 a0_1) else ((spec_l26Turns.f k l1).bind fun t506 => (spec_FirstFailure.j0 k l1 (!t506) a0_0 a0_1))) = some (r1, r2, r3, r4, r5, r6) := H
   have A9 := Aside0.mk A90
   clear A90
   by_cases c10 : t505 > 7
   ·rw [if_pos c10] at H
    have c10b0 : decide (7 < t505) = true := decide_eq_true c10
    clear c10
    (first | rw [c10b0] | (simp only [i64_w, i32_w]; rw [c10b0]) | skip)
    have H' := Aside0.mk H
    clear H
    have hnb11 := NB501_502.out
    have hnc11 := NB502_501.out
    have hnb12 := NB501_503.out
    have hnc12 := NB503_501.out
    obtain ⟨hcz13_0, hcz13_1⟩ := cz2_ BK501.out
    obtain ⟨hfz13_0, hfz13_1⟩ := fz2_ BK501.out
    go_wp2_with (first | (refine gl_ 12 Try.func73 #[.agg #[.int .i64 a0_0, .int .i64 a0_1]] ?_; (with_reducible refine (spec_GridOk.calls a0_0 a0_1 true _ A7.out).mono ?_); rintro e w14 ⟨rfl, hb⟩; refine ⟨_, rfl, ?_⟩; replace BK501 := BK501.bb hb; replace BK502 := BK502.bb hb; replace BK503 := BK503.bb hb; replace HB := HB.s3 GE501 GE502 GE503 hb; (try clear hb); obtain ⟨hcz15_0, hcz15_1⟩ := cz2_ BK501.out; obtain ⟨hfz15_0, hfz15_1⟩ := fz2_ BK501.out) | (go_at_call 74; (with_reducible refine (spec_CountGaps.calls a0_0 a0_1 t505 _ A9.out).mono ?_); rintro e w16 ⟨rfl, hb⟩; replace BK501 := BK501.bb hb; replace BK502 := BK502.bb hb; replace BK503 := BK503.bb hb; replace HB := HB.s3 GE501 GE502 GE503 hb; (try clear hb)))
    go_meet
    case rel => exact ⟨_, (true), (by first | rfl | (simp; done) | (simp [*]; done)), H', ⟨by first | omega | exact Nat.le_refl _⟩, ⟨bk_ BK501.out⟩, ⟨bk_ BK502.out⟩, ⟨bk_ BK503.out⟩, ⟨hb3_ HB.out GE501.out GE502.out GE503.out⟩⟩
   ·rw [if_neg c10] at H
    have c10b0 : decide (7 < t505) = false := decide_eq_false c10
    clear c10
    (first | rw [c10b0] | (simp only [i64_w, i32_w]; rw [c10b0]) | skip)
    replace H := Option.bind_eq_some_iff.mp H
    obtain ⟨t506, A170, H⟩ := H
    replace H : (spec_FirstFailure.j0 k l1 (!t506) a0_0 a0_1) = some (r1, r2, r3, r4, r5, r6) := H
    have A17 := Aside0.mk A170
    clear A170
    have H' := Aside0.mk H
    clear H
    have hnb18 := NB501_502.out
    have hnc18 := NB502_501.out
    have hnb19 := NB501_503.out
    have hnc19 := NB503_501.out
    obtain ⟨hcz20_0, hcz20_1⟩ := cz2_ BK501.out
    obtain ⟨hfz20_0, hfz20_1⟩ := fz2_ BK501.out
    go_wp2_with (first | (refine gl_ 12 Try.func73 #[.agg #[.int .i64 a0_0, .int .i64 a0_1]] ?_; (with_reducible refine (spec_GridOk.calls a0_0 a0_1 true _ A7.out).mono ?_); rintro e w21 ⟨rfl, hb⟩; refine ⟨_, rfl, ?_⟩; replace BK501 := BK501.bb hb; replace BK502 := BK502.bb hb; replace BK503 := BK503.bb hb; replace HB := HB.s3 GE501 GE502 GE503 hb; (try clear hb); obtain ⟨hcz22_0, hcz22_1⟩ := cz2_ BK501.out; obtain ⟨hfz22_0, hfz22_1⟩ := fz2_ BK501.out) | (go_at_call 74; (with_reducible refine (spec_CountGaps.calls a0_0 a0_1 t505 _ A9.out).mono ?_); rintro e w23 ⟨rfl, hb⟩; replace BK501 := BK501.bb hb; replace BK502 := BK502.bb hb; replace BK503 := BK503.bb hb; replace HB := HB.s3 GE501 GE502 GE503 hb; (try clear hb)) | (go_at_call 75; (with_reducible refine (spec_l26Turns.calls k _ _ l1 t506 _ ?side1 ?side2 A17.out).mono ?_); (case side1 => repeat (first | exact (Kd.C_below HR1.out HB.out) | (with_reducible refine Kd.C_alloc ?_ _) | (with_reducible refine Kd.C_drewN ?_ _) | (with_reducible refine Kd.C_drew ?_))); (case side2 => exact HC1.out); rintro e w' ⟨rfl, ⟨nd, rfl⟩⟩))
    go_meet
    case rel => exact ⟨_, (!t506), (by first | rfl | (simp; done) | (simp [*]; done)), H', ⟨by first | omega | exact Nat.le_refl _⟩, ⟨bk_ BK501.out⟩, ⟨bk_ BK502.out⟩, ⟨bk_ BK503.out⟩, ⟨hb3_ HB.out GE501.out GE502.out GE503.out⟩⟩
  ·replace c8 := Bool.eq_false_iff.mpr c8
   subst c8
   have H1 : (spec_FirstFailure.j0 k l1 true a0_0 a0_1) = some (r1, r2, r3, r4, r5, r6) := by rw [if_neg (show ¬ (false = true) by decide)] at H; exact H
   clear H
   have H := H1
   clear H1
   have H' := Aside0.mk H
   clear H
   have hnb24 := NB501_502.out
   have hnc24 := NB502_501.out
   have hnb25 := NB501_503.out
   have hnc25 := NB503_501.out
   obtain ⟨hcz26_0, hcz26_1⟩ := cz2_ BK501.out
   obtain ⟨hfz26_0, hfz26_1⟩ := fz2_ BK501.out
   go_wp2_with (first | (refine gl_ 12 Try.func73 #[.agg #[.int .i64 a0_0, .int .i64 a0_1]] ?_; (with_reducible refine (spec_GridOk.calls a0_0 a0_1 false _ A7.out).mono ?_); rintro e w27 ⟨rfl, hb⟩; refine ⟨_, rfl, ?_⟩; replace BK501 := BK501.bb hb; replace BK502 := BK502.bb hb; replace BK503 := BK503.bb hb; replace HB := HB.s3 GE501 GE502 GE503 hb; (try clear hb)))
   go_meet
   case rel => exact ⟨_, (true), (by first | rfl | (simp; done) | (simp [*]; done)), H', ⟨by first | omega | exact Nat.le_refl _⟩, ⟨bk_ BK501.out⟩, ⟨bk_ BK502.out⟩, ⟨bk_ BK503.out⟩, ⟨hb3_ HB.out GE501.out GE502.out GE503.out⟩⟩
 case rest =>
  clear HC3
  try clear c1
  try clear c2
  try clear p2
  try clear c4
  try clear c7
  try clear c8
  try clear c10
  try clear c10b0
  try clear c11
  try clear c12
  try clear c18
  try clear c19
  try clear c24
  try clear c25
  try clear hcz13_0
  try clear hcz13_1
  try clear hcz15_0
  try clear hcz15_1
  try clear hcz20_0
  try clear hcz20_1
  try clear hcz22_0
  try clear hcz22_1
  try clear hcz26_0
  try clear hcz26_1
  try clear hfz13_0
  try clear hfz13_1
  try clear hfz15_0
  try clear hfz15_1
  try clear hfz20_0
  try clear hfz20_1
  try clear hfz22_0
  try clear hfz22_1
  try clear hfz26_0
  try clear hfz26_1
  obtain ⟨kq, x23_2, rfl, HA, HJ2, BK501, BK502, BK503, HB⟩ := hcut
  cases kq with
  | zero => exact absurd HA.out (by simp [spec_FirstFailure.j0])
  | succ kj2 =>
   have H := HA.out
   clear HA
   simp only [spec_FirstFailure.j0] at H
   by_cases c28 : x23_2 = true
   ·subst c28
    have H1 : (some (0, 0, 0, 0, 0, false)) = some (r1, r2, r3, r4, r5, r6) := by rw [if_pos rfl] at H; exact H
    clear H
    have H := H1
    clear H1
    simp only [Option.some.injEq, Prod.mk.injEq] at H
    obtain ⟨rfl, rfl, rfl, rfl, rfl, rfl⟩ := H
    have hnb29 := NB502_501.out
    have hnc29 := NB501_502.out
    have hnb30 := NB502_503.out
    have hnc30 := NB503_502.out
    obtain ⟨hcz31_0, hcz31_1, hcz31_2⟩ := cz3_ BK502.out
    obtain ⟨hfz31_0, hfz31_1, hfz31_2⟩ := fz3_ BK502.out
    have hnb32 := NB503_501.out
    have hnc32 := NB501_503.out
    obtain ⟨hcz33_0, hcz33_1⟩ := cz2_ BK503.out
    obtain ⟨hfz33_0, hfz33_1⟩ := fz2_ BK503.out
    go_wp2
    refine bodyPost_ret (results_list (rs := [.cell 4 30, .cell 5 48, .tmp 6]) rfl (by simp) (.cell gb502 30 #[.int .i64 0, .int .i64 0, .int .i64 0] (0, 0) _ rfl (by (with_reducible repeat (first | refine blk_drewN ?_ _ | refine blk_drew ?_ | refine blk_alloc ?_ _)); refine blk_far ?_ NB502_503.out _; (with_reducible repeat (first | refine blk_drewN ?_ _ | refine blk_drew ?_ | refine blk_alloc ?_ _)); refine blk_far ?_ NB502_503.out _; (with_reducible repeat (first | refine blk_drewN ?_ _ | refine blk_drew ?_ | refine blk_alloc ?_ _)); refine blk_put (cs := #[.int .i64 0, .int .i64 0, .int .i64 0]) ?_ 2 _ rfl; (with_reducible repeat (first | refine blk_drewN ?_ _ | refine blk_drew ?_ | refine blk_alloc ?_ _)); refine blk_put (cs := #[.int .i64 0, .int .i64 0, .int .i64 0]) ?_ 1 _ rfl; (with_reducible repeat (first | refine blk_drewN ?_ _ | refine blk_drew ?_ | refine blk_alloc ?_ _)); refine blk_put (cs := #[.int .i64 0, .int .i64 0, .int .i64 0]) ?_ 0 _ rfl; (with_reducible repeat (first | refine blk_drewN ?_ _ | refine blk_drew ?_ | refine blk_alloc ?_ _)); exact BK502.out) Try.underlying30 rfl (by kernel_rfl) (.cell gb503 48 #[.int .i64 0, .int .i64 0] (0, 0) _ rfl (by (with_reducible repeat (first | refine blk_drewN ?_ _ | refine blk_drew ?_ | refine blk_alloc ?_ _)); refine blk_put (cs := #[.int .i64 0, .int .i64 0]) ?_ 1 _ rfl; (with_reducible repeat (first | refine blk_drewN ?_ _ | refine blk_drew ?_ | refine blk_alloc ?_ _)); refine blk_put (cs := #[.int .i64 0, .int .i64 0]) ?_ 0 _ rfl; (with_reducible repeat (first | refine blk_drewN ?_ _ | refine blk_drew ?_ | refine blk_alloc ?_ _)); refine blk_far ?_ NB503_502.out _; (with_reducible repeat (first | refine blk_drewN ?_ _ | refine blk_drew ?_ | refine blk_alloc ?_ _)); refine blk_far ?_ NB503_502.out _; (with_reducible repeat (first | refine blk_drewN ?_ _ | refine blk_drew ?_ | refine blk_alloc ?_ _)); refine blk_far ?_ NB503_502.out _; (with_reducible repeat (first | refine blk_drewN ?_ _ | refine blk_drew ?_ | refine blk_alloc ?_ _)); exact BK503.out) Try.underlying48 rfl (by kernel_rfl) (.tmp .nil)))) rfl ?_
    exact ⟨ex_, hb3_ HB.out GE501.out GE502.out GE503.out⟩
   ·replace c28 := Bool.eq_false_iff.mpr c28
    subst c28
    have H1 : ((spec_FullMaze.f a0_0 a0_1).bind fun bt507 => ((spec_ListTrees.f kj2 bt507.1 bt507.2.1 bt507.2.2).bind fun t510 => (spec_FirstFailure.l0 kj2 l1 t510 0 a0_0 a0_1))) = some (r1, r2, r3, r4, r5, r6) := by rw [if_neg (show ¬ (false = true) by decide)] at H; exact H
    clear H
    have H := H1
    clear H1
    replace H := Option.bind_eq_some_iff.mp H
    obtain ⟨⟨t507, t508, t509⟩, A340, H⟩ := H
    replace H : ((spec_ListTrees.f kj2 t507 t508 t509).bind fun t510 => (spec_FirstFailure.l0 kj2 l1 t510 0 a0_0 a0_1)) = some (r1, r2, r3, r4, r5, r6) := H
    have A34 := Aside0.mk A340
    clear A340
    replace H := Option.bind_eq_some_iff.mp H
    obtain ⟨t510, A350, H⟩ := H
    replace H : (spec_FirstFailure.l0 kj2 l1 t510 0 a0_0 a0_1) = some (r1, r2, r3, r4, r5, r6) := H
    have A35 := Aside0.mk A350
    clear A350
    have H' := Aside0.mk H
    clear H
    have hnb36 := NB501_502.out
    have hnc36 := NB502_501.out
    have hnb37 := NB501_503.out
    have hnc37 := NB503_501.out
    obtain ⟨hcz38_0, hcz38_1⟩ := cz2_ BK501.out
    obtain ⟨hfz38_0, hfz38_1⟩ := fz2_ BK501.out
    go_wp2_with (first | (refine gl_ 27 Try.func78 #[.agg #[.int .i64 a0_0, .int .i64 a0_1]] ?_; (with_reducible refine (spec_FullMaze.calls a0_0 a0_1 t507 t508 t509 _ A34.out).mono ?_); rintro e w39 ⟨rfl, hb⟩; refine ⟨_, rfl, ?_⟩; replace BK501 := BK501.bb hb; replace BK502 := BK502.bb hb; replace BK503 := BK503.bb hb; replace HB := HB.s3 GE501 GE502 GE503 hb; (try clear hb)) | (refine gl_ 28 Try.func77 #[.agg #[.int .i64 t507, .int .i64 t508, .int .i64 t509]] ?_; (with_reducible refine (spec_ListTrees.calls kj2 t507 t508 t509 t510 _ A35.out).mono ?_); rintro e w40 ⟨v511, rfl, ho0, hb⟩; refine ⟨_, rfl, ?_⟩; have HO512 := Aside0.mk (Kd.R_lower (Kd.R_newB ho0 (g := gb502) (o := .cells #[.int .i64 0, .int .i64 0, .int .i64 0] 30 (0, 0)) (bk_ BK502.out)) (below_size (hb3_ HB.out GE501.out GE502.out GE503.out))); replace BK501 := BK501.bb hb; replace BK502 := BK502.bb hb; replace BK503 := BK503.bb hb; replace HB := HB.s3 GE501 GE502 GE503 hb; (try clear hb); (try clear ho0)))
    go_loopg [8] kj2 (fun kq v8 w' => ∃ (x8_2 : Int) (x503000_2 : Int) (x503001_2 : Int) (x503002_2 : Int) (x504000_2 : Int) (x504001_2 : Int), v8 = .int .i64 x8_2 ∧ Aside0 (spec_FirstFailure.l0 kq l1 t510 x8_2 a0_0 a0_1 = some (r1, r2, r3, r4, r5, r6)) ∧ Aside0 (kq ≤ kj2) ∧ Aside0 (Kd.R k30 30 w' w.heap.size (fun k_ => k_ ≠ gb502) v511 t510) ∧ Aside0 (w'.heap[gb501]? = some (.cells #[.int .i64 a0_0, .int .i64 a0_1] 28 (0, 0))) ∧ Aside0 (w'.heap[gb502]? = some (.cells #[.int .i64 x503000_2, .int .i64 x503001_2, .int .i64 x503002_2] 30 (0, 0))) ∧ Aside0 (w'.heap[gb503]? = some (.cells #[.int .i64 x504000_2, .int .i64 x504001_2] 48 (0, 0))) ∧ Aside0 (Below w.heap.size w w'))
    case atStart => exact ⟨(0), (0), (0), (0), (0), (0), (by first | rfl | (simp; done) | (simp [*]; done)), H', ⟨Nat.le_refl _⟩, ⟨by (with_reducible repeat (first | apply Kd.R_alloc | apply Kd.R_drewN | apply Kd.R_drew)); exact Kd.R_mono HO512.out (fun _ hk => hk.2)⟩, ⟨bk_ BK501.out⟩, ⟨bk_ BK502.out⟩, ⟨bk_ BK503.out⟩, ⟨hb3_ HB.out GE501.out GE502.out GE503.out⟩⟩
    case round =>
     clear H'
     try clear c1
     try clear c2
     try clear p2
     try clear c3
     try clear c4
     try clear c7
     try clear c8
     try clear c10
     try clear c10b0
     try clear c11
     try clear c12
     try clear c18
     try clear c19
     try clear c24
     try clear c25
     try clear c28
     try clear c29
     try clear c30
     try clear c32
     try clear c36
     try clear c37
     try clear hcz13_0
     try clear hcz13_1
     try clear hcz15_0
     try clear hcz15_1
     try clear hcz20_0
     try clear hcz20_1
     try clear hcz22_0
     try clear hcz22_1
     try clear hcz26_0
     try clear hcz26_1
     try clear hcz31_0
     try clear hcz31_1
     try clear hcz31_2
     try clear hcz33_0
     try clear hcz33_1
     try clear hcz38_0
     try clear hcz38_1
     try clear hfz13_0
     try clear hfz13_1
     try clear hfz15_0
     try clear hfz15_1
     try clear hfz20_0
     try clear hfz20_1
     try clear hfz22_0
     try clear hfz22_1
     try clear hfz26_0
     try clear hfz26_1
     try clear hfz31_0
     try clear hfz31_1
     try clear hfz31_2
     try clear hfz33_0
     try clear hfz33_1
     try clear hfz38_0
     try clear hfz38_1
     try clear p2
     obtain ⟨x8_2, x503000_2, x503001_2, x503002_2, x504000_2, x504001_2, rfl, HA, HK2, HO_7, BK501, BK502, BK503, HB⟩ := hrel
     cases gk with
     | zero => exact absurd HA.out (by simp [spec_FirstFailure.l0])
     | succ k2 =>
      have H := HA.out
      clear HA
      simp only [spec_FirstFailure.l0] at H
      by_cases c41 : x8_2 < (t510.length : Int)
      ·rw [if_pos c41] at H
       have c41b0 : decide (x8_2 < (t510.length : Int)) = true := decide_eq_true c41
       clear c41
       have H' := Aside0.mk H
       clear H
       obtain ⟨Ao42, co42, eo42⟩ := Kd.R_slice HO_7.out
       subst eo42
       go_wp2
       go_loopg [9] k2 (fun kq v9 w' => ∃ (x9_3 : Int) (x503000_3 : Int) (x503001_3 : Int) (x503002_3 : Int) (x504000_3 : Int) (x504001_3 : Int), v9 = .int .i64 x9_3 ∧ Aside0 (spec_FirstFailure.l1 kq l1 t510 x8_2 x9_3 a0_0 a0_1 = some (r1, r2, r3, r4, r5, r6)) ∧ Aside0 (kq ≤ k2) ∧ Aside0 (Kd.R k30 30 w' w.heap.size (fun k_ => k_ ≠ gb502) (.slice Ao42 t510.length co42) t510) ∧ Aside0 (w'.heap[gb501]? = some (.cells #[.int .i64 a0_0, .int .i64 a0_1] 28 (0, 0))) ∧ Aside0 (w'.heap[gb502]? = some (.cells #[.int .i64 x503000_3, .int .i64 x503001_3, .int .i64 x503002_3] 30 (0, 0))) ∧ Aside0 (w'.heap[gb503]? = some (.cells #[.int .i64 x504000_3, .int .i64 x504001_3] 48 (0, 0))) ∧ Aside0 (Below w.heap.size w w'))
       case atStart => exact ⟨(0), (x503000_2), (x503001_2), (x503002_2), (x504000_2), (x504001_2), (by first | rfl | (simp; done) | (simp [*]; done)), H', ⟨Nat.le_refl _⟩, ⟨kr_ HO_7.out⟩, ⟨bk_ BK501.out⟩, ⟨bk_ BK502.out⟩, ⟨bk_ BK503.out⟩, ⟨hb3_ HB.out GE501.out GE502.out GE503.out⟩⟩
       case round =>
        clear H'
        try clear c1
        try clear c2
        try clear p2
        try clear c3
        try clear c4
        try clear c7
        try clear c8
        try clear c10
        try clear c10b0
        try clear c11
        try clear c12
        try clear c18
        try clear c19
        try clear c24
        try clear c25
        try clear c28
        try clear c29
        try clear c30
        try clear c32
        try clear c36
        try clear c37
        try clear c41
        try clear c41b0
        try clear hcz13_0
        try clear hcz13_1
        try clear hcz15_0
        try clear hcz15_1
        try clear hcz20_0
        try clear hcz20_1
        try clear hcz22_0
        try clear hcz22_1
        try clear hcz26_0
        try clear hcz26_1
        try clear hcz31_0
        try clear hcz31_1
        try clear hcz31_2
        try clear hcz33_0
        try clear hcz33_1
        try clear hcz38_0
        try clear hcz38_1
        try clear hfz13_0
        try clear hfz13_1
        try clear hfz15_0
        try clear hfz15_1
        try clear hfz20_0
        try clear hfz20_1
        try clear hfz22_0
        try clear hfz22_1
        try clear hfz26_0
        try clear hfz26_1
        try clear hfz31_0
        try clear hfz31_1
        try clear hfz31_2
        try clear hfz33_0
        try clear hfz33_1
        try clear hfz38_0
        try clear hfz38_1
        try clear p2
        obtain ⟨x9_3, x503000_3, x503001_3, x503002_3, x504000_3, x504001_3, rfl, HA, HK3, HO_7, BK501, BK502, BK503, HB⟩ := hrel
        cases gk with
        | zero => exact absurd HA.out (by simp [spec_FirstFailure.l1])
        | succ k3 =>
         have H := HA.out
         clear HA
         simp only [spec_FirstFailure.l1] at H
         replace H := Option.bind_eq_some_iff.mp H
         obtain ⟨t513, A430, H⟩ := H
         replace H : (if x9_3 < (wrap64 (4 * t513)) then (if 0 ≤ x8_2 then (if x8_2 < (t510.length : Int) then ((spec_CoversAll.f k3 ((rd_T30 t510 x8_2).f0.f0) ((rd_T30 t510 x8_2).f0.f1) ((rd_T30 t510 x8_2).f1) (wrap64 (Int.tdiv x9_3 4)) (Int.tmod x9_3 4) l1).bind fun t516 => (if t516 = true then (spec_FirstFailure.l1 k3 l1 t510 x8_2 (wrap64 (x9_3 + 1)) a0_0 a0_1) else (some ((rd_T30 t510 x8_2).f0.f0, (rd_T30 t510 x8_2).f0.f1, (rd_T30 t510 x8_2).f1, wrap64 (Int.tdiv x9_3 4), Int.tmod x9_3 4, true)))) else (none)) else (none)) else (spec_FirstFailure.l0 k3 l1 t510 (wrap64 (x8_2 + 1)) a0_0 a0_1)) = some (r1, r2, r3, r4, r5, r6) := H
         have A43 := Aside0.mk A430
         clear A430
         by_cases c44 : x9_3 < (wrap64 (4 * t513))
         ·rw [if_pos c44] at H
          have c44b0 : decide (x9_3 < (wrap64 (4 * t513))) = true := decide_eq_true c44
          clear c44
          by_cases c45 : 0 ≤ x8_2
          ·rw [if_pos c45] at H
           have c45b0 : decide (0 ≤ x8_2) = true := decide_eq_true c45
           clear c45
           by_cases c46 : x8_2 < (t510.length : Int)
           ·rw [if_pos c46] at H
            have c46b0 : decide (x8_2 < (t510.length : Int)) = true := decide_eq_true c46
            clear c46
            replace H := Option.bind_eq_some_iff.mp H
            obtain ⟨t516, A470, H⟩ := H
            replace H : (if t516 = true then (spec_FirstFailure.l1 k3 l1 t510 x8_2 (wrap64 (x9_3 + 1)) a0_0 a0_1) else (some ((rd_T30 t510 x8_2).f0.f0, (rd_T30 t510 x8_2).f0.f1, (rd_T30 t510 x8_2).f1, wrap64 (Int.tdiv x9_3 4), Int.tmod x9_3 4, true))) = some (r1, r2, r3, r4, r5, r6) := H
            have A47 := Aside0.mk A470
            clear A470
            by_cases c48 : t516 = true
            ·subst c48
             have H1 : (spec_FirstFailure.l1 k3 l1 t510 x8_2 (wrap64 (x9_3 + 1)) a0_0 a0_1) = some (r1, r2, r3, r4, r5, r6) := by rw [if_pos rfl] at H; exact H
             clear H
             have H := H1
             clear H1
             have H' := Aside0.mk H
             clear H
             have hnb49 := NB501_502.out
             have hnc49 := NB502_501.out
             have hnb50 := NB501_503.out
             have hnc50 := NB503_501.out
             obtain ⟨hcz51_0, hcz51_1⟩ := cz2_ BK501.out
             obtain ⟨hfz51_0, hfz51_1⟩ := fz2_ BK501.out
             try go_wp2_with (first | (refine gl_ 37 Try.func39 #[.agg #[.int .i64 a0_0, .int .i64 a0_1]] ?_; (with_reducible refine (spec_CountCells.calls a0_0 a0_1 t513 _ A43.out).mono ?_); rintro e w52 ⟨rfl, hb⟩; refine ⟨_, rfl, ?_⟩; replace HO_7 := HO_7.kb hb; replace BK501 := BK501.bb hb; replace BK502 := BK502.bb hb; replace BK503 := BK503.bb hb; replace HB := HB.s3 GE501 GE502 GE503 hb; (try clear hb)) | (refine box_ (N := 10) (cs := #[.int .i64 0, .int .i64 0]) (t := 48) ?_; intro gb514 hg w53 hbox hb; replace HO_7 := HO_7.kb hb; have BK514 := Aside0.mk (hbox); have GW514 := HB.g3 GE501 GE502 GE503 hg; have GE514 := HB.g3 GE501 GE502 GE503 hg; replace HB := HB.s3 GE501 GE502 GE503 hb; have NB501_514 := BK501.nl hg; have NB514_501 := BK501.nr hg; replace BK501 := BK501.bb hb; have NB502_514 := BK502.nl hg; have NB514_502 := BK502.nr hg; replace BK502 := BK502.bb hb; have NB503_514 := BK503.nl hg; have NB514_503 := BK503.nr hg; replace BK503 := BK503.bb hb; clear hb hbox hg; have hnb54 := NB514_501.out; have hnc54 := NB501_514.out; have hnb55 := NB514_502.out; have hnc55 := NB502_514.out; have hnb56 := NB514_503.out; have hnc56 := NB503_514.out; obtain ⟨hcz57_0, hcz57_1⟩ := cz2_ BK514.out; obtain ⟨hfz57_0, hfz57_1⟩ := fz2_ BK514.out))
             have n0_ : Aside0 (Kd.R k30 30 ((w53.setCell ⟨gb514, 0, none⟩ (.int .i64 (wrap64 (Int.tdiv x9_3 4)))).setCell ⟨gb514, 1, none⟩ (.int .i64 (Int.tmod x9_3 4))) w.heap.size (fun k_ => k_ ≠ gb502) (.slice Ao42 t510.length co42) t510) := ⟨by (with_reducible repeat (first | apply Kd.R_alloc | apply Kd.R_drewN | apply Kd.R_drew)); exact Kd.R_mono (Kd.R_far (p := ⟨gb514, 1, none⟩) (Kd.R_far (p := ⟨gb514, 0, none⟩) (Kd.R_types HO_7.out BK514.out (by decide)) (fun _ hk => hk.2) (.int .i64 (wrap64 (Int.tdiv x9_3 4)))) (fun _ hk => hk.2) (.int .i64 (Int.tmod x9_3 4))) (fun _ hk => hk.1)⟩
             have n1_ : Aside0 (((w53.setCell ⟨gb514, 0, none⟩ (.int .i64 (wrap64 (Int.tdiv x9_3 4)))).setCell ⟨gb514, 1, none⟩ (.int .i64 (Int.tmod x9_3 4))).heap[gb501]? = some (.cells #[.int .i64 a0_0, .int .i64 a0_1] 28 (0, 0))) := ⟨by (with_reducible repeat (first | refine blk_drewN ?_ _ | refine blk_drew ?_ | refine blk_alloc ?_ _)); refine blk_far ?_ NB501_514.out _; (with_reducible repeat (first | refine blk_drewN ?_ _ | refine blk_drew ?_ | refine blk_alloc ?_ _)); refine blk_far ?_ NB501_514.out _; (with_reducible repeat (first | refine blk_drewN ?_ _ | refine blk_drew ?_ | refine blk_alloc ?_ _)); exact BK501.out⟩
             have n2_ : Aside0 (((w53.setCell ⟨gb514, 0, none⟩ (.int .i64 (wrap64 (Int.tdiv x9_3 4)))).setCell ⟨gb514, 1, none⟩ (.int .i64 (Int.tmod x9_3 4))).heap[gb502]? = some (.cells #[.int .i64 x503000_3, .int .i64 x503001_3, .int .i64 x503002_3] 30 (0, 0))) := ⟨by (with_reducible repeat (first | refine blk_drewN ?_ _ | refine blk_drew ?_ | refine blk_alloc ?_ _)); refine blk_far ?_ NB502_514.out _; (with_reducible repeat (first | refine blk_drewN ?_ _ | refine blk_drew ?_ | refine blk_alloc ?_ _)); refine blk_far ?_ NB502_514.out _; (with_reducible repeat (first | refine blk_drewN ?_ _ | refine blk_drew ?_ | refine blk_alloc ?_ _)); exact BK502.out⟩
             have n3_ : Aside0 (((w53.setCell ⟨gb514, 0, none⟩ (.int .i64 (wrap64 (Int.tdiv x9_3 4)))).setCell ⟨gb514, 1, none⟩ (.int .i64 (Int.tmod x9_3 4))).heap[gb503]? = some (.cells #[.int .i64 x504000_3, .int .i64 x504001_3] 48 (0, 0))) := ⟨by (with_reducible repeat (first | refine blk_drewN ?_ _ | refine blk_drew ?_ | refine blk_alloc ?_ _)); refine blk_far ?_ NB503_514.out _; (with_reducible repeat (first | refine blk_drewN ?_ _ | refine blk_drew ?_ | refine blk_alloc ?_ _)); refine blk_far ?_ NB503_514.out _; (with_reducible repeat (first | refine blk_drewN ?_ _ | refine blk_drew ?_ | refine blk_alloc ?_ _)); exact BK503.out⟩
             have n4_ : Aside0 (((w53.setCell ⟨gb514, 0, none⟩ (.int .i64 (wrap64 (Int.tdiv x9_3 4)))).setCell ⟨gb514, 1, none⟩ (.int .i64 (Int.tmod x9_3 4))).heap[gb514]? = some (.cells #[.int .i64 (wrap64 (Int.tdiv x9_3 4)), .int .i64 (Int.tmod x9_3 4)] 48 (0, 0))) := ⟨bq2_ BK514.out⟩
             have n5_ : Aside0 (Below w.heap.size w ((w53.setCell ⟨gb514, 0, none⟩ (.int .i64 (wrap64 (Int.tdiv x9_3 4)))).setCell ⟨gb514, 1, none⟩ (.int .i64 (Int.tmod x9_3 4)))) := ⟨hb4_ HB.out GE501.out GE502.out GE503.out GE514.out⟩
             (try clear HO_7)
             (try clear BK501)
             (try clear BK502)
             (try clear BK503)
             (try clear BK514)
             (try clear HB)
             generalize ((w53.setCell ⟨gb514, 0, none⟩ (.int .i64 (wrap64 (Int.tdiv x9_3 4)))).setCell ⟨gb514, 1, none⟩ (.int .i64 (Int.tmod x9_3 4))) = w58 at n0_ n1_ n2_ n3_ n4_ n5_ ⊢
             have HO_7 := n0_
             have BK501 := n1_
             have BK502 := n2_
             have BK503 := n3_
             have BK514 := n4_
             have HB := n5_
             clear n0_ n1_ n2_ n3_ n4_ n5_
             replace HO_7 := Aside0.mk (Kd.R_drew HO_7.out)
             replace BK501 := Aside0.mk (blk_drew BK501.out)
             replace BK502 := Aside0.mk (blk_drew BK502.out)
             replace BK503 := Aside0.mk (blk_drew BK503.out)
             replace BK514 := Aside0.mk (blk_drew BK514.out)
             replace HB := Aside0.mk (below_drew1 HB.out)
             have p515 : 0 ≤ (x8_2 : Int) := of_decide_eq_true (as_)
             have q515 : x8_2 < (t510.length : Int) := of_decide_eq_true (as_)
             obtain ⟨ad515, e515, hx515_0, hx515_1, hx515_2⟩ := at_T30 (Kd.R_reads' HO_7.out).2.2 x8_2 p515 q515
             cases e515
             replace p515 := eq_true p515
             replace q515 := eq_true q515
             refine start_ (n := 8) (S := fun w' => w'.cell? ⟨gb514, 0, none⟩ = some (.int .i64 (wrap64 (Int.tdiv x9_3 4))) ∧ w'.cell? ⟨gb514, 1, none⟩ = some (.int .i64 (Int.tmod x9_3 4)) ∧ w'.cell? (ad515.add ((x8_2).toNat * 3)) = some (.int .i64 ((rd_T30 t510 x8_2).f0.f0)) ∧ w'.cell? ⟨(ad515.add ((x8_2).toNat * 3)).block, (ad515.add ((x8_2).toNat * 3)).off + 1, none⟩ = some (.int .i64 ((rd_T30 t510 x8_2).f0.f1)) ∧ w'.cell? ⟨(ad515.add ((x8_2).toNat * 3)).block, (ad515.add ((x8_2).toNat * 3)).off + 2, none⟩ = some (.int .i64 ((rd_T30 t510 x8_2).f1))) (ds := []) #[false, false, false, false, false, false, false, false] (by kernel_rfl) rfl rfl ⟨BK514.c 0, BK514.c 1, hx515_0, hx515_1, hx515_2⟩ (fun hHeld => ?_); refine with_tabW spec_FirstFailure.tab11 spec_FirstFailure.bits11 (fun HT_ HW_ => ?_)
             generalize w58.drew = w59 at HO_7 BK501 BK502 BK503 BK514 HB hx515_0 hx515_1 hx515_2 hHeld ⊢
             refine pv_ (i := 0) (N := some 47) HT_.out ?_
             refine pv_ (i := 1) (N := some 48) HT_.out ?_
             refine pv_ (i := 2) (N := some 49) HT_.out ?_
             refine pv_ (i := 5) (N := some 52) HT_.out ?_
             refine tv5_ (i := 3) (N := some 50) HT_.out HW_.out hHeld ?_
             refine tv5_ (i := 4) (N := some 51) HT_.out HW_.out hHeld ?_
             refine ov_ (i := 6) (N := some 53) HT_.out (fun K hK => ?_)
             refine gq_ Try.func31 #[.agg #[.int .i64 ((rd_T30 t510 x8_2).f0.f0), .int .i64 ((rd_T30 t510 x8_2).f0.f1), .int .i64 ((rd_T30 t510 x8_2).f1)], .agg #[.int .i64 (wrap64 (Int.tdiv x9_3 4)), .int .i64 (Int.tmod x9_3 4)], .slice A1 l1.length c1] ?_
             with_reducible refine (spec_CoversAll.calls k3 ((rd_T30 t510 x8_2).f0.f0) ((rd_T30 t510 x8_2).f0.f1) ((rd_T30 t510 x8_2).f1) (wrap64 (Int.tdiv x9_3 4)) (Int.tmod x9_3 4) _ _ l1 true _ ?side1 ?side2 A47.out).mono ?_
             (case side1 => repeat (first | exact (Kd.C_below HR1.out HB.out) | (with_reducible refine Kd.C_alloc ?_ _) | (with_reducible refine Kd.C_drewN ?_ _) | (with_reducible refine Kd.C_drew ?_)))
             (case side2 => exact HC1.out)
             rintro e w60 ⟨rfl, hb⟩
             have HS2_ := (hb.cell (World.block_lt_of_cell? _ _ (hHeld.2.2.1))).trans (hHeld.2.2.1)
             have HS3_ := (hb.cell (World.block_lt_of_cell? _ _ (hHeld.2.2.2.1))).trans (hHeld.2.2.2.1)
             have HS4_ := (hb.cell (World.block_lt_of_cell? _ _ (hHeld.2.2.2.2))).trans (hHeld.2.2.2.2)
             refine ⟨_, rfl, ?_⟩
             replace HO_7 := HO_7.kb hb
             replace BK501 := BK501.bb hb
             replace BK502 := BK502.bb hb
             replace BK503 := BK503.bb hb
             replace BK514 := BK514.bb hb
             replace HB := HB.s4 GE501 GE502 GE503 GE514 hb
             skip
             (try clear hb2)
             (try clear hk)
             (try clear hi)
             refine hK.out _ _ ⟨BK514.c 0, BK514.c 1, HS2_, HS3_, HS4_⟩ (fun hHeld => ?_)
             clear hK K
             refine nm_ ?_
             refine pv_ (i := 7) (N := some 54) HT_.out ?_
             refine done_ (done_of HT_.out (by kernel_rfl)) ?_
             try go_wp2
             go_roundg k3
             case measure => have := HJ2.out; have := HK2.out; have := HK3.out; omega
             case rel => exact ⟨(wrap64 (x9_3 + 1)), (x503000_3), (x503001_3), (x503002_3), (x504000_3), (x504001_3), (by first | rfl | (simp; done) | (simp [*]; done)), H', ⟨by have := HJ2.out; have := HK2.out; have := HK3.out; omega⟩, ⟨kr_ HO_7.out⟩, ⟨bk_ BK501.out⟩, ⟨bk_ BK502.out⟩, ⟨bk_ BK503.out⟩, ⟨hb4_ HB.out GE501.out GE502.out GE503.out GE514.out⟩⟩
            ·replace c48 := Bool.eq_false_iff.mpr c48
             subst c48
             have H1 : (some ((rd_T30 t510 x8_2).f0.f0, (rd_T30 t510 x8_2).f0.f1, (rd_T30 t510 x8_2).f1, wrap64 (Int.tdiv x9_3 4), Int.tmod x9_3 4, true)) = some (r1, r2, r3, r4, r5, r6) := by rw [if_neg (show ¬ (false = true) by decide)] at H; exact H
             clear H
             have H := H1
             clear H1
             simp only [Option.some.injEq, Prod.mk.injEq] at H
             obtain ⟨rfl, rfl, rfl, rfl, rfl, rfl⟩ := H
             have hnb61 := NB501_502.out
             have hnc61 := NB502_501.out
             have hnb62 := NB501_503.out
             have hnc62 := NB503_501.out
             obtain ⟨hcz63_0, hcz63_1⟩ := cz2_ BK501.out
             obtain ⟨hfz63_0, hfz63_1⟩ := fz2_ BK501.out
             try go_wp2_with (first | (refine gl_ 37 Try.func39 #[.agg #[.int .i64 a0_0, .int .i64 a0_1]] ?_; (with_reducible refine (spec_CountCells.calls a0_0 a0_1 t513 _ A43.out).mono ?_); rintro e w64 ⟨rfl, hb⟩; refine ⟨_, rfl, ?_⟩; replace HO_7 := HO_7.kb hb; replace BK501 := BK501.bb hb; replace BK502 := BK502.bb hb; replace BK503 := BK503.bb hb; replace HB := HB.s3 GE501 GE502 GE503 hb; (try clear hb)) | (refine box_ (N := 10) (cs := #[.int .i64 0, .int .i64 0]) (t := 48) ?_; intro gb514 hg w65 hbox hb; replace HO_7 := HO_7.kb hb; have BK514 := Aside0.mk (hbox); have GW514 := HB.g3 GE501 GE502 GE503 hg; have GE514 := HB.g3 GE501 GE502 GE503 hg; replace HB := HB.s3 GE501 GE502 GE503 hb; have NB501_514 := BK501.nl hg; have NB514_501 := BK501.nr hg; replace BK501 := BK501.bb hb; have NB502_514 := BK502.nl hg; have NB514_502 := BK502.nr hg; replace BK502 := BK502.bb hb; have NB503_514 := BK503.nl hg; have NB514_503 := BK503.nr hg; replace BK503 := BK503.bb hb; clear hb hbox hg; have hnb66 := NB514_501.out; have hnc66 := NB501_514.out; have hnb67 := NB514_502.out; have hnc67 := NB502_514.out; have hnb68 := NB514_503.out; have hnc68 := NB503_514.out; obtain ⟨hcz69_0, hcz69_1⟩ := cz2_ BK514.out; obtain ⟨hfz69_0, hfz69_1⟩ := fz2_ BK514.out))
             have n0_ : Aside0 (Kd.R k30 30 ((w65.setCell ⟨gb514, 0, none⟩ (.int .i64 (wrap64 (Int.tdiv x9_3 4)))).setCell ⟨gb514, 1, none⟩ (.int .i64 (Int.tmod x9_3 4))) w.heap.size (fun k_ => k_ ≠ gb502) (.slice Ao42 t510.length co42) t510) := ⟨by (with_reducible repeat (first | apply Kd.R_alloc | apply Kd.R_drewN | apply Kd.R_drew)); exact Kd.R_mono (Kd.R_far (p := ⟨gb514, 1, none⟩) (Kd.R_far (p := ⟨gb514, 0, none⟩) (Kd.R_types HO_7.out BK514.out (by decide)) (fun _ hk => hk.2) (.int .i64 (wrap64 (Int.tdiv x9_3 4)))) (fun _ hk => hk.2) (.int .i64 (Int.tmod x9_3 4))) (fun _ hk => hk.1)⟩
             have n1_ : Aside0 (((w65.setCell ⟨gb514, 0, none⟩ (.int .i64 (wrap64 (Int.tdiv x9_3 4)))).setCell ⟨gb514, 1, none⟩ (.int .i64 (Int.tmod x9_3 4))).heap[gb501]? = some (.cells #[.int .i64 a0_0, .int .i64 a0_1] 28 (0, 0))) := ⟨by (with_reducible repeat (first | refine blk_drewN ?_ _ | refine blk_drew ?_ | refine blk_alloc ?_ _)); refine blk_far ?_ NB501_514.out _; (with_reducible repeat (first | refine blk_drewN ?_ _ | refine blk_drew ?_ | refine blk_alloc ?_ _)); refine blk_far ?_ NB501_514.out _; (with_reducible repeat (first | refine blk_drewN ?_ _ | refine blk_drew ?_ | refine blk_alloc ?_ _)); exact BK501.out⟩
             have n2_ : Aside0 (((w65.setCell ⟨gb514, 0, none⟩ (.int .i64 (wrap64 (Int.tdiv x9_3 4)))).setCell ⟨gb514, 1, none⟩ (.int .i64 (Int.tmod x9_3 4))).heap[gb502]? = some (.cells #[.int .i64 x503000_3, .int .i64 x503001_3, .int .i64 x503002_3] 30 (0, 0))) := ⟨by (with_reducible repeat (first | refine blk_drewN ?_ _ | refine blk_drew ?_ | refine blk_alloc ?_ _)); refine blk_far ?_ NB502_514.out _; (with_reducible repeat (first | refine blk_drewN ?_ _ | refine blk_drew ?_ | refine blk_alloc ?_ _)); refine blk_far ?_ NB502_514.out _; (with_reducible repeat (first | refine blk_drewN ?_ _ | refine blk_drew ?_ | refine blk_alloc ?_ _)); exact BK502.out⟩
             have n3_ : Aside0 (((w65.setCell ⟨gb514, 0, none⟩ (.int .i64 (wrap64 (Int.tdiv x9_3 4)))).setCell ⟨gb514, 1, none⟩ (.int .i64 (Int.tmod x9_3 4))).heap[gb503]? = some (.cells #[.int .i64 x504000_3, .int .i64 x504001_3] 48 (0, 0))) := ⟨by (with_reducible repeat (first | refine blk_drewN ?_ _ | refine blk_drew ?_ | refine blk_alloc ?_ _)); refine blk_far ?_ NB503_514.out _; (with_reducible repeat (first | refine blk_drewN ?_ _ | refine blk_drew ?_ | refine blk_alloc ?_ _)); refine blk_far ?_ NB503_514.out _; (with_reducible repeat (first | refine blk_drewN ?_ _ | refine blk_drew ?_ | refine blk_alloc ?_ _)); exact BK503.out⟩
             have n4_ : Aside0 (((w65.setCell ⟨gb514, 0, none⟩ (.int .i64 (wrap64 (Int.tdiv x9_3 4)))).setCell ⟨gb514, 1, none⟩ (.int .i64 (Int.tmod x9_3 4))).heap[gb514]? = some (.cells #[.int .i64 (wrap64 (Int.tdiv x9_3 4)), .int .i64 (Int.tmod x9_3 4)] 48 (0, 0))) := ⟨bq2_ BK514.out⟩
             have n5_ : Aside0 (Below w.heap.size w ((w65.setCell ⟨gb514, 0, none⟩ (.int .i64 (wrap64 (Int.tdiv x9_3 4)))).setCell ⟨gb514, 1, none⟩ (.int .i64 (Int.tmod x9_3 4)))) := ⟨hb4_ HB.out GE501.out GE502.out GE503.out GE514.out⟩
             (try clear HO_7)
             (try clear BK501)
             (try clear BK502)
             (try clear BK503)
             (try clear BK514)
             (try clear HB)
             generalize ((w65.setCell ⟨gb514, 0, none⟩ (.int .i64 (wrap64 (Int.tdiv x9_3 4)))).setCell ⟨gb514, 1, none⟩ (.int .i64 (Int.tmod x9_3 4))) = w70 at n0_ n1_ n2_ n3_ n4_ n5_ ⊢
             have HO_7 := n0_
             have BK501 := n1_
             have BK502 := n2_
             have BK503 := n3_
             have BK514 := n4_
             have HB := n5_
             clear n0_ n1_ n2_ n3_ n4_ n5_
             replace HO_7 := Aside0.mk (Kd.R_drew HO_7.out)
             replace BK501 := Aside0.mk (blk_drew BK501.out)
             replace BK502 := Aside0.mk (blk_drew BK502.out)
             replace BK503 := Aside0.mk (blk_drew BK503.out)
             replace BK514 := Aside0.mk (blk_drew BK514.out)
             replace HB := Aside0.mk (below_drew1 HB.out)
             have p515 : 0 ≤ (x8_2 : Int) := of_decide_eq_true (as_)
             have q515 : x8_2 < (t510.length : Int) := of_decide_eq_true (as_)
             obtain ⟨ad515, e515, hx515_0, hx515_1, hx515_2⟩ := at_T30 (Kd.R_reads' HO_7.out).2.2 x8_2 p515 q515
             cases e515
             replace p515 := eq_true p515
             replace q515 := eq_true q515
             refine start_ (n := 8) (S := fun w' => w'.cell? ⟨gb514, 0, none⟩ = some (.int .i64 (wrap64 (Int.tdiv x9_3 4))) ∧ w'.cell? ⟨gb514, 1, none⟩ = some (.int .i64 (Int.tmod x9_3 4)) ∧ w'.cell? (ad515.add ((x8_2).toNat * 3)) = some (.int .i64 ((rd_T30 t510 x8_2).f0.f0)) ∧ w'.cell? ⟨(ad515.add ((x8_2).toNat * 3)).block, (ad515.add ((x8_2).toNat * 3)).off + 1, none⟩ = some (.int .i64 ((rd_T30 t510 x8_2).f0.f1)) ∧ w'.cell? ⟨(ad515.add ((x8_2).toNat * 3)).block, (ad515.add ((x8_2).toNat * 3)).off + 2, none⟩ = some (.int .i64 ((rd_T30 t510 x8_2).f1))) (ds := []) #[false, false, false, false, false, false, false, false] (by kernel_rfl) rfl rfl ⟨BK514.c 0, BK514.c 1, hx515_0, hx515_1, hx515_2⟩ (fun hHeld => ?_); refine with_tabW spec_FirstFailure.tab11 spec_FirstFailure.bits11 (fun HT_ HW_ => ?_)
             generalize w70.drew = w71 at HO_7 BK501 BK502 BK503 BK514 HB hx515_0 hx515_1 hx515_2 hHeld ⊢
             refine pv_ (i := 0) (N := some 47) HT_.out ?_
             refine pv_ (i := 1) (N := some 48) HT_.out ?_
             refine pv_ (i := 2) (N := some 49) HT_.out ?_
             refine pv_ (i := 5) (N := some 52) HT_.out ?_
             refine tv5_ (i := 3) (N := some 50) HT_.out HW_.out hHeld ?_
             refine tv5_ (i := 4) (N := some 51) HT_.out HW_.out hHeld ?_
             refine ov_ (i := 6) (N := some 53) HT_.out (fun K hK => ?_)
             refine gq_ Try.func31 #[.agg #[.int .i64 ((rd_T30 t510 x8_2).f0.f0), .int .i64 ((rd_T30 t510 x8_2).f0.f1), .int .i64 ((rd_T30 t510 x8_2).f1)], .agg #[.int .i64 (wrap64 (Int.tdiv x9_3 4)), .int .i64 (Int.tmod x9_3 4)], .slice A1 l1.length c1] ?_
             with_reducible refine (spec_CoversAll.calls k3 ((rd_T30 t510 x8_2).f0.f0) ((rd_T30 t510 x8_2).f0.f1) ((rd_T30 t510 x8_2).f1) (wrap64 (Int.tdiv x9_3 4)) (Int.tmod x9_3 4) _ _ l1 false _ ?side1 ?side2 A47.out).mono ?_
             (case side1 => repeat (first | exact (Kd.C_below HR1.out HB.out) | (with_reducible refine Kd.C_alloc ?_ _) | (with_reducible refine Kd.C_drewN ?_ _) | (with_reducible refine Kd.C_drew ?_)))
             (case side2 => exact HC1.out)
             rintro e w72 ⟨rfl, hb⟩
             have HS2_ := (hb.cell (World.block_lt_of_cell? _ _ (hHeld.2.2.1))).trans (hHeld.2.2.1)
             have HS3_ := (hb.cell (World.block_lt_of_cell? _ _ (hHeld.2.2.2.1))).trans (hHeld.2.2.2.1)
             have HS4_ := (hb.cell (World.block_lt_of_cell? _ _ (hHeld.2.2.2.2))).trans (hHeld.2.2.2.2)
             refine ⟨_, rfl, ?_⟩
             replace HO_7 := HO_7.kb hb
             replace BK501 := BK501.bb hb
             replace BK502 := BK502.bb hb
             replace BK503 := BK503.bb hb
             replace BK514 := BK514.bb hb
             replace HB := HB.s4 GE501 GE502 GE503 GE514 hb
             skip
             (try clear hb2)
             (try clear hk)
             (try clear hi)
             refine hK.out _ _ ⟨BK514.c 0, BK514.c 1, HS2_, HS3_, HS4_⟩ (fun hHeld => ?_)
             clear hK K
             refine nm_ ?_
             refine pv_ (i := 7) (N := some 54) HT_.out ?_
             refine done_ (done_of HT_.out (by kernel_rfl)) ?_
             try go_wp2
             replace HO_7 := Aside0.mk (Kd.R_drew HO_7.out)
             replace BK501 := Aside0.mk (blk_drew BK501.out)
             replace BK502 := Aside0.mk (blk_drew BK502.out)
             replace BK503 := Aside0.mk (blk_drew BK503.out)
             replace BK514 := Aside0.mk (blk_drew BK514.out)
             replace HB := Aside0.mk (below_drew1 HB.out)
             have p517 : 0 ≤ (x8_2 : Int) := of_decide_eq_true (as_)
             have q517 : x8_2 < (t510.length : Int) := of_decide_eq_true (as_)
             obtain ⟨ad517, e517, hx517_0, hx517_1, hx517_2⟩ := at_T30 (Kd.R_reads' HO_7.out).2.2 x8_2 p517 q517
             obtain rfl : ad515 = ad517 := (by injection e517)
             replace p517 := eq_true p517
             replace q517 := eq_true q517
             refine start_ (n := 8) (S := fun w' => w'.cell? ⟨gb514, 0, none⟩ = some (.int .i64 (wrap64 (Int.tdiv x9_3 4))) ∧ w'.cell? ⟨gb514, 1, none⟩ = some (.int .i64 (Int.tmod x9_3 4)) ∧ w'.cell? (ad515.add ((x8_2).toNat * 3)) = some (.int .i64 ((rd_T30 t510 x8_2).f0.f0)) ∧ w'.cell? ⟨(ad515.add ((x8_2).toNat * 3)).block, (ad515.add ((x8_2).toNat * 3)).off + 1, none⟩ = some (.int .i64 ((rd_T30 t510 x8_2).f0.f1)) ∧ w'.cell? ⟨(ad515.add ((x8_2).toNat * 3)).block, (ad515.add ((x8_2).toNat * 3)).off + 2, none⟩ = some (.int .i64 ((rd_T30 t510 x8_2).f1))) (ds := []) #[false, false, false, false, false, false, false, false] (by kernel_rfl) rfl rfl ⟨BK514.c 0, BK514.c 1, hx517_0, hx517_1, hx517_2⟩ (fun hHeld => ?_); refine with_tabW spec_FirstFailure.tab12 spec_FirstFailure.bits12 (fun HT_ HW_ => ?_)
             generalize w72.drew = w73 at HO_7 BK501 BK502 BK503 BK514 HB hx517_0 hx517_1 hx517_2 hHeld ⊢
             refine pv_ (i := 0) (N := some 55) HT_.out ?_
             refine pv_ (i := 1) (N := some 56) HT_.out ?_
             refine pv_ (i := 2) (N := some 57) HT_.out ?_
             refine tv5_ (i := 3) (N := some 58) HT_.out HW_.out hHeld ?_
             refine tv5_ (i := 4) (N := some 59) HT_.out HW_.out hHeld ?_
             refine one_ (i := 5) (N := none) #[true, true, true, true, true, true, false, false] rfl rfl (one_of HT_.out (by kernel_rfl)) (by decide) (fun K hK => ?_)
             have hs74 : w73.cell? ⟨gb502, 0, none⟩ = some (.int .i64 x503000_3) := BK502.c 0
             have hfs74 := blk_frozen BK502.out 0
             have hns74_0 := NB501_502.out
             have hns74_2 := NB503_502.out
             have hns74_3 := NB514_502.out
             have hms74_0 := NB502_501.out
             have hms74_2 := NB502_503.out
             have hms74_3 := NB502_514.out
             have hs75 : w73.cell? ⟨gb502, 1, none⟩ = some (.int .i64 x503001_3) := BK502.c 1
             have hfs75 := blk_frozen BK502.out 1
             have hns75_0 := NB501_502.out
             have hns75_2 := NB503_502.out
             have hns75_3 := NB514_502.out
             have hms75_0 := NB502_501.out
             have hms75_2 := NB502_503.out
             have hms75_3 := NB502_514.out
             have hs76 : w73.cell? ⟨gb502, 2, none⟩ = some (.int .i64 x503002_3) := BK502.c 2
             have hfs76 := blk_frozen BK502.out 2
             have hns76_0 := NB501_502.out
             have hns76_2 := NB503_502.out
             have hns76_3 := NB514_502.out
             have hms76_0 := NB502_501.out
             have hms76_2 := NB502_503.out
             have hms76_3 := NB502_514.out
             refine skip_ (w1 := ?_) (by rfl) rfl ?_ ?_
             rotate_left
             ·go_simp
              rfl
             refine hK.out _ _ ⟨((cell_far (p := ⟨gb502, _, none⟩) NB514_502.out _).trans (((cell_far (p := ⟨gb502, _, none⟩) NB514_502.out _).trans (((cell_far (p := ⟨gb502, _, none⟩) NB514_502.out _).trans (hHeld.1)))))), ((cell_far (p := ⟨gb502, _, none⟩) NB514_502.out _).trans (((cell_far (p := ⟨gb502, _, none⟩) NB514_502.out _).trans (((cell_far (p := ⟨gb502, _, none⟩) NB514_502.out _).trans (hHeld.2.1)))))), ((cell_far (p := ⟨gb502, _, none⟩) (by first | exact Kd.own_blk (Kd.R_away HO_7.out (fun _ hk => hk)) | (rw [add_block]; exact Kd.own_blk (Kd.R_away HO_7.out (fun _ hk => hk))) | (show (Addr.add _ _).block ≠ _; rw [add_block]; exact Kd.own_blk (Kd.R_away HO_7.out (fun _ hk => hk))) | (dsimp only; exact Kd.own_blk (Kd.R_away HO_7.out (fun _ hk => hk)))) _).trans (((cell_far (p := ⟨gb502, _, none⟩) (by first | exact Kd.own_blk (Kd.R_away HO_7.out (fun _ hk => hk)) | (rw [add_block]; exact Kd.own_blk (Kd.R_away HO_7.out (fun _ hk => hk))) | (show (Addr.add _ _).block ≠ _; rw [add_block]; exact Kd.own_blk (Kd.R_away HO_7.out (fun _ hk => hk))) | (dsimp only; exact Kd.own_blk (Kd.R_away HO_7.out (fun _ hk => hk)))) _).trans (((cell_far (p := ⟨gb502, _, none⟩) (by first | exact Kd.own_blk (Kd.R_away HO_7.out (fun _ hk => hk)) | (rw [add_block]; exact Kd.own_blk (Kd.R_away HO_7.out (fun _ hk => hk))) | (show (Addr.add _ _).block ≠ _; rw [add_block]; exact Kd.own_blk (Kd.R_away HO_7.out (fun _ hk => hk))) | (dsimp only; exact Kd.own_blk (Kd.R_away HO_7.out (fun _ hk => hk)))) _).trans (hHeld.2.2.1)))))), ((cell_far (p := ⟨gb502, _, none⟩) (by first | exact Kd.own_blk (Kd.R_away HO_7.out (fun _ hk => hk)) | (rw [add_block]; exact Kd.own_blk (Kd.R_away HO_7.out (fun _ hk => hk))) | (show (Addr.add _ _).block ≠ _; rw [add_block]; exact Kd.own_blk (Kd.R_away HO_7.out (fun _ hk => hk))) | (dsimp only; exact Kd.own_blk (Kd.R_away HO_7.out (fun _ hk => hk)))) _).trans (((cell_far (p := ⟨gb502, _, none⟩) (by first | exact Kd.own_blk (Kd.R_away HO_7.out (fun _ hk => hk)) | (rw [add_block]; exact Kd.own_blk (Kd.R_away HO_7.out (fun _ hk => hk))) | (show (Addr.add _ _).block ≠ _; rw [add_block]; exact Kd.own_blk (Kd.R_away HO_7.out (fun _ hk => hk))) | (dsimp only; exact Kd.own_blk (Kd.R_away HO_7.out (fun _ hk => hk)))) _).trans (((cell_far (p := ⟨gb502, _, none⟩) (by first | exact Kd.own_blk (Kd.R_away HO_7.out (fun _ hk => hk)) | (rw [add_block]; exact Kd.own_blk (Kd.R_away HO_7.out (fun _ hk => hk))) | (show (Addr.add _ _).block ≠ _; rw [add_block]; exact Kd.own_blk (Kd.R_away HO_7.out (fun _ hk => hk))) | (dsimp only; exact Kd.own_blk (Kd.R_away HO_7.out (fun _ hk => hk)))) _).trans (hHeld.2.2.2.1)))))), ((cell_far (p := ⟨gb502, _, none⟩) (by first | exact Kd.own_blk (Kd.R_away HO_7.out (fun _ hk => hk)) | (rw [add_block]; exact Kd.own_blk (Kd.R_away HO_7.out (fun _ hk => hk))) | (show (Addr.add _ _).block ≠ _; rw [add_block]; exact Kd.own_blk (Kd.R_away HO_7.out (fun _ hk => hk))) | (dsimp only; exact Kd.own_blk (Kd.R_away HO_7.out (fun _ hk => hk)))) _).trans (((cell_far (p := ⟨gb502, _, none⟩) (by first | exact Kd.own_blk (Kd.R_away HO_7.out (fun _ hk => hk)) | (rw [add_block]; exact Kd.own_blk (Kd.R_away HO_7.out (fun _ hk => hk))) | (show (Addr.add _ _).block ≠ _; rw [add_block]; exact Kd.own_blk (Kd.R_away HO_7.out (fun _ hk => hk))) | (dsimp only; exact Kd.own_blk (Kd.R_away HO_7.out (fun _ hk => hk)))) _).trans (((cell_far (p := ⟨gb502, _, none⟩) (by first | exact Kd.own_blk (Kd.R_away HO_7.out (fun _ hk => hk)) | (rw [add_block]; exact Kd.own_blk (Kd.R_away HO_7.out (fun _ hk => hk))) | (show (Addr.add _ _).block ≠ _; rw [add_block]; exact Kd.own_blk (Kd.R_away HO_7.out (fun _ hk => hk))) | (dsimp only; exact Kd.own_blk (Kd.R_away HO_7.out (fun _ hk => hk)))) _).trans (hHeld.2.2.2.2))))))⟩ (fun hHeld => ?_)
             clear hK K
             refine one_ (i := 6) (N := none) #[true, true, true, true, true, true, true, false] rfl rfl (one_of HT_.out (by kernel_rfl)) (by decide) (fun K hK => ?_)
             have hs77 : w73.cell? ⟨gb503, 0, none⟩ = some (.int .i64 x504000_3) := BK503.c 0
             have hfs77 := blk_frozen BK503.out 0
             have hns77_0 := NB501_503.out
             have hns77_1 := NB502_503.out
             have hns77_3 := NB514_503.out
             have hms77_0 := NB503_501.out
             have hms77_1 := NB503_502.out
             have hms77_3 := NB503_514.out
             have hs78 : w73.cell? ⟨gb503, 1, none⟩ = some (.int .i64 x504001_3) := BK503.c 1
             have hfs78 := blk_frozen BK503.out 1
             have hns78_0 := NB501_503.out
             have hns78_1 := NB502_503.out
             have hns78_3 := NB514_503.out
             have hms78_0 := NB503_501.out
             have hms78_1 := NB503_502.out
             have hms78_3 := NB503_514.out
             refine skip_ (w1 := ?_) (by rfl) rfl ?_ ?_
             rotate_left
             ·go_simp
              rfl
             refine hK.out _ _ ⟨((cell_far (p := ⟨gb503, _, none⟩) NB514_503.out _).trans (((cell_far (p := ⟨gb503, _, none⟩) NB514_503.out _).trans (hHeld.1)))), ((cell_far (p := ⟨gb503, _, none⟩) NB514_503.out _).trans (((cell_far (p := ⟨gb503, _, none⟩) NB514_503.out _).trans (hHeld.2.1)))), ((cell_far (p := ⟨gb503, _, none⟩) (by first | exact Kd.own_blk (Kd.R_ne HO_7.out BK503.out (by decide)) | (rw [add_block]; exact Kd.own_blk (Kd.R_ne HO_7.out BK503.out (by decide))) | (show (Addr.add _ _).block ≠ _; rw [add_block]; exact Kd.own_blk (Kd.R_ne HO_7.out BK503.out (by decide))) | (dsimp only; exact Kd.own_blk (Kd.R_ne HO_7.out BK503.out (by decide)))) _).trans (((cell_far (p := ⟨gb503, _, none⟩) (by first | exact Kd.own_blk (Kd.R_ne HO_7.out BK503.out (by decide)) | (rw [add_block]; exact Kd.own_blk (Kd.R_ne HO_7.out BK503.out (by decide))) | (show (Addr.add _ _).block ≠ _; rw [add_block]; exact Kd.own_blk (Kd.R_ne HO_7.out BK503.out (by decide))) | (dsimp only; exact Kd.own_blk (Kd.R_ne HO_7.out BK503.out (by decide)))) _).trans (hHeld.2.2.1)))), ((cell_far (p := ⟨gb503, _, none⟩) (by first | exact Kd.own_blk (Kd.R_ne HO_7.out BK503.out (by decide)) | (rw [add_block]; exact Kd.own_blk (Kd.R_ne HO_7.out BK503.out (by decide))) | (show (Addr.add _ _).block ≠ _; rw [add_block]; exact Kd.own_blk (Kd.R_ne HO_7.out BK503.out (by decide))) | (dsimp only; exact Kd.own_blk (Kd.R_ne HO_7.out BK503.out (by decide)))) _).trans (((cell_far (p := ⟨gb503, _, none⟩) (by first | exact Kd.own_blk (Kd.R_ne HO_7.out BK503.out (by decide)) | (rw [add_block]; exact Kd.own_blk (Kd.R_ne HO_7.out BK503.out (by decide))) | (show (Addr.add _ _).block ≠ _; rw [add_block]; exact Kd.own_blk (Kd.R_ne HO_7.out BK503.out (by decide))) | (dsimp only; exact Kd.own_blk (Kd.R_ne HO_7.out BK503.out (by decide)))) _).trans (hHeld.2.2.2.1)))), ((cell_far (p := ⟨gb503, _, none⟩) (by first | exact Kd.own_blk (Kd.R_ne HO_7.out BK503.out (by decide)) | (rw [add_block]; exact Kd.own_blk (Kd.R_ne HO_7.out BK503.out (by decide))) | (show (Addr.add _ _).block ≠ _; rw [add_block]; exact Kd.own_blk (Kd.R_ne HO_7.out BK503.out (by decide))) | (dsimp only; exact Kd.own_blk (Kd.R_ne HO_7.out BK503.out (by decide)))) _).trans (((cell_far (p := ⟨gb503, _, none⟩) (by first | exact Kd.own_blk (Kd.R_ne HO_7.out BK503.out (by decide)) | (rw [add_block]; exact Kd.own_blk (Kd.R_ne HO_7.out BK503.out (by decide))) | (show (Addr.add _ _).block ≠ _; rw [add_block]; exact Kd.own_blk (Kd.R_ne HO_7.out BK503.out (by decide))) | (dsimp only; exact Kd.own_blk (Kd.R_ne HO_7.out BK503.out (by decide)))) _).trans (hHeld.2.2.2.2))))⟩ (fun hHeld => ?_)
             clear hK K
             refine pv_ (i := 7) (N := some 6) HT_.out ?_
             refine done_ (done_of HT_.out (by kernel_rfl)) ?_
             try go_wp2
             refine bodyPost_ret (results_list (rs := [.cell 4 30, .cell 5 48, .tmp 6]) rfl (by simp) (.cell gb502 30 #[.int .i64 ((rd_T30 t510 x8_2).f0.f0), .int .i64 ((rd_T30 t510 x8_2).f0.f1), .int .i64 ((rd_T30 t510 x8_2).f1)] (0, 0) _ rfl (by (with_reducible repeat (first | refine blk_drewN ?_ _ | refine blk_drew ?_ | refine blk_alloc ?_ _)); refine blk_far ?_ NB502_503.out _; (with_reducible repeat (first | refine blk_drewN ?_ _ | refine blk_drew ?_ | refine blk_alloc ?_ _)); refine blk_far ?_ NB502_503.out _; (with_reducible repeat (first | refine blk_drewN ?_ _ | refine blk_drew ?_ | refine blk_alloc ?_ _)); refine blk_put (cs := #[.int .i64 ((rd_T30 t510 x8_2).f0.f0), .int .i64 ((rd_T30 t510 x8_2).f0.f1), .int .i64 x503002_3]) ?_ 2 _ rfl; (with_reducible repeat (first | refine blk_drewN ?_ _ | refine blk_drew ?_ | refine blk_alloc ?_ _)); refine blk_put (cs := #[.int .i64 ((rd_T30 t510 x8_2).f0.f0), .int .i64 x503001_3, .int .i64 x503002_3]) ?_ 1 _ rfl; (with_reducible repeat (first | refine blk_drewN ?_ _ | refine blk_drew ?_ | refine blk_alloc ?_ _)); refine blk_put (cs := #[.int .i64 x503000_3, .int .i64 x503001_3, .int .i64 x503002_3]) ?_ 0 _ rfl; (with_reducible repeat (first | refine blk_drewN ?_ _ | refine blk_drew ?_ | refine blk_alloc ?_ _)); exact BK502.out) Try.underlying30 rfl (by kernel_rfl) (.cell gb503 48 #[.int .i64 (wrap64 (Int.tdiv x9_3 4)), .int .i64 (Int.tmod x9_3 4)] (0, 0) _ rfl (by (with_reducible repeat (first | refine blk_drewN ?_ _ | refine blk_drew ?_ | refine blk_alloc ?_ _)); refine blk_put (cs := #[.int .i64 (wrap64 (Int.tdiv x9_3 4)), .int .i64 x504001_3]) ?_ 1 _ rfl; (with_reducible repeat (first | refine blk_drewN ?_ _ | refine blk_drew ?_ | refine blk_alloc ?_ _)); refine blk_put (cs := #[.int .i64 x504000_3, .int .i64 x504001_3]) ?_ 0 _ rfl; (with_reducible repeat (first | refine blk_drewN ?_ _ | refine blk_drew ?_ | refine blk_alloc ?_ _)); refine blk_far ?_ NB503_502.out _; (with_reducible repeat (first | refine blk_drewN ?_ _ | refine blk_drew ?_ | refine blk_alloc ?_ _)); refine blk_far ?_ NB503_502.out _; (with_reducible repeat (first | refine blk_drewN ?_ _ | refine blk_drew ?_ | refine blk_alloc ?_ _)); refine blk_far ?_ NB503_502.out _; (with_reducible repeat (first | refine blk_drewN ?_ _ | refine blk_drew ?_ | refine blk_alloc ?_ _)); exact BK503.out) Try.underlying48 rfl (by kernel_rfl) (.tmp .nil)))) rfl ?_
             exact ⟨ex_, hb4_ HB.out GE501.out GE502.out GE503.out GE514.out⟩
           ·rw [if_neg c46] at H
            exact absurd H (by simp)
          ·rw [if_neg c45] at H
           exact absurd H (by simp)
         ·rw [if_neg c44] at H
          have c44b0 : decide (x9_3 < (wrap64 (4 * t513))) = false := decide_eq_false c44
          clear c44
          have H' := Aside0.mk H
          clear H
          have hnb79 := NB501_502.out
          have hnc79 := NB502_501.out
          have hnb80 := NB501_503.out
          have hnc80 := NB503_501.out
          obtain ⟨hcz81_0, hcz81_1⟩ := cz2_ BK501.out
          obtain ⟨hfz81_0, hfz81_1⟩ := fz2_ BK501.out
          go_wp2_with (first | (refine gl_ 37 Try.func39 #[.agg #[.int .i64 a0_0, .int .i64 a0_1]] ?_; (with_reducible refine (spec_CountCells.calls a0_0 a0_1 t513 _ A43.out).mono ?_); rintro e w82 ⟨rfl, hb⟩; refine ⟨_, rfl, ?_⟩; replace HO_7 := HO_7.kb hb; replace BK501 := BK501.bb hb; replace BK502 := BK502.bb hb; replace BK503 := BK503.bb hb; replace HB := HB.s3 GE501 GE502 GE503 hb; (try clear hb)))
          go_roundg k3
          case measure => have := HJ2.out; have := HK2.out; have := HK3.out; omega
          case rel => exact ⟨(wrap64 (x8_2 + 1)), (x503000_3), (x503001_3), (x503002_3), (x504000_3), (x504001_3), (by first | rfl | (simp; done) | (simp [*]; done)), H', ⟨by have := HJ2.out; have := HK2.out; have := HK3.out; omega⟩, ⟨kr_ HO_7.out⟩, ⟨bk_ BK501.out⟩, ⟨bk_ BK502.out⟩, ⟨bk_ BK503.out⟩, ⟨hb3_ HB.out GE501.out GE502.out GE503.out⟩⟩
      ·rw [if_neg c41] at H
       have c41b0 : decide (x8_2 < (t510.length : Int)) = false := decide_eq_false c41
       clear c41
       simp only [Option.some.injEq, Prod.mk.injEq] at H
       obtain ⟨rfl, rfl, rfl, rfl, rfl, rfl⟩ := H
       obtain ⟨Ao83, co83, eo83⟩ := Kd.R_slice HO_7.out
       subst eo83
       have hnb84 := NB502_501.out
       have hnc84 := NB501_502.out
       have hnb85 := NB502_503.out
       have hnc85 := NB503_502.out
       obtain ⟨hcz86_0, hcz86_1, hcz86_2⟩ := cz3_ BK502.out
       obtain ⟨hfz86_0, hfz86_1, hfz86_2⟩ := fz3_ BK502.out
       have hnb87 := NB503_501.out
       have hnc87 := NB501_503.out
       obtain ⟨hcz88_0, hcz88_1⟩ := cz2_ BK503.out
       obtain ⟨hfz88_0, hfz88_1⟩ := fz2_ BK503.out
       go_wp2
       refine bodyPost_ret (results_list (rs := [.cell 4 30, .cell 5 48, .tmp 6]) rfl (by simp) (.cell gb502 30 #[.int .i64 0, .int .i64 0, .int .i64 0] (0, 0) _ rfl (by (with_reducible repeat (first | refine blk_drewN ?_ _ | refine blk_drew ?_ | refine blk_alloc ?_ _)); refine blk_far ?_ NB502_503.out _; (with_reducible repeat (first | refine blk_drewN ?_ _ | refine blk_drew ?_ | refine blk_alloc ?_ _)); refine blk_far ?_ NB502_503.out _; (with_reducible repeat (first | refine blk_drewN ?_ _ | refine blk_drew ?_ | refine blk_alloc ?_ _)); refine blk_put (cs := #[.int .i64 0, .int .i64 0, .int .i64 x503002_2]) ?_ 2 _ rfl; (with_reducible repeat (first | refine blk_drewN ?_ _ | refine blk_drew ?_ | refine blk_alloc ?_ _)); refine blk_put (cs := #[.int .i64 0, .int .i64 x503001_2, .int .i64 x503002_2]) ?_ 1 _ rfl; (with_reducible repeat (first | refine blk_drewN ?_ _ | refine blk_drew ?_ | refine blk_alloc ?_ _)); refine blk_put (cs := #[.int .i64 x503000_2, .int .i64 x503001_2, .int .i64 x503002_2]) ?_ 0 _ rfl; (with_reducible repeat (first | refine blk_drewN ?_ _ | refine blk_drew ?_ | refine blk_alloc ?_ _)); exact BK502.out) Try.underlying30 rfl (by kernel_rfl) (.cell gb503 48 #[.int .i64 0, .int .i64 0] (0, 0) _ rfl (by (with_reducible repeat (first | refine blk_drewN ?_ _ | refine blk_drew ?_ | refine blk_alloc ?_ _)); refine blk_put (cs := #[.int .i64 0, .int .i64 x504001_2]) ?_ 1 _ rfl; (with_reducible repeat (first | refine blk_drewN ?_ _ | refine blk_drew ?_ | refine blk_alloc ?_ _)); refine blk_put (cs := #[.int .i64 x504000_2, .int .i64 x504001_2]) ?_ 0 _ rfl; (with_reducible repeat (first | refine blk_drewN ?_ _ | refine blk_drew ?_ | refine blk_alloc ?_ _)); refine blk_far ?_ NB503_502.out _; (with_reducible repeat (first | refine blk_drewN ?_ _ | refine blk_drew ?_ | refine blk_alloc ?_ _)); refine blk_far ?_ NB503_502.out _; (with_reducible repeat (first | refine blk_drewN ?_ _ | refine blk_drew ?_ | refine blk_alloc ?_ _)); refine blk_far ?_ NB503_502.out _; (with_reducible repeat (first | refine blk_drewN ?_ _ | refine blk_drew ?_ | refine blk_alloc ?_ _)); exact BK503.out) Try.underlying48 rfl (by kernel_rfl) (.tmp .nil)))) rfl ?_
       exact ⟨ex_, hb3_ HB.out GE501.out GE502.out GE503.out⟩

/-! ### impl_canTry: function 76 -/
def impl_canTry.f (a0_0 : Int) (a0_1 : Int) (l1 : List Int) : Option (Bool) := (impl_GridOk.f a0_0 a0_1).bind fun t502 => (if t502 = true then ((impl_CountGaps.f a0_0 a0_1).bind fun t503 => (if t503 ≤ 7 then ((impl_areTurns.f l1 400).bind fun t504 => (some t504)) else (some false))) else (some false))
set_option maxHeartbeats 8000000 in
set_option maxRecDepth 100000 in
theorem impl_canTry.calls (a0_0 : Int) (a0_1 : Int) (A1 : Option Addr) (c1 : Nat) (l1 : List Int) (r : Bool) (w : World) (hr1 : Kd.C (Kd.int .i64) w A1 l1.length l1) (hc1 : l1.length ≤ c1) (h : impl_canTry.f a0_0 a0_1 l1 = some r) :
  Calls Try.prog 76 #[.agg #[.int .i64 a0_0, .int .i64 a0_1], .slice A1 l1.length c1] w fun e w' => e = .returned (.bool r) ∧ Below w.heap.size w w' := by
 have hu28 := Try.underlying28
 have HR1 := Aside0.mk hr1
 have HC1 := Aside0.mk hc1
 clear hr1 hc1
 have HB := Aside0.mk (Below.refl w.heap.size w)
 have H : ((impl_GridOk.f a0_0 a0_1).bind fun t502 => (if t502 = true then ((impl_CountGaps.f a0_0 a0_1).bind fun t503 => (if t503 ≤ 7 then ((impl_areTurns.f l1 400).bind fun t504 => (some t504)) else (some false))) else (some false))) = some r := h
 clear h
 replace H := Option.bind_eq_some_iff.mp H
 obtain ⟨t502, A30, H⟩ := H
 replace H : (if t502 = true then ((impl_CountGaps.f a0_0 a0_1).bind fun t503 => (if t503 ≤ 7 then ((impl_areTurns.f l1 400).bind fun t504 => (some t504)) else (some false))) else (some false)) = some r := H
 have A3 := Aside0.mk A30
 clear A30
 by_cases c4 : t502 = true
 ·subst c4
  have H1 : ((impl_CountGaps.f a0_0 a0_1).bind fun t503 => (if t503 ≤ 7 then ((impl_areTurns.f l1 400).bind fun t504 => (some t504)) else (some false))) = some r := by rw [if_pos rfl] at H; exact H
  clear H
  have H := H1
  clear H1
  replace H := Option.bind_eq_some_iff.mp H
  obtain ⟨t503, A50, H⟩ := H
  replace H : (if t503 ≤ 7 then ((impl_areTurns.f l1 400).bind fun t504 => (some t504)) else (some false)) = some r := H
  have A5 := Aside0.mk A50
  clear A50
  by_cases c6 : t503 ≤ 7
  ·rw [if_pos c6] at H
   have c6b0 : decide (t503 ≤ 7) = true := decide_eq_true c6
   clear c6
   replace H := Option.bind_eq_some_iff.mp H
   obtain ⟨t504, A70, H⟩ := H
   replace H : (some t504) = some r := H
   have A7 := Aside0.mk A70
   clear A70
   obtain rfl := Option.some.inj H
   go_enter Try.func76, Try.ntmps76
   go_wp2_with (first | (refine box_ (N := 2) (cs := #[.int .i64 a0_0, .int .i64 a0_1]) (t := 28) ?_; intro gb501 hg w8 hbox hb; have BK501 := Aside0.mk (hbox); have GW501 := HB.g0 hg; have GE501 := HB.g0 hg; replace HB := HB.s0 hb; clear hb hbox hg; obtain ⟨hcz9_0, hcz9_1⟩ := cz2_ BK501.out; obtain ⟨hfz9_0, hfz9_1⟩ := fz2_ BK501.out) | (refine gl_ 6 Try.func95 #[.agg #[.int .i64 a0_0, .int .i64 a0_1]] ?_; (with_reducible refine (impl_GridOk.calls a0_0 a0_1 true _ A3.out).mono ?_); rintro e w10 ⟨rfl, hb⟩; refine ⟨_, rfl, ?_⟩; replace BK501 := BK501.bb hb; replace HB := HB.s1 GE501 hb; (try clear hb); obtain ⟨hcz11_0, hcz11_1⟩ := cz2_ BK501.out; obtain ⟨hfz11_0, hfz11_1⟩ := fz2_ BK501.out) | (go_at_call 99; (with_reducible refine (impl_CountGaps.calls a0_0 a0_1 t503 _ A5.out).mono ?_); rintro e w12 ⟨rfl, hb⟩; replace BK501 := BK501.bb hb; replace HB := HB.s1 GE501 hb; (try clear hb)) | (go_at_call 98; (with_reducible refine (impl_areTurns.calls _ _ l1 400 t504 _ ?side1 ?side2 A7.out).mono ?_); (case side1 => repeat (first | exact (Kd.C_below HR1.out HB.out) | (with_reducible refine Kd.C_alloc ?_ _) | (with_reducible refine Kd.C_drewN ?_ _) | (with_reducible refine Kd.C_drew ?_))); (case side2 => exact HC1.out); rintro e w13 ⟨rfl, hb⟩; replace BK501 := BK501.bb hb; replace HB := HB.s1 GE501 hb; (try clear hb)))
   go_ret
   exact ⟨ex_, hb1_ HB.out GE501.out⟩
  ·rw [if_neg c6] at H
   have c6b0 : decide (t503 ≤ 7) = false := decide_eq_false c6
   clear c6
   obtain rfl := Option.some.inj H
   go_enter Try.func76, Try.ntmps76
   go_wp2_with (first | (refine box_ (N := 2) (cs := #[.int .i64 a0_0, .int .i64 a0_1]) (t := 28) ?_; intro gb501 hg w14 hbox hb; have BK501 := Aside0.mk (hbox); have GW501 := HB.g0 hg; have GE501 := HB.g0 hg; replace HB := HB.s0 hb; clear hb hbox hg; obtain ⟨hcz15_0, hcz15_1⟩ := cz2_ BK501.out; obtain ⟨hfz15_0, hfz15_1⟩ := fz2_ BK501.out) | (refine gl_ 6 Try.func95 #[.agg #[.int .i64 a0_0, .int .i64 a0_1]] ?_; (with_reducible refine (impl_GridOk.calls a0_0 a0_1 true _ A3.out).mono ?_); rintro e w16 ⟨rfl, hb⟩; refine ⟨_, rfl, ?_⟩; replace BK501 := BK501.bb hb; replace HB := HB.s1 GE501 hb; (try clear hb); obtain ⟨hcz17_0, hcz17_1⟩ := cz2_ BK501.out; obtain ⟨hfz17_0, hfz17_1⟩ := fz2_ BK501.out) | (go_at_call 99; (with_reducible refine (impl_CountGaps.calls a0_0 a0_1 t503 _ A5.out).mono ?_); rintro e w18 ⟨rfl, hb⟩; replace BK501 := BK501.bb hb; replace HB := HB.s1 GE501 hb; (try clear hb)))
   go_ret
   exact ⟨ex_, hb1_ HB.out GE501.out⟩
 ·replace c4 := Bool.eq_false_iff.mpr c4
  subst c4
  have H1 : (some false) = some r := by rw [if_neg (show ¬ (false = true) by decide)] at H; exact H
  clear H
  have H := H1
  clear H1
  obtain rfl := Option.some.inj H
  go_enter Try.func76, Try.ntmps76
  go_wp2_with (first | (refine box_ (N := 2) (cs := #[.int .i64 a0_0, .int .i64 a0_1]) (t := 28) ?_; intro gb501 hg w19 hbox hb; have BK501 := Aside0.mk (hbox); have GW501 := HB.g0 hg; have GE501 := HB.g0 hg; replace HB := HB.s0 hb; clear hb hbox hg; obtain ⟨hcz20_0, hcz20_1⟩ := cz2_ BK501.out; obtain ⟨hfz20_0, hfz20_1⟩ := fz2_ BK501.out) | (refine gl_ 6 Try.func95 #[.agg #[.int .i64 a0_0, .int .i64 a0_1]] ?_; (with_reducible refine (impl_GridOk.calls a0_0 a0_1 false _ A3.out).mono ?_); rintro e w21 ⟨rfl, hb⟩; refine ⟨_, rfl, ?_⟩; replace BK501 := BK501.bb hb; replace HB := HB.s1 GE501 hb; (try clear hb)))
  go_ret
  exact ⟨ex_, hb1_ HB.out GE501.out⟩

/-! ### impl_FirstFailure: function 46 -/
mutual
def impl_FirstFailure.l0 : Nat → List Int → List (S30) → Int → Int → Int → Int → Option (Int × Int × Int × Int × Int × Bool)
 | 0, _, _, _, _, _, _ => none
 | k + 1, x1, x19, x20, x21, x502000, x502001 => if x21 < x20 then (if 0 ≤ x21 then (if x21 < (x19.length : Int) then (impl_FirstFailure.l1 k x1 0 x19 x20 x21 x502000 x502001 ((rd_T30 x19 x21).f0.f0) ((rd_T30 x19 x21).f0.f1) ((rd_T30 x19 x21).f1)) else (none)) else (none)) else (some (0, 0, 0, 0, 0, false))
def impl_FirstFailure.l1 : Nat → List Int → Int → List (S30) → Int → Int → Int → Int → Int → Int → Int → Option (Int × Int × Int × Int × Int × Bool)
 | 0, _, _, _, _, _, _, _, _, _, _ => none
 | k + 1, x1, x9, x19, x20, x21, x502000, x502001, x513000, x513001, x513002 => (impl_CountCells.f x502000 x502001).bind fun t513 => (if x9 < (wrap64 (4 * t513)) then ((impl_CoversAll.f k x513000 x513001 x513002 (wrap64 (Int.tdiv x9 4)) (Int.tmod x9 4) x1).bind fun t515 => (if t515 = true then (impl_FirstFailure.l1 k x1 (wrap64 (x9 + 1)) x19 x20 x21 x502000 x502001 x513000 x513001 x513002) else (some (x513000, x513001, x513002, wrap64 (Int.tdiv x9 4), Int.tmod x9 4, true)))) else (impl_FirstFailure.l0 k x1 x19 x20 (wrap64 (x21 + 1)) x502000 x502001))
end
def impl_FirstFailure.f (k : Nat) (a0_0 : Int) (a0_1 : Int) (l1 : List Int) : Option (Int × Int × Int × Int × Int × Bool) := (impl_canTry.f a0_0 a0_1 l1).bind fun t504 => (if t504 = true then ((impl_FullMaze.f a0_0 a0_1).bind fun bt505 => ((impl_ListTrees.f k bt505.1 bt505.2.1 bt505.2.2).bind fun t508 => (impl_FirstFailure.l0 k l1 t508 (t508.length : Int) 0 a0_0 a0_1))) else (some (0, 0, 0, 0, 0, false)))
theorem impl_FirstFailure.mono_l : ∀ k, (∀ y0 y1 y2 y3 y4 y5, LeO (impl_FirstFailure.l0 k y0 y1 y2 y3 y4 y5) (impl_FirstFailure.l0 (k + 1) y0 y1 y2 y3 y4 y5)) ∧ (∀ y0 y1 y2 y3 y4 y5 y6 y7 y8 y9, LeO (impl_FirstFailure.l1 k y0 y1 y2 y3 y4 y5 y6 y7 y8 y9) (impl_FirstFailure.l1 (k + 1) y0 y1 y2 y3 y4 y5 y6 y7 y8 y9))
 | 0 => ⟨fun _ _ _ _ _ _ r h => by simp [impl_FirstFailure.l0] at h, fun _ _ _ _ _ _ _ _ _ _ r h => by simp [impl_FirstFailure.l1] at h⟩
 | k + 1 => by
  obtain ⟨ih0, ih1⟩ := impl_FirstFailure.mono_l k
  refine ⟨?_, ?_⟩
  ·intro y0 y1 y2 y3 y4 y5
   unfold impl_FirstFailure.l0
   repeat' first
   | (with_reducible exact ih0 ..)
   | (with_reducible exact ih1 ..)
   | (with_reducible exact impl_CoversAll.mono ..)
   | (with_reducible exact impl_ListTrees.mono ..)
   | (with_reducible first | exact lr_ _ | exact ln_ _ | refine li_ ?_ ?_ | refine lb_ ?_ fun _ => ?_)
   | exact ih0 ..
   | exact ih1 ..
   | exact impl_CoversAll.mono ..
   | exact impl_ListTrees.mono ..
   | exact ln_ _ | refine li_ ?_ ?_ | refine lb_ ?_ fun _ => ?_
  ·intro y0 y1 y2 y3 y4 y5 y6 y7 y8 y9
   unfold impl_FirstFailure.l1
   repeat' first
   | (with_reducible exact ih0 ..)
   | (with_reducible exact ih1 ..)
   | (with_reducible exact impl_CoversAll.mono ..)
   | (with_reducible exact impl_ListTrees.mono ..)
   | (with_reducible first | exact lr_ _ | exact ln_ _ | refine li_ ?_ ?_ | refine lb_ ?_ fun _ => ?_)
   | exact ih0 ..
   | exact ih1 ..
   | exact impl_CoversAll.mono ..
   | exact impl_ListTrees.mono ..
   | exact ln_ _ | refine li_ ?_ ?_ | refine lb_ ?_ fun _ => ?_
theorem impl_FirstFailure.mono : ∀ a0 a1 a2 k, LeO (impl_FirstFailure.f k a0 a1 a2) (impl_FirstFailure.f (k + 1) a0 a1 a2) := by
 intro a0 a1 a2 k
 obtain ⟨ih0, ih1⟩ := impl_FirstFailure.mono_l k
 unfold impl_FirstFailure.f
 repeat' first
   | (with_reducible exact ih0 ..)
   | (with_reducible exact ih1 ..)
   | (with_reducible exact impl_CoversAll.mono ..)
   | (with_reducible exact impl_ListTrees.mono ..)
   | (with_reducible first | exact lr_ _ | exact ln_ _ | refine li_ ?_ ?_ | refine lb_ ?_ fun _ => ?_)
   | exact ih0 ..
   | exact ih1 ..
   | exact impl_CoversAll.mono ..
   | exact impl_ListTrees.mono ..
   | exact ln_ _ | refine li_ ?_ ?_ | refine lb_ ?_ fun _ => ?_
set_option maxHeartbeats 8000000 in
set_option maxRecDepth 100000 in
theorem impl_FirstFailure.calls (k : Nat) (a0_0 : Int) (a0_1 : Int) (A1 : Option Addr) (c1 : Nat) (l1 : List Int) (r1 : Int) (r2 : Int) (r3 : Int) (r4 : Int) (r5 : Int) (r6 : Bool) (w : World) (hr1 : Kd.C (Kd.int .i64) w A1 l1.length l1) (hc1 : l1.length ≤ c1) (h : impl_FirstFailure.f k a0_0 a0_1 l1 = some (r1, r2, r3, r4, r5, r6)) :
  Calls Try.prog 46 #[.agg #[.int .i64 a0_0, .int .i64 a0_1], .slice A1 l1.length c1] w fun e w' => e = .returned (.tuple #[.agg #[.int .i64 r1, .int .i64 r2, .int .i64 r3], .agg #[.int .i64 r4, .int .i64 r5], .bool r6]) ∧ Below w.heap.size w w' := by
 have hu28 := Try.underlying28
 have hu30 := Try.underlying30
 have hu48 := Try.underlying48
 have HR1 := Aside0.mk hr1
 have HC1 := Aside0.mk hc1
 clear hr1 hc1
 have HB := Aside0.mk (Below.refl w.heap.size w)
 have H : ((impl_canTry.f a0_0 a0_1 l1).bind fun t504 => (if t504 = true then ((impl_FullMaze.f a0_0 a0_1).bind fun bt505 => ((impl_ListTrees.f k bt505.1 bt505.2.1 bt505.2.2).bind fun t508 => (impl_FirstFailure.l0 k l1 t508 (t508.length : Int) 0 a0_0 a0_1))) else (some (0, 0, 0, 0, 0, false)))) = some (r1, r2, r3, r4, r5, r6) := h
 clear h
 replace H := Option.bind_eq_some_iff.mp H
 obtain ⟨t504, A30, H⟩ := H
 replace H : (if t504 = true then ((impl_FullMaze.f a0_0 a0_1).bind fun bt505 => ((impl_ListTrees.f k bt505.1 bt505.2.1 bt505.2.2).bind fun t508 => (impl_FirstFailure.l0 k l1 t508 (t508.length : Int) 0 a0_0 a0_1))) else (some (0, 0, 0, 0, 0, false))) = some (r1, r2, r3, r4, r5, r6) := H
 have A3 := Aside0.mk A30
 clear A30
 by_cases c4 : t504 = true
 ·subst c4
  have H1 : ((impl_FullMaze.f a0_0 a0_1).bind fun bt505 => ((impl_ListTrees.f k bt505.1 bt505.2.1 bt505.2.2).bind fun t508 => (impl_FirstFailure.l0 k l1 t508 (t508.length : Int) 0 a0_0 a0_1))) = some (r1, r2, r3, r4, r5, r6) := by rw [if_pos rfl] at H; exact H
  clear H
  have H := H1
  clear H1
  replace H := Option.bind_eq_some_iff.mp H
  obtain ⟨⟨t505, t506, t507⟩, A50, H⟩ := H
  replace H : ((impl_ListTrees.f k t505 t506 t507).bind fun t508 => (impl_FirstFailure.l0 k l1 t508 (t508.length : Int) 0 a0_0 a0_1)) = some (r1, r2, r3, r4, r5, r6) := H
  have A5 := Aside0.mk A50
  clear A50
  replace H := Option.bind_eq_some_iff.mp H
  obtain ⟨t508, A60, H⟩ := H
  replace H : (impl_FirstFailure.l0 k l1 t508 (t508.length : Int) 0 a0_0 a0_1) = some (r1, r2, r3, r4, r5, r6) := H
  have A6 := Aside0.mk A60
  clear A60
  have H' := Aside0.mk H
  clear H
  go_enter Try.func46, Try.ntmps46
  go_wp2_with (first | (refine box_ (N := 2) (cs := #[.int .i64 a0_0, .int .i64 a0_1]) (t := 28) ?_; intro gb501 hg w7 hbox hb; have BK501 := Aside0.mk (hbox); have GW501 := HB.g0 hg; have GE501 := HB.g0 hg; replace HB := HB.s0 hb; clear hb hbox hg) | (refine box_ (N := 4) (cs := #[.int .i64 0, .int .i64 0, .int .i64 0]) (t := 30) ?_; intro gb502 hg w8 hbox hb; have BK502 := Aside0.mk (hbox); have GW502 := HB.g1 GE501 hg; have GE502 := HB.g1 GE501 hg; replace HB := HB.s1 GE501 hb; have NB501_502 := BK501.nl hg; have NB502_501 := BK501.nr hg; replace BK501 := BK501.bb hb; clear hb hbox hg) | (refine box_ (N := 5) (cs := #[.int .i64 0, .int .i64 0]) (t := 48) ?_; intro gb503 hg w9 hbox hb; have BK503 := Aside0.mk (hbox); have GW503 := HB.g2 GE501 GE502 hg; have GE503 := HB.g2 GE501 GE502 hg; replace HB := HB.s2 GE501 GE502 hb; have NB501_503 := BK501.nl hg; have NB503_501 := BK501.nr hg; replace BK501 := BK501.bb hb; have NB502_503 := BK502.nl hg; have NB503_502 := BK502.nr hg; replace BK502 := BK502.bb hb; clear hb hbox hg; have hnb10 := NB501_502.out; have hnc10 := NB502_501.out; have hnb11 := NB501_503.out; have hnc11 := NB503_501.out; obtain ⟨hcz12_0, hcz12_1⟩ := cz2_ BK501.out; obtain ⟨hfz12_0, hfz12_1⟩ := fz2_ BK501.out) | (refine gl_ 13 Try.func76 #[.agg #[.int .i64 a0_0, .int .i64 a0_1], .slice A1 l1.length c1] ?_; (with_reducible refine (impl_canTry.calls a0_0 a0_1 _ _ l1 true _ ?side1 ?side2 A3.out).mono ?_); (case side1 => repeat (first | exact (Kd.C_below HR1.out HB.out) | (with_reducible refine Kd.C_alloc ?_ _) | (with_reducible refine Kd.C_drewN ?_ _) | (with_reducible refine Kd.C_drew ?_))); (case side2 => exact HC1.out); rintro e w13 ⟨rfl, hb⟩; refine ⟨_, rfl, ?_⟩; replace BK501 := BK501.bb hb; replace BK502 := BK502.bb hb; replace BK503 := BK503.bb hb; replace HB := HB.s3 GE501 GE502 GE503 hb; (try clear hb); obtain ⟨hcz14_0, hcz14_1⟩ := cz2_ BK501.out; obtain ⟨hfz14_0, hfz14_1⟩ := fz2_ BK501.out) | (refine gl_ 18 Try.func80 #[.agg #[.int .i64 a0_0, .int .i64 a0_1]] ?_; (with_reducible refine (impl_FullMaze.calls a0_0 a0_1 t505 t506 t507 _ A5.out).mono ?_); rintro e w15 ⟨rfl, hb⟩; refine ⟨_, rfl, ?_⟩; replace BK501 := BK501.bb hb; replace BK502 := BK502.bb hb; replace BK503 := BK503.bb hb; replace HB := HB.s3 GE501 GE502 GE503 hb; (try clear hb)) | (refine gl_ 19 Try.func79 #[.agg #[.int .i64 t505, .int .i64 t506, .int .i64 t507]] ?_; (with_reducible refine (impl_ListTrees.calls k t505 t506 t507 t508 _ A6.out).mono ?_); rintro e w16 ⟨v509, rfl, ho0, hb⟩; refine ⟨_, rfl, ?_⟩; have HO510 := Aside0.mk (Kd.R_lower (Kd.R_newB ho0 (g := gb502) (o := .cells #[.int .i64 0, .int .i64 0, .int .i64 0] 30 (0, 0)) (bk_ BK502.out)) (below_size (hb3_ HB.out GE501.out GE502.out GE503.out))); replace BK501 := BK501.bb hb; replace BK502 := BK502.bb hb; replace BK503 := BK503.bb hb; replace HB := HB.s3 GE501 GE502 GE503 hb; (try clear hb); (try clear ho0); obtain ⟨Ao17, co17, eo17⟩ := Kd.R_slice HO510.out; subst eo17))
  go_loopg [21] k (fun kq v21 w' => ∃ (x21_1 : Int) (x503000_1 : Int) (x503001_1 : Int) (x503002_1 : Int) (x504000_1 : Int) (x504001_1 : Int), v21 = .int .i64 x21_1 ∧ Aside0 (impl_FirstFailure.l0 kq l1 t508 (t508.length : Int) x21_1 a0_0 a0_1 = some (r1, r2, r3, r4, r5, r6)) ∧ Aside0 (kq ≤ k) ∧ Aside0 (Kd.R k30 30 w' w.heap.size (fun k_ => k_ ≠ gb502) (.slice Ao17 t508.length co17) t508) ∧ Aside0 (w'.heap[gb501]? = some (.cells #[.int .i64 a0_0, .int .i64 a0_1] 28 (0, 0))) ∧ Aside0 (w'.heap[gb502]? = some (.cells #[.int .i64 x503000_1, .int .i64 x503001_1, .int .i64 x503002_1] 30 (0, 0))) ∧ Aside0 (w'.heap[gb503]? = some (.cells #[.int .i64 x504000_1, .int .i64 x504001_1] 48 (0, 0))) ∧ Aside0 (Below w.heap.size w w'))
  case atStart => exact ⟨(0), (0), (0), (0), (0), (0), (by first | rfl | (simp; done) | (simp [*]; done)), H', ⟨Nat.le_refl _⟩, ⟨by (with_reducible repeat (first | apply Kd.R_alloc | apply Kd.R_drewN | apply Kd.R_drew)); exact Kd.R_mono HO510.out (fun _ hk => hk.2)⟩, ⟨bk_ BK501.out⟩, ⟨bk_ BK502.out⟩, ⟨bk_ BK503.out⟩, ⟨hb3_ HB.out GE501.out GE502.out GE503.out⟩⟩
  case round =>
   clear H'
   try clear c1
   try clear p2
   try clear c4
   try clear c7
   try clear c8
   try clear c10
   try clear c11
   try clear hcz12_0
   try clear hcz12_1
   try clear hcz14_0
   try clear hcz14_1
   try clear hfz12_0
   try clear hfz12_1
   try clear hfz14_0
   try clear hfz14_1
   obtain ⟨x21_1, x503000_1, x503001_1, x503002_1, x504000_1, x504001_1, rfl, HA, HK1, HO_19, BK501, BK502, BK503, HB⟩ := hrel
   cases gk with
   | zero => exact absurd HA.out (by simp [impl_FirstFailure.l0])
   | succ k1 =>
    have H := HA.out
    clear HA
    simp only [impl_FirstFailure.l0] at H
    by_cases c18 : x21_1 < (t508.length : Int)
    ·rw [if_pos c18] at H
     have c18b0 : decide (x21_1 < (t508.length : Int)) = true := decide_eq_true c18
     clear c18
     by_cases c19 : 0 ≤ x21_1
     ·rw [if_pos c19] at H
      have c19b0 : decide (0 ≤ x21_1) = true := decide_eq_true c19
      clear c19
      by_cases c20 : x21_1 < (t508.length : Int)
      ·rw [if_pos c20] at H
       have c20b0 : decide (x21_1 < (t508.length : Int)) = true := decide_eq_true c20
       clear c20
       have H' := Aside0.mk H
       clear H
       have p511 : 0 ≤ (x21_1 : Int) := of_decide_eq_true (as_)
       have q511 : x21_1 < (t508.length : Int) := of_decide_eq_true (as_)
       obtain ⟨ad511, e511, hx511_0, hx511_1, hx511_2⟩ := at_T30 (Kd.R_reads' HO_19.out).2.2 x21_1 p511 q511
       cases e511
       replace p511 := eq_true p511
       replace q511 := eq_true q511
       go_wp2_with (first | (refine box_ (N := 8) (cs := #[.int .i64 0, .int .i64 0, .int .i64 0]) (t := 30) ?_; intro gb512 hg w21 hbox hb; replace HO_19 := Aside0.mk (Kd.R_below (Kd.R_elderB (kr_ HO_19.out) gb512 (Nat.le_of_eq hg.symm)) hb); have BK512 := Aside0.mk (hbox); have GW512 := HB.g3 GE501 GE502 GE503 hg; have GE512 := HB.g3 GE501 GE502 GE503 hg; replace HB := HB.s3 GE501 GE502 GE503 hb; have NB501_512 := BK501.nl hg; have NB512_501 := BK501.nr hg; replace BK501 := BK501.bb hb; have NB502_512 := BK502.nl hg; have NB512_502 := BK502.nr hg; replace BK502 := BK502.bb hb; have NB503_512 := BK503.nl hg; have NB512_503 := BK503.nr hg; replace BK503 := BK503.bb hb; clear hb hbox hg; have hnb22 := NB512_501.out; have hnc22 := NB501_512.out; have hnb23 := NB512_502.out; have hnc23 := NB502_512.out; have hnb24 := NB512_503.out; have hnc24 := NB503_512.out; obtain ⟨hcz25_0, hcz25_1, hcz25_2⟩ := cz3_ BK512.out; obtain ⟨hfz25_0, hfz25_1, hfz25_2⟩ := fz3_ BK512.out))
       go_loopg [9] k1 (fun kq v9 w' => ∃ (x9_2 : Int) (x503000_2 : Int) (x503001_2 : Int) (x503002_2 : Int) (x504000_2 : Int) (x504001_2 : Int), v9 = .int .i64 x9_2 ∧ Aside0 (impl_FirstFailure.l1 kq l1 x9_2 t508 (t508.length : Int) x21_1 a0_0 a0_1 ((rd_T30 t508 x21_1).f0.f0) ((rd_T30 t508 x21_1).f0.f1) ((rd_T30 t508 x21_1).f1) = some (r1, r2, r3, r4, r5, r6)) ∧ Aside0 (kq ≤ k1) ∧ Aside0 (Kd.R k30 30 w' w.heap.size (fun k_ => k_ ≠ gb502 ∧ k_ ≠ gb512) (.slice (some ad511) t508.length co17) t508) ∧ Aside0 (w'.heap[gb501]? = some (.cells #[.int .i64 a0_0, .int .i64 a0_1] 28 (0, 0))) ∧ Aside0 (w'.heap[gb502]? = some (.cells #[.int .i64 x503000_2, .int .i64 x503001_2, .int .i64 x503002_2] 30 (0, 0))) ∧ Aside0 (w'.heap[gb503]? = some (.cells #[.int .i64 x504000_2, .int .i64 x504001_2] 48 (0, 0))) ∧ Aside0 (w'.heap[gb512]? = some (.cells #[.int .i64 ((rd_T30 t508 x21_1).f0.f0), .int .i64 ((rd_T30 t508 x21_1).f0.f1), .int .i64 ((rd_T30 t508 x21_1).f1)] 30 (0, 0))) ∧ Aside0 (Below w.heap.size w w'))
       case atStart => exact ⟨(0), (x503000_1), (x503001_1), (x503002_1), (x504000_1), (x504001_1), (by first | rfl | (simp; done) | (simp [*]; done)), H', ⟨Nat.le_refl _⟩, ⟨by (with_reducible repeat (first | apply Kd.R_alloc | apply Kd.R_drewN | apply Kd.R_drew)); exact Kd.R_mono (Kd.R_far (p := ⟨gb512, 2, none⟩) (Kd.R_far (p := ⟨gb512, 1, none⟩) (Kd.R_far (p := ⟨gb512, 0, none⟩) (Kd.R_mono HO_19.out (fun k_ hk => (⟨hk, hk.2⟩ : _ ∧ k_ ≠ gb512))) (fun _ hk => hk.2) (.int .i64 ((rd_T30 t508 x21_1).f0.f0))) (fun _ hk => hk.2) (.int .i64 ((rd_T30 t508 x21_1).f0.f1))) (fun _ hk => hk.2) (.int .i64 ((rd_T30 t508 x21_1).f1))) (fun _ hk => ⟨hk.1.1, hk.1.2⟩)⟩, ⟨by (with_reducible repeat (first | refine blk_drewN ?_ _ | refine blk_drew ?_ | refine blk_alloc ?_ _)); refine blk_far ?_ NB501_512.out _; (with_reducible repeat (first | refine blk_drewN ?_ _ | refine blk_drew ?_ | refine blk_alloc ?_ _)); refine blk_far ?_ NB501_512.out _; (with_reducible repeat (first | refine blk_drewN ?_ _ | refine blk_drew ?_ | refine blk_alloc ?_ _)); refine blk_far ?_ NB501_512.out _; (with_reducible repeat (first | refine blk_drewN ?_ _ | refine blk_drew ?_ | refine blk_alloc ?_ _)); exact BK501.out⟩, ⟨by (with_reducible repeat (first | refine blk_drewN ?_ _ | refine blk_drew ?_ | refine blk_alloc ?_ _)); refine blk_far ?_ NB502_512.out _; (with_reducible repeat (first | refine blk_drewN ?_ _ | refine blk_drew ?_ | refine blk_alloc ?_ _)); refine blk_far ?_ NB502_512.out _; (with_reducible repeat (first | refine blk_drewN ?_ _ | refine blk_drew ?_ | refine blk_alloc ?_ _)); refine blk_far ?_ NB502_512.out _; (with_reducible repeat (first | refine blk_drewN ?_ _ | refine blk_drew ?_ | refine blk_alloc ?_ _)); exact BK502.out⟩, ⟨by (with_reducible repeat (first | refine blk_drewN ?_ _ | refine blk_drew ?_ | refine blk_alloc ?_ _)); refine blk_far ?_ NB503_512.out _; (with_reducible repeat (first | refine blk_drewN ?_ _ | refine blk_drew ?_ | refine blk_alloc ?_ _)); refine blk_far ?_ NB503_512.out _; (with_reducible repeat (first | refine blk_drewN ?_ _ | refine blk_drew ?_ | refine blk_alloc ?_ _)); refine blk_far ?_ NB503_512.out _; (with_reducible repeat (first | refine blk_drewN ?_ _ | refine blk_drew ?_ | refine blk_alloc ?_ _)); exact BK503.out⟩, ⟨bq3_ BK512.out⟩, ⟨hb4_ HB.out GE501.out GE502.out GE503.out GE512.out⟩⟩
       case round =>
        clear H'
        try clear c1
        try clear c2
        try clear p2
        try clear c4
        try clear p5
        try clear q5
        try clear hx5
        try clear c7
        try clear c8
        try clear c10
        try clear c11
        try clear c18
        try clear c18b0
        try clear c19
        try clear c19b0
        try clear c20
        try clear c20b0
        try clear c22
        try clear c23
        try clear c24
        try clear hcz12_0
        try clear hcz12_1
        try clear hcz14_0
        try clear hcz14_1
        try clear hcz25_0
        try clear hcz25_1
        try clear hcz25_2
        try clear hfz12_0
        try clear hfz12_1
        try clear hfz14_0
        try clear hfz14_1
        try clear hfz25_0
        try clear hfz25_1
        try clear hfz25_2
        try clear hx511_0
        try clear hx511_1
        try clear hx511_2
        try clear p2
        try clear p511
        try clear q511
        obtain ⟨x9_2, x503000_2, x503001_2, x503002_2, x504000_2, x504001_2, rfl, HA, HK2, HO_19, BK501, BK502, BK503, BK512, HB⟩ := hrel
        cases gk with
        | zero => exact absurd HA.out (by simp [impl_FirstFailure.l1])
        | succ k2 =>
         have H := HA.out
         clear HA
         simp only [impl_FirstFailure.l1] at H
         replace H := Option.bind_eq_some_iff.mp H
         obtain ⟨t513, A260, H⟩ := H
         replace H : (if x9_2 < (wrap64 (4 * t513)) then ((impl_CoversAll.f k2 ((rd_T30 t508 x21_1).f0.f0) ((rd_T30 t508 x21_1).f0.f1) ((rd_T30 t508 x21_1).f1) (wrap64 (Int.tdiv x9_2 4)) (Int.tmod x9_2 4) l1).bind fun t515 => (if t515 = true then (impl_FirstFailure.l1 k2 l1 (wrap64 (x9_2 + 1)) t508 (t508.length : Int) x21_1 a0_0 a0_1 ((rd_T30 t508 x21_1).f0.f0) ((rd_T30 t508 x21_1).f0.f1) ((rd_T30 t508 x21_1).f1)) else (some (((rd_T30 t508 x21_1).f0.f0), ((rd_T30 t508 x21_1).f0.f1), ((rd_T30 t508 x21_1).f1), wrap64 (Int.tdiv x9_2 4), Int.tmod x9_2 4, true)))) else (impl_FirstFailure.l0 k2 l1 t508 (t508.length : Int) (wrap64 (x21_1 + 1)) a0_0 a0_1)) = some (r1, r2, r3, r4, r5, r6) := H
         have A26 := Aside0.mk A260
         clear A260
         by_cases c27 : x9_2 < (wrap64 (4 * t513))
         ·rw [if_pos c27] at H
          have c27b0 : decide (x9_2 < (wrap64 (4 * t513))) = true := decide_eq_true c27
          clear c27
          replace H := Option.bind_eq_some_iff.mp H
          obtain ⟨t515, A280, H⟩ := H
          replace H : (if t515 = true then (impl_FirstFailure.l1 k2 l1 (wrap64 (x9_2 + 1)) t508 (t508.length : Int) x21_1 a0_0 a0_1 ((rd_T30 t508 x21_1).f0.f0) ((rd_T30 t508 x21_1).f0.f1) ((rd_T30 t508 x21_1).f1)) else (some (((rd_T30 t508 x21_1).f0.f0), ((rd_T30 t508 x21_1).f0.f1), ((rd_T30 t508 x21_1).f1), wrap64 (Int.tdiv x9_2 4), Int.tmod x9_2 4, true))) = some (r1, r2, r3, r4, r5, r6) := H
          have A28 := Aside0.mk A280
          clear A280
          by_cases c29 : t515 = true
          ·subst c29
           have H1 : (impl_FirstFailure.l1 k2 l1 (wrap64 (x9_2 + 1)) t508 (t508.length : Int) x21_1 a0_0 a0_1 ((rd_T30 t508 x21_1).f0.f0) ((rd_T30 t508 x21_1).f0.f1) ((rd_T30 t508 x21_1).f1)) = some (r1, r2, r3, r4, r5, r6) := by rw [if_pos rfl] at H; exact H
           clear H
           have H := H1
           clear H1
           have H' := Aside0.mk H
           clear H
           have hnb30 := NB501_502.out
           have hnc30 := NB502_501.out
           have hnb31 := NB501_503.out
           have hnc31 := NB503_501.out
           have hnb32 := NB501_512.out
           have hnc32 := NB512_501.out
           obtain ⟨hcz33_0, hcz33_1⟩ := cz2_ BK501.out
           obtain ⟨hfz33_0, hfz33_1⟩ := fz2_ BK501.out
           go_wp2_with (first | (refine gl_ 27 Try.func64 #[.agg #[.int .i64 a0_0, .int .i64 a0_1]] ?_; (with_reducible refine (impl_CountCells.calls a0_0 a0_1 t513 _ A26.out).mono ?_); rintro e w34 ⟨rfl, hb⟩; refine ⟨_, rfl, ?_⟩; replace HO_19 := HO_19.kb hb; replace BK501 := BK501.bb hb; replace BK502 := BK502.bb hb; replace BK503 := BK503.bb hb; replace BK512 := BK512.bb hb; replace HB := HB.s4 GE501 GE502 GE503 GE512 hb; (try clear hb)) | (refine box_ (N := 10) (cs := #[.int .i64 0, .int .i64 0]) (t := 48) ?_; intro gb514 hg w35 hbox hb; replace HO_19 := HO_19.kb hb; have BK514 := Aside0.mk (hbox); have GW514 := HB.g4 GE501 GE502 GE503 GE512 hg; have GE514 := HB.g4 GE501 GE502 GE503 GE512 hg; replace HB := HB.s4 GE501 GE502 GE503 GE512 hb; have NB501_514 := BK501.nl hg; have NB514_501 := BK501.nr hg; replace BK501 := BK501.bb hb; have NB502_514 := BK502.nl hg; have NB514_502 := BK502.nr hg; replace BK502 := BK502.bb hb; have NB503_514 := BK503.nl hg; have NB514_503 := BK503.nr hg; replace BK503 := BK503.bb hb; have NB512_514 := BK512.nl hg; have NB514_512 := BK512.nr hg; replace BK512 := BK512.bb hb; clear hb hbox hg; have hnb36 := NB514_501.out; have hnc36 := NB501_514.out; have hnb37 := NB514_502.out; have hnc37 := NB502_514.out; have hnb38 := NB514_503.out; have hnc38 := NB503_514.out; have hnb39 := NB514_512.out; have hnc39 := NB512_514.out; obtain ⟨hcz40_0, hcz40_1⟩ := cz2_ BK514.out; obtain ⟨hfz40_0, hfz40_1⟩ := fz2_ BK514.out; have hnb41 := NB512_502.out; have hnc41 := NB502_512.out; have hnb42 := NB512_503.out; have hnc42 := NB503_512.out; obtain ⟨hcz43_0, hcz43_1, hcz43_2⟩ := cz3_ BK512.out; obtain ⟨hfz43_0, hfz43_1, hfz43_2⟩ := fz3_ BK512.out) | (refine gl_ 40 Try.func33 #[.agg #[.int .i64 ((rd_T30 t508 x21_1).f0.f0), .int .i64 ((rd_T30 t508 x21_1).f0.f1), .int .i64 ((rd_T30 t508 x21_1).f1)], .agg #[.int .i64 (wrap64 (Int.tdiv x9_2 4)), .int .i64 (Int.tmod x9_2 4)], .slice A1 l1.length c1] ?_; (with_reducible refine (impl_CoversAll.calls k2 ((rd_T30 t508 x21_1).f0.f0) ((rd_T30 t508 x21_1).f0.f1) ((rd_T30 t508 x21_1).f1) (wrap64 (Int.tdiv x9_2 4)) (Int.tmod x9_2 4) _ _ l1 true _ ?side1 ?side2 A28.out).mono ?_); (case side1 => exact Kd.C_below HR1.out (hb5_ HB.out GE501.out GE502.out GE503.out GE512.out GE514.out)); (case side2 => exact HC1.out); rintro e w44 ⟨rfl, hb⟩; refine ⟨_, rfl, ?_⟩; replace HO_19 := Aside0.mk (Kd.R_below (rq2_ HO_19.out BK514.out) hb); replace BK501 := Aside0.mk (blk_below (g := gb501) (o := .cells #[.int .i64 a0_0, .int .i64 a0_1] 28 (0, 0)) (by (with_reducible repeat (first | refine blk_drewN ?_ _ | refine blk_drew ?_ | refine blk_alloc ?_ _)); refine blk_far ?_ NB501_514.out _; (with_reducible repeat (first | refine blk_drewN ?_ _ | refine blk_drew ?_ | refine blk_alloc ?_ _)); refine blk_far ?_ NB501_514.out _; (with_reducible repeat (first | refine blk_drewN ?_ _ | refine blk_drew ?_ | refine blk_alloc ?_ _)); exact BK501.out) hb); replace BK502 := Aside0.mk (blk_below (g := gb502) (o := .cells #[.int .i64 x503000_2, .int .i64 x503001_2, .int .i64 x503002_2] 30 (0, 0)) (by (with_reducible repeat (first | refine blk_drewN ?_ _ | refine blk_drew ?_ | refine blk_alloc ?_ _)); refine blk_far ?_ NB502_514.out _; (with_reducible repeat (first | refine blk_drewN ?_ _ | refine blk_drew ?_ | refine blk_alloc ?_ _)); refine blk_far ?_ NB502_514.out _; (with_reducible repeat (first | refine blk_drewN ?_ _ | refine blk_drew ?_ | refine blk_alloc ?_ _)); exact BK502.out) hb); replace BK503 := Aside0.mk (blk_below (g := gb503) (o := .cells #[.int .i64 x504000_2, .int .i64 x504001_2] 48 (0, 0)) (by (with_reducible repeat (first | refine blk_drewN ?_ _ | refine blk_drew ?_ | refine blk_alloc ?_ _)); refine blk_far ?_ NB503_514.out _; (with_reducible repeat (first | refine blk_drewN ?_ _ | refine blk_drew ?_ | refine blk_alloc ?_ _)); refine blk_far ?_ NB503_514.out _; (with_reducible repeat (first | refine blk_drewN ?_ _ | refine blk_drew ?_ | refine blk_alloc ?_ _)); exact BK503.out) hb); replace BK512 := Aside0.mk (blk_below (g := gb512) (o := .cells #[.int .i64 ((rd_T30 t508 x21_1).f0.f0), .int .i64 ((rd_T30 t508 x21_1).f0.f1), .int .i64 ((rd_T30 t508 x21_1).f1)] 30 (0, 0)) (by (with_reducible repeat (first | refine blk_drewN ?_ _ | refine blk_drew ?_ | refine blk_alloc ?_ _)); refine blk_far ?_ NB512_514.out _; (with_reducible repeat (first | refine blk_drewN ?_ _ | refine blk_drew ?_ | refine blk_alloc ?_ _)); refine blk_far ?_ NB512_514.out _; (with_reducible repeat (first | refine blk_drewN ?_ _ | refine blk_drew ?_ | refine blk_alloc ?_ _)); exact BK512.out) hb); replace BK514 := Aside0.mk (blk_below (bq2_ BK514.out) hb); replace HB := HB.s5 GE501 GE502 GE503 GE512 GE514 hb; (try clear hb)))
           go_roundg k2
           case measure => have := HK1.out; have := HK2.out; omega
           case rel => exact ⟨(wrap64 (x9_2 + 1)), (x503000_2), (x503001_2), (x503002_2), (x504000_2), (x504001_2), (by first | rfl | (simp; done) | (simp [*]; done)), H', ⟨by have := HK1.out; have := HK2.out; omega⟩, ⟨kr_ HO_19.out⟩, ⟨bk_ BK501.out⟩, ⟨bk_ BK502.out⟩, ⟨bk_ BK503.out⟩, ⟨bk_ BK512.out⟩, ⟨hb5_ HB.out GE501.out GE502.out GE503.out GE512.out GE514.out⟩⟩
          ·replace c29 := Bool.eq_false_iff.mpr c29
           subst c29
           have H1 : (some (((rd_T30 t508 x21_1).f0.f0), ((rd_T30 t508 x21_1).f0.f1), ((rd_T30 t508 x21_1).f1), wrap64 (Int.tdiv x9_2 4), Int.tmod x9_2 4, true)) = some (r1, r2, r3, r4, r5, r6) := by rw [if_neg (show ¬ (false = true) by decide)] at H; exact H
           clear H
           have H := H1
           clear H1
           simp only [Option.some.injEq, Prod.mk.injEq] at H
           obtain ⟨rfl, rfl, rfl, rfl, rfl, rfl⟩ := H
           have hnb45 := NB501_502.out
           have hnc45 := NB502_501.out
           have hnb46 := NB501_503.out
           have hnc46 := NB503_501.out
           have hnb47 := NB501_512.out
           have hnc47 := NB512_501.out
           obtain ⟨hcz48_0, hcz48_1⟩ := cz2_ BK501.out
           obtain ⟨hfz48_0, hfz48_1⟩ := fz2_ BK501.out
           try go_wp2_with (first | (refine gl_ 27 Try.func64 #[.agg #[.int .i64 a0_0, .int .i64 a0_1]] ?_; (with_reducible refine (impl_CountCells.calls a0_0 a0_1 t513 _ A26.out).mono ?_); rintro e w49 ⟨rfl, hb⟩; refine ⟨_, rfl, ?_⟩; replace HO_19 := HO_19.kb hb; replace BK501 := BK501.bb hb; replace BK502 := BK502.bb hb; replace BK503 := BK503.bb hb; replace BK512 := BK512.bb hb; replace HB := HB.s4 GE501 GE502 GE503 GE512 hb; (try clear hb)) | (refine box_ (N := 10) (cs := #[.int .i64 0, .int .i64 0]) (t := 48) ?_; intro gb514 hg w50 hbox hb; replace HO_19 := HO_19.kb hb; have BK514 := Aside0.mk (hbox); have GW514 := HB.g4 GE501 GE502 GE503 GE512 hg; have GE514 := HB.g4 GE501 GE502 GE503 GE512 hg; replace HB := HB.s4 GE501 GE502 GE503 GE512 hb; have NB501_514 := BK501.nl hg; have NB514_501 := BK501.nr hg; replace BK501 := BK501.bb hb; have NB502_514 := BK502.nl hg; have NB514_502 := BK502.nr hg; replace BK502 := BK502.bb hb; have NB503_514 := BK503.nl hg; have NB514_503 := BK503.nr hg; replace BK503 := BK503.bb hb; have NB512_514 := BK512.nl hg; have NB514_512 := BK512.nr hg; replace BK512 := BK512.bb hb; clear hb hbox hg; have hnb51 := NB514_501.out; have hnc51 := NB501_514.out; have hnb52 := NB514_502.out; have hnc52 := NB502_514.out; have hnb53 := NB514_503.out; have hnc53 := NB503_514.out; have hnb54 := NB514_512.out; have hnc54 := NB512_514.out; obtain ⟨hcz55_0, hcz55_1⟩ := cz2_ BK514.out; obtain ⟨hfz55_0, hfz55_1⟩ := fz2_ BK514.out; have hnb56 := NB512_502.out; have hnc56 := NB502_512.out; have hnb57 := NB512_503.out; have hnc57 := NB503_512.out; obtain ⟨hcz58_0, hcz58_1, hcz58_2⟩ := cz3_ BK512.out; obtain ⟨hfz58_0, hfz58_1, hfz58_2⟩ := fz3_ BK512.out) | (refine gl_ 40 Try.func33 #[.agg #[.int .i64 ((rd_T30 t508 x21_1).f0.f0), .int .i64 ((rd_T30 t508 x21_1).f0.f1), .int .i64 ((rd_T30 t508 x21_1).f1)], .agg #[.int .i64 (wrap64 (Int.tdiv x9_2 4)), .int .i64 (Int.tmod x9_2 4)], .slice A1 l1.length c1] ?_; (with_reducible refine (impl_CoversAll.calls k2 ((rd_T30 t508 x21_1).f0.f0) ((rd_T30 t508 x21_1).f0.f1) ((rd_T30 t508 x21_1).f1) (wrap64 (Int.tdiv x9_2 4)) (Int.tmod x9_2 4) _ _ l1 false _ ?side1 ?side2 A28.out).mono ?_); (case side1 => exact Kd.C_below HR1.out (hb5_ HB.out GE501.out GE502.out GE503.out GE512.out GE514.out)); (case side2 => exact HC1.out); rintro e w59 ⟨rfl, hb⟩; refine ⟨_, rfl, ?_⟩; replace HO_19 := Aside0.mk (Kd.R_below (rq2_ HO_19.out BK514.out) hb); replace BK501 := Aside0.mk (blk_below (g := gb501) (o := .cells #[.int .i64 a0_0, .int .i64 a0_1] 28 (0, 0)) (by (with_reducible repeat (first | refine blk_drewN ?_ _ | refine blk_drew ?_ | refine blk_alloc ?_ _)); refine blk_far ?_ NB501_514.out _; (with_reducible repeat (first | refine blk_drewN ?_ _ | refine blk_drew ?_ | refine blk_alloc ?_ _)); refine blk_far ?_ NB501_514.out _; (with_reducible repeat (first | refine blk_drewN ?_ _ | refine blk_drew ?_ | refine blk_alloc ?_ _)); exact BK501.out) hb); replace BK502 := Aside0.mk (blk_below (g := gb502) (o := .cells #[.int .i64 x503000_2, .int .i64 x503001_2, .int .i64 x503002_2] 30 (0, 0)) (by (with_reducible repeat (first | refine blk_drewN ?_ _ | refine blk_drew ?_ | refine blk_alloc ?_ _)); refine blk_far ?_ NB502_514.out _; (with_reducible repeat (first | refine blk_drewN ?_ _ | refine blk_drew ?_ | refine blk_alloc ?_ _)); refine blk_far ?_ NB502_514.out _; (with_reducible repeat (first | refine blk_drewN ?_ _ | refine blk_drew ?_ | refine blk_alloc ?_ _)); exact BK502.out) hb); replace BK503 := Aside0.mk (blk_below (g := gb503) (o := .cells #[.int .i64 x504000_2, .int .i64 x504001_2] 48 (0, 0)) (by (with_reducible repeat (first | refine blk_drewN ?_ _ | refine blk_drew ?_ | refine blk_alloc ?_ _)); refine blk_far ?_ NB503_514.out _; (with_reducible repeat (first | refine blk_drewN ?_ _ | refine blk_drew ?_ | refine blk_alloc ?_ _)); refine blk_far ?_ NB503_514.out _; (with_reducible repeat (first | refine blk_drewN ?_ _ | refine blk_drew ?_ | refine blk_alloc ?_ _)); exact BK503.out) hb); replace BK512 := Aside0.mk (blk_below (g := gb512) (o := .cells #[.int .i64 ((rd_T30 t508 x21_1).f0.f0), .int .i64 ((rd_T30 t508 x21_1).f0.f1), .int .i64 ((rd_T30 t508 x21_1).f1)] 30 (0, 0)) (by (with_reducible repeat (first | refine blk_drewN ?_ _ | refine blk_drew ?_ | refine blk_alloc ?_ _)); refine blk_far ?_ NB512_514.out _; (with_reducible repeat (first | refine blk_drewN ?_ _ | refine blk_drew ?_ | refine blk_alloc ?_ _)); refine blk_far ?_ NB512_514.out _; (with_reducible repeat (first | refine blk_drewN ?_ _ | refine blk_drew ?_ | refine blk_alloc ?_ _)); exact BK512.out) hb); replace BK514 := Aside0.mk (blk_below (bq2_ BK514.out) hb); replace HB := HB.s5 GE501 GE502 GE503 GE512 GE514 hb; (try clear hb)))
           replace HO_19 := Aside0.mk (Kd.R_drew HO_19.out)
           replace BK501 := Aside0.mk (blk_drew BK501.out)
           replace BK502 := Aside0.mk (blk_drew BK502.out)
           replace BK503 := Aside0.mk (blk_drew BK503.out)
           replace BK512 := Aside0.mk (blk_drew BK512.out)
           replace BK514 := Aside0.mk (blk_drew BK514.out)
           replace HB := Aside0.mk (below_drew1 HB.out)
           refine start_ (n := 5) (S := fun w' => w'.cell? ⟨gb512, 0, none⟩ = some (.int .i64 ((rd_T30 t508 x21_1).f0.f0)) ∧ w'.cell? ⟨gb512, 1, none⟩ = some (.int .i64 ((rd_T30 t508 x21_1).f0.f1)) ∧ w'.cell? ⟨gb512, 2, none⟩ = some (.int .i64 ((rd_T30 t508 x21_1).f1)) ∧ w'.cell? ⟨gb514, 0, none⟩ = some (.int .i64 (wrap64 (Int.tdiv x9_2 4))) ∧ w'.cell? ⟨gb514, 1, none⟩ = some (.int .i64 (Int.tmod x9_2 4))) (ds := []) #[false, false, false, false, false] (by kernel_rfl) rfl rfl ⟨BK512.c 0, BK512.c 1, BK512.c 2, BK514.c 0, BK514.c 1⟩ (fun hHeld => ?_)
           generalize w59.drew = w60 at HO_19 BK501 BK502 BK503 BK512 BK514 HB hHeld ⊢
           refine take_ (i := 0) (N := some 42) (v := ?_) (a' := ?_) #[true, false, false, false, false] rfl rfl (by kernel_rfl) (fun _ _ _ h => h) (Or.inl ⟨by rfl, ?_⟩) hHeld ?_ ?_
           rotate_left
           ·rintro w' ⟨s0, s1, s2, s3, s4⟩
            go_simp
            with_reducible rfl
           rotate_left
           ·simp only [Act.put, List.setIfInBounds_toArray, List.set_cons_zero, List.set_cons_succ, i64_w, i32_w]
            rfl
           refine take_ (i := 1) (N := some 43) (v := ?_) (a' := ?_) #[true, true, false, false, false] rfl rfl (by kernel_rfl) (fun _ _ _ h => h) (Or.inl ⟨by rfl, ?_⟩) hHeld ?_ ?_
           rotate_left
           ·rintro w' ⟨s0, s1, s2, s3, s4⟩
            go_simp
            with_reducible rfl
           rotate_left
           ·simp only [Act.put, List.setIfInBounds_toArray, List.set_cons_zero, List.set_cons_succ, i64_w, i32_w]
            rfl
           refine one_ (i := 2) (N := none) #[true, true, true, false, false] rfl rfl (by kernel_rfl) (by decide) (fun K hK => ?_)
           have hs61 : w60.cell? ⟨gb502, 0, none⟩ = some (.int .i64 x503000_2) := BK502.c 0
           have hfs61 := blk_frozen BK502.out 0
           have hns61_0 := NB501_502.out
           have hns61_2 := NB503_502.out
           have hns61_3 := NB512_502.out
           have hns61_4 := NB514_502.out
           have hms61_0 := NB502_501.out
           have hms61_2 := NB502_503.out
           have hms61_3 := NB502_512.out
           have hms61_4 := NB502_514.out
           have hs62 : w60.cell? ⟨gb502, 1, none⟩ = some (.int .i64 x503001_2) := BK502.c 1
           have hfs62 := blk_frozen BK502.out 1
           have hns62_0 := NB501_502.out
           have hns62_2 := NB503_502.out
           have hns62_3 := NB512_502.out
           have hns62_4 := NB514_502.out
           have hms62_0 := NB502_501.out
           have hms62_2 := NB502_503.out
           have hms62_3 := NB502_512.out
           have hms62_4 := NB502_514.out
           have hs63 : w60.cell? ⟨gb502, 2, none⟩ = some (.int .i64 x503002_2) := BK502.c 2
           have hfs63 := blk_frozen BK502.out 2
           have hns63_0 := NB501_502.out
           have hns63_2 := NB503_502.out
           have hns63_3 := NB512_502.out
           have hns63_4 := NB514_502.out
           have hms63_0 := NB502_501.out
           have hms63_2 := NB502_503.out
           have hms63_3 := NB502_512.out
           have hms63_4 := NB502_514.out
           refine skip_ (w1 := ?_) (by rfl) rfl ?_ ?_
           rotate_left
           ·go_simp
            rfl
           refine hK.out _ _ ⟨((cell_far (p := ⟨gb502, _, none⟩) NB512_502.out _).trans (((cell_far (p := ⟨gb502, _, none⟩) NB512_502.out _).trans (((cell_far (p := ⟨gb502, _, none⟩) NB512_502.out _).trans (hHeld.1)))))), ((cell_far (p := ⟨gb502, _, none⟩) NB512_502.out _).trans (((cell_far (p := ⟨gb502, _, none⟩) NB512_502.out _).trans (((cell_far (p := ⟨gb502, _, none⟩) NB512_502.out _).trans (hHeld.2.1)))))), ((cell_far (p := ⟨gb502, _, none⟩) NB512_502.out _).trans (((cell_far (p := ⟨gb502, _, none⟩) NB512_502.out _).trans (((cell_far (p := ⟨gb502, _, none⟩) NB512_502.out _).trans (hHeld.2.2.1)))))), ((cell_far (p := ⟨gb502, _, none⟩) NB514_502.out _).trans (((cell_far (p := ⟨gb502, _, none⟩) NB514_502.out _).trans (((cell_far (p := ⟨gb502, _, none⟩) NB514_502.out _).trans (hHeld.2.2.2.1)))))), ((cell_far (p := ⟨gb502, _, none⟩) NB514_502.out _).trans (((cell_far (p := ⟨gb502, _, none⟩) NB514_502.out _).trans (((cell_far (p := ⟨gb502, _, none⟩) NB514_502.out _).trans (hHeld.2.2.2.2))))))⟩ (fun hHeld => ?_)
           clear hK K
           refine one_ (i := 3) (N := none) #[true, true, true, true, false] rfl rfl (by kernel_rfl) (by decide) (fun K hK => ?_)
           have hs64 : w60.cell? ⟨gb503, 0, none⟩ = some (.int .i64 x504000_2) := BK503.c 0
           have hfs64 := blk_frozen BK503.out 0
           have hns64_0 := NB501_503.out
           have hns64_1 := NB502_503.out
           have hns64_3 := NB512_503.out
           have hns64_4 := NB514_503.out
           have hms64_0 := NB503_501.out
           have hms64_1 := NB503_502.out
           have hms64_3 := NB503_512.out
           have hms64_4 := NB503_514.out
           have hs65 : w60.cell? ⟨gb503, 1, none⟩ = some (.int .i64 x504001_2) := BK503.c 1
           have hfs65 := blk_frozen BK503.out 1
           have hns65_0 := NB501_503.out
           have hns65_1 := NB502_503.out
           have hns65_3 := NB512_503.out
           have hns65_4 := NB514_503.out
           have hms65_0 := NB503_501.out
           have hms65_1 := NB503_502.out
           have hms65_3 := NB503_512.out
           have hms65_4 := NB503_514.out
           refine skip_ (w1 := ?_) (by rfl) rfl ?_ ?_
           rotate_left
           ·go_simp
            rfl
           refine hK.out _ _ ⟨((cell_far (p := ⟨gb503, _, none⟩) NB512_503.out _).trans (((cell_far (p := ⟨gb503, _, none⟩) NB512_503.out _).trans (hHeld.1)))), ((cell_far (p := ⟨gb503, _, none⟩) NB512_503.out _).trans (((cell_far (p := ⟨gb503, _, none⟩) NB512_503.out _).trans (hHeld.2.1)))), ((cell_far (p := ⟨gb503, _, none⟩) NB512_503.out _).trans (((cell_far (p := ⟨gb503, _, none⟩) NB512_503.out _).trans (hHeld.2.2.1)))), ((cell_far (p := ⟨gb503, _, none⟩) NB514_503.out _).trans (((cell_far (p := ⟨gb503, _, none⟩) NB514_503.out _).trans (hHeld.2.2.2.1)))), ((cell_far (p := ⟨gb503, _, none⟩) NB514_503.out _).trans (((cell_far (p := ⟨gb503, _, none⟩) NB514_503.out _).trans (hHeld.2.2.2.2))))⟩ (fun hHeld => ?_)
           clear hK K
           refine pure_ (i := 4) (N := some 6) (v := ?_) (a' := ?_) #[true, true, true, true, true] rfl rfl (by kernel_rfl) (fun _ _ _ h => h) (Or.inl ⟨by rfl, ?_⟩) ?_ ?_
           rotate_left
           ·intro w'
            go_simp
            with_reducible rfl
           rotate_left
           ·simp only [Act.put, List.setIfInBounds_toArray, List.set_cons_zero, List.set_cons_succ, i64_w, i32_w]
            rfl
           refine done_ (by kernel_rfl) ?_
           try go_wp2
           refine bodyPost_ret (results_list (rs := [.cell 4 30, .cell 5 48, .tmp 6]) rfl (by simp) (.cell gb502 30 #[.int .i64 ((rd_T30 t508 x21_1).f0.f0), .int .i64 ((rd_T30 t508 x21_1).f0.f1), .int .i64 ((rd_T30 t508 x21_1).f1)] (0, 0) _ rfl (by (with_reducible repeat (first | refine blk_drewN ?_ _ | refine blk_drew ?_ | refine blk_alloc ?_ _)); refine blk_far ?_ NB502_503.out _; (with_reducible repeat (first | refine blk_drewN ?_ _ | refine blk_drew ?_ | refine blk_alloc ?_ _)); refine blk_far ?_ NB502_503.out _; (with_reducible repeat (first | refine blk_drewN ?_ _ | refine blk_drew ?_ | refine blk_alloc ?_ _)); refine blk_put (cs := #[.int .i64 ((rd_T30 t508 x21_1).f0.f0), .int .i64 ((rd_T30 t508 x21_1).f0.f1), .int .i64 x503002_2]) ?_ 2 _ rfl; (with_reducible repeat (first | refine blk_drewN ?_ _ | refine blk_drew ?_ | refine blk_alloc ?_ _)); refine blk_put (cs := #[.int .i64 ((rd_T30 t508 x21_1).f0.f0), .int .i64 x503001_2, .int .i64 x503002_2]) ?_ 1 _ rfl; (with_reducible repeat (first | refine blk_drewN ?_ _ | refine blk_drew ?_ | refine blk_alloc ?_ _)); refine blk_put (cs := #[.int .i64 x503000_2, .int .i64 x503001_2, .int .i64 x503002_2]) ?_ 0 _ rfl; (with_reducible repeat (first | refine blk_drewN ?_ _ | refine blk_drew ?_ | refine blk_alloc ?_ _)); exact BK502.out) Try.underlying30 rfl (by kernel_rfl) (.cell gb503 48 #[.int .i64 (wrap64 (Int.tdiv x9_2 4)), .int .i64 (Int.tmod x9_2 4)] (0, 0) _ rfl (by (with_reducible repeat (first | refine blk_drewN ?_ _ | refine blk_drew ?_ | refine blk_alloc ?_ _)); refine blk_put (cs := #[.int .i64 (wrap64 (Int.tdiv x9_2 4)), .int .i64 x504001_2]) ?_ 1 _ rfl; (with_reducible repeat (first | refine blk_drewN ?_ _ | refine blk_drew ?_ | refine blk_alloc ?_ _)); refine blk_put (cs := #[.int .i64 x504000_2, .int .i64 x504001_2]) ?_ 0 _ rfl; (with_reducible repeat (first | refine blk_drewN ?_ _ | refine blk_drew ?_ | refine blk_alloc ?_ _)); refine blk_far ?_ NB503_502.out _; (with_reducible repeat (first | refine blk_drewN ?_ _ | refine blk_drew ?_ | refine blk_alloc ?_ _)); refine blk_far ?_ NB503_502.out _; (with_reducible repeat (first | refine blk_drewN ?_ _ | refine blk_drew ?_ | refine blk_alloc ?_ _)); refine blk_far ?_ NB503_502.out _; (with_reducible repeat (first | refine blk_drewN ?_ _ | refine blk_drew ?_ | refine blk_alloc ?_ _)); exact BK503.out) Try.underlying48 rfl (by kernel_rfl) (.tmp .nil)))) rfl ?_
           exact ⟨ex_, hb5_ HB.out GE501.out GE502.out GE503.out GE512.out GE514.out⟩
         ·rw [if_neg c27] at H
          have c27b0 : decide (x9_2 < (wrap64 (4 * t513))) = false := decide_eq_false c27
          clear c27
          have H' := Aside0.mk H
          clear H
          have hnb66 := NB501_502.out
          have hnc66 := NB502_501.out
          have hnb67 := NB501_503.out
          have hnc67 := NB503_501.out
          have hnb68 := NB501_512.out
          have hnc68 := NB512_501.out
          obtain ⟨hcz69_0, hcz69_1⟩ := cz2_ BK501.out
          obtain ⟨hfz69_0, hfz69_1⟩ := fz2_ BK501.out
          go_wp2_with (first | (refine gl_ 27 Try.func64 #[.agg #[.int .i64 a0_0, .int .i64 a0_1]] ?_; (with_reducible refine (impl_CountCells.calls a0_0 a0_1 t513 _ A26.out).mono ?_); rintro e w70 ⟨rfl, hb⟩; refine ⟨_, rfl, ?_⟩; replace HO_19 := HO_19.kb hb; replace BK501 := BK501.bb hb; replace BK502 := BK502.bb hb; replace BK503 := BK503.bb hb; replace BK512 := BK512.bb hb; replace HB := HB.s4 GE501 GE502 GE503 GE512 hb; (try clear hb)))
          go_roundg k2
          case measure => have := HK1.out; have := HK2.out; omega
          case rel => exact ⟨(wrap64 (x21_1 + 1)), (x503000_2), (x503001_2), (x503002_2), (x504000_2), (x504001_2), (by first | rfl | (simp; done) | (simp [*]; done)), H', ⟨by have := HK1.out; have := HK2.out; omega⟩, ⟨by (with_reducible repeat (first | apply Kd.R_alloc | apply Kd.R_drewN | apply Kd.R_drew)); exact Kd.R_mono HO_19.out (fun _ hk => hk.1)⟩, ⟨bk_ BK501.out⟩, ⟨bk_ BK502.out⟩, ⟨bk_ BK503.out⟩, ⟨hb4_ HB.out GE501.out GE502.out GE503.out GE512.out⟩⟩
      ·rw [if_neg c20] at H
       exact absurd H (by simp)
     ·rw [if_neg c19] at H
      exact absurd H (by simp)
    ·rw [if_neg c18] at H
     have c18b0 : decide (x21_1 < (t508.length : Int)) = false := decide_eq_false c18
     clear c18
     simp only [Option.some.injEq, Prod.mk.injEq] at H
     obtain ⟨rfl, rfl, rfl, rfl, rfl, rfl⟩ := H
     have hnb71 := NB502_501.out
     have hnc71 := NB501_502.out
     have hnb72 := NB502_503.out
     have hnc72 := NB503_502.out
     obtain ⟨hcz73_0, hcz73_1, hcz73_2⟩ := cz3_ BK502.out
     obtain ⟨hfz73_0, hfz73_1, hfz73_2⟩ := fz3_ BK502.out
     have hnb74 := NB503_501.out
     have hnc74 := NB501_503.out
     obtain ⟨hcz75_0, hcz75_1⟩ := cz2_ BK503.out
     obtain ⟨hfz75_0, hfz75_1⟩ := fz2_ BK503.out
     go_wp2
     refine bodyPost_ret (results_list (rs := [.cell 4 30, .cell 5 48, .tmp 6]) rfl (by simp) (.cell gb502 30 #[.int .i64 0, .int .i64 0, .int .i64 0] (0, 0) _ rfl (by (with_reducible repeat (first | refine blk_drewN ?_ _ | refine blk_drew ?_ | refine blk_alloc ?_ _)); refine blk_far ?_ NB502_503.out _; (with_reducible repeat (first | refine blk_drewN ?_ _ | refine blk_drew ?_ | refine blk_alloc ?_ _)); refine blk_far ?_ NB502_503.out _; (with_reducible repeat (first | refine blk_drewN ?_ _ | refine blk_drew ?_ | refine blk_alloc ?_ _)); refine blk_put (cs := #[.int .i64 0, .int .i64 0, .int .i64 x503002_1]) ?_ 2 _ rfl; (with_reducible repeat (first | refine blk_drewN ?_ _ | refine blk_drew ?_ | refine blk_alloc ?_ _)); refine blk_put (cs := #[.int .i64 0, .int .i64 x503001_1, .int .i64 x503002_1]) ?_ 1 _ rfl; (with_reducible repeat (first | refine blk_drewN ?_ _ | refine blk_drew ?_ | refine blk_alloc ?_ _)); refine blk_put (cs := #[.int .i64 x503000_1, .int .i64 x503001_1, .int .i64 x503002_1]) ?_ 0 _ rfl; (with_reducible repeat (first | refine blk_drewN ?_ _ | refine blk_drew ?_ | refine blk_alloc ?_ _)); exact BK502.out) Try.underlying30 rfl (by kernel_rfl) (.cell gb503 48 #[.int .i64 0, .int .i64 0] (0, 0) _ rfl (by (with_reducible repeat (first | refine blk_drewN ?_ _ | refine blk_drew ?_ | refine blk_alloc ?_ _)); refine blk_put (cs := #[.int .i64 0, .int .i64 x504001_1]) ?_ 1 _ rfl; (with_reducible repeat (first | refine blk_drewN ?_ _ | refine blk_drew ?_ | refine blk_alloc ?_ _)); refine blk_put (cs := #[.int .i64 x504000_1, .int .i64 x504001_1]) ?_ 0 _ rfl; (with_reducible repeat (first | refine blk_drewN ?_ _ | refine blk_drew ?_ | refine blk_alloc ?_ _)); refine blk_far ?_ NB503_502.out _; (with_reducible repeat (first | refine blk_drewN ?_ _ | refine blk_drew ?_ | refine blk_alloc ?_ _)); refine blk_far ?_ NB503_502.out _; (with_reducible repeat (first | refine blk_drewN ?_ _ | refine blk_drew ?_ | refine blk_alloc ?_ _)); refine blk_far ?_ NB503_502.out _; (with_reducible repeat (first | refine blk_drewN ?_ _ | refine blk_drew ?_ | refine blk_alloc ?_ _)); exact BK503.out) Try.underlying48 rfl (by kernel_rfl) (.tmp .nil)))) rfl ?_
     exact ⟨ex_, hb3_ HB.out GE501.out GE502.out GE503.out⟩
 ·replace c4 := Bool.eq_false_iff.mpr c4
  subst c4
  have H1 : (some (0, 0, 0, 0, 0, false)) = some (r1, r2, r3, r4, r5, r6) := by rw [if_neg (show ¬ (false = true) by decide)] at H; exact H
  clear H
  have H := H1
  clear H1
  simp only [Option.some.injEq, Prod.mk.injEq] at H
  obtain ⟨rfl, rfl, rfl, rfl, rfl, rfl⟩ := H
  go_enter Try.func46, Try.ntmps46
  go_wp2_with (first | (refine box_ (N := 2) (cs := #[.int .i64 a0_0, .int .i64 a0_1]) (t := 28) ?_; intro gb501 hg w76 hbox hb; have BK501 := Aside0.mk (hbox); have GW501 := HB.g0 hg; have GE501 := HB.g0 hg; replace HB := HB.s0 hb; clear hb hbox hg) | (refine box_ (N := 4) (cs := #[.int .i64 0, .int .i64 0, .int .i64 0]) (t := 30) ?_; intro gb502 hg w77 hbox hb; have BK502 := Aside0.mk (hbox); have GW502 := HB.g1 GE501 hg; have GE502 := HB.g1 GE501 hg; replace HB := HB.s1 GE501 hb; have NB501_502 := BK501.nl hg; have NB502_501 := BK501.nr hg; replace BK501 := BK501.bb hb; clear hb hbox hg) | (refine box_ (N := 5) (cs := #[.int .i64 0, .int .i64 0]) (t := 48) ?_; intro gb503 hg w78 hbox hb; have BK503 := Aside0.mk (hbox); have GW503 := HB.g2 GE501 GE502 hg; have GE503 := HB.g2 GE501 GE502 hg; replace HB := HB.s2 GE501 GE502 hb; have NB501_503 := BK501.nl hg; have NB503_501 := BK501.nr hg; replace BK501 := BK501.bb hb; have NB502_503 := BK502.nl hg; have NB503_502 := BK502.nr hg; replace BK502 := BK502.bb hb; clear hb hbox hg; have hnb79 := NB501_502.out; have hnc79 := NB502_501.out; have hnb80 := NB501_503.out; have hnc80 := NB503_501.out; obtain ⟨hcz81_0, hcz81_1⟩ := cz2_ BK501.out; obtain ⟨hfz81_0, hfz81_1⟩ := fz2_ BK501.out) | (refine gl_ 13 Try.func76 #[.agg #[.int .i64 a0_0, .int .i64 a0_1], .slice A1 l1.length c1] ?_; (with_reducible refine (impl_canTry.calls a0_0 a0_1 _ _ l1 false _ ?side1 ?side2 A3.out).mono ?_); (case side1 => repeat (first | exact (Kd.C_below HR1.out HB.out) | (with_reducible refine Kd.C_alloc ?_ _) | (with_reducible refine Kd.C_drewN ?_ _) | (with_reducible refine Kd.C_drew ?_))); (case side2 => exact HC1.out); rintro e w82 ⟨rfl, hb⟩; refine ⟨_, rfl, ?_⟩; replace BK501 := BK501.bb hb; replace BK502 := BK502.bb hb; replace BK503 := BK503.bb hb; replace HB := HB.s3 GE501 GE502 GE503 hb; (try clear hb); have hnb83 := NB502_503.out; have hnc83 := NB503_502.out; obtain ⟨hcz84_0, hcz84_1, hcz84_2⟩ := cz3_ BK502.out; obtain ⟨hfz84_0, hfz84_1, hfz84_2⟩ := fz3_ BK502.out; obtain ⟨hcz85_0, hcz85_1⟩ := cz2_ BK503.out; obtain ⟨hfz85_0, hfz85_1⟩ := fz2_ BK503.out))
  refine bodyPost_ret (results_list (rs := [.cell 4 30, .cell 5 48, .tmp 6]) rfl (by simp) (.cell gb502 30 #[.int .i64 0, .int .i64 0, .int .i64 0] (0, 0) _ rfl (by (with_reducible repeat (first | refine blk_drewN ?_ _ | refine blk_drew ?_ | refine blk_alloc ?_ _)); refine blk_far ?_ NB502_503.out _; (with_reducible repeat (first | refine blk_drewN ?_ _ | refine blk_drew ?_ | refine blk_alloc ?_ _)); refine blk_far ?_ NB502_503.out _; (with_reducible repeat (first | refine blk_drewN ?_ _ | refine blk_drew ?_ | refine blk_alloc ?_ _)); refine blk_put (cs := #[.int .i64 0, .int .i64 0, .int .i64 0]) ?_ 2 _ rfl; (with_reducible repeat (first | refine blk_drewN ?_ _ | refine blk_drew ?_ | refine blk_alloc ?_ _)); refine blk_put (cs := #[.int .i64 0, .int .i64 0, .int .i64 0]) ?_ 1 _ rfl; (with_reducible repeat (first | refine blk_drewN ?_ _ | refine blk_drew ?_ | refine blk_alloc ?_ _)); refine blk_put (cs := #[.int .i64 0, .int .i64 0, .int .i64 0]) ?_ 0 _ rfl; (with_reducible repeat (first | refine blk_drewN ?_ _ | refine blk_drew ?_ | refine blk_alloc ?_ _)); exact BK502.out) Try.underlying30 rfl (by kernel_rfl) (.cell gb503 48 #[.int .i64 0, .int .i64 0] (0, 0) _ rfl (by (with_reducible repeat (first | refine blk_drewN ?_ _ | refine blk_drew ?_ | refine blk_alloc ?_ _)); refine blk_put (cs := #[.int .i64 0, .int .i64 0]) ?_ 1 _ rfl; (with_reducible repeat (first | refine blk_drewN ?_ _ | refine blk_drew ?_ | refine blk_alloc ?_ _)); refine blk_put (cs := #[.int .i64 0, .int .i64 0]) ?_ 0 _ rfl; (with_reducible repeat (first | refine blk_drewN ?_ _ | refine blk_drew ?_ | refine blk_alloc ?_ _)); refine blk_far ?_ NB503_502.out _; (with_reducible repeat (first | refine blk_drewN ?_ _ | refine blk_drew ?_ | refine blk_alloc ?_ _)); refine blk_far ?_ NB503_502.out _; (with_reducible repeat (first | refine blk_drewN ?_ _ | refine blk_drew ?_ | refine blk_alloc ?_ _)); refine blk_far ?_ NB503_502.out _; (with_reducible repeat (first | refine blk_drewN ?_ _ | refine blk_drew ?_ | refine blk_alloc ?_ _)); exact BK503.out) Try.underlying48 rfl (by kernel_rfl) (.tmp .nil)))) rfl ?_
  exact ⟨ex_, hb3_ HB.out GE501.out GE502.out GE503.out⟩

end Go.Proofs.Ytmcllgonjlapoaa.X
