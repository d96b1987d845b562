-- Written by a program of this session (xprint.py), out of the translation and of hand-written contracts. Lean checks it.
import Derived.Test.YtmcllgonjlapoaaX0
import Derived.Test.YtmcllgonjlapoaaXcgaps
import Derived.Test.YtmcllgonjlapoaaXspecFullMaze
import Derived.Test.YtmcllgonjlapoaaXspecSetGap
import Derived.Test.YtmcllgonjlapoaaXspecl01Below
import Derived.Test.YtmcllgonjlapoaaXspecl01New
import Derived.Test.YtmcllgonjlapoaaXspecl02Grid
namespace Go.Proofs.Ytmcllgonjlapoaa.X
open Go.RowKit Go.Proofs.YtmcllgonjlapoaaW.PrintWords Go.Proofs.YtmcllgonjlapoaaW.PrintLast Go.Proofs.YtmcllgonjlapoaaW.PrintMore
attribute [local go_sem] max2_int min2_int max_two min_two max_three min_three max_four min_four   -- for this text's walks alone
set_option linter.unusedVariables false
set_option linter.unusedSimpArgs false

/-! ### spec_l12Maze: function 71 -/
mutual
def spec_l12Maze.l0 : Nat → Int → Int → List Int → Int → Int → Int → Int → Int → Option (Int × Int × Int × Int × Int)
 | 0, _, _, _, _, _, _, _, _ => none
 | k + 1, x4, x5, x1000, x1001, x1002, x510000, x510001, x510002 => if x5 > 0 then (spec_l12Maze.j1 k x4 x5 (decide (x4 > 0)) x1000 x1001 x1002 x510000 x510001 x510002) else (spec_l12Maze.j1 k x4 x5 false x1000 x1001 x1002 x510000 x510001 x510002)
def spec_l12Maze.j1 : Nat → Int → Int → Bool → List Int → Int → Int → Int → Int → Int → Option (Int × Int × Int × Int × Int)
 | 0, _, _, _, _, _, _, _, _, _ => none
 | k + 1, x4, x5, x19, x1000, x1001, x1002, x510000, x510001, x510002 => if x19 = true then ((spec_l01Below.f x1000 x1001 x1002 x4).bind fun bt514 => ((spec_SetGap.f k x510000 x510001 x510002 bt514.1 false).bind fun bt517 => (spec_l12Maze.l0 k x4 (wrap64 (x5 - 1)) x1000 bt514.2.1 bt514.2.2 bt517.1 bt517.2.1 bt517.2.2.1))) else (some (x510000, x510001, x510002, x1001, x1002))
end
def spec_l12Maze.f (k : Nat) (s0_0 : List Int) (s0_1 : Int) (s0_2 : Int) : Option (Int × Int × Int × Int × Int) := (spec_l02Grid.f s0_0 s0_1 s0_2).bind fun bt502 => ((spec_FullMaze.f bt502.1 bt502.2.1).bind fun bt506 => ((spec_CountGaps.f bt506.1 bt506.2.1).bind fun t510 => ((spec_l01Below.f s0_0 bt502.2.2.1 bt502.2.2.2 5).bind fun bt511 => (spec_l12Maze.l0 k t510 bt511.1 s0_0 bt511.2.1 bt511.2.2 bt506.1 bt506.2.1 bt506.2.2))))
theorem spec_l12Maze.mono_l : ∀ k, (∀ y0 y1 y2 y3 y4 y5 y6 y7, LeO (spec_l12Maze.l0 k y0 y1 y2 y3 y4 y5 y6 y7) (spec_l12Maze.l0 (k + 1) y0 y1 y2 y3 y4 y5 y6 y7)) ∧ (∀ y0 y1 y2 y3 y4 y5 y6 y7 y8, LeO (spec_l12Maze.j1 k y0 y1 y2 y3 y4 y5 y6 y7 y8) (spec_l12Maze.j1 (k + 1) y0 y1 y2 y3 y4 y5 y6 y7 y8))
 | 0 => ⟨fun _ _ _ _ _ _ _ _ r h => by simp [spec_l12Maze.l0] at h, fun _ _ _ _ _ _ _ _ _ r h => by simp [spec_l12Maze.j1] at h⟩
 | k + 1 => by
  obtain ⟨ih0, ih1⟩ := spec_l12Maze.mono_l k
  refine ⟨?_, ?_⟩
  ·intro y0 y1 y2 y3 y4 y5 y6 y7
   unfold spec_l12Maze.l0
   repeat' first
   | (with_reducible exact ih0 ..)
   | (with_reducible exact ih1 ..)
   | (with_reducible exact spec_SetGap.mono ..)
   | (with_reducible first | exact lr_ _ | exact ln_ _ | refine li_ ?_ ?_ | refine lb_ ?_ fun _ => ?_)
   | exact ih0 ..
   | exact ih1 ..
   | exact spec_SetGap.mono ..
   | exact ln_ _ | refine li_ ?_ ?_ | refine lb_ ?_ fun _ => ?_
  ·intro y0 y1 y2 y3 y4 y5 y6 y7 y8
   unfold spec_l12Maze.j1
   repeat' first
   | (with_reducible exact ih0 ..)
   | (with_reducible exact ih1 ..)
   | (with_reducible exact spec_SetGap.mono ..)
   | (with_reducible first | exact lr_ _ | exact ln_ _ | refine li_ ?_ ?_ | refine lb_ ?_ fun _ => ?_)
   | exact ih0 ..
   | exact ih1 ..
   | exact spec_SetGap.mono ..
   | exact ln_ _ | refine li_ ?_ ?_ | refine lb_ ?_ fun _ => ?_
theorem spec_l12Maze.mono : ∀ a0 a1 a2 k, LeO (spec_l12Maze.f k a0 a1 a2) (spec_l12Maze.f (k + 1) a0 a1 a2) := by
 intro a0 a1 a2 k
 obtain ⟨ih0, ih1⟩ := spec_l12Maze.mono_l k
 unfold spec_l12Maze.f
 repeat' first
   | (with_reducible exact ih0 ..)
   | (with_reducible exact ih1 ..)
   | (with_reducible exact spec_SetGap.mono ..)
   | (with_reducible first | exact lr_ _ | exact ln_ _ | refine li_ ?_ ?_ | refine lb_ ?_ fun _ => ?_)
   | exact ih0 ..
   | exact ih1 ..
   | exact spec_SetGap.mono ..
   | exact ln_ _ | refine li_ ?_ ?_ | refine lb_ ?_ fun _ => ?_
def spec_l12Maze.T6 : Bool × List (List Nat × List Nat) := (true, [([], []), ([], []), ([], []), ([1, 2], [1, 2]), ([0, 3, 3], [0, 3]), ([4], [4]), ([5], [5]), ([5], [5]), ([6, 4, 0, 1, 2, 3, 4, 5, 6], [6])])
def spec_l12Maze.B6 : List Nat := [0, 0, 0, 6, 15, 31, 63, 63, 127]
theorem spec_l12Maze.tab6 : rtab .any (opsOf Try.f71 6) = spec_l12Maze.T6 := by kernel_rfl
theorem spec_l12Maze.bits6 : waitsOk spec_l12Maze.T6.2 spec_l12Maze.B6 = true := by kernel_rfl
set_option maxHeartbeats 8000000 in
set_option maxRecDepth 100000 in
theorem spec_l12Maze.calls (k : Nat) (g : Nat) (s0_0 : List Int) (s0_1 : Int) (s0_2 : Int) (r1 : Int) (r2 : Int) (r3 : Int) (r4 : Int) (r5 : Int) (w0 w : World) (hI : IsS95 w0 w g s0_0 s0_1 s0_2) (hB : Below w0.heap.size w0 w) (h : spec_l12Maze.f k s0_0 s0_1 s0_2 = some (r1, r2, r3, r4, r5)) :
  Calls Try.prog 71 #[.pointer (some ⟨g, 0, none⟩)] w fun e w' => e = .returned (.agg #[.int .i64 r1, .int .i64 r2, .int .i64 r3]) ∧ IsS95 w0 w' g s0_0 r4 r5 ∧ Below w0.heap.size w0 w' ∧ KeepBut w w' g none := by
 have hu30 := Try.underlying30
 have hu28 := Try.underlying28
 have HI0 := Aside0.mk hI
 have HK := Aside0.mk (KeepBut.refl w g none)
 have HL := Aside0.mk hB.size
 clear hI
 have HW0 := Aside0.mk hB.size
 have HB := Aside0.mk hB
 clear hB
 have H : ((spec_l02Grid.f s0_0 s0_1 s0_2).bind fun bt502 => ((spec_FullMaze.f bt502.1 bt502.2.1).bind fun bt506 => ((spec_CountGaps.f bt506.1 bt506.2.1).bind fun t510 => ((spec_l01Below.f s0_0 bt502.2.2.1 bt502.2.2.2 5).bind fun bt511 => (spec_l12Maze.l0 k t510 bt511.1 s0_0 bt511.2.1 bt511.2.2 bt506.1 bt506.2.1 bt506.2.2))))) = some (r1, r2, r3, r4, r5) := h
 clear h
 replace H := Option.bind_eq_some_iff.mp H
 obtain ⟨⟨t502, t503, t504, t505⟩, A20, H⟩ := H
 replace H : ((spec_FullMaze.f t502 t503).bind fun bt506 => ((spec_CountGaps.f bt506.1 bt506.2.1).bind fun t510 => ((spec_l01Below.f s0_0 t504 t505 5).bind fun bt511 => (spec_l12Maze.l0 k t510 bt511.1 s0_0 bt511.2.1 bt511.2.2 bt506.1 bt506.2.1 bt506.2.2)))) = some (r1, r2, r3, r4, r5) := H
 have A2 := Aside0.mk A20
 clear A20
 replace H := Option.bind_eq_some_iff.mp H
 obtain ⟨⟨t506, t507, t508⟩, A30, H⟩ := H
 replace H : ((spec_CountGaps.f t506 t507).bind fun t510 => ((spec_l01Below.f s0_0 t504 t505 5).bind fun bt511 => (spec_l12Maze.l0 k t510 bt511.1 s0_0 bt511.2.1 bt511.2.2 t506 t507 t508))) = some (r1, r2, r3, r4, r5) := H
 have A3 := Aside0.mk A30
 clear A30
 replace H := Option.bind_eq_some_iff.mp H
 obtain ⟨t510, A40, H⟩ := H
 replace H : ((spec_l01Below.f s0_0 t504 t505 5).bind fun bt511 => (spec_l12Maze.l0 k t510 bt511.1 s0_0 bt511.2.1 bt511.2.2 t506 t507 t508)) = some (r1, r2, r3, r4, r5) := H
 have A4 := Aside0.mk A40
 clear A40
 replace H := Option.bind_eq_some_iff.mp H
 obtain ⟨⟨t511, t512, t513⟩, A50, H⟩ := H
 replace H : (spec_l12Maze.l0 k t510 t511 s0_0 t512 t513 t506 t507 t508) = some (r1, r2, r3, r4, r5) := H
 have A5 := Aside0.mk A50
 clear A50
 have H' := Aside0.mk H
 clear H
 go_enter Try.func71, Try.ntmps71
 go_wp2_with (first | (refine box_ (N := 2) (cs := #[.int .i64 0, .int .i64 0, .int .i64 0]) (t := 30) ?_; intro gb501 hg w6 hbox hb; have n0_ := Aside0.mk (IsS95.below (by repeat (first | (with_reducible first | exact HI0.out | apply IsS95.alloc | apply IsS95.drewN | apply IsS95.drew | apply IsS95.set_1 | apply IsS95.set_2) | exact HI0.out)) hb); have n1_ := Aside0.mk (KeepBut.trans (by repeat (first | (with_reducible first | exact HK.out | apply KeepBut.set_ | apply keep_drewN | apply keep_drew | apply keep_alloc) | exact HK.out)) (KeepBut.of_below hb g none) (.inl rfl)); have n2_ := Aside0.mk (below_step (by repeat (first | (with_reducible first | exact HB.out | apply below_alloc | apply pw_below_drewN | apply below_drew1 | refine below_set ?_ (IsS95.ge HI0.out)) | exact HB.out)) hb); have n3_ := Aside0.mk (hbox); have n4_ := Aside0.mk ((by rw [hg]; exact (keep_size (w := w) (g := g) (row := none) (by repeat (first | (with_reducible first | exact HK.out | apply KeepBut.set_ | apply keep_drewN | apply keep_drew | apply keep_alloc) | exact HK.out))) : w.heap.size ≤ gb501)); have n5_ := Aside0.mk ((Nat.le_trans HW0.out (by rw [hg]; exact (keep_size (w := w) (g := g) (row := none) (by repeat (first | (with_reducible first | exact HK.out | apply KeepBut.set_ | apply keep_drewN | apply keep_drew | apply keep_alloc) | exact HK.out))) : w.heap.size ≤ gb501) : w0.heap.size ≤ gb501)); have n6_ := Aside0.mk ((by rw [hg]; exact Nat.ne_of_lt (IsS95.lt (show IsS95 w0 _ g s0_0 s0_1 s0_2 from by repeat (first | (with_reducible first | exact HI0.out | apply IsS95.alloc | apply IsS95.drewN | apply IsS95.drew | apply IsS95.set_1 | apply IsS95.set_2) | exact HI0.out))) : g ≠ gb501)); have n7_ := Aside0.mk ((by rw [hg]; exact Nat.ne_of_gt (IsS95.lt (show IsS95 w0 _ g s0_0 s0_1 s0_2 from by repeat (first | (with_reducible first | exact HI0.out | apply IsS95.alloc | apply IsS95.drewN | apply IsS95.drew | apply IsS95.set_1 | apply IsS95.set_2) | exact HI0.out))) : gb501 ≠ g)); clear HI0; clear HK; clear HB; have HI0 := n0_; have HK := n1_; have HB := n2_; have BK501 := n3_; have GW501 := n4_; have GE501 := n5_; have NB0_501 := n6_; have NB501_0 := n7_; clear n0_ n1_ n2_ n3_ n4_ n5_ n6_ n7_; clear hb hbox hg) | (refine gl_ 7 Try.func100 #[.pointer (some ⟨g, 0, none⟩)] ?_; (with_reducible refine (spec_l02Grid.calls g s0_0 s0_1 s0_2 t502 t503 t504 t505 w0 _ ?side1 ?side2 A2.out).mono ?_); (case side1 => repeat (first | (with_reducible first | exact HI0.out | apply IsS95.alloc | apply IsS95.drewN | apply IsS95.drew | apply IsS95.set_1 | apply IsS95.set_2 | refine IsS95.far ?_ NB0_501.out _) | exact HI0.out)); (case side2 => repeat (first | (with_reducible first | exact HB.out | apply below_alloc | apply pw_below_drewN | apply below_drew1 | refine below_set ?_ (IsS95.ge HI0.out) | refine below_set ?_ GE501.out) | exact HB.out)); rintro e w7 ⟨rfl, hi, hb, hk⟩; refine ⟨_, rfl, ?_⟩; replace BK501 := Aside0.mk (KeepBut.blk hk (g' := gb501) (o := .cells #[.int .i64 0, .int .i64 0, .int .i64 0] 30 (0, 0)) (bk_ BK501.out) NB501_0.out (by simp)); replace HK := Aside0.mk (KeepBut.trans (by repeat (first | (with_reducible first | exact HK.out | apply KeepBut.set_ | apply keep_drewN | apply keep_drew | apply keep_alloc | refine keep_far ?_ GW501.out _) | exact HK.out)) hk (.inl rfl)); replace HB := Aside0.mk (hb); replace HI0 := Aside0.mk (hi)) | (refine gl_ 8 Try.func78 #[.agg #[.int .i64 t502, .int .i64 t503]] ?_; (with_reducible refine (spec_FullMaze.calls t502 t503 t506 t507 t508 _ A3.out).mono ?_); rintro e w8 ⟨rfl, hb⟩; refine ⟨_, rfl, ?_⟩; replace BK501 := BK501.bb hb; replace HK := Aside0.mk (KeepBut.trans (by repeat (first | (with_reducible first | exact HK.out | apply KeepBut.set_ | apply keep_drewN | apply keep_drew | apply keep_alloc | refine keep_far ?_ GW501.out _) | exact HK.out)) (KeepBut.of_below hb g none) (.inl rfl)); replace HB := Aside0.mk (below_step (by repeat (first | (with_reducible first | exact HB.out | apply below_alloc | apply pw_below_drewN | apply below_drew1 | refine below_set ?_ (IsS95.ge HI0.out) | refine below_set ?_ GE501.out) | exact HB.out)) hb); replace HI0 := Aside0.mk (IsS95.below (by repeat (first | (with_reducible first | exact HI0.out | apply IsS95.alloc | apply IsS95.drewN | apply IsS95.drew | apply IsS95.set_1 | apply IsS95.set_2 | refine IsS95.far ?_ NB0_501.out _) | exact HI0.out)) hb)) | (refine box_ (N := 3) (cs := #[.int .i64 0, .int .i64 0, .int .i64 0]) (t := 30) ?_; intro gb509 hg w9 hbox hb; have n0_ := Aside0.mk (IsS95.below (by repeat (first | (with_reducible first | exact HI0.out | apply IsS95.alloc | apply IsS95.drewN | apply IsS95.drew | apply IsS95.set_1 | apply IsS95.set_2 | refine IsS95.far ?_ NB0_501.out _) | exact HI0.out)) hb); have n1_ := BK501.bb hb; have n2_ := Aside0.mk (KeepBut.trans (by repeat (first | (with_reducible first | exact HK.out | apply KeepBut.set_ | apply keep_drewN | apply keep_drew | apply keep_alloc | refine keep_far ?_ GW501.out _) | exact HK.out)) (KeepBut.of_below hb g none) (.inl rfl)); have n3_ := Aside0.mk (below_step (by repeat (first | (with_reducible first | exact HB.out | apply below_alloc | apply pw_below_drewN | apply below_drew1 | refine below_set ?_ (IsS95.ge HI0.out) | refine below_set ?_ GE501.out) | exact HB.out)) hb); have n4_ := Aside0.mk (hbox); have n5_ := Aside0.mk ((by rw [hg]; exact (keep_size (w := w) (g := g) (row := none) (by repeat (first | (with_reducible first | exact HK.out | apply KeepBut.set_ | apply keep_drewN | apply keep_drew | apply keep_alloc | refine keep_far ?_ GW501.out _) | exact HK.out))) : w.heap.size ≤ gb509)); have n6_ := Aside0.mk ((Nat.le_trans HW0.out (by rw [hg]; exact (keep_size (w := w) (g := g) (row := none) (by repeat (first | (with_reducible first | exact HK.out | apply KeepBut.set_ | apply keep_drewN | apply keep_drew | apply keep_alloc | refine keep_far ?_ GW501.out _) | exact HK.out))) : w.heap.size ≤ gb509) : w0.heap.size ≤ gb509)); have n7_ := BK501.nl hg; have n8_ := BK501.nr hg; have n9_ := Aside0.mk ((by rw [hg]; exact Nat.ne_of_lt (IsS95.lt (show IsS95 w0 _ g s0_0 t504 t505 from by repeat (first | (with_reducible first | exact HI0.out | apply IsS95.alloc | apply IsS95.drewN | apply IsS95.drew | apply IsS95.set_1 | apply IsS95.set_2 | refine IsS95.far ?_ NB0_501.out _) | exact HI0.out))) : g ≠ gb509)); have n10_ := Aside0.mk ((by rw [hg]; exact Nat.ne_of_gt (IsS95.lt (show IsS95 w0 _ g s0_0 t504 t505 from by repeat (first | (with_reducible first | exact HI0.out | apply IsS95.alloc | apply IsS95.drewN | apply IsS95.drew | apply IsS95.set_1 | apply IsS95.set_2 | refine IsS95.far ?_ NB0_501.out _) | exact HI0.out))) : gb509 ≠ g)); clear HI0; clear BK501; clear HK; clear HB; have HI0 := n0_; have BK501 := n1_; have HK := n2_; have HB := n3_; have BK509 := n4_; have GW509 := n5_; have GE509 := n6_; have NB501_509 := n7_; have NB509_501 := n8_; have NB0_509 := n9_; have NB509_0 := n10_; clear n0_ n1_ n2_ n3_ n4_ n5_ n6_ n7_ n8_ n9_ n10_; clear hb hbox hg; have hnb10 := NB509_501.out; have hnc10 := NB501_509.out; have hnb11 := NB509_0.out; have hnc11 := NB0_509.out; obtain ⟨hcz12_0, hcz12_1, hcz12_2⟩ := cz3_ BK509.out; obtain ⟨hfz12_0, hfz12_1, hfz12_2⟩ := fz3_ BK509.out) | (refine gl_ 11 Try.func74 #[.agg #[.int .i64 t506, .int .i64 t507]] ?_; (with_reducible refine (spec_CountGaps.calls t506 t507 t510 _ A4.out).mono ?_); rintro e w13 ⟨rfl, hb⟩; refine ⟨_, rfl, ?_⟩; have n0_ := Aside0.mk (IsS95.below (show IsS95 w0 (((w9.setCell ⟨gb509, 0, none⟩ (.int .i64 t506)).setCell ⟨gb509, 1, none⟩ (.int .i64 t507)).setCell ⟨gb509, 2, none⟩ (.int .i64 t508)) g s0_0 t504 t505 from by repeat (first | (with_reducible first | exact HI0.out | apply IsS95.alloc | apply IsS95.drewN | apply IsS95.drew | apply IsS95.set_1 | apply IsS95.set_2 | refine IsS95.far ?_ NB0_501.out _ | refine IsS95.far ?_ NB0_509.out _) | exact HI0.out)) hb); have n1_ := Aside0.mk (blk_below (g := gb501) (o := .cells #[.int .i64 0, .int .i64 0, .int .i64 0] 30 (0, 0)) (by (with_reducible repeat (first | refine blk_drewN ?_ _ | refine blk_drew ?_ | refine blk_alloc ?_ _)); refine blk_far ?_ NB501_509.out _; (with_reducible repeat (first | refine blk_drewN ?_ _ | refine blk_drew ?_ | refine blk_alloc ?_ _)); refine blk_far ?_ NB501_509.out _; (with_reducible repeat (first | refine blk_drewN ?_ _ | refine blk_drew ?_ | refine blk_alloc ?_ _)); refine blk_far ?_ NB501_509.out _; (with_reducible repeat (first | refine blk_drewN ?_ _ | refine blk_drew ?_ | refine blk_alloc ?_ _)); exact BK501.out) hb); have n2_ := Aside0.mk (blk_below (bq3_ BK509.out) hb); have n3_ := Aside0.mk (KeepBut.trans (by repeat (first | (with_reducible first | exact HK.out | apply KeepBut.set_ | apply keep_drewN | apply keep_drew | apply keep_alloc | refine keep_far ?_ GW501.out _ | refine keep_far ?_ GW509.out _) | exact HK.out)) (KeepBut.of_below hb g none) (.inl rfl)); have n4_ := Aside0.mk (below_step (by repeat (first | (with_reducible first | exact HB.out | apply below_alloc | apply pw_below_drewN | apply below_drew1 | refine below_set ?_ (IsS95.ge HI0.out) | refine below_set ?_ GE501.out | refine below_set ?_ GE509.out) | exact HB.out)) hb); clear HI0; clear BK501; clear BK509; clear HK; clear HB; have HI0 := n0_; have BK501 := n1_; have BK509 := n2_; have HK := n3_; have HB := n4_; clear n0_ n1_ n2_ n3_ n4_) | (refine gl_ 13 Try.func72 #[.pointer (some ⟨g, 0, none⟩), .int .i64 5] ?_; (with_reducible refine (spec_l01Below.calls g s0_0 t504 t505 5 t511 t512 t513 w0 _ ?side1 ?side2 A5.out).mono ?_); (case side1 => repeat (first | (with_reducible first | exact HI0.out | apply IsS95.alloc | apply IsS95.drewN | apply IsS95.drew | apply IsS95.set_1 | apply IsS95.set_2 | refine IsS95.far ?_ NB0_501.out _ | refine IsS95.far ?_ NB0_509.out _) | exact HI0.out)); (case side2 => repeat (first | (with_reducible first | exact HB.out | apply below_alloc | apply pw_below_drewN | apply below_drew1 | refine below_set ?_ (IsS95.ge HI0.out) | refine below_set ?_ GE501.out | refine below_set ?_ GE509.out) | exact HB.out)); rintro e w14 ⟨rfl, hi, hb, hk⟩; refine ⟨_, rfl, ?_⟩; replace BK501 := Aside0.mk (KeepBut.blk hk (g' := gb501) (o := .cells #[.int .i64 0, .int .i64 0, .int .i64 0] 30 (0, 0)) (bk_ BK501.out) NB501_0.out (by simp)); replace BK509 := Aside0.mk (KeepBut.blk hk (g' := gb509) (o := .cells #[.int .i64 t506, .int .i64 t507, .int .i64 t508] 30 (0, 0)) (bk_ BK509.out) NB509_0.out (by simp)); replace HK := Aside0.mk (KeepBut.trans (by repeat (first | (with_reducible first | exact HK.out | apply KeepBut.set_ | apply keep_drewN | apply keep_drew | apply keep_alloc | refine keep_far ?_ GW501.out _ | refine keep_far ?_ GW509.out _) | exact HK.out)) hk (.inl rfl)); replace HB := Aside0.mk (hb); replace HI0 := Aside0.mk (hi)))
 go_loopg [5] k (fun kq v5 w' => ∃ (x5_1 : Int) (x1001_1 : Int) (x1002_1 : Int) (x510000_1 : Int) (x510001_1 : Int) (x510002_1 : Int), v5 = .int .i64 x5_1 ∧ Aside0 (spec_l12Maze.l0 kq t510 x5_1 s0_0 x1001_1 x1002_1 x510000_1 x510001_1 x510002_1 = some (r1, r2, r3, r4, r5)) ∧ Aside0 (kq ≤ k) ∧ Aside0 (w'.heap[gb501]? = some (.cells #[.int .i64 0, .int .i64 0, .int .i64 0] 30 (0, 0))) ∧ Aside0 (w'.heap[gb509]? = some (.cells #[.int .i64 x510000_1, .int .i64 x510001_1, .int .i64 x510002_1] 30 (0, 0))) ∧ Aside0 (IsS95 w0 w' g s0_0 x1001_1 x1002_1) ∧ Aside0 (KeepBut w w' g none) ∧ Aside0 (Below w0.heap.size w0 w'))
 case atStart => exact ⟨(t511), (t512), (t513), (t506), (t507), (t508), (by first | rfl | (simp; done) | (simp [*]; done)), H', ⟨Nat.le_refl _⟩, ⟨bk_ BK501.out⟩, ⟨bk_ BK509.out⟩, ⟨by repeat (first | (with_reducible first | exact HI0.out | apply IsS95.alloc | apply IsS95.drewN | apply IsS95.drew | apply IsS95.set_1 | apply IsS95.set_2 | refine IsS95.far ?_ NB0_501.out _ | refine IsS95.far ?_ NB0_509.out _) | exact HI0.out)⟩, ⟨by repeat (first | (with_reducible first | exact HK.out | apply KeepBut.set_ | apply keep_drewN | apply keep_drew | apply keep_alloc | refine keep_far ?_ GW501.out _ | refine keep_far ?_ GW509.out _) | exact HK.out)⟩, ⟨by repeat (first | (with_reducible first | exact HB.out | apply below_alloc | apply pw_below_drewN | apply below_drew1 | refine below_set ?_ (IsS95.ge HI0.out) | refine below_set ?_ GE501.out | refine below_set ?_ GE509.out) | exact HB.out)⟩⟩
 case round =>
  clear H'
  try clear c1
  try clear p2
  try clear c7
  try clear c10
  try clear c11
  try clear hcz12_0
  try clear hcz12_1
  try clear hcz12_2
  try clear hfz12_0
  try clear hfz12_1
  try clear hfz12_2
  obtain ⟨x5_1, x1001_1, x1002_1, x510000_1, x510001_1, x510002_1, rfl, HA, HK1, BK501, BK509, HI0, HK, HB⟩ := hrel
  cases gk with
  | zero => exact absurd HA.out (by simp [spec_l12Maze.l0])
  | succ k1 =>
   have H := HA.out
   clear HA
   simp only [spec_l12Maze.l0] at H
   have HC15 := Aside0.mk H
   clear H
   go_upto_region 4 with (fail)
   go_cut [19] (fun v19 wc => ∃ (kq : Nat) (x19_14 : Bool), v19 = .bool x19_14 ∧ Aside0 (spec_l12Maze.j1 kq t510 x5_1 x19_14 s0_0 x1001_1 x1002_1 x510000_1 x510001_1 x510002_1 = some (r1, r2, r3, r4, r5)) ∧ Aside0 (kq ≤ k1) ∧ Aside0 (wc.heap[gb501]? = some (.cells #[.int .i64 0, .int .i64 0, .int .i64 0] 30 (0, 0))) ∧ Aside0 (wc.heap[gb509]? = some (.cells #[.int .i64 x510000_1, .int .i64 x510001_1, .int .i64 x510002_1] 30 (0, 0))) ∧ Aside0 (IsS95 w0 wc g s0_0 x1001_1 x1002_1) ∧ Aside0 (KeepBut w wc g none) ∧ Aside0 (Below w0.heap.size w0 wc))
   case first =>
    have H := HC15.out
    clear HC15
    by_cases c16 : x5_1 > 0
    ·rw [if_pos c16] at H
     have c16b0 : decide (0 < x5_1) = true := decide_eq_true c16
     clear c16
     (first | rw [c16b0] | (simp only [i64_w, i32_w]; rw [c16b0]) | skip)
     have H' := Aside0.mk H
     clear H
     go_wp2
     go_meet
     case rel => exact ⟨_, (decide (t510 > 0)), (by first | rfl | (simp; done) | (simp [*]; done)), H', ⟨by have := HK1.out; first | omega | exact Nat.le_refl _⟩, ⟨bk_ BK501.out⟩, ⟨bk_ BK509.out⟩, ⟨by repeat (first | (with_reducible first | exact HI0.out | apply IsS95.alloc | apply IsS95.drewN | apply IsS95.drew | apply IsS95.set_1 | apply IsS95.set_2 | refine IsS95.far ?_ NB0_501.out _ | refine IsS95.far ?_ NB0_509.out _) | exact HI0.out)⟩, ⟨by repeat (first | (with_reducible first | exact HK.out | apply KeepBut.set_ | apply keep_drewN | apply keep_drew | apply keep_alloc | refine keep_far ?_ GW501.out _ | refine keep_far ?_ GW509.out _) | exact HK.out)⟩, ⟨by repeat (first | (with_reducible first | exact HB.out | apply below_alloc | apply pw_below_drewN | apply below_drew1 | refine below_set ?_ (IsS95.ge HI0.out) | refine below_set ?_ GE501.out | refine below_set ?_ GE509.out) | exact HB.out)⟩⟩
    ·rw [if_neg c16] at H
     have c16b0 : decide (0 < x5_1) = false := decide_eq_false c16
     clear c16
     (first | rw [c16b0] | (simp only [i64_w, i32_w]; rw [c16b0]) | skip)
     have H' := Aside0.mk H
     clear H
     go_wp2
     go_meet
     case rel => exact ⟨_, (false), (by first | rfl | (simp; done) | (simp [*]; done)), H', ⟨by have := HK1.out; first | omega | exact Nat.le_refl _⟩, ⟨bk_ BK501.out⟩, ⟨bk_ BK509.out⟩, ⟨by repeat (first | (with_reducible first | exact HI0.out | apply IsS95.alloc | apply IsS95.drewN | apply IsS95.drew | apply IsS95.set_1 | apply IsS95.set_2 | refine IsS95.far ?_ NB0_501.out _ | refine IsS95.far ?_ NB0_509.out _) | exact HI0.out)⟩, ⟨by repeat (first | (with_reducible first | exact HK.out | apply KeepBut.set_ | apply keep_drewN | apply keep_drew | apply keep_alloc | refine keep_far ?_ GW501.out _ | refine keep_far ?_ GW509.out _) | exact HK.out)⟩, ⟨by repeat (first | (with_reducible first | exact HB.out | apply below_alloc | apply pw_below_drewN | apply below_drew1 | refine below_set ?_ (IsS95.ge HI0.out) | refine below_set ?_ GE501.out | refine below_set ?_ GE509.out) | exact HB.out)⟩⟩
   case rest =>
    clear HC15
    try clear c1
    try clear p2
    try clear c7
    try clear c10
    try clear c11
    try clear c16
    try clear c16b0
    try clear hcz12_0
    try clear hcz12_1
    try clear hcz12_2
    try clear hfz12_0
    try clear hfz12_1
    try clear hfz12_2
    try clear p2
    obtain ⟨kq, x19_14, rfl, HA, HJ14, BK501, BK509, HI0, HK, HB⟩ := hcut
    cases kq with
    | zero => exact absurd HA.out (by simp [spec_l12Maze.j1])
    | succ kj14 =>
     have H := HA.out
     clear HA
     simp only [spec_l12Maze.j1] at H
     by_cases c17 : x19_14 = true
     ·subst c17
      have H1 : ((spec_l01Below.f s0_0 x1001_1 x1002_1 t510).bind fun bt514 => ((spec_SetGap.f kj14 x510000_1 x510001_1 x510002_1 bt514.1 false).bind fun bt517 => (spec_l12Maze.l0 kj14 t510 (wrap64 (x5_1 - 1)) s0_0 bt514.2.1 bt514.2.2 bt517.1 bt517.2.1 bt517.2.2.1))) = some (r1, r2, r3, r4, r5) := by rw [if_pos rfl] at H; exact H
      clear H
      have H := H1
      clear H1
      replace H := Option.bind_eq_some_iff.mp H
      obtain ⟨⟨t514, t515, t516⟩, A180, H⟩ := H
      replace H : ((spec_SetGap.f kj14 x510000_1 x510001_1 x510002_1 t514 false).bind fun bt517 => (spec_l12Maze.l0 kj14 t510 (wrap64 (x5_1 - 1)) s0_0 t515 t516 bt517.1 bt517.2.1 bt517.2.2.1)) = some (r1, r2, r3, r4, r5) := H
      have A18 := Aside0.mk A180
      clear A180
      replace H := Option.bind_eq_some_iff.mp H
      obtain ⟨⟨t517, t518, t519, t520⟩, A190, H⟩ := H
      replace H : (spec_l12Maze.l0 kj14 t510 (wrap64 (x5_1 - 1)) s0_0 t515 t516 t517 t518 t519) = some (r1, r2, r3, r4, r5) := H
      have A19 := Aside0.mk A190
      clear A190
      have H' := Aside0.mk H
      clear H
      try go_wp2
      replace BK501 := Aside0.mk (blk_drew BK501.out)
      replace BK509 := Aside0.mk (blk_drew BK509.out)
      replace HI0 := Aside0.mk (IsS95.drew HI0.out)
      replace HK := Aside0.mk (keep_drew HK.out)
      replace HB := Aside0.mk (below_drew1 HB.out)
      refine start_ (n := 9) (S := fun w' => w'.cell? ⟨gb509, 0, none⟩ = some (.int .i64 x510000_1) ∧ w'.cell? ⟨gb509, 1, none⟩ = some (.int .i64 x510001_1) ∧ w'.cell? ⟨gb509, 2, none⟩ = some (.int .i64 x510002_1)) (ds := [8]) #[false, false, false, false, false, false, false, false, false] (by kernel_rfl) rfl rfl ⟨BK509.c 0, BK509.c 1, BK509.c 2⟩ (fun hHeld => ?_); refine with_tabW spec_l12Maze.tab6 spec_l12Maze.bits6 (fun HT_ HW_ => ?_)
      generalize wc.drew = w20 at BK501 BK509 HI0 HK HB hHeld ⊢
      refine pv_ (i := 1) (N := some 24) HT_.out ?_
      refine pv_ (i := 2) (N := some 25) HT_.out ?_
      refine tv3_ (i := 0) (N := some 23) HT_.out HW_.out hHeld ?_
      refine ov_ (i := 3) (N := some 26) HT_.out (fun K hK => ?_)
      refine gq_ Try.func72 #[.pointer (some ⟨g, 0, none⟩), .int .i64 t510] ?_
      with_reducible refine (spec_l01Below.calls g s0_0 x1001_1 x1002_1 t510 t514 t515 t516 w0 _ ?side1 ?side2 A18.out).mono ?_
      (case side1 => repeat (first | (with_reducible first | exact HI0.out | apply IsS95.alloc | apply IsS95.drewN | apply IsS95.drew | apply IsS95.set_1 | apply IsS95.set_2 | refine IsS95.far ?_ NB0_501.out _ | refine IsS95.far ?_ NB0_509.out _) | exact HI0.out))
      (case side2 => repeat (first | (with_reducible first | exact HB.out | apply below_alloc | apply pw_below_drewN | apply below_drew1 | refine below_set ?_ (IsS95.ge HI0.out) | refine below_set ?_ GE501.out | refine below_set ?_ GE509.out) | exact HB.out))
      rintro e w21 ⟨rfl, hi, hb, hk⟩
      refine ⟨_, rfl, ?_⟩
      replace BK501 := Aside0.mk (KeepBut.blk hk (g' := gb501) (o := .cells #[.int .i64 0, .int .i64 0, .int .i64 0] 30 (0, 0)) (bk_ BK501.out) NB501_0.out (by simp))
      replace BK509 := Aside0.mk (KeepBut.blk hk (g' := gb509) (o := .cells #[.int .i64 x510000_1, .int .i64 x510001_1, .int .i64 x510002_1] 30 (0, 0)) (bk_ BK509.out) NB509_0.out (by simp))
      replace HK := Aside0.mk (KeepBut.trans (by repeat (first | (with_reducible first | exact HK.out | apply KeepBut.set_ | apply keep_drewN | apply keep_drew | apply keep_alloc | refine keep_far ?_ GW501.out _ | refine keep_far ?_ GW509.out _) | exact HK.out)) hk (.inl rfl))
      replace HB := Aside0.mk (hb)
      replace HI0 := Aside0.mk (hi)
      skip
      (try clear hb2)
      (try clear hk)
      (try clear hi)
      refine hK.out _ _ ⟨BK509.c 0, BK509.c 1, BK509.c 2⟩ (fun hHeld => ?_)
      clear hK K
      refine nm_ ?_
      refine ov_ (i := 4) (N := some 27) HT_.out (fun K hK => ?_)
      refine gq_ Try.func101 #[.agg #[.int .i64 x510000_1, .int .i64 x510001_1, .int .i64 x510002_1], .int .i64 t514, .bool false] ?_
      with_reducible refine (spec_SetGap.calls kj14 x510000_1 x510001_1 x510002_1 t514 false t517 t518 t519 t520 _ A19.out).mono ?_
      rintro e w22 ⟨rfl, hb⟩
      refine ⟨_, rfl, ?_⟩
      have n0_ := BK501.bb hb
      have n1_ := BK509.bb hb
      have n2_ := Aside0.mk (IsS95.below (by repeat (first | (with_reducible first | exact HI0.out | apply IsS95.alloc | apply IsS95.drewN | apply IsS95.drew | apply IsS95.set_1 | apply IsS95.set_2 | refine IsS95.far ?_ NB0_501.out _ | refine IsS95.far ?_ NB0_509.out _) | exact HI0.out)) hb)
      have n3_ := Aside0.mk (KeepBut.trans (by repeat (first | (with_reducible first | exact HK.out | apply KeepBut.set_ | apply keep_drewN | apply keep_drew | apply keep_alloc | refine keep_far ?_ GW501.out _ | refine keep_far ?_ GW509.out _) | exact HK.out)) (KeepBut.of_below hb g none) (.inl rfl))
      have n4_ := Aside0.mk (below_step (by repeat (first | (with_reducible first | exact HB.out | apply below_alloc | apply pw_below_drewN | apply below_drew1 | refine below_set ?_ (IsS95.ge HI0.out) | refine below_set ?_ GE501.out | refine below_set ?_ GE509.out) | exact HB.out)) hb)
      clear BK501
      clear BK509
      clear HI0
      clear HK
      clear HB
      have BK501 := n0_
      have BK509 := n1_
      have HI0 := n2_
      have HK := n3_
      have HB := n4_
      clear n0_ n1_ n2_ n3_ n4_
      skip
      (try clear hb2)
      (try clear hk)
      (try clear hi)
      refine hK.out _ _ ⟨BK509.c 0, BK509.c 1, BK509.c 2⟩ (fun hHeld => ?_)
      clear hK K
      refine nm_ ?_
      refine pv_ (i := 5) (N := some 22) HT_.out ?_
      refine pv_ (i := 6) (N := some 28) HT_.out ?_
      refine pv_ (i := 7) (N := some 29) HT_.out ?_
      refine last_ (i := 8) (N := none) #[true, true, true, true, true, true, true, true, true] rfl rfl (one_of HT_.out (by kernel_rfl)) (by decide) (fun K hK => ?_)
      have hs23 : w22.cell? ⟨gb509, 0, none⟩ = some (.int .i64 x510000_1) := BK509.c 0
      have hfs23 := blk_frozen BK509.out 0
      have hns23_0 := NB501_509.out
      have hms23_0 := NB509_501.out
      have hs24 : w22.cell? ⟨gb509, 1, none⟩ = some (.int .i64 x510001_1) := BK509.c 1
      have hfs24 := blk_frozen BK509.out 1
      have hns24_0 := NB501_509.out
      have hms24_0 := NB509_501.out
      have hs25 : w22.cell? ⟨gb509, 2, none⟩ = some (.int .i64 x510002_1) := BK509.c 2
      have hfs25 := blk_frozen BK509.out 2
      have hns25_0 := NB501_509.out
      have hms25_0 := NB509_501.out
      refine skip_ (w1 := ?_) (by rfl) rfl ?_ ?_
      rotate_left
      ·go_simp
       rfl
      refine hK.out _ _ ?_
      clear hK K
      refine done_ (done_of HT_.out (by kernel_rfl)) ?_
      try go_wp2
      go_roundg kj14
      case measure => have := HK1.out; have := HJ14.out; omega
      case rel => exact ⟨(wrap64 (x5_1 - 1)), (t515), (t516), (t517), (t518), (t519), (by first | rfl | (simp; done) | (simp [*]; done)), H', ⟨by have := HK1.out; have := HJ14.out; omega⟩, ⟨by (with_reducible repeat (first | refine blk_drewN ?_ _ | refine blk_drew ?_ | refine blk_alloc ?_ _)); refine blk_far ?_ NB501_509.out _; (with_reducible repeat (first | refine blk_drewN ?_ _ | refine blk_drew ?_ | refine blk_alloc ?_ _)); refine blk_far ?_ NB501_509.out _; (with_reducible repeat (first | refine blk_drewN ?_ _ | refine blk_drew ?_ | refine blk_alloc ?_ _)); refine blk_far ?_ NB501_509.out _; (with_reducible repeat (first | refine blk_drewN ?_ _ | refine blk_drew ?_ | refine blk_alloc ?_ _)); exact BK501.out⟩, ⟨bq3_ BK509.out⟩, ⟨by repeat (first | (with_reducible first | exact HI0.out | apply IsS95.alloc | apply IsS95.drewN | apply IsS95.drew | apply IsS95.set_1 | apply IsS95.set_2 | refine IsS95.far ?_ NB0_501.out _ | refine IsS95.far ?_ NB0_509.out _) | exact HI0.out)⟩, ⟨by repeat (first | (with_reducible first | exact HK.out | apply KeepBut.set_ | apply keep_drewN | apply keep_drew | apply keep_alloc | refine keep_far ?_ GW501.out _ | refine keep_far ?_ GW509.out _) | exact HK.out)⟩, ⟨by repeat (first | (with_reducible first | exact HB.out | apply below_alloc | apply pw_below_drewN | apply below_drew1 | refine below_set ?_ (IsS95.ge HI0.out) | refine below_set ?_ GE501.out | refine below_set ?_ GE509.out) | exact HB.out)⟩⟩
     ·replace c17 := Bool.eq_false_iff.mpr c17
      subst c17
      have H1 : (some (x510000_1, x510001_1, x510002_1, x1001_1, x1002_1)) = some (r1, r2, r3, r4, r5) := by rw [if_neg (show ¬ (false = true) by decide)] at H; exact H
      clear H
      have H := H1
      clear H1
      simp only [Option.some.injEq, Prod.mk.injEq] at H
      obtain ⟨rfl, rfl, rfl, rfl, rfl⟩ := H
      have hnb26 := NB509_501.out
      have hnc26 := NB501_509.out
      have hnb27 := NB509_0.out
      have hnc27 := NB0_509.out
      obtain ⟨hcz28_0, hcz28_1, hcz28_2⟩ := cz3_ BK509.out
      obtain ⟨hfz28_0, hfz28_1, hfz28_2⟩ := fz3_ BK509.out
      have hnb29 := NB501_0.out
      have hnc29 := NB0_501.out
      obtain ⟨hcz30_0, hcz30_1, hcz30_2⟩ := cz3_ BK501.out
      obtain ⟨hfz30_0, hfz30_1, hfz30_2⟩ := fz3_ BK501.out
      go_wp2
      refine bodyPost_ret (results_cell_row rfl _ _ gb501 30 #[.int .i64 x510000_1, .int .i64 x510001_1, .int .i64 x510002_1] (0, 0) _ rfl (bq3_ BK501.out) Try.underlying30 rfl (by kernel_rfl)) rfl ?_
      exact ⟨ex_, by repeat (first | (with_reducible first | exact HI0.out | apply IsS95.alloc | apply IsS95.drewN | apply IsS95.drew | apply IsS95.set_1 | apply IsS95.set_2 | refine IsS95.far ?_ NB0_501.out _ | refine IsS95.far ?_ NB0_509.out _) | exact HI0.out), by repeat (first | (with_reducible first | exact HB.out | apply below_alloc | apply pw_below_drewN | apply below_drew1 | refine below_set ?_ (IsS95.ge HI0.out) | refine below_set ?_ GE501.out | refine below_set ?_ GE509.out) | exact HB.out), by repeat (first | (with_reducible first | exact HK.out | apply KeepBut.set_ | apply keep_drewN | apply keep_drew | apply keep_alloc | refine keep_far ?_ GW501.out _ | refine keep_far ?_ GW509.out _) | exact HK.out)⟩

end Go.Proofs.Ytmcllgonjlapoaa.X
