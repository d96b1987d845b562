-- Written by a program of this session (xprint.py), out of the translation and of hand-written contracts. Lean checks it.
import Derived.Test.YtmcllgonjlapoaaX0
import Derived.Test.YtmcllgonjlapoaaXcgrid
import Derived.Test.YtmcllgonjlapoaaXspecl01Below
import Derived.Test.YtmcllgonjlapoaaXspecl01New
import Derived.Test.YtmcllgonjlapoaaXspecl12Maze
namespace Go.Proofs.Ytmcllgonjlapoaa.X
open Go.RowKit Go.Proofs.YtmcllgonjlapoaaW.PrintWords Go.Proofs.YtmcllgonjlapoaaW.PrintLast Go.Proofs.YtmcllgonjlapoaaW.PrintMore
attribute [local go_sem] max2_int min2_int max_two min_two max_three min_three max_four min_four   -- for this text's walks alone
set_option linter.unusedVariables false
set_option linter.unusedSimpArgs false

/-! ### spec_DrawOpenCell: function 37 -/
def spec_DrawOpenCell.f (k : Nat) (l0 : List Int) : Option (Int × Int × Int × Int) := (spec_l01New.f k l0).bind fun bt502 => ((spec_l12Maze.f k bt502.1 bt502.2.1 bt502.2.2).bind fun bt506 => ((spec_CountCells.f bt506.1 bt506.2.1).bind fun t512 => ((spec_l01Below.f bt502.1 bt506.2.2.2.1 bt506.2.2.2.2 t512).bind fun bt513 => (some (bt506.1, bt506.2.1, bt506.2.2.1, bt513.1)))))
theorem spec_DrawOpenCell.mono : ∀ a0 k, LeO (spec_DrawOpenCell.f k a0) (spec_DrawOpenCell.f (k + 1) a0) := by
 intro a0 k
 unfold spec_DrawOpenCell.f
 repeat' first
   | (with_reducible exact spec_l01New.mono ..)
   | (with_reducible exact spec_l12Maze.mono ..)
   | (with_reducible first | exact lr_ _ | exact ln_ _ | refine li_ ?_ ?_ | refine lb_ ?_ fun _ => ?_)
   | exact spec_l01New.mono ..
   | exact spec_l12Maze.mono ..
   | exact ln_ _ | refine li_ ?_ ?_ | refine lb_ ?_ fun _ => ?_
def spec_DrawOpenCell.T3 : Bool × List (List Nat × List Nat) := (true, [([], []), ([], []), ([], []), ([2], [2]), ([3], [3]), ([1, 4, 4], [1, 4]), ([0, 5, 0], [0]), ([5, 6, 0, 1, 2, 3, 4, 5, 6], [5])])
def spec_DrawOpenCell.B3 : List Nat := [0, 0, 0, 4, 12, 30, 63, 127]
theorem spec_DrawOpenCell.tab3 : rtab .any (opsOf Try.f37 3) = spec_DrawOpenCell.T3 := by kernel_rfl
theorem spec_DrawOpenCell.bits3 : waitsOk spec_DrawOpenCell.T3.2 spec_DrawOpenCell.B3 = true := by kernel_rfl
set_option maxHeartbeats 8000000 in
set_option maxRecDepth 100000 in
theorem spec_DrawOpenCell.calls (k : Nat) (A0 : Option Addr) (c0 : Nat) (l0 : List Int) (r1 : Int) (r2 : Int) (r3 : Int) (r4 : Int) (w : World) (hr0 : Kd.C (Kd.int .u8) w A0 l0.length l0) (hc0 : l0.length ≤ c0) (h : spec_DrawOpenCell.f k l0 = some (r1, r2, r3, r4)) :
  Calls Try.prog 37 #[.slice A0 l0.length c0] w fun e w' => e = .returned (.tuple #[.agg #[.int .i64 r1, .int .i64 r2, .int .i64 r3], .int .i64 r4]) ∧ Below w.heap.size w w' := by
 have hu30 := Try.underlying30
 have hu28 := Try.underlying28
 have HR0 := Aside0.mk hr0
 have HC0 := Aside0.mk hc0
 clear hr0 hc0
 have HB := Aside0.mk (Below.refl w.heap.size w)
 have H : ((spec_l01New.f k l0).bind fun bt502 => ((spec_l12Maze.f k bt502.1 bt502.2.1 bt502.2.2).bind fun bt506 => ((spec_CountCells.f bt506.1 bt506.2.1).bind fun t512 => ((spec_l01Below.f bt502.1 bt506.2.2.2.1 bt506.2.2.2.2 t512).bind fun bt513 => (some (bt506.1, bt506.2.1, bt506.2.2.1, bt513.1)))))) = some (r1, r2, r3, r4) := h
 clear h
 replace H := Option.bind_eq_some_iff.mp H
 obtain ⟨⟨t502, t503, t504⟩, A20, H⟩ := H
 replace H : ((spec_l12Maze.f k t502 t503 t504).bind fun bt506 => ((spec_CountCells.f bt506.1 bt506.2.1).bind fun t512 => ((spec_l01Below.f t502 bt506.2.2.2.1 bt506.2.2.2.2 t512).bind fun bt513 => (some (bt506.1, bt506.2.1, bt506.2.2.1, bt513.1))))) = some (r1, r2, r3, r4) := H
 have A2 := Aside0.mk A20
 clear A20
 replace H := Option.bind_eq_some_iff.mp H
 obtain ⟨⟨t506, t507, t508, t509, t510⟩, A30, H⟩ := H
 replace H : ((spec_CountCells.f t506 t507).bind fun t512 => ((spec_l01Below.f t502 t509 t510 t512).bind fun bt513 => (some (t506, t507, t508, bt513.1)))) = some (r1, r2, r3, r4) := H
 have A3 := Aside0.mk A30
 clear A30
 replace H := Option.bind_eq_some_iff.mp H
 obtain ⟨t512, A40, H⟩ := H
 replace H : ((spec_l01Below.f t502 t509 t510 t512).bind fun bt513 => (some (t506, t507, t508, bt513.1))) = some (r1, r2, r3, r4) := H
 have A4 := Aside0.mk A40
 clear A40
 replace H := Option.bind_eq_some_iff.mp H
 obtain ⟨⟨t513, t514, t515⟩, A50, H⟩ := H
 replace H : (some (t506, t507, t508, t513)) = some (r1, r2, r3, r4) := H
 have A5 := Aside0.mk A50
 clear A50
 simp only [Option.some.injEq, Prod.mk.injEq] at H
 obtain ⟨rfl, rfl, rfl, rfl⟩ := H
 go_enter Try.func37, Try.ntmps37
 try go_wp2_with (first | (refine box_ (N := 2) (cs := #[.int .i64 0, .int .i64 0, .int .i64 0]) (t := 30) ?_; intro gb501 hg w6 hbox hb; have BK501 := Aside0.mk (hbox); have GW501 := HB.g0 hg; have GE501 := HB.g0 hg; replace HB := HB.s0 hb; clear hb hbox hg) | (refine gl_ 7 Try.func70 #[.slice A0 l0.length c0] ?_; (with_reducible refine (spec_l01New.calls k _ _ l0 t502 t503 t504 w _ ?side1 ?side2 ?side3 A2.out).mono ?_); (case side1 => repeat (first | (with_reducible first | exact HB.out | apply below_alloc | apply pw_below_drewN | apply below_drew1 | refine below_set ?_ GE501.out) | exact HB.out)); (case side2 => exact HR0.out); (case side3 => exact HC0.out); rintro e w7 ⟨g505, rfl, hi, hb, hb2⟩; refine ⟨_, rfl, ?_⟩; replace HB := Aside0.mk (hb); have HI505 := Aside0.mk (hi); have NB505_501 := Aside0.mk (IsS95.ne_blk hi (blk_below (g := gb501) (o := .cells #[.int .i64 0, .int .i64 0, .int .i64 0] 30 (0, 0)) (bk_ BK501.out) hb2) (by decide)); have NB501_505 := Aside0.mk (Ne.symm (IsS95.ne_blk hi (blk_below (g := gb501) (o := .cells #[.int .i64 0, .int .i64 0, .int .i64 0] 30 (0, 0)) (bk_ BK501.out) hb2) (by decide))); replace BK501 := Aside0.mk (blk_below (g := gb501) (o := .cells #[.int .i64 0, .int .i64 0, .int .i64 0] 30 (0, 0)) (bk_ BK501.out) hb2); (try clear hb); (try clear hb2); (try clear hi)) | (refine gl_ 9 Try.func71 #[.pointer (some ⟨g505, 0, none⟩)] ?_; (with_reducible refine (spec_l12Maze.calls k g505 t502 t503 t504 t506 t507 t508 t509 t510 w _ ?side1 ?side2 A3.out).mono ?_); (case side1 => repeat (first | (with_reducible first | exact HI505.out | apply IsS95.alloc | apply IsS95.drewN | apply IsS95.drew | apply IsS95.set_1 | apply IsS95.set_2 | refine IsS95.far ?_ NB505_501.out _) | exact HI505.out)); (case side2 => repeat (first | (with_reducible first | exact HB.out | apply below_alloc | apply pw_below_drewN | apply below_drew1 | refine below_set ?_ (IsS95.ge HI505.out) | refine below_set ?_ GE501.out) | exact HB.out)); rintro e w8 ⟨rfl, hi, hb, hk⟩; refine ⟨_, rfl, ?_⟩; replace BK501 := Aside0.mk (KeepBut.blk hk (g' := gb501) (o := .cells #[.int .i64 0, .int .i64 0, .int .i64 0] 30 (0, 0)) (bk_ BK501.out) NB501_505.out (by simp)); replace HB := Aside0.mk (hb); replace HI505 := Aside0.mk (hi); (try clear hb); (try clear hk); (try clear hi)) | (refine box_ (N := 5) (cs := #[.int .i64 0, .int .i64 0, .int .i64 0]) (t := 30) ?_; intro gb511 hg w9 hbox hb; have n0_ := BK501.bb hb; have n1_ := Aside0.mk (IsS95.below (by repeat (first | (with_reducible first | exact HI505.out | apply IsS95.alloc | apply IsS95.drewN | apply IsS95.drew | apply IsS95.set_1 | apply IsS95.set_2 | refine IsS95.far ?_ NB505_501.out _) | exact HI505.out)) hb); have n2_ := Aside0.mk (below_step (by repeat (first | (with_reducible first | exact HB.out | apply below_alloc | apply pw_below_drewN | apply below_drew1 | refine below_set ?_ (IsS95.ge HI505.out) | refine below_set ?_ GE501.out) | exact HB.out)) hb); have n3_ := Aside0.mk (hbox); have n4_ := Aside0.mk ((by rw [hg]; exact (below_size (by repeat (first | (with_reducible first | exact HB.out | apply below_alloc | apply pw_below_drewN | apply below_drew1 | refine below_set ?_ (IsS95.ge HI505.out) | refine below_set ?_ GE501.out) | exact HB.out))) : w.heap.size ≤ gb511)); have n5_ := Aside0.mk ((by rw [hg]; exact (below_size (by repeat (first | (with_reducible first | exact HB.out | apply below_alloc | apply pw_below_drewN | apply below_drew1 | refine below_set ?_ (IsS95.ge HI505.out) | refine below_set ?_ GE501.out) | exact HB.out))) : w.heap.size ≤ gb511)); have n6_ := BK501.nl hg; have n7_ := BK501.nr hg; have n8_ := Aside0.mk ((by rw [hg]; exact Nat.ne_of_lt (IsS95.lt (show IsS95 w _ g505 t502 t509 t510 from by repeat (first | (with_reducible first | exact HI505.out | apply IsS95.alloc | apply IsS95.drewN | apply IsS95.drew | apply IsS95.set_1 | apply IsS95.set_2 | refine IsS95.far ?_ NB505_501.out _) | exact HI505.out))) : g505 ≠ gb511)); have n9_ := Aside0.mk ((by rw [hg]; exact Nat.ne_of_gt (IsS95.lt (show IsS95 w _ g505 t502 t509 t510 from by repeat (first | (with_reducible first | exact HI505.out | apply IsS95.alloc | apply IsS95.drewN | apply IsS95.drew | apply IsS95.set_1 | apply IsS95.set_2 | refine IsS95.far ?_ NB505_501.out _) | exact HI505.out))) : gb511 ≠ g505)); clear BK501; clear HI505; clear HB; have BK501 := n0_; have HI505 := n1_; have HB := n2_; have BK511 := n3_; have GW511 := n4_; have GE511 := n5_; have NB501_511 := n6_; have NB511_501 := n7_; have NB505_511 := n8_; have NB511_505 := n9_; clear n0_ n1_ n2_ n3_ n4_ n5_ n6_ n7_ n8_ n9_; clear hb hbox hg; have hnb10 := NB511_501.out; have hnc10 := NB501_511.out; have hnb11 := NB511_505.out; have hnc11 := NB505_511.out; obtain ⟨hcz12_0, hcz12_1, hcz12_2⟩ := cz3_ BK511.out; obtain ⟨hfz12_0, hfz12_1, hfz12_2⟩ := fz3_ BK511.out))
 have n0_ : Aside0 ((((w9.setCell ⟨gb511, 0, none⟩ (.int .i64 t506)).setCell ⟨gb511, 1, none⟩ (.int .i64 t507)).setCell ⟨gb511, 2, none⟩ (.int .i64 t508)).heap[gb501]? = some (.cells #[.int .i64 0, .int .i64 0, .int .i64 0] 30 (0, 0))) := ⟨by (with_reducible repeat (first | refine blk_drewN ?_ _ | refine blk_drew ?_ | refine blk_alloc ?_ _)); refine blk_far ?_ NB501_511.out _; (with_reducible repeat (first | refine blk_drewN ?_ _ | refine blk_drew ?_ | refine blk_alloc ?_ _)); refine blk_far ?_ NB501_511.out _; (with_reducible repeat (first | refine blk_drewN ?_ _ | refine blk_drew ?_ | refine blk_alloc ?_ _)); refine blk_far ?_ NB501_511.out _; (with_reducible repeat (first | refine blk_drewN ?_ _ | refine blk_drew ?_ | refine blk_alloc ?_ _)); exact BK501.out⟩
 have n1_ : Aside0 ((((w9.setCell ⟨gb511, 0, none⟩ (.int .i64 t506)).setCell ⟨gb511, 1, none⟩ (.int .i64 t507)).setCell ⟨gb511, 2, none⟩ (.int .i64 t508)).heap[gb511]? = some (.cells #[.int .i64 t506, .int .i64 t507, .int .i64 t508] 30 (0, 0))) := ⟨bq3_ BK511.out⟩
 have n2_ : Aside0 (IsS95 w (((w9.setCell ⟨gb511, 0, none⟩ (.int .i64 t506)).setCell ⟨gb511, 1, none⟩ (.int .i64 t507)).setCell ⟨gb511, 2, none⟩ (.int .i64 t508)) g505 t502 t509 t510) := ⟨by repeat (first | (with_reducible first | exact HI505.out | apply IsS95.alloc | apply IsS95.drewN | apply IsS95.drew | apply IsS95.set_1 | apply IsS95.set_2 | refine IsS95.far ?_ NB505_501.out _ | refine IsS95.far ?_ NB505_511.out _) | exact HI505.out)⟩
 have n3_ : Aside0 (Below w.heap.size w (((w9.setCell ⟨gb511, 0, none⟩ (.int .i64 t506)).setCell ⟨gb511, 1, none⟩ (.int .i64 t507)).setCell ⟨gb511, 2, none⟩ (.int .i64 t508))) := ⟨by repeat (first | (with_reducible first | exact HB.out | apply below_alloc | apply pw_below_drewN | apply below_drew1 | refine below_set ?_ (IsS95.ge HI505.out) | refine below_set ?_ GE501.out | refine below_set ?_ GE511.out) | exact HB.out)⟩
 (try clear BK501)
 (try clear BK511)
 (try clear HI505)
 (try clear HB)
 generalize (((w9.setCell ⟨gb511, 0, none⟩ (.int .i64 t506)).setCell ⟨gb511, 1, none⟩ (.int .i64 t507)).setCell ⟨gb511, 2, none⟩ (.int .i64 t508)) = w13 at n0_ n1_ n2_ n3_ ⊢
 have BK501 := n0_
 have BK511 := n1_
 have HI505 := n2_
 have HB := n3_
 clear n0_ n1_ n2_ n3_
 replace BK501 := Aside0.mk (blk_drew BK501.out)
 replace BK511 := Aside0.mk (blk_drew BK511.out)
 replace HI505 := Aside0.mk (IsS95.drew HI505.out)
 replace HB := Aside0.mk (below_drew1 HB.out)
 refine start_ (n := 8) (S := fun w' => w'.cell? ⟨gb511, 0, none⟩ = some (.int .i64 t506) ∧ w'.cell? ⟨gb511, 1, none⟩ = some (.int .i64 t507) ∧ w'.cell? ⟨gb511, 2, none⟩ = some (.int .i64 t508)) (ds := []) #[false, false, false, false, false, false, false, false] (by kernel_rfl) rfl rfl ⟨BK511.c 0, BK511.c 1, BK511.c 2⟩ (fun hHeld => ?_); refine with_tabW spec_DrawOpenCell.tab3 spec_DrawOpenCell.bits3 (fun HT_ HW_ => ?_)
 generalize w13.drew = w14 at BK501 BK511 HI505 HB hHeld ⊢
 refine pv_ (i := 1) (N := some 11) HT_.out ?_
 refine pv_ (i := 2) (N := some 12) HT_.out ?_
 refine tv3_ (i := 0) (N := some 10) HT_.out HW_.out hHeld ?_
 refine tv3_ (i := 3) (N := some 13) HT_.out HW_.out hHeld ?_
 refine ov_ (i := 4) (N := some 14) HT_.out (fun K hK => ?_)
 refine gq_ Try.func39 #[.agg #[.int .i64 t506, .int .i64 t507]] ?_
 with_reducible refine (spec_CountCells.calls t506 t507 t512 _ A4.out).mono ?_
 rintro e w15 ⟨rfl, hb⟩
 refine ⟨_, rfl, ?_⟩
 have n0_ := BK501.bb hb
 have n1_ := Aside0.mk (IsS95.below (by repeat (first | (with_reducible first | exact HI505.out | apply IsS95.alloc | apply IsS95.drewN | apply IsS95.drew | apply IsS95.set_1 | apply IsS95.set_2 | refine IsS95.far ?_ NB505_501.out _ | refine IsS95.far ?_ NB505_511.out _) | exact HI505.out)) hb)
 have n2_ := BK511.bb hb
 have n3_ := Aside0.mk (below_step (by repeat (first | (with_reducible first | exact HB.out | apply below_alloc | apply pw_below_drewN | apply below_drew1 | refine below_set ?_ (IsS95.ge HI505.out) | refine below_set ?_ GE501.out | refine below_set ?_ GE511.out) | exact HB.out)) hb)
 clear BK501
 clear HI505
 clear BK511
 clear HB
 have BK501 := n0_
 have HI505 := n1_
 have BK511 := n2_
 have HB := n3_
 clear n0_ n1_ n2_ n3_
 skip
 (try clear hb2)
 (try clear hk)
 (try clear hi)
 refine hK.out _ _ ⟨BK511.c 0, BK511.c 1, BK511.c 2⟩ (fun hHeld => ?_)
 clear hK K
 refine nm_ ?_
 refine ov_ (i := 5) (N := some 15) HT_.out (fun K hK => ?_)
 refine gq_ Try.func72 #[.pointer (some ⟨g505, 0, none⟩), .int .i64 t512] ?_
 with_reducible refine (spec_l01Below.calls g505 t502 t509 t510 t512 t513 t514 t515 w _ ?side1 ?side2 A5.out).mono ?_
 (case side1 => repeat (first | (with_reducible first | exact HI505.out | apply IsS95.alloc | apply IsS95.drewN | apply IsS95.drew | apply IsS95.set_1 | apply IsS95.set_2 | refine IsS95.far ?_ NB505_501.out _ | refine IsS95.far ?_ NB505_511.out _) | exact HI505.out))
 (case side2 => repeat (first | (with_reducible first | exact HB.out | apply below_alloc | apply pw_below_drewN | apply below_drew1 | refine below_set ?_ (IsS95.ge HI505.out) | refine below_set ?_ GE501.out | refine below_set ?_ GE511.out) | exact HB.out))
 rintro e w16 ⟨rfl, hi, hb, hk⟩
 refine ⟨_, rfl, ?_⟩
 replace BK501 := Aside0.mk (KeepBut.blk hk (g' := gb501) (o := .cells #[.int .i64 0, .int .i64 0, .int .i64 0] 30 (0, 0)) (bk_ BK501.out) NB501_505.out (by simp))
 replace BK511 := Aside0.mk (KeepBut.blk hk (g' := gb511) (o := .cells #[.int .i64 t506, .int .i64 t507, .int .i64 t508] 30 (0, 0)) (bk_ BK511.out) NB511_505.out (by simp))
 replace HB := Aside0.mk (hb)
 replace HI505 := Aside0.mk (hi)
 skip
 (try clear hb2)
 (try clear hk)
 (try clear hi)
 refine hK.out _ _ ⟨BK511.c 0, BK511.c 1, BK511.c 2⟩ (fun hHeld => ?_)
 clear hK K
 refine nm_ ?_
 refine one_ (i := 6) (N := none) #[true, true, true, true, true, true, true, false] rfl rfl (one_of HT_.out (by kernel_rfl)) (by decide) (fun K hK => ?_)
 have hs17 : w16.cell? ⟨gb501, 0, none⟩ = some (.int .i64 0) := BK501.c 0
 have hfs17 := blk_frozen BK501.out 0
 have hns17_1 := NB511_501.out
 have hms17_1 := NB501_511.out
 have hs18 : w16.cell? ⟨gb501, 1, none⟩ = some (.int .i64 0) := BK501.c 1
 have hfs18 := blk_frozen BK501.out 1
 have hns18_1 := NB511_501.out
 have hms18_1 := NB501_511.out
 have hs19 : w16.cell? ⟨gb501, 2, none⟩ = some (.int .i64 0) := BK501.c 2
 have hfs19 := blk_frozen BK501.out 2
 have hns19_1 := NB511_501.out
 have hms19_1 := NB501_511.out
 refine skip_ (w1 := ?_) (by rfl) rfl ?_ ?_
 rotate_left
 ·go_simp
  rfl
 refine hK.out _ _ ⟨((cell_far (p := ⟨gb501, _, none⟩) NB511_501.out _).trans (((cell_far (p := ⟨gb501, _, none⟩) NB511_501.out _).trans (((cell_far (p := ⟨gb501, _, none⟩) NB511_501.out _).trans (hHeld.1)))))), ((cell_far (p := ⟨gb501, _, none⟩) NB511_501.out _).trans (((cell_far (p := ⟨gb501, _, none⟩) NB511_501.out _).trans (((cell_far (p := ⟨gb501, _, none⟩) NB511_501.out _).trans (hHeld.2.1)))))), ((cell_far (p := ⟨gb501, _, none⟩) NB511_501.out _).trans (((cell_far (p := ⟨gb501, _, none⟩) NB511_501.out _).trans (((cell_far (p := ⟨gb501, _, none⟩) NB511_501.out _).trans (hHeld.2.2))))))⟩ (fun hHeld => ?_)
 clear hK K
 refine pv_ (i := 7) (N := some 3) HT_.out ?_
 refine done_ (done_of HT_.out (by kernel_rfl)) ?_
 try go_wp2
 refine bodyPost_ret (results_ct rfl _ _ gb501 30 #[.int .i64 t506, .int .i64 t507, .int .i64 t508] (0, 0) _ rfl (bq3_ BK501.out) Try.underlying30 rfl (by kernel_rfl)) rfl ?_
 exact ⟨ex_, by repeat (first | (with_reducible first | exact HB.out | apply below_alloc | apply pw_below_drewN | apply below_drew1 | refine below_set ?_ (IsS95.ge HI505.out) | refine below_set ?_ GE501.out | refine below_set ?_ GE511.out) | exact HB.out)⟩

end Go.Proofs.Ytmcllgonjlapoaa.X
