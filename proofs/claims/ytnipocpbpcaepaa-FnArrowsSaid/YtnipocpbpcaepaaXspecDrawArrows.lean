-- Written by a program of this session (xprint.py), out of the translation and of hand-written contracts. Lean checks it.
import Derived.Test.YtnipocpbpcaepaaX0
import Derived.Test.YtnipocpbpcaepaaXspecl01New
import Derived.Test.YtnipocpbpcaepaaXspecl02Grid
import Derived.Test.YtnipocpbpcaepaaXspecl15Arrows
import Derived.Test.YtnipocpbpcaepaaXspecl15Cells
namespace Go.Proofs.Ytnipocpbpcaepaa.X
open Go.RowKit Go.Proofs.YtnipocpbpcaepaaW.PrintWords Go.Proofs.YtnipocpbpcaepaaW.PrintLast Go.Proofs.YtnipocpbpcaepaaW.PrintMore
attribute [local go_sem] max2_int min2_int max_two min_two max_three min_three max_four min_four   -- for this text's walks alone
set_option linter.unusedVariables false
set_option linter.unusedSimpArgs false

/-! ### spec_DrawArrows: function 18 -/
def spec_DrawArrows.f (k : Nat) (l0 : List Int) : Option (Int × Int × (List (List Int)) × List Int × List Int) := (spec_l01New.f k l0).bind fun bt502 => ((spec_l02Grid.f bt502.1 bt502.2.1 bt502.2.2).bind fun bt506 => ((spec_l15Arrows.f k bt502.1 bt506.2.2.1 bt506.2.2.2 bt506.1 bt506.2.1).bind fun bt511 => ((spec_l15Cells.f k bt502.1 bt511.2.1 bt511.2.2 bt506.1 bt506.2.1).bind fun bt516 => ((spec_l15Cells.f k bt502.1 bt516.2.1 bt516.2.2 bt506.1 bt506.2.1).bind fun bt521 => (some (bt506.1, bt506.2.1, bt511.1, bt516.1, bt521.1))))))
theorem spec_DrawArrows.mono : ∀ a0 k, LeO (spec_DrawArrows.f k a0) (spec_DrawArrows.f (k + 1) a0) := by
 intro a0 k
 unfold spec_DrawArrows.f
 repeat' first
   | (with_reducible exact spec_l01New.mono ..)
   | (with_reducible exact spec_l15Arrows.mono ..)
   | (with_reducible exact spec_l15Cells.mono ..)
   | (with_reducible first | exact lr_ _ | exact ln_ _ | refine li_ ?_ ?_ | refine lb_ ?_ fun _ => ?_)
   | exact spec_l01New.mono ..
   | exact spec_l15Arrows.mono ..
   | exact spec_l15Cells.mono ..
   | exact ln_ _ | refine li_ ?_ ?_ | refine lb_ ?_ fun _ => ?_
def spec_DrawArrows.T4 : Bool × List (List Nat × List Nat) := (true, [([], []), ([], []), ([], []), ([], []), ([2, 3], [2, 3]), ([], []), ([], []), ([5, 6, 4], [5, 6]), ([0, 7, 0], [0]), ([1, 8, 0, 1, 8], [1]), ([4, 9, 0, 1, 2, 3, 4, 8, 9], [4]), ([7, 10, 0, 1, 2, 3, 4, 5, 6, 7, 8, 9, 10], [7])])
def spec_DrawArrows.B4 : List Nat := [0, 0, 0, 0, 12, 0, 0, 124, 253, 511, 1023, 2047]
theorem spec_DrawArrows.tab4 : rtab .any (opsOf Try.f18 4) = spec_DrawArrows.T4 := by kernel_rfl
theorem spec_DrawArrows.bits4 : waitsOk spec_DrawArrows.T4.2 spec_DrawArrows.B4 = true := by kernel_rfl
set_option maxHeartbeats 8000000 in
set_option maxRecDepth 100000 in
theorem spec_DrawArrows.calls (k : Nat) (A0 : Option Addr) (c0 : Nat) (l0 : List Int) (r1 : Int) (r2 : Int) (r3 : List (List Int)) (r4 : List Int) (r5 : List Int) (w : World) (hr0 : Kd.C (Kd.int .u8) w A0 l0.length l0) (hc0 : l0.length ≤ c0) (h : spec_DrawArrows.f k l0 = some (r1, r2, r3, r4, r5)) :
  Calls Try.prog 18 #[.slice A0 l0.length c0] w fun e w' => ∃ v2_ v3_ v4_ : Value, e = .returned (.tuple #[.agg #[.int .i64 r1, .int .i64 r2], v2_, v3_, v4_]) ∧ Kd.S (Kd.slice 3 (Kd.int .i64)) 25 w' w.heap.size (fun k_ => some k_ ≠ (v3_ : Value).ownBlock ∧ some k_ ≠ (v4_ : Value).ownBlock) v2_ r3 ∧ Kd.R (Kd.int .i64) 3 w' w.heap.size (fun k_ => some k_ ≠ (v4_ : Value).ownBlock) v3_ r4 ∧ Kd.R (Kd.int .i64) 3 w' w.heap.size (fun k_ => some k_ ≠ (v3_ : Value).ownBlock) v4_ r5 ∧ Below w.heap.size w w' := by
 have hu28 := Try.underlying28
 have HR0 := Aside0.mk hr0
 have HC0 := Aside0.mk hc0
 clear hr0 hc0
 have HB := Aside0.mk (Below.refl w.heap.size w)
 have H : ((spec_l01New.f k l0).bind fun bt502 => ((spec_l02Grid.f bt502.1 bt502.2.1 bt502.2.2).bind fun bt506 => ((spec_l15Arrows.f k bt502.1 bt506.2.2.1 bt506.2.2.2 bt506.1 bt506.2.1).bind fun bt511 => ((spec_l15Cells.f k bt502.1 bt511.2.1 bt511.2.2 bt506.1 bt506.2.1).bind fun bt516 => ((spec_l15Cells.f k bt502.1 bt516.2.1 bt516.2.2 bt506.1 bt506.2.1).bind fun bt521 => (some (bt506.1, bt506.2.1, bt511.1, bt516.1, bt521.1))))))) = some (r1, r2, r3, r4, r5) := h
 clear h
 replace H := Option.bind_eq_some_iff.mp H
 obtain ⟨⟨t502, t503, t504⟩, A20, H⟩ := H
 replace H : ((spec_l02Grid.f t502 t503 t504).bind fun bt506 => ((spec_l15Arrows.f k t502 bt506.2.2.1 bt506.2.2.2 bt506.1 bt506.2.1).bind fun bt511 => ((spec_l15Cells.f k t502 bt511.2.1 bt511.2.2 bt506.1 bt506.2.1).bind fun bt516 => ((spec_l15Cells.f k t502 bt516.2.1 bt516.2.2 bt506.1 bt506.2.1).bind fun bt521 => (some (bt506.1, bt506.2.1, bt511.1, bt516.1, bt521.1)))))) = some (r1, r2, r3, r4, r5) := H
 have A2 := Aside0.mk A20
 clear A20
 replace H := Option.bind_eq_some_iff.mp H
 obtain ⟨⟨t506, t507, t508, t509⟩, A30, H⟩ := H
 replace H : ((spec_l15Arrows.f k t502 t508 t509 t506 t507).bind fun bt511 => ((spec_l15Cells.f k t502 bt511.2.1 bt511.2.2 t506 t507).bind fun bt516 => ((spec_l15Cells.f k t502 bt516.2.1 bt516.2.2 t506 t507).bind fun bt521 => (some (t506, t507, bt511.1, bt516.1, bt521.1))))) = some (r1, r2, r3, r4, r5) := H
 have A3 := Aside0.mk A30
 clear A30
 replace H := Option.bind_eq_some_iff.mp H
 obtain ⟨⟨t511, t514, t515⟩, A40, H⟩ := H
 replace H : ((spec_l15Cells.f k t502 t514 t515 t506 t507).bind fun bt516 => ((spec_l15Cells.f k t502 bt516.2.1 bt516.2.2 t506 t507).bind fun bt521 => (some (t506, t507, t511, bt516.1, bt521.1)))) = some (r1, r2, r3, r4, r5) := H
 have A4 := Aside0.mk A40
 clear A40
 replace H := Option.bind_eq_some_iff.mp H
 obtain ⟨⟨t516, t519, t520⟩, A50, H⟩ := H
 replace H : ((spec_l15Cells.f k t502 t519 t520 t506 t507).bind fun bt521 => (some (t506, t507, t511, t516, bt521.1))) = some (r1, r2, r3, r4, r5) := H
 have A5 := Aside0.mk A50
 clear A50
 replace H := Option.bind_eq_some_iff.mp H
 obtain ⟨⟨t521, t524, t525⟩, A60, H⟩ := H
 replace H : (some (t506, t507, t511, t516, t521)) = some (r1, r2, r3, r4, r5) := H
 have A6 := Aside0.mk A60
 clear A60
 simp only [Option.some.injEq, Prod.mk.injEq] at H
 obtain ⟨rfl, rfl, rfl, rfl, rfl⟩ := H
 go_enter Try.func18, Try.ntmps18
 try go_wp2_with (first | (refine box_ (N := 2) (cs := #[.int .i64 0, .int .i64 0]) (t := 28) ?_; intro gb501 hg w7 hbox hb; have BK501 := Aside0.mk (hbox); have GW501 := HB.g0 hg; have GE501 := HB.g0 hg; replace HB := HB.s0 hb; clear hb hbox hg) | (refine gl_ 10 Try.func27 #[.slice A0 l0.length c0] ?_; (with_reducible refine (spec_l01New.calls k _ _ l0 t502 t503 t504 w _ ?side1 ?side2 ?side3 A2.out).mono ?_); (case side1 => repeat (first | (with_reducible first | exact HB.out | apply below_alloc | apply pw_below_drewN | apply below_drew1 | refine below_set ?_ GE501.out) | exact HB.out)); (case side2 => exact HR0.out); (case side3 => exact HC0.out); rintro e w8 ⟨g505, rfl, hi, hb, hb2⟩; refine ⟨_, rfl, ?_⟩; replace HB := Aside0.mk (hb); have HI505 := Aside0.mk (hi); have NB505_501 := Aside0.mk (IsS71.ne_blk hi (blk_below (g := gb501) (o := .cells #[.int .i64 0, .int .i64 0] 28 (0, 0)) (bk_ BK501.out) hb2) (by decide)); have NB501_505 := Aside0.mk (Ne.symm (IsS71.ne_blk hi (blk_below (g := gb501) (o := .cells #[.int .i64 0, .int .i64 0] 28 (0, 0)) (bk_ BK501.out) hb2) (by decide))); replace BK501 := Aside0.mk (blk_below (g := gb501) (o := .cells #[.int .i64 0, .int .i64 0] 28 (0, 0)) (bk_ BK501.out) hb2); (try clear hb); (try clear hb2); (try clear hi)) | (refine gl_ 12 Try.func28 #[.pointer (some ⟨g505, 0, none⟩)] ?_; (with_reducible refine (spec_l02Grid.calls g505 t502 t503 t504 t506 t507 t508 t509 w _ ?side1 ?side2 A3.out).mono ?_); (case side1 => repeat (first | (with_reducible first | exact HI505.out | apply IsS71.alloc | apply IsS71.drewN | apply IsS71.drew | apply IsS71.set_1 | apply IsS71.set_2 | refine IsS71.far ?_ NB505_501.out _) | exact HI505.out)); (case side2 => repeat (first | (with_reducible first | exact HB.out | apply below_alloc | apply pw_below_drewN | apply below_drew1 | refine below_set ?_ (IsS71.ge HI505.out) | refine below_set ?_ GE501.out) | exact HB.out)); rintro e w9 ⟨rfl, hi, hb, hk⟩; refine ⟨_, rfl, ?_⟩; replace BK501 := Aside0.mk (KeepBut.blk hk (g' := gb501) (o := .cells #[.int .i64 0, .int .i64 0] 28 (0, 0)) (bk_ BK501.out) NB501_505.out (by simp)); replace HB := Aside0.mk (hb); replace HI505 := Aside0.mk (hi); (try clear hb); (try clear hk); (try clear hi)) | (refine box_ (N := 7) (cs := #[.int .i64 0, .int .i64 0]) (t := 28) ?_; intro gb510 hg w10 hbox hb; have n0_ := BK501.bb hb; have n1_ := Aside0.mk (IsS71.below (by repeat (first | (with_reducible first | exact HI505.out | apply IsS71.alloc | apply IsS71.drewN | apply IsS71.drew | apply IsS71.set_1 | apply IsS71.set_2 | refine IsS71.far ?_ NB505_501.out _) | exact HI505.out)) hb); have n2_ := Aside0.mk (below_step (by repeat (first | (with_reducible first | exact HB.out | apply below_alloc | apply pw_below_drewN | apply below_drew1 | refine below_set ?_ (IsS71.ge HI505.out) | refine below_set ?_ GE501.out) | exact HB.out)) hb); have n3_ := Aside0.mk (hbox); have n4_ := Aside0.mk ((by rw [hg]; exact (below_size (by repeat (first | (with_reducible first | exact HB.out | apply below_alloc | apply pw_below_drewN | apply below_drew1 | refine below_set ?_ (IsS71.ge HI505.out) | refine below_set ?_ GE501.out) | exact HB.out))) : w.heap.size ≤ gb510)); have n5_ := Aside0.mk ((by rw [hg]; exact (below_size (by repeat (first | (with_reducible first | exact HB.out | apply below_alloc | apply pw_below_drewN | apply below_drew1 | refine below_set ?_ (IsS71.ge HI505.out) | refine below_set ?_ GE501.out) | exact HB.out))) : w.heap.size ≤ gb510)); have n6_ := BK501.nl hg; have n7_ := BK501.nr hg; have n8_ := Aside0.mk ((by rw [hg]; exact Nat.ne_of_lt (IsS71.lt (show IsS71 w _ g505 t502 t508 t509 from by repeat (first | (with_reducible first | exact HI505.out | apply IsS71.alloc | apply IsS71.drewN | apply IsS71.drew | apply IsS71.set_1 | apply IsS71.set_2 | refine IsS71.far ?_ NB505_501.out _) | exact HI505.out))) : g505 ≠ gb510)); have n9_ := Aside0.mk ((by rw [hg]; exact Nat.ne_of_gt (IsS71.lt (show IsS71 w _ g505 t502 t508 t509 from by repeat (first | (with_reducible first | exact HI505.out | apply IsS71.alloc | apply IsS71.drewN | apply IsS71.drew | apply IsS71.set_1 | apply IsS71.set_2 | refine IsS71.far ?_ NB505_501.out _) | exact HI505.out))) : gb510 ≠ g505)); clear BK501; clear HI505; clear HB; have BK501 := n0_; have HI505 := n1_; have HB := n2_; have BK510 := n3_; have GW510 := n4_; have GE510 := n5_; have NB501_510 := n6_; have NB510_501 := n7_; have NB505_510 := n8_; have NB510_505 := n9_; clear n0_ n1_ n2_ n3_ n4_ n5_ n6_ n7_ n8_ n9_; clear hb hbox hg; have hnb11 := NB510_501.out; have hnc11 := NB501_510.out; have hnb12 := NB510_505.out; have hnc12 := NB505_510.out; obtain ⟨hcz13_0, hcz13_1⟩ := cz2_ BK510.out; obtain ⟨hfz13_0, hfz13_1⟩ := fz2_ BK510.out) | (refine gl_ 15 Try.func29 #[.pointer (some ⟨g505, 0, none⟩), .agg #[.int .i64 t506, .int .i64 t507]] ?_; (with_reducible refine (spec_l15Arrows.calls k g505 t502 t508 t509 t506 t507 t511 t514 t515 w _ ?side1 ?side2 A4.out).mono ?_); (case side1 => repeat (first | (with_reducible first | exact HI505.out | apply IsS71.alloc | apply IsS71.drewN | apply IsS71.drew | apply IsS71.set_1 | apply IsS71.set_2 | refine IsS71.far ?_ NB505_501.out _ | refine IsS71.far ?_ NB505_510.out _) | exact HI505.out)); (case side2 => repeat (first | (with_reducible first | exact HB.out | apply below_alloc | apply pw_below_drewN | apply below_drew1 | refine below_set ?_ (IsS71.ge HI505.out) | refine below_set ?_ GE501.out | refine below_set ?_ GE510.out) | exact HB.out)); rintro e w14 ⟨v512, rfl, ho0, hi, hb, hk⟩; refine ⟨_, rfl, ?_⟩; replace BK501 := Aside0.mk (KeepBut.blk hk (g' := gb501) (o := .cells #[.int .i64 0, .int .i64 0] 28 (0, 0)) (by (with_reducible repeat (first | refine blk_drewN ?_ _ | refine blk_drew ?_ | refine blk_alloc ?_ _)); refine blk_far ?_ NB501_510.out _; (with_reducible repeat (first | refine blk_drewN ?_ _ | refine blk_drew ?_ | refine blk_alloc ?_ _)); refine blk_far ?_ NB501_510.out _; (with_reducible repeat (first | refine blk_drewN ?_ _ | refine blk_drew ?_ | refine blk_alloc ?_ _)); exact BK501.out) NB501_505.out (by simp)); replace BK510 := Aside0.mk (KeepBut.blk hk (g' := gb510) (o := .cells #[.int .i64 t506, .int .i64 t507] 28 (0, 0)) (bq2_ BK510.out) NB510_505.out (by simp)); have HO513 := Aside0.mk (Kd.S_lower ho0 (below_size (by repeat (first | (with_reducible first | exact HB.out | apply below_alloc | apply pw_below_drewN | apply below_drew1 | refine below_set ?_ (IsS71.ge HI505.out) | refine below_set ?_ GE501.out | refine below_set ?_ GE510.out) | exact HB.out)))); replace HB := Aside0.mk (hb); replace HI505 := Aside0.mk (hi)))
 replace HO513 := Aside0.mk (Kd.S_drew HO513.out)
 replace BK501 := Aside0.mk (blk_drew BK501.out)
 replace BK510 := Aside0.mk (blk_drew BK510.out)
 replace HI505 := Aside0.mk (IsS71.drew HI505.out)
 replace HB := Aside0.mk (below_drew1 HB.out)
 refine start_ (n := 12) (S := fun w' => w'.cell? ⟨gb510, 0, none⟩ = some (.int .i64 t506) ∧ w'.cell? ⟨gb510, 1, none⟩ = some (.int .i64 t507)) (ds := []) #[false, false, false, false, false, false, false, false, false, false, false, false] (by kernel_rfl) rfl rfl ⟨BK510.c 0, BK510.c 1⟩ (fun hHeld => ?_); refine with_tabW spec_DrawArrows.tab4 spec_DrawArrows.bits4 (fun HT_ HW_ => ?_)
 generalize w14.drew = w15 at HO513 BK501 BK510 HI505 HB hHeld ⊢
 refine pv_ (i := 1) (N := some 17) HT_.out ?_
 refine pv_ (i := 2) (N := some 18) HT_.out ?_
 refine pv_ (i := 5) (N := some 21) HT_.out ?_
 refine tv2_ (i := 0) (N := some 16) HT_.out HW_.out hHeld ?_
 refine tv2_ (i := 3) (N := some 19) HT_.out HW_.out hHeld ?_
 refine tv2_ (i := 6) (N := some 22) HT_.out HW_.out hHeld ?_
 refine ov_ (i := 4) (N := some 20) HT_.out (fun K hK => ?_)
 refine gq_ Try.func30 #[.pointer (some ⟨g505, 0, none⟩), .agg #[.int .i64 t506, .int .i64 t507]] ?_
 with_reducible refine (spec_l15Cells.calls k g505 t502 t514 t515 t506 t507 t516 t519 t520 w _ ?side1 ?side2 A5.out).mono ?_
 (case side1 => repeat (first | (with_reducible first | exact HI505.out | apply IsS71.alloc | apply IsS71.drewN | apply IsS71.drew | apply IsS71.set_1 | apply IsS71.set_2 | refine IsS71.far ?_ NB505_501.out _ | refine IsS71.far ?_ NB505_510.out _) | exact HI505.out))
 (case side2 => repeat (first | (with_reducible first | exact HB.out | apply below_alloc | apply pw_below_drewN | apply below_drew1 | refine below_set ?_ (IsS71.ge HI505.out) | refine below_set ?_ GE501.out | refine below_set ?_ GE510.out) | exact HB.out))
 rintro e w16 ⟨v517, rfl, ho0, hi, hb, hk⟩
 refine ⟨_, rfl, ?_⟩
 replace BK501 := Aside0.mk (KeepBut.blk hk (g' := gb501) (o := .cells #[.int .i64 0, .int .i64 0] 28 (0, 0)) (bk_ BK501.out) NB501_505.out (by simp))
 replace BK510 := Aside0.mk (KeepBut.blk hk (g' := gb510) (o := .cells #[.int .i64 t506, .int .i64 t507] 28 (0, 0)) (bk_ BK510.out) NB510_505.out (by simp))
 replace HO513 := Aside0.mk (Kd.S_mono (Kd.S_told (Kd.S_oldK (IsS71.apartS (show IsS71 w _ g505 t502 t514 t515 from by repeat (first | (with_reducible first | exact HI505.out | apply IsS71.alloc | apply IsS71.drewN | apply IsS71.drew | apply IsS71.set_1 | apply IsS71.set_2 | refine IsS71.far ?_ NB505_501.out _ | refine IsS71.far ?_ NB505_510.out _) | exact HI505.out)) (by (with_reducible repeat (first | apply Kd.S_alloc | apply Kd.S_drewN | apply Kd.S_drew)); exact HO513.out) (by decide)) hk) (Kd.R_base ho0)) (fun _ h_ => h_.1))
 have HO518 := Aside0.mk (Kd.R_lower ho0 (below_size (by repeat (first | (with_reducible first | exact HB.out | apply below_alloc | apply pw_below_drewN | apply below_drew1 | refine below_set ?_ (IsS71.ge HI505.out) | refine below_set ?_ GE501.out | refine below_set ?_ GE510.out) | exact HB.out))))
 replace HB := Aside0.mk (hb)
 replace HI505 := Aside0.mk (hi)
 skip
 (try clear hb2)
 (try clear hk)
 (try clear hi)
 (try clear ho0)
 refine hK.out _ _ ⟨BK510.c 0, BK510.c 1⟩ (fun hHeld => ?_)
 clear hK K
 refine nm_ ?_
 refine ov_ (i := 7) (N := some 23) HT_.out (fun K hK => ?_)
 refine gq_ Try.func30 #[.pointer (some ⟨g505, 0, none⟩), .agg #[.int .i64 t506, .int .i64 t507]] ?_
 with_reducible refine (spec_l15Cells.calls k g505 t502 t519 t520 t506 t507 t521 t524 t525 w _ ?side1 ?side2 A6.out).mono ?_
 (case side1 => repeat (first | (with_reducible first | exact HI505.out | apply IsS71.alloc | apply IsS71.drewN | apply IsS71.drew | apply IsS71.set_1 | apply IsS71.set_2 | refine IsS71.far ?_ NB505_501.out _ | refine IsS71.far ?_ NB505_510.out _) | exact HI505.out))
 (case side2 => repeat (first | (with_reducible first | exact HB.out | apply below_alloc | apply pw_below_drewN | apply below_drew1 | refine below_set ?_ (IsS71.ge HI505.out) | refine below_set ?_ GE501.out | refine below_set ?_ GE510.out) | exact HB.out))
 rintro e w17 ⟨v522, rfl, ho0, hi, hb, hk⟩
 refine ⟨_, rfl, ?_⟩
 have n0_ := Aside0.mk (KeepBut.blk hk (g' := gb501) (o := .cells #[.int .i64 0, .int .i64 0] 28 (0, 0)) (bk_ BK501.out) NB501_505.out (by simp))
 have n1_ := Aside0.mk (KeepBut.blk hk (g' := gb510) (o := .cells #[.int .i64 t506, .int .i64 t507] 28 (0, 0)) (bk_ BK510.out) NB510_505.out (by simp))
 have n2_ := Aside0.mk (Kd.S_mono (Kd.S_told (Kd.S_oldK (IsS71.apartS (show IsS71 w _ g505 t502 t519 t520 from by repeat (first | (with_reducible first | exact HI505.out | apply IsS71.alloc | apply IsS71.drewN | apply IsS71.drew | apply IsS71.set_1 | apply IsS71.set_2 | refine IsS71.far ?_ NB505_501.out _ | refine IsS71.far ?_ NB505_510.out _) | exact HI505.out)) (by (with_reducible repeat (first | apply Kd.S_alloc | apply Kd.S_drewN | apply Kd.S_drew)); exact HO513.out) (by decide)) hk) (Kd.R_base ho0)) (fun _ h_ => h_.1))
 have n3_ := Aside0.mk (Kd.R_mono (Kd.R_told (Kd.R_oldK (IsS71.apart (show IsS71 w _ g505 t502 t519 t520 from by repeat (first | (with_reducible first | exact HI505.out | apply IsS71.alloc | apply IsS71.drewN | apply IsS71.drew | apply IsS71.set_1 | apply IsS71.set_2 | refine IsS71.far ?_ NB505_501.out _ | refine IsS71.far ?_ NB505_510.out _) | exact HI505.out)) (kr_ HO518.out) (by decide)) hk) (Kd.R_base ho0)) (fun _ h_ => h_.1))
 have n4_ := Aside0.mk (Kd.R_lower (Kd.R_new' ho0 (Kd.R_lt (kr_ HO518.out))) (below_size (by repeat (first | (with_reducible first | exact HB.out | apply below_alloc | apply pw_below_drewN | apply below_drew1 | refine below_set ?_ (IsS71.ge HI505.out) | refine below_set ?_ GE501.out | refine below_set ?_ GE510.out) | exact HB.out))))
 have n5_ := Aside0.mk (hb)
 have n6_ := Aside0.mk (hi)
 clear BK501
 clear BK510
 clear HO513
 clear HO518
 clear HB
 clear HI505
 have BK501 := n0_
 have BK510 := n1_
 have HO513 := n2_
 have HO518 := n3_
 have HO523 := n4_
 have HB := n5_
 have HI505 := n6_
 clear n0_ n1_ n2_ n3_ n4_ n5_ n6_
 skip
 (try clear hb2)
 (try clear hk)
 (try clear hi)
 (try clear ho0)
 refine hK.out _ _ ⟨BK510.c 0, BK510.c 1⟩ (fun hHeld => ?_)
 clear hK K
 refine nm_ ?_
 refine one_ (i := 8) (N := none) #[true, true, true, true, true, true, true, true, true, false, false, false] rfl rfl (one_of HT_.out (by kernel_rfl)) (by decide) (fun K hK => ?_)
 have hs18 : w17.cell? ⟨gb501, 0, none⟩ = some (.int .i64 0) := BK501.c 0
 have hfs18 := blk_frozen BK501.out 0
 have hns18_1 := NB510_501.out
 have hms18_1 := NB501_510.out
 have hs19 : w17.cell? ⟨gb501, 1, none⟩ = some (.int .i64 0) := BK501.c 1
 have hfs19 := blk_frozen BK501.out 1
 have hns19_1 := NB510_501.out
 have hms19_1 := NB501_510.out
 refine skip_ (w1 := ?_) (by rfl) rfl ?_ ?_
 rotate_left
 ·go_simp
  rfl
 refine hK.out _ _ ⟨((cell_far (p := ⟨gb501, _, none⟩) NB510_501.out _).trans (((cell_far (p := ⟨gb501, _, none⟩) NB510_501.out _).trans (hHeld.1)))), ((cell_far (p := ⟨gb501, _, none⟩) NB510_501.out _).trans (((cell_far (p := ⟨gb501, _, none⟩) NB510_501.out _).trans (hHeld.2))))⟩ (fun hHeld => ?_)
 clear hK K
 refine pv_ (i := 9) (N := some 3) HT_.out ?_
 refine pv_ (i := 10) (N := some 4) HT_.out ?_
 refine pv_ (i := 11) (N := some 5) HT_.out ?_
 refine done_ (done_of HT_.out (by kernel_rfl)) ?_
 try go_wp2
 refine bodyPost_ret (results_list (rs := [.cell 2 28, .tmp 3, .tmp 4, .tmp 5]) rfl (by simp) (.cell gb501 28 #[.int .i64 t506, .int .i64 t507] (0, 0) _ rfl (bq2_ BK501.out) Try.underlying28 rfl (by kernel_rfl) (.tmp (.tmp (.tmp .nil))))) rfl ?_
 exact ⟨_, _, _, by first | rfl | (simp [errW_none, errW_some] <;> rfl) | (simp [*, errW_none, errW_some] <;> rfl), by (with_reducible repeat (first | apply Kd.S_alloc | apply Kd.S_drewN | apply Kd.S_drew)); exact Kd.S_mono (Kd.S_far (p := ⟨gb501, 1, none⟩) (Kd.S_far (p := ⟨gb501, 0, none⟩) (Kd.S_types HO513.out BK501.out (by decide)) (fun _ hk => hk.2) (.int .i64 t506)) (fun _ hk => hk.2) (.int .i64 t507)) (fun _ hk => ⟨hk.1.1.2, hk.1.2⟩), by (with_reducible repeat (first | apply Kd.R_alloc | apply Kd.R_drewN | apply Kd.R_drew)); exact Kd.R_mono (Kd.R_far (p := ⟨gb501, 1, none⟩) (Kd.R_far (p := ⟨gb501, 0, none⟩) (Kd.R_types HO518.out BK501.out (by decide)) (fun _ hk => hk.2) (.int .i64 t506)) (fun _ hk => hk.2) (.int .i64 t507)) (fun _ hk => hk.1.2), by (with_reducible repeat (first | apply Kd.R_alloc | apply Kd.R_drewN | apply Kd.R_drew)); exact Kd.R_mono (Kd.R_far (p := ⟨gb501, 1, none⟩) (Kd.R_far (p := ⟨gb501, 0, none⟩) (Kd.R_types HO523.out BK501.out (by decide)) (fun _ hk => hk.2) (.int .i64 t506)) (fun _ hk => hk.2) (.int .i64 t507)) (fun _ hk => hk.1.2), by repeat (first | (with_reducible first | exact HB.out | apply below_alloc | apply pw_below_drewN | apply below_drew1 | refine below_set ?_ (IsS71.ge HI505.out) | refine below_set ?_ GE501.out | refine below_set ?_ GE510.out) | exact HB.out)⟩

end Go.Proofs.Ytnipocpbpcaepaa.X
