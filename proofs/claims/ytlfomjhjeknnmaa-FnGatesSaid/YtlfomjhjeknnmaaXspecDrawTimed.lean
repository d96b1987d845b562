-- Written by a program of this session (xprint.py), out of the translation and of hand-written contracts. Lean checks it.
import Derived.Test.YtlfomjhjeknnmaaX0
import Derived.Test.YtlfomjhjeknnmaaXcgrid
import Derived.Test.YtlfomjhjeknnmaaXspecl01Below
import Derived.Test.YtlfomjhjeknnmaaXspecl01New
import Derived.Test.YtlfomjhjeknnmaaXspecl29Timed
namespace Go.Proofs.Ytlfomjhjeknnmaa.X
open Go.RowKit Go.Proofs.YtlfomjhjeknnmaaW.PrintWords Go.Proofs.YtlfomjhjeknnmaaW.PrintLast Go.Proofs.YtlfomjhjeknnmaaW.PrintMore
attribute [local go_sem] max2_int min2_int max_two min_two max_three min_three max_four min_four   -- for this text's walks alone
set_option linter.unusedVariables false
set_option linter.unusedSimpArgs false

/-! ### spec_DrawTimed: function 22 -/
def spec_DrawTimed.f (k : Nat) (l0 : List Int) : Option (Int × Int × Int × Int × (List (S56)) × Int × Int) := (spec_l01New.f k l0).bind fun bt502 => ((spec_l29Timed.f k bt502.1 bt502.2.1 bt502.2.2).bind fun bt506 => ((spec_CountCells.f bt506.1 bt506.2.1).bind fun t516 => ((spec_l01Below.f bt502.1 bt506.2.2.2.2.2.1 bt506.2.2.2.2.2.2 t516).bind fun bt517 => ((spec_l01Below.f bt502.1 bt517.2.1 bt517.2.2 t516).bind fun bt520 => (some (bt506.1, bt506.2.1, bt506.2.2.1, bt506.2.2.2.1, bt506.2.2.2.2.1, bt517.1, bt520.1))))))
theorem spec_DrawTimed.mono : ∀ a0 k, LeO (spec_DrawTimed.f k a0) (spec_DrawTimed.f (k + 1) a0) := by
 intro a0 k
 unfold spec_DrawTimed.f
 repeat' first
   | (with_reducible exact spec_l01New.mono ..)
   | (with_reducible exact spec_l29Timed.mono ..)
   | (with_reducible first | exact lr_ _ | exact ln_ _ | refine li_ ?_ ?_ | refine lb_ ?_ fun _ => ?_)
   | exact spec_l01New.mono ..
   | exact spec_l29Timed.mono ..
   | exact ln_ _ | refine li_ ?_ ?_ | refine lb_ ?_ fun _ => ?_
def spec_DrawTimed.T4 : Bool × List (List Nat × List Nat) := (true, [([], []), ([], []), ([], []), ([1, 2], [1, 2]), ([], []), ([], []), ([4, 5, 3], [4, 5]), ([0, 6, 0], [0]), ([3, 7, 0, 1, 2, 3, 7], [3]), ([6, 8, 0, 1, 2, 3, 4, 5, 6, 7, 8], [6])])
def spec_DrawTimed.B4 : List Nat := [0, 0, 0, 6, 0, 0, 62, 127, 255, 511]
theorem spec_DrawTimed.tab4 : rtab .any (opsOf Try.f22 4) = spec_DrawTimed.T4 := by kernel_rfl
theorem spec_DrawTimed.bits4 : waitsOk spec_DrawTimed.T4.2 spec_DrawTimed.B4 = true := by kernel_rfl
set_option maxHeartbeats 8000000 in
set_option maxRecDepth 100000 in
theorem spec_DrawTimed.calls (k : Nat) (A0 : Option Addr) (c0 : Nat) (l0 : List Int) (r1 : Int) (r2 : Int) (r3 : Int) (r4 : Int) (r5 : List (S56)) (r6 : Int) (r7 : Int) (w : World) (hr0 : Kd.C (Kd.int .u8) w A0 l0.length l0) (hc0 : l0.length ≤ c0) (h : spec_DrawTimed.f k l0 = some (r1, r2, r3, r4, r5, r6, r7)) :
  Calls Try.prog 22 #[.slice A0 l0.length c0] w fun e w' => ∃ v4_ : Value, e = .returned (.tuple #[.agg #[.int .i64 r1, .int .i64 r2, .int .i64 r3, .int .i64 r4, v4_], .int .i64 r6, .int .i64 r7]) ∧ Kd.R k56 56 w' w.heap.size (fun _ => True) v4_ r5 ∧ Below w.heap.size w w' := by
 have hu36 := Try.underlying36
 have hu31 := Try.underlying31
 have HR0 := Aside0.mk hr0
 have HC0 := Aside0.mk hc0
 clear hr0 hc0
 have HB := Aside0.mk (Below.refl w.heap.size w)
 have H : ((spec_l01New.f k l0).bind fun bt502 => ((spec_l29Timed.f k bt502.1 bt502.2.1 bt502.2.2).bind fun bt506 => ((spec_CountCells.f bt506.1 bt506.2.1).bind fun t516 => ((spec_l01Below.f bt502.1 bt506.2.2.2.2.2.1 bt506.2.2.2.2.2.2 t516).bind fun bt517 => ((spec_l01Below.f bt502.1 bt517.2.1 bt517.2.2 t516).bind fun bt520 => (some (bt506.1, bt506.2.1, bt506.2.2.1, bt506.2.2.2.1, bt506.2.2.2.2.1, bt517.1, bt520.1))))))) = some (r1, r2, r3, r4, r5, r6, r7) := h
 clear h
 replace H := Option.bind_eq_some_iff.mp H
 obtain ⟨⟨t502, t503, t504⟩, A20, H⟩ := H
 replace H : ((spec_l29Timed.f k t502 t503 t504).bind fun bt506 => ((spec_CountCells.f bt506.1 bt506.2.1).bind fun t516 => ((spec_l01Below.f t502 bt506.2.2.2.2.2.1 bt506.2.2.2.2.2.2 t516).bind fun bt517 => ((spec_l01Below.f t502 bt517.2.1 bt517.2.2 t516).bind fun bt520 => (some (bt506.1, bt506.2.1, bt506.2.2.1, bt506.2.2.2.1, bt506.2.2.2.2.1, bt517.1, bt520.1)))))) = some (r1, r2, r3, r4, r5, r6, r7) := H
 have A2 := Aside0.mk A20
 clear A20
 replace H := Option.bind_eq_some_iff.mp H
 obtain ⟨⟨t506, t507, t508, t509, t510, t513, t514⟩, A30, H⟩ := H
 replace H : ((spec_CountCells.f t506 t507).bind fun t516 => ((spec_l01Below.f t502 t513 t514 t516).bind fun bt517 => ((spec_l01Below.f t502 bt517.2.1 bt517.2.2 t516).bind fun bt520 => (some (t506, t507, t508, t509, t510, bt517.1, bt520.1))))) = some (r1, r2, r3, r4, r5, r6, r7) := H
 have A3 := Aside0.mk A30
 clear A30
 replace H := Option.bind_eq_some_iff.mp H
 obtain ⟨t516, A40, H⟩ := H
 replace H : ((spec_l01Below.f t502 t513 t514 t516).bind fun bt517 => ((spec_l01Below.f t502 bt517.2.1 bt517.2.2 t516).bind fun bt520 => (some (t506, t507, t508, t509, t510, bt517.1, bt520.1)))) = some (r1, r2, r3, r4, r5, r6, r7) := H
 have A4 := Aside0.mk A40
 clear A40
 replace H := Option.bind_eq_some_iff.mp H
 obtain ⟨⟨t517, t518, t519⟩, A50, H⟩ := H
 replace H : ((spec_l01Below.f t502 t518 t519 t516).bind fun bt520 => (some (t506, t507, t508, t509, t510, t517, bt520.1))) = some (r1, r2, r3, r4, r5, r6, r7) := H
 have A5 := Aside0.mk A50
 clear A50
 replace H := Option.bind_eq_some_iff.mp H
 obtain ⟨⟨t520, t521, t522⟩, A60, H⟩ := H
 replace H : (some (t506, t507, t508, t509, t510, t517, t520)) = some (r1, r2, r3, r4, r5, r6, r7) := H
 have A6 := Aside0.mk A60
 clear A60
 simp only [Option.some.injEq, Prod.mk.injEq] at H
 obtain ⟨rfl, rfl, rfl, rfl, rfl, rfl, rfl⟩ := H
 go_enter Try.func22, Try.ntmps22
 try go_wp2_with (first | (refine box_ (N := 2) (cs := #[.int .i64 0, .int .i64 0, .int .i64 0, .int .i64 0, .slice none 0 0]) (t := 36) ?_; intro gb501 hg w7 hbox hb; have BK501 := Aside0.mk (hbox); have GW501 := HB.g0 hg; have GE501 := HB.g0 hg; replace HB := HB.s0 hb; clear hb hbox hg) | (refine gl_ 9 Try.func47 #[.slice A0 l0.length c0] ?_; (with_reducible refine (spec_l01New.calls k _ _ l0 t502 t503 t504 w _ ?side1 ?side2 ?side3 A2.out).mono ?_); (case side1 => repeat (first | (with_reducible first | exact HB.out | apply below_alloc | apply pw_below_drewN | apply below_drew1 | refine below_set ?_ GE501.out) | exact HB.out)); (case side2 => exact HR0.out); (case side3 => exact HC0.out); rintro e w8 ⟨g505, rfl, hi, hb, hb2⟩; refine ⟨_, rfl, ?_⟩; replace HB := Aside0.mk (hb); have HI505 := Aside0.mk (hi); have NB505_501 := Aside0.mk (IsS94.ne_blk hi (blk_below (g := gb501) (o := .cells #[.int .i64 0, .int .i64 0, .int .i64 0, .int .i64 0, .slice none 0 0] 36 (0, 0)) (bk_ BK501.out) hb2) (by decide)); have NB501_505 := Aside0.mk (Ne.symm (IsS94.ne_blk hi (blk_below (g := gb501) (o := .cells #[.int .i64 0, .int .i64 0, .int .i64 0, .int .i64 0, .slice none 0 0] 36 (0, 0)) (bk_ BK501.out) hb2) (by decide))); replace BK501 := Aside0.mk (blk_below (g := gb501) (o := .cells #[.int .i64 0, .int .i64 0, .int .i64 0, .int .i64 0, .slice none 0 0] 36 (0, 0)) (bk_ BK501.out) hb2); (try clear hb); (try clear hb2); (try clear hi)) | (refine gl_ 11 Try.func48 #[.pointer (some ⟨g505, 0, none⟩)] ?_; (with_reducible refine (spec_l29Timed.calls k g505 t502 t503 t504 t506 t507 t508 t509 t510 t513 t514 w _ ?side1 ?side2 A3.out).mono ?_); (case side1 => repeat (first | (with_reducible first | exact HI505.out | apply IsS94.alloc | apply IsS94.drewN | apply IsS94.drew | apply IsS94.set_1 | apply IsS94.set_2 | refine IsS94.far ?_ NB505_501.out _) | exact HI505.out)); (case side2 => repeat (first | (with_reducible first | exact HB.out | apply below_alloc | apply pw_below_drewN | apply below_drew1 | refine below_set ?_ (IsS94.ge HI505.out) | refine below_set ?_ GE501.out) | exact HB.out)); rintro e w9 ⟨v511, rfl, ho0, hi, hb, hk⟩; refine ⟨_, rfl, ?_⟩; replace BK501 := Aside0.mk (KeepBut.blk hk (g' := gb501) (o := .cells #[.int .i64 0, .int .i64 0, .int .i64 0, .int .i64 0, .slice none 0 0] 36 (0, 0)) (bk_ BK501.out) NB501_505.out (by simp)); have HO512 := Aside0.mk (Kd.R_lower ho0 (below_size (by repeat (first | (with_reducible first | exact HB.out | apply below_alloc | apply pw_below_drewN | apply below_drew1 | refine below_set ?_ (IsS94.ge HI505.out) | refine below_set ?_ GE501.out) | exact HB.out)))); replace HB := Aside0.mk (hb); replace HI505 := Aside0.mk (hi)) | (refine box_ (N := 6) (cs := #[.int .i64 0, .int .i64 0, .int .i64 0, .int .i64 0, .slice none 0 0]) (t := 36) ?_; intro gb515 hg w10 hbox hb; have n0_ := HO512.kb hb; have n1_ := BK501.bb hb; have n2_ := Aside0.mk (IsS94.below (by repeat (first | (with_reducible first | exact HI505.out | apply IsS94.alloc | apply IsS94.drewN | apply IsS94.drew | apply IsS94.set_1 | apply IsS94.set_2 | refine IsS94.far ?_ NB505_501.out _) | exact HI505.out)) hb); have n3_ := Aside0.mk (below_step (by repeat (first | (with_reducible first | exact HB.out | apply below_alloc | apply pw_below_drewN | apply below_drew1 | refine below_set ?_ (IsS94.ge HI505.out) | refine below_set ?_ GE501.out) | exact HB.out)) hb); have n4_ := Aside0.mk (hbox); have n5_ := Aside0.mk ((by rw [hg]; exact (below_size (by repeat (first | (with_reducible first | exact HB.out | apply below_alloc | apply pw_below_drewN | apply below_drew1 | refine below_set ?_ (IsS94.ge HI505.out) | refine below_set ?_ GE501.out) | exact HB.out))) : w.heap.size ≤ gb515)); have n6_ := Aside0.mk ((by rw [hg]; exact (below_size (by repeat (first | (with_reducible first | exact HB.out | apply below_alloc | apply pw_below_drewN | apply below_drew1 | refine below_set ?_ (IsS94.ge HI505.out) | refine below_set ?_ GE501.out) | exact HB.out))) : w.heap.size ≤ gb515)); have n7_ := BK501.nl hg; have n8_ := BK501.nr hg; have n9_ := Aside0.mk ((by rw [hg]; exact Nat.ne_of_lt (IsS94.lt (show IsS94 w _ g505 t502 t513 t514 from by repeat (first | (with_reducible first | exact HI505.out | apply IsS94.alloc | apply IsS94.drewN | apply IsS94.drew | apply IsS94.set_1 | apply IsS94.set_2 | refine IsS94.far ?_ NB505_501.out _) | exact HI505.out))) : g505 ≠ gb515)); have n10_ := Aside0.mk ((by rw [hg]; exact Nat.ne_of_gt (IsS94.lt (show IsS94 w _ g505 t502 t513 t514 from by repeat (first | (with_reducible first | exact HI505.out | apply IsS94.alloc | apply IsS94.drewN | apply IsS94.drew | apply IsS94.set_1 | apply IsS94.set_2 | refine IsS94.far ?_ NB505_501.out _) | exact HI505.out))) : gb515 ≠ g505)); clear HO512; clear BK501; clear HI505; clear HB; have HO512 := n0_; have BK501 := n1_; have HI505 := n2_; have HB := n3_; have BK515 := n4_; have GW515 := n5_; have GE515 := n6_; have NB501_515 := n7_; have NB515_501 := n8_; have NB505_515 := n9_; have NB515_505 := n10_; clear n0_ n1_ n2_ n3_ n4_ n5_ n6_ n7_ n8_ n9_ n10_; clear hb hbox hg; have hnb11 := NB515_501.out; have hnc11 := NB501_515.out; have hnb12 := NB515_505.out; have hnc12 := NB505_515.out; obtain ⟨hcz13_0, hcz13_1, hcz13_2, hcz13_3, hcz13_4⟩ := cz5_ BK515.out; obtain ⟨hfz13_0, hfz13_1, hfz13_2, hfz13_3, hfz13_4⟩ := fz5_ BK515.out; obtain ⟨Ao14, co14, eo14⟩ := Kd.R_slice HO512.out; subst eo14) | (refine gl_ 15 Try.func43 #[.agg #[.int .i64 t506, .int .i64 t507]] ?_; (with_reducible refine (spec_CountCells.calls t506 t507 t516 _ A4.out).mono ?_); rintro e w15 ⟨rfl, hb⟩; refine ⟨_, rfl, ?_⟩; have n0_ := Aside0.mk (Kd.R_below (rq5_ HO512.out BK515.out) hb); have n1_ := Aside0.mk (blk_below (g := gb501) (o := .cells #[.int .i64 0, .int .i64 0, .int .i64 0, .int .i64 0, .slice none 0 0] 36 (0, 0)) (by (with_reducible repeat (first | refine blk_drewN ?_ _ | refine blk_drew ?_ | refine blk_alloc ?_ _)); refine blk_far ?_ NB501_515.out _; (with_reducible repeat (first | refine blk_drewN ?_ _ | refine blk_drew ?_ | refine blk_alloc ?_ _)); refine blk_far ?_ NB501_515.out _; (with_reducible repeat (first | refine blk_drewN ?_ _ | refine blk_drew ?_ | refine blk_alloc ?_ _)); refine blk_far ?_ NB501_515.out _; (with_reducible repeat (first | refine blk_drewN ?_ _ | refine blk_drew ?_ | refine blk_alloc ?_ _)); refine blk_far ?_ NB501_515.out _; (with_reducible repeat (first | refine blk_drewN ?_ _ | refine blk_drew ?_ | refine blk_alloc ?_ _)); refine blk_far ?_ NB501_515.out _; (with_reducible repeat (first | refine blk_drewN ?_ _ | refine blk_drew ?_ | refine blk_alloc ?_ _)); exact BK501.out) hb); have n2_ := Aside0.mk (IsS94.below (show IsS94 w (((((w10.setCell ⟨gb515, 0, none⟩ (.int .i64 t506)).setCell ⟨gb515, 1, none⟩ (.int .i64 t507)).setCell ⟨gb515, 2, none⟩ (.int .i64 t508)).setCell ⟨gb515, 3, none⟩ (.int .i64 t509)).setCell ⟨gb515, 4, none⟩ (.slice Ao14 t510.length co14)) g505 t502 t513 t514 from by repeat (first | (with_reducible first | exact HI505.out | apply IsS94.alloc | apply IsS94.drewN | apply IsS94.drew | apply IsS94.set_1 | apply IsS94.set_2 | refine IsS94.far ?_ NB505_501.out _ | refine IsS94.far ?_ NB505_515.out _) | exact HI505.out)) hb); have n3_ := Aside0.mk (blk_below (bq5_ BK515.out) hb); have n4_ := Aside0.mk (below_step (by repeat (first | (with_reducible first | exact HB.out | apply below_alloc | apply pw_below_drewN | apply below_drew1 | refine below_set ?_ (IsS94.ge HI505.out) | refine below_set ?_ GE501.out | refine below_set ?_ GE515.out) | exact HB.out)) hb); clear HO512; clear BK501; clear HI505; clear BK515; clear HB; have HO512 := n0_; have BK501 := n1_; have HI505 := n2_; have BK515 := n3_; have HB := n4_; clear n0_ n1_ n2_ n3_ n4_))
 replace HO512 := Aside0.mk (Kd.R_drew HO512.out)
 replace BK501 := Aside0.mk (blk_drew BK501.out)
 replace BK515 := Aside0.mk (blk_drew BK515.out)
 replace HI505 := Aside0.mk (IsS94.drew HI505.out)
 replace HB := Aside0.mk (below_drew1 HB.out)
 refine start_ (n := 10) (S := fun w' => w'.cell? ⟨gb515, 0, none⟩ = some (.int .i64 t506) ∧ w'.cell? ⟨gb515, 1, none⟩ = some (.int .i64 t507) ∧ w'.cell? ⟨gb515, 2, none⟩ = some (.int .i64 t508) ∧ w'.cell? ⟨gb515, 3, none⟩ = some (.int .i64 t509) ∧ w'.cell? ⟨gb515, 4, none⟩ = some (.slice Ao14 t510.length co14)) (ds := []) #[false, false, false, false, false, false, false, false, false, false] (by kernel_rfl) rfl rfl ⟨BK515.c 0, BK515.c 1, BK515.c 2, BK515.c 3, BK515.c 4⟩ (fun hHeld => ?_); refine with_tabW spec_DrawTimed.tab4 spec_DrawTimed.bits4 (fun HT_ HW_ => ?_)
 generalize w15.drew = w16 at HO512 BK501 BK515 HI505 HB hHeld ⊢
 refine pv_ (i := 1) (N := some 17) HT_.out ?_
 refine pv_ (i := 2) (N := some 18) HT_.out ?_
 refine pv_ (i := 4) (N := some 20) HT_.out ?_
 refine pv_ (i := 5) (N := some 21) HT_.out ?_
 refine tv5_ (i := 0) (N := some 16) HT_.out HW_.out hHeld ?_
 refine ov_ (i := 3) (N := some 19) HT_.out (fun K hK => ?_)
 refine gq_ Try.func49 #[.pointer (some ⟨g505, 0, none⟩), .int .i64 t516] ?_
 with_reducible refine (spec_l01Below.calls g505 t502 t513 t514 t516 t517 t518 t519 w _ ?side1 ?side2 A5.out).mono ?_
 (case side1 => repeat (first | (with_reducible first | exact HI505.out | apply IsS94.alloc | apply IsS94.drewN | apply IsS94.drew | apply IsS94.set_1 | apply IsS94.set_2 | refine IsS94.far ?_ NB505_501.out _ | refine IsS94.far ?_ NB505_515.out _) | exact HI505.out))
 (case side2 => repeat (first | (with_reducible first | exact HB.out | apply below_alloc | apply pw_below_drewN | apply below_drew1 | refine below_set ?_ (IsS94.ge HI505.out) | refine below_set ?_ GE501.out | refine below_set ?_ GE515.out) | exact HB.out))
 rintro e w17 ⟨rfl, hi, hb, hk⟩
 refine ⟨_, rfl, ?_⟩
 replace BK501 := Aside0.mk (KeepBut.blk hk (g' := gb501) (o := .cells #[.int .i64 0, .int .i64 0, .int .i64 0, .int .i64 0, .slice none 0 0] 36 (0, 0)) (bk_ BK501.out) NB501_505.out (by simp))
 replace HO512 := Aside0.mk (Kd.R_mono (Kd.R_keep (IsS94.apart (show IsS94 w _ g505 t502 t513 t514 from by repeat (first | (with_reducible first | exact HI505.out | apply IsS94.alloc | apply IsS94.drewN | apply IsS94.drew | apply IsS94.set_1 | apply IsS94.set_2 | refine IsS94.far ?_ NB505_501.out _ | refine IsS94.far ?_ NB505_515.out _) | exact HI505.out)) (kr_ HO512.out) (by decide)) hk (fun _ h => h.2)) (fun _ h => h.1))
 replace BK515 := Aside0.mk (KeepBut.blk hk (g' := gb515) (o := .cells #[.int .i64 t506, .int .i64 t507, .int .i64 t508, .int .i64 t509, .slice Ao14 t510.length co14] 36 (0, 0)) (bk_ BK515.out) NB515_505.out (by simp))
 replace HB := Aside0.mk (hb)
 replace HI505 := Aside0.mk (hi)
 skip
 (try clear hb2)
 (try clear hk)
 (try clear hi)
 refine hK.out _ _ ⟨BK515.c 0, BK515.c 1, BK515.c 2, BK515.c 3, BK515.c 4⟩ (fun hHeld => ?_)
 clear hK K
 refine nm_ ?_
 refine ov_ (i := 6) (N := some 22) HT_.out (fun K hK => ?_)
 refine gq_ Try.func49 #[.pointer (some ⟨g505, 0, none⟩), .int .i64 t516] ?_
 with_reducible refine (spec_l01Below.calls g505 t502 t518 t519 t516 t520 t521 t522 w _ ?side1 ?side2 A6.out).mono ?_
 (case side1 => repeat (first | (with_reducible first | exact HI505.out | apply IsS94.alloc | apply IsS94.drewN | apply IsS94.drew | apply IsS94.set_1 | apply IsS94.set_2 | refine IsS94.far ?_ NB505_501.out _ | refine IsS94.far ?_ NB505_515.out _) | exact HI505.out))
 (case side2 => repeat (first | (with_reducible first | exact HB.out | apply below_alloc | apply pw_below_drewN | apply below_drew1 | refine below_set ?_ (IsS94.ge HI505.out) | refine below_set ?_ GE501.out | refine below_set ?_ GE515.out) | exact HB.out))
 rintro e w18 ⟨rfl, hi, hb, hk⟩
 refine ⟨_, rfl, ?_⟩
 replace BK501 := Aside0.mk (KeepBut.blk hk (g' := gb501) (o := .cells #[.int .i64 0, .int .i64 0, .int .i64 0, .int .i64 0, .slice none 0 0] 36 (0, 0)) (bk_ BK501.out) NB501_505.out (by simp))
 replace HO512 := Aside0.mk (Kd.R_mono (Kd.R_keep (IsS94.apart (show IsS94 w _ g505 t502 t518 t519 from by repeat (first | (with_reducible first | exact HI505.out | apply IsS94.alloc | apply IsS94.drewN | apply IsS94.drew | apply IsS94.set_1 | apply IsS94.set_2 | refine IsS94.far ?_ NB505_501.out _ | refine IsS94.far ?_ NB505_515.out _) | exact HI505.out)) (kr_ HO512.out) (by decide)) hk (fun _ h => h.2)) (fun _ h => h.1))
 replace BK515 := Aside0.mk (KeepBut.blk hk (g' := gb515) (o := .cells #[.int .i64 t506, .int .i64 t507, .int .i64 t508, .int .i64 t509, .slice Ao14 t510.length co14] 36 (0, 0)) (bk_ BK515.out) NB515_505.out (by simp))
 replace HB := Aside0.mk (hb)
 replace HI505 := Aside0.mk (hi)
 skip
 (try clear hb2)
 (try clear hk)
 (try clear hi)
 refine hK.out _ _ ⟨BK515.c 0, BK515.c 1, BK515.c 2, BK515.c 3, BK515.c 4⟩ (fun hHeld => ?_)
 clear hK K
 refine nm_ ?_
 refine one_ (i := 7) (N := none) #[true, true, true, true, true, true, true, true, false, false] rfl rfl (one_of HT_.out (by kernel_rfl)) (by decide) (fun K hK => ?_)
 have hs19 : w18.cell? ⟨gb501, 0, none⟩ = some (.int .i64 0) := BK501.c 0
 have hfs19 := blk_frozen BK501.out 0
 have hns19_1 := NB515_501.out
 have hms19_1 := NB501_515.out
 have hs20 : w18.cell? ⟨gb501, 1, none⟩ = some (.int .i64 0) := BK501.c 1
 have hfs20 := blk_frozen BK501.out 1
 have hns20_1 := NB515_501.out
 have hms20_1 := NB501_515.out
 have hs21 : w18.cell? ⟨gb501, 2, none⟩ = some (.int .i64 0) := BK501.c 2
 have hfs21 := blk_frozen BK501.out 2
 have hns21_1 := NB515_501.out
 have hms21_1 := NB501_515.out
 have hs22 : w18.cell? ⟨gb501, 3, none⟩ = some (.int .i64 0) := BK501.c 3
 have hfs22 := blk_frozen BK501.out 3
 have hns22_1 := NB515_501.out
 have hms22_1 := NB501_515.out
 have hs23 : w18.cell? ⟨gb501, 4, none⟩ = some (.slice none 0 0) := BK501.c 4
 have hfs23 := blk_frozen BK501.out 4
 have hns23_1 := NB515_501.out
 have hms23_1 := NB501_515.out
 refine skip_ (w1 := ?_) (by rfl) rfl ?_ ?_
 rotate_left
 ·go_simp
  rfl
 refine hK.out _ _ ⟨((cell_far (p := ⟨gb501, _, none⟩) NB515_501.out _).trans (((cell_far (p := ⟨gb501, _, none⟩) NB515_501.out _).trans (((cell_far (p := ⟨gb501, _, none⟩) NB515_501.out _).trans (((cell_far (p := ⟨gb501, _, none⟩) NB515_501.out _).trans (((cell_far (p := ⟨gb501, _, none⟩) NB515_501.out _).trans (hHeld.1)))))))))), ((cell_far (p := ⟨gb501, _, none⟩) NB515_501.out _).trans (((cell_far (p := ⟨gb501, _, none⟩) NB515_501.out _).trans (((cell_far (p := ⟨gb501, _, none⟩) NB515_501.out _).trans (((cell_far (p := ⟨gb501, _, none⟩) NB515_501.out _).trans (((cell_far (p := ⟨gb501, _, none⟩) NB515_501.out _).trans (hHeld.2.1)))))))))), ((cell_far (p := ⟨gb501, _, none⟩) NB515_501.out _).trans (((cell_far (p := ⟨gb501, _, none⟩) NB515_501.out _).trans (((cell_far (p := ⟨gb501, _, none⟩) NB515_501.out _).trans (((cell_far (p := ⟨gb501, _, none⟩) NB515_501.out _).trans (((cell_far (p := ⟨gb501, _, none⟩) NB515_501.out _).trans (hHeld.2.2.1)))))))))), ((cell_far (p := ⟨gb501, _, none⟩) NB515_501.out _).trans (((cell_far (p := ⟨gb501, _, none⟩) NB515_501.out _).trans (((cell_far (p := ⟨gb501, _, none⟩) NB515_501.out _).trans (((cell_far (p := ⟨gb501, _, none⟩) NB515_501.out _).trans (((cell_far (p := ⟨gb501, _, none⟩) NB515_501.out _).trans (hHeld.2.2.2.1)))))))))), ((cell_far (p := ⟨gb501, _, none⟩) NB515_501.out _).trans (((cell_far (p := ⟨gb501, _, none⟩) NB515_501.out _).trans (((cell_far (p := ⟨gb501, _, none⟩) NB515_501.out _).trans (((cell_far (p := ⟨gb501, _, none⟩) NB515_501.out _).trans (((cell_far (p := ⟨gb501, _, none⟩) NB515_501.out _).trans (hHeld.2.2.2.2))))))))))⟩ (fun hHeld => ?_)
 clear hK K
 refine pv_ (i := 8) (N := some 3) HT_.out ?_
 refine pv_ (i := 9) (N := some 4) HT_.out ?_
 refine done_ (done_of HT_.out (by kernel_rfl)) ?_
 try go_wp2
 refine bodyPost_ret (results_ctt rfl _ _ gb501 36 #[.int .i64 t506, .int .i64 t507, .int .i64 t508, .int .i64 t509, .slice Ao14 t510.length co14] (0, 0) _ rfl (bq5_ BK501.out) Try.underlying36 rfl (by kernel_rfl)) rfl ?_
 exact ⟨_, ex_, by (with_reducible repeat (first | apply Kd.R_alloc | apply Kd.R_drewN | apply Kd.R_drew)); exact Kd.R_mono (Kd.R_far (p := ⟨gb501, 4, none⟩) (Kd.R_far (p := ⟨gb501, 3, none⟩) (Kd.R_far (p := ⟨gb501, 2, none⟩) (Kd.R_far (p := ⟨gb501, 1, none⟩) (Kd.R_far (p := ⟨gb501, 0, none⟩) (Kd.R_types HO512.out BK501.out (by decide)) (fun _ hk => hk.2) (.int .i64 t506)) (fun _ hk => hk.2) (.int .i64 t507)) (fun _ hk => hk.2) (.int .i64 t508)) (fun _ hk => hk.2) (.int .i64 t509)) (fun _ hk => hk.2) (.slice Ao14 t510.length co14)) (fun _ hk => trivial), by repeat (first | (with_reducible first | exact HB.out | apply below_alloc | apply pw_below_drewN | apply below_drew1 | refine below_set ?_ (IsS94.ge HI505.out) | refine below_set ?_ GE501.out | refine below_set ?_ GE515.out) | exact HB.out)⟩

end Go.Proofs.Ytlfomjhjeknnmaa.X
