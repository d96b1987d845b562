-- Written by a program of this session (xprint.py), out of the translation and of hand-written contracts. Lean checks it.
import Derived.Test.YtnfclfpicemojaaX0
import Derived.Test.YtnfclfpicemojaaXspecl01Below
import Derived.Test.YtnfclfpicemojaaXspecl01New
import Derived.Test.YtnfclfpicemojaaXspecl22Wish
namespace Go.Proofs.Ytnfclfpicemojaa.X
open Go.RowKit Go.Proofs.YtnfclfpicemojaaW.PrintWords Go.Proofs.YtnfclfpicemojaaW.PrintLast Go.Proofs.YtnfclfpicemojaaW.PrintMore
attribute [local go_sem] max2_int min2_int max_two min_two max_three min_three max_four min_four   -- for this text's walks alone
set_option linter.unusedVariables false
set_option linter.unusedSimpArgs false

/-! ### spec_DrawWish: function 5 -/
def spec_DrawWish.f (k : Nat) (l0 : List Int) : Option (Int × Int × Int × Int × Int × Int) := (spec_l01New.f k l0).bind fun bt503 => ((spec_l01Below.f bt503.1 bt503.2.1 bt503.2.2 3).bind fun bt507 => ((spec_l01Below.f bt503.1 bt507.2.1 bt507.2.2 3).bind fun bt510 => ((spec_l22Wish.f bt503.1 bt510.2.1 bt510.2.2 (wrap64 (1 + bt507.1)) (wrap64 (1 + bt510.1))).bind fun bt514 => (some (wrap64 (1 + bt507.1), wrap64 (1 + bt510.1), bt514.1, bt514.2.1, bt514.2.2.1, bt514.2.2.2.1)))))
theorem spec_DrawWish.mono : ∀ a0 k, LeO (spec_DrawWish.f k a0) (spec_DrawWish.f (k + 1) a0) := by
 intro a0 k
 unfold spec_DrawWish.f
 repeat' first
   | (with_reducible exact spec_l01New.mono ..)
   | (with_reducible first | exact lr_ _ | exact ln_ _ | refine li_ ?_ ?_ | refine lb_ ?_ fun _ => ?_)
   | exact spec_l01New.mono ..
   | exact ln_ _ | refine li_ ?_ ?_ | refine lb_ ?_ fun _ => ?_
set_option maxHeartbeats 8000000 in
set_option maxRecDepth 100000 in
theorem spec_DrawWish.calls (k : Nat) (A0 : Option Addr) (c0 : Nat) (l0 : List Int) (r1 : Int) (r2 : Int) (r3 : Int) (r4 : Int) (r5 : Int) (r6 : Int) (w : World) (hr0 : Kd.C (Kd.int .u8) w A0 l0.length l0) (hc0 : l0.length ≤ c0) (h : spec_DrawWish.f k l0 = some (r1, r2, r3, r4, r5, r6)) :
  Calls Try.prog 5 #[.slice A0 l0.length c0] w fun e w' => e = .returned (.tuple #[.agg #[.int .i64 r1, .int .i64 r2], .agg #[.int .i64 r3, .int .i64 r4, .int .i64 r5, .int .i64 r6]]) ∧ Below w.heap.size w w' := by
 have hu25 := Try.underlying25
 have hu27 := Try.underlying27
 have HR0 := Aside0.mk hr0
 have HC0 := Aside0.mk hc0
 clear hr0 hc0
 have HB := Aside0.mk (Below.refl w.heap.size w)
 have H : ((spec_l01New.f k l0).bind fun bt503 => ((spec_l01Below.f bt503.1 bt503.2.1 bt503.2.2 3).bind fun bt507 => ((spec_l01Below.f bt503.1 bt507.2.1 bt507.2.2 3).bind fun bt510 => ((spec_l22Wish.f bt503.1 bt510.2.1 bt510.2.2 (wrap64 (1 + bt507.1)) (wrap64 (1 + bt510.1))).bind fun bt514 => (some (wrap64 (1 + bt507.1), wrap64 (1 + bt510.1), bt514.1, bt514.2.1, bt514.2.2.1, bt514.2.2.2.1)))))) = some (r1, r2, r3, r4, r5, r6) := h
 clear h
 replace H := Option.bind_eq_some_iff.mp H
 obtain ⟨⟨t503, t504, t505⟩, A20, H⟩ := H
 replace H : ((spec_l01Below.f t503 t504 t505 3).bind fun bt507 => ((spec_l01Below.f t503 bt507.2.1 bt507.2.2 3).bind fun bt510 => ((spec_l22Wish.f t503 bt510.2.1 bt510.2.2 (wrap64 (1 + bt507.1)) (wrap64 (1 + bt510.1))).bind fun bt514 => (some (wrap64 (1 + bt507.1), wrap64 (1 + bt510.1), bt514.1, bt514.2.1, bt514.2.2.1, bt514.2.2.2.1))))) = some (r1, r2, r3, r4, r5, r6) := H
 have A2 := Aside0.mk A20
 clear A20
 replace H := Option.bind_eq_some_iff.mp H
 obtain ⟨⟨t507, t508, t509⟩, A30, H⟩ := H
 replace H : ((spec_l01Below.f t503 t508 t509 3).bind fun bt510 => ((spec_l22Wish.f t503 bt510.2.1 bt510.2.2 (wrap64 (1 + t507)) (wrap64 (1 + bt510.1))).bind fun bt514 => (some (wrap64 (1 + t507), wrap64 (1 + bt510.1), bt514.1, bt514.2.1, bt514.2.2.1, bt514.2.2.2.1)))) = some (r1, r2, r3, r4, r5, r6) := H
 have A3 := Aside0.mk A30
 clear A30
 replace H := Option.bind_eq_some_iff.mp H
 obtain ⟨⟨t510, t511, t512⟩, A40, H⟩ := H
 replace H : ((spec_l22Wish.f t503 t511 t512 (wrap64 (1 + t507)) (wrap64 (1 + t510))).bind fun bt514 => (some (wrap64 (1 + t507), wrap64 (1 + t510), bt514.1, bt514.2.1, bt514.2.2.1, bt514.2.2.2.1))) = some (r1, r2, r3, r4, r5, r6) := H
 have A4 := Aside0.mk A40
 clear A40
 replace H := Option.bind_eq_some_iff.mp H
 obtain ⟨⟨t514, t515, t516, t517, t518, t519⟩, A50, H⟩ := H
 replace H : (some (wrap64 (1 + t507), wrap64 (1 + t510), t514, t515, t516, t517)) = some (r1, r2, r3, r4, r5, r6) := H
 have A5 := Aside0.mk A50
 clear A50
 simp only [Option.some.injEq, Prod.mk.injEq] at H
 obtain ⟨rfl, rfl, rfl, rfl, rfl, rfl⟩ := H
 go_enter Try.func5, Try.ntmps5
 try go_wp2_with (first | (refine box_ (N := 2) (cs := #[.int .i64 0, .int .i64 0]) (t := 25) ?_; intro gb501 hg w6 hbox hb; have BK501 := Aside0.mk (hbox); have GW501 := HB.g0 hg; have GE501 := HB.g0 hg; replace HB := HB.s0 hb; clear hb hbox hg) | (refine box_ (N := 3) (cs := #[.int .i64 0, .int .i64 0, .int .i64 0, .int .i64 0]) (t := 27) ?_; intro gb502 hg w7 hbox hb; have BK502 := Aside0.mk (hbox); have GW502 := HB.g1 GE501 hg; have GE502 := HB.g1 GE501 hg; replace HB := HB.s1 GE501 hb; have NB501_502 := BK501.nl hg; have NB502_501 := BK501.nr hg; replace BK501 := BK501.bb hb; clear hb hbox hg) | (refine gl_ 7 Try.func13 #[.slice A0 l0.length c0] ?_; (with_reducible refine (spec_l01New.calls k _ _ l0 t503 t504 t505 w _ ?side1 ?side2 ?side3 A2.out).mono ?_); (case side1 => repeat (first | (with_reducible first | exact HB.out | apply below_alloc | apply pw_below_drewN | apply below_drew1 | refine below_set ?_ GE501.out | refine below_set ?_ GE502.out) | exact HB.out)); (case side2 => exact HR0.out); (case side3 => exact HC0.out); rintro e w8 ⟨g506, rfl, hi, hb, hb2⟩; refine ⟨_, rfl, ?_⟩; replace HB := Aside0.mk (hb); have HI506 := Aside0.mk (hi); have NB506_501 := Aside0.mk (IsS57.ne_blk hi (blk_below (g := gb501) (o := .cells #[.int .i64 0, .int .i64 0] 25 (0, 0)) (bk_ BK501.out) hb2) (by decide)); have NB501_506 := Aside0.mk (Ne.symm (IsS57.ne_blk hi (blk_below (g := gb501) (o := .cells #[.int .i64 0, .int .i64 0] 25 (0, 0)) (bk_ BK501.out) hb2) (by decide))); replace BK501 := Aside0.mk (blk_below (g := gb501) (o := .cells #[.int .i64 0, .int .i64 0] 25 (0, 0)) (bk_ BK501.out) hb2); have NB506_502 := Aside0.mk (IsS57.ne_blk hi (blk_below (g := gb502) (o := .cells #[.int .i64 0, .int .i64 0, .int .i64 0, .int .i64 0] 27 (0, 0)) (bk_ BK502.out) hb2) (by decide)); have NB502_506 := Aside0.mk (Ne.symm (IsS57.ne_blk hi (blk_below (g := gb502) (o := .cells #[.int .i64 0, .int .i64 0, .int .i64 0, .int .i64 0] 27 (0, 0)) (bk_ BK502.out) hb2) (by decide))); replace BK502 := Aside0.mk (blk_below (g := gb502) (o := .cells #[.int .i64 0, .int .i64 0, .int .i64 0, .int .i64 0] 27 (0, 0)) (bk_ BK502.out) hb2); (try clear hb); (try clear hb2); (try clear hi)) | (refine gl_ 9 Try.func14 #[.pointer (some ⟨g506, 0, none⟩), .int .i64 3] ?_; (with_reducible refine (spec_l01Below.calls g506 t503 t504 t505 3 t507 t508 t509 w _ ?side1 ?side2 A3.out).mono ?_); (case side1 => repeat (first | (with_reducible first | exact HI506.out | apply IsS57.alloc | apply IsS57.drewN | apply IsS57.drew | apply IsS57.set_1 | apply IsS57.set_2 | refine IsS57.far ?_ NB506_501.out _ | refine IsS57.far ?_ NB506_502.out _) | exact HI506.out)); (case side2 => repeat (first | (with_reducible first | exact HB.out | apply below_alloc | apply pw_below_drewN | apply below_drew1 | refine below_set ?_ (IsS57.ge HI506.out) | refine below_set ?_ GE501.out | refine below_set ?_ GE502.out) | exact HB.out)); rintro e w9 ⟨rfl, hi, hb, hk⟩; refine ⟨_, rfl, ?_⟩; replace BK501 := Aside0.mk (KeepBut.blk hk (g' := gb501) (o := .cells #[.int .i64 0, .int .i64 0] 25 (0, 0)) (bk_ BK501.out) NB501_506.out (by simp)); replace BK502 := Aside0.mk (KeepBut.blk hk (g' := gb502) (o := .cells #[.int .i64 0, .int .i64 0, .int .i64 0, .int .i64 0] 27 (0, 0)) (bk_ BK502.out) NB502_506.out (by simp)); replace HB := Aside0.mk (hb); replace HI506 := Aside0.mk (hi); (try clear hb); (try clear hk); (try clear hi)) | (refine gl_ 12 Try.func14 #[.pointer (some ⟨g506, 0, none⟩), .int .i64 3] ?_; (with_reducible refine (spec_l01Below.calls g506 t503 t508 t509 3 t510 t511 t512 w _ ?side1 ?side2 A4.out).mono ?_); (case side1 => repeat (first | (with_reducible first | exact HI506.out | apply IsS57.alloc | apply IsS57.drewN | apply IsS57.drew | apply IsS57.set_1 | apply IsS57.set_2 | refine IsS57.far ?_ NB506_501.out _ | refine IsS57.far ?_ NB506_502.out _) | exact HI506.out)); (case side2 => repeat (first | (with_reducible first | exact HB.out | apply below_alloc | apply pw_below_drewN | apply below_drew1 | refine below_set ?_ (IsS57.ge HI506.out) | refine below_set ?_ GE501.out | refine below_set ?_ GE502.out) | exact HB.out)); rintro e w10 ⟨rfl, hi, hb, hk⟩; refine ⟨_, rfl, ?_⟩; replace BK501 := Aside0.mk (KeepBut.blk hk (g' := gb501) (o := .cells #[.int .i64 0, .int .i64 0] 25 (0, 0)) (bk_ BK501.out) NB501_506.out (by simp)); replace BK502 := Aside0.mk (KeepBut.blk hk (g' := gb502) (o := .cells #[.int .i64 0, .int .i64 0, .int .i64 0, .int .i64 0] 27 (0, 0)) (bk_ BK502.out) NB502_506.out (by simp)); replace HB := Aside0.mk (hb); replace HI506 := Aside0.mk (hi); (try clear hb); (try clear hk); (try clear hi)) | (refine box_ (N := 5) (cs := #[.int .i64 0, .int .i64 0]) (t := 25) ?_; intro gb513 hg w11 hbox hb; have n0_ := BK501.bb hb; have n1_ := BK502.bb hb; have n2_ := Aside0.mk (IsS57.below (by repeat (first | (with_reducible first | exact HI506.out | apply IsS57.alloc | apply IsS57.drewN | apply IsS57.drew | apply IsS57.set_1 | apply IsS57.set_2 | refine IsS57.far ?_ NB506_501.out _ | refine IsS57.far ?_ NB506_502.out _) | exact HI506.out)) hb); have n3_ := Aside0.mk (below_step (by repeat (first | (with_reducible first | exact HB.out | apply below_alloc | apply pw_below_drewN | apply below_drew1 | refine below_set ?_ (IsS57.ge HI506.out) | refine below_set ?_ GE501.out | refine below_set ?_ GE502.out) | exact HB.out)) hb); have n4_ := Aside0.mk (hbox); have n5_ := Aside0.mk ((by rw [hg]; exact (below_size (by repeat (first | (with_reducible first | exact HB.out | apply below_alloc | apply pw_below_drewN | apply below_drew1 | refine below_set ?_ (IsS57.ge HI506.out) | refine below_set ?_ GE501.out | refine below_set ?_ GE502.out) | exact HB.out))) : w.heap.size ≤ gb513)); have n6_ := Aside0.mk ((by rw [hg]; exact (below_size (by repeat (first | (with_reducible first | exact HB.out | apply below_alloc | apply pw_below_drewN | apply below_drew1 | refine below_set ?_ (IsS57.ge HI506.out) | refine below_set ?_ GE501.out | refine below_set ?_ GE502.out) | exact HB.out))) : w.heap.size ≤ gb513)); have n7_ := BK501.nl hg; have n8_ := BK501.nr hg; have n9_ := BK502.nl hg; have n10_ := BK502.nr hg; have n11_ := Aside0.mk ((by rw [hg]; exact Nat.ne_of_lt (IsS57.lt (show IsS57 w _ g506 t503 t511 t512 from by repeat (first | (with_reducible first | exact HI506.out | apply IsS57.alloc | apply IsS57.drewN | apply IsS57.drew | apply IsS57.set_1 | apply IsS57.set_2 | refine IsS57.far ?_ NB506_501.out _ | refine IsS57.far ?_ NB506_502.out _) | exact HI506.out))) : g506 ≠ gb513)); have n12_ := Aside0.mk ((by rw [hg]; exact Nat.ne_of_gt (IsS57.lt (show IsS57 w _ g506 t503 t511 t512 from by repeat (first | (with_reducible first | exact HI506.out | apply IsS57.alloc | apply IsS57.drewN | apply IsS57.drew | apply IsS57.set_1 | apply IsS57.set_2 | refine IsS57.far ?_ NB506_501.out _ | refine IsS57.far ?_ NB506_502.out _) | exact HI506.out))) : gb513 ≠ g506)); clear BK501; clear BK502; clear HI506; clear HB; have BK501 := n0_; have BK502 := n1_; have HI506 := n2_; have HB := n3_; have BK513 := n4_; have GW513 := n5_; have GE513 := n6_; have NB501_513 := n7_; have NB513_501 := n8_; have NB502_513 := n9_; have NB513_502 := n10_; have NB506_513 := n11_; have NB513_506 := n12_; clear n0_ n1_ n2_ n3_ n4_ n5_ n6_ n7_ n8_ n9_ n10_ n11_ n12_; clear hb hbox hg; have hnb12 := NB513_501.out; have hnc12 := NB501_513.out; have hnb13 := NB513_502.out; have hnc13 := NB502_513.out; have hnb14 := NB513_506.out; have hnc14 := NB506_513.out; obtain ⟨hcz15_0, hcz15_1⟩ := cz2_ BK513.out; obtain ⟨hfz15_0, hfz15_1⟩ := fz2_ BK513.out))
 have n0_ : Aside0 (((w11.setCell ⟨gb513, 0, none⟩ (.int .i64 (wrap64 (1 + t507)))).setCell ⟨gb513, 1, none⟩ (.int .i64 (wrap64 (1 + t510)))).heap[gb501]? = some (.cells #[.int .i64 0, .int .i64 0] 25 (0, 0))) := ⟨by (with_reducible repeat (first | refine blk_drewN ?_ _ | refine blk_drew ?_ | refine blk_alloc ?_ _)); refine blk_far ?_ NB501_513.out _; (with_reducible repeat (first | refine blk_drewN ?_ _ | refine blk_drew ?_ | refine blk_alloc ?_ _)); refine blk_far ?_ NB501_513.out _; (with_reducible repeat (first | refine blk_drewN ?_ _ | refine blk_drew ?_ | refine blk_alloc ?_ _)); exact BK501.out⟩
 have n1_ : Aside0 (((w11.setCell ⟨gb513, 0, none⟩ (.int .i64 (wrap64 (1 + t507)))).setCell ⟨gb513, 1, none⟩ (.int .i64 (wrap64 (1 + t510)))).heap[gb502]? = some (.cells #[.int .i64 0, .int .i64 0, .int .i64 0, .int .i64 0] 27 (0, 0))) := ⟨by (with_reducible repeat (first | refine blk_drewN ?_ _ | refine blk_drew ?_ | refine blk_alloc ?_ _)); refine blk_far ?_ NB502_513.out _; (with_reducible repeat (first | refine blk_drewN ?_ _ | refine blk_drew ?_ | refine blk_alloc ?_ _)); refine blk_far ?_ NB502_513.out _; (with_reducible repeat (first | refine blk_drewN ?_ _ | refine blk_drew ?_ | refine blk_alloc ?_ _)); exact BK502.out⟩
 have n2_ : Aside0 (((w11.setCell ⟨gb513, 0, none⟩ (.int .i64 (wrap64 (1 + t507)))).setCell ⟨gb513, 1, none⟩ (.int .i64 (wrap64 (1 + t510)))).heap[gb513]? = some (.cells #[.int .i64 (wrap64 (1 + t507)), .int .i64 (wrap64 (1 + t510))] 25 (0, 0))) := ⟨bq2_ BK513.out⟩
 have n3_ : Aside0 (IsS57 w ((w11.setCell ⟨gb513, 0, none⟩ (.int .i64 (wrap64 (1 + t507)))).setCell ⟨gb513, 1, none⟩ (.int .i64 (wrap64 (1 + t510)))) g506 t503 t511 t512) := ⟨by repeat (first | (with_reducible first | exact HI506.out | apply IsS57.alloc | apply IsS57.drewN | apply IsS57.drew | apply IsS57.set_1 | apply IsS57.set_2 | refine IsS57.far ?_ NB506_501.out _ | refine IsS57.far ?_ NB506_502.out _ | refine IsS57.far ?_ NB506_513.out _) | exact HI506.out)⟩
 have n4_ : Aside0 (Below w.heap.size w ((w11.setCell ⟨gb513, 0, none⟩ (.int .i64 (wrap64 (1 + t507)))).setCell ⟨gb513, 1, none⟩ (.int .i64 (wrap64 (1 + t510))))) := ⟨by repeat (first | (with_reducible first | exact HB.out | apply below_alloc | apply pw_below_drewN | apply below_drew1 | refine below_set ?_ (IsS57.ge HI506.out) | refine below_set ?_ GE501.out | refine below_set ?_ GE502.out | refine below_set ?_ GE513.out) | exact HB.out)⟩
 (try clear BK501)
 (try clear BK502)
 (try clear BK513)
 (try clear HI506)
 (try clear HB)
 generalize ((w11.setCell ⟨gb513, 0, none⟩ (.int .i64 (wrap64 (1 + t507)))).setCell ⟨gb513, 1, none⟩ (.int .i64 (wrap64 (1 + t510)))) = w16 at n0_ n1_ n2_ n3_ n4_ ⊢
 have BK501 := n0_
 have BK502 := n1_
 have BK513 := n2_
 have HI506 := n3_
 have HB := n4_
 clear n0_ n1_ n2_ n3_ n4_
 replace BK501 := Aside0.mk (blk_drew BK501.out)
 replace BK502 := Aside0.mk (blk_drew BK502.out)
 replace BK513 := Aside0.mk (blk_drew BK513.out)
 replace HI506 := Aside0.mk (IsS57.drew HI506.out)
 replace HB := Aside0.mk (below_drew1 HB.out)
 refine start_ (n := 6) (S := fun w' => w'.cell? ⟨gb513, 0, none⟩ = some (.int .i64 (wrap64 (1 + t507))) ∧ w'.cell? ⟨gb513, 1, none⟩ = some (.int .i64 (wrap64 (1 + t510)))) (ds := []) #[false, false, false, false, false, false] (by kernel_rfl) rfl rfl ⟨BK513.c 0, BK513.c 1⟩ (fun hHeld => ?_)
 generalize w16.drew = w17 at BK501 BK502 BK513 HI506 HB hHeld ⊢
 refine pure_ (i := 1) (N := some 16) (v := ?_) (a' := ?_) #[false, true, false, false, false, false] rfl rfl (by kernel_rfl) (fun _ _ _ h => h) (Or.inl ⟨by rfl, ?_⟩) ?_ ?_
 rotate_left
 ·intro w'
  go_simp
  with_reducible rfl
 rotate_left
 ·simp only [Act.put, List.setIfInBounds_toArray, List.set_cons_zero, List.set_cons_succ, i64_w, i32_w]
  rfl
 refine take_ (i := 0) (N := some 15) (v := ?_) (a' := ?_) #[true, true, false, false, false, false] rfl rfl (by kernel_rfl) (fun _ _ _ h => h) (Or.inl ⟨by rfl, ?_⟩) hHeld ?_ ?_
 rotate_left
 ·rintro w' ⟨s0, s1⟩
  go_simp
  with_reducible rfl
 rotate_left
 ·simp only [Act.put, List.setIfInBounds_toArray, List.set_cons_zero, List.set_cons_succ, i64_w, i32_w]
  rfl
 refine take_ (i := 2) (N := some 17) (v := ?_) (a' := ?_) #[true, true, true, false, false, false] rfl rfl (by kernel_rfl) (fun _ _ _ h => h) (Or.inl ⟨by rfl, ?_⟩) hHeld ?_ ?_
 rotate_left
 ·rintro w' ⟨s0, s1⟩
  go_simp
  with_reducible rfl
 rotate_left
 ·simp only [Act.put, List.setIfInBounds_toArray, List.set_cons_zero, List.set_cons_succ, i64_w, i32_w]
  rfl
 refine one_ (i := 3) (N := some 18) #[true, true, true, true, false, false] rfl rfl (by kernel_rfl) (by decide) (fun K hK => ?_)
 refine gq_ Try.func15 #[.pointer (some ⟨g506, 0, none⟩), .agg #[.int .i64 (wrap64 (1 + t507)), .int .i64 (wrap64 (1 + t510))]] ?_
 with_reducible refine (spec_l22Wish.calls g506 t503 t511 t512 (wrap64 (1 + t507)) (wrap64 (1 + t510)) t514 t515 t516 t517 t518 t519 w _ ?side1 ?side2 A5.out).mono ?_
 (case side1 => repeat (first | (with_reducible first | exact HI506.out | apply IsS57.alloc | apply IsS57.drewN | apply IsS57.drew | apply IsS57.set_1 | apply IsS57.set_2 | refine IsS57.far ?_ NB506_501.out _ | refine IsS57.far ?_ NB506_502.out _ | refine IsS57.far ?_ NB506_513.out _) | exact HI506.out))
 (case side2 => repeat (first | (with_reducible first | exact HB.out | apply below_alloc | apply pw_below_drewN | apply below_drew1 | refine below_set ?_ (IsS57.ge HI506.out) | refine below_set ?_ GE501.out | refine below_set ?_ GE502.out | refine below_set ?_ GE513.out) | exact HB.out))
 rintro e w18 ⟨rfl, hi, hb, hk⟩
 refine ⟨_, rfl, ?_⟩
 replace BK501 := Aside0.mk (KeepBut.blk hk (g' := gb501) (o := .cells #[.int .i64 0, .int .i64 0] 25 (0, 0)) (bk_ BK501.out) NB501_506.out (by simp))
 replace BK502 := Aside0.mk (KeepBut.blk hk (g' := gb502) (o := .cells #[.int .i64 0, .int .i64 0, .int .i64 0, .int .i64 0] 27 (0, 0)) (bk_ BK502.out) NB502_506.out (by simp))
 replace BK513 := Aside0.mk (KeepBut.blk hk (g' := gb513) (o := .cells #[.int .i64 (wrap64 (1 + t507)), .int .i64 (wrap64 (1 + t510))] 25 (0, 0)) (bk_ BK513.out) NB513_506.out (by simp))
 replace HB := Aside0.mk (hb)
 replace HI506 := Aside0.mk (hi)
 skip
 (try clear hb2)
 (try clear hk)
 (try clear hi)
 refine hK.out _ _ ⟨BK513.c 0, BK513.c 1⟩ (fun hHeld => ?_)
 clear hK K
 refine nm_ ?_
 refine one_ (i := 4) (N := none) #[true, true, true, true, true, false] rfl rfl (by kernel_rfl) (by decide) (fun K hK => ?_)
 have hs19 : w18.cell? ⟨gb501, 0, none⟩ = some (.int .i64 0) := BK501.c 0
 have hfs19 := blk_frozen BK501.out 0
 have hns19_1 := NB502_501.out
 have hns19_2 := NB513_501.out
 have hms19_1 := NB501_502.out
 have hms19_2 := NB501_513.out
 have hs20 : w18.cell? ⟨gb501, 1, none⟩ = some (.int .i64 0) := BK501.c 1
 have hfs20 := blk_frozen BK501.out 1
 have hns20_1 := NB502_501.out
 have hns20_2 := NB513_501.out
 have hms20_1 := NB501_502.out
 have hms20_2 := NB501_513.out
 refine skip_ (w1 := ?_) (by rfl) rfl ?_ ?_
 rotate_left
 ·go_simp
  rfl
 refine hK.out _ _ ⟨((cell_far (p := ⟨gb501, _, none⟩) NB513_501.out _).trans (((cell_far (p := ⟨gb501, _, none⟩) NB513_501.out _).trans (hHeld.1)))), ((cell_far (p := ⟨gb501, _, none⟩) NB513_501.out _).trans (((cell_far (p := ⟨gb501, _, none⟩) NB513_501.out _).trans (hHeld.2))))⟩ (fun hHeld => ?_)
 clear hK K
 refine one_ (i := 5) (N := none) #[true, true, true, true, true, true] rfl rfl (by kernel_rfl) (by decide) (fun K hK => ?_)
 have hs21 : w18.cell? ⟨gb502, 0, none⟩ = some (.int .i64 0) := BK502.c 0
 have hfs21 := blk_frozen BK502.out 0
 have hns21_0 := NB501_502.out
 have hns21_2 := NB513_502.out
 have hms21_0 := NB502_501.out
 have hms21_2 := NB502_513.out
 have hs22 : w18.cell? ⟨gb502, 1, none⟩ = some (.int .i64 0) := BK502.c 1
 have hfs22 := blk_frozen BK502.out 1
 have hns22_0 := NB501_502.out
 have hns22_2 := NB513_502.out
 have hms22_0 := NB502_501.out
 have hms22_2 := NB502_513.out
 have hs23 : w18.cell? ⟨gb502, 2, none⟩ = some (.int .i64 0) := BK502.c 2
 have hfs23 := blk_frozen BK502.out 2
 have hns23_0 := NB501_502.out
 have hns23_2 := NB513_502.out
 have hms23_0 := NB502_501.out
 have hms23_2 := NB502_513.out
 have hs24 : w18.cell? ⟨gb502, 3, none⟩ = some (.int .i64 0) := BK502.c 3
 have hfs24 := blk_frozen BK502.out 3
 have hns24_0 := NB501_502.out
 have hns24_2 := NB513_502.out
 have hms24_0 := NB502_501.out
 have hms24_2 := NB502_513.out
 refine skip_ (w1 := ?_) (by rfl) rfl ?_ ?_
 rotate_left
 ·go_simp
  rfl
 refine hK.out _ _ ⟨((cell_far (p := ⟨gb502, _, none⟩) NB513_502.out _).trans (((cell_far (p := ⟨gb502, _, none⟩) NB513_502.out _).trans (((cell_far (p := ⟨gb502, _, none⟩) NB513_502.out _).trans (((cell_far (p := ⟨gb502, _, none⟩) NB513_502.out _).trans (hHeld.1)))))))), ((cell_far (p := ⟨gb502, _, none⟩) NB513_502.out _).trans (((cell_far (p := ⟨gb502, _, none⟩) NB513_502.out _).trans (((cell_far (p := ⟨gb502, _, none⟩) NB513_502.out _).trans (((cell_far (p := ⟨gb502, _, none⟩) NB513_502.out _).trans (hHeld.2))))))))⟩ (fun hHeld => ?_)
 clear hK K
 refine done_ (by kernel_rfl) ?_
 try go_wp2
 refine bodyPost_ret (results_cc rfl _ _ gb501 gb502 25 27 #[.int .i64 (wrap64 (1 + t507)), .int .i64 (wrap64 (1 + t510))] #[.int .i64 t514, .int .i64 t515, .int .i64 t516, .int .i64 t517] (0, 0) (0, 0) _ _ rfl (by (with_reducible repeat (first | refine blk_drewN ?_ _ | refine blk_drew ?_ | refine blk_alloc ?_ _)); refine blk_far ?_ NB501_502.out _; (with_reducible repeat (first | refine blk_drewN ?_ _ | refine blk_drew ?_ | refine blk_alloc ?_ _)); refine blk_far ?_ NB501_502.out _; (with_reducible repeat (first | refine blk_drewN ?_ _ | refine blk_drew ?_ | refine blk_alloc ?_ _)); refine blk_far ?_ NB501_502.out _; (with_reducible repeat (first | refine blk_drewN ?_ _ | refine blk_drew ?_ | refine blk_alloc ?_ _)); refine blk_far ?_ NB501_502.out _; (with_reducible repeat (first | refine blk_drewN ?_ _ | refine blk_drew ?_ | refine blk_alloc ?_ _)); refine blk_put (cs := #[.int .i64 (wrap64 (1 + t507)), .int .i64 0]) ?_ 1 _ rfl; (with_reducible repeat (first | refine blk_drewN ?_ _ | refine blk_drew ?_ | refine blk_alloc ?_ _)); refine blk_put (cs := #[.int .i64 0, .int .i64 0]) ?_ 0 _ rfl; (with_reducible repeat (first | refine blk_drewN ?_ _ | refine blk_drew ?_ | refine blk_alloc ?_ _)); exact BK501.out) Try.underlying25 rfl (by kernel_rfl) rfl (by (with_reducible repeat (first | refine blk_drewN ?_ _ | refine blk_drew ?_ | refine blk_alloc ?_ _)); refine blk_put (cs := #[.int .i64 t514, .int .i64 t515, .int .i64 t516, .int .i64 0]) ?_ 3 _ rfl; (with_reducible repeat (first | refine blk_drewN ?_ _ | refine blk_drew ?_ | refine blk_alloc ?_ _)); refine blk_put (cs := #[.int .i64 t514, .int .i64 t515, .int .i64 0, .int .i64 0]) ?_ 2 _ rfl; (with_reducible repeat (first | refine blk_drewN ?_ _ | refine blk_drew ?_ | refine blk_alloc ?_ _)); refine blk_put (cs := #[.int .i64 t514, .int .i64 0, .int .i64 0, .int .i64 0]) ?_ 1 _ rfl; (with_reducible repeat (first | refine blk_drewN ?_ _ | refine blk_drew ?_ | refine blk_alloc ?_ _)); refine blk_put (cs := #[.int .i64 0, .int .i64 0, .int .i64 0, .int .i64 0]) ?_ 0 _ rfl; (with_reducible repeat (first | refine blk_drewN ?_ _ | refine blk_drew ?_ | refine blk_alloc ?_ _)); refine blk_far ?_ NB502_501.out _; (with_reducible repeat (first | refine blk_drewN ?_ _ | refine blk_drew ?_ | refine blk_alloc ?_ _)); refine blk_far ?_ NB502_501.out _; (with_reducible repeat (first | refine blk_drewN ?_ _ | refine blk_drew ?_ | refine blk_alloc ?_ _)); exact BK502.out) Try.underlying27 rfl (by kernel_rfl)) rfl ?_
 exact ⟨ex_, by repeat (first | (with_reducible first | exact HB.out | apply below_alloc | apply pw_below_drewN | apply below_drew1 | refine below_set ?_ (IsS57.ge HI506.out) | refine below_set ?_ GE501.out | refine below_set ?_ GE502.out | refine below_set ?_ GE513.out) | exact HB.out)⟩

end Go.Proofs.Ytnfclfpicemojaa.X
