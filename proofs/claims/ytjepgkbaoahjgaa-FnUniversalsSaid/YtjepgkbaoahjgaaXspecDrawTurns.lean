-- Written by a program of this session (xprint.py), out of the translation and of hand-written contracts. Lean checks it.
import Derived.Test.YtjepgkbaoahjgaaX0
import Derived.Test.YtjepgkbaoahjgaaXspecl01Below
import Derived.Test.YtjepgkbaoahjgaaXspecl01New
import Derived.Test.YtjepgkbaoahjgaaXspecl26List
namespace Go.Proofs.Ytjepgkbaoahjgaa.X
open Go.RowKit Go.Proofs.YtjepgkbaoahjgaaW.PrintWords Go.Proofs.YtjepgkbaoahjgaaW.PrintLast Go.Proofs.YtjepgkbaoahjgaaW.PrintMore
attribute [local go_sem] max2_int min2_int max_two min_two max_three min_three max_four min_four   -- for this text's walks alone
set_option linter.unusedVariables false
set_option linter.unusedSimpArgs false

/-! ### spec_DrawTurns: function 5 -/
def spec_DrawTurns.f (k : Nat) (l0 : List Int) : Option (Int × Int × List Int) := (spec_l01New.f k l0).bind fun bt502 => ((spec_l01Below.f bt502.1 bt502.2.1 bt502.2.2 3).bind fun bt506 => ((spec_l01Below.f bt502.1 bt506.2.1 bt506.2.2 2).bind fun bt509 => ((spec_l26List.f k bt502.1 bt509.2.1 bt509.2.2).bind fun bt513 => (some (wrap64 (1 + bt506.1), wrap64 (1 + bt509.1), bt513.1)))))
theorem spec_DrawTurns.mono : ∀ a0 k, LeO (spec_DrawTurns.f k a0) (spec_DrawTurns.f (k + 1) a0) := by
 intro a0 k
 unfold spec_DrawTurns.f
 repeat' first
   | (with_reducible exact spec_l01New.mono ..)
   | (with_reducible exact spec_l26List.mono ..)
   | (with_reducible first | exact lr_ _ | exact ln_ _ | refine li_ ?_ ?_ | refine lb_ ?_ fun _ => ?_)
   | exact spec_l01New.mono ..
   | exact spec_l26List.mono ..
   | exact ln_ _ | refine li_ ?_ ?_ | refine lb_ ?_ fun _ => ?_
set_option maxHeartbeats 8000000 in
set_option maxRecDepth 100000 in
theorem spec_DrawTurns.calls (k : Nat) (A0 : Option Addr) (c0 : Nat) (l0 : List Int) (r1 : Int) (r2 : Int) (r3 : List Int) (w : World) (hr0 : Kd.C (Kd.int .u8) w A0 l0.length l0) (hc0 : l0.length ≤ c0) (h : spec_DrawTurns.f k l0 = some (r1, r2, r3)) :
  Calls Try.prog 5 #[.slice A0 l0.length c0] w fun e w' => ∃ v2_ : Value, e = .returned (.tuple #[.agg #[.int .i64 r1, .int .i64 r2], v2_]) ∧ Kd.R (Kd.int .i64) 3 w' w.heap.size (fun _ => True) v2_ r3 ∧ Below w.heap.size w w' := by
 have hu25 := Try.underlying25
 have HR0 := Aside0.mk hr0
 have HC0 := Aside0.mk hc0
 clear hr0 hc0
 have HB := Aside0.mk (Below.refl w.heap.size w)
 have H : ((spec_l01New.f k l0).bind fun bt502 => ((spec_l01Below.f bt502.1 bt502.2.1 bt502.2.2 3).bind fun bt506 => ((spec_l01Below.f bt502.1 bt506.2.1 bt506.2.2 2).bind fun bt509 => ((spec_l26List.f k bt502.1 bt509.2.1 bt509.2.2).bind fun bt513 => (some (wrap64 (1 + bt506.1), wrap64 (1 + bt509.1), bt513.1)))))) = some (r1, r2, r3) := h
 clear h
 replace H := Option.bind_eq_some_iff.mp H
 obtain ⟨⟨t502, t503, t504⟩, A20, H⟩ := H
 replace H : ((spec_l01Below.f t502 t503 t504 3).bind fun bt506 => ((spec_l01Below.f t502 bt506.2.1 bt506.2.2 2).bind fun bt509 => ((spec_l26List.f k t502 bt509.2.1 bt509.2.2).bind fun bt513 => (some (wrap64 (1 + bt506.1), wrap64 (1 + bt509.1), bt513.1))))) = some (r1, r2, r3) := H
 have A2 := Aside0.mk A20
 clear A20
 replace H := Option.bind_eq_some_iff.mp H
 obtain ⟨⟨t506, t507, t508⟩, A30, H⟩ := H
 replace H : ((spec_l01Below.f t502 t507 t508 2).bind fun bt509 => ((spec_l26List.f k t502 bt509.2.1 bt509.2.2).bind fun bt513 => (some (wrap64 (1 + t506), wrap64 (1 + bt509.1), bt513.1)))) = some (r1, r2, r3) := H
 have A3 := Aside0.mk A30
 clear A30
 replace H := Option.bind_eq_some_iff.mp H
 obtain ⟨⟨t509, t510, t511⟩, A40, H⟩ := H
 replace H : ((spec_l26List.f k t502 t510 t511).bind fun bt513 => (some (wrap64 (1 + t506), wrap64 (1 + t509), bt513.1))) = some (r1, r2, r3) := H
 have A4 := Aside0.mk A40
 clear A40
 replace H := Option.bind_eq_some_iff.mp H
 obtain ⟨⟨t513, t516, t517⟩, A50, H⟩ := H
 replace H : (some (wrap64 (1 + t506), wrap64 (1 + t509), t513)) = some (r1, r2, r3) := H
 have A5 := Aside0.mk A50
 clear A50
 simp only [Option.some.injEq, Prod.mk.injEq] at H
 obtain ⟨rfl, rfl, rfl⟩ := H
 go_enter Try.func5, Try.ntmps5
 try go_wp2_with (first | (refine box_ (N := 2) (cs := #[.int .i64 0, .int .i64 0]) (t := 25) ?_; intro gb501 hg w6 hbox hb; have BK501 := Aside0.mk (hbox); have GW501 := HB.g0 hg; have GE501 := HB.g0 hg; replace HB := HB.s0 hb; clear hb hbox hg) | (refine gl_ 7 Try.func15 #[.slice A0 l0.length c0] ?_; (with_reducible refine (spec_l01New.calls k _ _ l0 t502 t503 t504 w _ ?side1 ?side2 ?side3 A2.out).mono ?_); (case side1 => repeat (first | (with_reducible first | exact HB.out | apply below_alloc | apply pw_below_drewN | apply below_drew1 | refine below_set ?_ GE501.out) | exact HB.out)); (case side2 => exact HR0.out); (case side3 => exact HC0.out); rintro e w7 ⟨g505, rfl, hi, hb, hb2⟩; refine ⟨_, rfl, ?_⟩; replace HB := Aside0.mk (hb); have HI505 := Aside0.mk (hi); have NB505_501 := Aside0.mk (IsS66.ne_blk hi (blk_below (g := gb501) (o := .cells #[.int .i64 0, .int .i64 0] 25 (0, 0)) (bk_ BK501.out) hb2) (by decide)); have NB501_505 := Aside0.mk (Ne.symm (IsS66.ne_blk hi (blk_below (g := gb501) (o := .cells #[.int .i64 0, .int .i64 0] 25 (0, 0)) (bk_ BK501.out) hb2) (by decide))); replace BK501 := Aside0.mk (blk_below (g := gb501) (o := .cells #[.int .i64 0, .int .i64 0] 25 (0, 0)) (bk_ BK501.out) hb2); (try clear hb); (try clear hb2); (try clear hi)) | (refine gl_ 9 Try.func16 #[.pointer (some ⟨g505, 0, none⟩), .int .i64 3] ?_; (with_reducible refine (spec_l01Below.calls g505 t502 t503 t504 3 t506 t507 t508 w _ ?side1 ?side2 A3.out).mono ?_); (case side1 => repeat (first | (with_reducible first | exact HI505.out | apply IsS66.alloc | apply IsS66.drewN | apply IsS66.drew | apply IsS66.set_1 | apply IsS66.set_2 | refine IsS66.far ?_ NB505_501.out _) | exact HI505.out)); (case side2 => repeat (first | (with_reducible first | exact HB.out | apply below_alloc | apply pw_below_drewN | apply below_drew1 | refine below_set ?_ (IsS66.ge HI505.out) | refine below_set ?_ GE501.out) | exact HB.out)); rintro e w8 ⟨rfl, hi, hb, hk⟩; refine ⟨_, rfl, ?_⟩; replace BK501 := Aside0.mk (KeepBut.blk hk (g' := gb501) (o := .cells #[.int .i64 0, .int .i64 0] 25 (0, 0)) (bk_ BK501.out) NB501_505.out (by simp)); replace HB := Aside0.mk (hb); replace HI505 := Aside0.mk (hi); (try clear hb); (try clear hk); (try clear hi)) | (refine gl_ 12 Try.func16 #[.pointer (some ⟨g505, 0, none⟩), .int .i64 2] ?_; (with_reducible refine (spec_l01Below.calls g505 t502 t507 t508 2 t509 t510 t511 w _ ?side1 ?side2 A4.out).mono ?_); (case side1 => repeat (first | (with_reducible first | exact HI505.out | apply IsS66.alloc | apply IsS66.drewN | apply IsS66.drew | apply IsS66.set_1 | apply IsS66.set_2 | refine IsS66.far ?_ NB505_501.out _) | exact HI505.out)); (case side2 => repeat (first | (with_reducible first | exact HB.out | apply below_alloc | apply pw_below_drewN | apply below_drew1 | refine below_set ?_ (IsS66.ge HI505.out) | refine below_set ?_ GE501.out) | exact HB.out)); rintro e w9 ⟨rfl, hi, hb, hk⟩; refine ⟨_, rfl, ?_⟩; replace BK501 := Aside0.mk (KeepBut.blk hk (g' := gb501) (o := .cells #[.int .i64 0, .int .i64 0] 25 (0, 0)) (bk_ BK501.out) NB501_505.out (by simp)); replace HB := Aside0.mk (hb); replace HI505 := Aside0.mk (hi); (try clear hb); (try clear hk); (try clear hi)) | (refine box_ (N := 5) (cs := #[.int .i64 0, .int .i64 0]) (t := 25) ?_; intro gb512 hg w10 hbox hb; have n0_ := BK501.bb hb; have n1_ := Aside0.mk (IsS66.below (by repeat (first | (with_reducible first | exact HI505.out | apply IsS66.alloc | apply IsS66.drewN | apply IsS66.drew | apply IsS66.set_1 | apply IsS66.set_2 | refine IsS66.far ?_ NB505_501.out _) | exact HI505.out)) hb); have n2_ := Aside0.mk (below_step (by repeat (first | (with_reducible first | exact HB.out | apply below_alloc | apply pw_below_drewN | apply below_drew1 | refine below_set ?_ (IsS66.ge HI505.out) | refine below_set ?_ GE501.out) | exact HB.out)) hb); have n3_ := Aside0.mk (hbox); have n4_ := Aside0.mk ((by rw [hg]; exact (below_size (by repeat (first | (with_reducible first | exact HB.out | apply below_alloc | apply pw_below_drewN | apply below_drew1 | refine below_set ?_ (IsS66.ge HI505.out) | refine below_set ?_ GE501.out) | exact HB.out))) : w.heap.size ≤ gb512)); have n5_ := Aside0.mk ((by rw [hg]; exact (below_size (by repeat (first | (with_reducible first | exact HB.out | apply below_alloc | apply pw_below_drewN | apply below_drew1 | refine below_set ?_ (IsS66.ge HI505.out) | refine below_set ?_ GE501.out) | exact HB.out))) : w.heap.size ≤ gb512)); have n6_ := BK501.nl hg; have n7_ := BK501.nr hg; have n8_ := Aside0.mk ((by rw [hg]; exact Nat.ne_of_lt (IsS66.lt (show IsS66 w _ g505 t502 t510 t511 from by repeat (first | (with_reducible first | exact HI505.out | apply IsS66.alloc | apply IsS66.drewN | apply IsS66.drew | apply IsS66.set_1 | apply IsS66.set_2 | refine IsS66.far ?_ NB505_501.out _) | exact HI505.out))) : g505 ≠ gb512)); have n9_ := Aside0.mk ((by rw [hg]; exact Nat.ne_of_gt (IsS66.lt (show IsS66 w _ g505 t502 t510 t511 from by repeat (first | (with_reducible first | exact HI505.out | apply IsS66.alloc | apply IsS66.drewN | apply IsS66.drew | apply IsS66.set_1 | apply IsS66.set_2 | refine IsS66.far ?_ NB505_501.out _) | exact HI505.out))) : gb512 ≠ g505)); clear BK501; clear HI505; clear HB; have BK501 := n0_; have HI505 := n1_; have HB := n2_; have BK512 := n3_; have GW512 := n4_; have GE512 := n5_; have NB501_512 := n6_; have NB512_501 := n7_; have NB505_512 := n8_; have NB512_505 := n9_; clear n0_ n1_ n2_ n3_ n4_ n5_ n6_ n7_ n8_ n9_; clear hb hbox hg; have hnb11 := NB512_501.out; have hnc11 := NB501_512.out; have hnb12 := NB512_505.out; have hnc12 := NB505_512.out; obtain ⟨hcz13_0, hcz13_1⟩ := cz2_ BK512.out; obtain ⟨hfz13_0, hfz13_1⟩ := fz2_ BK512.out))
 have n0_ : Aside0 (((w10.setCell ⟨gb512, 0, none⟩ (.int .i64 (wrap64 (1 + t506)))).setCell ⟨gb512, 1, none⟩ (.int .i64 (wrap64 (1 + t509)))).heap[gb501]? = some (.cells #[.int .i64 0, .int .i64 0] 25 (0, 0))) := ⟨by (with_reducible repeat (first | refine blk_drewN ?_ _ | refine blk_drew ?_ | refine blk_alloc ?_ _)); refine blk_far ?_ NB501_512.out _; (with_reducible repeat (first | refine blk_drewN ?_ _ | refine blk_drew ?_ | refine blk_alloc ?_ _)); refine blk_far ?_ NB501_512.out _; (with_reducible repeat (first | refine blk_drewN ?_ _ | refine blk_drew ?_ | refine blk_alloc ?_ _)); exact BK501.out⟩
 have n1_ : Aside0 (((w10.setCell ⟨gb512, 0, none⟩ (.int .i64 (wrap64 (1 + t506)))).setCell ⟨gb512, 1, none⟩ (.int .i64 (wrap64 (1 + t509)))).heap[gb512]? = some (.cells #[.int .i64 (wrap64 (1 + t506)), .int .i64 (wrap64 (1 + t509))] 25 (0, 0))) := ⟨bq2_ BK512.out⟩
 have n2_ : Aside0 (IsS66 w ((w10.setCell ⟨gb512, 0, none⟩ (.int .i64 (wrap64 (1 + t506)))).setCell ⟨gb512, 1, none⟩ (.int .i64 (wrap64 (1 + t509)))) g505 t502 t510 t511) := ⟨by repeat (first | (with_reducible first | exact HI505.out | apply IsS66.alloc | apply IsS66.drewN | apply IsS66.drew | apply IsS66.set_1 | apply IsS66.set_2 | refine IsS66.far ?_ NB505_501.out _ | refine IsS66.far ?_ NB505_512.out _) | exact HI505.out)⟩
 have n3_ : Aside0 (Below w.heap.size w ((w10.setCell ⟨gb512, 0, none⟩ (.int .i64 (wrap64 (1 + t506)))).setCell ⟨gb512, 1, none⟩ (.int .i64 (wrap64 (1 + t509))))) := ⟨by repeat (first | (with_reducible first | exact HB.out | apply below_alloc | apply pw_below_drewN | apply below_drew1 | refine below_set ?_ (IsS66.ge HI505.out) | refine below_set ?_ GE501.out | refine below_set ?_ GE512.out) | exact HB.out)⟩
 (try clear BK501)
 (try clear BK512)
 (try clear HI505)
 (try clear HB)
 generalize ((w10.setCell ⟨gb512, 0, none⟩ (.int .i64 (wrap64 (1 + t506)))).setCell ⟨gb512, 1, none⟩ (.int .i64 (wrap64 (1 + t509)))) = w14 at n0_ n1_ n2_ n3_ ⊢
 have BK501 := n0_
 have BK512 := n1_
 have HI505 := n2_
 have HB := n3_
 clear n0_ n1_ n2_ n3_
 replace BK501 := Aside0.mk (blk_drew BK501.out)
 replace BK512 := Aside0.mk (blk_drew BK512.out)
 replace HI505 := Aside0.mk (IsS66.drew HI505.out)
 replace HB := Aside0.mk (below_drew1 HB.out)
 refine start_ (n := 5) (S := fun w' => w'.cell? ⟨gb512, 0, none⟩ = some (.int .i64 (wrap64 (1 + t506))) ∧ w'.cell? ⟨gb512, 1, none⟩ = some (.int .i64 (wrap64 (1 + t509)))) (ds := []) #[false, false, false, false, false] (by kernel_rfl) rfl rfl ⟨BK512.c 0, BK512.c 1⟩ (fun hHeld => ?_)
 generalize w14.drew = w15 at BK501 BK512 HI505 HB hHeld ⊢
 refine pure_ (i := 1) (N := some 16) (v := ?_) (a' := ?_) #[false, true, false, false, false] rfl rfl (by kernel_rfl) (fun _ _ _ h => h) (Or.inl ⟨by rfl, ?_⟩) ?_ ?_
 rotate_left
 ·intro w'
  go_simp
  with_reducible rfl
 rotate_left
 ·simp only [Act.put, List.setIfInBounds_toArray, List.set_cons_zero, List.set_cons_succ, i64_w, i32_w]
  rfl
 refine take_ (i := 0) (N := some 15) (v := ?_) (a' := ?_) #[true, true, false, false, false] rfl rfl (by kernel_rfl) (fun _ _ _ h => h) (Or.inl ⟨by rfl, ?_⟩) hHeld ?_ ?_
 rotate_left
 ·rintro w' ⟨s0, s1⟩
  go_simp
  with_reducible rfl
 rotate_left
 ·simp only [Act.put, List.setIfInBounds_toArray, List.set_cons_zero, List.set_cons_succ, i64_w, i32_w]
  rfl
 refine one_ (i := 2) (N := some 17) #[true, true, true, false, false] rfl rfl (by kernel_rfl) (by decide) (fun K hK => ?_)
 refine gq_ Try.func17 #[.pointer (some ⟨g505, 0, none⟩)] ?_
 with_reducible refine (spec_l26List.calls k g505 t502 t510 t511 t513 t516 t517 w _ ?side1 ?side2 A5.out).mono ?_
 (case side1 => repeat (first | (with_reducible first | exact HI505.out | apply IsS66.alloc | apply IsS66.drewN | apply IsS66.drew | apply IsS66.set_1 | apply IsS66.set_2 | refine IsS66.far ?_ NB505_501.out _ | refine IsS66.far ?_ NB505_512.out _) | exact HI505.out))
 (case side2 => repeat (first | (with_reducible first | exact HB.out | apply below_alloc | apply pw_below_drewN | apply below_drew1 | refine below_set ?_ (IsS66.ge HI505.out) | refine below_set ?_ GE501.out | refine below_set ?_ GE512.out) | exact HB.out))
 rintro e w16 ⟨v514, rfl, ho0, hi, hb, hk⟩
 refine ⟨_, rfl, ?_⟩
 replace BK501 := Aside0.mk (KeepBut.blk hk (g' := gb501) (o := .cells #[.int .i64 0, .int .i64 0] 25 (0, 0)) (bk_ BK501.out) NB501_505.out (by simp))
 replace BK512 := Aside0.mk (KeepBut.blk hk (g' := gb512) (o := .cells #[.int .i64 (wrap64 (1 + t506)), .int .i64 (wrap64 (1 + t509))] 25 (0, 0)) (bk_ BK512.out) NB512_505.out (by simp))
 have HO515 := Aside0.mk (Kd.R_lower ho0 (below_size (by repeat (first | (with_reducible first | exact HB.out | apply below_alloc | apply pw_below_drewN | apply below_drew1 | refine below_set ?_ (IsS66.ge HI505.out) | refine below_set ?_ GE501.out | refine below_set ?_ GE512.out) | exact HB.out))))
 replace HB := Aside0.mk (hb)
 replace HI505 := Aside0.mk (hi)
 skip
 (try clear hb2)
 (try clear hk)
 (try clear hi)
 (try clear ho0)
 refine hK.out _ _ ⟨BK512.c 0, BK512.c 1⟩ (fun hHeld => ?_)
 clear hK K
 refine nm_ ?_
 refine one_ (i := 3) (N := none) #[true, true, true, true, false] rfl rfl (by kernel_rfl) (by decide) (fun K hK => ?_)
 have hs17 : w16.cell? ⟨gb501, 0, none⟩ = some (.int .i64 0) := BK501.c 0
 have hfs17 := blk_frozen BK501.out 0
 have hns17_1 := NB512_501.out
 have hms17_1 := NB501_512.out
 have hs18 : w16.cell? ⟨gb501, 1, none⟩ = some (.int .i64 0) := BK501.c 1
 have hfs18 := blk_frozen BK501.out 1
 have hns18_1 := NB512_501.out
 have hms18_1 := NB501_512.out
 refine skip_ (w1 := ?_) (by rfl) rfl ?_ ?_
 rotate_left
 ·go_simp
  rfl
 refine hK.out _ _ ⟨((cell_far (p := ⟨gb501, _, none⟩) NB512_501.out _).trans (((cell_far (p := ⟨gb501, _, none⟩) NB512_501.out _).trans (hHeld.1)))), ((cell_far (p := ⟨gb501, _, none⟩) NB512_501.out _).trans (((cell_far (p := ⟨gb501, _, none⟩) NB512_501.out _).trans (hHeld.2))))⟩ (fun hHeld => ?_)
 clear hK K
 refine pure_ (i := 4) (N := some 3) (v := ?_) (a' := ?_) #[true, true, true, true, true] rfl rfl (by kernel_rfl) (fun _ _ _ h => h) (Or.inl ⟨by rfl, ?_⟩) ?_ ?_
 rotate_left
 ·intro w'
  go_simp
  with_reducible rfl
 rotate_left
 ·simp only [Act.put, List.setIfInBounds_toArray, List.set_cons_zero, List.set_cons_succ, i64_w, i32_w]
  rfl
 refine done_ (by kernel_rfl) ?_
 try go_wp2
 refine bodyPost_ret (results_ct rfl _ _ gb501 25 #[.int .i64 (wrap64 (1 + t506)), .int .i64 (wrap64 (1 + t509))] (0, 0) _ rfl (bq2_ BK501.out) Try.underlying25 rfl (by kernel_rfl)) rfl ?_
 exact ⟨_, ex_, by (with_reducible repeat (first | apply Kd.R_alloc | apply Kd.R_drewN | apply Kd.R_drew)); exact Kd.R_mono (Kd.R_far (p := ⟨gb501, 1, none⟩) (Kd.R_far (p := ⟨gb501, 0, none⟩) (Kd.R_types HO515.out BK501.out (by decide)) (fun _ hk => hk.2) (.int .i64 (wrap64 (1 + t506)))) (fun _ hk => hk.2) (.int .i64 (wrap64 (1 + t509)))) (fun _ hk => trivial), by repeat (first | (with_reducible first | exact HB.out | apply below_alloc | apply pw_below_drewN | apply below_drew1 | refine below_set ?_ (IsS66.ge HI505.out) | refine below_set ?_ GE501.out | refine below_set ?_ GE512.out) | exact HB.out)⟩

end Go.Proofs.Ytjepgkbaoahjgaa.X
