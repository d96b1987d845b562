-- Written by a program of this session (xprint.py), out of the translation and of hand-written contracts. Lean checks it.
import Derived.Test.YtekgbinadmjapaaX0
import Derived.Test.YtekgbinadmjapaaXspecl28Copy
namespace Go.Proofs.Ytekgbinadmjapaa.X
open Go.RowKit Go.Proofs.YtekgbinadmjapaaW.PrintWords Go.Proofs.YtekgbinadmjapaaW.PrintLast Go.Proofs.YtekgbinadmjapaaW.PrintMore
attribute [local go_sem] max2_int min2_int max_two min_two max_three min_three max_four min_four   -- for this text's walks alone
set_option linter.unusedVariables false
set_option linter.unusedSimpArgs false

/-! ### spec_l30Copy: function 72 -/
def spec_l30Copy.f (a0_0 : Int) (a0_1 : Int) (a0_2 : Int) (l0_3 : List Int) (a0_4 : Int) : Option (Int × Int × Int × List Int × Int) := (spec_l28Copy.f l0_3).bind fun t503 => (some (a0_0, a0_1, a0_2, t503, a0_4))
def spec_l30Copy.T1 : Bool × List (List Nat × List Nat) := (true, [([], []), ([0], [0]), ([], []), ([2], [2]), ([3], [3]), ([], []), ([5], [5]), ([1, 4, 6], [1, 4, 6]), ([7, 4, 0, 1, 2, 3, 4, 5, 6, 7], [7])])
def spec_l30Copy.B1 : List Nat := [0, 1, 0, 4, 12, 0, 32, 127, 255]
theorem spec_l30Copy.tab1 : rtab .any (opsOf Try.f72 1) = spec_l30Copy.T1 := by kernel_rfl
theorem spec_l30Copy.bits1 : waitsOk spec_l30Copy.T1.2 spec_l30Copy.B1 = true := by kernel_rfl
set_option maxHeartbeats 8000000 in
set_option maxRecDepth 100000 in
theorem spec_l30Copy.calls (a0_0 : Int) (a0_1 : Int) (a0_2 : Int) (A0_3 : Option Addr) (c0_3 : Nat) (l0_3 : List Int) (a0_4 : Int) (r1 : Int) (r2 : Int) (r3 : Int) (r4 : List Int) (r5 : Int) (w : World) (hr0_3 : Kd.C (Kd.int .i64) w A0_3 l0_3.length l0_3) (hc0_3 : l0_3.length ≤ c0_3) (h : spec_l30Copy.f a0_0 a0_1 a0_2 l0_3 a0_4 = some (r1, r2, r3, r4, r5)) :
  Calls Try.prog 72 #[.agg #[.int .i64 a0_0, .int .i64 a0_1, .int .i64 a0_2, .slice A0_3 l0_3.length c0_3, .int .i64 a0_4]] w fun e w' => ∃ v3_ : Value, e = .returned (.agg #[.int .i64 r1, .int .i64 r2, .int .i64 r3, v3_, .int .i64 r5]) ∧ Kd.R (Kd.int .i64) 3 w' w.heap.size (fun _ => True) v3_ r4 ∧ Below w.heap.size w w' := by
 have hu35 := Try.underlying35
 have hu33 := Try.underlying33
 have HR0_3 := Aside0.mk hr0_3
 have HC0_3 := Aside0.mk hc0_3
 clear hr0_3 hc0_3
 have HB := Aside0.mk (Below.refl w.heap.size w)
 have H : ((spec_l28Copy.f l0_3).bind fun t503 => (some (a0_0, a0_1, a0_2, t503, a0_4))) = some (r1, r2, r3, r4, r5) := h
 clear h
 replace H := Option.bind_eq_some_iff.mp H
 obtain ⟨t503, A20, H⟩ := H
 replace H : (some (a0_0, a0_1, a0_2, t503, a0_4)) = some (r1, r2, r3, r4, r5) := H
 have A2 := Aside0.mk A20
 clear A20
 simp only [Option.some.injEq, Prod.mk.injEq] at H
 obtain ⟨rfl, rfl, rfl, rfl, rfl⟩ := H
 go_enter Try.func72, Try.ntmps72
 try go_wp2_with (first | ((with_reducible refine gate_dst (N := 1) rfl ?_); refine box_event ?hg (N := 1) ?hd (cs := #[.int .i64 a0_0, .int .i64 a0_1, .int .i64 a0_2, .slice A0_3 l0_3.length c0_3, .int .i64 a0_4]) (t := 35) ?hr ?_; (case hd => rfl); (case hg => rfl); (case hr => first | (go_simp; done) | (go_simp; rfl)); intro gb501 hg w3 hbox hb; have n0_ := Aside0.mk (below_step (hb0_ HB.out) hb); have n1_ := Aside0.mk (hbox); have n2_ := Aside0.mk (gs_ hg (hb0_ HB.out)); have n3_ := Aside0.mk (gs_ hg (hb0_ HB.out)); clear HB; have HB := n0_; have BK501 := n1_; have GW501 := n2_; have GE501 := n3_; clear n0_ n1_ n2_ n3_; clear hb hbox hg) | ((with_reducible refine gate_dst (N := 2) rfl ?_); refine box_event ?hg (N := 2) ?hd (cs := #[.int .i64 0, .int .i64 0, .int .i64 0, .slice none 0 0, .int .i64 0]) (t := 35) ?hr ?_; (case hd => rfl); (case hg => rfl); (case hr => first | (go_simp; done) | (go_simp; rfl)); intro gb502 hg w4 hbox hb; have n0_ := Aside0.mk (bb_ BK501.out hb); have n1_ := Aside0.mk (below_step (hb1_ HB.out GE501.out) hb); have n2_ := Aside0.mk (hbox); have n3_ := Aside0.mk (gs_ hg (hb1_ HB.out GE501.out)); have n4_ := Aside0.mk (gs_ hg (hb1_ HB.out GE501.out)); have n5_ := Aside0.mk (nl_ hg BK501.out); have n6_ := Aside0.mk (nr_ hg BK501.out); clear BK501; clear HB; have BK501 := n0_; have HB := n1_; have BK502 := n2_; have GW502 := n3_; have GE502 := n4_; have NB501_502 := n5_; have NB502_501 := n6_; clear n0_ n1_ n2_ n3_ n4_ n5_ n6_; clear hb hbox hg))
 replace BK501 := Aside0.mk (blk_drew BK501.out)
 replace BK502 := Aside0.mk (blk_drew BK502.out)
 replace HB := Aside0.mk (below_drew1 HB.out)
 refine start_ (n := 9) (S := fun w' => w'.cell? ⟨gb501, 0, none⟩ = some (.int .i64 a0_0) ∧ w'.cell? ⟨gb501, 1, none⟩ = some (.int .i64 a0_1) ∧ w'.cell? ⟨gb501, 2, none⟩ = some (.int .i64 a0_2) ∧ w'.cell? ⟨gb501, 3, none⟩ = some (.slice A0_3 l0_3.length c0_3) ∧ w'.cell? ⟨gb501, 4, none⟩ = some (.int .i64 a0_4)) (ds := []) #[false, false, false, false, false, false, false, false, false] (by kernel_rfl) rfl rfl ⟨(blk_cell BK501.out 0).trans rfl, (blk_cell BK501.out 1).trans rfl, (blk_cell BK501.out 2).trans rfl, (blk_cell BK501.out 3).trans rfl, (blk_cell BK501.out 4).trans rfl⟩ (fun hHeld => ?_); refine with_tabW spec_l30Copy.tab1 spec_l30Copy.bits1 (fun HT_ HW_ => ?_)
 generalize w4.drew = w5 at BK501 BK502 HB hHeld ⊢
 refine pv_ (i := 0) (N := some 3) HT_.out ?_
 refine pv_ (i := 2) (N := some 5) HT_.out ?_
 refine pv_ (i := 5) (N := some 8) HT_.out ?_
 refine tv5_ (i := 1) (N := some 4) HT_.out HW_.out hHeld ?_
 refine tv5_ (i := 3) (N := some 6) HT_.out HW_.out hHeld ?_
 refine tv5_ (i := 6) (N := some 9) HT_.out HW_.out hHeld ?_
 refine ov_ (i := 4) (N := some 7) HT_.out (fun K hK => ?_)
 refine goes_ Try.func113 (by kernel_rfl) rfl #[.slice A0_3 l0_3.length c0_3] (by rfl) rfl rfl (ml_) ?_
 with_reducible refine (spec_l28Copy.calls _ _ l0_3 t503 _ ?side1 ?side2 A2.out).mono ?_
 (case side1 => repeat (first | exact (Kd.C_below HR0_3.out HB.out) | (with_reducible refine Kd.C_alloc ?_ _) | (with_reducible refine Kd.C_drewN ?_ _) | (with_reducible refine Kd.C_drew ?_)))
 (case side2 => exact HC0_3.out)
 rintro e w6 ⟨v504, rfl, ho0, hb⟩
 refine ⟨_, rfl, ?_⟩
 have HO505 := Aside0.mk (Kd.R_lower ho0 (below_size (hb2_ HB.out GE501.out GE502.out)))
 replace BK501 := Aside0.mk (bb_ BK501.out hb)
 replace BK502 := Aside0.mk (bb_ BK502.out hb)
 replace HB := Aside0.mk (below_step (hb2_ HB.out GE501.out GE502.out) hb)
 (try clear hb)
 (try clear hb2)
 (try clear hk)
 (try clear hi)
 (try clear ho0)
 obtain ⟨Ao7, co7, eo7⟩ := Kd.R_slice HO505.out
 (first | subst eo7 | (injection eo7 with f1_ f2_ f3_; have f4_ := f1_.symm; have f5_ := f3_.symm; clear f1_ f2_ f3_; subst f4_; subst f5_))
 refine hK.out _ _ ⟨(blk_cell BK501.out 0).trans rfl, (blk_cell BK501.out 1).trans rfl, (blk_cell BK501.out 2).trans rfl, (blk_cell BK501.out 3).trans rfl, (blk_cell BK501.out 4).trans rfl⟩ (fun hHeld => ?_)
 clear hK K
 refine norm_ (a' := ?_) ?_ ?_
 rotate_left
 ·show Act.put _ (some 7) _ = _
  simp only [Act.put, List.setIfInBounds_toArray, List.set_cons_zero, List.set_cons_succ, i64_w, i32_w]
  rfl
 refine pv_ (i := 7) (N := some 10) HT_.out ?_
 refine one_ (i := 8) (N := none) #[true, true, true, true, true, true, true, true, true] rfl rfl (one_of HT_.out (by kernel_rfl)) (by decide) (fun K hK => ?_)
 have hs8 : w6.cell? ⟨gb502, 0, none⟩ = some (.int .i64 0) := (blk_cell BK502.out 0).trans rfl
 have hfs8 := blk_frozen BK502.out 0
 have hns8_0 := NB501_502.out
 have hms8_0 := NB502_501.out
 have hs9 : w6.cell? ⟨gb502, 1, none⟩ = some (.int .i64 0) := (blk_cell BK502.out 1).trans rfl
 have hfs9 := blk_frozen BK502.out 1
 have hns9_0 := NB501_502.out
 have hms9_0 := NB502_501.out
 have hs10 : w6.cell? ⟨gb502, 2, none⟩ = some (.int .i64 0) := (blk_cell BK502.out 2).trans rfl
 have hfs10 := blk_frozen BK502.out 2
 have hns10_0 := NB501_502.out
 have hms10_0 := NB502_501.out
 have hs11 : w6.cell? ⟨gb502, 3, none⟩ = some (.slice none 0 0) := (blk_cell BK502.out 3).trans rfl
 have hfs11 := blk_frozen BK502.out 3
 have hns11_0 := NB501_502.out
 have hms11_0 := NB502_501.out
 have hs12 : w6.cell? ⟨gb502, 4, none⟩ = some (.int .i64 0) := (blk_cell BK502.out 4).trans rfl
 have hfs12 := blk_frozen BK502.out 4
 have hns12_0 := NB501_502.out
 have hms12_0 := NB502_501.out
 refine skip_ (w1 := ?_) (by rfl) rfl ?_ ?_
 rotate_left
 ·go_simp
  rfl
 refine hK.out _ _ ⟨((cell_far (p := ⟨gb502, _, none⟩) NB501_502.out _).trans (((cell_far (p := ⟨gb502, _, none⟩) NB501_502.out _).trans (((cell_far (p := ⟨gb502, _, none⟩) NB501_502.out _).trans (((cell_far (p := ⟨gb502, _, none⟩) NB501_502.out _).trans (((cell_far (p := ⟨gb502, _, none⟩) NB501_502.out _).trans (hHeld.1)))))))))), ((cell_far (p := ⟨gb502, _, none⟩) NB501_502.out _).trans (((cell_far (p := ⟨gb502, _, none⟩) NB501_502.out _).trans (((cell_far (p := ⟨gb502, _, none⟩) NB501_502.out _).trans (((cell_far (p := ⟨gb502, _, none⟩) NB501_502.out _).trans (((cell_far (p := ⟨gb502, _, none⟩) NB501_502.out _).trans (hHeld.2.1)))))))))), ((cell_far (p := ⟨gb502, _, none⟩) NB501_502.out _).trans (((cell_far (p := ⟨gb502, _, none⟩) NB501_502.out _).trans (((cell_far (p := ⟨gb502, _, none⟩) NB501_502.out _).trans (((cell_far (p := ⟨gb502, _, none⟩) NB501_502.out _).trans (((cell_far (p := ⟨gb502, _, none⟩) NB501_502.out _).trans (hHeld.2.2.1)))))))))), ((cell_far (p := ⟨gb502, _, none⟩) NB501_502.out _).trans (((cell_far (p := ⟨gb502, _, none⟩) NB501_502.out _).trans (((cell_far (p := ⟨gb502, _, none⟩) NB501_502.out _).trans (((cell_far (p := ⟨gb502, _, none⟩) NB501_502.out _).trans (((cell_far (p := ⟨gb502, _, none⟩) NB501_502.out _).trans (hHeld.2.2.2.1)))))))))), ((cell_far (p := ⟨gb502, _, none⟩) NB501_502.out _).trans (((cell_far (p := ⟨gb502, _, none⟩) NB501_502.out _).trans (((cell_far (p := ⟨gb502, _, none⟩) NB501_502.out _).trans (((cell_far (p := ⟨gb502, _, none⟩) NB501_502.out _).trans (((cell_far (p := ⟨gb502, _, none⟩) NB501_502.out _).trans (hHeld.2.2.2.2))))))))))⟩ (fun hHeld => ?_)
 clear hK K
 refine done_ (done_of HT_.out (by kernel_rfl)) ?_
 try go_wp2
 refine bodyPost_ret (results_cell_row rfl _ _ gb502 35 #[.int .i64 a0_0, .int .i64 a0_1, .int .i64 a0_2, .slice Ao7 t503.length co7, .int .i64 a0_4] (0, 0) _ rfl (by (with_reducible repeat (first | refine blk_drewN ?_ _ | refine blk_drew ?_ | refine blk_alloc ?_ _)); refine blk_put (cs := #[.int .i64 a0_0, .int .i64 a0_1, .int .i64 a0_2, .slice Ao7 t503.length co7, .int .i64 0]) ?_ 4 _ rfl; (with_reducible repeat (first | refine blk_drewN ?_ _ | refine blk_drew ?_ | refine blk_alloc ?_ _)); refine blk_put (cs := #[.int .i64 a0_0, .int .i64 a0_1, .int .i64 a0_2, .slice none 0 0, .int .i64 0]) ?_ 3 _ rfl; (with_reducible repeat (first | refine blk_drewN ?_ _ | refine blk_drew ?_ | refine blk_alloc ?_ _)); refine blk_put (cs := #[.int .i64 a0_0, .int .i64 a0_1, .int .i64 0, .slice none 0 0, .int .i64 0]) ?_ 2 _ rfl; (with_reducible repeat (first | refine blk_drewN ?_ _ | refine blk_drew ?_ | refine blk_alloc ?_ _)); refine blk_put (cs := #[.int .i64 a0_0, .int .i64 0, .int .i64 0, .slice none 0 0, .int .i64 0]) ?_ 1 _ rfl; (with_reducible repeat (first | refine blk_drewN ?_ _ | refine blk_drew ?_ | refine blk_alloc ?_ _)); refine blk_put (cs := #[.int .i64 0, .int .i64 0, .int .i64 0, .slice none 0 0, .int .i64 0]) ?_ 0 _ rfl; (with_reducible repeat (first | refine blk_drewN ?_ _ | refine blk_drew ?_ | refine blk_alloc ?_ _)); exact BK502.out) Try.underlying35 rfl (by kernel_rfl)) rfl ?_
 exact ⟨_, by first | rfl | (simp [errW_none, errW_some] <;> rfl) | (simp [*, errW_none, errW_some] <;> rfl), by (with_reducible repeat (first | apply Kd.R_alloc | apply Kd.R_drewN | apply Kd.R_drew)); exact Kd.R_mono (Kd.R_far (p := ⟨gb502, 4, none⟩) (Kd.R_far (p := ⟨gb502, 3, none⟩) (Kd.R_far (p := ⟨gb502, 2, none⟩) (Kd.R_far (p := ⟨gb502, 1, none⟩) (Kd.R_far (p := ⟨gb502, 0, none⟩) (Kd.R_types HO505.out BK502.out (by decide)) (fun _ hk => hk.2) (.int .i64 a0_0)) (fun _ hk => hk.2) (.int .i64 a0_1)) (fun _ hk => hk.2) (.int .i64 a0_2)) (fun _ hk => hk.2) (.slice Ao7 t503.length co7)) (fun _ hk => hk.2) (.int .i64 a0_4)) (fun _ hk => trivial), hb2_ HB.out GE501.out GE502.out⟩

end Go.Proofs.Ytekgbinadmjapaa.X
