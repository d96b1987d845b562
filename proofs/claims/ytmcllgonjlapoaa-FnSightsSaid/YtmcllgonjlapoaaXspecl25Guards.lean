-- Written by a program of this session (xprint.py), out of the translation and of hand-written contracts. Lean checks it.
import Derived.Test.YtmcllgonjlapoaaX0
namespace Go.Proofs.Ytmcllgonjlapoaa.X
open Go.RowKit Go.Proofs.YtmcllgonjlapoaaW.PrintWords Go.Proofs.YtmcllgonjlapoaaW.PrintLast Go.Proofs.YtmcllgonjlapoaaW.PrintMore
attribute [local go_sem] max2_int min2_int max_two min_two max_three min_three max_four min_four   -- for this text's walks alone
set_option linter.unusedVariables false
set_option linter.unusedSimpArgs false

/-! ### spec_l25Guards: function 67 -/
mutual
def spec_l25Guards.l0 : Nat → List Int → Int → Int → Int → Int → Int → Int → Option (List Int × Bool)
 | 0, _, _, _, _, _, _, _ => none
 | k + 1, x1, x3, x4, x12, x502000, x502001, x502002 => if x12 < (x1.length : Int) then (if 0 ≤ x12 then ((spec_l25Guards.f k x502000 x502001 x502002 x1 (wrap64 (x12 + 1)) (wrap64 (x3 - 1)) (Go.bits .andNot .i64 x4 (rd x1 x12))).bind fun bt506 => (if bt506.2 = true then ((some (([x12] : List Int) : List Int)).bind fun y510 => (if y510.length + bt506.1.length < 17592186044416 then (some ((y510 ++ bt506.1), true)) else (none))) else (spec_l25Guards.l0 k x1 x3 x4 (wrap64 (x12 + 1)) x502000 x502001 x502002))) else (none)) else (some ((([] : List Int)), false))
def spec_l25Guards.f : Nat → Int → Int → Int → List Int → Int → Int → Int → Option (List Int × Bool)
 | 0, _, _, _, _, _, _, _ => none
 | k + 1, a0_0, a0_1, a0_2, l1, a2, a3, a4 => if a3 = 0 then (some ((([] : List Int)), (a4 == 0))) else (spec_l25Guards.l0 k l1 a3 a4 a2 a0_0 a0_1 a0_2)
end
theorem spec_l25Guards.mono_l : ∀ k, (∀ y0 y1 y2 y3 y4 y5 y6, LeO (spec_l25Guards.f k y0 y1 y2 y3 y4 y5 y6) (spec_l25Guards.f (k + 1) y0 y1 y2 y3 y4 y5 y6)) ∧ (∀ y0 y1 y2 y3 y4 y5 y6, LeO (spec_l25Guards.l0 k y0 y1 y2 y3 y4 y5 y6) (spec_l25Guards.l0 (k + 1) y0 y1 y2 y3 y4 y5 y6))
 | 0 => ⟨fun _ _ _ _ _ _ _ r h => by simp [spec_l25Guards.f] at h, fun _ _ _ _ _ _ _ r h => by simp [spec_l25Guards.l0] at h⟩
 | k + 1 => by
  obtain ⟨ih0, ih1⟩ := spec_l25Guards.mono_l k
  refine ⟨?_, ?_⟩
  ·intro y0 y1 y2 y3 y4 y5 y6
   unfold spec_l25Guards.f
   repeat' first
   | (with_reducible exact ih0 ..)
   | (with_reducible exact ih1 ..)
   | (with_reducible first | exact lr_ _ | exact ln_ _ | refine li_ ?_ ?_ | refine lb_ ?_ fun _ => ?_)
   | exact ih0 ..
   | exact ih1 ..
   | exact ln_ _ | refine li_ ?_ ?_ | refine lb_ ?_ fun _ => ?_
  ·intro y0 y1 y2 y3 y4 y5 y6
   unfold spec_l25Guards.l0
   repeat' first
   | (with_reducible exact ih0 ..)
   | (with_reducible exact ih1 ..)
   | (with_reducible first | exact lr_ _ | exact ln_ _ | refine li_ ?_ ?_ | refine lb_ ?_ fun _ => ?_)
   | exact ih0 ..
   | exact ih1 ..
   | exact ln_ _ | refine li_ ?_ ?_ | refine lb_ ?_ fun _ => ?_
theorem spec_l25Guards.mono : ∀ a0 a1 a2 a3 a4 a5 a6 k, LeO (spec_l25Guards.f k a0 a1 a2 a3 a4 a5 a6) (spec_l25Guards.f (k + 1) a0 a1 a2 a3 a4 a5 a6) := by
 intro a0 a1 a2 a3 a4 a5 a6 k
 obtain ⟨ih0, ih1⟩ := spec_l25Guards.mono_l k
 exact ih0 a0 a1 a2 a3 a4 a5 a6
def spec_l25Guards.T6 : Bool × List (List Nat × List Nat) := (true, [([], []), ([], []), ([], []), ([2], [2]), ([], []), ([4], [4]), ([], []), ([], []), ([], []), ([7, 8], [7, 8]), ([9], [9]), ([6, 10], [6, 10]), ([0, 1, 3, 5, 11], [0, 1, 3, 5, 11]), ([12], [12]), ([13], [13]), ([13], [13]), ([14, 12, 0, 1, 2, 3, 4, 5, 6, 7, 8, 9, 10, 11, 12, 13, 14], [14]), ([15, 16, 0, 1, 2, 3, 4, 5, 6, 7, 8, 9, 10, 11, 12, 13, 14, 15, 16], [15])])
def spec_l25Guards.B6 : List Nat := [0, 0, 0, 4, 0, 16, 0, 0, 0, 384, 896, 1984, 4095, 8191, 16383, 16383, 32767, 131071]
theorem spec_l25Guards.tab6 : rtab .any (opsOf Try.f67 6) = spec_l25Guards.T6 := by kernel_rfl
theorem spec_l25Guards.bits6 : waitsOk spec_l25Guards.T6.2 spec_l25Guards.B6 = true := by kernel_rfl
set_option maxHeartbeats 8000000 in
set_option maxRecDepth 100000 in
theorem spec_l25Guards.calls (k : Nat) : ∀ (a0_0 : Int) (a0_1 : Int) (a0_2 : Int) (A1 : Option Addr) (c1 : Nat) (l1 : List Int) (a2 : Int) (a3 : Int) (a4 : Int) (r1 : List Int) (r2 : Bool) (w : World) (hr1 : Kd.C (Kd.int .i64) w A1 l1.length l1) (hc1 : l1.length ≤ c1) (h : spec_l25Guards.f k a0_0 a0_1 a0_2 l1 a2 a3 a4 = some (r1, r2)),
  Calls Try.prog 67 #[.agg #[.int .i64 a0_0, .int .i64 a0_1, .int .i64 a0_2], .slice A1 l1.length c1, .int .i64 a2, .int .i64 a3, .int .i64 a4] w fun e w' => ∃ v0_ : Value, e = .returned (.tuple #[v0_, .bool r2]) ∧ Kd.R (Kd.int .i64) 3 w' w.heap.size (fun _ => True) v0_ r1 ∧ Below w.heap.size w w' := by
 induction k using Nat.strongRecOn with
 | _ k ih =>
 intro a0_0 a0_1 a0_2 A1 c1 l1 a2 a3 a4 r1 r2 w hr1 hc1 h
 cases k with
 | zero => exact absurd h (by simp [spec_l25Guards.f])
 | succ k =>
 simp only [spec_l25Guards.f] at h
 have hu30 := Try.underlying30
 have HR1 := Aside0.mk hr1
 have HC1 := Aside0.mk hc1
 clear hr1 hc1
 have HB := Aside0.mk (Below.refl w.heap.size w)
 have H : (if a3 = 0 then (some ((([] : List Int)), (a4 == 0))) else (spec_l25Guards.l0 k l1 a3 a4 a2 a0_0 a0_1 a0_2)) = some (r1, r2) := h
 clear h
 by_cases c6 : a3 = 0
 ·rw [if_pos c6] at H
  have c6b0 : (a3 == 0) = true := beq_iff_eq.mpr c6
  have c6b1 : (a3 != 0) = false := bne_eq_false_iff_eq.mpr c6
  clear c6
  obtain ⟨y502, hy502⟩ : ∃ y_ : List Int, y_ = (([] : List Int)) := ⟨_, rfl⟩
  replace H : (some (y502, (a4 == 0))) = some (r1, r2) := by first | (rw [hy502]; with_reducible exact H) | (have H2_ := (Option.bind_some _ _).symm.trans H; rw [hy502]; with_reducible exact H2_) | (have H2_ := (Option.bind_some _ _).symm.trans H; with_reducible exact H2_) | with_reducible exact H | (rw [hy502]; exact H) | exact H
  have Ny502 := Aside0.mk hy502
  clear hy502
  simp only [Option.some.injEq, Prod.mk.injEq] at H
  obtain ⟨rfl, rfl⟩ := H
  go_enter Try.func67, Try.ntmps67
  go_wp2_with (first | (refine box_ (N := 5) (cs := #[.int .i64 a0_0, .int .i64 a0_1, .int .i64 a0_2]) (t := 30) ?_; intro gb501 hg w7 hbox hb; have BK501 := Aside0.mk (hbox); have GW501 := HB.g0 hg; have GE501 := HB.g0 hg; replace HB := HB.s0 hb; clear hb hbox hg) | ((with_reducible refine gate_dst (N := 17) rfl ?_); refine Kd.R_lit (Kd.int .i64) _ 3 ?hg (N := 17) ?hd (xs := ([] : List Int)) (inner := []) (ok := fun _ => True) (okp := fun _ => True) ?hr ?hp (fun _ hk => hk) trivial (Below.refl _ _) (Nat.le_refl _) (by simp) ?_; (case hd => rfl); (case hg => rfl); (case hr => first | (go_simp; done) | (go_simp; rfl)); (case hp => exact (Reps.none _ _)); intro v503 w8 ho9 hb hg_ hnew_; clear hg_ hnew_; (first | rw [← Ny502.out] at ho9 | (simp only [Int.reduceToNat] at ho9; rw [← Ny502.out] at ho9)); have HO504 := Aside0.mk (Kd.R_lower ho9 (below_size (hb1_ HB.out GE501.out))); replace BK501 := BK501.bb hb; replace HB := HB.s1 GE501 hb; clear hb ho9))
  go_ret2
  exact ⟨_, ex_, kr_ HO504.out, hb1_ HB.out GE501.out⟩
 ·rw [if_neg c6] at H
  have c6b0 : (a3 == 0) = false := beq_eq_false_iff_ne.mpr c6
  have c6b1 : (a3 != 0) = true := bne_iff_ne.mpr c6
  have H' := Aside0.mk H
  clear H
  go_enter Try.func67, Try.ntmps67
  go_wp2_with (first | (refine box_ (N := 5) (cs := #[.int .i64 a0_0, .int .i64 a0_1, .int .i64 a0_2]) (t := 30) ?_; intro gb501 hg w10 hbox hb; have BK501 := Aside0.mk (hbox); have GW501 := HB.g0 hg; have GE501 := HB.g0 hg; replace HB := HB.s0 hb; clear hb hbox hg))
  go_loopg [12] k (fun kq v12 w' => ∃ (x12_1 : Int), v12 = .int .i64 x12_1 ∧ Aside0 (spec_l25Guards.l0 kq l1 a3 a4 x12_1 a0_0 a0_1 a0_2 = some (r1, r2)) ∧ Aside0 (kq ≤ k) ∧ Aside0 (w'.heap[gb501]? = some (.cells #[.int .i64 a0_0, .int .i64 a0_1, .int .i64 a0_2] 30 (0, 0))) ∧ Aside0 (Below w.heap.size w w'))
  case atStart => exact ⟨(a2), (by first | rfl | (simp; done) | (simp [*]; done)), H', ⟨Nat.le_refl _⟩, ⟨bk_ BK501.out⟩, ⟨hb1_ HB.out GE501.out⟩⟩
  case round =>
   clear H'
   try clear c1
   try clear p2
   try clear c6
   try clear c6b0
   try clear c6b1
   obtain ⟨x12_1, rfl, HA, HK1, BK501, HB⟩ := hrel
   cases gk with
   | zero => exact absurd HA.out (by simp [spec_l25Guards.l0])
   | succ k1 =>
    have H := HA.out
    clear HA
    simp only [spec_l25Guards.l0] at H
    by_cases c11 : x12_1 < (l1.length : Int)
    ·rw [if_pos c11] at H
     have c11b0 : decide (x12_1 < (l1.length : Int)) = true := decide_eq_true c11
     clear c11
     by_cases c12 : 0 ≤ x12_1
     ·rw [if_pos c12] at H
      have c12b0 : decide (0 ≤ x12_1) = true := decide_eq_true c12
      clear c12
      replace H := Option.bind_eq_some_iff.mp H
      obtain ⟨⟨t506, t509⟩, A130, H⟩ := H
      replace H : (if t509 = true then ((some (([x12_1] : List Int) : List Int)).bind fun y510 => (if y510.length + t506.length < 17592186044416 then (some ((y510 ++ t506), true)) else (none))) else (spec_l25Guards.l0 k1 l1 a3 a4 (wrap64 (x12_1 + 1)) a0_0 a0_1 a0_2)) = some (r1, r2) := H
      have A13 := Aside0.mk A130
      clear A130
      by_cases c14 : t509 = true
      ·subst c14
       have H1 : ((some (([x12_1] : List Int) : List Int)).bind fun y510 => (if y510.length + t506.length < 17592186044416 then (some ((y510 ++ t506), true)) else (none))) = some (r1, r2) := by rw [if_pos rfl] at H; exact H
       clear H
       have H := H1
       clear H1
       obtain ⟨y510, hy510⟩ : ∃ y_ : List Int, y_ = (([x12_1] : List Int)) := ⟨_, rfl⟩
       replace H : (if y510.length + t506.length < 17592186044416 then (some ((y510 ++ t506), true)) else (none)) = some (r1, r2) := by first | (rw [hy510]; with_reducible exact H) | (have H2_ := (Option.bind_some _ _).symm.trans H; rw [hy510]; with_reducible exact H2_) | (have H2_ := (Option.bind_some _ _).symm.trans H; with_reducible exact H2_) | with_reducible exact H | (rw [hy510]; exact H) | exact H
       have Ny510 := Aside0.mk hy510
       clear hy510
       by_cases c15 : y510.length + t506.length < 17592186044416
       ·rw [if_pos c15] at H
        have LMc15 := Aside0.mk c15
        clear c15
        obtain ⟨y513, hy513⟩ : ∃ y_ : List Int, y_ = (y510 ++ t506) := ⟨_, rfl⟩
        replace H : (some (y513, true)) = some (r1, r2) := by first | (rw [hy513]; with_reducible exact H) | (have H2_ := (Option.bind_some _ _).symm.trans H; rw [hy513]; with_reducible exact H2_) | (have H2_ := (Option.bind_some _ _).symm.trans H; with_reducible exact H2_) | with_reducible exact H | (rw [hy513]; exact H) | exact H
        have Ny513 := Aside0.mk hy513
        clear hy513
        simp only [Option.some.injEq, Prod.mk.injEq] at H
        obtain ⟨rfl, rfl⟩ := H
        try go_wp2
        replace BK501 := Aside0.mk (blk_drew BK501.out)
        replace HB := Aside0.mk (below_drew1 HB.out)
        have p505 : 0 ≤ (x12_1 : Int) := of_decide_eq_true (as_)
        have q505 : x12_1 < (l1.length : Int) := of_decide_eq_true (as_)
        obtain ⟨ad505, e505, hx505_0⟩ := Kd.at_int HR1.out x12_1 p505 q505
        have hw505_0 := hx505_0
        cases e505
        replace hx505_0 := (HB.out.cell (World.block_lt_of_cell? w _ hx505_0)).trans hx505_0
        replace p505 := eq_true p505
        replace q505 := eq_true q505
        refine start_ (n := 18) (S := fun w' => w'.cell? ⟨gb501, 0, none⟩ = some (.int .i64 a0_0) ∧ w'.cell? ⟨gb501, 1, none⟩ = some (.int .i64 a0_1) ∧ w'.cell? ⟨gb501, 2, none⟩ = some (.int .i64 a0_2) ∧ w'.cell? (ad505.add (x12_1).toNat) = some (.int .i64 (rd l1 x12_1))) (ds := []) #[false, false, false, false, false, false, false, false, false, false, false, false, false, false, false, false, false, false] (by kernel_rfl) rfl rfl ⟨BK501.c 0, BK501.c 1, BK501.c 2, ((HB.out.cell (World.block_lt_of_cell? w _ hw505_0)).trans hw505_0)⟩ (fun hHeld => ?_); refine with_tabW spec_l25Guards.tab6 spec_l25Guards.bits6 (fun HT_ HW_ => ?_)
        generalize wr.drew = w16 at BK501 HB hx505_0 hHeld ⊢
        refine pv_ (i := 1) (N := some 29) HT_.out ?_
        refine pv_ (i := 2) (N := some 30) HT_.out ?_
        refine pv_ (i := 3) (N := some 31) HT_.out ?_
        refine pv_ (i := 4) (N := some 32) HT_.out ?_
        refine pv_ (i := 5) (N := some 33) HT_.out ?_
        refine pv_ (i := 6) (N := some 34) HT_.out ?_
        refine pv_ (i := 7) (N := some 35) HT_.out ?_
        refine pv_ (i := 8) (N := some 36) HT_.out ?_
        refine pv_ (i := 9) (N := some 37) HT_.out ?_
        refine tv4_ (i := 0) (N := some 28) HT_.out HW_.out hHeld ?_
        refine tv4_ (i := 10) (N := some 38) HT_.out HW_.out hHeld ?_
        refine pv_ (i := 11) (N := some 39) HT_.out ?_
        refine ov_ (i := 12) (N := some 40) HT_.out (fun K hK => ?_)
        refine gq_ Try.func67 #[.agg #[.int .i64 a0_0, .int .i64 a0_1, .int .i64 a0_2], .slice (some ad505) l1.length c1, .int .i64 (wrap64 (x12_1 + 1)), .int .i64 (wrap64 (a3 - 1)), .int .i64 (Go.bits .andNot .i64 a4 (rd l1 x12_1))] ?_
        with_reducible refine (ih k1 (by have := HK1.out; omega) a0_0 a0_1 a0_2 _ _ l1 (wrap64 (x12_1 + 1)) (wrap64 (a3 - 1)) (Go.bits .andNot .i64 a4 (rd l1 x12_1)) t506 true _ ?side1 ?side2 A13.out).mono ?_
        (case side1 => repeat (first | exact (Kd.C_below HR1.out HB.out) | (with_reducible refine Kd.C_alloc ?_ _) | (with_reducible refine Kd.C_drewN ?_ _) | (with_reducible refine Kd.C_drew ?_)))
        (case side2 => exact HC1.out)
        rintro e w17 ⟨v507, rfl, ho0, hb⟩
        refine ⟨_, rfl, ?_⟩
        have HO508 := Aside0.mk (Kd.R_lower ho0 (below_size (hb1_ HB.out GE501.out)))
        replace BK501 := BK501.bb hb
        replace HB := HB.s1 GE501 hb
        skip
        (try clear hb2)
        (try clear hk)
        (try clear hi)
        (try clear ho0)
        refine hK.out _ _ ⟨BK501.c 0, BK501.c 1, BK501.c 2, ((HB.out.cell (World.block_lt_of_cell? w _ hw505_0)).trans hw505_0)⟩ (fun hHeld => ?_)
        clear hK K
        refine nm_ ?_
        refine pv_ (i := 13) (N := some 27) HT_.out ?_
        refine pv_ (i := 14) (N := some 41) HT_.out ?_
        refine pv_ (i := 15) (N := some 42) HT_.out ?_
        refine pv_ (i := 16) (N := some 13) HT_.out ?_
        refine pv_ (i := 17) (N := some 14) HT_.out ?_
        refine done_ (done_of HT_.out (by kernel_rfl)) ?_
        try go_wp2_with (first | ((with_reducible refine gate_dst (N := 45) rfl ?_); refine Kd.R_lit (Kd.int .i64) _ 3 ?hg (N := 45) ?hd (xs := ([x12_1] : List Int)) (inner := [.int .i64 x12_1]) (ok := fun _ => True) (okp := fun _ => True) ?hr ?hp (fun _ hk => hk) trivial (Below.refl _ _) (Nat.le_refl _) (by simp) ?_; (case hd => rfl); (case hg => rfl); (case hr => first | (go_simp; done) | (go_simp; rfl)); (case hp => exact (Reps.one (show Kd.M (Kd.int .i64) _ _ _ x12_1 [.int .i64 x12_1] from rfl) (Reps.none _ _))); intro v511 w18 ho19 hb hg_ hnew_; clear hg_ hnew_; (first | rw [← Ny510.out] at ho19 | (simp only [Int.reduceToNat] at ho19; rw [← Ny510.out] at ho19)); have HO512 := Aside0.mk (Kd.R_lower (Kd.R_new' ho19 (Kd.R_lt (kr_ HO508.out))) (below_size (hb1_ HB.out GE501.out))); replace HO508 := Aside0.mk (Kd.R_elder' (kr_ HO508.out) (Kd.R_base ho19) hb); replace BK501 := BK501.bb hb; replace HB := HB.s1 GE501 hb; clear hb ho19; obtain ⟨Ao21, co21, eo21⟩ := Kd.R_slice HO508.out; subst eo21) | ((with_reducible refine gate_builtin (b := .append) (xs := #[.tmp 45, .tmp 46]) rfl ?_); at_builtin; refine Kd.R_append_rows (Kd.int .i64) (w0 := w) w.heap.size rfl (.tmp 45) (.tmp 46) 26 3 (.int .i64 0) 8 rfl Try.underlying26 info3 rfl (by decide) (by omega) v511 y510 t506 _ _ _ (fun k_ => some k_ ≠ (.slice Ao21 t506.length co21 : Value).ownBlock) (fun _ => False) rfl rfl ?aO ?aR (fun _ _ h => h) (fun _ h => h.elim) ?aF ?aB ?aS ?aL ?_; (case aR => repeat (first | exact (Kd.R_reads' HO508.out).2.2 | (with_reducible refine Kd.C_alloc ?_ _) | (with_reducible refine Kd.C_drewN ?_ _) | (with_reducible refine Kd.C_drew ?_))); (case aB => exact (hb1_ HB.out GE501.out)); (case aF => exact (fun k_ hk => Kd.fresh' (Kd.R_lt (kr_ HO508.out)) k_ hk)); (case aO => exact (by (with_reducible repeat (first | apply Kd.R_alloc | apply Kd.R_drewN | apply Kd.R_drew)); exact Kd.R_mono HO512.out (fun _ hk => hk.2))); (case aS => exact (below_size (hb1_ HB.out GE501.out))); (case aL => have := LMc15.out; omega); intro v514 w20 ho hb hg hat; rw [← Ny513.out] at ho; replace BK501 := Aside0.mk (blk_grown (g := gb501) (o := .cells #[.int .i64 a0_0, .int .i64 a0_1, .int .i64 a0_2] 30 (0, 0)) (bk_ BK501.out) hg (Kd.R_ne HO512.out BK501.out (by decide))); replace HO508 := Aside0.mk (Kd.R_after (ok := (fun _ => True)) (kr_ HO508.out) hg hat); replace HB := Aside0.mk (hb); have HO515 := Aside0.mk (ho); clear HO512; clear ho hb hg hat))
        go_ret2
        exact ⟨_, ex_, by (with_reducible repeat (first | apply Kd.R_alloc | apply Kd.R_drewN | apply Kd.R_drew)); exact Kd.R_mono HO515.out (fun _ hk => trivial), hb1_ HB.out GE501.out⟩
       ·rw [if_neg c15] at H
        exact absurd H (by simp)
      ·replace c14 := Bool.eq_false_iff.mpr c14
       subst c14
       have H1 : (spec_l25Guards.l0 k1 l1 a3 a4 (wrap64 (x12_1 + 1)) a0_0 a0_1 a0_2) = some (r1, r2) := by rw [if_neg (show ¬ (false = true) by decide)] at H; exact H
       clear H
       have H := H1
       clear H1
       have H' := Aside0.mk H
       clear H
       try go_wp2
       replace BK501 := Aside0.mk (blk_drew BK501.out)
       replace HB := Aside0.mk (below_drew1 HB.out)
       have p505 : 0 ≤ (x12_1 : Int) := of_decide_eq_true (as_)
       have q505 : x12_1 < (l1.length : Int) := of_decide_eq_true (as_)
       obtain ⟨ad505, e505, hx505_0⟩ := Kd.at_int HR1.out x12_1 p505 q505
       have hw505_0 := hx505_0
       cases e505
       replace hx505_0 := (HB.out.cell (World.block_lt_of_cell? w _ hx505_0)).trans hx505_0
       replace p505 := eq_true p505
       replace q505 := eq_true q505
       refine start_ (n := 18) (S := fun w' => w'.cell? ⟨gb501, 0, none⟩ = some (.int .i64 a0_0) ∧ w'.cell? ⟨gb501, 1, none⟩ = some (.int .i64 a0_1) ∧ w'.cell? ⟨gb501, 2, none⟩ = some (.int .i64 a0_2) ∧ w'.cell? (ad505.add (x12_1).toNat) = some (.int .i64 (rd l1 x12_1))) (ds := []) #[false, false, false, false, false, false, false, false, false, false, false, false, false, false, false, false, false, false] (by kernel_rfl) rfl rfl ⟨BK501.c 0, BK501.c 1, BK501.c 2, ((HB.out.cell (World.block_lt_of_cell? w _ hw505_0)).trans hw505_0)⟩ (fun hHeld => ?_); refine with_tabW spec_l25Guards.tab6 spec_l25Guards.bits6 (fun HT_ HW_ => ?_)
       generalize wr.drew = w22 at BK501 HB hx505_0 hHeld ⊢
       refine pv_ (i := 1) (N := some 29) HT_.out ?_
       refine pv_ (i := 2) (N := some 30) HT_.out ?_
       refine pv_ (i := 3) (N := some 31) HT_.out ?_
       refine pv_ (i := 4) (N := some 32) HT_.out ?_
       refine pv_ (i := 5) (N := some 33) HT_.out ?_
       refine pv_ (i := 6) (N := some 34) HT_.out ?_
       refine pv_ (i := 7) (N := some 35) HT_.out ?_
       refine pv_ (i := 8) (N := some 36) HT_.out ?_
       refine pv_ (i := 9) (N := some 37) HT_.out ?_
       refine tv4_ (i := 0) (N := some 28) HT_.out HW_.out hHeld ?_
       refine tv4_ (i := 10) (N := some 38) HT_.out HW_.out hHeld ?_
       refine pv_ (i := 11) (N := some 39) HT_.out ?_
       refine ov_ (i := 12) (N := some 40) HT_.out (fun K hK => ?_)
       refine gq_ Try.func67 #[.agg #[.int .i64 a0_0, .int .i64 a0_1, .int .i64 a0_2], .slice (some ad505) l1.length c1, .int .i64 (wrap64 (x12_1 + 1)), .int .i64 (wrap64 (a3 - 1)), .int .i64 (Go.bits .andNot .i64 a4 (rd l1 x12_1))] ?_
       with_reducible refine (ih k1 (by have := HK1.out; omega) a0_0 a0_1 a0_2 _ _ l1 (wrap64 (x12_1 + 1)) (wrap64 (a3 - 1)) (Go.bits .andNot .i64 a4 (rd l1 x12_1)) t506 false _ ?side1 ?side2 A13.out).mono ?_
       (case side1 => repeat (first | exact (Kd.C_below HR1.out HB.out) | (with_reducible refine Kd.C_alloc ?_ _) | (with_reducible refine Kd.C_drewN ?_ _) | (with_reducible refine Kd.C_drew ?_)))
       (case side2 => exact HC1.out)
       rintro e w23 ⟨v507, rfl, ho0, hb⟩
       refine ⟨_, rfl, ?_⟩
       have HO508 := Aside0.mk (Kd.R_lower ho0 (below_size (hb1_ HB.out GE501.out)))
       replace BK501 := BK501.bb hb
       replace HB := HB.s1 GE501 hb
       skip
       (try clear hb2)
       (try clear hk)
       (try clear hi)
       (try clear ho0)
       refine hK.out _ _ ⟨BK501.c 0, BK501.c 1, BK501.c 2, ((HB.out.cell (World.block_lt_of_cell? w _ hw505_0)).trans hw505_0)⟩ (fun hHeld => ?_)
       clear hK K
       refine nm_ ?_
       refine pv_ (i := 13) (N := some 27) HT_.out ?_
       refine pv_ (i := 14) (N := some 41) HT_.out ?_
       refine pv_ (i := 15) (N := some 42) HT_.out ?_
       refine pv_ (i := 16) (N := some 13) HT_.out ?_
       refine pv_ (i := 17) (N := some 14) HT_.out ?_
       refine done_ (done_of HT_.out (by kernel_rfl)) ?_
       try go_wp2
       go_roundg k1
       case measure => have := HK1.out; omega
       case rel => exact ⟨(wrap64 (x12_1 + 1)), (by first | rfl | (simp; done) | (simp [*]; done)), H', ⟨by have := HK1.out; omega⟩, ⟨bk_ BK501.out⟩, ⟨hb1_ HB.out GE501.out⟩⟩
     ·rw [if_neg c12] at H
      exact absurd H (by simp)
    ·rw [if_neg c11] at H
     have c11b0 : decide (x12_1 < (l1.length : Int)) = false := decide_eq_false c11
     clear c11
     obtain ⟨y516, hy516⟩ : ∃ y_ : List Int, y_ = (([] : List Int)) := ⟨_, rfl⟩
     replace H : (some (y516, false)) = some (r1, r2) := by first | (rw [hy516]; with_reducible exact H) | (have H2_ := (Option.bind_some _ _).symm.trans H; rw [hy516]; with_reducible exact H2_) | (have H2_ := (Option.bind_some _ _).symm.trans H; with_reducible exact H2_) | with_reducible exact H | (rw [hy516]; exact H) | exact H
     have Ny516 := Aside0.mk hy516
     clear hy516
     simp only [Option.some.injEq, Prod.mk.injEq] at H
     obtain ⟨rfl, rfl⟩ := H
     go_wp2_with (first | ((with_reducible refine gate_dst (N := 48) rfl ?_); refine Kd.R_lit (Kd.int .i64) _ 3 ?hg (N := 48) ?hd (xs := ([] : List Int)) (inner := []) (ok := fun _ => True) (okp := fun _ => True) ?hr ?hp (fun _ hk => hk) trivial (Below.refl _ _) (Nat.le_refl _) (by simp) ?_; (case hd => rfl); (case hg => rfl); (case hr => first | (go_simp; done) | (go_simp; rfl)); (case hp => exact (Reps.none _ _)); intro v517 w24 ho25 hb hg_ hnew_; clear hg_ hnew_; (first | rw [← Ny516.out] at ho25 | (simp only [Int.reduceToNat] at ho25; rw [← Ny516.out] at ho25)); have HO518 := Aside0.mk (Kd.R_lower ho25 (below_size (hb1_ HB.out GE501.out))); replace BK501 := BK501.bb hb; replace HB := HB.s1 GE501 hb; clear hb ho25))
     go_ret2
     exact ⟨_, ex_, kr_ HO518.out, hb1_ HB.out GE501.out⟩

end Go.Proofs.Ytmcllgonjlapoaa.X
