-- Written by a program of this session (xprint.py), out of the translation and of hand-written contracts. Lean checks it.
import Derived.Test.YtdloifaaoiollaaX0
import Derived.Test.YtdloifaaoiollaaXcgaps
import Derived.Test.YtdloifaaoiollaaXcgrid
import Derived.Test.YtdloifaaoiollaaXcmaze
import Derived.Test.YtdloifaaoiollaaXspecCountPassages
import Derived.Test.YtdloifaaoiollaaXspecl12List
namespace Go.Proofs.Ytdloifaaoiollaa.X
open Go.RowKit Go.Proofs.YtdloifaaoiollaaW.PrintWords Go.Proofs.YtdloifaaoiollaaW.PrintLast Go.Proofs.YtdloifaaoiollaaW.PrintMore
attribute [local go_sem] max2_int min2_int max_two min_two max_three min_three max_four min_four   -- for this text's walks alone
set_option linter.unusedVariables false
set_option linter.unusedSimpArgs false

/-! ### spec_ListTrees: function 91 -/
def spec_ListTrees.j0 : Nat → Bool → Int → Int → Int → Option ((List (S29)))
 | 0, _, _, _, _ => none
 | k + 1, x10, x502000, x502001, x502002 => if x10 = true then (some (([] : List (S29)))) else ((spec_CountGaps.f x502000 x502001).bind fun t507 => ((spec_CountCells.f x502000 x502001).bind fun t508 => ((spec_l12List.f k x502000 x502001 x502002 x502000 x502001 0 (wrap64 (t507 - 1)) (wrap64 (t508 - 1))).bind fun t509 => (some t509))))
def spec_ListTrees.f (k : Nat) (a0_0 : Int) (a0_1 : Int) (a0_2 : Int) : Option ((List (S29))) := (spec_MazeOk.f a0_0 a0_1 a0_2).bind fun t502 => (if t502 = true then ((spec_CountPassages.f k a0_0 a0_1 a0_2).bind fun t503 => (spec_ListTrees.j0 k (decide (t503 > 12)) a0_0 a0_1 a0_2)) else (spec_ListTrees.j0 k true a0_0 a0_1 a0_2))
theorem spec_ListTrees.mono_l : ∀ k, (∀ y0 y1 y2 y3, LeO (spec_ListTrees.j0 k y0 y1 y2 y3) (spec_ListTrees.j0 (k + 1) y0 y1 y2 y3))
 | 0 => fun _ _ _ _ r h => by simp [spec_ListTrees.j0] at h
 | k + 1 => by
  have ih0 := spec_ListTrees.mono_l k
  ·intro y0 y1 y2 y3
   unfold spec_ListTrees.j0
   repeat' first
   | (with_reducible exact ih0 _ _ _ _)
   | (with_reducible exact spec_CountPassages.mono _ _ _ _)
   | (with_reducible exact spec_l12List.mono _ _ _ _ _ _ _ _ _)
   | (with_reducible exact LeO.refl _)
   | (with_reducible exact LeO.none _)
   | (with_reducible refine LeO.ite ?_ ?_)
   | (with_reducible refine LeO.bind ?_ (fun _ => ?_))
   | exact ih0 _ _ _ _
   | exact spec_CountPassages.mono _ _ _ _
   | exact spec_l12List.mono _ _ _ _ _ _ _ _ _
   | exact LeO.none _
   | refine LeO.ite ?_ ?_
   | refine LeO.bind ?_ (fun _ => ?_)
theorem spec_ListTrees.mono : ∀ a0 a1 a2 k, LeO (spec_ListTrees.f k a0 a1 a2) (spec_ListTrees.f (k + 1) a0 a1 a2) := by
 intro a0 a1 a2 k
 have ih0 := spec_ListTrees.mono_l k
 unfold spec_ListTrees.f
 repeat' first
   | (with_reducible exact ih0 _ _ _ _)
   | (with_reducible exact spec_CountPassages.mono _ _ _ _)
   | (with_reducible exact spec_l12List.mono _ _ _ _ _ _ _ _ _)
   | (with_reducible exact LeO.refl _)
   | (with_reducible exact LeO.none _)
   | (with_reducible refine LeO.ite ?_ ?_)
   | (with_reducible refine LeO.bind ?_ (fun _ => ?_))
   | exact ih0 _ _ _ _
   | exact spec_CountPassages.mono _ _ _ _
   | exact spec_l12List.mono _ _ _ _ _ _ _ _ _
   | exact LeO.none _
   | refine LeO.ite ?_ ?_
   | refine LeO.bind ?_ (fun _ => ?_)
def spec_ListTrees.T3 : Bool × List (List Nat × List Nat) := (true, [([], []), ([], []), ([1], [1]), ([2], [2]), ([], []), ([4], [4]), ([5], [5]), ([6], [6]), ([], []), ([8], [8]), ([9, 6], [9]), ([10], [10]), ([0, 3, 7, 11, 10], [0, 3, 7, 11]), ([12, 12, 0, 1, 2, 3, 4, 5, 6, 7, 8, 9, 10, 11, 12], [12])])
def spec_ListTrees.B3 : List Nat := [0, 0, 2, 6, 0, 16, 48, 112, 0, 256, 880, 1904, 4095, 8191]
theorem spec_ListTrees.tab3 : rtab .any (opsOf Try.f91 3) = spec_ListTrees.T3 := by kernel_rfl
theorem spec_ListTrees.bits3 : waitsOk spec_ListTrees.T3.2 spec_ListTrees.B3 = true := by kernel_rfl
set_option maxHeartbeats 8000000 in
set_option maxRecDepth 100000 in
theorem spec_ListTrees.calls (k : Nat) (a0_0 : Int) (a0_1 : Int) (a0_2 : Int) (r : List (S29)) (w : World) (h : spec_ListTrees.f k a0_0 a0_1 a0_2 = some r) :
  Calls Try.prog 91 #[.agg #[.int .i64 a0_0, .int .i64 a0_1, .int .i64 a0_2]] w fun e w' => ∃ v0_ : Value, e = .returned (v0_) ∧ Kd.R k29 29 w' w.heap.size (fun _ => True) v0_ r ∧ Below w.heap.size w w' := by
 have hu29 := Try.underlying29
 have hu27 := Try.underlying27
 have HB := Aside0.mk (Below.refl w.heap.size w)
 have H : ((spec_MazeOk.f a0_0 a0_1 a0_2).bind fun t502 => (if t502 = true then ((spec_CountPassages.f k a0_0 a0_1 a0_2).bind fun t503 => (spec_ListTrees.j0 k (decide (t503 > 12)) a0_0 a0_1 a0_2)) else (spec_ListTrees.j0 k true a0_0 a0_1 a0_2))) = some r := h
 clear h
 have HC2 := Aside0.mk H
 clear H
 go_enter Try.func91, Try.ntmps91
 go_upto_region 1 with (first | ((with_reducible refine gate_dst (N := 1) rfl ?_); refine box_event ?hg (N := 1) ?hd (cs := #[.int .i64 a0_0, .int .i64 a0_1, .int .i64 a0_2]) (t := 29) ?hr ?_; (case hd => rfl); (case hg => rfl); (case hr => first | (go_simp; done) | (go_simp; rfl)); intro gb501 hg w3 hbox hb; have n0_ := Aside0.mk (below_step (hb0_ HB.out) hb); have n1_ := Aside0.mk (hbox); have n2_ := Aside0.mk ((gs_ hg (hb0_ HB.out))); have n3_ := Aside0.mk ((gs_ hg (hb0_ HB.out))); clear HB; have HB := n0_; have BK501 := n1_; have GW501 := n2_; have GE501 := n3_; clear n0_ n1_ n2_ n3_; clear hb hbox hg))
 (try simp only [Act.put, List.setIfInBounds_toArray, List.set_cons_zero, List.set_cons_succ])
 go_cut [10] (fun v10 wc => ∃ (kq : Nat) (x10_1 : Bool), v10 = .bool x10_1 ∧ Aside0 (spec_ListTrees.j0 kq x10_1 a0_0 a0_1 a0_2 = some r) ∧ Aside0 (kq ≤ k) ∧ Aside0 (wc.heap[gb501]? = some (.cells #[.int .i64 a0_0, .int .i64 a0_1, .int .i64 a0_2] 29 (0, 0))) ∧ Aside0 (Below w.heap.size w wc))
 case first =>
  have H := HC2.out
  clear HC2
  replace H := Option.bind_eq_some_iff.mp H
  obtain ⟨t502, A40, H⟩ := H
  replace H : (if t502 = true then ((spec_CountPassages.f k a0_0 a0_1 a0_2).bind fun t503 => (spec_ListTrees.j0 k (decide (t503 > 12)) a0_0 a0_1 a0_2)) else (spec_ListTrees.j0 k true a0_0 a0_1 a0_2)) = some r := H
  have A4 := Aside0.mk A40
  clear A40
  by_cases c5 : t502 = true
  ·subst c5
   have H1 : ((spec_CountPassages.f k a0_0 a0_1 a0_2).bind fun t503 => (spec_ListTrees.j0 k (decide (t503 > 12)) a0_0 a0_1 a0_2)) = some r := by rw [if_pos rfl] at H; exact H
   clear H
   have H := H1
   clear H1
   replace H := Option.bind_eq_some_iff.mp H
   obtain ⟨t503, A60, H⟩ := H
   replace H : (spec_ListTrees.j0 k (decide (t503 > 12)) a0_0 a0_1 a0_2) = some r := H
   have A6 := Aside0.mk A60
   clear A60
   have H' := Aside0.mk H
   clear H
   obtain ⟨hcz7_0, hcz7_1, hcz7_2⟩ := cz3_ BK501.out
   obtain ⟨hfz7_0, hfz7_1, hfz7_2⟩ := fz3_ BK501.out
   go_wp2_with (first | ((with_reducible refine gate_callee (f := 111) rfl ?_); refine goesL_ (some 4) rfl rfl Try.func111 (by kernel_rfl) rfl #[.agg #[.int .i64 a0_0, .int .i64 a0_1, .int .i64 a0_2]] rfl (ml_) ?_; (with_reducible refine (spec_MazeOk.calls a0_0 a0_1 a0_2 true _ A4.out).mono ?_); rintro e w8 ⟨rfl, hb⟩; refine ⟨_, rfl, ?_⟩; replace BK501 := Aside0.mk (bb_ BK501.out hb); replace HB := Aside0.mk (below_step (hb1_ HB.out GE501.out) hb); (try clear hb); (try clear hb2); (try clear hk); (try clear hi); obtain ⟨hcz9_0, hcz9_1, hcz9_2⟩ := cz3_ BK501.out; obtain ⟨hfz9_0, hfz9_1, hfz9_2⟩ := fz3_ BK501.out) | (go_at_call 61; (with_reducible refine (spec_CountPassages.calls k a0_0 a0_1 a0_2 t503 _ A6.out).mono ?_); rintro e w10 ⟨rfl, hb⟩; replace BK501 := Aside0.mk (bb_ BK501.out hb); replace HB := Aside0.mk (below_step (hb1_ HB.out GE501.out) hb); (try clear hb); (try clear hb2); (try clear hk); (try clear hi)))
   go_meet
   case rel => exact ⟨_, (decide (t503 > 12)), (by first | rfl | (simp; done) | (simp [*]; done)), H', ⟨by first | omega | exact Nat.le_refl _⟩, ⟨bk_ BK501.out⟩, ⟨hb1_ HB.out GE501.out⟩⟩
  ·replace c5 := Bool.eq_false_iff.mpr c5
   subst c5
   have H1 : (spec_ListTrees.j0 k true a0_0 a0_1 a0_2) = some r := by rw [if_neg (show ¬ (false = true) by decide)] at H; exact H
   clear H
   have H := H1
   clear H1
   have H' := Aside0.mk H
   clear H
   obtain ⟨hcz11_0, hcz11_1, hcz11_2⟩ := cz3_ BK501.out
   obtain ⟨hfz11_0, hfz11_1, hfz11_2⟩ := fz3_ BK501.out
   go_wp2_with (first | ((with_reducible refine gate_callee (f := 111) rfl ?_); refine goesL_ (some 4) rfl rfl Try.func111 (by kernel_rfl) rfl #[.agg #[.int .i64 a0_0, .int .i64 a0_1, .int .i64 a0_2]] rfl (ml_) ?_; (with_reducible refine (spec_MazeOk.calls a0_0 a0_1 a0_2 false _ A4.out).mono ?_); rintro e w12 ⟨rfl, hb⟩; refine ⟨_, rfl, ?_⟩; replace BK501 := Aside0.mk (bb_ BK501.out hb); replace HB := Aside0.mk (below_step (hb1_ HB.out GE501.out) hb); (try clear hb); (try clear hb2); (try clear hk); (try clear hi)))
   go_meet
   case rel => exact ⟨_, (true), (by first | rfl | (simp; done) | (simp [*]; done)), H', ⟨by first | omega | exact Nat.le_refl _⟩, ⟨bk_ BK501.out⟩, ⟨hb1_ HB.out GE501.out⟩⟩
 case rest =>
  clear HC2
  try clear c1
  try clear p2
  try clear c5
  try clear c9
  try clear c11
  try clear hcz11_0
  try clear hcz11_1
  try clear hcz11_2
  try clear hcz7_0
  try clear hcz7_1
  try clear hcz7_2
  try clear hcz9_0
  try clear hcz9_1
  try clear hcz9_2
  try clear hfz11_0
  try clear hfz11_1
  try clear hfz11_2
  try clear hfz7_0
  try clear hfz7_1
  try clear hfz7_2
  try clear hfz9_0
  try clear hfz9_1
  try clear hfz9_2
  obtain ⟨kq, x10_1, rfl, HA, HJ1, BK501, HB⟩ := hcut
  cases kq with
  | zero => exact absurd HA.out (by simp [spec_ListTrees.j0])
  | succ kj1 =>
   have H := HA.out
   clear HA
   simp only [spec_ListTrees.j0] at H
   by_cases c13 : x10_1 = true
   ·subst c13
    have H1 : (some (([] : List (S29)))) = some r := by rw [if_pos rfl] at H; exact H
    clear H
    have H := H1
    clear H1
    obtain ⟨y504, hy504⟩ : ∃ y_ : List (S29), y_ = (([] : List (S29))) := ⟨_, rfl⟩
    replace H : (some y504) = some r := by first | (rw [hy504]; with_reducible exact H) | (have H2_ := (Option.bind_some _ _).symm.trans H; rw [hy504]; with_reducible exact H2_) | (have H2_ := (Option.bind_some _ _).symm.trans H; with_reducible exact H2_) | with_reducible exact H | (rw [hy504]; exact H) | exact H
    have Ny504 := Aside0.mk hy504
    clear hy504
    obtain rfl := Option.some.inj H
    go_wp2_with (first | ((with_reducible refine gate_dst (N := 11) rfl ?_); refine Kd.R_lit k29 _ 29 ?hg (N := 11) ?hd (xs := ([] : List (S29))) (inner := []) (ok := fun _ => True) (okp := fun _ => True) ?hr ?hp (fun _ hk => hk) trivial (Below.refl _ _) (Nat.le_refl _) (by simp) ?_; (case hd => rfl); (case hg => rfl); (case hr => first | (go_simp; done) | (go_simp; rfl)); (case hp => exact (Reps.none _ _)); intro v505 w14 ho15 hb hg_ hnew_; clear hg_ hnew_; (first | rw [← Ny504.out] at ho15 | (simp only [Int.reduceToNat] at ho15; rw [← Ny504.out] at ho15)); have HO506 := Aside0.mk (Kd.R_lower (Kd.R_newB ho15 (g := gb501) (o := .cells #[.int .i64 a0_0, .int .i64 a0_1, .int .i64 a0_2] 29 (0, 0)) (bk_ BK501.out)) (below_size (hb1_ HB.out GE501.out))); replace BK501 := Aside0.mk (bb_ BK501.out hb); replace HB := Aside0.mk (below_step (hb1_ HB.out GE501.out) hb); clear hb ho15))
    go_ret
    exact ⟨_, by first | rfl | (simp [errW_none, errW_some] <;> rfl) | (simp [*, errW_none, errW_some] <;> rfl), by (with_reducible repeat (first | apply Kd.R_alloc | apply Kd.R_drewN | apply Kd.R_drew)); exact Kd.R_mono HO506.out (fun _ hk => trivial), hb1_ HB.out GE501.out⟩
   ·replace c13 := Bool.eq_false_iff.mpr c13
    subst c13
    have H1 : ((spec_CountGaps.f a0_0 a0_1).bind fun t507 => ((spec_CountCells.f a0_0 a0_1).bind fun t508 => ((spec_l12List.f kj1 a0_0 a0_1 a0_2 a0_0 a0_1 0 (wrap64 (t507 - 1)) (wrap64 (t508 - 1))).bind fun t509 => (some t509)))) = some r := by rw [if_neg (show ¬ (false = true) by decide)] at H; exact H
    clear H
    have H := H1
    clear H1
    replace H := Option.bind_eq_some_iff.mp H
    obtain ⟨t507, A160, H⟩ := H
    replace H : ((spec_CountCells.f a0_0 a0_1).bind fun t508 => ((spec_l12List.f kj1 a0_0 a0_1 a0_2 a0_0 a0_1 0 (wrap64 (t507 - 1)) (wrap64 (t508 - 1))).bind fun t509 => (some t509))) = some r := H
    have A16 := Aside0.mk A160
    clear A160
    replace H := Option.bind_eq_some_iff.mp H
    obtain ⟨t508, A170, H⟩ := H
    replace H : ((spec_l12List.f kj1 a0_0 a0_1 a0_2 a0_0 a0_1 0 (wrap64 (t507 - 1)) (wrap64 (t508 - 1))).bind fun t509 => (some t509)) = some r := H
    have A17 := Aside0.mk A170
    clear A170
    replace H := Option.bind_eq_some_iff.mp H
    obtain ⟨t509, A180, H⟩ := H
    replace H : (some t509) = some r := H
    have A18 := Aside0.mk A180
    clear A180
    obtain rfl := Option.some.inj H
    try go_wp2
    replace BK501 := Aside0.mk (blk_drew BK501.out)
    replace HB := Aside0.mk (below_drew1 HB.out)
    refine start_ (n := 14) (S := fun w' => w'.cell? ⟨gb501, 0, none⟩ = some (.int .i64 a0_0) ∧ w'.cell? ⟨gb501, 1, none⟩ = some (.int .i64 a0_1) ∧ w'.cell? ⟨gb501, 2, none⟩ = some (.int .i64 a0_2)) (ds := []) #[false, false, false, false, false, false, false, false, false, false, false, false, false, false] (by kernel_rfl) rfl rfl ⟨(blk_cell BK501.out 0).trans rfl, (blk_cell BK501.out 1).trans rfl, (blk_cell BK501.out 2).trans rfl⟩ (fun hHeld => ?_); refine with_tabW spec_ListTrees.tab3 spec_ListTrees.bits3 (fun HT_ HW_ => ?_)
    generalize wc.drew = w19 at BK501 HB hHeld ⊢
    refine pv_ (i := 1) (N := some 13) HT_.out ?_
    refine pv_ (i := 4) (N := some 16) HT_.out ?_
    refine pv_ (i := 8) (N := some 20) HT_.out ?_
    refine tv3_ (i := 0) (N := some 12) HT_.out HW_.out hHeld ?_
    refine tv3_ (i := 2) (N := some 14) HT_.out HW_.out hHeld ?_
    refine pv_ (i := 3) (N := some 15) HT_.out ?_
    refine tv3_ (i := 5) (N := some 17) HT_.out HW_.out hHeld ?_
    refine tv3_ (i := 9) (N := some 21) HT_.out HW_.out hHeld ?_
    refine ov_ (i := 6) (N := some 18) HT_.out (fun K hK => ?_)
    refine goes_ Try.func90 (by kernel_rfl) rfl #[.agg #[.int .i64 a0_0, .int .i64 a0_1]] (by rfl) rfl rfl (ml_) ?_
    with_reducible refine (spec_CountGaps.calls a0_0 a0_1 t507 _ A16.out).mono ?_
    rintro e w20 ⟨rfl, hb⟩
    refine ⟨_, rfl, ?_⟩
    replace BK501 := Aside0.mk (bb_ BK501.out hb)
    replace HB := Aside0.mk (below_step (hb1_ HB.out GE501.out) hb)
    (try clear hb)
    (try clear hb2)
    (try clear hk)
    (try clear hi)
    refine hK.out _ _ ⟨(blk_cell BK501.out 0).trans rfl, (blk_cell BK501.out 1).trans rfl, (blk_cell BK501.out 2).trans rfl⟩ (fun hHeld => ?_)
    clear hK K
    refine norm_ (a' := ?_) ?_ ?_
    rotate_left
    ·show Act.put _ (some 18) _ = _
     simp only [Act.put, List.setIfInBounds_toArray, List.set_cons_zero, List.set_cons_succ, i64_w, i32_w]
     rfl
    refine pv_ (i := 7) (N := some 19) HT_.out ?_
    refine ov_ (i := 10) (N := some 22) HT_.out (fun K hK => ?_)
    refine goes_ Try.func36 (by kernel_rfl) rfl #[.agg #[.int .i64 a0_0, .int .i64 a0_1]] (by rfl) rfl rfl (ml_) ?_
    with_reducible refine (spec_CountCells.calls a0_0 a0_1 t508 _ A17.out).mono ?_
    rintro e w21 ⟨rfl, hb⟩
    refine ⟨_, rfl, ?_⟩
    replace BK501 := Aside0.mk (bb_ BK501.out hb)
    replace HB := Aside0.mk (below_step (hb1_ HB.out GE501.out) hb)
    (try clear hb)
    (try clear hb2)
    (try clear hk)
    (try clear hi)
    refine hK.out _ _ ⟨(blk_cell BK501.out 0).trans rfl, (blk_cell BK501.out 1).trans rfl, (blk_cell BK501.out 2).trans rfl⟩ (fun hHeld => ?_)
    clear hK K
    refine norm_ (a' := ?_) ?_ ?_
    rotate_left
    ·show Act.put _ (some 22) _ = _
     simp only [Act.put, List.setIfInBounds_toArray, List.set_cons_zero, List.set_cons_succ, i64_w, i32_w]
     rfl
    refine pv_ (i := 11) (N := some 23) HT_.out ?_
    refine ov_ (i := 12) (N := some 24) HT_.out (fun K hK => ?_)
    refine goes_ Try.func132 (by kernel_rfl) rfl #[.agg #[.int .i64 a0_0, .int .i64 a0_1, .int .i64 a0_2], .agg #[.int .i64 a0_0, .int .i64 a0_1, .int .i64 0], .int .i64 (wrap64 (t507 - 1)), .int .i64 (wrap64 (t508 - 1))] (by rfl) rfl rfl (ml_) ?_
    with_reducible refine (spec_l12List.calls kj1 a0_0 a0_1 a0_2 a0_0 a0_1 0 (wrap64 (t507 - 1)) (wrap64 (t508 - 1)) t509 _ A18.out).mono ?_
    rintro e w22 ⟨v510, rfl, ho0, hb⟩
    refine ⟨_, rfl, ?_⟩
    have HO511 := Aside0.mk (Kd.R_lower (Kd.R_newB ho0 (g := gb501) (o := .cells #[.int .i64 a0_0, .int .i64 a0_1, .int .i64 a0_2] 29 (0, 0)) (bk_ BK501.out)) (below_size (hb1_ HB.out GE501.out)))
    replace BK501 := Aside0.mk (bb_ BK501.out hb)
    replace HB := Aside0.mk (below_step (hb1_ HB.out GE501.out) hb)
    (try clear hb)
    (try clear hb2)
    (try clear hk)
    (try clear hi)
    (try clear ho0)
    refine hK.out _ _ ⟨(blk_cell BK501.out 0).trans rfl, (blk_cell BK501.out 1).trans rfl, (blk_cell BK501.out 2).trans rfl⟩ (fun hHeld => ?_)
    clear hK K
    refine norm_ (a' := ?_) ?_ ?_
    rotate_left
    ·show Act.put _ (some 24) _ = _
     simp only [Act.put, List.setIfInBounds_toArray, List.set_cons_zero, List.set_cons_succ, i64_w, i32_w]
     rfl
    refine pv_ (i := 13) (N := some 2) HT_.out ?_
    refine done_ (done_of HT_.out (by kernel_rfl)) ?_
    try go_wp2
    go_ret
    exact ⟨_, by first | rfl | (simp [errW_none, errW_some] <;> rfl) | (simp [*, errW_none, errW_some] <;> rfl), by (with_reducible repeat (first | apply Kd.R_alloc | apply Kd.R_drewN | apply Kd.R_drew)); exact Kd.R_mono HO511.out (fun _ hk => trivial), hb1_ HB.out GE501.out⟩

end Go.Proofs.Ytdloifaaoiollaa.X
