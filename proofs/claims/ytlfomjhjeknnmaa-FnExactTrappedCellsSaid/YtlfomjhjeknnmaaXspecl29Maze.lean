-- Written by a program of this session (xprint.py), out of the translation and of hand-written contracts. Lean checks it.
import Derived.Test.YtlfomjhjeknnmaaX0
import Derived.Test.YtlfomjhjeknnmaaXcmaze
import Derived.Test.YtlfomjhjeknnmaaXspecSetGap
namespace Go.Proofs.Ytlfomjhjeknnmaa.X
open Go.RowKit Go.Proofs.YtlfomjhjeknnmaaW.PrintWords Go.Proofs.YtlfomjhjeknnmaaW.PrintLast Go.Proofs.YtlfomjhjeknnmaaW.PrintMore
attribute [local go_sem] max2_int min2_int max_two min_two max_three min_three max_four min_four   -- for this text's walks alone
set_option linter.unusedVariables false
set_option linter.unusedSimpArgs false

/-! ### spec_l29Maze: function 34 -/
def spec_l29Maze.l0 : Nat → Int → Int → Int → Int → Int → Int → List (S56) → Int → Int → Int → Option (Int × Int × Int)
 | 0, _, _, _, _, _, _, _, _, _, _ => none
 | k + 1, x1, x6, x502000, x502001, x502002, x502003, x502004, x504000, x504001, x504002 => if x6 < (x502004.length : Int) then (if 0 ≤ x6 then (if x502003 = 0 then (none) else ((spec_l03Bit.f ((rd_T56 x502004 x6).f1) (Int.tmod x1 x502003)).bind fun t505 => (if t505 = true then (spec_l29Maze.l0 k x1 (wrap64 (x6 + 1)) x502000 x502001 x502002 x502003 x502004 x504000 x504001 x504002) else ((spec_SetGap.f k x504000 x504001 x504002 ((rd_T56 x502004 x6).f0) false).bind fun bt507 => (spec_l29Maze.l0 k x1 (wrap64 (x6 + 1)) x502000 x502001 x502002 x502003 x502004 bt507.1 bt507.2.1 bt507.2.2.1))))) else (none)) else (some (x504000, x504001, x504002))
def spec_l29Maze.f (k : Nat) (a0_0 : Int) (a0_1 : Int) (a0_2 : Int) (a0_3 : Int) (l0_4 : List (S56)) (a1 : Int) : Option (Int × Int × Int) := spec_l29Maze.l0 k a1 0 a0_0 a0_1 a0_2 a0_3 l0_4 a0_0 a0_1 a0_2
theorem spec_l29Maze.mono_l : ∀ k, (∀ y0 y1 y2 y3 y4 y5 y6 y7 y8 y9, LeO (spec_l29Maze.l0 k y0 y1 y2 y3 y4 y5 y6 y7 y8 y9) (spec_l29Maze.l0 (k + 1) y0 y1 y2 y3 y4 y5 y6 y7 y8 y9))
 | 0 => fun _ _ _ _ _ _ _ _ _ _ r h => by simp [spec_l29Maze.l0] at h
 | k + 1 => by
  have ih0 := spec_l29Maze.mono_l k
  ·intro y0 y1 y2 y3 y4 y5 y6 y7 y8 y9
   unfold spec_l29Maze.l0
   repeat' first
   | (with_reducible exact ih0 ..)
   | (with_reducible exact spec_SetGap.mono ..)
   | (with_reducible first | exact lr_ _ | exact ln_ _ | refine li_ ?_ ?_ | refine lb_ ?_ fun _ => ?_)
   | exact ih0 ..
   | exact spec_SetGap.mono ..
   | exact ln_ _ | refine li_ ?_ ?_ | refine lb_ ?_ fun _ => ?_
theorem spec_l29Maze.mono : ∀ a0 a1 a2 a3 a4 a5 k, LeO (spec_l29Maze.f k a0 a1 a2 a3 a4 a5) (spec_l29Maze.f (k + 1) a0 a1 a2 a3 a4 a5) := by
 intro a0 a1 a2 a3 a4 a5 k
 have ih0 := spec_l29Maze.mono_l k
 unfold spec_l29Maze.f
 repeat' first
   | (with_reducible exact ih0 ..)
   | (with_reducible exact spec_SetGap.mono ..)
   | (with_reducible first | exact lr_ _ | exact ln_ _ | refine li_ ?_ ?_ | refine lb_ ?_ fun _ => ?_)
   | exact ih0 ..
   | exact spec_SetGap.mono ..
   | exact ln_ _ | refine li_ ?_ ?_ | refine lb_ ?_ fun _ => ?_
def spec_l29Maze.T5 : Bool × List (List Nat × List Nat) := (true, [([], []), ([0], [0]), ([], []), ([1, 2], [1, 2]), ([3], [3]), ([4], [4]), ([], []), ([], []), ([7], [7]), ([6, 8], [6, 8]), ([5, 9], [5, 9]), ([10], [10])])
def spec_l29Maze.B5 : List Nat := [0, 1, 0, 7, 15, 31, 0, 0, 128, 448, 1023, 2047]
theorem spec_l29Maze.tab5 : rtab .any (opsOf Try.f34 5) = spec_l29Maze.T5 := by kernel_rfl
theorem spec_l29Maze.bits5 : waitsOk spec_l29Maze.T5.2 spec_l29Maze.B5 = true := by kernel_rfl
def spec_l29Maze.T6 : Bool × List (List Nat × List Nat) := (true, [([], []), ([], []), ([1], [1]), ([], []), ([2, 3], [2, 3]), ([4], [4]), ([5], [5]), ([0, 6], [0, 6]), ([7], [7]), ([8], [8]), ([8], [8]), ([9, 7, 0, 1, 2, 3, 4, 5, 6, 7, 8, 9], [9])])
def spec_l29Maze.B6 : List Nat := [0, 0, 2, 0, 14, 30, 62, 127, 255, 511, 511, 1023]
theorem spec_l29Maze.tab6 : rtab .any (opsOf Try.f34 6) = spec_l29Maze.T6 := by kernel_rfl
theorem spec_l29Maze.bits6 : waitsOk spec_l29Maze.T6.2 spec_l29Maze.B6 = true := by kernel_rfl
set_option maxHeartbeats 8000000 in
set_option maxRecDepth 100000 in
theorem spec_l29Maze.calls (k : Nat) (a0_0 : Int) (a0_1 : Int) (a0_2 : Int) (a0_3 : Int) (A0_4 : Option Addr) (c0_4 : Nat) (l0_4 : List (S56)) (a1 : Int) (r1 : Int) (r2 : Int) (r3 : Int) (w : World) (hr0_4 : Kd.C k56 w A0_4 l0_4.length l0_4) (hc0_4 : l0_4.length ≤ c0_4) (h : spec_l29Maze.f k a0_0 a0_1 a0_2 a0_3 l0_4 a1 = some (r1, r2, r3)) :
  Calls Try.prog 34 #[.agg #[.int .i64 a0_0, .int .i64 a0_1, .int .i64 a0_2, .int .i64 a0_3, .slice A0_4 l0_4.length c0_4], .int .i64 a1] w fun e w' => e = .returned (.agg #[.int .i64 r1, .int .i64 r2, .int .i64 r3]) ∧ Below w.heap.size w w' := by
 have hu36 := Try.underlying36
 have hu33 := Try.underlying33
 have HR0_4 := Aside0.mk hr0_4
 have HC0_4 := Aside0.mk hc0_4
 clear hr0_4 hc0_4
 have HB := Aside0.mk (Below.refl w.heap.size w)
 have H : (spec_l29Maze.l0 k a1 0 a0_0 a0_1 a0_2 a0_3 l0_4 a0_0 a0_1 a0_2) = some (r1, r2, r3) := h
 clear h
 have H' := Aside0.mk H
 clear H
 go_enter Try.func34, Try.ntmps34
 go_wp2_with (first | (refine box_ (N := 2) (cs := #[.int .i64 a0_0, .int .i64 a0_1, .int .i64 a0_2, .int .i64 a0_3, .slice A0_4 l0_4.length c0_4]) (t := 36) ?_; intro gb501 hg w3 hbox hb; have BK501 := Aside0.mk (hbox); have GW501 := HB.g0 hg; have GE501 := HB.g0 hg; replace HB := HB.s0 hb; clear hb hbox hg) | (refine box_ (N := 4) (cs := #[.int .i64 0, .int .i64 0, .int .i64 0]) (t := 33) ?_; intro gb502 hg w4 hbox hb; have BK502 := Aside0.mk (hbox); have GW502 := HB.g1 GE501 hg; have GE502 := HB.g1 GE501 hg; replace HB := HB.s1 GE501 hb; have NB501_502 := BK501.nl hg; have NB502_501 := BK501.nr hg; replace BK501 := BK501.bb hb; clear hb hbox hg; have hnb5 := NB501_502.out; have hnc5 := NB502_501.out; obtain ⟨hcz6_0, hcz6_1, hcz6_2, hcz6_3, hcz6_4⟩ := cz5_ BK501.out; obtain ⟨hfz6_0, hfz6_1, hfz6_2, hfz6_3, hfz6_4⟩ := fz5_ BK501.out) | (refine box_ (N := 5) (cs := #[.int .i64 0, .int .i64 0, .int .i64 0]) (t := 33) ?_; intro gb503 hg w7 hbox hb; have BK503 := Aside0.mk (hbox); have GW503 := HB.g2 GE501 GE502 hg; have GE503 := HB.g2 GE501 GE502 hg; replace HB := HB.s2 GE501 GE502 hb; have NB501_503 := BK501.nl hg; have NB503_501 := BK501.nr hg; replace BK501 := BK501.bb hb; have NB502_503 := BK502.nl hg; have NB503_502 := BK502.nr hg; replace BK502 := BK502.bb hb; clear hb hbox hg; have hnb8 := NB503_501.out; have hnc8 := NB501_503.out; have hnb9 := NB503_502.out; have hnc9 := NB502_503.out; obtain ⟨hcz10_0, hcz10_1, hcz10_2⟩ := cz3_ BK503.out; obtain ⟨hfz10_0, hfz10_1, hfz10_2⟩ := fz3_ BK503.out))
 go_loopg [6] k (fun kq v6 w' => ∃ (x6_1 : Int) (x504000_1 : Int) (x504001_1 : Int) (x504002_1 : Int), v6 = .int .i64 x6_1 ∧ Aside0 (spec_l29Maze.l0 kq a1 x6_1 a0_0 a0_1 a0_2 a0_3 l0_4 x504000_1 x504001_1 x504002_1 = some (r1, r2, r3)) ∧ Aside0 (kq ≤ k) ∧ Aside0 (w'.heap[gb501]? = some (.cells #[.int .i64 a0_0, .int .i64 a0_1, .int .i64 a0_2, .int .i64 a0_3, (.slice A0_4 l0_4.length c0_4)] 36 (0, 0))) ∧ Aside0 (w'.heap[gb502]? = some (.cells #[.int .i64 0, .int .i64 0, .int .i64 0] 33 (0, 0))) ∧ Aside0 (w'.heap[gb503]? = some (.cells #[.int .i64 x504000_1, .int .i64 x504001_1, .int .i64 x504002_1] 33 (0, 0))) ∧ Aside0 (Below w.heap.size w w'))
 case atStart => exact ⟨(0), (a0_0), (a0_1), (a0_2), (by first | rfl | (simp; done) | (simp [*]; done)), H', ⟨Nat.le_refl _⟩, ⟨by (with_reducible repeat (first | refine blk_drewN ?_ _ | refine blk_drew ?_ | refine blk_alloc ?_ _)); refine blk_far ?_ NB501_503.out _; (with_reducible repeat (first | refine blk_drewN ?_ _ | refine blk_drew ?_ | refine blk_alloc ?_ _)); refine blk_far ?_ NB501_503.out _; (with_reducible repeat (first | refine blk_drewN ?_ _ | refine blk_drew ?_ | refine blk_alloc ?_ _)); refine blk_far ?_ NB501_503.out _; (with_reducible repeat (first | refine blk_drewN ?_ _ | refine blk_drew ?_ | refine blk_alloc ?_ _)); exact BK501.out⟩, ⟨by (with_reducible repeat (first | refine blk_drewN ?_ _ | refine blk_drew ?_ | refine blk_alloc ?_ _)); refine blk_far ?_ NB502_503.out _; (with_reducible repeat (first | refine blk_drewN ?_ _ | refine blk_drew ?_ | refine blk_alloc ?_ _)); refine blk_far ?_ NB502_503.out _; (with_reducible repeat (first | refine blk_drewN ?_ _ | refine blk_drew ?_ | refine blk_alloc ?_ _)); refine blk_far ?_ NB502_503.out _; (with_reducible repeat (first | refine blk_drewN ?_ _ | refine blk_drew ?_ | refine blk_alloc ?_ _)); exact BK502.out⟩, ⟨bq3_ BK503.out⟩, ⟨hb3_ HB.out GE501.out GE502.out GE503.out⟩⟩
 case round =>
  clear H'
  try clear p2
  try clear c3
  try clear c5
  try clear c8
  try clear c9
  try clear hcz10_0
  try clear hcz10_1
  try clear hcz10_2
  try clear hcz6_0
  try clear hcz6_1
  try clear hcz6_2
  try clear hcz6_3
  try clear hcz6_4
  try clear hfz10_0
  try clear hfz10_1
  try clear hfz10_2
  try clear hfz6_0
  try clear hfz6_1
  try clear hfz6_2
  try clear hfz6_3
  try clear hfz6_4
  obtain ⟨x6_1, x504000_1, x504001_1, x504002_1, rfl, HA, HK1, BK501, BK502, BK503, HB⟩ := hrel
  cases gk with
  | zero => exact absurd HA.out (by simp [spec_l29Maze.l0])
  | succ k1 =>
   have H := HA.out
   clear HA
   simp only [spec_l29Maze.l0] at H
   by_cases c11 : x6_1 < (l0_4.length : Int)
   ·rw [if_pos c11] at H
    have c11b0 : decide (x6_1 < (l0_4.length : Int)) = true := decide_eq_true c11
    clear c11
    by_cases c12 : 0 ≤ x6_1
    ·rw [if_pos c12] at H
     have c12b0 : decide (0 ≤ x6_1) = true := decide_eq_true c12
     clear c12
     by_cases c13 : a0_3 = 0
     ·rw [if_pos c13] at H
      exact absurd H (by simp)
     ·rw [if_neg c13] at H
      have c13b0 : (a0_3 == 0) = false := beq_eq_false_iff_ne.mpr c13
      have c13b1 : (a0_3 != 0) = true := bne_iff_ne.mpr c13
      replace H := Option.bind_eq_some_iff.mp H
      obtain ⟨t505, A140, H⟩ := H
      replace H : (if t505 = true then (spec_l29Maze.l0 k1 a1 (wrap64 (x6_1 + 1)) a0_0 a0_1 a0_2 a0_3 l0_4 x504000_1 x504001_1 x504002_1) else ((spec_SetGap.f k1 x504000_1 x504001_1 x504002_1 ((rd_T56 l0_4 x6_1).f0) false).bind fun bt507 => (spec_l29Maze.l0 k1 a1 (wrap64 (x6_1 + 1)) a0_0 a0_1 a0_2 a0_3 l0_4 bt507.1 bt507.2.1 bt507.2.2.1))) = some (r1, r2, r3) := H
      have A14 := Aside0.mk A140
      clear A140
      by_cases c15 : t505 = true
      ·subst c15
       have H1 : (spec_l29Maze.l0 k1 a1 (wrap64 (x6_1 + 1)) a0_0 a0_1 a0_2 a0_3 l0_4 x504000_1 x504001_1 x504002_1) = some (r1, r2, r3) := by rw [if_pos rfl] at H; exact H
       clear H
       have H := H1
       clear H1
       have H' := Aside0.mk H
       clear H
       have hnb16 := NB501_502.out
       have hnc16 := NB502_501.out
       have hnb17 := NB501_503.out
       have hnc17 := NB503_501.out
       obtain ⟨hcz18_0, hcz18_1, hcz18_2, hcz18_3, hcz18_4⟩ := cz5_ BK501.out
       obtain ⟨hfz18_0, hfz18_1, hfz18_2, hfz18_3, hfz18_4⟩ := fz5_ BK501.out
       try go_wp2
       replace BK501 := Aside0.mk (blk_drew BK501.out)
       replace BK502 := Aside0.mk (blk_drew BK502.out)
       replace BK503 := Aside0.mk (blk_drew BK503.out)
       replace HB := Aside0.mk (below_drew1 HB.out)
       have p504 : 0 ≤ (x6_1 : Int) := of_decide_eq_true (as_)
       have q504 : x6_1 < (l0_4.length : Int) := of_decide_eq_true (as_)
       obtain ⟨ad504, e504, hx504_0, hx504_1⟩ := at_T56 HR0_4.out x6_1 p504 q504
       have hw504_1 := hx504_1
       have hw504_0 := hx504_0
       cases e504
       replace hx504_0 := (HB.out.cell (World.block_lt_of_cell? w _ hx504_0)).trans hx504_0
       replace hx504_1 := (HB.out.cell (World.block_lt_of_cell? w _ hx504_1)).trans hx504_1
       replace p504 := eq_true p504
       replace q504 := eq_true q504
       refine start_ (n := 12) (S := fun w' => w'.cell? ⟨gb501, 0, none⟩ = some (.int .i64 a0_0) ∧ w'.cell? ⟨gb501, 1, none⟩ = some (.int .i64 a0_1) ∧ w'.cell? ⟨gb501, 2, none⟩ = some (.int .i64 a0_2) ∧ w'.cell? ⟨gb501, 3, none⟩ = some (.int .i64 a0_3) ∧ w'.cell? ⟨gb501, 4, none⟩ = some (.slice (some ad504) l0_4.length c0_4) ∧ w'.cell? (ad504.add ((x6_1).toNat * 2)) = some (.int .i64 ((rd_T56 l0_4 x6_1).f0)) ∧ w'.cell? ⟨(ad504.add ((x6_1).toNat * 2)).block, (ad504.add ((x6_1).toNat * 2)).off + 1, none⟩ = some (.int .i64 ((rd_T56 l0_4 x6_1).f1))) (ds := []) #[false, false, false, false, false, false, false, false, false, false, false, false] (by kernel_rfl) rfl rfl ⟨BK501.c 0, BK501.c 1, BK501.c 2, BK501.c 3, BK501.c 4, ((HB.out.cell (World.block_lt_of_cell? w _ hw504_0)).trans hw504_0), ((HB.out.cell (World.block_lt_of_cell? w _ hw504_1)).trans hw504_1)⟩ (fun hHeld => ?_); refine with_tabW spec_l29Maze.tab5 spec_l29Maze.bits5 (fun HT_ HW_ => ?_)
       generalize wr.drew = w19 at BK501 BK502 BK503 HB hx504_0 hx504_1 hHeld ⊢
       refine pv_ (i := 0) (N := some 16) HT_.out ?_
       refine pv_ (i := 2) (N := some 18) HT_.out ?_
       refine pv_ (i := 6) (N := some 22) HT_.out ?_
       refine pv_ (i := 7) (N := some 23) HT_.out ?_
       refine tv7_ (i := 1) (N := some 17) HT_.out HW_.out hHeld ?_
       refine pv_ (i := 3) (N := some 19) HT_.out ?_
       refine pv_ (i := 4) (N := some 20) HT_.out ?_
       refine tv7_ (i := 5) (N := some 21) HT_.out HW_.out hHeld ?_
       refine tv7_ (i := 8) (N := some 24) HT_.out HW_.out hHeld ?_
       refine pv_ (i := 9) (N := some 25) HT_.out ?_
       refine ov_ (i := 10) (N := some 26) HT_.out (fun K hK => ?_)
       refine gq_ Try.func32 #[.int .i64 ((rd_T56 l0_4 x6_1).f1), .int .i64 (Int.tmod a1 a0_3)] ?_
       with_reducible refine (spec_l03Bit.calls ((rd_T56 l0_4 x6_1).f1) (Int.tmod a1 a0_3) true _ A14.out).mono ?_
       rintro e w' ⟨rfl, ⟨nd, rfl⟩⟩
       refine ⟨_, rfl, ?_⟩
       refine hK.out _ _ ⟨BK501.c 0, BK501.c 1, BK501.c 2, BK501.c 3, BK501.c 4, ((HB.out.cell (World.block_lt_of_cell? w _ hw504_0)).trans hw504_0), ((HB.out.cell (World.block_lt_of_cell? w _ hw504_1)).trans hw504_1)⟩ (fun hHeld => ?_)
       clear hK K
       refine nm_ ?_
       refine pv_ (i := 11) (N := some 27) HT_.out ?_
       refine done_ (done_of HT_.out (by kernel_rfl)) ?_
       try go_wp2
       go_roundg k1
       case measure => have := HK1.out; omega
       case rel => exact ⟨(wrap64 (x6_1 + 1)), (x504000_1), (x504001_1), (x504002_1), (by first | rfl | (simp; done) | (simp [*]; done)), H', ⟨by have := HK1.out; omega⟩, ⟨bk_ BK501.out⟩, ⟨bk_ BK502.out⟩, ⟨bk_ BK503.out⟩, ⟨hb3_ HB.out GE501.out GE502.out GE503.out⟩⟩
      ·replace c15 := Bool.eq_false_iff.mpr c15
       subst c15
       have H1 : ((spec_SetGap.f k1 x504000_1 x504001_1 x504002_1 ((rd_T56 l0_4 x6_1).f0) false).bind fun bt507 => (spec_l29Maze.l0 k1 a1 (wrap64 (x6_1 + 1)) a0_0 a0_1 a0_2 a0_3 l0_4 bt507.1 bt507.2.1 bt507.2.2.1)) = some (r1, r2, r3) := by rw [if_neg (show ¬ (false = true) by decide)] at H; exact H
       clear H
       have H := H1
       clear H1
       replace H := Option.bind_eq_some_iff.mp H
       obtain ⟨⟨t507, t508, t509, t510⟩, A200, H⟩ := H
       replace H : (spec_l29Maze.l0 k1 a1 (wrap64 (x6_1 + 1)) a0_0 a0_1 a0_2 a0_3 l0_4 t507 t508 t509) = some (r1, r2, r3) := H
       have A20 := Aside0.mk A200
       clear A200
       have H' := Aside0.mk H
       clear H
       have hnb21 := NB501_502.out
       have hnc21 := NB502_501.out
       have hnb22 := NB501_503.out
       have hnc22 := NB503_501.out
       obtain ⟨hcz23_0, hcz23_1, hcz23_2, hcz23_3, hcz23_4⟩ := cz5_ BK501.out
       obtain ⟨hfz23_0, hfz23_1, hfz23_2, hfz23_3, hfz23_4⟩ := fz5_ BK501.out
       try go_wp2
       replace BK501 := Aside0.mk (blk_drew BK501.out)
       replace BK502 := Aside0.mk (blk_drew BK502.out)
       replace BK503 := Aside0.mk (blk_drew BK503.out)
       replace HB := Aside0.mk (below_drew1 HB.out)
       have p504 : 0 ≤ (x6_1 : Int) := of_decide_eq_true (as_)
       have q504 : x6_1 < (l0_4.length : Int) := of_decide_eq_true (as_)
       obtain ⟨ad504, e504, hx504_0, hx504_1⟩ := at_T56 HR0_4.out x6_1 p504 q504
       have hw504_1 := hx504_1
       have hw504_0 := hx504_0
       cases e504
       replace hx504_0 := (HB.out.cell (World.block_lt_of_cell? w _ hx504_0)).trans hx504_0
       replace hx504_1 := (HB.out.cell (World.block_lt_of_cell? w _ hx504_1)).trans hx504_1
       replace p504 := eq_true p504
       replace q504 := eq_true q504
       refine start_ (n := 12) (S := fun w' => w'.cell? ⟨gb501, 0, none⟩ = some (.int .i64 a0_0) ∧ w'.cell? ⟨gb501, 1, none⟩ = some (.int .i64 a0_1) ∧ w'.cell? ⟨gb501, 2, none⟩ = some (.int .i64 a0_2) ∧ w'.cell? ⟨gb501, 3, none⟩ = some (.int .i64 a0_3) ∧ w'.cell? ⟨gb501, 4, none⟩ = some (.slice (some ad504) l0_4.length c0_4) ∧ w'.cell? (ad504.add ((x6_1).toNat * 2)) = some (.int .i64 ((rd_T56 l0_4 x6_1).f0)) ∧ w'.cell? ⟨(ad504.add ((x6_1).toNat * 2)).block, (ad504.add ((x6_1).toNat * 2)).off + 1, none⟩ = some (.int .i64 ((rd_T56 l0_4 x6_1).f1))) (ds := []) #[false, false, false, false, false, false, false, false, false, false, false, false] (by kernel_rfl) rfl rfl ⟨BK501.c 0, BK501.c 1, BK501.c 2, BK501.c 3, BK501.c 4, ((HB.out.cell (World.block_lt_of_cell? w _ hw504_0)).trans hw504_0), ((HB.out.cell (World.block_lt_of_cell? w _ hw504_1)).trans hw504_1)⟩ (fun hHeld => ?_); refine with_tabW spec_l29Maze.tab5 spec_l29Maze.bits5 (fun HT_ HW_ => ?_)
       generalize wr.drew = w24 at BK501 BK502 BK503 HB hx504_0 hx504_1 hHeld ⊢
       refine pv_ (i := 0) (N := some 16) HT_.out ?_
       refine pv_ (i := 2) (N := some 18) HT_.out ?_
       refine pv_ (i := 6) (N := some 22) HT_.out ?_
       refine pv_ (i := 7) (N := some 23) HT_.out ?_
       refine tv7_ (i := 1) (N := some 17) HT_.out HW_.out hHeld ?_
       refine pv_ (i := 3) (N := some 19) HT_.out ?_
       refine pv_ (i := 4) (N := some 20) HT_.out ?_
       refine tv7_ (i := 5) (N := some 21) HT_.out HW_.out hHeld ?_
       refine tv7_ (i := 8) (N := some 24) HT_.out HW_.out hHeld ?_
       refine pv_ (i := 9) (N := some 25) HT_.out ?_
       refine ov_ (i := 10) (N := some 26) HT_.out (fun K hK => ?_)
       refine gq_ Try.func32 #[.int .i64 ((rd_T56 l0_4 x6_1).f1), .int .i64 (Int.tmod a1 a0_3)] ?_
       with_reducible refine (spec_l03Bit.calls ((rd_T56 l0_4 x6_1).f1) (Int.tmod a1 a0_3) false _ A14.out).mono ?_
       rintro e w' ⟨rfl, ⟨nd, rfl⟩⟩
       refine ⟨_, rfl, ?_⟩
       refine hK.out _ _ ⟨BK501.c 0, BK501.c 1, BK501.c 2, BK501.c 3, BK501.c 4, ((HB.out.cell (World.block_lt_of_cell? w _ hw504_0)).trans hw504_0), ((HB.out.cell (World.block_lt_of_cell? w _ hw504_1)).trans hw504_1)⟩ (fun hHeld => ?_)
       clear hK K
       refine nm_ ?_
       refine pv_ (i := 11) (N := some 27) HT_.out ?_
       refine done_ (done_of HT_.out (by kernel_rfl)) ?_
       try go_wp2
       (try (rw [drewN_self w24]; generalize hq_ : World.drewN w24 _ = w24; have n0_ : Aside0 (w24.heap[gb501]? = some (.cells #[.int .i64 a0_0, .int .i64 a0_1, .int .i64 a0_2, .int .i64 a0_3, .slice (some ad504) l0_4.length c0_4] 36 (0, 0))) := ⟨by rw [← hq_]; exact (bk_ BK501.out)⟩; have n1_ : Aside0 (w24.heap[gb502]? = some (.cells #[.int .i64 0, .int .i64 0, .int .i64 0] 33 (0, 0))) := ⟨by rw [← hq_]; exact (bk_ BK502.out)⟩; have n2_ : Aside0 (w24.heap[gb503]? = some (.cells #[.int .i64 x504000_1, .int .i64 x504001_1, .int .i64 x504002_1] 33 (0, 0))) := ⟨by rw [← hq_]; exact (bk_ BK503.out)⟩; have n3_ : Aside0 (Below w.heap.size w w24) := ⟨by rw [← hq_]; exact (hb3_ HB.out GE501.out GE502.out GE503.out)⟩; clear BK501 BK502 BK503 HB hq_; have BK501 := n0_; have BK502 := n1_; have BK503 := n2_; have HB := n3_; clear n0_ n1_ n2_ n3_))
       replace BK501 := Aside0.mk (blk_drew BK501.out)
       replace BK502 := Aside0.mk (blk_drew BK502.out)
       replace BK503 := Aside0.mk (blk_drew BK503.out)
       replace HB := Aside0.mk (below_drew1 HB.out)
       have p506 : 0 ≤ (x6_1 : Int) := of_decide_eq_true (as_)
       have q506 : x6_1 < (l0_4.length : Int) := of_decide_eq_true (as_)
       obtain ⟨ad506, e506, hx506_0, hx506_1⟩ := at_T56 HR0_4.out x6_1 p506 q506
       have hw506_1 := hx506_1
       have hw506_0 := hx506_0
       obtain rfl : ad504 = ad506 := (by injection e506)
       replace hx506_0 := (HB.out.cell (World.block_lt_of_cell? w _ hx506_0)).trans hx506_0
       replace hx506_1 := (HB.out.cell (World.block_lt_of_cell? w _ hx506_1)).trans hx506_1
       replace p506 := eq_true p506
       replace q506 := eq_true q506
       refine start_ (n := 12) (S := fun w' => w'.cell? ⟨gb503, 0, none⟩ = some (.int .i64 x504000_1) ∧ w'.cell? ⟨gb503, 1, none⟩ = some (.int .i64 x504001_1) ∧ w'.cell? ⟨gb503, 2, none⟩ = some (.int .i64 x504002_1) ∧ w'.cell? ⟨gb501, 0, none⟩ = some (.int .i64 a0_0) ∧ w'.cell? ⟨gb501, 1, none⟩ = some (.int .i64 a0_1) ∧ w'.cell? ⟨gb501, 2, none⟩ = some (.int .i64 a0_2) ∧ w'.cell? ⟨gb501, 3, none⟩ = some (.int .i64 a0_3) ∧ w'.cell? ⟨gb501, 4, none⟩ = some (.slice (some ad504) l0_4.length c0_4) ∧ w'.cell? (ad504.add ((x6_1).toNat * 2)) = some (.int .i64 ((rd_T56 l0_4 x6_1).f0)) ∧ w'.cell? ⟨(ad504.add ((x6_1).toNat * 2)).block, (ad504.add ((x6_1).toNat * 2)).off + 1, none⟩ = some (.int .i64 ((rd_T56 l0_4 x6_1).f1))) (ds := [11]) #[false, false, false, false, false, false, false, false, false, false, false, false] (by kernel_rfl) rfl rfl ⟨BK503.c 0, BK503.c 1, BK503.c 2, BK501.c 0, BK501.c 1, BK501.c 2, BK501.c 3, BK501.c 4, ((HB.out.cell (World.block_lt_of_cell? w _ hw506_0)).trans hw506_0), ((HB.out.cell (World.block_lt_of_cell? w _ hw506_1)).trans hw506_1)⟩ (fun hHeld => ?_); refine with_tabW spec_l29Maze.tab6 spec_l29Maze.bits6 (fun HT_ HW_ => ?_)
       generalize w24.drew = w25 at BK501 BK502 BK503 HB hx506_0 hx506_1 hHeld ⊢
       refine pv_ (i := 1) (N := some 30) HT_.out ?_
       refine pv_ (i := 3) (N := some 32) HT_.out ?_
       refine tv10_ (i := 0) (N := some 29) HT_.out HW_.out hHeld ?_
       refine tv10_ (i := 2) (N := some 31) HT_.out HW_.out hHeld ?_
       refine pv_ (i := 4) (N := some 33) HT_.out ?_
       refine pv_ (i := 5) (N := some 34) HT_.out ?_
       refine tv10_ (i := 6) (N := some 35) HT_.out HW_.out hHeld ?_
       refine ov_ (i := 7) (N := some 36) HT_.out (fun K hK => ?_)
       refine gq_ Try.func56 #[.agg #[.int .i64 x504000_1, .int .i64 x504001_1, .int .i64 x504002_1], .int .i64 ((rd_T56 l0_4 x6_1).f0), .bool false] ?_
       with_reducible refine (spec_SetGap.calls k1 x504000_1 x504001_1 x504002_1 ((rd_T56 l0_4 x6_1).f0) false t507 t508 t509 t510 _ A20.out).mono ?_
       rintro e w26 ⟨rfl, hb⟩
       refine ⟨_, rfl, ?_⟩
       replace BK501 := BK501.bb hb
       replace BK502 := BK502.bb hb
       replace BK503 := BK503.bb hb
       replace HB := HB.s3 GE501 GE502 GE503 hb
       skip
       (try clear hb2)
       (try clear hk)
       (try clear hi)
       refine hK.out _ _ ⟨BK503.c 0, BK503.c 1, BK503.c 2, BK501.c 0, BK501.c 1, BK501.c 2, BK501.c 3, BK501.c 4, ((HB.out.cell (World.block_lt_of_cell? w _ hw506_0)).trans hw506_0), ((HB.out.cell (World.block_lt_of_cell? w _ hw506_1)).trans hw506_1)⟩ (fun hHeld => ?_)
       clear hK K
       refine nm_ ?_
       refine pv_ (i := 8) (N := some 28) HT_.out ?_
       refine pv_ (i := 9) (N := some 37) HT_.out ?_
       refine pv_ (i := 10) (N := some 38) HT_.out ?_
       refine last_ (i := 11) (N := none) #[true, true, true, true, true, true, true, true, true, true, true, true] rfl rfl (one_of HT_.out (by kernel_rfl)) (by decide) (fun K hK => ?_)
       have hs27 : w26.cell? ⟨gb503, 0, none⟩ = some (.int .i64 x504000_1) := BK503.c 0
       have hfs27 := blk_frozen BK503.out 0
       have hns27_0 := NB501_503.out
       have hns27_1 := NB502_503.out
       have hms27_0 := NB503_501.out
       have hms27_1 := NB503_502.out
       have hs28 : w26.cell? ⟨gb503, 1, none⟩ = some (.int .i64 x504001_1) := BK503.c 1
       have hfs28 := blk_frozen BK503.out 1
       have hns28_0 := NB501_503.out
       have hns28_1 := NB502_503.out
       have hms28_0 := NB503_501.out
       have hms28_1 := NB503_502.out
       have hs29 : w26.cell? ⟨gb503, 2, none⟩ = some (.int .i64 x504002_1) := BK503.c 2
       have hfs29 := blk_frozen BK503.out 2
       have hns29_0 := NB501_503.out
       have hns29_1 := NB502_503.out
       have hms29_0 := NB503_501.out
       have hms29_1 := NB503_502.out
       refine skip_ (w1 := ?_) (by rfl) rfl ?_ ?_
       rotate_left
       ·go_simp
        rfl
       refine hK.out _ _ ?_
       clear hK K
       refine done_ (done_of HT_.out (by kernel_rfl)) ?_
       try go_wp2
       go_roundg k1
       case measure => have := HK1.out; omega
       case rel => exact ⟨(wrap64 (x6_1 + 1)), (t507), (t508), (t509), (by first | rfl | (simp; done) | (simp [*]; done)), H', ⟨by have := HK1.out; omega⟩, ⟨by (with_reducible repeat (first | refine blk_drewN ?_ _ | refine blk_drew ?_ | refine blk_alloc ?_ _)); refine blk_far ?_ NB501_503.out _; (with_reducible repeat (first | refine blk_drewN ?_ _ | refine blk_drew ?_ | refine blk_alloc ?_ _)); refine blk_far ?_ NB501_503.out _; (with_reducible repeat (first | refine blk_drewN ?_ _ | refine blk_drew ?_ | refine blk_alloc ?_ _)); refine blk_far ?_ NB501_503.out _; (with_reducible repeat (first | refine blk_drewN ?_ _ | refine blk_drew ?_ | refine blk_alloc ?_ _)); exact BK501.out⟩, ⟨by (with_reducible repeat (first | refine blk_drewN ?_ _ | refine blk_drew ?_ | refine blk_alloc ?_ _)); refine blk_far ?_ NB502_503.out _; (with_reducible repeat (first | refine blk_drewN ?_ _ | refine blk_drew ?_ | refine blk_alloc ?_ _)); refine blk_far ?_ NB502_503.out _; (with_reducible repeat (first | refine blk_drewN ?_ _ | refine blk_drew ?_ | refine blk_alloc ?_ _)); refine blk_far ?_ NB502_503.out _; (with_reducible repeat (first | refine blk_drewN ?_ _ | refine blk_drew ?_ | refine blk_alloc ?_ _)); exact BK502.out⟩, ⟨bq3_ BK503.out⟩, ⟨hb3_ HB.out GE501.out GE502.out GE503.out⟩⟩
    ·rw [if_neg c12] at H
     exact absurd H (by simp)
   ·rw [if_neg c11] at H
    have c11b0 : decide (x6_1 < (l0_4.length : Int)) = false := decide_eq_false c11
    clear c11
    simp only [Option.some.injEq, Prod.mk.injEq] at H
    obtain ⟨rfl, rfl, rfl⟩ := H
    have hnb30 := NB501_502.out
    have hnc30 := NB502_501.out
    have hnb31 := NB501_503.out
    have hnc31 := NB503_501.out
    obtain ⟨hcz32_0, hcz32_1, hcz32_2, hcz32_3, hcz32_4⟩ := cz5_ BK501.out
    obtain ⟨hfz32_0, hfz32_1, hfz32_2, hfz32_3, hfz32_4⟩ := fz5_ BK501.out
    have hnb33 := NB503_502.out
    have hnc33 := NB502_503.out
    obtain ⟨hcz34_0, hcz34_1, hcz34_2⟩ := cz3_ BK503.out
    obtain ⟨hfz34_0, hfz34_1, hfz34_2⟩ := fz3_ BK503.out
    obtain ⟨hcz35_0, hcz35_1, hcz35_2⟩ := cz3_ BK502.out
    obtain ⟨hfz35_0, hfz35_1, hfz35_2⟩ := fz3_ BK502.out
    go_wp2
    refine bodyPost_ret (results_cell_row rfl _ _ gb502 33 #[.int .i64 x504000_1, .int .i64 x504001_1, .int .i64 x504002_1] (0, 0) _ rfl (bq3_ BK502.out) Try.underlying33 rfl (by kernel_rfl)) rfl ?_
    exact ⟨ex_, hb3_ HB.out GE501.out GE502.out GE503.out⟩

end Go.Proofs.Ytlfomjhjeknnmaa.X
