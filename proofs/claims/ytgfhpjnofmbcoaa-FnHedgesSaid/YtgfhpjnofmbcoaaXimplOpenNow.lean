-- Written by a program of this session (xprint.py), out of the translation and of hand-written contracts. Lean checks it.
import Derived.Test.YtgfhpjnofmbcoaaX0
import Derived.Test.YtgfhpjnofmbcoaaXcfill
import Derived.Test.YtgfhpjnofmbcoaaXchedge
namespace Go.Proofs.Ytgfhpjnofmbcoaa.X
open Go.RowKit Go.Proofs.YtgfhpjnofmbcoaaW.PrintWords Go.Proofs.YtgfhpjnofmbcoaaW.PrintLast Go.Proofs.YtgfhpjnofmbcoaaW.PrintMore
attribute [local go_sem] max2_int min2_int max_two min_two max_three min_three max_four min_four   -- for this text's walks alone
set_option linter.unusedVariables false
set_option linter.unusedSimpArgs false

/-! ### impl_OpenNow: function 8 -/
def impl_OpenNow.l0 : Nat → List Int → Int → Int → Int → Int → Int → List Int → Int → Int → Int → Int → Option (Int × Int × Int)
 | 0, _, _, _, _, _, _, _, _, _, _, _ => none
 | k + 1, x13, x14, x15, x502000, x502001, x502002, x502003, x502004, x505000, x505001, x505002 => if x15 < x14 then (if 0 ≤ x15 then (if x15 < (x13.length : Int) then (if (rd x13 x15) ≥ x502004 then ((impl_with.f x505000 x505001 x505002 x15 false).bind fun bt506 => (impl_OpenNow.l0 k x13 x14 (wrap64 (x15 + 1)) x502000 x502001 x502002 x502003 x502004 bt506.1 bt506.2.1 bt506.2.2)) else (impl_OpenNow.l0 k x13 x14 (wrap64 (x15 + 1)) x502000 x502001 x502002 x502003 x502004 x505000 x505001 x505002)) else (none)) else (none)) else (some (x505000, x505001, x505002))
def impl_OpenNow.f (k : Nat) (a0_0 : Int) (a0_1 : Int) (a0_2 : Int) (l0_3 : List Int) (a0_4 : Int) : Option (Int × Int × Int) := (impl_HedgeOk.f a0_0 a0_1 a0_2 l0_3 a0_4).bind fun t503 => (if t503 = true then (impl_OpenNow.l0 k l0_3 (l0_3.length : Int) 0 a0_0 a0_1 a0_2 l0_3 a0_4 a0_0 a0_1 a0_2) else (some (0, 0, 0)))
theorem impl_OpenNow.mono_l : ∀ k, (∀ y0 y1 y2 y3 y4 y5 y6 y7 y8 y9 y10, LeO (impl_OpenNow.l0 k y0 y1 y2 y3 y4 y5 y6 y7 y8 y9 y10) (impl_OpenNow.l0 (k + 1) y0 y1 y2 y3 y4 y5 y6 y7 y8 y9 y10))
 | 0 => fun _ _ _ _ _ _ _ _ _ _ _ r h => by simp [impl_OpenNow.l0] at h
 | k + 1 => by
  have ih0 := impl_OpenNow.mono_l k
  ·intro y0 y1 y2 y3 y4 y5 y6 y7 y8 y9 y10
   unfold impl_OpenNow.l0
   repeat' first
   | (with_reducible exact ih0 ..)
   | (with_reducible first | exact LeO.refl _ | exact LeO.none _ | refine LeO.ite ?_ ?_ | refine LeO.bind ?_ (fun _ => ?_))
   | exact ih0 ..
   | exact LeO.none _ | refine LeO.ite ?_ ?_ | refine LeO.bind ?_ (fun _ => ?_)
theorem impl_OpenNow.mono : ∀ a0 a1 a2 a3 a4 k, LeO (impl_OpenNow.f k a0 a1 a2 a3 a4) (impl_OpenNow.f (k + 1) a0 a1 a2 a3 a4) := by
 intro a0 a1 a2 a3 a4 k
 have ih0 := impl_OpenNow.mono_l k
 unfold impl_OpenNow.f
 repeat' first
   | (with_reducible exact ih0 ..)
   | (with_reducible first | exact LeO.refl _ | exact LeO.none _ | refine LeO.ite ?_ ?_ | refine LeO.bind ?_ (fun _ => ?_))
   | exact ih0 ..
   | exact LeO.none _ | refine LeO.ite ?_ ?_ | refine LeO.bind ?_ (fun _ => ?_)
set_option maxHeartbeats 8000000 in
set_option maxRecDepth 100000 in
theorem impl_OpenNow.calls (k : Nat) (a0_0 : Int) (a0_1 : Int) (a0_2 : Int) (A0_3 : Option Addr) (c0_3 : Nat) (l0_3 : List Int) (a0_4 : Int) (r1 : Int) (r2 : Int) (r3 : Int) (w : World) (hr0_3 : Kd.C (Kd.int .i64) w A0_3 l0_3.length l0_3) (hc0_3 : l0_3.length ≤ c0_3) (h : impl_OpenNow.f k a0_0 a0_1 a0_2 l0_3 a0_4 = some (r1, r2, r3)) :
  Calls Try.prog 8 #[.agg #[.int .i64 a0_0, .int .i64 a0_1, .int .i64 a0_2, .slice A0_3 l0_3.length c0_3, .int .i64 a0_4]] w fun e w' => e = .returned (.agg #[.int .i64 r1, .int .i64 r2, .int .i64 r3]) ∧ Below w.heap.size w w' := by
 have hu30 := Try.underlying30
 have hu27 := Try.underlying27
 have HR0_3 := Aside0.mk hr0_3
 have HC0_3 := Aside0.mk hc0_3
 clear hr0_3 hc0_3
 have HB := Aside0.mk (Below.refl w.heap.size w)
 have H : ((impl_HedgeOk.f a0_0 a0_1 a0_2 l0_3 a0_4).bind fun t503 => (if t503 = true then (impl_OpenNow.l0 k l0_3 (l0_3.length : Int) 0 a0_0 a0_1 a0_2 l0_3 a0_4 a0_0 a0_1 a0_2) else (some (0, 0, 0)))) = some (r1, r2, r3) := h
 clear h
 replace H := Option.bind_eq_some_iff.mp H
 obtain ⟨t503, A20, H⟩ := H
 replace H : (if t503 = true then (impl_OpenNow.l0 k l0_3 (l0_3.length : Int) 0 a0_0 a0_1 a0_2 l0_3 a0_4 a0_0 a0_1 a0_2) else (some (0, 0, 0))) = some (r1, r2, r3) := H
 have A2 := Aside0.mk A20
 clear A20
 by_cases c3 : t503 = true
 ·subst c3
  have H1 : (impl_OpenNow.l0 k l0_3 (l0_3.length : Int) 0 a0_0 a0_1 a0_2 l0_3 a0_4 a0_0 a0_1 a0_2) = some (r1, r2, r3) := by rw [if_pos rfl] at H; exact H
  clear H
  have H := H1
  clear H1
  have H' := Aside0.mk H
  clear H
  go_enter Try.func8, Try.ntmps8
  go_wp2_with ((with_reducible refine gw_ ?_); first | (refine box_ (N := 1) (cs := #[.int .i64 a0_0, .int .i64 a0_1, .int .i64 a0_2, .slice A0_3 l0_3.length c0_3, .int .i64 a0_4]) (t := 30) ?_; intro gb501 hg w4 hbox hb; have BK501 := Aside0.mk (hbox); have GW501 := HB.g0 hg; have GE501 := HB.g0 hg; replace HB := HB.s0 hb; clear hb hbox hg) | (refine box_ (N := 2) (cs := #[.int .i64 0, .int .i64 0, .int .i64 0]) (t := 27) ?_; intro gb502 hg w5 hbox hb; have BK502 := Aside0.mk (hbox); have GW502 := HB.g1 GE501 hg; have GE502 := HB.g1 GE501 hg; replace HB := HB.s1 GE501 hb; have NB501_502 := BK501.nl hg; have NB502_501 := BK501.nr hg; replace BK501 := BK501.bb hb; clear hb hbox hg; have hnb6 := NB501_502.out; have hnc6 := NB502_501.out; obtain ⟨hcz7_0, hcz7_1, hcz7_2, hcz7_3, hcz7_4⟩ := cz5_ BK501.out; obtain ⟨hfz7_0, hfz7_1, hfz7_2, hfz7_3, hfz7_4⟩ := fz5_ BK501.out) | (refine gl_ 7 Try.func19 #[.agg #[.int .i64 a0_0, .int .i64 a0_1, .int .i64 a0_2, .slice A0_3 l0_3.length c0_3, .int .i64 a0_4]] ?_; (with_reducible refine (impl_HedgeOk.calls a0_0 a0_1 a0_2 _ _ l0_3 a0_4 true _ ?side1 ?side2 A2.out).mono ?_); (case side1 => repeat (first | exact (Kd.C_below HR0_3.out HB.out) | (with_reducible refine Kd.C_alloc ?_ _) | (with_reducible refine Kd.C_drewN ?_ _) | (with_reducible refine Kd.C_drew ?_))); (case side2 => exact HC0_3.out); rintro e w8 ⟨rfl, hb⟩; refine ⟨_, rfl, ?_⟩; replace BK501 := BK501.bb hb; replace BK502 := BK502.bb hb; replace HB := HB.s2 GE501 GE502 hb; (try clear hb); obtain ⟨hcz9_0, hcz9_1, hcz9_2, hcz9_3, hcz9_4⟩ := cz5_ BK501.out; obtain ⟨hfz9_0, hfz9_1, hfz9_2, hfz9_3, hfz9_4⟩ := fz5_ BK501.out) | (refine box_ (N := 3) (cs := #[.int .i64 0, .int .i64 0, .int .i64 0]) (t := 27) ?_; intro gb504 hg w10 hbox hb; have BK504 := Aside0.mk (hbox); have GW504 := HB.g2 GE501 GE502 hg; have GE504 := HB.g2 GE501 GE502 hg; replace HB := HB.s2 GE501 GE502 hb; have NB501_504 := BK501.nl hg; have NB504_501 := BK501.nr hg; replace BK501 := BK501.bb hb; have NB502_504 := BK502.nl hg; have NB504_502 := BK502.nr hg; replace BK502 := BK502.bb hb; clear hb hbox hg; have hnb11 := NB504_501.out; have hnc11 := NB501_504.out; have hnb12 := NB504_502.out; have hnc12 := NB502_504.out; obtain ⟨hcz13_0, hcz13_1, hcz13_2⟩ := cz3_ BK504.out; obtain ⟨hfz13_0, hfz13_1, hfz13_2⟩ := fz3_ BK504.out; obtain ⟨hcz14_0, hcz14_1, hcz14_2, hcz14_3, hcz14_4⟩ := cz5_ BK501.out; obtain ⟨hfz14_0, hfz14_1, hfz14_2, hfz14_3, hfz14_4⟩ := fz5_ BK501.out))
  go_loopg [15] k (fun kq v15 w' => ∃ (x15_1 : Int) (x505000_1 : Int) (x505001_1 : Int) (x505002_1 : Int), v15 = .int .i64 x15_1 ∧ Aside0 (impl_OpenNow.l0 kq l0_3 (l0_3.length : Int) x15_1 a0_0 a0_1 a0_2 l0_3 a0_4 x505000_1 x505001_1 x505002_1 = some (r1, r2, r3)) ∧ Aside0 (kq ≤ k) ∧ Aside0 (w'.heap[gb501]? = some (.cells #[.int .i64 a0_0, .int .i64 a0_1, .int .i64 a0_2, (.slice A0_3 l0_3.length c0_3), .int .i64 a0_4] 30 (0, 0))) ∧ Aside0 (w'.heap[gb502]? = some (.cells #[.int .i64 0, .int .i64 0, .int .i64 0] 27 (0, 0))) ∧ Aside0 (w'.heap[gb504]? = some (.cells #[.int .i64 x505000_1, .int .i64 x505001_1, .int .i64 x505002_1] 27 (0, 0))) ∧ Aside0 (Below w.heap.size w w'))
  case atStart => exact ⟨(0), (a0_0), (a0_1), (a0_2), (by first | rfl | (simp; done) | (simp [*]; done)), H', ⟨Nat.le_refl _⟩, ⟨by (with_reducible repeat (first | refine blk_drewN ?_ _ | refine blk_drew ?_ | refine blk_alloc ?_ _)); refine blk_far ?_ NB501_504.out _; (with_reducible repeat (first | refine blk_drewN ?_ _ | refine blk_drew ?_ | refine blk_alloc ?_ _)); refine blk_far ?_ NB501_504.out _; (with_reducible repeat (first | refine blk_drewN ?_ _ | refine blk_drew ?_ | refine blk_alloc ?_ _)); refine blk_far ?_ NB501_504.out _; (with_reducible repeat (first | refine blk_drewN ?_ _ | refine blk_drew ?_ | refine blk_alloc ?_ _)); exact BK501.out⟩, ⟨by (with_reducible repeat (first | refine blk_drewN ?_ _ | refine blk_drew ?_ | refine blk_alloc ?_ _)); refine blk_far ?_ NB502_504.out _; (with_reducible repeat (first | refine blk_drewN ?_ _ | refine blk_drew ?_ | refine blk_alloc ?_ _)); refine blk_far ?_ NB502_504.out _; (with_reducible repeat (first | refine blk_drewN ?_ _ | refine blk_drew ?_ | refine blk_alloc ?_ _)); refine blk_far ?_ NB502_504.out _; (with_reducible repeat (first | refine blk_drewN ?_ _ | refine blk_drew ?_ | refine blk_alloc ?_ _)); exact BK502.out⟩, ⟨bq3_ BK504.out⟩, ⟨hb3_ HB.out GE501.out GE502.out GE504.out⟩⟩
  case round =>
   clear H'
   try clear c1
   try clear p2
   try clear c3
   try clear c6
   try clear c8
   try clear c11
   try clear c12
   try clear hcz13_0
   try clear hcz13_1
   try clear hcz13_2
   try clear hcz14_0
   try clear hcz14_1
   try clear hcz14_2
   try clear hcz14_3
   try clear hcz14_4
   try clear hcz7_0
   try clear hcz7_1
   try clear hcz7_2
   try clear hcz7_3
   try clear hcz7_4
   try clear hcz9_0
   try clear hcz9_1
   try clear hcz9_2
   try clear hcz9_3
   try clear hcz9_4
   try clear hfz13_0
   try clear hfz13_1
   try clear hfz13_2
   try clear hfz14_0
   try clear hfz14_1
   try clear hfz14_2
   try clear hfz14_3
   try clear hfz14_4
   try clear hfz7_0
   try clear hfz7_1
   try clear hfz7_2
   try clear hfz7_3
   try clear hfz7_4
   try clear hfz9_0
   try clear hfz9_1
   try clear hfz9_2
   try clear hfz9_3
   try clear hfz9_4
   obtain ⟨x15_1, x505000_1, x505001_1, x505002_1, rfl, HA, HK1, BK501, BK502, BK504, HB⟩ := hrel
   cases gk with
   | zero => exact absurd HA.out (by simp [impl_OpenNow.l0])
   | succ k1 =>
    have H := HA.out
    clear HA
    simp only [impl_OpenNow.l0] at H
    by_cases c15 : x15_1 < (l0_3.length : Int)
    ·rw [if_pos c15] at H
     have c15b0 : decide (x15_1 < (l0_3.length : Int)) = true := decide_eq_true c15
     clear c15
     by_cases c16 : 0 ≤ x15_1
     ·rw [if_pos c16] at H
      have c16b0 : decide (0 ≤ x15_1) = true := decide_eq_true c16
      clear c16
      by_cases c17 : x15_1 < (l0_3.length : Int)
      ·rw [if_pos c17] at H
       have c17b0 : decide (x15_1 < (l0_3.length : Int)) = true := decide_eq_true c17
       clear c17
       by_cases c18 : (rd l0_3 x15_1) ≥ a0_4
       ·rw [if_pos c18] at H
        have c18b0 : decide (a0_4 ≤ (rd l0_3 x15_1)) = true := decide_eq_true c18
        clear c18
        replace H := Option.bind_eq_some_iff.mp H
        obtain ⟨⟨t506, t507, t508⟩, A190, H⟩ := H
        replace H : (impl_OpenNow.l0 k1 l0_3 (l0_3.length : Int) (wrap64 (x15_1 + 1)) a0_0 a0_1 a0_2 l0_3 a0_4 t506 t507 t508) = some (r1, r2, r3) := H
        have A19 := Aside0.mk A190
        clear A190
        have H' := Aside0.mk H
        clear H
        have p505 : 0 ≤ (x15_1 : Int) := of_decide_eq_true (as_)
        have q505 : x15_1 < (l0_3.length : Int) := of_decide_eq_true (as_)
        obtain ⟨ad505, e505, hx505_0⟩ := Kd.at_int HR0_3.out x15_1 p505 q505
        cases e505
        replace hx505_0 := (HB.out.cell (World.block_lt_of_cell? w _ hx505_0)).trans hx505_0
        replace p505 := eq_true p505
        replace q505 := eq_true q505
        have hnb20 := NB501_502.out
        have hnc20 := NB502_501.out
        have hnb21 := NB501_504.out
        have hnc21 := NB504_501.out
        obtain ⟨hcz22_0, hcz22_1, hcz22_2, hcz22_3, hcz22_4⟩ := cz5_ BK501.out
        obtain ⟨hfz22_0, hfz22_1, hfz22_2, hfz22_3, hfz22_4⟩ := fz5_ BK501.out
        have hnb23 := NB504_502.out
        have hnc23 := NB502_504.out
        obtain ⟨hcz24_0, hcz24_1, hcz24_2⟩ := cz3_ BK504.out
        obtain ⟨hfz24_0, hfz24_1, hfz24_2⟩ := fz3_ BK504.out
        go_wp2_with ((with_reducible refine gw_ ?_); first | (refine gl_ 26 Try.func21 #[.agg #[.int .i64 x505000_1, .int .i64 x505001_1, .int .i64 x505002_1], .int .i64 x15_1, .bool false] ?_; (with_reducible refine (impl_with.calls x505000_1 x505001_1 x505002_1 x15_1 false t506 t507 t508 _ A19.out).mono ?_); rintro e w25 ⟨rfl, hb⟩; refine ⟨_, rfl, ?_⟩; replace BK501 := BK501.bb hb; replace BK502 := BK502.bb hb; replace BK504 := BK504.bb hb; replace HB := HB.s3 GE501 GE502 GE504 hb; (try clear hb); obtain ⟨hcz26_0, hcz26_1, hcz26_2⟩ := cz3_ BK504.out; obtain ⟨hfz26_0, hfz26_1, hfz26_2⟩ := fz3_ BK504.out))
        go_roundg k1
        case measure => have := HK1.out; omega
        case rel => exact ⟨(wrap64 (x15_1 + 1)), (t506), (t507), (t508), (by first | rfl | (simp; done) | (simp [*]; done)), H', ⟨by have := HK1.out; omega⟩, ⟨by (with_reducible repeat (first | refine blk_drewN ?_ _ | refine blk_drew ?_ | refine blk_alloc ?_ _)); refine blk_far ?_ NB501_504.out _; (with_reducible repeat (first | refine blk_drewN ?_ _ | refine blk_drew ?_ | refine blk_alloc ?_ _)); refine blk_far ?_ NB501_504.out _; (with_reducible repeat (first | refine blk_drewN ?_ _ | refine blk_drew ?_ | refine blk_alloc ?_ _)); refine blk_far ?_ NB501_504.out _; (with_reducible repeat (first | refine blk_drewN ?_ _ | refine blk_drew ?_ | refine blk_alloc ?_ _)); exact BK501.out⟩, ⟨by (with_reducible repeat (first | refine blk_drewN ?_ _ | refine blk_drew ?_ | refine blk_alloc ?_ _)); refine blk_far ?_ NB502_504.out _; (with_reducible repeat (first | refine blk_drewN ?_ _ | refine blk_drew ?_ | refine blk_alloc ?_ _)); refine blk_far ?_ NB502_504.out _; (with_reducible repeat (first | refine blk_drewN ?_ _ | refine blk_drew ?_ | refine blk_alloc ?_ _)); refine blk_far ?_ NB502_504.out _; (with_reducible repeat (first | refine blk_drewN ?_ _ | refine blk_drew ?_ | refine blk_alloc ?_ _)); exact BK502.out⟩, ⟨bq3_ BK504.out⟩, ⟨hb3_ HB.out GE501.out GE502.out GE504.out⟩⟩
       ·rw [if_neg c18] at H
        have c18b0 : decide (a0_4 ≤ (rd l0_3 x15_1)) = false := decide_eq_false c18
        clear c18
        have H' := Aside0.mk H
        clear H
        have p505 : 0 ≤ (x15_1 : Int) := of_decide_eq_true (as_)
        have q505 : x15_1 < (l0_3.length : Int) := of_decide_eq_true (as_)
        obtain ⟨ad505, e505, hx505_0⟩ := Kd.at_int HR0_3.out x15_1 p505 q505
        cases e505
        replace hx505_0 := (HB.out.cell (World.block_lt_of_cell? w _ hx505_0)).trans hx505_0
        replace p505 := eq_true p505
        replace q505 := eq_true q505
        have hnb27 := NB501_502.out
        have hnc27 := NB502_501.out
        have hnb28 := NB501_504.out
        have hnc28 := NB504_501.out
        obtain ⟨hcz29_0, hcz29_1, hcz29_2, hcz29_3, hcz29_4⟩ := cz5_ BK501.out
        obtain ⟨hfz29_0, hfz29_1, hfz29_2, hfz29_3, hfz29_4⟩ := fz5_ BK501.out
        go_wp2
        go_roundg k1
        case measure => have := HK1.out; omega
        case rel => exact ⟨(wrap64 (x15_1 + 1)), (x505000_1), (x505001_1), (x505002_1), (by first | rfl | (simp; done) | (simp [*]; done)), H', ⟨by have := HK1.out; omega⟩, ⟨bk_ BK501.out⟩, ⟨bk_ BK502.out⟩, ⟨bk_ BK504.out⟩, ⟨hb3_ HB.out GE501.out GE502.out GE504.out⟩⟩
      ·rw [if_neg c17] at H
       exact absurd H (by simp)
     ·rw [if_neg c16] at H
      exact absurd H (by simp)
    ·rw [if_neg c15] at H
     have c15b0 : decide (x15_1 < (l0_3.length : Int)) = false := decide_eq_false c15
     clear c15
     simp only [Option.some.injEq, Prod.mk.injEq] at H
     obtain ⟨rfl, rfl, rfl⟩ := H
     have hnb30 := NB504_501.out
     have hnc30 := NB501_504.out
     have hnb31 := NB504_502.out
     have hnc31 := NB502_504.out
     obtain ⟨hcz32_0, hcz32_1, hcz32_2⟩ := cz3_ BK504.out
     obtain ⟨hfz32_0, hfz32_1, hfz32_2⟩ := fz3_ BK504.out
     have hnb33 := NB502_501.out
     have hnc33 := NB501_502.out
     obtain ⟨hcz34_0, hcz34_1, hcz34_2⟩ := cz3_ BK502.out
     obtain ⟨hfz34_0, hfz34_1, hfz34_2⟩ := fz3_ BK502.out
     go_wp2
     refine bodyPost_ret (results_cell_row rfl _ _ gb502 27 #[.int .i64 x505000_1, .int .i64 x505001_1, .int .i64 x505002_1] (0, 0) _ rfl (bq3_ BK502.out) Try.underlying27 rfl (by kernel_rfl)) rfl ?_
     exact ⟨ex_, hb3_ HB.out GE501.out GE502.out GE504.out⟩
 ·replace c3 := Bool.eq_false_iff.mpr c3
  subst c3
  have H1 : (some (0, 0, 0)) = some (r1, r2, r3) := by rw [if_neg (show ¬ (false = true) by decide)] at H; exact H
  clear H
  have H := H1
  clear H1
  simp only [Option.some.injEq, Prod.mk.injEq] at H
  obtain ⟨rfl, rfl, rfl⟩ := H
  go_enter Try.func8, Try.ntmps8
  go_wp2_with ((with_reducible refine gw_ ?_); first | (refine box_ (N := 1) (cs := #[.int .i64 a0_0, .int .i64 a0_1, .int .i64 a0_2, .slice A0_3 l0_3.length c0_3, .int .i64 a0_4]) (t := 30) ?_; intro gb501 hg w35 hbox hb; have BK501 := Aside0.mk (hbox); have GW501 := HB.g0 hg; have GE501 := HB.g0 hg; replace HB := HB.s0 hb; clear hb hbox hg) | (refine box_ (N := 2) (cs := #[.int .i64 0, .int .i64 0, .int .i64 0]) (t := 27) ?_; intro gb502 hg w36 hbox hb; have BK502 := Aside0.mk (hbox); have GW502 := HB.g1 GE501 hg; have GE502 := HB.g1 GE501 hg; replace HB := HB.s1 GE501 hb; have NB501_502 := BK501.nl hg; have NB502_501 := BK501.nr hg; replace BK501 := BK501.bb hb; clear hb hbox hg; have hnb37 := NB501_502.out; have hnc37 := NB502_501.out; obtain ⟨hcz38_0, hcz38_1, hcz38_2, hcz38_3, hcz38_4⟩ := cz5_ BK501.out; obtain ⟨hfz38_0, hfz38_1, hfz38_2, hfz38_3, hfz38_4⟩ := fz5_ BK501.out) | (refine gl_ 7 Try.func19 #[.agg #[.int .i64 a0_0, .int .i64 a0_1, .int .i64 a0_2, .slice A0_3 l0_3.length c0_3, .int .i64 a0_4]] ?_; (with_reducible refine (impl_HedgeOk.calls a0_0 a0_1 a0_2 _ _ l0_3 a0_4 false _ ?side1 ?side2 A2.out).mono ?_); (case side1 => repeat (first | exact (Kd.C_below HR0_3.out HB.out) | (with_reducible refine Kd.C_alloc ?_ _) | (with_reducible refine Kd.C_drewN ?_ _) | (with_reducible refine Kd.C_drew ?_))); (case side2 => exact HC0_3.out); rintro e w39 ⟨rfl, hb⟩; refine ⟨_, rfl, ?_⟩; replace BK501 := BK501.bb hb; replace BK502 := BK502.bb hb; replace HB := HB.s2 GE501 GE502 hb; (try clear hb); obtain ⟨hcz40_0, hcz40_1, hcz40_2⟩ := cz3_ BK502.out; obtain ⟨hfz40_0, hfz40_1, hfz40_2⟩ := fz3_ BK502.out))
  refine bodyPost_ret (results_cell_row rfl _ _ gb502 27 #[.int .i64 0, .int .i64 0, .int .i64 0] (0, 0) _ rfl (bq3_ BK502.out) Try.underlying27 rfl (by kernel_rfl)) rfl ?_
  exact ⟨ex_, hb2_ HB.out GE501.out GE502.out⟩

end Go.Proofs.Ytgfhpjnofmbcoaa.X
