-- Written by a program of this session (xprint.py), out of the translation and of hand-written contracts. Lean checks it.
import Derived.Test.YtbdodiaedocmjaaDoorX0
import Derived.Test.YtbdodiaedocmjaaDoorXcswapi
import Derived.Test.YtbdodiaedocmjaaDoorXimplSwapTowards
import Derived.Test.YtbdodiaedocmjaaDoorXmathbitsTrailingZeros
namespace Go.Proofs.YtbdodiaedocmjaaDoor.X
open Go.RowKit Go.Proofs.YtbdodiaedocmjaaDoorW.PrintWords Go.Proofs.YtbdodiaedocmjaaDoorW.PrintLast Go.Proofs.YtbdodiaedocmjaaDoorW.PrintMore
attribute [local go_sem] max2_int min2_int max_two min_two max_three min_three max_four min_four   -- for this text's walks alone
set_option linter.unusedVariables false
set_option linter.unusedSimpArgs false

/-! ### impl_SwapsBetween: function 10 -/
def impl_SwapsBetween.l0 : Nat → Int → Int → Int → Int → Int → Int → Int → Option (Int)
 | 0, _, _, _, _, _, _, _ => none
 | k + 1, x5, x502000, x502001, x502002, x503000, x503001, x503002 => (impl_GapsApart.f k x502000 x502001 x502002 x503000 x503001 x503002).bind fun t503 => (if t503 > 0 then ((impl_SwapTowards.f k x502000 x502001 x502002 x503000 x503001 x503002).bind fun bt504 => (if bt504.2.2.2 = true then (impl_SwapsBetween.l0 k (wrap64 (x5 + 1)) bt504.1 bt504.2.1 bt504.2.2.1 x503000 x503001 x503002) else ((impl_GapsApart.f k x502000 x502001 x502002 x503000 x503001 x503002).bind fun t509 => (if t509 < 0 then (some (-1)) else (some x5))))) else ((impl_GapsApart.f k x502000 x502001 x502002 x503000 x503001 x503002).bind fun t510 => (if t510 < 0 then (some (-1)) else (some x5))))
def impl_SwapsBetween.f (k : Nat) (a0_0 : Int) (a0_1 : Int) (a0_2 : Int) (a1_0 : Int) (a1_1 : Int) (a1_2 : Int) : Option (Int) := impl_SwapsBetween.l0 k 0 a0_0 a0_1 a0_2 a1_0 a1_1 a1_2
theorem impl_SwapsBetween.mono_l : ∀ k, (∀ y0 y1 y2 y3 y4 y5 y6, LeO (impl_SwapsBetween.l0 k y0 y1 y2 y3 y4 y5 y6) (impl_SwapsBetween.l0 (k + 1) y0 y1 y2 y3 y4 y5 y6))
 | 0 => fun _ _ _ _ _ _ _ r h => by simp [impl_SwapsBetween.l0] at h
 | k + 1 => by
  have ih0 := impl_SwapsBetween.mono_l k
  ·intro y0 y1 y2 y3 y4 y5 y6
   unfold impl_SwapsBetween.l0
   repeat' first
   | (with_reducible exact ih0 ..)
   | (with_reducible exact impl_GapsApart.mono ..)
   | (with_reducible exact impl_SwapTowards.mono ..)
   | (with_reducible first | exact lr_ _ | exact ln_ _ | refine li_ ?_ ?_ | refine lb_ ?_ fun _ => ?_)
   | exact ih0 ..
   | exact impl_GapsApart.mono ..
   | exact impl_SwapTowards.mono ..
   | exact ln_ _ | refine li_ ?_ ?_ | refine lb_ ?_ fun _ => ?_
theorem impl_SwapsBetween.mono : ∀ a0 a1 a2 a3 a4 a5 k, LeO (impl_SwapsBetween.f k a0 a1 a2 a3 a4 a5) (impl_SwapsBetween.f (k + 1) a0 a1 a2 a3 a4 a5) := by
 intro a0 a1 a2 a3 a4 a5 k
 have ih0 := impl_SwapsBetween.mono_l k
 unfold impl_SwapsBetween.f
 repeat' first
   | (with_reducible exact ih0 ..)
   | (with_reducible exact impl_GapsApart.mono ..)
   | (with_reducible exact impl_SwapTowards.mono ..)
   | (with_reducible first | exact lr_ _ | exact ln_ _ | refine li_ ?_ ?_ | refine lb_ ?_ fun _ => ?_)
   | exact ih0 ..
   | exact impl_GapsApart.mono ..
   | exact impl_SwapTowards.mono ..
   | exact ln_ _ | refine li_ ?_ ?_ | refine lb_ ?_ fun _ => ?_
set_option maxHeartbeats 8000000 in
set_option maxRecDepth 100000 in
theorem impl_SwapsBetween.calls (k : Nat) (a0_0 : Int) (a0_1 : Int) (a0_2 : Int) (a1_0 : Int) (a1_1 : Int) (a1_2 : Int) (r : Int) (w : World) (h : impl_SwapsBetween.f k a0_0 a0_1 a0_2 a1_0 a1_1 a1_2 = some r) (ht : TzTab w) :
  Calls Tryd.prog 10 #[.agg #[.int .i64 a0_0, .int .i64 a0_1, .int .i64 a0_2], .agg #[.int .i64 a1_0, .int .i64 a1_1, .int .i64 a1_2]] w fun e w' => e = .returned (.int .i64 r) ∧ Below w.heap.size w w' := by
 have HZ := Aside0.mk ht
 clear ht
 have hu28 := Tryd.underlying28
 have HB := Aside0.mk (Below.refl w.heap.size w)
 have H : (impl_SwapsBetween.l0 k 0 a0_0 a0_1 a0_2 a1_0 a1_1 a1_2) = some r := h
 clear h
 have H' := Aside0.mk H
 clear H
 go_enter Tryd.func10, Tryd.ntmps10
 go_wp2_with (first | (refine box_ (N := 2) (cs := #[.int .i64 a0_0, .int .i64 a0_1, .int .i64 a0_2]) (t := 28) ?_; intro gb501 hg w3 hbox hb; have BK501 := Aside0.mk (hbox); have GW501 := HB.g0 hg; have GE501 := HB.g0 hg; replace HB := HB.s0 hb; clear hb hbox hg) | (refine box_ (N := 3) (cs := #[.int .i64 a1_0, .int .i64 a1_1, .int .i64 a1_2]) (t := 28) ?_; intro gb502 hg w4 hbox hb; have BK502 := Aside0.mk (hbox); have GW502 := HB.g1 GE501 hg; have GE502 := HB.g1 GE501 hg; replace HB := HB.s1 GE501 hb; have NB501_502 := BK501.nl hg; have NB502_501 := BK501.nr hg; replace BK501 := BK501.bb hb; clear hb hbox hg))
 go_loopg [5] k (fun kq v5 w' => ∃ (x5_1 : Int) (x502000_1 : Int) (x502001_1 : Int) (x502002_1 : Int), v5 = .int .i64 x5_1 ∧ Aside0 (impl_SwapsBetween.l0 kq x5_1 x502000_1 x502001_1 x502002_1 a1_0 a1_1 a1_2 = some r) ∧ Aside0 (kq ≤ k) ∧ Aside0 (w'.heap[gb501]? = some (.cells #[.int .i64 x502000_1, .int .i64 x502001_1, .int .i64 x502002_1] 28 (0, 0))) ∧ Aside0 (w'.heap[gb502]? = some (.cells #[.int .i64 a1_0, .int .i64 a1_1, .int .i64 a1_2] 28 (0, 0))) ∧ Aside0 (Below w.heap.size w w'))
 case atStart => exact ⟨(0), (a0_0), (a0_1), (a0_2), (by first | rfl | (simp; done) | (simp [*]; done)), H', ⟨Nat.le_refl _⟩, ⟨bk_ BK501.out⟩, ⟨bk_ BK502.out⟩, ⟨hb2_ HB.out GE501.out GE502.out⟩⟩
 case round =>
  clear H'
  try clear c1
  try clear p2
  obtain ⟨x5_1, x502000_1, x502001_1, x502002_1, rfl, HA, HK1, BK501, BK502, HB⟩ := hrel
  cases gk with
  | zero => exact absurd HA.out (by simp [impl_SwapsBetween.l0])
  | succ k1 =>
   have H := HA.out
   clear HA
   simp only [impl_SwapsBetween.l0] at H
   replace H := Option.bind_eq_some_iff.mp H
   obtain ⟨t503, A50, H⟩ := H
   replace H : (if t503 > 0 then ((impl_SwapTowards.f k1 x502000_1 x502001_1 x502002_1 a1_0 a1_1 a1_2).bind fun bt504 => (if bt504.2.2.2 = true then (impl_SwapsBetween.l0 k1 (wrap64 (x5_1 + 1)) bt504.1 bt504.2.1 bt504.2.2.1 a1_0 a1_1 a1_2) else ((impl_GapsApart.f k1 x502000_1 x502001_1 x502002_1 a1_0 a1_1 a1_2).bind fun t509 => (if t509 < 0 then (some (-1)) else (some x5_1))))) else ((impl_GapsApart.f k1 x502000_1 x502001_1 x502002_1 a1_0 a1_1 a1_2).bind fun t510 => (if t510 < 0 then (some (-1)) else (some x5_1)))) = some r := H
   have A5 := Aside0.mk A50
   clear A50
   by_cases c6 : t503 > 0
   ·rw [if_pos c6] at H
    have c6b0 : decide (0 < t503) = true := decide_eq_true c6
    clear c6
    replace H := Option.bind_eq_some_iff.mp H
    obtain ⟨⟨t504, t505, t506, t507⟩, A70, H⟩ := H
    replace H : (if t507 = true then (impl_SwapsBetween.l0 k1 (wrap64 (x5_1 + 1)) t504 t505 t506 a1_0 a1_1 a1_2) else ((impl_GapsApart.f k1 x502000_1 x502001_1 x502002_1 a1_0 a1_1 a1_2).bind fun t509 => (if t509 < 0 then (some (-1)) else (some x5_1)))) = some r := H
    have A7 := Aside0.mk A70
    clear A70
    by_cases c8 : t507 = true
    ·subst c8
     have H1 : (impl_SwapsBetween.l0 k1 (wrap64 (x5_1 + 1)) t504 t505 t506 a1_0 a1_1 a1_2) = some r := by rw [if_pos rfl] at H; exact H
     clear H
     have H := H1
     clear H1
     have H' := Aside0.mk H
     clear H
     have hnb9 := NB501_502.out
     have hnc9 := NB502_501.out
     obtain ⟨hcz10_0, hcz10_1, hcz10_2⟩ := cz3_ BK501.out
     obtain ⟨hfz10_0, hfz10_1, hfz10_2⟩ := fz3_ BK501.out
     obtain ⟨hcz11_0, hcz11_1, hcz11_2⟩ := cz3_ BK502.out
     obtain ⟨hfz11_0, hfz11_1, hfz11_2⟩ := fz3_ BK502.out
     go_wp2_with (first | (refine gl_ 10 Tryd.func17 #[.agg #[.int .i64 x502000_1, .int .i64 x502001_1, .int .i64 x502002_1], .agg #[.int .i64 a1_0, .int .i64 a1_1, .int .i64 a1_2]] ?_; (with_reducible refine (impl_GapsApart.calls k1 x502000_1 x502001_1 x502002_1 a1_0 a1_1 a1_2 t503 _ A5.out).mono ?_); rintro e w12 ⟨rfl, hb⟩; refine ⟨_, rfl, ?_⟩; replace BK501 := BK501.bb hb; replace BK502 := BK502.bb hb; replace HB := HB.s2 GE501 GE502 hb; (try clear hb); obtain ⟨hcz13_0, hcz13_1, hcz13_2⟩ := cz3_ BK501.out; obtain ⟨hfz13_0, hfz13_1, hfz13_2⟩ := fz3_ BK501.out; obtain ⟨hcz14_0, hcz14_1, hcz14_2⟩ := cz3_ BK502.out; obtain ⟨hfz14_0, hfz14_1, hfz14_2⟩ := fz3_ BK502.out) | (refine gl_ 15 Tryd.func7 #[.agg #[.int .i64 x502000_1, .int .i64 x502001_1, .int .i64 x502002_1], .agg #[.int .i64 a1_0, .int .i64 a1_1, .int .i64 a1_2]] ?_; (with_reducible refine (impl_SwapTowards.calls k1 x502000_1 x502001_1 x502002_1 a1_0 a1_1 a1_2 t504 t505 t506 true _ A7.out (HZ.out.move (Nat.le_refl _) (by repeat (first | (with_reducible first | exact HB.out | exact Below.refl _ _ | apply below_alloc | apply pw_below_drewN | apply below_drew1 | refine below_set ?_ GE501.out | refine below_set ?_ GE502.out) | exact HB.out)))).mono ?_); rintro e w15 ⟨rfl, hb⟩; refine ⟨_, rfl, ?_⟩; replace BK501 := BK501.bb hb; replace BK502 := BK502.bb hb; replace HB := HB.s2 GE501 GE502 hb; (try clear hb)) | (refine box_ (N := 6) (cs := #[.int .i64 0, .int .i64 0, .int .i64 0]) (t := 28) ?_; intro gb508 hg w16 hbox hb; have BK508 := Aside0.mk (hbox); have GW508 := HB.g2 GE501 GE502 hg; have GE508 := HB.g2 GE501 GE502 hg; replace HB := HB.s2 GE501 GE502 hb; have NB501_508 := BK501.nl hg; have NB508_501 := BK501.nr hg; replace BK501 := BK501.bb hb; have NB502_508 := BK502.nl hg; have NB508_502 := BK502.nr hg; replace BK502 := BK502.bb hb; clear hb hbox hg; have hnb17 := NB508_501.out; have hnc17 := NB501_508.out; have hnb18 := NB508_502.out; have hnc18 := NB502_508.out; obtain ⟨hcz19_0, hcz19_1, hcz19_2⟩ := cz3_ BK508.out; obtain ⟨hfz19_0, hfz19_1, hfz19_2⟩ := fz3_ BK508.out; obtain ⟨hcz20_0, hcz20_1, hcz20_2⟩ := cz3_ BK501.out; obtain ⟨hfz20_0, hfz20_1, hfz20_2⟩ := fz3_ BK501.out))
     go_roundg k1
     case measure => have := HK1.out; omega
     case rel => exact ⟨(wrap64 (x5_1 + 1)), (t504), (t505), (t506), (by first | rfl | (simp; done) | (simp [*]; done)), H', ⟨by have := HK1.out; omega⟩, ⟨by (with_reducible repeat (first | refine blk_drewN ?_ _ | refine blk_drew ?_ | refine blk_alloc ?_ _)); refine blk_put (cs := #[.int .i64 t504, .int .i64 t505, .int .i64 x502002_1]) ?_ 2 _ rfl; (with_reducible repeat (first | refine blk_drewN ?_ _ | refine blk_drew ?_ | refine blk_alloc ?_ _)); refine blk_put (cs := #[.int .i64 t504, .int .i64 x502001_1, .int .i64 x502002_1]) ?_ 1 _ rfl; (with_reducible repeat (first | refine blk_drewN ?_ _ | refine blk_drew ?_ | refine blk_alloc ?_ _)); refine blk_put (cs := #[.int .i64 x502000_1, .int .i64 x502001_1, .int .i64 x502002_1]) ?_ 0 _ rfl; (with_reducible repeat (first | refine blk_drewN ?_ _ | refine blk_drew ?_ | refine blk_alloc ?_ _)); refine blk_far ?_ NB501_508.out _; (with_reducible repeat (first | refine blk_drewN ?_ _ | refine blk_drew ?_ | refine blk_alloc ?_ _)); refine blk_far ?_ NB501_508.out _; (with_reducible repeat (first | refine blk_drewN ?_ _ | refine blk_drew ?_ | refine blk_alloc ?_ _)); refine blk_far ?_ NB501_508.out _; (with_reducible repeat (first | refine blk_drewN ?_ _ | refine blk_drew ?_ | refine blk_alloc ?_ _)); exact BK501.out⟩, ⟨by (with_reducible repeat (first | refine blk_drewN ?_ _ | refine blk_drew ?_ | refine blk_alloc ?_ _)); refine blk_far ?_ NB502_501.out _; (with_reducible repeat (first | refine blk_drewN ?_ _ | refine blk_drew ?_ | refine blk_alloc ?_ _)); refine blk_far ?_ NB502_501.out _; (with_reducible repeat (first | refine blk_drewN ?_ _ | refine blk_drew ?_ | refine blk_alloc ?_ _)); refine blk_far ?_ NB502_501.out _; (with_reducible repeat (first | refine blk_drewN ?_ _ | refine blk_drew ?_ | refine blk_alloc ?_ _)); refine blk_far ?_ NB502_508.out _; (with_reducible repeat (first | refine blk_drewN ?_ _ | refine blk_drew ?_ | refine blk_alloc ?_ _)); refine blk_far ?_ NB502_508.out _; (with_reducible repeat (first | refine blk_drewN ?_ _ | refine blk_drew ?_ | refine blk_alloc ?_ _)); refine blk_far ?_ NB502_508.out _; (with_reducible repeat (first | refine blk_drewN ?_ _ | refine blk_drew ?_ | refine blk_alloc ?_ _)); exact BK502.out⟩, ⟨hb3_ HB.out GE501.out GE502.out GE508.out⟩⟩
    ·replace c8 := Bool.eq_false_iff.mpr c8
     subst c8
     have H1 : ((impl_GapsApart.f k1 x502000_1 x502001_1 x502002_1 a1_0 a1_1 a1_2).bind fun t509 => (if t509 < 0 then (some (-1)) else (some x5_1))) = some r := by rw [if_neg (show ¬ (false = true) by decide)] at H; exact H
     clear H
     have H := H1
     clear H1
     replace H := Option.bind_eq_some_iff.mp H
     obtain ⟨t509, A210, H⟩ := H
     replace H : (if t509 < 0 then (some (-1)) else (some x5_1)) = some r := H
     have A21 := Aside0.mk A210
     clear A210
     by_cases c22 : t509 < 0
     ·rw [if_pos c22] at H
      have c22b0 : decide (t509 < 0) = true := decide_eq_true c22
      clear c22
      obtain rfl := Option.some.inj H
      have hnb23 := NB501_502.out
      have hnc23 := NB502_501.out
      obtain ⟨hcz24_0, hcz24_1, hcz24_2⟩ := cz3_ BK501.out
      obtain ⟨hfz24_0, hfz24_1, hfz24_2⟩ := fz3_ BK501.out
      obtain ⟨hcz25_0, hcz25_1, hcz25_2⟩ := cz3_ BK502.out
      obtain ⟨hfz25_0, hfz25_1, hfz25_2⟩ := fz3_ BK502.out
      go_wp2_with (first | (refine gl_ 10 Tryd.func17 #[.agg #[.int .i64 x502000_1, .int .i64 x502001_1, .int .i64 x502002_1], .agg #[.int .i64 a1_0, .int .i64 a1_1, .int .i64 a1_2]] ?_; (with_reducible refine (impl_GapsApart.calls k1 x502000_1 x502001_1 x502002_1 a1_0 a1_1 a1_2 t503 _ A5.out).mono ?_); rintro e w26 ⟨rfl, hb⟩; refine ⟨_, rfl, ?_⟩; replace BK501 := BK501.bb hb; replace BK502 := BK502.bb hb; replace HB := HB.s2 GE501 GE502 hb; (try clear hb); obtain ⟨hcz27_0, hcz27_1, hcz27_2⟩ := cz3_ BK501.out; obtain ⟨hfz27_0, hfz27_1, hfz27_2⟩ := fz3_ BK501.out; obtain ⟨hcz28_0, hcz28_1, hcz28_2⟩ := cz3_ BK502.out; obtain ⟨hfz28_0, hfz28_1, hfz28_2⟩ := fz3_ BK502.out) | (refine gl_ 15 Tryd.func7 #[.agg #[.int .i64 x502000_1, .int .i64 x502001_1, .int .i64 x502002_1], .agg #[.int .i64 a1_0, .int .i64 a1_1, .int .i64 a1_2]] ?_; (with_reducible refine (impl_SwapTowards.calls k1 x502000_1 x502001_1 x502002_1 a1_0 a1_1 a1_2 t504 t505 t506 false _ A7.out (HZ.out.move (Nat.le_refl _) (by repeat (first | (with_reducible first | exact HB.out | exact Below.refl _ _ | apply below_alloc | apply pw_below_drewN | apply below_drew1 | refine below_set ?_ GE501.out | refine below_set ?_ GE502.out) | exact HB.out)))).mono ?_); rintro e w29 ⟨rfl, hb⟩; refine ⟨_, rfl, ?_⟩; replace BK501 := BK501.bb hb; replace BK502 := BK502.bb hb; replace HB := HB.s2 GE501 GE502 hb; (try clear hb)) | (refine box_ (N := 6) (cs := #[.int .i64 0, .int .i64 0, .int .i64 0]) (t := 28) ?_; intro gb508 hg w30 hbox hb; have BK508 := Aside0.mk (hbox); have GW508 := HB.g2 GE501 GE502 hg; have GE508 := HB.g2 GE501 GE502 hg; replace HB := HB.s2 GE501 GE502 hb; have NB501_508 := BK501.nl hg; have NB508_501 := BK501.nr hg; replace BK501 := BK501.bb hb; have NB502_508 := BK502.nl hg; have NB508_502 := BK502.nr hg; replace BK502 := BK502.bb hb; clear hb hbox hg; have hnb31 := NB508_501.out; have hnc31 := NB501_508.out; have hnb32 := NB508_502.out; have hnc32 := NB502_508.out; obtain ⟨hcz33_0, hcz33_1, hcz33_2⟩ := cz3_ BK508.out; obtain ⟨hfz33_0, hfz33_1, hfz33_2⟩ := fz3_ BK508.out; obtain ⟨hcz34_0, hcz34_1, hcz34_2⟩ := cz3_ BK501.out; obtain ⟨hfz34_0, hfz34_1, hfz34_2⟩ := fz3_ BK501.out; obtain ⟨hcz35_0, hcz35_1, hcz35_2⟩ := cz3_ BK502.out; obtain ⟨hfz35_0, hfz35_1, hfz35_2⟩ := fz3_ BK502.out) | (refine gl_ 25 Tryd.func17 #[.agg #[.int .i64 x502000_1, .int .i64 x502001_1, .int .i64 x502002_1], .agg #[.int .i64 a1_0, .int .i64 a1_1, .int .i64 a1_2]] ?_; (with_reducible refine (impl_GapsApart.calls k1 x502000_1 x502001_1 x502002_1 a1_0 a1_1 a1_2 t509 _ A21.out).mono ?_); rintro e w36 ⟨rfl, hb⟩; refine ⟨_, rfl, ?_⟩; replace BK501 := Aside0.mk (blk_below (g := gb501) (o := .cells #[.int .i64 x502000_1, .int .i64 x502001_1, .int .i64 x502002_1] 28 (0, 0)) (by (with_reducible repeat (first | refine blk_drewN ?_ _ | refine blk_drew ?_ | refine blk_alloc ?_ _)); refine blk_far ?_ NB501_508.out _; (with_reducible repeat (first | refine blk_drewN ?_ _ | refine blk_drew ?_ | refine blk_alloc ?_ _)); refine blk_far ?_ NB501_508.out _; (with_reducible repeat (first | refine blk_drewN ?_ _ | refine blk_drew ?_ | refine blk_alloc ?_ _)); refine blk_far ?_ NB501_508.out _; (with_reducible repeat (first | refine blk_drewN ?_ _ | refine blk_drew ?_ | refine blk_alloc ?_ _)); exact BK501.out) hb); replace BK502 := Aside0.mk (blk_below (g := gb502) (o := .cells #[.int .i64 a1_0, .int .i64 a1_1, .int .i64 a1_2] 28 (0, 0)) (by (with_reducible repeat (first | refine blk_drewN ?_ _ | refine blk_drew ?_ | refine blk_alloc ?_ _)); refine blk_far ?_ NB502_508.out _; (with_reducible repeat (first | refine blk_drewN ?_ _ | refine blk_drew ?_ | refine blk_alloc ?_ _)); refine blk_far ?_ NB502_508.out _; (with_reducible repeat (first | refine blk_drewN ?_ _ | refine blk_drew ?_ | refine blk_alloc ?_ _)); refine blk_far ?_ NB502_508.out _; (with_reducible repeat (first | refine blk_drewN ?_ _ | refine blk_drew ?_ | refine blk_alloc ?_ _)); exact BK502.out) hb); replace BK508 := Aside0.mk (blk_below (bq3_ BK508.out) hb); replace HB := HB.s3 GE501 GE502 GE508 hb; (try clear hb)))
      go_ret
      exact ⟨ex_, hb3_ HB.out GE501.out GE502.out GE508.out⟩
     ·rw [if_neg c22] at H
      have c22b0 : decide (t509 < 0) = false := decide_eq_false c22
      clear c22
      obtain rfl := Option.some.inj H
      have hnb37 := NB501_502.out
      have hnc37 := NB502_501.out
      obtain ⟨hcz38_0, hcz38_1, hcz38_2⟩ := cz3_ BK501.out
      obtain ⟨hfz38_0, hfz38_1, hfz38_2⟩ := fz3_ BK501.out
      obtain ⟨hcz39_0, hcz39_1, hcz39_2⟩ := cz3_ BK502.out
      obtain ⟨hfz39_0, hfz39_1, hfz39_2⟩ := fz3_ BK502.out
      go_wp2_with (first | (refine gl_ 10 Tryd.func17 #[.agg #[.int .i64 x502000_1, .int .i64 x502001_1, .int .i64 x502002_1], .agg #[.int .i64 a1_0, .int .i64 a1_1, .int .i64 a1_2]] ?_; (with_reducible refine (impl_GapsApart.calls k1 x502000_1 x502001_1 x502002_1 a1_0 a1_1 a1_2 t503 _ A5.out).mono ?_); rintro e w40 ⟨rfl, hb⟩; refine ⟨_, rfl, ?_⟩; replace BK501 := BK501.bb hb; replace BK502 := BK502.bb hb; replace HB := HB.s2 GE501 GE502 hb; (try clear hb); obtain ⟨hcz41_0, hcz41_1, hcz41_2⟩ := cz3_ BK501.out; obtain ⟨hfz41_0, hfz41_1, hfz41_2⟩ := fz3_ BK501.out; obtain ⟨hcz42_0, hcz42_1, hcz42_2⟩ := cz3_ BK502.out; obtain ⟨hfz42_0, hfz42_1, hfz42_2⟩ := fz3_ BK502.out) | (refine gl_ 15 Tryd.func7 #[.agg #[.int .i64 x502000_1, .int .i64 x502001_1, .int .i64 x502002_1], .agg #[.int .i64 a1_0, .int .i64 a1_1, .int .i64 a1_2]] ?_; (with_reducible refine (impl_SwapTowards.calls k1 x502000_1 x502001_1 x502002_1 a1_0 a1_1 a1_2 t504 t505 t506 false _ A7.out (HZ.out.move (Nat.le_refl _) (by repeat (first | (with_reducible first | exact HB.out | exact Below.refl _ _ | apply below_alloc | apply pw_below_drewN | apply below_drew1 | refine below_set ?_ GE501.out | refine below_set ?_ GE502.out) | exact HB.out)))).mono ?_); rintro e w43 ⟨rfl, hb⟩; refine ⟨_, rfl, ?_⟩; replace BK501 := BK501.bb hb; replace BK502 := BK502.bb hb; replace HB := HB.s2 GE501 GE502 hb; (try clear hb)) | (refine box_ (N := 6) (cs := #[.int .i64 0, .int .i64 0, .int .i64 0]) (t := 28) ?_; intro gb508 hg w44 hbox hb; have BK508 := Aside0.mk (hbox); have GW508 := HB.g2 GE501 GE502 hg; have GE508 := HB.g2 GE501 GE502 hg; replace HB := HB.s2 GE501 GE502 hb; have NB501_508 := BK501.nl hg; have NB508_501 := BK501.nr hg; replace BK501 := BK501.bb hb; have NB502_508 := BK502.nl hg; have NB508_502 := BK502.nr hg; replace BK502 := BK502.bb hb; clear hb hbox hg; have hnb45 := NB508_501.out; have hnc45 := NB501_508.out; have hnb46 := NB508_502.out; have hnc46 := NB502_508.out; obtain ⟨hcz47_0, hcz47_1, hcz47_2⟩ := cz3_ BK508.out; obtain ⟨hfz47_0, hfz47_1, hfz47_2⟩ := fz3_ BK508.out; obtain ⟨hcz48_0, hcz48_1, hcz48_2⟩ := cz3_ BK501.out; obtain ⟨hfz48_0, hfz48_1, hfz48_2⟩ := fz3_ BK501.out; obtain ⟨hcz49_0, hcz49_1, hcz49_2⟩ := cz3_ BK502.out; obtain ⟨hfz49_0, hfz49_1, hfz49_2⟩ := fz3_ BK502.out) | (refine gl_ 25 Tryd.func17 #[.agg #[.int .i64 x502000_1, .int .i64 x502001_1, .int .i64 x502002_1], .agg #[.int .i64 a1_0, .int .i64 a1_1, .int .i64 a1_2]] ?_; (with_reducible refine (impl_GapsApart.calls k1 x502000_1 x502001_1 x502002_1 a1_0 a1_1 a1_2 t509 _ A21.out).mono ?_); rintro e w50 ⟨rfl, hb⟩; refine ⟨_, rfl, ?_⟩; replace BK501 := Aside0.mk (blk_below (g := gb501) (o := .cells #[.int .i64 x502000_1, .int .i64 x502001_1, .int .i64 x502002_1] 28 (0, 0)) (by (with_reducible repeat (first | refine blk_drewN ?_ _ | refine blk_drew ?_ | refine blk_alloc ?_ _)); refine blk_far ?_ NB501_508.out _; (with_reducible repeat (first | refine blk_drewN ?_ _ | refine blk_drew ?_ | refine blk_alloc ?_ _)); refine blk_far ?_ NB501_508.out _; (with_reducible repeat (first | refine blk_drewN ?_ _ | refine blk_drew ?_ | refine blk_alloc ?_ _)); refine blk_far ?_ NB501_508.out _; (with_reducible repeat (first | refine blk_drewN ?_ _ | refine blk_drew ?_ | refine blk_alloc ?_ _)); exact BK501.out) hb); replace BK502 := Aside0.mk (blk_below (g := gb502) (o := .cells #[.int .i64 a1_0, .int .i64 a1_1, .int .i64 a1_2] 28 (0, 0)) (by (with_reducible repeat (first | refine blk_drewN ?_ _ | refine blk_drew ?_ | refine blk_alloc ?_ _)); refine blk_far ?_ NB502_508.out _; (with_reducible repeat (first | refine blk_drewN ?_ _ | refine blk_drew ?_ | refine blk_alloc ?_ _)); refine blk_far ?_ NB502_508.out _; (with_reducible repeat (first | refine blk_drewN ?_ _ | refine blk_drew ?_ | refine blk_alloc ?_ _)); refine blk_far ?_ NB502_508.out _; (with_reducible repeat (first | refine blk_drewN ?_ _ | refine blk_drew ?_ | refine blk_alloc ?_ _)); exact BK502.out) hb); replace BK508 := Aside0.mk (blk_below (bq3_ BK508.out) hb); replace HB := HB.s3 GE501 GE502 GE508 hb; (try clear hb)))
      go_ret
      exact ⟨ex_, hb3_ HB.out GE501.out GE502.out GE508.out⟩
   ·rw [if_neg c6] at H
    have c6b0 : decide (0 < t503) = false := decide_eq_false c6
    clear c6
    replace H := Option.bind_eq_some_iff.mp H
    obtain ⟨t510, A510, H⟩ := H
    replace H : (if t510 < 0 then (some (-1)) else (some x5_1)) = some r := H
    have A51 := Aside0.mk A510
    clear A510
    by_cases c52 : t510 < 0
    ·rw [if_pos c52] at H
     have c52b0 : decide (t510 < 0) = true := decide_eq_true c52
     clear c52
     obtain rfl := Option.some.inj H
     have hnb53 := NB501_502.out
     have hnc53 := NB502_501.out
     obtain ⟨hcz54_0, hcz54_1, hcz54_2⟩ := cz3_ BK501.out
     obtain ⟨hfz54_0, hfz54_1, hfz54_2⟩ := fz3_ BK501.out
     obtain ⟨hcz55_0, hcz55_1, hcz55_2⟩ := cz3_ BK502.out
     obtain ⟨hfz55_0, hfz55_1, hfz55_2⟩ := fz3_ BK502.out
     go_wp2_with (first | (refine gl_ 10 Tryd.func17 #[.agg #[.int .i64 x502000_1, .int .i64 x502001_1, .int .i64 x502002_1], .agg #[.int .i64 a1_0, .int .i64 a1_1, .int .i64 a1_2]] ?_; (with_reducible refine (impl_GapsApart.calls k1 x502000_1 x502001_1 x502002_1 a1_0 a1_1 a1_2 t503 _ A5.out).mono ?_); rintro e w56 ⟨rfl, hb⟩; refine ⟨_, rfl, ?_⟩; replace BK501 := BK501.bb hb; replace BK502 := BK502.bb hb; replace HB := HB.s2 GE501 GE502 hb; (try clear hb); obtain ⟨hcz57_0, hcz57_1, hcz57_2⟩ := cz3_ BK501.out; obtain ⟨hfz57_0, hfz57_1, hfz57_2⟩ := fz3_ BK501.out; obtain ⟨hcz58_0, hcz58_1, hcz58_2⟩ := cz3_ BK502.out; obtain ⟨hfz58_0, hfz58_1, hfz58_2⟩ := fz3_ BK502.out) | (refine gl_ 25 Tryd.func17 #[.agg #[.int .i64 x502000_1, .int .i64 x502001_1, .int .i64 x502002_1], .agg #[.int .i64 a1_0, .int .i64 a1_1, .int .i64 a1_2]] ?_; (with_reducible refine (impl_GapsApart.calls k1 x502000_1 x502001_1 x502002_1 a1_0 a1_1 a1_2 t510 _ A51.out).mono ?_); rintro e w59 ⟨rfl, hb⟩; refine ⟨_, rfl, ?_⟩; replace BK501 := BK501.bb hb; replace BK502 := BK502.bb hb; replace HB := HB.s2 GE501 GE502 hb; (try clear hb)))
     go_ret
     exact ⟨ex_, hb2_ HB.out GE501.out GE502.out⟩
    ·rw [if_neg c52] at H
     have c52b0 : decide (t510 < 0) = false := decide_eq_false c52
     clear c52
     obtain rfl := Option.some.inj H
     have hnb60 := NB501_502.out
     have hnc60 := NB502_501.out
     obtain ⟨hcz61_0, hcz61_1, hcz61_2⟩ := cz3_ BK501.out
     obtain ⟨hfz61_0, hfz61_1, hfz61_2⟩ := fz3_ BK501.out
     obtain ⟨hcz62_0, hcz62_1, hcz62_2⟩ := cz3_ BK502.out
     obtain ⟨hfz62_0, hfz62_1, hfz62_2⟩ := fz3_ BK502.out
     go_wp2_with (first | (refine gl_ 10 Tryd.func17 #[.agg #[.int .i64 x502000_1, .int .i64 x502001_1, .int .i64 x502002_1], .agg #[.int .i64 a1_0, .int .i64 a1_1, .int .i64 a1_2]] ?_; (with_reducible refine (impl_GapsApart.calls k1 x502000_1 x502001_1 x502002_1 a1_0 a1_1 a1_2 t503 _ A5.out).mono ?_); rintro e w63 ⟨rfl, hb⟩; refine ⟨_, rfl, ?_⟩; replace BK501 := BK501.bb hb; replace BK502 := BK502.bb hb; replace HB := HB.s2 GE501 GE502 hb; (try clear hb); obtain ⟨hcz64_0, hcz64_1, hcz64_2⟩ := cz3_ BK501.out; obtain ⟨hfz64_0, hfz64_1, hfz64_2⟩ := fz3_ BK501.out; obtain ⟨hcz65_0, hcz65_1, hcz65_2⟩ := cz3_ BK502.out; obtain ⟨hfz65_0, hfz65_1, hfz65_2⟩ := fz3_ BK502.out) | (refine gl_ 25 Tryd.func17 #[.agg #[.int .i64 x502000_1, .int .i64 x502001_1, .int .i64 x502002_1], .agg #[.int .i64 a1_0, .int .i64 a1_1, .int .i64 a1_2]] ?_; (with_reducible refine (impl_GapsApart.calls k1 x502000_1 x502001_1 x502002_1 a1_0 a1_1 a1_2 t510 _ A51.out).mono ?_); rintro e w66 ⟨rfl, hb⟩; refine ⟨_, rfl, ?_⟩; replace BK501 := BK501.bb hb; replace BK502 := BK502.bb hb; replace HB := HB.s2 GE501 GE502 hb; (try clear hb)))
     go_ret
     exact ⟨ex_, hb2_ HB.out GE501.out GE502.out⟩

end Go.Proofs.YtbdodiaedocmjaaDoor.X
