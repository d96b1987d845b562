-- Written by a program of this session (xprint.py), out of the translation and of hand-written contracts. Lean checks it.
import Derived.Test.YtbdodiaedocmjaaDoorX0
import Derived.Test.YtbdodiaedocmjaaDoorXEq1
import Derived.Test.YtbdodiaedocmjaaDoorXcswaps
import Derived.Test.YtbdodiaedocmjaaDoorXspecSwapTowards
namespace Go.Proofs.YtbdodiaedocmjaaDoor.X
open Go.RowKit Go.Proofs.YtbdodiaedocmjaaDoorW.PrintWords Go.Proofs.YtbdodiaedocmjaaDoorW.PrintLast Go.Proofs.YtbdodiaedocmjaaDoorW.PrintMore
attribute [local go_sem] max2_int min2_int max_two min_two max_three min_three max_four min_four   -- for this text's walks alone
set_option linter.unusedVariables false
set_option linter.unusedSimpArgs false

section
attribute [local go_sem high] eqA28
/-! ### spec_SwapsBetween: function 9 -/
def spec_SwapsBetween.l0 : Nat → Int → Int → Int → Int → Int → Int → Int → Option (Int)
 | 0, _, _, _, _, _, _, _ => none
 | k + 1, x5, x502000, x502001, x502002, x503000, x503001, x503002 => if ((!(x502000 == x503000) || (!(x502001 == x503001))) || (!(x502002 == x503002))) = true then ((spec_SwapTowards.f k x502000 x502001 x502002 x503000 x503001 x503002).bind fun bt504 => (spec_SwapsBetween.l0 k (wrap64 (x5 + 1)) bt504.1 bt504.2.1 bt504.2.2.1 x503000 x503001 x503002)) else (some x5)
def spec_SwapsBetween.f (k : Nat) (a0_0 : Int) (a0_1 : Int) (a0_2 : Int) (a1_0 : Int) (a1_1 : Int) (a1_2 : Int) : Option (Int) := (spec_GapsApart.f k a0_0 a0_1 a0_2 a1_0 a1_1 a1_2).bind fun t503 => (if t503 < 0 then (some (-1)) else (spec_SwapsBetween.l0 k 0 a0_0 a0_1 a0_2 a1_0 a1_1 a1_2))
theorem spec_SwapsBetween.mono_l : ∀ k, (∀ y0 y1 y2 y3 y4 y5 y6, LeO (spec_SwapsBetween.l0 k y0 y1 y2 y3 y4 y5 y6) (spec_SwapsBetween.l0 (k + 1) y0 y1 y2 y3 y4 y5 y6))
 | 0 => fun _ _ _ _ _ _ _ r h => by simp [spec_SwapsBetween.l0] at h
 | k + 1 => by
  have ih0 := spec_SwapsBetween.mono_l k
  ·intro y0 y1 y2 y3 y4 y5 y6
   unfold spec_SwapsBetween.l0
   repeat' first
   | (with_reducible exact ih0 ..)
   | (with_reducible exact spec_GapsApart.mono ..)
   | (with_reducible exact spec_SwapTowards.mono ..)
   | (with_reducible first | exact lr_ _ | exact ln_ _ | refine li_ ?_ ?_ | refine lb_ ?_ fun _ => ?_)
   | exact ih0 ..
   | exact spec_GapsApart.mono ..
   | exact spec_SwapTowards.mono ..
   | exact ln_ _ | refine li_ ?_ ?_ | refine lb_ ?_ fun _ => ?_
theorem spec_SwapsBetween.mono : ∀ a0 a1 a2 a3 a4 a5 k, LeO (spec_SwapsBetween.f k a0 a1 a2 a3 a4 a5) (spec_SwapsBetween.f (k + 1) a0 a1 a2 a3 a4 a5) := by
 intro a0 a1 a2 a3 a4 a5 k
 have ih0 := spec_SwapsBetween.mono_l k
 unfold spec_SwapsBetween.f
 repeat' first
   | (with_reducible exact ih0 ..)
   | (with_reducible exact spec_GapsApart.mono ..)
   | (with_reducible exact spec_SwapTowards.mono ..)
   | (with_reducible first | exact lr_ _ | exact ln_ _ | refine li_ ?_ ?_ | refine lb_ ?_ fun _ => ?_)
   | exact ih0 ..
   | exact spec_GapsApart.mono ..
   | exact spec_SwapTowards.mono ..
   | exact ln_ _ | refine li_ ?_ ?_ | refine lb_ ?_ fun _ => ?_
set_option maxHeartbeats 8000000 in
set_option maxRecDepth 100000 in
theorem spec_SwapsBetween.calls (k : Nat) (a0_0 : Int) (a0_1 : Int) (a0_2 : Int) (a1_0 : Int) (a1_1 : Int) (a1_2 : Int) (r : Int) (w : World) (h : spec_SwapsBetween.f k a0_0 a0_1 a0_2 a1_0 a1_1 a1_2 = some r) :
  Calls Tryd.prog 9 #[.agg #[.int .i64 a0_0, .int .i64 a0_1, .int .i64 a0_2], .agg #[.int .i64 a1_0, .int .i64 a1_1, .int .i64 a1_2]] w fun e w' => e = .returned (.int .i64 r) ∧ Below w.heap.size w w' := by
 have hu28 := Tryd.underlying28
 have HB := Aside0.mk (Below.refl w.heap.size w)
 have H : ((spec_GapsApart.f k a0_0 a0_1 a0_2 a1_0 a1_1 a1_2).bind fun t503 => (if t503 < 0 then (some (-1)) else (spec_SwapsBetween.l0 k 0 a0_0 a0_1 a0_2 a1_0 a1_1 a1_2))) = some r := h
 clear h
 replace H := Option.bind_eq_some_iff.mp H
 obtain ⟨t503, A30, H⟩ := H
 replace H : (if t503 < 0 then (some (-1)) else (spec_SwapsBetween.l0 k 0 a0_0 a0_1 a0_2 a1_0 a1_1 a1_2)) = some r := H
 have A3 := Aside0.mk A30
 clear A30
 by_cases c4 : t503 < 0
 ·rw [if_pos c4] at H
  have c4b0 : decide (t503 < 0) = true := decide_eq_true c4
  clear c4
  obtain rfl := Option.some.inj H
  go_enter Tryd.func9, Tryd.ntmps9
  go_wp2_with (first | (refine box_ (N := 2) (cs := #[.int .i64 a0_0, .int .i64 a0_1, .int .i64 a0_2]) (t := 28) ?_; intro gb501 hg w5 hbox hb; have BK501 := Aside0.mk (hbox); have GW501 := HB.g0 hg; have GE501 := HB.g0 hg; replace HB := HB.s0 hb; clear hb hbox hg) | (refine box_ (N := 3) (cs := #[.int .i64 a1_0, .int .i64 a1_1, .int .i64 a1_2]) (t := 28) ?_; intro gb502 hg w6 hbox hb; have BK502 := Aside0.mk (hbox); have GW502 := HB.g1 GE501 hg; have GE502 := HB.g1 GE501 hg; replace HB := HB.s1 GE501 hb; have NB501_502 := BK501.nl hg; have NB502_501 := BK501.nr hg; replace BK501 := BK501.bb hb; clear hb hbox hg; have hnb7 := NB501_502.out; have hnc7 := NB502_501.out; obtain ⟨hcz8_0, hcz8_1, hcz8_2⟩ := cz3_ BK501.out; obtain ⟨hfz8_0, hfz8_1, hfz8_2⟩ := fz3_ BK501.out; obtain ⟨hcz9_0, hcz9_1, hcz9_2⟩ := cz3_ BK502.out; obtain ⟨hfz9_0, hfz9_1, hfz9_2⟩ := fz3_ BK502.out) | (refine gl_ 8 Tryd.func11 #[.agg #[.int .i64 a0_0, .int .i64 a0_1, .int .i64 a0_2], .agg #[.int .i64 a1_0, .int .i64 a1_1, .int .i64 a1_2]] ?_; (with_reducible refine (spec_GapsApart.calls k a0_0 a0_1 a0_2 a1_0 a1_1 a1_2 t503 _ A3.out).mono ?_); rintro e w10 ⟨rfl, hb⟩; refine ⟨_, rfl, ?_⟩; replace BK501 := BK501.bb hb; replace BK502 := BK502.bb hb; replace HB := HB.s2 GE501 GE502 hb; (try clear hb)))
  go_ret
  exact ⟨ex_, hb2_ HB.out GE501.out GE502.out⟩
 ·rw [if_neg c4] at H
  have c4b0 : decide (t503 < 0) = false := decide_eq_false c4
  clear c4
  have H' := Aside0.mk H
  clear H
  go_enter Tryd.func9, Tryd.ntmps9
  go_wp2_with (first | (refine box_ (N := 2) (cs := #[.int .i64 a0_0, .int .i64 a0_1, .int .i64 a0_2]) (t := 28) ?_; intro gb501 hg w11 hbox hb; have BK501 := Aside0.mk (hbox); have GW501 := HB.g0 hg; have GE501 := HB.g0 hg; replace HB := HB.s0 hb; clear hb hbox hg) | (refine box_ (N := 3) (cs := #[.int .i64 a1_0, .int .i64 a1_1, .int .i64 a1_2]) (t := 28) ?_; intro gb502 hg w12 hbox hb; have BK502 := Aside0.mk (hbox); have GW502 := HB.g1 GE501 hg; have GE502 := HB.g1 GE501 hg; replace HB := HB.s1 GE501 hb; have NB501_502 := BK501.nl hg; have NB502_501 := BK501.nr hg; replace BK501 := BK501.bb hb; clear hb hbox hg; have hnb13 := NB501_502.out; have hnc13 := NB502_501.out; obtain ⟨hcz14_0, hcz14_1, hcz14_2⟩ := cz3_ BK501.out; obtain ⟨hfz14_0, hfz14_1, hfz14_2⟩ := fz3_ BK501.out; obtain ⟨hcz15_0, hcz15_1, hcz15_2⟩ := cz3_ BK502.out; obtain ⟨hfz15_0, hfz15_1, hfz15_2⟩ := fz3_ BK502.out) | (refine gl_ 8 Tryd.func11 #[.agg #[.int .i64 a0_0, .int .i64 a0_1, .int .i64 a0_2], .agg #[.int .i64 a1_0, .int .i64 a1_1, .int .i64 a1_2]] ?_; (with_reducible refine (spec_GapsApart.calls k a0_0 a0_1 a0_2 a1_0 a1_1 a1_2 t503 _ A3.out).mono ?_); rintro e w16 ⟨rfl, hb⟩; refine ⟨_, rfl, ?_⟩; replace BK501 := BK501.bb hb; replace BK502 := BK502.bb hb; replace HB := HB.s2 GE501 GE502 hb; (try clear hb)))
  go_loopg [5] k (fun kq v5 w' => ∃ (x5_1 : Int) (x502000_1 : Int) (x502001_1 : Int) (x502002_1 : Int), v5 = .int .i64 x5_1 ∧ Aside0 (spec_SwapsBetween.l0 kq x5_1 x502000_1 x502001_1 x502002_1 a1_0 a1_1 a1_2 = some r) ∧ Aside0 (kq ≤ k) ∧ Aside0 (w'.heap[gb501]? = some (.cells #[.int .i64 x502000_1, .int .i64 x502001_1, .int .i64 x502002_1] 28 (0, 0))) ∧ Aside0 (w'.heap[gb502]? = some (.cells #[.int .i64 a1_0, .int .i64 a1_1, .int .i64 a1_2] 28 (0, 0))) ∧ Aside0 (Below w.heap.size w w'))
  case atStart => exact ⟨(0), (a0_0), (a0_1), (a0_2), (by first | rfl | (simp; done) | (simp [*]; done)), H', ⟨Nat.le_refl _⟩, ⟨bk_ BK501.out⟩, ⟨bk_ BK502.out⟩, ⟨hb2_ HB.out GE501.out GE502.out⟩⟩
  case round =>
   clear H'
   try clear c1
   try clear p2
   try clear c4
   try clear c4b0
   try clear c7
   try clear c9
   try clear c11
   try clear c13
   try clear hcz14_0
   try clear hcz14_1
   try clear hcz14_2
   try clear hcz15_0
   try clear hcz15_1
   try clear hcz15_2
   try clear hcz8_0
   try clear hcz8_1
   try clear hcz8_2
   try clear hcz9_0
   try clear hcz9_1
   try clear hcz9_2
   try clear hfz14_0
   try clear hfz14_1
   try clear hfz14_2
   try clear hfz15_0
   try clear hfz15_1
   try clear hfz15_2
   try clear hfz8_0
   try clear hfz8_1
   try clear hfz8_2
   try clear hfz9_0
   try clear hfz9_1
   try clear hfz9_2
   obtain ⟨x5_1, x502000_1, x502001_1, x502002_1, rfl, HA, HK1, BK501, BK502, HB⟩ := hrel
   cases gk with
   | zero => exact absurd HA.out (by simp [spec_SwapsBetween.l0])
   | succ k1 =>
    have H := HA.out
    clear HA
    simp only [spec_SwapsBetween.l0] at H
    by_cases c17 : ((!(x502000_1 == a1_0) || (!(x502001_1 == a1_1))) || (!(x502002_1 == a1_2))) = true
    ·rw [if_pos c17] at H
     have c17b0 : ((!(x502000_1 == a1_0) || (!(x502001_1 == a1_1))) || (!(x502002_1 == a1_2))) = true := c17
     clear c17
     replace H := Option.bind_eq_some_iff.mp H
     obtain ⟨⟨t504, t505, t506, t507⟩, A180, H⟩ := H
     replace H : (spec_SwapsBetween.l0 k1 (wrap64 (x5_1 + 1)) t504 t505 t506 a1_0 a1_1 a1_2) = some r := H
     have A18 := Aside0.mk A180
     clear A180
     have H' := Aside0.mk H
     clear H
     have hnb19 := NB501_502.out
     have hnc19 := NB502_501.out
     obtain ⟨hcz20_0, hcz20_1, hcz20_2⟩ := cz3_ BK501.out
     obtain ⟨hfz20_0, hfz20_1, hfz20_2⟩ := fz3_ BK501.out
     obtain ⟨hcz21_0, hcz21_1, hcz21_2⟩ := cz3_ BK502.out
     obtain ⟨hfz21_0, hfz21_1, hfz21_2⟩ := fz3_ BK502.out
     go_wp2_with (first | (refine gl_ 16 Tryd.func5 #[.agg #[.int .i64 x502000_1, .int .i64 x502001_1, .int .i64 x502002_1], .agg #[.int .i64 a1_0, .int .i64 a1_1, .int .i64 a1_2]] ?_; (with_reducible refine (spec_SwapTowards.calls k1 x502000_1 x502001_1 x502002_1 a1_0 a1_1 a1_2 t504 t505 t506 t507 _ A18.out).mono ?_); rintro e w22 ⟨rfl, hb⟩; refine ⟨_, rfl, ?_⟩; replace BK501 := BK501.bb hb; replace BK502 := BK502.bb hb; replace HB := HB.s2 GE501 GE502 hb; (try clear hb); obtain ⟨hcz23_0, hcz23_1, hcz23_2⟩ := cz3_ BK501.out; obtain ⟨hfz23_0, hfz23_1, hfz23_2⟩ := fz3_ BK501.out))
     go_roundg k1
     case measure => have := HK1.out; omega
     case rel => exact ⟨(wrap64 (x5_1 + 1)), (t504), (t505), (t506), (by first | rfl | (simp; done) | (simp [*]; done)), H', ⟨by have := HK1.out; omega⟩, ⟨bq3_ BK501.out⟩, ⟨by (with_reducible repeat (first | refine blk_drewN ?_ _ | refine blk_drew ?_ | refine blk_alloc ?_ _)); refine blk_far ?_ NB502_501.out _; (with_reducible repeat (first | refine blk_drewN ?_ _ | refine blk_drew ?_ | refine blk_alloc ?_ _)); refine blk_far ?_ NB502_501.out _; (with_reducible repeat (first | refine blk_drewN ?_ _ | refine blk_drew ?_ | refine blk_alloc ?_ _)); refine blk_far ?_ NB502_501.out _; (with_reducible repeat (first | refine blk_drewN ?_ _ | refine blk_drew ?_ | refine blk_alloc ?_ _)); exact BK502.out⟩, ⟨hb2_ HB.out GE501.out GE502.out⟩⟩
    ·rw [if_neg c17] at H
     have c17b0 : ((!(x502000_1 == a1_0) || (!(x502001_1 == a1_1))) || (!(x502002_1 == a1_2))) = false := by simpa using c17
     clear c17
     obtain rfl := Option.some.inj H
     have hnb24 := NB501_502.out
     have hnc24 := NB502_501.out
     obtain ⟨hcz25_0, hcz25_1, hcz25_2⟩ := cz3_ BK501.out
     obtain ⟨hfz25_0, hfz25_1, hfz25_2⟩ := fz3_ BK501.out
     obtain ⟨hcz26_0, hcz26_1, hcz26_2⟩ := cz3_ BK502.out
     obtain ⟨hfz26_0, hfz26_1, hfz26_2⟩ := fz3_ BK502.out
     go_wp2
     go_ret
     exact ⟨ex_, hb2_ HB.out GE501.out GE502.out⟩

end
end Go.Proofs.YtbdodiaedocmjaaDoor.X
