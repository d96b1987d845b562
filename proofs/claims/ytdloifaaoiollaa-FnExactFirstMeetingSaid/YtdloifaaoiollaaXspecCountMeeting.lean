-- Written by a program of this session (xprint.py), out of the translation and of hand-written contracts. Lean checks it.
import Derived.Test.YtdloifaaoiollaaX0
import Derived.Test.YtdloifaaoiollaaXcgaps
import Derived.Test.YtdloifaaoiollaaXcmeet
import Derived.Test.YtdloifaaoiollaaXcstrees
import Derived.Test.YtdloifaaoiollaaXcwish
import Derived.Test.YtdloifaaoiollaaXspecFullMaze
namespace Go.Proofs.Ytdloifaaoiollaa.X
open Go.RowKit Go.Proofs.YtdloifaaoiollaaW.PrintWords Go.Proofs.YtdloifaaoiollaaW.PrintLast Go.Proofs.YtdloifaaoiollaaW.PrintMore
attribute [local go_sem] max2_int min2_int max_two min_two max_three min_three max_four min_four   -- for this text's walks alone
set_option linter.unusedVariables false
set_option linter.unusedSimpArgs false

/-! ### spec_CountMeeting: function 48 -/
mutual
def spec_CountMeeting.j0 : Nat → Bool → Int → Int → Int → Int → Int → Int → Option (Int)
 | 0, _, _, _, _, _, _, _ => none
 | k + 1, x16, x502000, x502001, x503000, x503001, x503002, x503003 => if x16 = true then (some (-1)) else ((spec_FullMaze.f x502000 x502001).bind fun bt505 => ((spec_ListTrees.f k bt505.1 bt505.2.1 bt505.2.2).bind fun t508 => (spec_CountMeeting.l0 k 0 t508 0 x503000 x503001 x503002 x503003)))
def spec_CountMeeting.l0 : Nat → Int → List (S29) → Int → Int → Int → Int → Int → Option (Int)
 | 0, _, _, _, _, _, _, _ => none
 | k + 1, x5, x6, x7, x503000, x503001, x503002, x503003 => if x7 < (x6.length : Int) then (if 0 ≤ x7 then ((spec_MeetsWish.f k ((rd_T29 x6 x7).f0.f0) ((rd_T29 x6 x7).f0.f1) ((rd_T29 x6 x7).f1) x503000 x503001 x503002 x503003).bind fun t512 => (if t512 = true then (spec_CountMeeting.l0 k (wrap64 (x5 + 1)) x6 (wrap64 (x7 + 1)) x503000 x503001 x503002 x503003) else (spec_CountMeeting.l0 k x5 x6 (wrap64 (x7 + 1)) x503000 x503001 x503002 x503003))) else (none)) else (some x5)
end
def spec_CountMeeting.f (k : Nat) (a0_0 : Int) (a0_1 : Int) (a1_0 : Int) (a1_1 : Int) (a1_2 : Int) (a1_3 : Int) : Option (Int) := (spec_WishOk.f a0_0 a0_1 a1_0 a1_1 a1_2 a1_3).bind fun t503 => (if t503 = true then ((spec_CountGaps.f a0_0 a0_1).bind fun t504 => (spec_CountMeeting.j0 k (decide (t504 > 12)) a0_0 a0_1 a1_0 a1_1 a1_2 a1_3)) else (spec_CountMeeting.j0 k true a0_0 a0_1 a1_0 a1_1 a1_2 a1_3))
theorem spec_CountMeeting.mono_l : ∀ k, (∀ y0 y1 y2 y3 y4 y5 y6, LeO (spec_CountMeeting.j0 k y0 y1 y2 y3 y4 y5 y6) (spec_CountMeeting.j0 (k + 1) y0 y1 y2 y3 y4 y5 y6)) ∧ (∀ y0 y1 y2 y3 y4 y5 y6, LeO (spec_CountMeeting.l0 k y0 y1 y2 y3 y4 y5 y6) (spec_CountMeeting.l0 (k + 1) y0 y1 y2 y3 y4 y5 y6))
 | 0 => ⟨fun _ _ _ _ _ _ _ r h => by simp [spec_CountMeeting.j0] at h, fun _ _ _ _ _ _ _ r h => by simp [spec_CountMeeting.l0] at h⟩
 | k + 1 => by
  obtain ⟨ih0, ih1⟩ := spec_CountMeeting.mono_l k
  refine ⟨?_, ?_⟩
  ·intro y0 y1 y2 y3 y4 y5 y6
   unfold spec_CountMeeting.j0
   repeat' first
   | (with_reducible exact ih0 ..)
   | (with_reducible exact ih1 ..)
   | (with_reducible exact spec_ListTrees.mono ..)
   | (with_reducible exact spec_MeetsWish.mono ..)
   | mo1
   | exact ih0 ..
   | exact ih1 ..
   | exact spec_ListTrees.mono ..
   | exact spec_MeetsWish.mono ..
   | mo2
  ·intro y0 y1 y2 y3 y4 y5 y6
   unfold spec_CountMeeting.l0
   repeat' first
   | (with_reducible exact ih0 ..)
   | (with_reducible exact ih1 ..)
   | (with_reducible exact spec_ListTrees.mono ..)
   | (with_reducible exact spec_MeetsWish.mono ..)
   | mo1
   | exact ih0 ..
   | exact ih1 ..
   | exact spec_ListTrees.mono ..
   | exact spec_MeetsWish.mono ..
   | mo2
theorem spec_CountMeeting.mono : ∀ a0 a1 a2 a3 a4 a5 k, LeO (spec_CountMeeting.f k a0 a1 a2 a3 a4 a5) (spec_CountMeeting.f (k + 1) a0 a1 a2 a3 a4 a5) := by
 intro a0 a1 a2 a3 a4 a5 k
 obtain ⟨ih0, ih1⟩ := spec_CountMeeting.mono_l k
 unfold spec_CountMeeting.f
 repeat' first
   | (with_reducible exact ih0 ..)
   | (with_reducible exact ih1 ..)
   | (with_reducible exact spec_ListTrees.mono ..)
   | (with_reducible exact spec_MeetsWish.mono ..)
   | mo1
   | exact ih0 ..
   | exact ih1 ..
   | exact spec_ListTrees.mono ..
   | exact spec_MeetsWish.mono ..
   | mo2
set_option maxHeartbeats 8000000 in
set_option maxRecDepth 100000 in
theorem spec_CountMeeting.calls (k : Nat) (a0_0 : Int) (a0_1 : Int) (a1_0 : Int) (a1_1 : Int) (a1_2 : Int) (a1_3 : Int) (r : Int) (w : World) (h : spec_CountMeeting.f k a0_0 a0_1 a1_0 a1_1 a1_2 a1_3 = some r) :
  Calls Try.prog 48 #[.agg #[.int .i64 a0_0, .int .i64 a0_1], .agg #[.int .i64 a1_0, .int .i64 a1_1, .int .i64 a1_2, .int .i64 a1_3]] w fun e w' => e = .returned (.int .i64 r) ∧ Below w.heap.size w w' := by
 have hu27 := Try.underlying27
 have hu51 := Try.underlying51
 have hu29 := Try.underlying29
 have HB := Aside0.mk (Below.refl w.heap.size w)
 have H : ((spec_WishOk.f a0_0 a0_1 a1_0 a1_1 a1_2 a1_3).bind fun t503 => (if t503 = true then ((spec_CountGaps.f a0_0 a0_1).bind fun t504 => (spec_CountMeeting.j0 k (decide (t504 > 12)) a0_0 a0_1 a1_0 a1_1 a1_2 a1_3)) else (spec_CountMeeting.j0 k true a0_0 a0_1 a1_0 a1_1 a1_2 a1_3))) = some r := h
 clear h
 have HC3 := Aside0.mk H
 clear H
 go_enter Try.func48, Try.ntmps48
 go_upto_region 1 with (first | (refine box_ (N := 2) (cs := #[.int .i64 a0_0, .int .i64 a0_1]) (t := 27) ?_; intro gb501 hg w4 hbox hb; have BK501 := Aside0.mk (hbox); have GW501 := HB.g0 hg; have GE501 := HB.g0 hg; replace HB := HB.s0 hb; clear hb hbox hg) | (refine box_ (N := 3) (cs := #[.int .i64 a1_0, .int .i64 a1_1, .int .i64 a1_2, .int .i64 a1_3]) (t := 51) ?_; intro gb502 hg w5 hbox hb; have BK502 := Aside0.mk (hbox); have GW502 := HB.g1 GE501 hg; have GE502 := HB.g1 GE501 hg; replace HB := HB.s1 GE501 hb; have NB501_502 := BK501.nl hg; have NB502_501 := BK501.nr hg; replace BK501 := BK501.bb hb; clear hb hbox hg))
 (try simp only [Act.put, List.setIfInBounds_toArray, List.set_cons_zero, List.set_cons_succ])
 go_cut [16] (fun v16 wc => ∃ (kq : Nat) (x16_2 : Bool), v16 = .bool x16_2 ∧ Aside0 (spec_CountMeeting.j0 kq x16_2 a0_0 a0_1 a1_0 a1_1 a1_2 a1_3 = some r) ∧ Aside0 (kq ≤ k) ∧ Aside0 (wc.heap[gb501]? = some (.cells #[.int .i64 a0_0, .int .i64 a0_1] 27 (0, 0))) ∧ Aside0 (wc.heap[gb502]? = some (.cells #[.int .i64 a1_0, .int .i64 a1_1, .int .i64 a1_2, .int .i64 a1_3] 51 (0, 0))) ∧ Aside0 (Below w.heap.size w wc))
 case first =>
  have H := HC3.out
  clear HC3
  replace H := Option.bind_eq_some_iff.mp H
  obtain ⟨t503, A60, H⟩ := H
  replace H : (if t503 = true then ((spec_CountGaps.f a0_0 a0_1).bind fun t504 => (spec_CountMeeting.j0 k (decide (t504 > 12)) a0_0 a0_1 a1_0 a1_1 a1_2 a1_3)) else (spec_CountMeeting.j0 k true a0_0 a0_1 a1_0 a1_1 a1_2 a1_3)) = some r := H
  have A6 := Aside0.mk A60
  clear A60
  by_cases c7 : t503 = true
  ·subst c7
   have H1 : ((spec_CountGaps.f a0_0 a0_1).bind fun t504 => (spec_CountMeeting.j0 k (decide (t504 > 12)) a0_0 a0_1 a1_0 a1_1 a1_2 a1_3)) = some r := by rw [if_pos rfl] at H; exact H
   clear H
   have H := H1
   clear H1
   replace H := Option.bind_eq_some_iff.mp H
   obtain ⟨t504, A80, H⟩ := H
   replace H : (spec_CountMeeting.j0 k (decide (t504 > 12)) a0_0 a0_1 a1_0 a1_1 a1_2 a1_3) = some r := H
   have A8 := Aside0.mk A80
   clear A80
   have H' := Aside0.mk H
   clear H
   have hnb9 := NB501_502.out
   have hnc9 := NB502_501.out
   obtain ⟨hcz10_0, hcz10_1⟩ := cz2_ BK501.out
   obtain ⟨hfz10_0, hfz10_1⟩ := fz2_ BK501.out
   obtain ⟨hcz11_0, hcz11_1, hcz11_2, hcz11_3⟩ := cz4_ BK502.out
   obtain ⟨hfz11_0, hfz11_1, hfz11_2, hfz11_3⟩ := fz4_ BK502.out
   go_wp2_with (first | (refine gl_ 10 Try.func86 #[.agg #[.int .i64 a0_0, .int .i64 a0_1], .agg #[.int .i64 a1_0, .int .i64 a1_1, .int .i64 a1_2, .int .i64 a1_3]] ?_; (with_reducible refine (spec_WishOk.calls a0_0 a0_1 a1_0 a1_1 a1_2 a1_3 true _ A6.out).mono ?_); rintro e w12 ⟨rfl, hb⟩; refine ⟨_, rfl, ?_⟩; replace BK501 := BK501.bb hb; replace BK502 := BK502.bb hb; replace HB := HB.s2 GE501 GE502 hb; (try clear hb); obtain ⟨hcz13_0, hcz13_1⟩ := cz2_ BK501.out; obtain ⟨hfz13_0, hfz13_1⟩ := fz2_ BK501.out) | (go_at_call 90; (with_reducible refine (spec_CountGaps.calls a0_0 a0_1 t504 _ A8.out).mono ?_); rintro e w14 ⟨rfl, hb⟩; replace BK501 := BK501.bb hb; replace BK502 := BK502.bb hb; replace HB := HB.s2 GE501 GE502 hb; (try clear hb)))
   go_meet
   case rel => exact ⟨_, (decide (t504 > 12)), (by first | rfl | (simp; done) | (simp [*]; done)), H', ⟨by first | omega | exact Nat.le_refl _⟩, ⟨bk_ BK501.out⟩, ⟨bk_ BK502.out⟩, ⟨hb2_ HB.out GE501.out GE502.out⟩⟩
  ·replace c7 := Bool.eq_false_iff.mpr c7
   subst c7
   have H1 : (spec_CountMeeting.j0 k true a0_0 a0_1 a1_0 a1_1 a1_2 a1_3) = some r := by rw [if_neg (show ¬ (false = true) by decide)] at H; exact H
   clear H
   have H := H1
   clear H1
   have H' := Aside0.mk H
   clear H
   have hnb15 := NB501_502.out
   have hnc15 := NB502_501.out
   obtain ⟨hcz16_0, hcz16_1⟩ := cz2_ BK501.out
   obtain ⟨hfz16_0, hfz16_1⟩ := fz2_ BK501.out
   obtain ⟨hcz17_0, hcz17_1, hcz17_2, hcz17_3⟩ := cz4_ BK502.out
   obtain ⟨hfz17_0, hfz17_1, hfz17_2, hfz17_3⟩ := fz4_ BK502.out
   go_wp2_with (first | (refine gl_ 10 Try.func86 #[.agg #[.int .i64 a0_0, .int .i64 a0_1], .agg #[.int .i64 a1_0, .int .i64 a1_1, .int .i64 a1_2, .int .i64 a1_3]] ?_; (with_reducible refine (spec_WishOk.calls a0_0 a0_1 a1_0 a1_1 a1_2 a1_3 false _ A6.out).mono ?_); rintro e w18 ⟨rfl, hb⟩; refine ⟨_, rfl, ?_⟩; replace BK501 := BK501.bb hb; replace BK502 := BK502.bb hb; replace HB := HB.s2 GE501 GE502 hb; (try clear hb)))
   go_meet
   case rel => exact ⟨_, (true), (by first | rfl | (simp; done) | (simp [*]; done)), H', ⟨by first | omega | exact Nat.le_refl _⟩, ⟨bk_ BK501.out⟩, ⟨bk_ BK502.out⟩, ⟨hb2_ HB.out GE501.out GE502.out⟩⟩
 case rest =>
  clear HC3
  try clear c1
  try clear p2
  try clear c4
  try clear c7
  try clear c8
  try clear c9
  try clear c15
  try clear hcz10_0
  try clear hcz10_1
  try clear hcz11_0
  try clear hcz11_1
  try clear hcz11_2
  try clear hcz11_3
  try clear hcz13_0
  try clear hcz13_1
  try clear hcz16_0
  try clear hcz16_1
  try clear hcz17_0
  try clear hcz17_1
  try clear hcz17_2
  try clear hcz17_3
  try clear hfz10_0
  try clear hfz10_1
  try clear hfz11_0
  try clear hfz11_1
  try clear hfz11_2
  try clear hfz11_3
  try clear hfz13_0
  try clear hfz13_1
  try clear hfz16_0
  try clear hfz16_1
  try clear hfz17_0
  try clear hfz17_1
  try clear hfz17_2
  try clear hfz17_3
  obtain ⟨kq, x16_2, rfl, HA, HJ2, BK501, BK502, HB⟩ := hcut
  cases kq with
  | zero => exact absurd HA.out (by simp [spec_CountMeeting.j0])
  | succ kj2 =>
   have H := HA.out
   clear HA
   simp only [spec_CountMeeting.j0] at H
   by_cases c19 : x16_2 = true
   ·subst c19
    have H1 : (some (-1)) = some r := by rw [if_pos rfl] at H; exact H
    clear H
    have H := H1
    clear H1
    obtain rfl := Option.some.inj H
    go_wp2
    go_ret
    exact ⟨ex_, hb2_ HB.out GE501.out GE502.out⟩
   ·replace c19 := Bool.eq_false_iff.mpr c19
    subst c19
    have H1 : ((spec_FullMaze.f a0_0 a0_1).bind fun bt505 => ((spec_ListTrees.f kj2 bt505.1 bt505.2.1 bt505.2.2).bind fun t508 => (spec_CountMeeting.l0 kj2 0 t508 0 a1_0 a1_1 a1_2 a1_3))) = some r := by rw [if_neg (show ¬ (false = true) by decide)] at H; exact H
    clear H
    have H := H1
    clear H1
    replace H := Option.bind_eq_some_iff.mp H
    obtain ⟨⟨t505, t506, t507⟩, A200, H⟩ := H
    replace H : ((spec_ListTrees.f kj2 t505 t506 t507).bind fun t508 => (spec_CountMeeting.l0 kj2 0 t508 0 a1_0 a1_1 a1_2 a1_3)) = some r := H
    have A20 := Aside0.mk A200
    clear A200
    replace H := Option.bind_eq_some_iff.mp H
    obtain ⟨t508, A210, H⟩ := H
    replace H : (spec_CountMeeting.l0 kj2 0 t508 0 a1_0 a1_1 a1_2 a1_3) = some r := H
    have A21 := Aside0.mk A210
    clear A210
    have H' := Aside0.mk H
    clear H
    have hnb22 := NB501_502.out
    have hnc22 := NB502_501.out
    obtain ⟨hcz23_0, hcz23_1⟩ := cz2_ BK501.out
    obtain ⟨hfz23_0, hfz23_1⟩ := fz2_ BK501.out
    go_wp2_with (first | (refine gl_ 18 Try.func92 #[.agg #[.int .i64 a0_0, .int .i64 a0_1]] ?_; (with_reducible refine (spec_FullMaze.calls a0_0 a0_1 t505 t506 t507 _ A20.out).mono ?_); rintro e w24 ⟨rfl, hb⟩; refine ⟨_, rfl, ?_⟩; replace BK501 := BK501.bb hb; replace BK502 := BK502.bb hb; replace HB := HB.s2 GE501 GE502 hb; (try clear hb)) | (refine gl_ 19 Try.func91 #[.agg #[.int .i64 t505, .int .i64 t506, .int .i64 t507]] ?_; (with_reducible refine (spec_ListTrees.calls kj2 t505 t506 t507 t508 _ A21.out).mono ?_); rintro e w25 ⟨v509, rfl, ho0, hb⟩; refine ⟨_, rfl, ?_⟩; have HO510 := Aside0.mk (Kd.R_lower ho0 (below_size (hb2_ HB.out GE501.out GE502.out))); replace BK501 := BK501.bb hb; replace BK502 := BK502.bb hb; replace HB := HB.s2 GE501 GE502 hb; (try clear hb); (try clear ho0)))
    go_loopg [5, 7] kj2 (fun kq v5 v7 w' => ∃ (x5_2 : Int) (x7_2 : Int), v5 = .int .i64 x5_2 ∧ v7 = .int .i64 x7_2 ∧ Aside0 (spec_CountMeeting.l0 kq x5_2 t508 x7_2 a1_0 a1_1 a1_2 a1_3 = some r) ∧ Aside0 (kq ≤ kj2) ∧ Aside0 (Kd.R k29 29 w' w.heap.size (fun _ => True) v509 t508) ∧ Aside0 (w'.heap[gb501]? = some (.cells #[.int .i64 a0_0, .int .i64 a0_1] 27 (0, 0))) ∧ Aside0 (w'.heap[gb502]? = some (.cells #[.int .i64 a1_0, .int .i64 a1_1, .int .i64 a1_2, .int .i64 a1_3] 51 (0, 0))) ∧ Aside0 (Below w.heap.size w w'))
    case atStart => exact ⟨(0), (0), (by first | rfl | (simp; done) | (simp [*]; done)), (by first | rfl | (simp; done) | (simp [*]; done)), H', ⟨Nat.le_refl _⟩, ⟨kr_ HO510.out⟩, ⟨bk_ BK501.out⟩, ⟨bk_ BK502.out⟩, ⟨hb2_ HB.out GE501.out GE502.out⟩⟩
    case round =>
     clear H'
     try clear c1
     try clear c2
     try clear p2
     try clear c4
     try clear c7
     try clear c8
     try clear c9
     try clear c15
     try clear c19
     try clear c22
     try clear hcz10_0
     try clear hcz10_1
     try clear hcz11_0
     try clear hcz11_1
     try clear hcz11_2
     try clear hcz11_3
     try clear hcz13_0
     try clear hcz13_1
     try clear hcz16_0
     try clear hcz16_1
     try clear hcz17_0
     try clear hcz17_1
     try clear hcz17_2
     try clear hcz17_3
     try clear hcz23_0
     try clear hcz23_1
     try clear hfz10_0
     try clear hfz10_1
     try clear hfz11_0
     try clear hfz11_1
     try clear hfz11_2
     try clear hfz11_3
     try clear hfz13_0
     try clear hfz13_1
     try clear hfz16_0
     try clear hfz16_1
     try clear hfz17_0
     try clear hfz17_1
     try clear hfz17_2
     try clear hfz17_3
     try clear hfz23_0
     try clear hfz23_1
     try clear p2
     obtain ⟨x5_2, x7_2, rfl, rfl, HA, HK2, HO_6, BK501, BK502, HB⟩ := hrel
     cases gk with
     | zero => exact absurd HA.out (by simp [spec_CountMeeting.l0])
     | succ k2 =>
      have H := HA.out
      clear HA
      simp only [spec_CountMeeting.l0] at H
      by_cases c26 : x7_2 < (t508.length : Int)
      ·rw [if_pos c26] at H
       have c26b0 : decide (x7_2 < (t508.length : Int)) = true := decide_eq_true c26
       clear c26
       by_cases c27 : 0 ≤ x7_2
       ·rw [if_pos c27] at H
        have c27b0 : decide (0 ≤ x7_2) = true := decide_eq_true c27
        clear c27
        replace H := Option.bind_eq_some_iff.mp H
        obtain ⟨t512, A280, H⟩ := H
        replace H : (if t512 = true then (spec_CountMeeting.l0 k2 (wrap64 (x5_2 + 1)) t508 (wrap64 (x7_2 + 1)) a1_0 a1_1 a1_2 a1_3) else (spec_CountMeeting.l0 k2 x5_2 t508 (wrap64 (x7_2 + 1)) a1_0 a1_1 a1_2 a1_3)) = some r := H
        have A28 := Aside0.mk A280
        clear A280
        by_cases c29 : t512 = true
        ·subst c29
         have H1 : (spec_CountMeeting.l0 k2 (wrap64 (x5_2 + 1)) t508 (wrap64 (x7_2 + 1)) a1_0 a1_1 a1_2 a1_3) = some r := by rw [if_pos rfl] at H; exact H
         clear H
         have H := H1
         clear H1
         have H' := Aside0.mk H
         clear H
         obtain ⟨Ao30, co30, eo30⟩ := Kd.R_slice HO_6.out
         subst eo30
         try go_wp2
         replace HO_6 := Aside0.mk (Kd.R_drew HO_6.out)
         replace BK501 := Aside0.mk (blk_drew BK501.out)
         replace BK502 := Aside0.mk (blk_drew BK502.out)
         replace HB := Aside0.mk (below_drew1 HB.out)
         have p511 : 0 ≤ (x7_2 : Int) := of_decide_eq_true (as_)
         have q511 : x7_2 < (t508.length : Int) := of_decide_eq_true (as_)
         obtain ⟨ad511, e511, hx511_0, hx511_1, hx511_2⟩ := at_T29 (Kd.R_reads' HO_6.out).2.2 x7_2 p511 q511
         cases e511
         replace p511 := eq_true p511
         replace q511 := eq_true q511
         refine start_ (n := 6) (S := fun w' => w'.cell? ⟨gb502, 0, none⟩ = some (.int .i64 a1_0) ∧ w'.cell? ⟨gb502, 1, none⟩ = some (.int .i64 a1_1) ∧ w'.cell? ⟨gb502, 2, none⟩ = some (.int .i64 a1_2) ∧ w'.cell? ⟨gb502, 3, none⟩ = some (.int .i64 a1_3) ∧ w'.cell? (ad511.add ((x7_2).toNat * 3)) = some (.int .i64 ((rd_T29 t508 x7_2).f0.f0)) ∧ w'.cell? ⟨(ad511.add ((x7_2).toNat * 3)).block, (ad511.add ((x7_2).toNat * 3)).off + 1, none⟩ = some (.int .i64 ((rd_T29 t508 x7_2).f0.f1)) ∧ w'.cell? ⟨(ad511.add ((x7_2).toNat * 3)).block, (ad511.add ((x7_2).toNat * 3)).off + 2, none⟩ = some (.int .i64 ((rd_T29 t508 x7_2).f1))) (ds := []) #[false, false, false, false, false, false] (by kernel_rfl) rfl rfl ⟨BK502.c 0, BK502.c 1, BK502.c 2, BK502.c 3, hx511_0, hx511_1, hx511_2⟩ (fun hHeld => ?_)
         generalize wr.drew = w31 at HO_6 BK501 BK502 HB hx511_0 hx511_1 hx511_2 hHeld ⊢
         refine pure_ (i := 0) (N := some 26) (v := ?_) (a' := ?_) #[true, false, false, false, false, false] rfl rfl (by kernel_rfl) (fun _ _ _ h => h) (Or.inl ⟨by rfl, ?_⟩) ?_ ?_
         rotate_left
         ·intro w'
          go_simp
          with_reducible rfl
         rotate_left
         ·simp only [Act.put, List.setIfInBounds_toArray, List.set_cons_zero, List.set_cons_succ, i64_w, i32_w]
          rfl
         refine pure_ (i := 1) (N := some 27) (v := ?_) (a' := ?_) #[true, true, false, false, false, false] rfl rfl (by kernel_rfl) (fun _ _ _ h => h) (Or.inl ⟨by rfl, ?_⟩) ?_ ?_
         rotate_left
         ·intro w'
          go_simp
          with_reducible rfl
         rotate_left
         ·simp only [Act.put, List.setIfInBounds_toArray, List.set_cons_zero, List.set_cons_succ, i64_w, i32_w]
          rfl
         refine pure_ (i := 2) (N := some 28) (v := ?_) (a' := ?_) #[true, true, true, false, false, false] rfl rfl (by kernel_rfl) (fun _ _ _ h => h) (Or.inl ⟨by rfl, ?_⟩) ?_ ?_
         rotate_left
         ·intro w'
          go_simp
          with_reducible rfl
         rotate_left
         ·simp only [Act.put, List.setIfInBounds_toArray, List.set_cons_zero, List.set_cons_succ, i64_w, i32_w]
          rfl
         refine take_ (i := 3) (N := some 29) (v := ?_) (a' := ?_) #[true, true, true, true, false, false] rfl rfl (by kernel_rfl) (fun _ _ _ h => h) (Or.inl ⟨by rfl, ?_⟩) hHeld ?_ ?_
         rotate_left
         ·rintro w' ⟨s0, s1, s2, s3, s4, s5, s6⟩
          go_simp
          with_reducible rfl
         rotate_left
         ·simp only [Act.put, List.setIfInBounds_toArray, List.set_cons_zero, List.set_cons_succ, i64_w, i32_w]
          rfl
         refine take_ (i := 4) (N := some 30) (v := ?_) (a' := ?_) #[true, true, true, true, true, false] rfl rfl (by kernel_rfl) (fun _ _ _ h => h) (Or.inl ⟨by rfl, ?_⟩) hHeld ?_ ?_
         rotate_left
         ·rintro w' ⟨s0, s1, s2, s3, s4, s5, s6⟩
          go_simp
          with_reducible rfl
         rotate_left
         ·simp only [Act.put, List.setIfInBounds_toArray, List.set_cons_zero, List.set_cons_succ, i64_w, i32_w]
          rfl
         refine one_ (i := 5) (N := some 31) #[true, true, true, true, true, true] rfl rfl (by kernel_rfl) (by decide) (fun K hK => ?_)
         refine gq_ Try.func37 #[.agg #[.int .i64 ((rd_T29 t508 x7_2).f0.f0), .int .i64 ((rd_T29 t508 x7_2).f0.f1), .int .i64 ((rd_T29 t508 x7_2).f1)], .agg #[.int .i64 a1_0, .int .i64 a1_1, .int .i64 a1_2, .int .i64 a1_3]] ?_
         with_reducible refine (spec_MeetsWish.calls k2 ((rd_T29 t508 x7_2).f0.f0) ((rd_T29 t508 x7_2).f0.f1) ((rd_T29 t508 x7_2).f1) a1_0 a1_1 a1_2 a1_3 true _ A28.out).mono ?_
         rintro e w32 ⟨rfl, hb⟩
         have HS4_ := (hb.cell (World.block_lt_of_cell? _ _ (hHeld.2.2.2.2.1))).trans (hHeld.2.2.2.2.1)
         have HS5_ := (hb.cell (World.block_lt_of_cell? _ _ (hHeld.2.2.2.2.2.1))).trans (hHeld.2.2.2.2.2.1)
         have HS6_ := (hb.cell (World.block_lt_of_cell? _ _ (hHeld.2.2.2.2.2.2))).trans (hHeld.2.2.2.2.2.2)
         refine ⟨_, rfl, ?_⟩
         replace HO_6 := HO_6.kb hb
         replace BK501 := BK501.bb hb
         replace BK502 := BK502.bb hb
         replace HB := HB.s2 GE501 GE502 hb
         skip
         (try clear hb2)
         (try clear hk)
         (try clear hi)
         refine hK.out _ _ ⟨BK502.c 0, BK502.c 1, BK502.c 2, BK502.c 3, HS4_, HS5_, HS6_⟩ (fun hHeld => ?_)
         clear hK K
         refine nm_ ?_
         refine done_ (by kernel_rfl) ?_
         try go_wp2
         go_roundg k2
         case measure => have := HJ2.out; have := HK2.out; omega
         case rel => exact ⟨(wrap64 (x5_2 + 1)), (wrap64 (x7_2 + 1)), (by first | rfl | (simp; done) | (simp [*]; done)), (by first | rfl | (simp; done) | (simp [*]; done)), H', ⟨by have := HJ2.out; have := HK2.out; omega⟩, ⟨kr_ HO_6.out⟩, ⟨bk_ BK501.out⟩, ⟨bk_ BK502.out⟩, ⟨hb2_ HB.out GE501.out GE502.out⟩⟩
        ·replace c29 := Bool.eq_false_iff.mpr c29
         subst c29
         have H1 : (spec_CountMeeting.l0 k2 x5_2 t508 (wrap64 (x7_2 + 1)) a1_0 a1_1 a1_2 a1_3) = some r := by rw [if_neg (show ¬ (false = true) by decide)] at H; exact H
         clear H
         have H := H1
         clear H1
         have H' := Aside0.mk H
         clear H
         obtain ⟨Ao33, co33, eo33⟩ := Kd.R_slice HO_6.out
         subst eo33
         try go_wp2
         replace HO_6 := Aside0.mk (Kd.R_drew HO_6.out)
         replace BK501 := Aside0.mk (blk_drew BK501.out)
         replace BK502 := Aside0.mk (blk_drew BK502.out)
         replace HB := Aside0.mk (below_drew1 HB.out)
         have p511 : 0 ≤ (x7_2 : Int) := of_decide_eq_true (as_)
         have q511 : x7_2 < (t508.length : Int) := of_decide_eq_true (as_)
         obtain ⟨ad511, e511, hx511_0, hx511_1, hx511_2⟩ := at_T29 (Kd.R_reads' HO_6.out).2.2 x7_2 p511 q511
         cases e511
         replace p511 := eq_true p511
         replace q511 := eq_true q511
         refine start_ (n := 6) (S := fun w' => w'.cell? ⟨gb502, 0, none⟩ = some (.int .i64 a1_0) ∧ w'.cell? ⟨gb502, 1, none⟩ = some (.int .i64 a1_1) ∧ w'.cell? ⟨gb502, 2, none⟩ = some (.int .i64 a1_2) ∧ w'.cell? ⟨gb502, 3, none⟩ = some (.int .i64 a1_3) ∧ w'.cell? (ad511.add ((x7_2).toNat * 3)) = some (.int .i64 ((rd_T29 t508 x7_2).f0.f0)) ∧ w'.cell? ⟨(ad511.add ((x7_2).toNat * 3)).block, (ad511.add ((x7_2).toNat * 3)).off + 1, none⟩ = some (.int .i64 ((rd_T29 t508 x7_2).f0.f1)) ∧ w'.cell? ⟨(ad511.add ((x7_2).toNat * 3)).block, (ad511.add ((x7_2).toNat * 3)).off + 2, none⟩ = some (.int .i64 ((rd_T29 t508 x7_2).f1))) (ds := []) #[false, false, false, false, false, false] (by kernel_rfl) rfl rfl ⟨BK502.c 0, BK502.c 1, BK502.c 2, BK502.c 3, hx511_0, hx511_1, hx511_2⟩ (fun hHeld => ?_)
         generalize wr.drew = w34 at HO_6 BK501 BK502 HB hx511_0 hx511_1 hx511_2 hHeld ⊢
         refine pure_ (i := 0) (N := some 26) (v := ?_) (a' := ?_) #[true, false, false, false, false, false] rfl rfl (by kernel_rfl) (fun _ _ _ h => h) (Or.inl ⟨by rfl, ?_⟩) ?_ ?_
         rotate_left
         ·intro w'
          go_simp
          with_reducible rfl
         rotate_left
         ·simp only [Act.put, List.setIfInBounds_toArray, List.set_cons_zero, List.set_cons_succ, i64_w, i32_w]
          rfl
         refine pure_ (i := 1) (N := some 27) (v := ?_) (a' := ?_) #[true, true, false, false, false, false] rfl rfl (by kernel_rfl) (fun _ _ _ h => h) (Or.inl ⟨by rfl, ?_⟩) ?_ ?_
         rotate_left
         ·intro w'
          go_simp
          with_reducible rfl
         rotate_left
         ·simp only [Act.put, List.setIfInBounds_toArray, List.set_cons_zero, List.set_cons_succ, i64_w, i32_w]
          rfl
         refine pure_ (i := 2) (N := some 28) (v := ?_) (a' := ?_) #[true, true, true, false, false, false] rfl rfl (by kernel_rfl) (fun _ _ _ h => h) (Or.inl ⟨by rfl, ?_⟩) ?_ ?_
         rotate_left
         ·intro w'
          go_simp
          with_reducible rfl
         rotate_left
         ·simp only [Act.put, List.setIfInBounds_toArray, List.set_cons_zero, List.set_cons_succ, i64_w, i32_w]
          rfl
         refine take_ (i := 3) (N := some 29) (v := ?_) (a' := ?_) #[true, true, true, true, false, false] rfl rfl (by kernel_rfl) (fun _ _ _ h => h) (Or.inl ⟨by rfl, ?_⟩) hHeld ?_ ?_
         rotate_left
         ·rintro w' ⟨s0, s1, s2, s3, s4, s5, s6⟩
          go_simp
          with_reducible rfl
         rotate_left
         ·simp only [Act.put, List.setIfInBounds_toArray, List.set_cons_zero, List.set_cons_succ, i64_w, i32_w]
          rfl
         refine take_ (i := 4) (N := some 30) (v := ?_) (a' := ?_) #[true, true, true, true, true, false] rfl rfl (by kernel_rfl) (fun _ _ _ h => h) (Or.inl ⟨by rfl, ?_⟩) hHeld ?_ ?_
         rotate_left
         ·rintro w' ⟨s0, s1, s2, s3, s4, s5, s6⟩
          go_simp
          with_reducible rfl
         rotate_left
         ·simp only [Act.put, List.setIfInBounds_toArray, List.set_cons_zero, List.set_cons_succ, i64_w, i32_w]
          rfl
         refine one_ (i := 5) (N := some 31) #[true, true, true, true, true, true] rfl rfl (by kernel_rfl) (by decide) (fun K hK => ?_)
         refine gq_ Try.func37 #[.agg #[.int .i64 ((rd_T29 t508 x7_2).f0.f0), .int .i64 ((rd_T29 t508 x7_2).f0.f1), .int .i64 ((rd_T29 t508 x7_2).f1)], .agg #[.int .i64 a1_0, .int .i64 a1_1, .int .i64 a1_2, .int .i64 a1_3]] ?_
         with_reducible refine (spec_MeetsWish.calls k2 ((rd_T29 t508 x7_2).f0.f0) ((rd_T29 t508 x7_2).f0.f1) ((rd_T29 t508 x7_2).f1) a1_0 a1_1 a1_2 a1_3 false _ A28.out).mono ?_
         rintro e w35 ⟨rfl, hb⟩
         have HS4_ := (hb.cell (World.block_lt_of_cell? _ _ (hHeld.2.2.2.2.1))).trans (hHeld.2.2.2.2.1)
         have HS5_ := (hb.cell (World.block_lt_of_cell? _ _ (hHeld.2.2.2.2.2.1))).trans (hHeld.2.2.2.2.2.1)
         have HS6_ := (hb.cell (World.block_lt_of_cell? _ _ (hHeld.2.2.2.2.2.2))).trans (hHeld.2.2.2.2.2.2)
         refine ⟨_, rfl, ?_⟩
         replace HO_6 := HO_6.kb hb
         replace BK501 := BK501.bb hb
         replace BK502 := BK502.bb hb
         replace HB := HB.s2 GE501 GE502 hb
         skip
         (try clear hb2)
         (try clear hk)
         (try clear hi)
         refine hK.out _ _ ⟨BK502.c 0, BK502.c 1, BK502.c 2, BK502.c 3, HS4_, HS5_, HS6_⟩ (fun hHeld => ?_)
         clear hK K
         refine nm_ ?_
         refine done_ (by kernel_rfl) ?_
         try go_wp2
         go_roundg k2
         case measure => have := HJ2.out; have := HK2.out; omega
         case rel => exact ⟨(x5_2), (wrap64 (x7_2 + 1)), (by first | rfl | (simp; done) | (simp [*]; done)), (by first | rfl | (simp; done) | (simp [*]; done)), H', ⟨by have := HJ2.out; have := HK2.out; omega⟩, ⟨kr_ HO_6.out⟩, ⟨bk_ BK501.out⟩, ⟨bk_ BK502.out⟩, ⟨hb2_ HB.out GE501.out GE502.out⟩⟩
       ·rw [if_neg c27] at H
        exact absurd H (by simp)
      ·rw [if_neg c26] at H
       have c26b0 : decide (x7_2 < (t508.length : Int)) = false := decide_eq_false c26
       clear c26
       obtain rfl := Option.some.inj H
       obtain ⟨Ao36, co36, eo36⟩ := Kd.R_slice HO_6.out
       subst eo36
       go_wp2
       go_ret
       exact ⟨ex_, hb2_ HB.out GE501.out GE502.out⟩

end Go.Proofs.Ytdloifaaoiollaa.X
