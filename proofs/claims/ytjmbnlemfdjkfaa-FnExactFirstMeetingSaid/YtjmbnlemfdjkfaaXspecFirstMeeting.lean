-- Written by a program of this session (xprint.py), out of the translation and of hand-written contracts. Lean checks it.
import Derived.Test.YtjmbnlemfdjkfaaX0
import Derived.Test.YtjmbnlemfdjkfaaXcgaps
import Derived.Test.YtjmbnlemfdjkfaaXcmeet
import Derived.Test.YtjmbnlemfdjkfaaXcstrees
import Derived.Test.YtjmbnlemfdjkfaaXcwish
import Derived.Test.YtjmbnlemfdjkfaaXspecFullMaze
namespace Go.Proofs.Ytjmbnlemfdjkfaa.X
open Go.RowKit Go.Proofs.YtjmbnlemfdjkfaaW.PrintWords Go.Proofs.YtjmbnlemfdjkfaaW.PrintLast Go.Proofs.YtjmbnlemfdjkfaaW.PrintMore
attribute [local go_sem] max2_int min2_int max_two min_two max_three min_three max_four min_four   -- for this text's walks alone
set_option linter.unusedVariables false
set_option linter.unusedSimpArgs false

/-! ### spec_FirstMeeting: function 5 -/
mutual
def spec_FirstMeeting.j0 : Nat → Bool → Int → Int → Int → Int → Int → Int → Option (Int × Int × Int × Bool)
 | 0, _, _, _, _, _, _, _ => none
 | k + 1, x16, x502000, x502001, x503000, x503001, x503002, x503003 => if x16 = true then (some (0, 0, 0, false)) else ((spec_FullMaze.f x502000 x502001).bind fun bt506 => ((spec_ListTrees.f k bt506.1 bt506.2.1 bt506.2.2).bind fun t509 => (spec_FirstMeeting.l0 k t509 0 x503000 x503001 x503002 x503003)))
def spec_FirstMeeting.l0 : Nat → List (S28) → Int → Int → Int → Int → Int → Option (Int × Int × Int × Bool)
 | 0, _, _, _, _, _, _ => none
 | k + 1, x6, x7, x503000, x503001, x503002, x503003 => if x7 < (x6.length : Int) then (if 0 ≤ x7 then ((spec_MeetsWish.f k ((rd_T28 x6 x7).f0.f0) ((rd_T28 x6 x7).f0.f1) ((rd_T28 x6 x7).f1) x503000 x503001 x503002 x503003).bind fun t513 => (if t513 = true then (some ((rd_T28 x6 x7).f0.f0, (rd_T28 x6 x7).f0.f1, (rd_T28 x6 x7).f1, true)) else (spec_FirstMeeting.l0 k x6 (wrap64 (x7 + 1)) x503000 x503001 x503002 x503003))) else (none)) else (some (0, 0, 0, false))
end
def spec_FirstMeeting.f (k : Nat) (a0_0 : Int) (a0_1 : Int) (a1_0 : Int) (a1_1 : Int) (a1_2 : Int) (a1_3 : Int) : Option (Int × Int × Int × Bool) := (spec_WishOk.f a0_0 a0_1 a1_0 a1_1 a1_2 a1_3).bind fun t504 => (if t504 = true then ((spec_CountGaps.f a0_0 a0_1).bind fun t505 => (spec_FirstMeeting.j0 k (decide (t505 > 12)) a0_0 a0_1 a1_0 a1_1 a1_2 a1_3)) else (spec_FirstMeeting.j0 k true a0_0 a0_1 a1_0 a1_1 a1_2 a1_3))
theorem spec_FirstMeeting.mono_l : ∀ k, (∀ y0 y1 y2 y3 y4 y5 y6, LeO (spec_FirstMeeting.j0 k y0 y1 y2 y3 y4 y5 y6) (spec_FirstMeeting.j0 (k + 1) y0 y1 y2 y3 y4 y5 y6)) ∧ (∀ y0 y1 y2 y3 y4 y5, LeO (spec_FirstMeeting.l0 k y0 y1 y2 y3 y4 y5) (spec_FirstMeeting.l0 (k + 1) y0 y1 y2 y3 y4 y5))
 | 0 => ⟨fun _ _ _ _ _ _ _ r h => by simp [spec_FirstMeeting.j0] at h, fun _ _ _ _ _ _ r h => by simp [spec_FirstMeeting.l0] at h⟩
 | k + 1 => by
  obtain ⟨ih0, ih1⟩ := spec_FirstMeeting.mono_l k
  refine ⟨?_, ?_⟩
  ·intro y0 y1 y2 y3 y4 y5 y6
   unfold spec_FirstMeeting.j0
   repeat' first
   | (with_reducible exact ih0 ..)
   | (with_reducible exact ih1 ..)
   | (with_reducible exact spec_ListTrees.mono ..)
   | (with_reducible exact spec_MeetsWish.mono ..)
   | (with_reducible first | exact lr_ _ | exact ln_ _ | refine li_ ?_ ?_ | refine lb_ ?_ fun _ => ?_)
   | exact ih0 ..
   | exact ih1 ..
   | exact spec_ListTrees.mono ..
   | exact spec_MeetsWish.mono ..
   | exact ln_ _ | refine li_ ?_ ?_ | refine lb_ ?_ fun _ => ?_
  ·intro y0 y1 y2 y3 y4 y5
   unfold spec_FirstMeeting.l0
   repeat' first
   | (with_reducible exact ih0 ..)
   | (with_reducible exact ih1 ..)
   | (with_reducible exact spec_ListTrees.mono ..)
   | (with_reducible exact spec_MeetsWish.mono ..)
   | (with_reducible first | exact lr_ _ | exact ln_ _ | refine li_ ?_ ?_ | refine lb_ ?_ fun _ => ?_)
   | exact ih0 ..
   | exact ih1 ..
   | exact spec_ListTrees.mono ..
   | exact spec_MeetsWish.mono ..
   | exact ln_ _ | refine li_ ?_ ?_ | refine lb_ ?_ fun _ => ?_
theorem spec_FirstMeeting.mono : ∀ a0 a1 a2 a3 a4 a5 k, LeO (spec_FirstMeeting.f k a0 a1 a2 a3 a4 a5) (spec_FirstMeeting.f (k + 1) a0 a1 a2 a3 a4 a5) := by
 intro a0 a1 a2 a3 a4 a5 k
 obtain ⟨ih0, ih1⟩ := spec_FirstMeeting.mono_l k
 unfold spec_FirstMeeting.f
 repeat' first
   | (with_reducible exact ih0 ..)
   | (with_reducible exact ih1 ..)
   | (with_reducible exact spec_ListTrees.mono ..)
   | (with_reducible exact spec_MeetsWish.mono ..)
   | (with_reducible first | exact lr_ _ | exact ln_ _ | refine li_ ?_ ?_ | refine lb_ ?_ fun _ => ?_)
   | exact ih0 ..
   | exact ih1 ..
   | exact spec_ListTrees.mono ..
   | exact spec_MeetsWish.mono ..
   | exact ln_ _ | refine li_ ?_ ?_ | refine lb_ ?_ fun _ => ?_
set_option maxHeartbeats 8000000 in
set_option maxRecDepth 100000 in
theorem spec_FirstMeeting.calls (k : Nat) (a0_0 : Int) (a0_1 : Int) (a1_0 : Int) (a1_1 : Int) (a1_2 : Int) (a1_3 : Int) (r1 : Int) (r2 : Int) (r3 : Int) (r4 : Bool) (w : World) (h : spec_FirstMeeting.f k a0_0 a0_1 a1_0 a1_1 a1_2 a1_3 = some (r1, r2, r3, r4)) :
  Calls Try.prog 5 #[.agg #[.int .i64 a0_0, .int .i64 a0_1], .agg #[.int .i64 a1_0, .int .i64 a1_1, .int .i64 a1_2, .int .i64 a1_3]] w fun e w' => e = .returned (.tuple #[.agg #[.int .i64 r1, .int .i64 r2, .int .i64 r3], .bool r4]) ∧ Below w.heap.size w w' := by
 have hu26 := Try.underlying26
 have hu32 := Try.underlying32
 have hu28 := Try.underlying28
 have HB := Aside0.mk (Below.refl w.heap.size w)
 have H : ((spec_WishOk.f a0_0 a0_1 a1_0 a1_1 a1_2 a1_3).bind fun t504 => (if t504 = true then ((spec_CountGaps.f a0_0 a0_1).bind fun t505 => (spec_FirstMeeting.j0 k (decide (t505 > 12)) a0_0 a0_1 a1_0 a1_1 a1_2 a1_3)) else (spec_FirstMeeting.j0 k true a0_0 a0_1 a1_0 a1_1 a1_2 a1_3))) = some (r1, r2, r3, r4) := h
 clear h
 have HC3 := Aside0.mk H
 clear H
 go_enter Try.func5, Try.ntmps5
 go_upto_region 1 with (first | (refine box_ (N := 2) (cs := #[.int .i64 a0_0, .int .i64 a0_1]) (t := 26) ?_; intro gb501 hg w4 hbox hb; have BK501 := Aside0.mk (hbox); have GW501 := HB.g0 hg; have GE501 := HB.g0 hg; replace HB := HB.s0 hb; clear hb hbox hg) | (refine box_ (N := 3) (cs := #[.int .i64 a1_0, .int .i64 a1_1, .int .i64 a1_2, .int .i64 a1_3]) (t := 32) ?_; intro gb502 hg w5 hbox hb; have BK502 := Aside0.mk (hbox); have GW502 := HB.g1 GE501 hg; have GE502 := HB.g1 GE501 hg; replace HB := HB.s1 GE501 hb; have NB501_502 := BK501.nl hg; have NB502_501 := BK501.nr hg; replace BK501 := BK501.bb hb; clear hb hbox hg) | (refine box_ (N := 4) (cs := #[.int .i64 0, .int .i64 0, .int .i64 0]) (t := 28) ?_; intro gb503 hg w6 hbox hb; have BK503 := Aside0.mk (hbox); have GW503 := HB.g2 GE501 GE502 hg; have GE503 := HB.g2 GE501 GE502 hg; replace HB := HB.s2 GE501 GE502 hb; have NB501_503 := BK501.nl hg; have NB503_501 := BK501.nr hg; replace BK501 := BK501.bb hb; have NB502_503 := BK502.nl hg; have NB503_502 := BK502.nr hg; replace BK502 := BK502.bb hb; clear hb hbox hg))
 (try simp only [Act.put, List.setIfInBounds_toArray, List.set_cons_zero, List.set_cons_succ])
 go_cut [16] (fun v16 wc => ∃ (kq : Nat) (x16_2 : Bool), v16 = .bool x16_2 ∧ Aside0 (spec_FirstMeeting.j0 kq x16_2 a0_0 a0_1 a1_0 a1_1 a1_2 a1_3 = some (r1, r2, r3, r4)) ∧ Aside0 (kq ≤ k) ∧ Aside0 (wc.heap[gb501]? = some (.cells #[.int .i64 a0_0, .int .i64 a0_1] 26 (0, 0))) ∧ Aside0 (wc.heap[gb502]? = some (.cells #[.int .i64 a1_0, .int .i64 a1_1, .int .i64 a1_2, .int .i64 a1_3] 32 (0, 0))) ∧ Aside0 (wc.heap[gb503]? = some (.cells #[.int .i64 0, .int .i64 0, .int .i64 0] 28 (0, 0))) ∧ Aside0 (Below w.heap.size w wc))
 case first =>
  have H := HC3.out
  clear HC3
  replace H := Option.bind_eq_some_iff.mp H
  obtain ⟨t504, A70, H⟩ := H
  replace H : (if t504 = true then ((spec_CountGaps.f a0_0 a0_1).bind fun t505 => (spec_FirstMeeting.j0 k (decide (t505 > 12)) a0_0 a0_1 a1_0 a1_1 a1_2 a1_3)) else (spec_FirstMeeting.j0 k true a0_0 a0_1 a1_0 a1_1 a1_2 a1_3)) = some (r1, r2, r3, r4) := H
  have A7 := Aside0.mk A70
  clear A70
  by_cases c8 : t504 = true
  ·subst c8
   have H1 : ((spec_CountGaps.f a0_0 a0_1).bind fun t505 => (spec_FirstMeeting.j0 k (decide (t505 > 12)) a0_0 a0_1 a1_0 a1_1 a1_2 a1_3)) = some (r1, r2, r3, r4) := by rw [if_pos rfl] at H; exact H
   clear H
   have H := H1
   clear H1
   replace H := Option.bind_eq_some_iff.mp H
   obtain ⟨t505, A90, H⟩ := H
   replace H : (spec_FirstMeeting.j0 k (decide (t505 > 12)) a0_0 a0_1 a1_0 a1_1 a1_2 a1_3) = some (r1, r2, r3, r4) := H
   have A9 := Aside0.mk A90
   clear A90
   have H' := Aside0.mk H
   clear H
   have hnb10 := NB501_502.out
   have hnc10 := NB502_501.out
   have hnb11 := NB501_503.out
   have hnc11 := NB503_501.out
   obtain ⟨hcz12_0, hcz12_1⟩ := cz2_ BK501.out
   obtain ⟨hfz12_0, hfz12_1⟩ := fz2_ BK501.out
   have hnb13 := NB502_503.out
   have hnc13 := NB503_502.out
   obtain ⟨hcz14_0, hcz14_1, hcz14_2, hcz14_3⟩ := cz4_ BK502.out
   obtain ⟨hfz14_0, hfz14_1, hfz14_2, hfz14_3⟩ := fz4_ BK502.out
   go_wp2_with (first | (refine gl_ 10 Try.func13 #[.agg #[.int .i64 a0_0, .int .i64 a0_1], .agg #[.int .i64 a1_0, .int .i64 a1_1, .int .i64 a1_2, .int .i64 a1_3]] ?_; (with_reducible refine (spec_WishOk.calls a0_0 a0_1 a1_0 a1_1 a1_2 a1_3 true _ A7.out).mono ?_); rintro e w15 ⟨rfl, hb⟩; refine ⟨_, rfl, ?_⟩; replace BK501 := BK501.bb hb; replace BK502 := BK502.bb hb; replace BK503 := BK503.bb hb; replace HB := HB.s3 GE501 GE502 GE503 hb; (try clear hb); obtain ⟨hcz16_0, hcz16_1⟩ := cz2_ BK501.out; obtain ⟨hfz16_0, hfz16_1⟩ := fz2_ BK501.out) | (go_at_call 14; (with_reducible refine (spec_CountGaps.calls a0_0 a0_1 t505 _ A9.out).mono ?_); rintro e w17 ⟨rfl, hb⟩; replace BK501 := BK501.bb hb; replace BK502 := BK502.bb hb; replace BK503 := BK503.bb hb; replace HB := HB.s3 GE501 GE502 GE503 hb; (try clear hb)))
   go_meet
   case rel => exact ⟨_, (decide (t505 > 12)), (by first | rfl | (simp; done) | (simp [*]; done)), H', ⟨by first | omega | exact Nat.le_refl _⟩, ⟨bk_ BK501.out⟩, ⟨bk_ BK502.out⟩, ⟨bk_ BK503.out⟩, ⟨hb3_ HB.out GE501.out GE502.out GE503.out⟩⟩
  ·replace c8 := Bool.eq_false_iff.mpr c8
   subst c8
   have H1 : (spec_FirstMeeting.j0 k true a0_0 a0_1 a1_0 a1_1 a1_2 a1_3) = some (r1, r2, r3, r4) := by rw [if_neg (show ¬ (false = true) by decide)] at H; exact H
   clear H
   have H := H1
   clear H1
   have H' := Aside0.mk H
   clear H
   have hnb18 := NB501_502.out
   have hnc18 := NB502_501.out
   have hnb19 := NB501_503.out
   have hnc19 := NB503_501.out
   obtain ⟨hcz20_0, hcz20_1⟩ := cz2_ BK501.out
   obtain ⟨hfz20_0, hfz20_1⟩ := fz2_ BK501.out
   have hnb21 := NB502_503.out
   have hnc21 := NB503_502.out
   obtain ⟨hcz22_0, hcz22_1, hcz22_2, hcz22_3⟩ := cz4_ BK502.out
   obtain ⟨hfz22_0, hfz22_1, hfz22_2, hfz22_3⟩ := fz4_ BK502.out
   go_wp2_with (first | (refine gl_ 10 Try.func13 #[.agg #[.int .i64 a0_0, .int .i64 a0_1], .agg #[.int .i64 a1_0, .int .i64 a1_1, .int .i64 a1_2, .int .i64 a1_3]] ?_; (with_reducible refine (spec_WishOk.calls a0_0 a0_1 a1_0 a1_1 a1_2 a1_3 false _ A7.out).mono ?_); rintro e w23 ⟨rfl, hb⟩; refine ⟨_, rfl, ?_⟩; replace BK501 := BK501.bb hb; replace BK502 := BK502.bb hb; replace BK503 := BK503.bb hb; replace HB := HB.s3 GE501 GE502 GE503 hb; (try clear hb)))
   go_meet
   case rel => exact ⟨_, (true), (by first | rfl | (simp; done) | (simp [*]; done)), H', ⟨by first | omega | exact Nat.le_refl _⟩, ⟨bk_ BK501.out⟩, ⟨bk_ BK502.out⟩, ⟨bk_ BK503.out⟩, ⟨hb3_ HB.out GE501.out GE502.out GE503.out⟩⟩
 case rest =>
  clear HC3
  try clear c1
  try clear c2
  try clear p2
  try clear c5
  try clear c8
  try clear c10
  try clear c11
  try clear c13
  try clear c18
  try clear c19
  try clear c21
  try clear hcz12_0
  try clear hcz12_1
  try clear hcz14_0
  try clear hcz14_1
  try clear hcz14_2
  try clear hcz14_3
  try clear hcz16_0
  try clear hcz16_1
  try clear hcz20_0
  try clear hcz20_1
  try clear hcz22_0
  try clear hcz22_1
  try clear hcz22_2
  try clear hcz22_3
  try clear hfz12_0
  try clear hfz12_1
  try clear hfz14_0
  try clear hfz14_1
  try clear hfz14_2
  try clear hfz14_3
  try clear hfz16_0
  try clear hfz16_1
  try clear hfz20_0
  try clear hfz20_1
  try clear hfz22_0
  try clear hfz22_1
  try clear hfz22_2
  try clear hfz22_3
  obtain ⟨kq, x16_2, rfl, HA, HJ2, BK501, BK502, BK503, HB⟩ := hcut
  cases kq with
  | zero => exact absurd HA.out (by simp [spec_FirstMeeting.j0])
  | succ kj2 =>
   have H := HA.out
   clear HA
   simp only [spec_FirstMeeting.j0] at H
   by_cases c24 : x16_2 = true
   ·subst c24
    have H1 : (some (0, 0, 0, false)) = some (r1, r2, r3, r4) := by rw [if_pos rfl] at H; exact H
    clear H
    have H := H1
    clear H1
    simp only [Option.some.injEq, Prod.mk.injEq] at H
    obtain ⟨rfl, rfl, rfl, rfl⟩ := H
    have hnb25 := NB503_501.out
    have hnc25 := NB501_503.out
    have hnb26 := NB503_502.out
    have hnc26 := NB502_503.out
    obtain ⟨hcz27_0, hcz27_1, hcz27_2⟩ := cz3_ BK503.out
    obtain ⟨hfz27_0, hfz27_1, hfz27_2⟩ := fz3_ BK503.out
    go_wp2
    refine bodyPost_ret (results_ct rfl _ _ gb503 28 #[.int .i64 0, .int .i64 0, .int .i64 0] (0, 0) _ rfl (bq3_ BK503.out) Try.underlying28 rfl (by kernel_rfl)) rfl ?_
    exact ⟨ex_, hb3_ HB.out GE501.out GE502.out GE503.out⟩
   ·replace c24 := Bool.eq_false_iff.mpr c24
    subst c24
    have H1 : ((spec_FullMaze.f a0_0 a0_1).bind fun bt506 => ((spec_ListTrees.f kj2 bt506.1 bt506.2.1 bt506.2.2).bind fun t509 => (spec_FirstMeeting.l0 kj2 t509 0 a1_0 a1_1 a1_2 a1_3))) = some (r1, r2, r3, r4) := by rw [if_neg (show ¬ (false = true) by decide)] at H; exact H
    clear H
    have H := H1
    clear H1
    replace H := Option.bind_eq_some_iff.mp H
    obtain ⟨⟨t506, t507, t508⟩, A280, H⟩ := H
    replace H : ((spec_ListTrees.f kj2 t506 t507 t508).bind fun t509 => (spec_FirstMeeting.l0 kj2 t509 0 a1_0 a1_1 a1_2 a1_3)) = some (r1, r2, r3, r4) := H
    have A28 := Aside0.mk A280
    clear A280
    replace H := Option.bind_eq_some_iff.mp H
    obtain ⟨t509, A290, H⟩ := H
    replace H : (spec_FirstMeeting.l0 kj2 t509 0 a1_0 a1_1 a1_2 a1_3) = some (r1, r2, r3, r4) := H
    have A29 := Aside0.mk A290
    clear A290
    have H' := Aside0.mk H
    clear H
    have hnb30 := NB501_502.out
    have hnc30 := NB502_501.out
    have hnb31 := NB501_503.out
    have hnc31 := NB503_501.out
    obtain ⟨hcz32_0, hcz32_1⟩ := cz2_ BK501.out
    obtain ⟨hfz32_0, hfz32_1⟩ := fz2_ BK501.out
    go_wp2_with (first | (refine gl_ 19 Try.func16 #[.agg #[.int .i64 a0_0, .int .i64 a0_1]] ?_; (with_reducible refine (spec_FullMaze.calls a0_0 a0_1 t506 t507 t508 _ A28.out).mono ?_); rintro e w33 ⟨rfl, hb⟩; refine ⟨_, rfl, ?_⟩; replace BK501 := BK501.bb hb; replace BK502 := BK502.bb hb; replace BK503 := BK503.bb hb; replace HB := HB.s3 GE501 GE502 GE503 hb; (try clear hb)) | (refine gl_ 20 Try.func15 #[.agg #[.int .i64 t506, .int .i64 t507, .int .i64 t508]] ?_; (with_reducible refine (spec_ListTrees.calls kj2 t506 t507 t508 t509 _ A29.out).mono ?_); rintro e w34 ⟨v510, rfl, ho0, hb⟩; refine ⟨_, rfl, ?_⟩; have HO511 := Aside0.mk (Kd.R_lower (Kd.R_newB ho0 (g := gb503) (o := .cells #[.int .i64 0, .int .i64 0, .int .i64 0] 28 (0, 0)) (bk_ BK503.out)) (below_size (hb3_ HB.out GE501.out GE502.out GE503.out))); replace BK501 := BK501.bb hb; replace BK502 := BK502.bb hb; replace BK503 := BK503.bb hb; replace HB := HB.s3 GE501 GE502 GE503 hb; (try clear hb); (try clear ho0)))
    go_loopg [7] kj2 (fun kq v7 w' => ∃ (x7_2 : Int) (x504000_2 : Int) (x504001_2 : Int) (x504002_2 : Int), v7 = .int .i64 x7_2 ∧ Aside0 (spec_FirstMeeting.l0 kq t509 x7_2 a1_0 a1_1 a1_2 a1_3 = some (r1, r2, r3, r4)) ∧ Aside0 (kq ≤ kj2) ∧ Aside0 (Kd.R k28 28 w' w.heap.size (fun k_ => k_ ≠ gb503) v510 t509) ∧ Aside0 (w'.heap[gb501]? = some (.cells #[.int .i64 a0_0, .int .i64 a0_1] 26 (0, 0))) ∧ Aside0 (w'.heap[gb502]? = some (.cells #[.int .i64 a1_0, .int .i64 a1_1, .int .i64 a1_2, .int .i64 a1_3] 32 (0, 0))) ∧ Aside0 (w'.heap[gb503]? = some (.cells #[.int .i64 x504000_2, .int .i64 x504001_2, .int .i64 x504002_2] 28 (0, 0))) ∧ Aside0 (Below w.heap.size w w'))
    case atStart => exact ⟨(0), (0), (0), (0), (by first | rfl | (simp; done) | (simp [*]; done)), H', ⟨Nat.le_refl _⟩, ⟨by (with_reducible repeat (first | apply Kd.R_alloc | apply Kd.R_drewN | apply Kd.R_drew)); exact Kd.R_mono HO511.out (fun _ hk => hk.2)⟩, ⟨bk_ BK501.out⟩, ⟨bk_ BK502.out⟩, ⟨bk_ BK503.out⟩, ⟨hb3_ HB.out GE501.out GE502.out GE503.out⟩⟩
    case round =>
     clear H'
     try clear c1
     try clear c2
     try clear p2
     try clear c3
     try clear c5
     try clear c8
     try clear c10
     try clear c11
     try clear c13
     try clear c15
     try clear c16
     try clear c18
     try clear c19
     try clear c21
     try clear c24
     try clear c25
     try clear c26
     try clear c30
     try clear c31
     try clear hcz12_0
     try clear hcz12_1
     try clear hcz14_0
     try clear hcz14_1
     try clear hcz14_2
     try clear hcz14_3
     try clear hcz16_0
     try clear hcz16_1
     try clear hcz20_0
     try clear hcz20_1
     try clear hcz22_0
     try clear hcz22_1
     try clear hcz22_2
     try clear hcz22_3
     try clear hcz27_0
     try clear hcz27_1
     try clear hcz27_2
     try clear hcz32_0
     try clear hcz32_1
     try clear hfz12_0
     try clear hfz12_1
     try clear hfz14_0
     try clear hfz14_1
     try clear hfz14_2
     try clear hfz14_3
     try clear hfz16_0
     try clear hfz16_1
     try clear hfz20_0
     try clear hfz20_1
     try clear hfz22_0
     try clear hfz22_1
     try clear hfz22_2
     try clear hfz22_3
     try clear hfz27_0
     try clear hfz27_1
     try clear hfz27_2
     try clear hfz32_0
     try clear hfz32_1
     try clear p2
     obtain ⟨x7_2, x504000_2, x504001_2, x504002_2, rfl, HA, HK2, HO_6, BK501, BK502, BK503, HB⟩ := hrel
     cases gk with
     | zero => exact absurd HA.out (by simp [spec_FirstMeeting.l0])
     | succ k2 =>
      have H := HA.out
      clear HA
      simp only [spec_FirstMeeting.l0] at H
      by_cases c35 : x7_2 < (t509.length : Int)
      ·rw [if_pos c35] at H
       have c35b0 : decide (x7_2 < (t509.length : Int)) = true := decide_eq_true c35
       clear c35
       by_cases c36 : 0 ≤ x7_2
       ·rw [if_pos c36] at H
        have c36b0 : decide (0 ≤ x7_2) = true := decide_eq_true c36
        clear c36
        replace H := Option.bind_eq_some_iff.mp H
        obtain ⟨t513, A370, H⟩ := H
        replace H : (if t513 = true then (some ((rd_T28 t509 x7_2).f0.f0, (rd_T28 t509 x7_2).f0.f1, (rd_T28 t509 x7_2).f1, true)) else (spec_FirstMeeting.l0 k2 t509 (wrap64 (x7_2 + 1)) a1_0 a1_1 a1_2 a1_3)) = some (r1, r2, r3, r4) := H
        have A37 := Aside0.mk A370
        clear A370
        by_cases c38 : t513 = true
        ·subst c38
         have H1 : (some ((rd_T28 t509 x7_2).f0.f0, (rd_T28 t509 x7_2).f0.f1, (rd_T28 t509 x7_2).f1, true)) = some (r1, r2, r3, r4) := by rw [if_pos rfl] at H; exact H
         clear H
         have H := H1
         clear H1
         simp only [Option.some.injEq, Prod.mk.injEq] at H
         obtain ⟨rfl, rfl, rfl, rfl⟩ := H
         obtain ⟨Ao39, co39, eo39⟩ := Kd.R_slice HO_6.out
         subst eo39
         try go_wp2
         replace HO_6 := Aside0.mk (Kd.R_drew HO_6.out)
         replace BK501 := Aside0.mk (blk_drew BK501.out)
         replace BK502 := Aside0.mk (blk_drew BK502.out)
         replace BK503 := Aside0.mk (blk_drew BK503.out)
         replace HB := Aside0.mk (below_drew1 HB.out)
         have p512 : 0 ≤ (x7_2 : Int) := of_decide_eq_true (as_)
         have q512 : x7_2 < (t509.length : Int) := of_decide_eq_true (as_)
         obtain ⟨ad512, e512, hx512_0, hx512_1, hx512_2⟩ := at_T28 (Kd.R_reads' HO_6.out).2.2 x7_2 p512 q512
         cases e512
         replace p512 := eq_true p512
         replace q512 := eq_true q512
         refine start_ (n := 6) (S := fun w' => w'.cell? ⟨gb502, 0, none⟩ = some (.int .i64 a1_0) ∧ w'.cell? ⟨gb502, 1, none⟩ = some (.int .i64 a1_1) ∧ w'.cell? ⟨gb502, 2, none⟩ = some (.int .i64 a1_2) ∧ w'.cell? ⟨gb502, 3, none⟩ = some (.int .i64 a1_3) ∧ w'.cell? (ad512.add ((x7_2).toNat * 3)) = some (.int .i64 ((rd_T28 t509 x7_2).f0.f0)) ∧ w'.cell? ⟨(ad512.add ((x7_2).toNat * 3)).block, (ad512.add ((x7_2).toNat * 3)).off + 1, none⟩ = some (.int .i64 ((rd_T28 t509 x7_2).f0.f1)) ∧ w'.cell? ⟨(ad512.add ((x7_2).toNat * 3)).block, (ad512.add ((x7_2).toNat * 3)).off + 2, none⟩ = some (.int .i64 ((rd_T28 t509 x7_2).f1))) (ds := []) #[false, false, false, false, false, false] (by kernel_rfl) rfl rfl ⟨BK502.c 0, BK502.c 1, BK502.c 2, BK502.c 3, hx512_0, hx512_1, hx512_2⟩ (fun hHeld => ?_)
         generalize wr.drew = w40 at HO_6 BK501 BK502 BK503 HB hx512_0 hx512_1 hx512_2 hHeld ⊢
         refine pure_ (i := 0) (N := some 27) (v := ?_) (a' := ?_) #[true, false, false, false, false, false] rfl rfl (by kernel_rfl) (fun _ _ _ h => h) (Or.inl ⟨by rfl, ?_⟩) ?_ ?_
         rotate_left
         ·intro w'
          go_simp
          with_reducible rfl
         rotate_left
         ·simp only [Act.put, List.setIfInBounds_toArray, List.set_cons_zero, List.set_cons_succ, i64_w, i32_w]
          rfl
         refine pure_ (i := 1) (N := some 28) (v := ?_) (a' := ?_) #[true, true, false, false, false, false] rfl rfl (by kernel_rfl) (fun _ _ _ h => h) (Or.inl ⟨by rfl, ?_⟩) ?_ ?_
         rotate_left
         ·intro w'
          go_simp
          with_reducible rfl
         rotate_left
         ·simp only [Act.put, List.setIfInBounds_toArray, List.set_cons_zero, List.set_cons_succ, i64_w, i32_w]
          rfl
         refine pure_ (i := 2) (N := some 29) (v := ?_) (a' := ?_) #[true, true, true, false, false, false] rfl rfl (by kernel_rfl) (fun _ _ _ h => h) (Or.inl ⟨by rfl, ?_⟩) ?_ ?_
         rotate_left
         ·intro w'
          go_simp
          with_reducible rfl
         rotate_left
         ·simp only [Act.put, List.setIfInBounds_toArray, List.set_cons_zero, List.set_cons_succ, i64_w, i32_w]
          rfl
         refine take_ (i := 3) (N := some 30) (v := ?_) (a' := ?_) #[true, true, true, true, false, false] rfl rfl (by kernel_rfl) (fun _ _ _ h => h) (Or.inl ⟨by rfl, ?_⟩) hHeld ?_ ?_
         rotate_left
         ·rintro w' ⟨s0, s1, s2, s3, s4, s5, s6⟩
          go_simp
          with_reducible rfl
         rotate_left
         ·simp only [Act.put, List.setIfInBounds_toArray, List.set_cons_zero, List.set_cons_succ, i64_w, i32_w]
          rfl
         refine take_ (i := 4) (N := some 31) (v := ?_) (a' := ?_) #[true, true, true, true, true, false] rfl rfl (by kernel_rfl) (fun _ _ _ h => h) (Or.inl ⟨by rfl, ?_⟩) hHeld ?_ ?_
         rotate_left
         ·rintro w' ⟨s0, s1, s2, s3, s4, s5, s6⟩
          go_simp
          with_reducible rfl
         rotate_left
         ·simp only [Act.put, List.setIfInBounds_toArray, List.set_cons_zero, List.set_cons_succ, i64_w, i32_w]
          rfl
         refine one_ (i := 5) (N := some 32) #[true, true, true, true, true, true] rfl rfl (by kernel_rfl) (by decide) (fun K hK => ?_)
         refine gq_ Try.func17 #[.agg #[.int .i64 ((rd_T28 t509 x7_2).f0.f0), .int .i64 ((rd_T28 t509 x7_2).f0.f1), .int .i64 ((rd_T28 t509 x7_2).f1)], .agg #[.int .i64 a1_0, .int .i64 a1_1, .int .i64 a1_2, .int .i64 a1_3]] ?_
         with_reducible refine (spec_MeetsWish.calls k2 ((rd_T28 t509 x7_2).f0.f0) ((rd_T28 t509 x7_2).f0.f1) ((rd_T28 t509 x7_2).f1) a1_0 a1_1 a1_2 a1_3 true _ A37.out).mono ?_
         rintro e w41 ⟨rfl, hb⟩
         have HS4_ := (hb.cell (World.block_lt_of_cell? _ _ (hHeld.2.2.2.2.1))).trans (hHeld.2.2.2.2.1)
         have HS5_ := (hb.cell (World.block_lt_of_cell? _ _ (hHeld.2.2.2.2.2.1))).trans (hHeld.2.2.2.2.2.1)
         have HS6_ := (hb.cell (World.block_lt_of_cell? _ _ (hHeld.2.2.2.2.2.2))).trans (hHeld.2.2.2.2.2.2)
         refine ⟨_, rfl, ?_⟩
         replace HO_6 := HO_6.kb hb
         replace BK501 := BK501.bb hb
         replace BK502 := BK502.bb hb
         replace BK503 := BK503.bb hb
         replace HB := HB.s3 GE501 GE502 GE503 hb
         skip
         (try clear hb2)
         (try clear hk)
         (try clear hi)
         refine hK.out _ _ ⟨BK502.c 0, BK502.c 1, BK502.c 2, BK502.c 3, HS4_, HS5_, HS6_⟩ (fun hHeld => ?_)
         clear hK K
         refine nm_ ?_
         refine done_ (by kernel_rfl) ?_
         have p514 : 0 ≤ (x7_2 : Int) := of_decide_eq_true (as_)
         have q514 : x7_2 < (t509.length : Int) := of_decide_eq_true (as_)
         obtain ⟨ad514, e514, hx514_0, hx514_1, hx514_2⟩ := at_T28 (Kd.R_reads' HO_6.out).2.2 x7_2 p514 q514
         obtain rfl : ad512 = ad514 := (by injection e514)
         replace p514 := eq_true p514
         replace q514 := eq_true q514
         have hnb42 := NB503_501.out
         have hnc42 := NB501_503.out
         have hnb43 := NB503_502.out
         have hnc43 := NB502_503.out
         obtain ⟨hcz44_0, hcz44_1, hcz44_2⟩ := cz3_ BK503.out
         obtain ⟨hfz44_0, hfz44_1, hfz44_2⟩ := fz3_ BK503.out
         try go_wp2
         refine bodyPost_ret (results_ct rfl _ _ gb503 28 #[.int .i64 ((rd_T28 t509 x7_2).f0.f0), .int .i64 ((rd_T28 t509 x7_2).f0.f1), .int .i64 ((rd_T28 t509 x7_2).f1)] (0, 0) _ rfl (bq3_ BK503.out) Try.underlying28 rfl (by kernel_rfl)) rfl ?_
         exact ⟨ex_, hb3_ HB.out GE501.out GE502.out GE503.out⟩
        ·replace c38 := Bool.eq_false_iff.mpr c38
         subst c38
         have H1 : (spec_FirstMeeting.l0 k2 t509 (wrap64 (x7_2 + 1)) a1_0 a1_1 a1_2 a1_3) = some (r1, r2, r3, r4) := by rw [if_neg (show ¬ (false = true) by decide)] at H; exact H
         clear H
         have H := H1
         clear H1
         have H' := Aside0.mk H
         clear H
         obtain ⟨Ao45, co45, eo45⟩ := Kd.R_slice HO_6.out
         subst eo45
         try go_wp2
         replace HO_6 := Aside0.mk (Kd.R_drew HO_6.out)
         replace BK501 := Aside0.mk (blk_drew BK501.out)
         replace BK502 := Aside0.mk (blk_drew BK502.out)
         replace BK503 := Aside0.mk (blk_drew BK503.out)
         replace HB := Aside0.mk (below_drew1 HB.out)
         have p512 : 0 ≤ (x7_2 : Int) := of_decide_eq_true (as_)
         have q512 : x7_2 < (t509.length : Int) := of_decide_eq_true (as_)
         obtain ⟨ad512, e512, hx512_0, hx512_1, hx512_2⟩ := at_T28 (Kd.R_reads' HO_6.out).2.2 x7_2 p512 q512
         cases e512
         replace p512 := eq_true p512
         replace q512 := eq_true q512
         refine start_ (n := 6) (S := fun w' => w'.cell? ⟨gb502, 0, none⟩ = some (.int .i64 a1_0) ∧ w'.cell? ⟨gb502, 1, none⟩ = some (.int .i64 a1_1) ∧ w'.cell? ⟨gb502, 2, none⟩ = some (.int .i64 a1_2) ∧ w'.cell? ⟨gb502, 3, none⟩ = some (.int .i64 a1_3) ∧ w'.cell? (ad512.add ((x7_2).toNat * 3)) = some (.int .i64 ((rd_T28 t509 x7_2).f0.f0)) ∧ w'.cell? ⟨(ad512.add ((x7_2).toNat * 3)).block, (ad512.add ((x7_2).toNat * 3)).off + 1, none⟩ = some (.int .i64 ((rd_T28 t509 x7_2).f0.f1)) ∧ w'.cell? ⟨(ad512.add ((x7_2).toNat * 3)).block, (ad512.add ((x7_2).toNat * 3)).off + 2, none⟩ = some (.int .i64 ((rd_T28 t509 x7_2).f1))) (ds := []) #[false, false, false, false, false, false] (by kernel_rfl) rfl rfl ⟨BK502.c 0, BK502.c 1, BK502.c 2, BK502.c 3, hx512_0, hx512_1, hx512_2⟩ (fun hHeld => ?_)
         generalize wr.drew = w46 at HO_6 BK501 BK502 BK503 HB hx512_0 hx512_1 hx512_2 hHeld ⊢
         refine pure_ (i := 0) (N := some 27) (v := ?_) (a' := ?_) #[true, false, false, false, false, false] rfl rfl (by kernel_rfl) (fun _ _ _ h => h) (Or.inl ⟨by rfl, ?_⟩) ?_ ?_
         rotate_left
         ·intro w'
          go_simp
          with_reducible rfl
         rotate_left
         ·simp only [Act.put, List.setIfInBounds_toArray, List.set_cons_zero, List.set_cons_succ, i64_w, i32_w]
          rfl
         refine pure_ (i := 1) (N := some 28) (v := ?_) (a' := ?_) #[true, true, false, false, false, false] rfl rfl (by kernel_rfl) (fun _ _ _ h => h) (Or.inl ⟨by rfl, ?_⟩) ?_ ?_
         rotate_left
         ·intro w'
          go_simp
          with_reducible rfl
         rotate_left
         ·simp only [Act.put, List.setIfInBounds_toArray, List.set_cons_zero, List.set_cons_succ, i64_w, i32_w]
          rfl
         refine pure_ (i := 2) (N := some 29) (v := ?_) (a' := ?_) #[true, true, true, false, false, false] rfl rfl (by kernel_rfl) (fun _ _ _ h => h) (Or.inl ⟨by rfl, ?_⟩) ?_ ?_
         rotate_left
         ·intro w'
          go_simp
          with_reducible rfl
         rotate_left
         ·simp only [Act.put, List.setIfInBounds_toArray, List.set_cons_zero, List.set_cons_succ, i64_w, i32_w]
          rfl
         refine take_ (i := 3) (N := some 30) (v := ?_) (a' := ?_) #[true, true, true, true, false, false] rfl rfl (by kernel_rfl) (fun _ _ _ h => h) (Or.inl ⟨by rfl, ?_⟩) hHeld ?_ ?_
         rotate_left
         ·rintro w' ⟨s0, s1, s2, s3, s4, s5, s6⟩
          go_simp
          with_reducible rfl
         rotate_left
         ·simp only [Act.put, List.setIfInBounds_toArray, List.set_cons_zero, List.set_cons_succ, i64_w, i32_w]
          rfl
         refine take_ (i := 4) (N := some 31) (v := ?_) (a' := ?_) #[true, true, true, true, true, false] rfl rfl (by kernel_rfl) (fun _ _ _ h => h) (Or.inl ⟨by rfl, ?_⟩) hHeld ?_ ?_
         rotate_left
         ·rintro w' ⟨s0, s1, s2, s3, s4, s5, s6⟩
          go_simp
          with_reducible rfl
         rotate_left
         ·simp only [Act.put, List.setIfInBounds_toArray, List.set_cons_zero, List.set_cons_succ, i64_w, i32_w]
          rfl
         refine one_ (i := 5) (N := some 32) #[true, true, true, true, true, true] rfl rfl (by kernel_rfl) (by decide) (fun K hK => ?_)
         refine gq_ Try.func17 #[.agg #[.int .i64 ((rd_T28 t509 x7_2).f0.f0), .int .i64 ((rd_T28 t509 x7_2).f0.f1), .int .i64 ((rd_T28 t509 x7_2).f1)], .agg #[.int .i64 a1_0, .int .i64 a1_1, .int .i64 a1_2, .int .i64 a1_3]] ?_
         with_reducible refine (spec_MeetsWish.calls k2 ((rd_T28 t509 x7_2).f0.f0) ((rd_T28 t509 x7_2).f0.f1) ((rd_T28 t509 x7_2).f1) a1_0 a1_1 a1_2 a1_3 false _ A37.out).mono ?_
         rintro e w47 ⟨rfl, hb⟩
         have HS4_ := (hb.cell (World.block_lt_of_cell? _ _ (hHeld.2.2.2.2.1))).trans (hHeld.2.2.2.2.1)
         have HS5_ := (hb.cell (World.block_lt_of_cell? _ _ (hHeld.2.2.2.2.2.1))).trans (hHeld.2.2.2.2.2.1)
         have HS6_ := (hb.cell (World.block_lt_of_cell? _ _ (hHeld.2.2.2.2.2.2))).trans (hHeld.2.2.2.2.2.2)
         refine ⟨_, rfl, ?_⟩
         replace HO_6 := HO_6.kb hb
         replace BK501 := BK501.bb hb
         replace BK502 := BK502.bb hb
         replace BK503 := BK503.bb hb
         replace HB := HB.s3 GE501 GE502 GE503 hb
         skip
         (try clear hb2)
         (try clear hk)
         (try clear hi)
         refine hK.out _ _ ⟨BK502.c 0, BK502.c 1, BK502.c 2, BK502.c 3, HS4_, HS5_, HS6_⟩ (fun hHeld => ?_)
         clear hK K
         refine nm_ ?_
         refine done_ (by kernel_rfl) ?_
         try go_wp2
         go_roundg k2
         case measure => have := HJ2.out; have := HK2.out; omega
         case rel => exact ⟨(wrap64 (x7_2 + 1)), (x504000_2), (x504001_2), (x504002_2), (by first | rfl | (simp; done) | (simp [*]; done)), H', ⟨by have := HJ2.out; have := HK2.out; omega⟩, ⟨kr_ HO_6.out⟩, ⟨bk_ BK501.out⟩, ⟨bk_ BK502.out⟩, ⟨bk_ BK503.out⟩, ⟨hb3_ HB.out GE501.out GE502.out GE503.out⟩⟩
       ·rw [if_neg c36] at H
        exact absurd H (by simp)
      ·rw [if_neg c35] at H
       have c35b0 : decide (x7_2 < (t509.length : Int)) = false := decide_eq_false c35
       clear c35
       simp only [Option.some.injEq, Prod.mk.injEq] at H
       obtain ⟨rfl, rfl, rfl, rfl⟩ := H
       obtain ⟨Ao48, co48, eo48⟩ := Kd.R_slice HO_6.out
       subst eo48
       have hnb49 := NB503_501.out
       have hnc49 := NB501_503.out
       have hnb50 := NB503_502.out
       have hnc50 := NB502_503.out
       obtain ⟨hcz51_0, hcz51_1, hcz51_2⟩ := cz3_ BK503.out
       obtain ⟨hfz51_0, hfz51_1, hfz51_2⟩ := fz3_ BK503.out
       go_wp2
       refine bodyPost_ret (results_ct rfl _ _ gb503 28 #[.int .i64 0, .int .i64 0, .int .i64 0] (0, 0) _ rfl (bq3_ BK503.out) Try.underlying28 rfl (by kernel_rfl)) rfl ?_
       exact ⟨ex_, hb3_ HB.out GE501.out GE502.out GE503.out⟩

end Go.Proofs.Ytjmbnlemfdjkfaa.X
