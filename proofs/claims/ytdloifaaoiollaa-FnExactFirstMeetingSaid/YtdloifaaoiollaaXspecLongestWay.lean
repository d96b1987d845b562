-- Written by a program of this session (xprint.py), out of the translation and of hand-written contracts. Lean checks it.
import Derived.Test.YtdloifaaoiollaaX0
import Derived.Test.YtdloifaaoiollaaXcdist
import Derived.Test.YtdloifaaoiollaaXcgaps
import Derived.Test.YtdloifaaoiollaaXcstrees
import Derived.Test.YtdloifaaoiollaaXcwish
import Derived.Test.YtdloifaaoiollaaXspecFullMaze
namespace Go.Proofs.Ytdloifaaoiollaa.X
open Go.RowKit Go.Proofs.YtdloifaaoiollaaW.PrintWords Go.Proofs.YtdloifaaoiollaaW.PrintLast Go.Proofs.YtdloifaaoiollaaW.PrintMore
attribute [local go_sem] max2_int min2_int max_two min_two max_three min_three max_four min_four   -- for this text's walks alone
set_option linter.unusedVariables false
set_option linter.unusedSimpArgs false

/-! ### spec_LongestWay: function 40 -/
mutual
def spec_LongestWay.j0 : Nat → Int → Int → Bool → Int → Int → Option (Int)
 | 0, _, _, _, _, _ => none
 | k + 1, x1, x2, x20, x502000, x502001 => if x20 = true then (some (-1)) else ((spec_FullMaze.f x502000 x502001).bind fun bt504 => ((spec_ListTrees.f k bt504.1 bt504.2.1 bt504.2.2).bind fun t507 => (spec_LongestWay.l0 k x1 x2 0 t507 0)))
def spec_LongestWay.l0 : Nat → Int → Int → Int → List (S29) → Int → Option (Int)
 | 0, _, _, _, _, _ => none
 | k + 1, x1, x2, x7, x8, x9 => if x9 < (x8.length : Int) then (if 0 ≤ x9 then ((spec_DistanceOf.f k ((rd_T29 x8 x9).f0.f0) ((rd_T29 x8 x9).f0.f1) ((rd_T29 x8 x9).f1) x1 x2).bind fun t511 => (spec_LongestWay.l0 k x1 x2 (mx x7 t511) x8 (wrap64 (x9 + 1)))) else (none)) else (some x7)
end
def spec_LongestWay.f (k : Nat) (a0_0 : Int) (a0_1 : Int) (a1 : Int) (a2 : Int) : Option (Int) := (spec_WishOk.f a0_0 a0_1 a1 a2 0 0).bind fun t502 => (if t502 = true then ((spec_CountGaps.f a0_0 a0_1).bind fun t503 => (spec_LongestWay.j0 k a1 a2 (decide (t503 > 12)) a0_0 a0_1)) else (spec_LongestWay.j0 k a1 a2 true a0_0 a0_1))
theorem spec_LongestWay.mono_l : ∀ k, (∀ y0 y1 y2 y3 y4, LeO (spec_LongestWay.j0 k y0 y1 y2 y3 y4) (spec_LongestWay.j0 (k + 1) y0 y1 y2 y3 y4)) ∧ (∀ y0 y1 y2 y3 y4, LeO (spec_LongestWay.l0 k y0 y1 y2 y3 y4) (spec_LongestWay.l0 (k + 1) y0 y1 y2 y3 y4))
 | 0 => ⟨fun _ _ _ _ _ r h => by simp [spec_LongestWay.j0] at h, fun _ _ _ _ _ r h => by simp [spec_LongestWay.l0] at h⟩
 | k + 1 => by
  obtain ⟨ih0, ih1⟩ := spec_LongestWay.mono_l k
  refine ⟨?_, ?_⟩
  ·intro y0 y1 y2 y3 y4
   unfold spec_LongestWay.j0
   repeat' first
   | (with_reducible exact ih0 ..)
   | (with_reducible exact ih1 ..)
   | (with_reducible exact spec_DistanceOf.mono ..)
   | (with_reducible exact spec_ListTrees.mono ..)
   | mo1
   | exact ih0 ..
   | exact ih1 ..
   | exact spec_DistanceOf.mono ..
   | exact spec_ListTrees.mono ..
   | mo2
  ·intro y0 y1 y2 y3 y4
   unfold spec_LongestWay.l0
   repeat' first
   | (with_reducible exact ih0 ..)
   | (with_reducible exact ih1 ..)
   | (with_reducible exact spec_DistanceOf.mono ..)
   | (with_reducible exact spec_ListTrees.mono ..)
   | mo1
   | exact ih0 ..
   | exact ih1 ..
   | exact spec_DistanceOf.mono ..
   | exact spec_ListTrees.mono ..
   | mo2
theorem spec_LongestWay.mono : ∀ a0 a1 a2 a3 k, LeO (spec_LongestWay.f k a0 a1 a2 a3) (spec_LongestWay.f (k + 1) a0 a1 a2 a3) := by
 intro a0 a1 a2 a3 k
 obtain ⟨ih0, ih1⟩ := spec_LongestWay.mono_l k
 unfold spec_LongestWay.f
 repeat' first
   | (with_reducible exact ih0 ..)
   | (with_reducible exact ih1 ..)
   | (with_reducible exact spec_DistanceOf.mono ..)
   | (with_reducible exact spec_ListTrees.mono ..)
   | mo1
   | exact ih0 ..
   | exact ih1 ..
   | exact spec_DistanceOf.mono ..
   | exact spec_ListTrees.mono ..
   | mo2
set_option maxHeartbeats 8000000 in
set_option maxRecDepth 100000 in
theorem spec_LongestWay.calls (k : Nat) (a0_0 : Int) (a0_1 : Int) (a1 : Int) (a2 : Int) (r : Int) (w : World) (h : spec_LongestWay.f k a0_0 a0_1 a1 a2 = some r) :
  Calls Try.prog 40 #[.agg #[.int .i64 a0_0, .int .i64 a0_1], .int .i64 a1, .int .i64 a2] w fun e w' => e = .returned (.int .i64 r) ∧ Below w.heap.size w w' := by
 have hu27 := Try.underlying27
 have hu51 := Try.underlying51
 have hu29 := Try.underlying29
 have HB := Aside0.mk (Below.refl w.heap.size w)
 have H : ((spec_WishOk.f a0_0 a0_1 a1 a2 0 0).bind fun t502 => (if t502 = true then ((spec_CountGaps.f a0_0 a0_1).bind fun t503 => (spec_LongestWay.j0 k a1 a2 (decide (t503 > 12)) a0_0 a0_1)) else (spec_LongestWay.j0 k a1 a2 true a0_0 a0_1))) = some r := h
 clear h
 have HC4 := Aside0.mk H
 clear H
 go_enter Try.func40, Try.ntmps40
 go_upto_region 1 with (first | (refine box_ (N := 3) (cs := #[.int .i64 a0_0, .int .i64 a0_1]) (t := 27) ?_; intro gb501 hg w5 hbox hb; have BK501 := Aside0.mk (hbox); have GW501 := HB.g0 hg; have GE501 := HB.g0 hg; replace HB := HB.s0 hb; clear hb hbox hg))
 (try simp only [Act.put, List.setIfInBounds_toArray, List.set_cons_zero, List.set_cons_succ])
 go_cut [20] (fun v20 wc => ∃ (kq : Nat) (x20_3 : Bool), v20 = .bool x20_3 ∧ Aside0 (spec_LongestWay.j0 kq a1 a2 x20_3 a0_0 a0_1 = some r) ∧ Aside0 (kq ≤ k) ∧ Aside0 (wc.heap[gb501]? = some (.cells #[.int .i64 a0_0, .int .i64 a0_1] 27 (0, 0))) ∧ Aside0 (Below w.heap.size w wc))
 case first =>
  have H := HC4.out
  clear HC4
  replace H := Option.bind_eq_some_iff.mp H
  obtain ⟨t502, A60, H⟩ := H
  replace H : (if t502 = true then ((spec_CountGaps.f a0_0 a0_1).bind fun t503 => (spec_LongestWay.j0 k a1 a2 (decide (t503 > 12)) a0_0 a0_1)) else (spec_LongestWay.j0 k a1 a2 true a0_0 a0_1)) = some r := H
  have A6 := Aside0.mk A60
  clear A60
  by_cases c7 : t502 = true
  ·subst c7
   have H1 : ((spec_CountGaps.f a0_0 a0_1).bind fun t503 => (spec_LongestWay.j0 k a1 a2 (decide (t503 > 12)) a0_0 a0_1)) = some r := by rw [if_pos rfl] at H; exact H
   clear H
   have H := H1
   clear H1
   replace H := Option.bind_eq_some_iff.mp H
   obtain ⟨t503, A80, H⟩ := H
   replace H : (spec_LongestWay.j0 k a1 a2 (decide (t503 > 12)) a0_0 a0_1) = some r := H
   have A8 := Aside0.mk A80
   clear A80
   have H' := Aside0.mk H
   clear H
   obtain ⟨hcz9_0, hcz9_1⟩ := cz2_ BK501.out
   obtain ⟨hfz9_0, hfz9_1⟩ := fz2_ BK501.out
   go_wp2_with (first | (refine gl_ 14 Try.func86 #[.agg #[.int .i64 a0_0, .int .i64 a0_1], .agg #[.int .i64 a1, .int .i64 a2, .int .i64 0, .int .i64 0]] ?_; (with_reducible refine (spec_WishOk.calls a0_0 a0_1 a1 a2 0 0 true _ A6.out).mono ?_); rintro e w10 ⟨rfl, hb⟩; refine ⟨_, rfl, ?_⟩; replace BK501 := BK501.bb hb; replace HB := HB.s1 GE501 hb; (try clear hb); obtain ⟨hcz11_0, hcz11_1⟩ := cz2_ BK501.out; obtain ⟨hfz11_0, hfz11_1⟩ := fz2_ BK501.out) | (go_at_call 90; (with_reducible refine (spec_CountGaps.calls a0_0 a0_1 t503 _ A8.out).mono ?_); rintro e w12 ⟨rfl, hb⟩; replace BK501 := BK501.bb hb; replace HB := HB.s1 GE501 hb; (try clear hb)))
   go_meet
   case rel => exact ⟨_, (decide (t503 > 12)), (by first | rfl | (simp; done) | (simp [*]; done)), H', ⟨by first | omega | exact Nat.le_refl _⟩, ⟨bk_ BK501.out⟩, ⟨hb1_ HB.out GE501.out⟩⟩
  ·replace c7 := Bool.eq_false_iff.mpr c7
   subst c7
   have H1 : (spec_LongestWay.j0 k a1 a2 true a0_0 a0_1) = some r := by rw [if_neg (show ¬ (false = true) by decide)] at H; exact H
   clear H
   have H := H1
   clear H1
   have H' := Aside0.mk H
   clear H
   obtain ⟨hcz13_0, hcz13_1⟩ := cz2_ BK501.out
   obtain ⟨hfz13_0, hfz13_1⟩ := fz2_ BK501.out
   go_wp2_with (first | (refine gl_ 14 Try.func86 #[.agg #[.int .i64 a0_0, .int .i64 a0_1], .agg #[.int .i64 a1, .int .i64 a2, .int .i64 0, .int .i64 0]] ?_; (with_reducible refine (spec_WishOk.calls a0_0 a0_1 a1 a2 0 0 false _ A6.out).mono ?_); rintro e w14 ⟨rfl, hb⟩; refine ⟨_, rfl, ?_⟩; replace BK501 := BK501.bb hb; replace HB := HB.s1 GE501 hb; (try clear hb)))
   go_meet
   case rel => exact ⟨_, (true), (by first | rfl | (simp; done) | (simp [*]; done)), H', ⟨by first | omega | exact Nat.le_refl _⟩, ⟨bk_ BK501.out⟩, ⟨hb1_ HB.out GE501.out⟩⟩
 case rest =>
  clear HC4
  try clear p2
  try clear c4
  try clear c7
  try clear c8
  try clear hcz11_0
  try clear hcz11_1
  try clear hcz13_0
  try clear hcz13_1
  try clear hcz9_0
  try clear hcz9_1
  try clear hfz11_0
  try clear hfz11_1
  try clear hfz13_0
  try clear hfz13_1
  try clear hfz9_0
  try clear hfz9_1
  obtain ⟨kq, x20_3, rfl, HA, HJ3, BK501, HB⟩ := hcut
  cases kq with
  | zero => exact absurd HA.out (by simp [spec_LongestWay.j0])
  | succ kj3 =>
   have H := HA.out
   clear HA
   simp only [spec_LongestWay.j0] at H
   by_cases c15 : x20_3 = true
   ·subst c15
    have H1 : (some (-1)) = some r := by rw [if_pos rfl] at H; exact H
    clear H
    have H := H1
    clear H1
    obtain rfl := Option.some.inj H
    go_wp2
    go_ret
    exact ⟨ex_, hb1_ HB.out GE501.out⟩
   ·replace c15 := Bool.eq_false_iff.mpr c15
    subst c15
    have H1 : ((spec_FullMaze.f a0_0 a0_1).bind fun bt504 => ((spec_ListTrees.f kj3 bt504.1 bt504.2.1 bt504.2.2).bind fun t507 => (spec_LongestWay.l0 kj3 a1 a2 0 t507 0))) = some r := by rw [if_neg (show ¬ (false = true) by decide)] at H; exact H
    clear H
    have H := H1
    clear H1
    replace H := Option.bind_eq_some_iff.mp H
    obtain ⟨⟨t504, t505, t506⟩, A160, H⟩ := H
    replace H : ((spec_ListTrees.f kj3 t504 t505 t506).bind fun t507 => (spec_LongestWay.l0 kj3 a1 a2 0 t507 0)) = some r := H
    have A16 := Aside0.mk A160
    clear A160
    replace H := Option.bind_eq_some_iff.mp H
    obtain ⟨t507, A170, H⟩ := H
    replace H : (spec_LongestWay.l0 kj3 a1 a2 0 t507 0) = some r := H
    have A17 := Aside0.mk A170
    clear A170
    have H' := Aside0.mk H
    clear H
    obtain ⟨hcz18_0, hcz18_1⟩ := cz2_ BK501.out
    obtain ⟨hfz18_0, hfz18_1⟩ := fz2_ BK501.out
    go_wp2_with (first | (refine gl_ 22 Try.func92 #[.agg #[.int .i64 a0_0, .int .i64 a0_1]] ?_; (with_reducible refine (spec_FullMaze.calls a0_0 a0_1 t504 t505 t506 _ A16.out).mono ?_); rintro e w19 ⟨rfl, hb⟩; refine ⟨_, rfl, ?_⟩; replace BK501 := BK501.bb hb; replace HB := HB.s1 GE501 hb; (try clear hb)) | (refine gl_ 23 Try.func91 #[.agg #[.int .i64 t504, .int .i64 t505, .int .i64 t506]] ?_; (with_reducible refine (spec_ListTrees.calls kj3 t504 t505 t506 t507 _ A17.out).mono ?_); rintro e w20 ⟨v508, rfl, ho0, hb⟩; refine ⟨_, rfl, ?_⟩; have HO509 := Aside0.mk (Kd.R_lower ho0 (below_size (hb1_ HB.out GE501.out))); replace BK501 := BK501.bb hb; replace HB := HB.s1 GE501 hb; (try clear hb); (try clear ho0)))
    go_loopg [7, 9] kj3 (fun kq v7 v9 w' => ∃ (x7_2 : Int) (x9_2 : Int), v7 = .int .i64 x7_2 ∧ v9 = .int .i64 x9_2 ∧ Aside0 (spec_LongestWay.l0 kq a1 a2 x7_2 t507 x9_2 = some r) ∧ Aside0 (kq ≤ kj3) ∧ Aside0 (Kd.R k29 29 w' w.heap.size (fun _ => True) v508 t507) ∧ Aside0 (w'.heap[gb501]? = some (.cells #[.int .i64 a0_0, .int .i64 a0_1] 27 (0, 0))) ∧ Aside0 (Below w.heap.size w w'))
    case atStart => exact ⟨(0), (0), (by first | rfl | (simp; done) | (simp [*]; done)), (by first | rfl | (simp; done) | (simp [*]; done)), H', ⟨Nat.le_refl _⟩, ⟨kr_ HO509.out⟩, ⟨bk_ BK501.out⟩, ⟨hb1_ HB.out GE501.out⟩⟩
    case round =>
     clear H'
     try clear c1
     try clear p2
     try clear c4
     try clear c7
     try clear c8
     try clear c9
     try clear c15
     try clear hcz11_0
     try clear hcz11_1
     try clear hcz13_0
     try clear hcz13_1
     try clear hcz18_0
     try clear hcz18_1
     try clear hcz9_0
     try clear hcz9_1
     try clear hfz11_0
     try clear hfz11_1
     try clear hfz13_0
     try clear hfz13_1
     try clear hfz18_0
     try clear hfz18_1
     try clear hfz9_0
     try clear hfz9_1
     try clear p2
     obtain ⟨x7_2, x9_2, rfl, rfl, HA, HK2, HO_8, BK501, HB⟩ := hrel
     cases gk with
     | zero => exact absurd HA.out (by simp [spec_LongestWay.l0])
     | succ k2 =>
      have H := HA.out
      clear HA
      simp only [spec_LongestWay.l0] at H
      by_cases c21 : x9_2 < (t507.length : Int)
      ·rw [if_pos c21] at H
       have c21b0 : decide (x9_2 < (t507.length : Int)) = true := decide_eq_true c21
       clear c21
       by_cases c22 : 0 ≤ x9_2
       ·rw [if_pos c22] at H
        have c22b0 : decide (0 ≤ x9_2) = true := decide_eq_true c22
        clear c22
        replace H := Option.bind_eq_some_iff.mp H
        obtain ⟨t511, A230, H⟩ := H
        replace H : (spec_LongestWay.l0 k2 a1 a2 (mx x7_2 t511) t507 (wrap64 (x9_2 + 1))) = some r := H
        have A23 := Aside0.mk A230
        clear A230
        obtain ⟨ji24, hji24⟩ : ∃ j_ : Int, (mx x7_2 t511) = j_ := ⟨_, rfl⟩
        replace H : (spec_LongestWay.l0 k2 a1 a2 ji24 t507 (wrap64 (x9_2 + 1))) = some r := by first | (rw [hji24] at H; exact H) | (simp only [hji24] at H ⊢; exact H)
        (try rw [hji24] at A23)
        have hji24_ : (if x7_2 < t511 then t511 else x7_2) = ji24 := hji24
        have H' := Aside0.mk H
        clear H
        obtain ⟨Ao25, co25, eo25⟩ := Kd.R_slice HO_8.out
        subst eo25
        have p510 : 0 ≤ (x9_2 : Int) := of_decide_eq_true (as_)
        have q510 : x9_2 < (t507.length : Int) := of_decide_eq_true (as_)
        obtain ⟨ad510, e510, hx510_0, hx510_1, hx510_2⟩ := at_T29 (Kd.R_reads' HO_8.out).2.2 x9_2 p510 q510
        cases e510
        replace p510 := eq_true p510
        replace q510 := eq_true q510
        go_wp2_with (first | (refine gl_ 37 Try.func87 #[.agg #[.int .i64 ((rd_T29 t507 x9_2).f0.f0), .int .i64 ((rd_T29 t507 x9_2).f0.f1), .int .i64 ((rd_T29 t507 x9_2).f1)], .int .i64 a1, .int .i64 a2] ?_; (with_reducible refine (spec_DistanceOf.calls k2 ((rd_T29 t507 x9_2).f0.f0) ((rd_T29 t507 x9_2).f0.f1) ((rd_T29 t507 x9_2).f1) a1 a2 t511 _ A23.out).mono ?_); rintro e w26 ⟨rfl, hb⟩; refine ⟨_, rfl, ?_⟩; replace HO_8 := HO_8.kb hb; replace BK501 := BK501.bb hb; replace HB := HB.s1 GE501 hb; (try clear hb)))
        go_roundg k2
        case measure => have := HJ3.out; have := HK2.out; omega
        case rel => exact ⟨(ji24), (wrap64 (x9_2 + 1)), (by first | rfl | (simp; done) | (simp only [← hji24] <;> (first | rfl | simp)) | (simp [*]; done)), (by first | rfl | (simp; done) | (simp [*]; done)), H', ⟨by have := HJ3.out; have := HK2.out; omega⟩, ⟨kr_ HO_8.out⟩, ⟨bk_ BK501.out⟩, ⟨hb1_ HB.out GE501.out⟩⟩
       ·rw [if_neg c22] at H
        exact absurd H (by simp)
      ·rw [if_neg c21] at H
       have c21b0 : decide (x9_2 < (t507.length : Int)) = false := decide_eq_false c21
       clear c21
       obtain rfl := Option.some.inj H
       obtain ⟨Ao27, co27, eo27⟩ := Kd.R_slice HO_8.out
       subst eo27
       go_wp2
       go_ret
       exact ⟨ex_, hb1_ HB.out GE501.out⟩

end Go.Proofs.Ytdloifaaoiollaa.X
