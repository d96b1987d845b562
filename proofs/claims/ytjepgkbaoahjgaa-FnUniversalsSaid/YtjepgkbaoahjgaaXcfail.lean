-- Written by a program of this session (xprint.py), out of the translation and of hand-written contracts. Lean checks it.
import Derived.Test.YtjepgkbaoahjgaaX0
import Derived.Test.YtjepgkbaoahjgaaXcfollow
import Derived.Test.YtjepgkbaoahjgaaXcgaps
import Derived.Test.YtjepgkbaoahjgaaXcgrid
import Derived.Test.YtjepgkbaoahjgaaXctrees
import Derived.Test.YtjepgkbaoahjgaaXcturns
import Derived.Test.YtjepgkbaoahjgaaXimplFullMaze
namespace Go.Proofs.Ytjepgkbaoahjgaa.X
open Go.RowKit Go.Proofs.YtjepgkbaoahjgaaW.PrintWords Go.Proofs.YtjepgkbaoahjgaaW.PrintLast Go.Proofs.YtjepgkbaoahjgaaW.PrintMore
attribute [local go_sem] max2_int min2_int max_two min_two max_three min_three max_four min_four   -- for this text's walks alone
set_option linter.unusedVariables false
set_option linter.unusedSimpArgs false

/-! ### impl_canTry: function 18 -/
def impl_canTry.f (a0_0 : Int) (a0_1 : Int) (l1 : List Int) : Option (Bool) := (impl_GridOk.f a0_0 a0_1).bind fun t502 => (if t502 = true then ((impl_CountGaps.f a0_0 a0_1).bind fun t503 => (if t503 ≤ 7 then ((impl_areTurns.f l1 400).bind fun t504 => (some t504)) else (some false))) else (some false))
set_option maxHeartbeats 8000000 in
set_option maxRecDepth 100000 in
theorem impl_canTry.calls (a0_0 : Int) (a0_1 : Int) (A1 : Option Addr) (c1 : Nat) (l1 : List Int) (r : Bool) (w : World) (hr1 : Kd.C (Kd.int .i64) w A1 l1.length l1) (hc1 : l1.length ≤ c1) (h : impl_canTry.f a0_0 a0_1 l1 = some r) :
  Calls Try.prog 18 #[.agg #[.int .i64 a0_0, .int .i64 a0_1], .slice A1 l1.length c1] w fun e w' => e = .returned (.bool r) ∧ Below w.heap.size w w' := by
 have hu25 := Try.underlying25
 have HR1 := Aside0.mk hr1
 have HC1 := Aside0.mk hc1
 clear hr1 hc1
 have HB := Aside0.mk (Below.refl w.heap.size w)
 have H : ((impl_GridOk.f a0_0 a0_1).bind fun t502 => (if t502 = true then ((impl_CountGaps.f a0_0 a0_1).bind fun t503 => (if t503 ≤ 7 then ((impl_areTurns.f l1 400).bind fun t504 => (some t504)) else (some false))) else (some false))) = some r := h
 clear h
 replace H := Option.bind_eq_some_iff.mp H
 obtain ⟨t502, A30, H⟩ := H
 replace H : (if t502 = true then ((impl_CountGaps.f a0_0 a0_1).bind fun t503 => (if t503 ≤ 7 then ((impl_areTurns.f l1 400).bind fun t504 => (some t504)) else (some false))) else (some false)) = some r := H
 have A3 := Aside0.mk A30
 clear A30
 by_cases c4 : t502 = true
 ·subst c4
  have H1 : ((impl_CountGaps.f a0_0 a0_1).bind fun t503 => (if t503 ≤ 7 then ((impl_areTurns.f l1 400).bind fun t504 => (some t504)) else (some false))) = some r := by rw [if_pos rfl] at H; exact H
  clear H
  have H := H1
  clear H1
  replace H := Option.bind_eq_some_iff.mp H
  obtain ⟨t503, A50, H⟩ := H
  replace H : (if t503 ≤ 7 then ((impl_areTurns.f l1 400).bind fun t504 => (some t504)) else (some false)) = some r := H
  have A5 := Aside0.mk A50
  clear A50
  by_cases c6 : t503 ≤ 7
  ·rw [if_pos c6] at H
   have c6b0 : decide (t503 ≤ 7) = true := decide_eq_true c6
   clear c6
   replace H := Option.bind_eq_some_iff.mp H
   obtain ⟨t504, A70, H⟩ := H
   replace H : (some t504) = some r := H
   have A7 := Aside0.mk A70
   clear A70
   obtain rfl := Option.some.inj H
   go_enter Try.func18, Try.ntmps18
   go_wp2_with (first | (refine box_ (N := 2) (cs := #[.int .i64 a0_0, .int .i64 a0_1]) (t := 25) ?_; intro gb501 hg w8 hbox hb; have BK501 := Aside0.mk (hbox); have GW501 := HB.g0 hg; have GE501 := HB.g0 hg; replace HB := HB.s0 hb; clear hb hbox hg; obtain ⟨hcz9_0, hcz9_1⟩ := cz2_ BK501.out; obtain ⟨hfz9_0, hfz9_1⟩ := fz2_ BK501.out) | (refine gl_ 6 Try.func30 #[.agg #[.int .i64 a0_0, .int .i64 a0_1]] ?_; (with_reducible refine (impl_GridOk.calls a0_0 a0_1 true _ A3.out).mono ?_); rintro e w10 ⟨rfl, hb⟩; refine ⟨_, rfl, ?_⟩; replace BK501 := BK501.bb hb; replace HB := HB.s1 GE501 hb; (try clear hb); obtain ⟨hcz11_0, hcz11_1⟩ := cz2_ BK501.out; obtain ⟨hfz11_0, hfz11_1⟩ := fz2_ BK501.out) | (go_at_call 31; (with_reducible refine (impl_CountGaps.calls a0_0 a0_1 t503 _ A5.out).mono ?_); rintro e w12 ⟨rfl, hb⟩; replace BK501 := BK501.bb hb; replace HB := HB.s1 GE501 hb; (try clear hb)) | (go_at_call 27; (with_reducible refine (impl_areTurns.calls _ _ l1 400 t504 _ ?side1 ?side2 A7.out).mono ?_); (case side1 => repeat (first | exact (Kd.C_below HR1.out HB.out) | (with_reducible refine Kd.C_alloc ?_ _) | (with_reducible refine Kd.C_drewN ?_ _) | (with_reducible refine Kd.C_drew ?_))); (case side2 => exact HC1.out); rintro e w13 ⟨rfl, hb⟩; replace BK501 := BK501.bb hb; replace HB := HB.s1 GE501 hb; (try clear hb)))
   go_ret
   exact ⟨ex_, hb1_ HB.out GE501.out⟩
  ·rw [if_neg c6] at H
   have c6b0 : decide (t503 ≤ 7) = false := decide_eq_false c6
   clear c6
   obtain rfl := Option.some.inj H
   go_enter Try.func18, Try.ntmps18
   go_wp2_with (first | (refine box_ (N := 2) (cs := #[.int .i64 a0_0, .int .i64 a0_1]) (t := 25) ?_; intro gb501 hg w14 hbox hb; have BK501 := Aside0.mk (hbox); have GW501 := HB.g0 hg; have GE501 := HB.g0 hg; replace HB := HB.s0 hb; clear hb hbox hg; obtain ⟨hcz15_0, hcz15_1⟩ := cz2_ BK501.out; obtain ⟨hfz15_0, hfz15_1⟩ := fz2_ BK501.out) | (refine gl_ 6 Try.func30 #[.agg #[.int .i64 a0_0, .int .i64 a0_1]] ?_; (with_reducible refine (impl_GridOk.calls a0_0 a0_1 true _ A3.out).mono ?_); rintro e w16 ⟨rfl, hb⟩; refine ⟨_, rfl, ?_⟩; replace BK501 := BK501.bb hb; replace HB := HB.s1 GE501 hb; (try clear hb); obtain ⟨hcz17_0, hcz17_1⟩ := cz2_ BK501.out; obtain ⟨hfz17_0, hfz17_1⟩ := fz2_ BK501.out) | (go_at_call 31; (with_reducible refine (impl_CountGaps.calls a0_0 a0_1 t503 _ A5.out).mono ?_); rintro e w18 ⟨rfl, hb⟩; replace BK501 := BK501.bb hb; replace HB := HB.s1 GE501 hb; (try clear hb)))
   go_ret
   exact ⟨ex_, hb1_ HB.out GE501.out⟩
 ·replace c4 := Bool.eq_false_iff.mpr c4
  subst c4
  have H1 : (some false) = some r := by rw [if_neg (show ¬ (false = true) by decide)] at H; exact H
  clear H
  have H := H1
  clear H1
  obtain rfl := Option.some.inj H
  go_enter Try.func18, Try.ntmps18
  go_wp2_with (first | (refine box_ (N := 2) (cs := #[.int .i64 a0_0, .int .i64 a0_1]) (t := 25) ?_; intro gb501 hg w19 hbox hb; have BK501 := Aside0.mk (hbox); have GW501 := HB.g0 hg; have GE501 := HB.g0 hg; replace HB := HB.s0 hb; clear hb hbox hg; obtain ⟨hcz20_0, hcz20_1⟩ := cz2_ BK501.out; obtain ⟨hfz20_0, hfz20_1⟩ := fz2_ BK501.out) | (refine gl_ 6 Try.func30 #[.agg #[.int .i64 a0_0, .int .i64 a0_1]] ?_; (with_reducible refine (impl_GridOk.calls a0_0 a0_1 false _ A3.out).mono ?_); rintro e w21 ⟨rfl, hb⟩; refine ⟨_, rfl, ?_⟩; replace BK501 := BK501.bb hb; replace HB := HB.s1 GE501 hb; (try clear hb)))
  go_ret
  exact ⟨ex_, hb1_ HB.out GE501.out⟩

/-! ### impl_FirstFailure: function 6 -/
mutual
def impl_FirstFailure.l0 : Nat → List Int → List (S30) → Int → Int → Int → Int → Option (Int × Int × Int × Int × Int × Bool)
 | 0, _, _, _, _, _, _ => none
 | k + 1, x1, x19, x20, x21, x502000, x502001 => if x21 < x20 then (if 0 ≤ x21 then (if x21 < (x19.length : Int) then (impl_FirstFailure.l1 k x1 0 x19 x20 x21 x502000 x502001 ((rd_T30 x19 x21).f0.f0) ((rd_T30 x19 x21).f0.f1) ((rd_T30 x19 x21).f1)) else (none)) else (none)) else (some (0, 0, 0, 0, 0, false))
def impl_FirstFailure.l1 : Nat → List Int → Int → List (S30) → Int → Int → Int → Int → Int → Int → Int → Option (Int × Int × Int × Int × Int × Bool)
 | 0, _, _, _, _, _, _, _, _, _, _ => none
 | k + 1, x1, x9, x19, x20, x21, x502000, x502001, x513000, x513001, x513002 => (impl_CountCells.f x502000 x502001).bind fun t513 => (if x9 < (wrap64 (4 * t513)) then ((impl_CoversAll.f k x513000 x513001 x513002 (wrap64 (Int.tdiv x9 4)) (Int.tmod x9 4) x1).bind fun t515 => (if t515 = true then (impl_FirstFailure.l1 k x1 (wrap64 (x9 + 1)) x19 x20 x21 x502000 x502001 x513000 x513001 x513002) else (some (x513000, x513001, x513002, wrap64 (Int.tdiv x9 4), Int.tmod x9 4, true)))) else (impl_FirstFailure.l0 k x1 x19 x20 (wrap64 (x21 + 1)) x502000 x502001))
end
def impl_FirstFailure.f (k : Nat) (a0_0 : Int) (a0_1 : Int) (l1 : List Int) : Option (Int × Int × Int × Int × Int × Bool) := (impl_canTry.f a0_0 a0_1 l1).bind fun t504 => (if t504 = true then ((impl_FullMaze.f a0_0 a0_1).bind fun bt505 => ((impl_ListTrees.f k bt505.1 bt505.2.1 bt505.2.2).bind fun t508 => (impl_FirstFailure.l0 k l1 t508 (t508.length : Int) 0 a0_0 a0_1))) else (some (0, 0, 0, 0, 0, false)))
theorem impl_FirstFailure.mono_l : ∀ k, (∀ y0 y1 y2 y3 y4 y5, LeO (impl_FirstFailure.l0 k y0 y1 y2 y3 y4 y5) (impl_FirstFailure.l0 (k + 1) y0 y1 y2 y3 y4 y5)) ∧ (∀ y0 y1 y2 y3 y4 y5 y6 y7 y8 y9, LeO (impl_FirstFailure.l1 k y0 y1 y2 y3 y4 y5 y6 y7 y8 y9) (impl_FirstFailure.l1 (k + 1) y0 y1 y2 y3 y4 y5 y6 y7 y8 y9))
 | 0 => ⟨fun _ _ _ _ _ _ r h => by simp [impl_FirstFailure.l0] at h, fun _ _ _ _ _ _ _ _ _ _ r h => by simp [impl_FirstFailure.l1] at h⟩
 | k + 1 => by
  obtain ⟨ih0, ih1⟩ := impl_FirstFailure.mono_l k
  refine ⟨?_, ?_⟩
  ·intro y0 y1 y2 y3 y4 y5
   unfold impl_FirstFailure.l0
   repeat' first
   | (with_reducible exact ih0 ..)
   | (with_reducible exact ih1 ..)
   | (with_reducible exact impl_CoversAll.mono ..)
   | (with_reducible exact impl_ListTrees.mono ..)
   | (with_reducible first | exact lr_ _ | exact ln_ _ | refine li_ ?_ ?_ | refine lb_ ?_ fun _ => ?_)
   | exact ih0 ..
   | exact ih1 ..
   | exact impl_CoversAll.mono ..
   | exact impl_ListTrees.mono ..
   | exact ln_ _ | refine li_ ?_ ?_ | refine lb_ ?_ fun _ => ?_
  ·intro y0 y1 y2 y3 y4 y5 y6 y7 y8 y9
   unfold impl_FirstFailure.l1
   repeat' first
   | (with_reducible exact ih0 ..)
   | (with_reducible exact ih1 ..)
   | (with_reducible exact impl_CoversAll.mono ..)
   | (with_reducible exact impl_ListTrees.mono ..)
   | (with_reducible first | exact lr_ _ | exact ln_ _ | refine li_ ?_ ?_ | refine lb_ ?_ fun _ => ?_)
   | exact ih0 ..
   | exact ih1 ..
   | exact impl_CoversAll.mono ..
   | exact impl_ListTrees.mono ..
   | exact ln_ _ | refine li_ ?_ ?_ | refine lb_ ?_ fun _ => ?_
theorem impl_FirstFailure.mono : ∀ a0 a1 a2 k, LeO (impl_FirstFailure.f k a0 a1 a2) (impl_FirstFailure.f (k + 1) a0 a1 a2) := by
 intro a0 a1 a2 k
 obtain ⟨ih0, ih1⟩ := impl_FirstFailure.mono_l k
 unfold impl_FirstFailure.f
 repeat' first
   | (with_reducible exact ih0 ..)
   | (with_reducible exact ih1 ..)
   | (with_reducible exact impl_CoversAll.mono ..)
   | (with_reducible exact impl_ListTrees.mono ..)
   | (with_reducible first | exact lr_ _ | exact ln_ _ | refine li_ ?_ ?_ | refine lb_ ?_ fun _ => ?_)
   | exact ih0 ..
   | exact ih1 ..
   | exact impl_CoversAll.mono ..
   | exact impl_ListTrees.mono ..
   | exact ln_ _ | refine li_ ?_ ?_ | refine lb_ ?_ fun _ => ?_
set_option maxHeartbeats 8000000 in
set_option maxRecDepth 100000 in
theorem impl_FirstFailure.calls (k : Nat) (a0_0 : Int) (a0_1 : Int) (A1 : Option Addr) (c1 : Nat) (l1 : List Int) (r1 : Int) (r2 : Int) (r3 : Int) (r4 : Int) (r5 : Int) (r6 : Bool) (w : World) (hr1 : Kd.C (Kd.int .i64) w A1 l1.length l1) (hc1 : l1.length ≤ c1) (h : impl_FirstFailure.f k a0_0 a0_1 l1 = some (r1, r2, r3, r4, r5, r6)) :
  Calls Try.prog 6 #[.agg #[.int .i64 a0_0, .int .i64 a0_1], .slice A1 l1.length c1] w fun e w' => e = .returned (.tuple #[.agg #[.int .i64 r1, .int .i64 r2, .int .i64 r3], .agg #[.int .i64 r4, .int .i64 r5], .bool r6]) ∧ Below w.heap.size w w' := by
 have hu25 := Try.underlying25
 have hu30 := Try.underlying30
 have hu32 := Try.underlying32
 have HR1 := Aside0.mk hr1
 have HC1 := Aside0.mk hc1
 clear hr1 hc1
 have HB := Aside0.mk (Below.refl w.heap.size w)
 have H : ((impl_canTry.f a0_0 a0_1 l1).bind fun t504 => (if t504 = true then ((impl_FullMaze.f a0_0 a0_1).bind fun bt505 => ((impl_ListTrees.f k bt505.1 bt505.2.1 bt505.2.2).bind fun t508 => (impl_FirstFailure.l0 k l1 t508 (t508.length : Int) 0 a0_0 a0_1))) else (some (0, 0, 0, 0, 0, false)))) = some (r1, r2, r3, r4, r5, r6) := h
 clear h
 replace H := Option.bind_eq_some_iff.mp H
 obtain ⟨t504, A30, H⟩ := H
 replace H : (if t504 = true then ((impl_FullMaze.f a0_0 a0_1).bind fun bt505 => ((impl_ListTrees.f k bt505.1 bt505.2.1 bt505.2.2).bind fun t508 => (impl_FirstFailure.l0 k l1 t508 (t508.length : Int) 0 a0_0 a0_1))) else (some (0, 0, 0, 0, 0, false))) = some (r1, r2, r3, r4, r5, r6) := H
 have A3 := Aside0.mk A30
 clear A30
 by_cases c4 : t504 = true
 ·subst c4
  have H1 : ((impl_FullMaze.f a0_0 a0_1).bind fun bt505 => ((impl_ListTrees.f k bt505.1 bt505.2.1 bt505.2.2).bind fun t508 => (impl_FirstFailure.l0 k l1 t508 (t508.length : Int) 0 a0_0 a0_1))) = some (r1, r2, r3, r4, r5, r6) := by rw [if_pos rfl] at H; exact H
  clear H
  have H := H1
  clear H1
  replace H := Option.bind_eq_some_iff.mp H
  obtain ⟨⟨t505, t506, t507⟩, A50, H⟩ := H
  replace H : ((impl_ListTrees.f k t505 t506 t507).bind fun t508 => (impl_FirstFailure.l0 k l1 t508 (t508.length : Int) 0 a0_0 a0_1)) = some (r1, r2, r3, r4, r5, r6) := H
  have A5 := Aside0.mk A50
  clear A50
  replace H := Option.bind_eq_some_iff.mp H
  obtain ⟨t508, A60, H⟩ := H
  replace H : (impl_FirstFailure.l0 k l1 t508 (t508.length : Int) 0 a0_0 a0_1) = some (r1, r2, r3, r4, r5, r6) := H
  have A6 := Aside0.mk A60
  clear A60
  have H' := Aside0.mk H
  clear H
  go_enter Try.func6, Try.ntmps6
  go_wp2_with (first | (refine box_ (N := 2) (cs := #[.int .i64 a0_0, .int .i64 a0_1]) (t := 25) ?_; intro gb501 hg w7 hbox hb; have BK501 := Aside0.mk (hbox); have GW501 := HB.g0 hg; have GE501 := HB.g0 hg; replace HB := HB.s0 hb; clear hb hbox hg) | (refine box_ (N := 4) (cs := #[.int .i64 0, .int .i64 0, .int .i64 0]) (t := 30) ?_; intro gb502 hg w8 hbox hb; have BK502 := Aside0.mk (hbox); have GW502 := HB.g1 GE501 hg; have GE502 := HB.g1 GE501 hg; replace HB := HB.s1 GE501 hb; have NB501_502 := BK501.nl hg; have NB502_501 := BK501.nr hg; replace BK501 := BK501.bb hb; clear hb hbox hg) | (refine box_ (N := 5) (cs := #[.int .i64 0, .int .i64 0]) (t := 32) ?_; intro gb503 hg w9 hbox hb; have BK503 := Aside0.mk (hbox); have GW503 := HB.g2 GE501 GE502 hg; have GE503 := HB.g2 GE501 GE502 hg; replace HB := HB.s2 GE501 GE502 hb; have NB501_503 := BK501.nl hg; have NB503_501 := BK501.nr hg; replace BK501 := BK501.bb hb; have NB502_503 := BK502.nl hg; have NB503_502 := BK502.nr hg; replace BK502 := BK502.bb hb; clear hb hbox hg; have hnb10 := NB501_502.out; have hnc10 := NB502_501.out; have hnb11 := NB501_503.out; have hnc11 := NB503_501.out; obtain ⟨hcz12_0, hcz12_1⟩ := cz2_ BK501.out; obtain ⟨hfz12_0, hfz12_1⟩ := fz2_ BK501.out) | (refine gl_ 13 Try.func18 #[.agg #[.int .i64 a0_0, .int .i64 a0_1], .slice A1 l1.length c1] ?_; (with_reducible refine (impl_canTry.calls a0_0 a0_1 _ _ l1 true _ ?side1 ?side2 A3.out).mono ?_); (case side1 => repeat (first | exact (Kd.C_below HR1.out HB.out) | (with_reducible refine Kd.C_alloc ?_ _) | (with_reducible refine Kd.C_drewN ?_ _) | (with_reducible refine Kd.C_drew ?_))); (case side2 => exact HC1.out); rintro e w13 ⟨rfl, hb⟩; refine ⟨_, rfl, ?_⟩; replace BK501 := BK501.bb hb; replace BK502 := BK502.bb hb; replace BK503 := BK503.bb hb; replace HB := HB.s3 GE501 GE502 GE503 hb; (try clear hb); obtain ⟨hcz14_0, hcz14_1⟩ := cz2_ BK501.out; obtain ⟨hfz14_0, hfz14_1⟩ := fz2_ BK501.out) | (refine gl_ 18 Try.func20 #[.agg #[.int .i64 a0_0, .int .i64 a0_1]] ?_; (with_reducible refine (impl_FullMaze.calls a0_0 a0_1 t505 t506 t507 _ A5.out).mono ?_); rintro e w15 ⟨rfl, hb⟩; refine ⟨_, rfl, ?_⟩; replace BK501 := BK501.bb hb; replace BK502 := BK502.bb hb; replace BK503 := BK503.bb hb; replace HB := HB.s3 GE501 GE502 GE503 hb; (try clear hb)) | (refine gl_ 19 Try.func19 #[.agg #[.int .i64 t505, .int .i64 t506, .int .i64 t507]] ?_; (with_reducible refine (impl_ListTrees.calls k t505 t506 t507 t508 _ A6.out).mono ?_); rintro e w16 ⟨v509, rfl, ho0, hb⟩; refine ⟨_, rfl, ?_⟩; have HO510 := Aside0.mk (Kd.R_lower (Kd.R_newB ho0 (g := gb502) (o := .cells #[.int .i64 0, .int .i64 0, .int .i64 0] 30 (0, 0)) (bk_ BK502.out)) (below_size (hb3_ HB.out GE501.out GE502.out GE503.out))); replace BK501 := BK501.bb hb; replace BK502 := BK502.bb hb; replace BK503 := BK503.bb hb; replace HB := HB.s3 GE501 GE502 GE503 hb; (try clear hb); (try clear ho0); obtain ⟨Ao17, co17, eo17⟩ := Kd.R_slice HO510.out; subst eo17))
  go_loopg [21] k (fun kq v21 w' => ∃ (x21_1 : Int) (x503000_1 : Int) (x503001_1 : Int) (x503002_1 : Int) (x504000_1 : Int) (x504001_1 : Int), v21 = .int .i64 x21_1 ∧ Aside0 (impl_FirstFailure.l0 kq l1 t508 (t508.length : Int) x21_1 a0_0 a0_1 = some (r1, r2, r3, r4, r5, r6)) ∧ Aside0 (kq ≤ k) ∧ Aside0 (Kd.R k30 30 w' w.heap.size (fun k_ => k_ ≠ gb502) (.slice Ao17 t508.length co17) t508) ∧ Aside0 (w'.heap[gb501]? = some (.cells #[.int .i64 a0_0, .int .i64 a0_1] 25 (0, 0))) ∧ Aside0 (w'.heap[gb502]? = some (.cells #[.int .i64 x503000_1, .int .i64 x503001_1, .int .i64 x503002_1] 30 (0, 0))) ∧ Aside0 (w'.heap[gb503]? = some (.cells #[.int .i64 x504000_1, .int .i64 x504001_1] 32 (0, 0))) ∧ Aside0 (Below w.heap.size w w'))
  case atStart => exact ⟨(0), (0), (0), (0), (0), (0), (by first | rfl | (simp; done) | (simp [*]; done)), H', ⟨Nat.le_refl _⟩, ⟨by (with_reducible repeat (first | apply Kd.R_alloc | apply Kd.R_drewN | apply Kd.R_drew)); exact Kd.R_mono HO510.out (fun _ hk => hk.2)⟩, ⟨bk_ BK501.out⟩, ⟨bk_ BK502.out⟩, ⟨bk_ BK503.out⟩, ⟨hb3_ HB.out GE501.out GE502.out GE503.out⟩⟩
  case round =>
   clear H'
   try clear c1
   try clear c2
   try clear p2
   try clear c4
   try clear c6
   try clear c10
   try clear c11
   try clear hcz12_0
   try clear hcz12_1
   try clear hcz14_0
   try clear hcz14_1
   try clear hfz12_0
   try clear hfz12_1
   try clear hfz14_0
   try clear hfz14_1
   obtain ⟨x21_1, x503000_1, x503001_1, x503002_1, x504000_1, x504001_1, rfl, HA, HK1, HO_19, BK501, BK502, BK503, HB⟩ := hrel
   cases gk with
   | zero => exact absurd HA.out (by simp [impl_FirstFailure.l0])
   | succ k1 =>
    have H := HA.out
    clear HA
    simp only [impl_FirstFailure.l0] at H
    by_cases c18 : x21_1 < (t508.length : Int)
    ·rw [if_pos c18] at H
     have c18b0 : decide (x21_1 < (t508.length : Int)) = true := decide_eq_true c18
     clear c18
     by_cases c19 : 0 ≤ x21_1
     ·rw [if_pos c19] at H
      have c19b0 : decide (0 ≤ x21_1) = true := decide_eq_true c19
      clear c19
      by_cases c20 : x21_1 < (t508.length : Int)
      ·rw [if_pos c20] at H
       have c20b0 : decide (x21_1 < (t508.length : Int)) = true := decide_eq_true c20
       clear c20
       have H' := Aside0.mk H
       clear H
       have p511 : 0 ≤ (x21_1 : Int) := of_decide_eq_true (as_)
       have q511 : x21_1 < (t508.length : Int) := of_decide_eq_true (as_)
       obtain ⟨ad511, e511, hx511_0, hx511_1, hx511_2⟩ := at_T30 (Kd.R_reads' HO_19.out).2.2 x21_1 p511 q511
       cases e511
       replace p511 := eq_true p511
       replace q511 := eq_true q511
       go_wp2_with (first | (refine box_ (N := 8) (cs := #[.int .i64 0, .int .i64 0, .int .i64 0]) (t := 30) ?_; intro gb512 hg w21 hbox hb; replace HO_19 := Aside0.mk (Kd.R_below (Kd.R_elderB (kr_ HO_19.out) gb512 (Nat.le_of_eq hg.symm)) hb); have BK512 := Aside0.mk (hbox); have GW512 := HB.g3 GE501 GE502 GE503 hg; have GE512 := HB.g3 GE501 GE502 GE503 hg; replace HB := HB.s3 GE501 GE502 GE503 hb; have NB501_512 := BK501.nl hg; have NB512_501 := BK501.nr hg; replace BK501 := BK501.bb hb; have NB502_512 := BK502.nl hg; have NB512_502 := BK502.nr hg; replace BK502 := BK502.bb hb; have NB503_512 := BK503.nl hg; have NB512_503 := BK503.nr hg; replace BK503 := BK503.bb hb; clear hb hbox hg; have hnb22 := NB512_501.out; have hnc22 := NB501_512.out; have hnb23 := NB512_502.out; have hnc23 := NB502_512.out; have hnb24 := NB512_503.out; have hnc24 := NB503_512.out; obtain ⟨hcz25_0, hcz25_1, hcz25_2⟩ := cz3_ BK512.out; obtain ⟨hfz25_0, hfz25_1, hfz25_2⟩ := fz3_ BK512.out))
       go_loopg [9] k1 (fun kq v9 w' => ∃ (x9_2 : Int) (x503000_2 : Int) (x503001_2 : Int) (x503002_2 : Int) (x504000_2 : Int) (x504001_2 : Int), v9 = .int .i64 x9_2 ∧ Aside0 (impl_FirstFailure.l1 kq l1 x9_2 t508 (t508.length : Int) x21_1 a0_0 a0_1 ((rd_T30 t508 x21_1).f0.f0) ((rd_T30 t508 x21_1).f0.f1) ((rd_T30 t508 x21_1).f1) = some (r1, r2, r3, r4, r5, r6)) ∧ Aside0 (kq ≤ k1) ∧ Aside0 (Kd.R k30 30 w' w.heap.size (fun k_ => k_ ≠ gb502 ∧ k_ ≠ gb512) (.slice (some ad511) t508.length co17) t508) ∧ Aside0 (w'.heap[gb501]? = some (.cells #[.int .i64 a0_0, .int .i64 a0_1] 25 (0, 0))) ∧ Aside0 (w'.heap[gb502]? = some (.cells #[.int .i64 x503000_2, .int .i64 x503001_2, .int .i64 x503002_2] 30 (0, 0))) ∧ Aside0 (w'.heap[gb503]? = some (.cells #[.int .i64 x504000_2, .int .i64 x504001_2] 32 (0, 0))) ∧ Aside0 (w'.heap[gb512]? = some (.cells #[.int .i64 ((rd_T30 t508 x21_1).f0.f0), .int .i64 ((rd_T30 t508 x21_1).f0.f1), .int .i64 ((rd_T30 t508 x21_1).f1)] 30 (0, 0))) ∧ Aside0 (Below w.heap.size w w'))
       case atStart => exact ⟨(0), (x503000_1), (x503001_1), (x503002_1), (x504000_1), (x504001_1), (by first | rfl | (simp; done) | (simp [*]; done)), H', ⟨Nat.le_refl _⟩, ⟨by (with_reducible repeat (first | apply Kd.R_alloc | apply Kd.R_drewN | apply Kd.R_drew)); exact Kd.R_mono (Kd.R_far (p := ⟨gb512, 2, none⟩) (Kd.R_far (p := ⟨gb512, 1, none⟩) (Kd.R_far (p := ⟨gb512, 0, none⟩) (Kd.R_mono HO_19.out (fun k_ hk => (⟨hk, hk.2⟩ : _ ∧ k_ ≠ gb512))) (fun _ hk => hk.2) (.int .i64 ((rd_T30 t508 x21_1).f0.f0))) (fun _ hk => hk.2) (.int .i64 ((rd_T30 t508 x21_1).f0.f1))) (fun _ hk => hk.2) (.int .i64 ((rd_T30 t508 x21_1).f1))) (fun _ hk => ⟨hk.1.1, hk.1.2⟩)⟩, ⟨by (with_reducible repeat (first | refine blk_drewN ?_ _ | refine blk_drew ?_ | refine blk_alloc ?_ _)); refine blk_far ?_ NB501_512.out _; (with_reducible repeat (first | refine blk_drewN ?_ _ | refine blk_drew ?_ | refine blk_alloc ?_ _)); refine blk_far ?_ NB501_512.out _; (with_reducible repeat (first | refine blk_drewN ?_ _ | refine blk_drew ?_ | refine blk_alloc ?_ _)); refine blk_far ?_ NB501_512.out _; (with_reducible repeat (first | refine blk_drewN ?_ _ | refine blk_drew ?_ | refine blk_alloc ?_ _)); exact BK501.out⟩, ⟨by (with_reducible repeat (first | refine blk_drewN ?_ _ | refine blk_drew ?_ | refine blk_alloc ?_ _)); refine blk_far ?_ NB502_512.out _; (with_reducible repeat (first | refine blk_drewN ?_ _ | refine blk_drew ?_ | refine blk_alloc ?_ _)); refine blk_far ?_ NB502_512.out _; (with_reducible repeat (first | refine blk_drewN ?_ _ | refine blk_drew ?_ | refine blk_alloc ?_ _)); refine blk_far ?_ NB502_512.out _; (with_reducible repeat (first | refine blk_drewN ?_ _ | refine blk_drew ?_ | refine blk_alloc ?_ _)); exact BK502.out⟩, ⟨by (with_reducible repeat (first | refine blk_drewN ?_ _ | refine blk_drew ?_ | refine blk_alloc ?_ _)); refine blk_far ?_ NB503_512.out _; (with_reducible repeat (first | refine blk_drewN ?_ _ | refine blk_drew ?_ | refine blk_alloc ?_ _)); refine blk_far ?_ NB503_512.out _; (with_reducible repeat (first | refine blk_drewN ?_ _ | refine blk_drew ?_ | refine blk_alloc ?_ _)); refine blk_far ?_ NB503_512.out _; (with_reducible repeat (first | refine blk_drewN ?_ _ | refine blk_drew ?_ | refine blk_alloc ?_ _)); exact BK503.out⟩, ⟨bq3_ BK512.out⟩, ⟨hb4_ HB.out GE501.out GE502.out GE503.out GE512.out⟩⟩
       case round =>
        clear H'
        try clear c1
        try clear c2
        try clear p2
        try clear c4
        try clear p5
        try clear q5
        try clear hx5
        try clear c6
        try clear c10
        try clear c11
        try clear c18
        try clear c18b0
        try clear c19
        try clear c19b0
        try clear c20
        try clear c20b0
        try clear c22
        try clear c23
        try clear c24
        try clear hcz12_0
        try clear hcz12_1
        try clear hcz14_0
        try clear hcz14_1
        try clear hcz25_0
        try clear hcz25_1
        try clear hcz25_2
        try clear hfz12_0
        try clear hfz12_1
        try clear hfz14_0
        try clear hfz14_1
        try clear hfz25_0
        try clear hfz25_1
        try clear hfz25_2
        try clear hx511_0
        try clear hx511_1
        try clear hx511_2
        try clear p2
        try clear p511
        try clear q511
        obtain ⟨x9_2, x503000_2, x503001_2, x503002_2, x504000_2, x504001_2, rfl, HA, HK2, HO_19, BK501, BK502, BK503, BK512, HB⟩ := hrel
        cases gk with
        | zero => exact absurd HA.out (by simp [impl_FirstFailure.l1])
        | succ k2 =>
         have H := HA.out
         clear HA
         simp only [impl_FirstFailure.l1] at H
         replace H := Option.bind_eq_some_iff.mp H
         obtain ⟨t513, A260, H⟩ := H
         replace H : (if x9_2 < (wrap64 (4 * t513)) then ((impl_CoversAll.f k2 ((rd_T30 t508 x21_1).f0.f0) ((rd_T30 t508 x21_1).f0.f1) ((rd_T30 t508 x21_1).f1) (wrap64 (Int.tdiv x9_2 4)) (Int.tmod x9_2 4) l1).bind fun t515 => (if t515 = true then (impl_FirstFailure.l1 k2 l1 (wrap64 (x9_2 + 1)) t508 (t508.length : Int) x21_1 a0_0 a0_1 ((rd_T30 t508 x21_1).f0.f0) ((rd_T30 t508 x21_1).f0.f1) ((rd_T30 t508 x21_1).f1)) else (some (((rd_T30 t508 x21_1).f0.f0), ((rd_T30 t508 x21_1).f0.f1), ((rd_T30 t508 x21_1).f1), wrap64 (Int.tdiv x9_2 4), Int.tmod x9_2 4, true)))) else (impl_FirstFailure.l0 k2 l1 t508 (t508.length : Int) (wrap64 (x21_1 + 1)) a0_0 a0_1)) = some (r1, r2, r3, r4, r5, r6) := H
         have A26 := Aside0.mk A260
         clear A260
         by_cases c27 : x9_2 < (wrap64 (4 * t513))
         ·rw [if_pos c27] at H
          have c27b0 : decide (x9_2 < (wrap64 (4 * t513))) = true := decide_eq_true c27
          clear c27
          replace H := Option.bind_eq_some_iff.mp H
          obtain ⟨t515, A280, H⟩ := H
          replace H : (if t515 = true then (impl_FirstFailure.l1 k2 l1 (wrap64 (x9_2 + 1)) t508 (t508.length : Int) x21_1 a0_0 a0_1 ((rd_T30 t508 x21_1).f0.f0) ((rd_T30 t508 x21_1).f0.f1) ((rd_T30 t508 x21_1).f1)) else (some (((rd_T30 t508 x21_1).f0.f0), ((rd_T30 t508 x21_1).f0.f1), ((rd_T30 t508 x21_1).f1), wrap64 (Int.tdiv x9_2 4), Int.tmod x9_2 4, true))) = some (r1, r2, r3, r4, r5, r6) := H
          have A28 := Aside0.mk A280
          clear A280
          by_cases c29 : t515 = true
          ·subst c29
           have H1 : (impl_FirstFailure.l1 k2 l1 (wrap64 (x9_2 + 1)) t508 (t508.length : Int) x21_1 a0_0 a0_1 ((rd_T30 t508 x21_1).f0.f0) ((rd_T30 t508 x21_1).f0.f1) ((rd_T30 t508 x21_1).f1)) = some (r1, r2, r3, r4, r5, r6) := by rw [if_pos rfl] at H; exact H
           clear H
           have H := H1
           clear H1
           have H' := Aside0.mk H
           clear H
           have hnb30 := NB501_502.out
           have hnc30 := NB502_501.out
           have hnb31 := NB501_503.out
           have hnc31 := NB503_501.out
           have hnb32 := NB501_512.out
           have hnc32 := NB512_501.out
           obtain ⟨hcz33_0, hcz33_1⟩ := cz2_ BK501.out
           obtain ⟨hfz33_0, hfz33_1⟩ := fz2_ BK501.out
           go_wp2_with (first | (refine gl_ 27 Try.func21 #[.agg #[.int .i64 a0_0, .int .i64 a0_1]] ?_; (with_reducible refine (impl_CountCells.calls a0_0 a0_1 t513 _ A26.out).mono ?_); rintro e w34 ⟨rfl, hb⟩; refine ⟨_, rfl, ?_⟩; replace HO_19 := HO_19.kb hb; replace BK501 := BK501.bb hb; replace BK502 := BK502.bb hb; replace BK503 := BK503.bb hb; replace BK512 := BK512.bb hb; replace HB := HB.s4 GE501 GE502 GE503 GE512 hb; (try clear hb)) | (refine box_ (N := 10) (cs := #[.int .i64 0, .int .i64 0]) (t := 32) ?_; intro gb514 hg w35 hbox hb; replace HO_19 := HO_19.kb hb; have BK514 := Aside0.mk (hbox); have GW514 := HB.g4 GE501 GE502 GE503 GE512 hg; have GE514 := HB.g4 GE501 GE502 GE503 GE512 hg; replace HB := HB.s4 GE501 GE502 GE503 GE512 hb; have NB501_514 := BK501.nl hg; have NB514_501 := BK501.nr hg; replace BK501 := BK501.bb hb; have NB502_514 := BK502.nl hg; have NB514_502 := BK502.nr hg; replace BK502 := BK502.bb hb; have NB503_514 := BK503.nl hg; have NB514_503 := BK503.nr hg; replace BK503 := BK503.bb hb; have NB512_514 := BK512.nl hg; have NB514_512 := BK512.nr hg; replace BK512 := BK512.bb hb; clear hb hbox hg; have hnb36 := NB514_501.out; have hnc36 := NB501_514.out; have hnb37 := NB514_502.out; have hnc37 := NB502_514.out; have hnb38 := NB514_503.out; have hnc38 := NB503_514.out; have hnb39 := NB514_512.out; have hnc39 := NB512_514.out; obtain ⟨hcz40_0, hcz40_1⟩ := cz2_ BK514.out; obtain ⟨hfz40_0, hfz40_1⟩ := fz2_ BK514.out; have hnb41 := NB512_502.out; have hnc41 := NB502_512.out; have hnb42 := NB512_503.out; have hnc42 := NB503_512.out; obtain ⟨hcz43_0, hcz43_1, hcz43_2⟩ := cz3_ BK512.out; obtain ⟨hfz43_0, hfz43_1, hfz43_2⟩ := fz3_ BK512.out) | (refine gl_ 40 Try.func11 #[.agg #[.int .i64 ((rd_T30 t508 x21_1).f0.f0), .int .i64 ((rd_T30 t508 x21_1).f0.f1), .int .i64 ((rd_T30 t508 x21_1).f1)], .agg #[.int .i64 (wrap64 (Int.tdiv x9_2 4)), .int .i64 (Int.tmod x9_2 4)], .slice A1 l1.length c1] ?_; (with_reducible refine (impl_CoversAll.calls k2 ((rd_T30 t508 x21_1).f0.f0) ((rd_T30 t508 x21_1).f0.f1) ((rd_T30 t508 x21_1).f1) (wrap64 (Int.tdiv x9_2 4)) (Int.tmod x9_2 4) _ _ l1 true _ ?side1 ?side2 A28.out).mono ?_); (case side1 => exact Kd.C_below HR1.out (hb5_ HB.out GE501.out GE502.out GE503.out GE512.out GE514.out)); (case side2 => exact HC1.out); rintro e w44 ⟨rfl, hb⟩; refine ⟨_, rfl, ?_⟩; replace HO_19 := Aside0.mk (Kd.R_below (rq2_ HO_19.out BK514.out) hb); replace BK501 := Aside0.mk (blk_below (g := gb501) (o := .cells #[.int .i64 a0_0, .int .i64 a0_1] 25 (0, 0)) (by (with_reducible repeat (first | refine blk_drewN ?_ _ | refine blk_drew ?_ | refine blk_alloc ?_ _)); refine blk_far ?_ NB501_514.out _; (with_reducible repeat (first | refine blk_drewN ?_ _ | refine blk_drew ?_ | refine blk_alloc ?_ _)); refine blk_far ?_ NB501_514.out _; (with_reducible repeat (first | refine blk_drewN ?_ _ | refine blk_drew ?_ | refine blk_alloc ?_ _)); exact BK501.out) hb); replace BK502 := Aside0.mk (blk_below (g := gb502) (o := .cells #[.int .i64 x503000_2, .int .i64 x503001_2, .int .i64 x503002_2] 30 (0, 0)) (by (with_reducible repeat (first | refine blk_drewN ?_ _ | refine blk_drew ?_ | refine blk_alloc ?_ _)); refine blk_far ?_ NB502_514.out _; (with_reducible repeat (first | refine blk_drewN ?_ _ | refine blk_drew ?_ | refine blk_alloc ?_ _)); refine blk_far ?_ NB502_514.out _; (with_reducible repeat (first | refine blk_drewN ?_ _ | refine blk_drew ?_ | refine blk_alloc ?_ _)); exact BK502.out) hb); replace BK503 := Aside0.mk (blk_below (g := gb503) (o := .cells #[.int .i64 x504000_2, .int .i64 x504001_2] 32 (0, 0)) (by (with_reducible repeat (first | refine blk_drewN ?_ _ | refine blk_drew ?_ | refine blk_alloc ?_ _)); refine blk_far ?_ NB503_514.out _; (with_reducible repeat (first | refine blk_drewN ?_ _ | refine blk_drew ?_ | refine blk_alloc ?_ _)); refine blk_far ?_ NB503_514.out _; (with_reducible repeat (first | refine blk_drewN ?_ _ | refine blk_drew ?_ | refine blk_alloc ?_ _)); exact BK503.out) hb); replace BK512 := Aside0.mk (blk_below (g := gb512) (o := .cells #[.int .i64 ((rd_T30 t508 x21_1).f0.f0), .int .i64 ((rd_T30 t508 x21_1).f0.f1), .int .i64 ((rd_T30 t508 x21_1).f1)] 30 (0, 0)) (by (with_reducible repeat (first | refine blk_drewN ?_ _ | refine blk_drew ?_ | refine blk_alloc ?_ _)); refine blk_far ?_ NB512_514.out _; (with_reducible repeat (first | refine blk_drewN ?_ _ | refine blk_drew ?_ | refine blk_alloc ?_ _)); refine blk_far ?_ NB512_514.out _; (with_reducible repeat (first | refine blk_drewN ?_ _ | refine blk_drew ?_ | refine blk_alloc ?_ _)); exact BK512.out) hb); replace BK514 := Aside0.mk (blk_below (bq2_ BK514.out) hb); replace HB := HB.s5 GE501 GE502 GE503 GE512 GE514 hb; (try clear hb)))
           go_roundg k2
           case measure => have := HK1.out; have := HK2.out; omega
           case rel => exact ⟨(wrap64 (x9_2 + 1)), (x503000_2), (x503001_2), (x503002_2), (x504000_2), (x504001_2), (by first | rfl | (simp; done) | (simp [*]; done)), H', ⟨by have := HK1.out; have := HK2.out; omega⟩, ⟨kr_ HO_19.out⟩, ⟨bk_ BK501.out⟩, ⟨bk_ BK502.out⟩, ⟨bk_ BK503.out⟩, ⟨bk_ BK512.out⟩, ⟨hb5_ HB.out GE501.out GE502.out GE503.out GE512.out GE514.out⟩⟩
          ·replace c29 := Bool.eq_false_iff.mpr c29
           subst c29
           have H1 : (some (((rd_T30 t508 x21_1).f0.f0), ((rd_T30 t508 x21_1).f0.f1), ((rd_T30 t508 x21_1).f1), wrap64 (Int.tdiv x9_2 4), Int.tmod x9_2 4, true)) = some (r1, r2, r3, r4, r5, r6) := by rw [if_neg (show ¬ (false = true) by decide)] at H; exact H
           clear H
           have H := H1
           clear H1
           simp only [Option.some.injEq, Prod.mk.injEq] at H
           obtain ⟨rfl, rfl, rfl, rfl, rfl, rfl⟩ := H
           have hnb45 := NB501_502.out
           have hnc45 := NB502_501.out
           have hnb46 := NB501_503.out
           have hnc46 := NB503_501.out
           have hnb47 := NB501_512.out
           have hnc47 := NB512_501.out
           obtain ⟨hcz48_0, hcz48_1⟩ := cz2_ BK501.out
           obtain ⟨hfz48_0, hfz48_1⟩ := fz2_ BK501.out
           try go_wp2_with (first | (refine gl_ 27 Try.func21 #[.agg #[.int .i64 a0_0, .int .i64 a0_1]] ?_; (with_reducible refine (impl_CountCells.calls a0_0 a0_1 t513 _ A26.out).mono ?_); rintro e w49 ⟨rfl, hb⟩; refine ⟨_, rfl, ?_⟩; replace HO_19 := HO_19.kb hb; replace BK501 := BK501.bb hb; replace BK502 := BK502.bb hb; replace BK503 := BK503.bb hb; replace BK512 := BK512.bb hb; replace HB := HB.s4 GE501 GE502 GE503 GE512 hb; (try clear hb)) | (refine box_ (N := 10) (cs := #[.int .i64 0, .int .i64 0]) (t := 32) ?_; intro gb514 hg w50 hbox hb; replace HO_19 := HO_19.kb hb; have BK514 := Aside0.mk (hbox); have GW514 := HB.g4 GE501 GE502 GE503 GE512 hg; have GE514 := HB.g4 GE501 GE502 GE503 GE512 hg; replace HB := HB.s4 GE501 GE502 GE503 GE512 hb; have NB501_514 := BK501.nl hg; have NB514_501 := BK501.nr hg; replace BK501 := BK501.bb hb; have NB502_514 := BK502.nl hg; have NB514_502 := BK502.nr hg; replace BK502 := BK502.bb hb; have NB503_514 := BK503.nl hg; have NB514_503 := BK503.nr hg; replace BK503 := BK503.bb hb; have NB512_514 := BK512.nl hg; have NB514_512 := BK512.nr hg; replace BK512 := BK512.bb hb; clear hb hbox hg; have hnb51 := NB514_501.out; have hnc51 := NB501_514.out; have hnb52 := NB514_502.out; have hnc52 := NB502_514.out; have hnb53 := NB514_503.out; have hnc53 := NB503_514.out; have hnb54 := NB514_512.out; have hnc54 := NB512_514.out; obtain ⟨hcz55_0, hcz55_1⟩ := cz2_ BK514.out; obtain ⟨hfz55_0, hfz55_1⟩ := fz2_ BK514.out; have hnb56 := NB512_502.out; have hnc56 := NB502_512.out; have hnb57 := NB512_503.out; have hnc57 := NB503_512.out; obtain ⟨hcz58_0, hcz58_1, hcz58_2⟩ := cz3_ BK512.out; obtain ⟨hfz58_0, hfz58_1, hfz58_2⟩ := fz3_ BK512.out) | (refine gl_ 40 Try.func11 #[.agg #[.int .i64 ((rd_T30 t508 x21_1).f0.f0), .int .i64 ((rd_T30 t508 x21_1).f0.f1), .int .i64 ((rd_T30 t508 x21_1).f1)], .agg #[.int .i64 (wrap64 (Int.tdiv x9_2 4)), .int .i64 (Int.tmod x9_2 4)], .slice A1 l1.length c1] ?_; (with_reducible refine (impl_CoversAll.calls k2 ((rd_T30 t508 x21_1).f0.f0) ((rd_T30 t508 x21_1).f0.f1) ((rd_T30 t508 x21_1).f1) (wrap64 (Int.tdiv x9_2 4)) (Int.tmod x9_2 4) _ _ l1 false _ ?side1 ?side2 A28.out).mono ?_); (case side1 => exact Kd.C_below HR1.out (hb5_ HB.out GE501.out GE502.out GE503.out GE512.out GE514.out)); (case side2 => exact HC1.out); rintro e w59 ⟨rfl, hb⟩; refine ⟨_, rfl, ?_⟩; replace HO_19 := Aside0.mk (Kd.R_below (rq2_ HO_19.out BK514.out) hb); replace BK501 := Aside0.mk (blk_below (g := gb501) (o := .cells #[.int .i64 a0_0, .int .i64 a0_1] 25 (0, 0)) (by (with_reducible repeat (first | refine blk_drewN ?_ _ | refine blk_drew ?_ | refine blk_alloc ?_ _)); refine blk_far ?_ NB501_514.out _; (with_reducible repeat (first | refine blk_drewN ?_ _ | refine blk_drew ?_ | refine blk_alloc ?_ _)); refine blk_far ?_ NB501_514.out _; (with_reducible repeat (first | refine blk_drewN ?_ _ | refine blk_drew ?_ | refine blk_alloc ?_ _)); exact BK501.out) hb); replace BK502 := Aside0.mk (blk_below (g := gb502) (o := .cells #[.int .i64 x503000_2, .int .i64 x503001_2, .int .i64 x503002_2] 30 (0, 0)) (by (with_reducible repeat (first | refine blk_drewN ?_ _ | refine blk_drew ?_ | refine blk_alloc ?_ _)); refine blk_far ?_ NB502_514.out _; (with_reducible repeat (first | refine blk_drewN ?_ _ | refine blk_drew ?_ | refine blk_alloc ?_ _)); refine blk_far ?_ NB502_514.out _; (with_reducible repeat (first | refine blk_drewN ?_ _ | refine blk_drew ?_ | refine blk_alloc ?_ _)); exact BK502.out) hb); replace BK503 := Aside0.mk (blk_below (g := gb503) (o := .cells #[.int .i64 x504000_2, .int .i64 x504001_2] 32 (0, 0)) (by (with_reducible repeat (first | refine blk_drewN ?_ _ | refine blk_drew ?_ | refine blk_alloc ?_ _)); refine blk_far ?_ NB503_514.out _; (with_reducible repeat (first | refine blk_drewN ?_ _ | refine blk_drew ?_ | refine blk_alloc ?_ _)); refine blk_far ?_ NB503_514.out _; (with_reducible repeat (first | refine blk_drewN ?_ _ | refine blk_drew ?_ | refine blk_alloc ?_ _)); exact BK503.out) hb); replace BK512 := Aside0.mk (blk_below (g := gb512) (o := .cells #[.int .i64 ((rd_T30 t508 x21_1).f0.f0), .int .i64 ((rd_T30 t508 x21_1).f0.f1), .int .i64 ((rd_T30 t508 x21_1).f1)] 30 (0, 0)) (by (with_reducible repeat (first | refine blk_drewN ?_ _ | refine blk_drew ?_ | refine blk_alloc ?_ _)); refine blk_far ?_ NB512_514.out _; (with_reducible repeat (first | refine blk_drewN ?_ _ | refine blk_drew ?_ | refine blk_alloc ?_ _)); refine blk_far ?_ NB512_514.out _; (with_reducible repeat (first | refine blk_drewN ?_ _ | refine blk_drew ?_ | refine blk_alloc ?_ _)); exact BK512.out) hb); replace BK514 := Aside0.mk (blk_below (bq2_ BK514.out) hb); replace HB := HB.s5 GE501 GE502 GE503 GE512 GE514 hb; (try clear hb)))
           replace HO_19 := Aside0.mk (Kd.R_drew HO_19.out)
           replace BK501 := Aside0.mk (blk_drew BK501.out)
           replace BK502 := Aside0.mk (blk_drew BK502.out)
           replace BK503 := Aside0.mk (blk_drew BK503.out)
           replace BK512 := Aside0.mk (blk_drew BK512.out)
           replace BK514 := Aside0.mk (blk_drew BK514.out)
           replace HB := Aside0.mk (below_drew1 HB.out)
           refine start_ (n := 5) (S := fun w' => w'.cell? ⟨gb512, 0, none⟩ = some (.int .i64 ((rd_T30 t508 x21_1).f0.f0)) ∧ w'.cell? ⟨gb512, 1, none⟩ = some (.int .i64 ((rd_T30 t508 x21_1).f0.f1)) ∧ w'.cell? ⟨gb512, 2, none⟩ = some (.int .i64 ((rd_T30 t508 x21_1).f1)) ∧ w'.cell? ⟨gb514, 0, none⟩ = some (.int .i64 (wrap64 (Int.tdiv x9_2 4))) ∧ w'.cell? ⟨gb514, 1, none⟩ = some (.int .i64 (Int.tmod x9_2 4))) (ds := []) #[false, false, false, false, false] (by kernel_rfl) rfl rfl ⟨BK512.c 0, BK512.c 1, BK512.c 2, BK514.c 0, BK514.c 1⟩ (fun hHeld => ?_)
           generalize w59.drew = w60 at HO_19 BK501 BK502 BK503 BK512 BK514 HB hHeld ⊢
           refine take_ (i := 0) (N := some 42) (v := ?_) (a' := ?_) #[true, false, false, false, false] rfl rfl (by kernel_rfl) (fun _ _ _ h => h) (Or.inl ⟨by rfl, ?_⟩) hHeld ?_ ?_
           rotate_left
           ·rintro w' ⟨s0, s1, s2, s3, s4⟩
            go_simp
            with_reducible rfl
           rotate_left
           ·simp only [Act.put, List.setIfInBounds_toArray, List.set_cons_zero, List.set_cons_succ, i64_w, i32_w]
            rfl
           refine take_ (i := 1) (N := some 43) (v := ?_) (a' := ?_) #[true, true, false, false, false] rfl rfl (by kernel_rfl) (fun _ _ _ h => h) (Or.inl ⟨by rfl, ?_⟩) hHeld ?_ ?_
           rotate_left
           ·rintro w' ⟨s0, s1, s2, s3, s4⟩
            go_simp
            with_reducible rfl
           rotate_left
           ·simp only [Act.put, List.setIfInBounds_toArray, List.set_cons_zero, List.set_cons_succ, i64_w, i32_w]
            rfl
           refine one_ (i := 2) (N := none) #[true, true, true, false, false] rfl rfl (by kernel_rfl) (by decide) (fun K hK => ?_)
           have hs61 : w60.cell? ⟨gb502, 0, none⟩ = some (.int .i64 x503000_2) := BK502.c 0
           have hfs61 := blk_frozen BK502.out 0
           have hns61_0 := NB501_502.out
           have hns61_2 := NB503_502.out
           have hns61_3 := NB512_502.out
           have hns61_4 := NB514_502.out
           have hms61_0 := NB502_501.out
           have hms61_2 := NB502_503.out
           have hms61_3 := NB502_512.out
           have hms61_4 := NB502_514.out
           have hs62 : w60.cell? ⟨gb502, 1, none⟩ = some (.int .i64 x503001_2) := BK502.c 1
           have hfs62 := blk_frozen BK502.out 1
           have hns62_0 := NB501_502.out
           have hns62_2 := NB503_502.out
           have hns62_3 := NB512_502.out
           have hns62_4 := NB514_502.out
           have hms62_0 := NB502_501.out
           have hms62_2 := NB502_503.out
           have hms62_3 := NB502_512.out
           have hms62_4 := NB502_514.out
           have hs63 : w60.cell? ⟨gb502, 2, none⟩ = some (.int .i64 x503002_2) := BK502.c 2
           have hfs63 := blk_frozen BK502.out 2
           have hns63_0 := NB501_502.out
           have hns63_2 := NB503_502.out
           have hns63_3 := NB512_502.out
           have hns63_4 := NB514_502.out
           have hms63_0 := NB502_501.out
           have hms63_2 := NB502_503.out
           have hms63_3 := NB502_512.out
           have hms63_4 := NB502_514.out
           refine skip_ (w1 := ?_) (by rfl) rfl ?_ ?_
           rotate_left
           ·go_simp
            rfl
           refine hK.out _ _ ⟨((cell_far (p := ⟨gb502, _, none⟩) NB512_502.out _).trans (((cell_far (p := ⟨gb502, _, none⟩) NB512_502.out _).trans (((cell_far (p := ⟨gb502, _, none⟩) NB512_502.out _).trans (hHeld.1)))))), ((cell_far (p := ⟨gb502, _, none⟩) NB512_502.out _).trans (((cell_far (p := ⟨gb502, _, none⟩) NB512_502.out _).trans (((cell_far (p := ⟨gb502, _, none⟩) NB512_502.out _).trans (hHeld.2.1)))))), ((cell_far (p := ⟨gb502, _, none⟩) NB512_502.out _).trans (((cell_far (p := ⟨gb502, _, none⟩) NB512_502.out _).trans (((cell_far (p := ⟨gb502, _, none⟩) NB512_502.out _).trans (hHeld.2.2.1)))))), ((cell_far (p := ⟨gb502, _, none⟩) NB514_502.out _).trans (((cell_far (p := ⟨gb502, _, none⟩) NB514_502.out _).trans (((cell_far (p := ⟨gb502, _, none⟩) NB514_502.out _).trans (hHeld.2.2.2.1)))))), ((cell_far (p := ⟨gb502, _, none⟩) NB514_502.out _).trans (((cell_far (p := ⟨gb502, _, none⟩) NB514_502.out _).trans (((cell_far (p := ⟨gb502, _, none⟩) NB514_502.out _).trans (hHeld.2.2.2.2))))))⟩ (fun hHeld => ?_)
           clear hK K
           refine one_ (i := 3) (N := none) #[true, true, true, true, false] rfl rfl (by kernel_rfl) (by decide) (fun K hK => ?_)
           have hs64 : w60.cell? ⟨gb503, 0, none⟩ = some (.int .i64 x504000_2) := BK503.c 0
           have hfs64 := blk_frozen BK503.out 0
           have hns64_0 := NB501_503.out
           have hns64_1 := NB502_503.out
           have hns64_3 := NB512_503.out
           have hns64_4 := NB514_503.out
           have hms64_0 := NB503_501.out
           have hms64_1 := NB503_502.out
           have hms64_3 := NB503_512.out
           have hms64_4 := NB503_514.out
           have hs65 : w60.cell? ⟨gb503, 1, none⟩ = some (.int .i64 x504001_2) := BK503.c 1
           have hfs65 := blk_frozen BK503.out 1
           have hns65_0 := NB501_503.out
           have hns65_1 := NB502_503.out
           have hns65_3 := NB512_503.out
           have hns65_4 := NB514_503.out
           have hms65_0 := NB503_501.out
           have hms65_1 := NB503_502.out
           have hms65_3 := NB503_512.out
           have hms65_4 := NB503_514.out
           refine skip_ (w1 := ?_) (by rfl) rfl ?_ ?_
           rotate_left
           ·go_simp
            rfl
           refine hK.out _ _ ⟨((cell_far (p := ⟨gb503, _, none⟩) NB512_503.out _).trans (((cell_far (p := ⟨gb503, _, none⟩) NB512_503.out _).trans (hHeld.1)))), ((cell_far (p := ⟨gb503, _, none⟩) NB512_503.out _).trans (((cell_far (p := ⟨gb503, _, none⟩) NB512_503.out _).trans (hHeld.2.1)))), ((cell_far (p := ⟨gb503, _, none⟩) NB512_503.out _).trans (((cell_far (p := ⟨gb503, _, none⟩) NB512_503.out _).trans (hHeld.2.2.1)))), ((cell_far (p := ⟨gb503, _, none⟩) NB514_503.out _).trans (((cell_far (p := ⟨gb503, _, none⟩) NB514_503.out _).trans (hHeld.2.2.2.1)))), ((cell_far (p := ⟨gb503, _, none⟩) NB514_503.out _).trans (((cell_far (p := ⟨gb503, _, none⟩) NB514_503.out _).trans (hHeld.2.2.2.2))))⟩ (fun hHeld => ?_)
           clear hK K
           refine pure_ (i := 4) (N := some 6) (v := ?_) (a' := ?_) #[true, true, true, true, true] rfl rfl (by kernel_rfl) (fun _ _ _ h => h) (Or.inl ⟨by rfl, ?_⟩) ?_ ?_
           rotate_left
           ·intro w'
            go_simp
            with_reducible rfl
           rotate_left
           ·simp only [Act.put, List.setIfInBounds_toArray, List.set_cons_zero, List.set_cons_succ, i64_w, i32_w]
            rfl
           refine done_ (by kernel_rfl) ?_
           try go_wp2
           refine bodyPost_ret (results_list (rs := [.cell 4 30, .cell 5 32, .tmp 6]) rfl (by simp) (.cell gb502 30 #[.int .i64 ((rd_T30 t508 x21_1).f0.f0), .int .i64 ((rd_T30 t508 x21_1).f0.f1), .int .i64 ((rd_T30 t508 x21_1).f1)] (0, 0) _ rfl (by (with_reducible repeat (first | refine blk_drewN ?_ _ | refine blk_drew ?_ | refine blk_alloc ?_ _)); refine blk_far ?_ NB502_503.out _; (with_reducible repeat (first | refine blk_drewN ?_ _ | refine blk_drew ?_ | refine blk_alloc ?_ _)); refine blk_far ?_ NB502_503.out _; (with_reducible repeat (first | refine blk_drewN ?_ _ | refine blk_drew ?_ | refine blk_alloc ?_ _)); refine blk_put (cs := #[.int .i64 ((rd_T30 t508 x21_1).f0.f0), .int .i64 ((rd_T30 t508 x21_1).f0.f1), .int .i64 x503002_2]) ?_ 2 _ rfl; (with_reducible repeat (first | refine blk_drewN ?_ _ | refine blk_drew ?_ | refine blk_alloc ?_ _)); refine blk_put (cs := #[.int .i64 ((rd_T30 t508 x21_1).f0.f0), .int .i64 x503001_2, .int .i64 x503002_2]) ?_ 1 _ rfl; (with_reducible repeat (first | refine blk_drewN ?_ _ | refine blk_drew ?_ | refine blk_alloc ?_ _)); refine blk_put (cs := #[.int .i64 x503000_2, .int .i64 x503001_2, .int .i64 x503002_2]) ?_ 0 _ rfl; (with_reducible repeat (first | refine blk_drewN ?_ _ | refine blk_drew ?_ | refine blk_alloc ?_ _)); exact BK502.out) Try.underlying30 rfl (by kernel_rfl) (.cell gb503 32 #[.int .i64 (wrap64 (Int.tdiv x9_2 4)), .int .i64 (Int.tmod x9_2 4)] (0, 0) _ rfl (by (with_reducible repeat (first | refine blk_drewN ?_ _ | refine blk_drew ?_ | refine blk_alloc ?_ _)); refine blk_put (cs := #[.int .i64 (wrap64 (Int.tdiv x9_2 4)), .int .i64 x504001_2]) ?_ 1 _ rfl; (with_reducible repeat (first | refine blk_drewN ?_ _ | refine blk_drew ?_ | refine blk_alloc ?_ _)); refine blk_put (cs := #[.int .i64 x504000_2, .int .i64 x504001_2]) ?_ 0 _ rfl; (with_reducible repeat (first | refine blk_drewN ?_ _ | refine blk_drew ?_ | refine blk_alloc ?_ _)); refine blk_far ?_ NB503_502.out _; (with_reducible repeat (first | refine blk_drewN ?_ _ | refine blk_drew ?_ | refine blk_alloc ?_ _)); refine blk_far ?_ NB503_502.out _; (with_reducible repeat (first | refine blk_drewN ?_ _ | refine blk_drew ?_ | refine blk_alloc ?_ _)); refine blk_far ?_ NB503_502.out _; (with_reducible repeat (first | refine blk_drewN ?_ _ | refine blk_drew ?_ | refine blk_alloc ?_ _)); exact BK503.out) Try.underlying32 rfl (by kernel_rfl) (.tmp .nil)))) rfl ?_
           exact ⟨ex_, hb5_ HB.out GE501.out GE502.out GE503.out GE512.out GE514.out⟩
         ·rw [if_neg c27] at H
          have c27b0 : decide (x9_2 < (wrap64 (4 * t513))) = false := decide_eq_false c27
          clear c27
          have H' := Aside0.mk H
          clear H
          have hnb66 := NB501_502.out
          have hnc66 := NB502_501.out
          have hnb67 := NB501_503.out
          have hnc67 := NB503_501.out
          have hnb68 := NB501_512.out
          have hnc68 := NB512_501.out
          obtain ⟨hcz69_0, hcz69_1⟩ := cz2_ BK501.out
          obtain ⟨hfz69_0, hfz69_1⟩ := fz2_ BK501.out
          go_wp2_with (first | (refine gl_ 27 Try.func21 #[.agg #[.int .i64 a0_0, .int .i64 a0_1]] ?_; (with_reducible refine (impl_CountCells.calls a0_0 a0_1 t513 _ A26.out).mono ?_); rintro e w70 ⟨rfl, hb⟩; refine ⟨_, rfl, ?_⟩; replace HO_19 := HO_19.kb hb; replace BK501 := BK501.bb hb; replace BK502 := BK502.bb hb; replace BK503 := BK503.bb hb; replace BK512 := BK512.bb hb; replace HB := HB.s4 GE501 GE502 GE503 GE512 hb; (try clear hb)))
          go_roundg k2
          case measure => have := HK1.out; have := HK2.out; omega
          case rel => exact ⟨(wrap64 (x21_1 + 1)), (x503000_2), (x503001_2), (x503002_2), (x504000_2), (x504001_2), (by first | rfl | (simp; done) | (simp [*]; done)), H', ⟨by have := HK1.out; have := HK2.out; omega⟩, ⟨by (with_reducible repeat (first | apply Kd.R_alloc | apply Kd.R_drewN | apply Kd.R_drew)); exact Kd.R_mono HO_19.out (fun _ hk => hk.1)⟩, ⟨bk_ BK501.out⟩, ⟨bk_ BK502.out⟩, ⟨bk_ BK503.out⟩, ⟨hb4_ HB.out GE501.out GE502.out GE503.out GE512.out⟩⟩
      ·rw [if_neg c20] at H
       exact absurd H (by simp)
     ·rw [if_neg c19] at H
      exact absurd H (by simp)
    ·rw [if_neg c18] at H
     have c18b0 : decide (x21_1 < (t508.length : Int)) = false := decide_eq_false c18
     clear c18
     simp only [Option.some.injEq, Prod.mk.injEq] at H
     obtain ⟨rfl, rfl, rfl, rfl, rfl, rfl⟩ := H
     have hnb71 := NB502_501.out
     have hnc71 := NB501_502.out
     have hnb72 := NB502_503.out
     have hnc72 := NB503_502.out
     obtain ⟨hcz73_0, hcz73_1, hcz73_2⟩ := cz3_ BK502.out
     obtain ⟨hfz73_0, hfz73_1, hfz73_2⟩ := fz3_ BK502.out
     have hnb74 := NB503_501.out
     have hnc74 := NB501_503.out
     obtain ⟨hcz75_0, hcz75_1⟩ := cz2_ BK503.out
     obtain ⟨hfz75_0, hfz75_1⟩ := fz2_ BK503.out
     go_wp2
     refine bodyPost_ret (results_list (rs := [.cell 4 30, .cell 5 32, .tmp 6]) rfl (by simp) (.cell gb502 30 #[.int .i64 0, .int .i64 0, .int .i64 0] (0, 0) _ rfl (by (with_reducible repeat (first | refine blk_drewN ?_ _ | refine blk_drew ?_ | refine blk_alloc ?_ _)); refine blk_far ?_ NB502_503.out _; (with_reducible repeat (first | refine blk_drewN ?_ _ | refine blk_drew ?_ | refine blk_alloc ?_ _)); refine blk_far ?_ NB502_503.out _; (with_reducible repeat (first | refine blk_drewN ?_ _ | refine blk_drew ?_ | refine blk_alloc ?_ _)); refine blk_put (cs := #[.int .i64 0, .int .i64 0, .int .i64 x503002_1]) ?_ 2 _ rfl; (with_reducible repeat (first | refine blk_drewN ?_ _ | refine blk_drew ?_ | refine blk_alloc ?_ _)); refine blk_put (cs := #[.int .i64 0, .int .i64 x503001_1, .int .i64 x503002_1]) ?_ 1 _ rfl; (with_reducible repeat (first | refine blk_drewN ?_ _ | refine blk_drew ?_ | refine blk_alloc ?_ _)); refine blk_put (cs := #[.int .i64 x503000_1, .int .i64 x503001_1, .int .i64 x503002_1]) ?_ 0 _ rfl; (with_reducible repeat (first | refine blk_drewN ?_ _ | refine blk_drew ?_ | refine blk_alloc ?_ _)); exact BK502.out) Try.underlying30 rfl (by kernel_rfl) (.cell gb503 32 #[.int .i64 0, .int .i64 0] (0, 0) _ rfl (by (with_reducible repeat (first | refine blk_drewN ?_ _ | refine blk_drew ?_ | refine blk_alloc ?_ _)); refine blk_put (cs := #[.int .i64 0, .int .i64 x504001_1]) ?_ 1 _ rfl; (with_reducible repeat (first | refine blk_drewN ?_ _ | refine blk_drew ?_ | refine blk_alloc ?_ _)); refine blk_put (cs := #[.int .i64 x504000_1, .int .i64 x504001_1]) ?_ 0 _ rfl; (with_reducible repeat (first | refine blk_drewN ?_ _ | refine blk_drew ?_ | refine blk_alloc ?_ _)); refine blk_far ?_ NB503_502.out _; (with_reducible repeat (first | refine blk_drewN ?_ _ | refine blk_drew ?_ | refine blk_alloc ?_ _)); refine blk_far ?_ NB503_502.out _; (with_reducible repeat (first | refine blk_drewN ?_ _ | refine blk_drew ?_ | refine blk_alloc ?_ _)); refine blk_far ?_ NB503_502.out _; (with_reducible repeat (first | refine blk_drewN ?_ _ | refine blk_drew ?_ | refine blk_alloc ?_ _)); exact BK503.out) Try.underlying32 rfl (by kernel_rfl) (.tmp .nil)))) rfl ?_
     exact ⟨ex_, hb3_ HB.out GE501.out GE502.out GE503.out⟩
 ·replace c4 := Bool.eq_false_iff.mpr c4
  subst c4
  have H1 : (some (0, 0, 0, 0, 0, false)) = some (r1, r2, r3, r4, r5, r6) := by rw [if_neg (show ¬ (false = true) by decide)] at H; exact H
  clear H
  have H := H1
  clear H1
  simp only [Option.some.injEq, Prod.mk.injEq] at H
  obtain ⟨rfl, rfl, rfl, rfl, rfl, rfl⟩ := H
  go_enter Try.func6, Try.ntmps6
  go_wp2_with (first | (refine box_ (N := 2) (cs := #[.int .i64 a0_0, .int .i64 a0_1]) (t := 25) ?_; intro gb501 hg w76 hbox hb; have BK501 := Aside0.mk (hbox); have GW501 := HB.g0 hg; have GE501 := HB.g0 hg; replace HB := HB.s0 hb; clear hb hbox hg) | (refine box_ (N := 4) (cs := #[.int .i64 0, .int .i64 0, .int .i64 0]) (t := 30) ?_; intro gb502 hg w77 hbox hb; have BK502 := Aside0.mk (hbox); have GW502 := HB.g1 GE501 hg; have GE502 := HB.g1 GE501 hg; replace HB := HB.s1 GE501 hb; have NB501_502 := BK501.nl hg; have NB502_501 := BK501.nr hg; replace BK501 := BK501.bb hb; clear hb hbox hg) | (refine box_ (N := 5) (cs := #[.int .i64 0, .int .i64 0]) (t := 32) ?_; intro gb503 hg w78 hbox hb; have BK503 := Aside0.mk (hbox); have GW503 := HB.g2 GE501 GE502 hg; have GE503 := HB.g2 GE501 GE502 hg; replace HB := HB.s2 GE501 GE502 hb; have NB501_503 := BK501.nl hg; have NB503_501 := BK501.nr hg; replace BK501 := BK501.bb hb; have NB502_503 := BK502.nl hg; have NB503_502 := BK502.nr hg; replace BK502 := BK502.bb hb; clear hb hbox hg; have hnb79 := NB501_502.out; have hnc79 := NB502_501.out; have hnb80 := NB501_503.out; have hnc80 := NB503_501.out; obtain ⟨hcz81_0, hcz81_1⟩ := cz2_ BK501.out; obtain ⟨hfz81_0, hfz81_1⟩ := fz2_ BK501.out) | (refine gl_ 13 Try.func18 #[.agg #[.int .i64 a0_0, .int .i64 a0_1], .slice A1 l1.length c1] ?_; (with_reducible refine (impl_canTry.calls a0_0 a0_1 _ _ l1 false _ ?side1 ?side2 A3.out).mono ?_); (case side1 => repeat (first | exact (Kd.C_below HR1.out HB.out) | (with_reducible refine Kd.C_alloc ?_ _) | (with_reducible refine Kd.C_drewN ?_ _) | (with_reducible refine Kd.C_drew ?_))); (case side2 => exact HC1.out); rintro e w82 ⟨rfl, hb⟩; refine ⟨_, rfl, ?_⟩; replace BK501 := BK501.bb hb; replace BK502 := BK502.bb hb; replace BK503 := BK503.bb hb; replace HB := HB.s3 GE501 GE502 GE503 hb; (try clear hb); have hnb83 := NB502_503.out; have hnc83 := NB503_502.out; obtain ⟨hcz84_0, hcz84_1, hcz84_2⟩ := cz3_ BK502.out; obtain ⟨hfz84_0, hfz84_1, hfz84_2⟩ := fz3_ BK502.out; obtain ⟨hcz85_0, hcz85_1⟩ := cz2_ BK503.out; obtain ⟨hfz85_0, hfz85_1⟩ := fz2_ BK503.out))
  refine bodyPost_ret (results_list (rs := [.cell 4 30, .cell 5 32, .tmp 6]) rfl (by simp) (.cell gb502 30 #[.int .i64 0, .int .i64 0, .int .i64 0] (0, 0) _ rfl (by (with_reducible repeat (first | refine blk_drewN ?_ _ | refine blk_drew ?_ | refine blk_alloc ?_ _)); refine blk_far ?_ NB502_503.out _; (with_reducible repeat (first | refine blk_drewN ?_ _ | refine blk_drew ?_ | refine blk_alloc ?_ _)); refine blk_far ?_ NB502_503.out _; (with_reducible repeat (first | refine blk_drewN ?_ _ | refine blk_drew ?_ | refine blk_alloc ?_ _)); refine blk_put (cs := #[.int .i64 0, .int .i64 0, .int .i64 0]) ?_ 2 _ rfl; (with_reducible repeat (first | refine blk_drewN ?_ _ | refine blk_drew ?_ | refine blk_alloc ?_ _)); refine blk_put (cs := #[.int .i64 0, .int .i64 0, .int .i64 0]) ?_ 1 _ rfl; (with_reducible repeat (first | refine blk_drewN ?_ _ | refine blk_drew ?_ | refine blk_alloc ?_ _)); refine blk_put (cs := #[.int .i64 0, .int .i64 0, .int .i64 0]) ?_ 0 _ rfl; (with_reducible repeat (first | refine blk_drewN ?_ _ | refine blk_drew ?_ | refine blk_alloc ?_ _)); exact BK502.out) Try.underlying30 rfl (by kernel_rfl) (.cell gb503 32 #[.int .i64 0, .int .i64 0] (0, 0) _ rfl (by (with_reducible repeat (first | refine blk_drewN ?_ _ | refine blk_drew ?_ | refine blk_alloc ?_ _)); refine blk_put (cs := #[.int .i64 0, .int .i64 0]) ?_ 1 _ rfl; (with_reducible repeat (first | refine blk_drewN ?_ _ | refine blk_drew ?_ | refine blk_alloc ?_ _)); refine blk_put (cs := #[.int .i64 0, .int .i64 0]) ?_ 0 _ rfl; (with_reducible repeat (first | refine blk_drewN ?_ _ | refine blk_drew ?_ | refine blk_alloc ?_ _)); refine blk_far ?_ NB503_502.out _; (with_reducible repeat (first | refine blk_drewN ?_ _ | refine blk_drew ?_ | refine blk_alloc ?_ _)); refine blk_far ?_ NB503_502.out _; (with_reducible repeat (first | refine blk_drewN ?_ _ | refine blk_drew ?_ | refine blk_alloc ?_ _)); refine blk_far ?_ NB503_502.out _; (with_reducible repeat (first | refine blk_drewN ?_ _ | refine blk_drew ?_ | refine blk_alloc ?_ _)); exact BK503.out) Try.underlying32 rfl (by kernel_rfl) (.tmp .nil)))) rfl ?_
  exact ⟨ex_, hb3_ HB.out GE501.out GE502.out GE503.out⟩

end Go.Proofs.Ytjepgkbaoahjgaa.X
