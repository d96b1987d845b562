-- Written by a program of this session (xprint.py), out of the translation and of hand-written contracts. Lean checks it.
import Derived.Test.YtnfclfpicemojaaX0
import Derived.Test.YtnfclfpicemojaaXcgaps
import Derived.Test.YtnfclfpicemojaaXcgrid
import Derived.Test.YtnfclfpicemojaaXcmeet
import Derived.Test.YtnfclfpicemojaaXctrees
import Derived.Test.YtnfclfpicemojaaXcwish
import Derived.Test.YtnfclfpicemojaaXimplFullMaze
namespace Go.Proofs.Ytnfclfpicemojaa.X
open Go.RowKit Go.Proofs.YtnfclfpicemojaaW.PrintWords Go.Proofs.YtnfclfpicemojaaW.PrintLast Go.Proofs.YtnfclfpicemojaaW.PrintMore
attribute [local go_sem] max2_int min2_int max_two min_two max_three min_three max_four min_four   -- for this text's walks alone
set_option linter.unusedVariables false
set_option linter.unusedSimpArgs false

/-! ### impl_perfect: function 17 -/
def impl_perfect.j0 : Nat → Bool → Int → Int → Option ((List (S32)) × Bool)
 | 0, _, _, _ => none
 | k + 1, x11, x502000, x502001 => if x11 = true then (some (([] : List (S32)), false)) else ((impl_FullMaze.f x502000 x502001).bind fun bt504 => ((impl_ListTrees.f k bt504.1 bt504.2.1 bt504.2.2).bind fun t507 => (some (t507, true))))
def impl_perfect.f (k : Nat) (a0_0 : Int) (a0_1 : Int) : Option ((List (S32)) × Bool) := (impl_GridOk.f a0_0 a0_1).bind fun t502 => (if t502 = true then ((impl_CountGaps.f a0_0 a0_1).bind fun t503 => (impl_perfect.j0 k (decide (t503 > 12)) a0_0 a0_1)) else (impl_perfect.j0 k true a0_0 a0_1))
theorem impl_perfect.mono_l : ∀ k, (∀ y0 y1 y2, LeO (impl_perfect.j0 k y0 y1 y2) (impl_perfect.j0 (k + 1) y0 y1 y2))
 | 0 => fun _ _ _ r h => by simp [impl_perfect.j0] at h
 | k + 1 => by
  have ih0 := impl_perfect.mono_l k
  ·intro y0 y1 y2
   unfold impl_perfect.j0
   repeat' first
   | (with_reducible exact ih0 ..)
   | (with_reducible exact impl_ListTrees.mono ..)
   | (with_reducible first | exact lr_ _ | exact ln_ _ | refine li_ ?_ ?_ | refine lb_ ?_ fun _ => ?_)
   | exact ih0 ..
   | exact impl_ListTrees.mono ..
   | exact ln_ _ | refine li_ ?_ ?_ | refine lb_ ?_ fun _ => ?_
theorem impl_perfect.mono : ∀ a0 a1 k, LeO (impl_perfect.f k a0 a1) (impl_perfect.f (k + 1) a0 a1) := by
 intro a0 a1 k
 have ih0 := impl_perfect.mono_l k
 unfold impl_perfect.f
 repeat' first
   | (with_reducible exact ih0 ..)
   | (with_reducible exact impl_ListTrees.mono ..)
   | (with_reducible first | exact lr_ _ | exact ln_ _ | refine li_ ?_ ?_ | refine lb_ ?_ fun _ => ?_)
   | exact ih0 ..
   | exact impl_ListTrees.mono ..
   | exact ln_ _ | refine li_ ?_ ?_ | refine lb_ ?_ fun _ => ?_
set_option maxHeartbeats 8000000 in
set_option maxRecDepth 100000 in
theorem impl_perfect.calls (k : Nat) (a0_0 : Int) (a0_1 : Int) (r1 : List (S32)) (r2 : Bool) (w : World) (h : impl_perfect.f k a0_0 a0_1 = some (r1, r2)) :
  Calls Try.prog 17 #[.agg #[.int .i64 a0_0, .int .i64 a0_1]] w fun e w' => ∃ v0_ : Value, e = .returned (.tuple #[v0_, .bool r2]) ∧ Kd.R k32 32 w' w.heap.size (fun _ => True) v0_ r1 ∧ Below w.heap.size w w' := by
 have hu25 := Try.underlying25
 have HB := Aside0.mk (Below.refl w.heap.size w)
 have H : ((impl_GridOk.f a0_0 a0_1).bind fun t502 => (if t502 = true then ((impl_CountGaps.f a0_0 a0_1).bind fun t503 => (impl_perfect.j0 k (decide (t503 > 12)) a0_0 a0_1)) else (impl_perfect.j0 k true a0_0 a0_1))) = some (r1, r2) := h
 clear h
 have HC2 := Aside0.mk H
 clear H
 go_enter Try.func17, Try.ntmps17
 go_upto_region 1 with (first | (refine box_ (N := 1) (cs := #[.int .i64 a0_0, .int .i64 a0_1]) (t := 25) ?_; intro gb501 hg w3 hbox hb; have BK501 := Aside0.mk (hbox); have GW501 := HB.g0 hg; have GE501 := HB.g0 hg; replace HB := HB.s0 hb; clear hb hbox hg))
 (try simp only [Act.put, List.setIfInBounds_toArray, List.set_cons_zero, List.set_cons_succ])
 go_cut [11] (fun v11 wc => ∃ (kq : Nat) (x11_1 : Bool), v11 = .bool x11_1 ∧ Aside0 (impl_perfect.j0 kq x11_1 a0_0 a0_1 = some (r1, r2)) ∧ Aside0 (kq ≤ k) ∧ Aside0 (wc.heap[gb501]? = some (.cells #[.int .i64 a0_0, .int .i64 a0_1] 25 (0, 0))) ∧ Aside0 (Below w.heap.size w wc))
 case first =>
  have H := HC2.out
  clear HC2
  replace H := Option.bind_eq_some_iff.mp H
  obtain ⟨t502, A40, H⟩ := H
  replace H : (if t502 = true then ((impl_CountGaps.f a0_0 a0_1).bind fun t503 => (impl_perfect.j0 k (decide (t503 > 12)) a0_0 a0_1)) else (impl_perfect.j0 k true a0_0 a0_1)) = some (r1, r2) := H
  have A4 := Aside0.mk A40
  clear A40
  by_cases c5 : t502 = true
  ·subst c5
   have H1 : ((impl_CountGaps.f a0_0 a0_1).bind fun t503 => (impl_perfect.j0 k (decide (t503 > 12)) a0_0 a0_1)) = some (r1, r2) := by rw [if_pos rfl] at H; exact H
   clear H
   have H := H1
   clear H1
   replace H := Option.bind_eq_some_iff.mp H
   obtain ⟨t503, A60, H⟩ := H
   replace H : (impl_perfect.j0 k (decide (t503 > 12)) a0_0 a0_1) = some (r1, r2) := H
   have A6 := Aside0.mk A60
   clear A60
   have H' := Aside0.mk H
   clear H
   obtain ⟨hcz7_0, hcz7_1⟩ := cz2_ BK501.out
   obtain ⟨hfz7_0, hfz7_1⟩ := fz2_ BK501.out
   go_wp2_with (first | (refine gl_ 5 Try.func24 #[.agg #[.int .i64 a0_0, .int .i64 a0_1]] ?_; (with_reducible refine (impl_GridOk.calls a0_0 a0_1 true _ A4.out).mono ?_); rintro e w8 ⟨rfl, hb⟩; refine ⟨_, rfl, ?_⟩; replace BK501 := BK501.bb hb; replace HB := HB.s1 GE501 hb; (try clear hb); obtain ⟨hcz9_0, hcz9_1⟩ := cz2_ BK501.out; obtain ⟨hfz9_0, hfz9_1⟩ := fz2_ BK501.out) | (go_at_call 28; (with_reducible refine (impl_CountGaps.calls a0_0 a0_1 t503 _ A6.out).mono ?_); rintro e w10 ⟨rfl, hb⟩; replace BK501 := BK501.bb hb; replace HB := HB.s1 GE501 hb; (try clear hb)))
   go_meet
   case rel => exact ⟨_, (decide (t503 > 12)), (by first | rfl | (simp; done) | (simp [*]; done)), H', ⟨by first | omega | exact Nat.le_refl _⟩, ⟨bk_ BK501.out⟩, ⟨hb1_ HB.out GE501.out⟩⟩
  ·replace c5 := Bool.eq_false_iff.mpr c5
   subst c5
   have H1 : (impl_perfect.j0 k true a0_0 a0_1) = some (r1, r2) := by rw [if_neg (show ¬ (false = true) by decide)] at H; exact H
   clear H
   have H := H1
   clear H1
   have H' := Aside0.mk H
   clear H
   obtain ⟨hcz11_0, hcz11_1⟩ := cz2_ BK501.out
   obtain ⟨hfz11_0, hfz11_1⟩ := fz2_ BK501.out
   go_wp2_with (first | (refine gl_ 5 Try.func24 #[.agg #[.int .i64 a0_0, .int .i64 a0_1]] ?_; (with_reducible refine (impl_GridOk.calls a0_0 a0_1 false _ A4.out).mono ?_); rintro e w12 ⟨rfl, hb⟩; refine ⟨_, rfl, ?_⟩; replace BK501 := BK501.bb hb; replace HB := HB.s1 GE501 hb; (try clear hb)))
   go_meet
   case rel => exact ⟨_, (true), (by first | rfl | (simp; done) | (simp [*]; done)), H', ⟨by first | omega | exact Nat.le_refl _⟩, ⟨bk_ BK501.out⟩, ⟨hb1_ HB.out GE501.out⟩⟩
 case rest =>
  clear HC2
  try clear c1
  try clear c2
  try clear p2
  try clear c5
  try clear hcz11_0
  try clear hcz11_1
  try clear hcz7_0
  try clear hcz7_1
  try clear hcz9_0
  try clear hcz9_1
  try clear hfz11_0
  try clear hfz11_1
  try clear hfz7_0
  try clear hfz7_1
  try clear hfz9_0
  try clear hfz9_1
  obtain ⟨kq, x11_1, rfl, HA, HJ1, BK501, HB⟩ := hcut
  cases kq with
  | zero => exact absurd HA.out (by simp [impl_perfect.j0])
  | succ kj1 =>
   have H := HA.out
   clear HA
   simp only [impl_perfect.j0] at H
   by_cases c13 : x11_1 = true
   ·subst c13
    have H1 : (some (([] : List (S32)), false)) = some (r1, r2) := by rw [if_pos rfl] at H; exact H
    clear H
    have H := H1
    clear H1
    simp only [Option.some.injEq, Prod.mk.injEq] at H
    obtain ⟨rfl, rfl⟩ := H
    go_wp2
    go_ret2
    exact ⟨_, ex_, by first | exact Kd.R_nil _ _ _ _ _ | exact Kd.N_nil _ _ _ _ _ | exact Kd.V_nil _ _ _ _ _ | exact Kd.Q_nil _ _ _ _ _ | exact Kd.S_nil _ _ _ _ _, hb1_ HB.out GE501.out⟩
   ·replace c13 := Bool.eq_false_iff.mpr c13
    subst c13
    have H1 : ((impl_FullMaze.f a0_0 a0_1).bind fun bt504 => ((impl_ListTrees.f kj1 bt504.1 bt504.2.1 bt504.2.2).bind fun t507 => (some (t507, true)))) = some (r1, r2) := by rw [if_neg (show ¬ (false = true) by decide)] at H; exact H
    clear H
    have H := H1
    clear H1
    replace H := Option.bind_eq_some_iff.mp H
    obtain ⟨⟨t504, t505, t506⟩, A140, H⟩ := H
    replace H : ((impl_ListTrees.f kj1 t504 t505 t506).bind fun t507 => (some (t507, true))) = some (r1, r2) := H
    have A14 := Aside0.mk A140
    clear A140
    replace H := Option.bind_eq_some_iff.mp H
    obtain ⟨t507, A150, H⟩ := H
    replace H : (some (t507, true)) = some (r1, r2) := H
    have A15 := Aside0.mk A150
    clear A150
    simp only [Option.some.injEq, Prod.mk.injEq] at H
    obtain ⟨rfl, rfl⟩ := H
    obtain ⟨hcz16_0, hcz16_1⟩ := cz2_ BK501.out
    obtain ⟨hfz16_0, hfz16_1⟩ := fz2_ BK501.out
    go_wp2_with (first | (refine gl_ 13 Try.func30 #[.agg #[.int .i64 a0_0, .int .i64 a0_1]] ?_; (with_reducible refine (impl_FullMaze.calls a0_0 a0_1 t504 t505 t506 _ A14.out).mono ?_); rintro e w17 ⟨rfl, hb⟩; refine ⟨_, rfl, ?_⟩; replace BK501 := BK501.bb hb; replace HB := HB.s1 GE501 hb; (try clear hb)) | (refine gl_ 14 Try.func29 #[.agg #[.int .i64 t504, .int .i64 t505, .int .i64 t506]] ?_; (with_reducible refine (impl_ListTrees.calls kj1 t504 t505 t506 t507 _ A15.out).mono ?_); rintro e w18 ⟨v508, rfl, ho0, hb⟩; refine ⟨_, rfl, ?_⟩; have HO509 := Aside0.mk (Kd.R_lower ho0 (below_size (hb1_ HB.out GE501.out))); replace BK501 := BK501.bb hb; replace HB := HB.s1 GE501 hb; (try clear hb); (try clear ho0)))
    go_ret2
    exact ⟨_, ex_, kr_ HO509.out, hb1_ HB.out GE501.out⟩

/-! ### impl_meeting: function 16 -/
mutual
def impl_meeting.j0 : Nat → List (S32) → Bool → Int → Int → Int → Int → Option ((List (S32)) × Bool)
 | 0, _, _, _, _, _, _ => none
 | k + 1, x6, x23, x503000, x503001, x503002, x503003 => if x23 = true then (some (([] : List (S32)), false)) else (impl_meeting.l0 k ([] : List (S32)) x6 (x6.length : Int) 0 x503000 x503001 x503002 x503003)
def impl_meeting.l0 : Nat → List (S32) → List (S32) → Int → Int → Int → Int → Int → Int → Option ((List (S32)) × Bool)
 | 0, _, _, _, _, _, _, _, _ => none
 | k + 1, x8, x24, x25, x26, x503000, x503001, x503002, x503003 => if x26 < x25 then (if 0 ≤ x26 then (if x26 < (x24.length : Int) then ((impl_MeetsWish.f k ((rd_T32 x24 x26).f0.f0) ((rd_T32 x24 x26).f0.f1) ((rd_T32 x24 x26).f1) x503000 x503001 x503002 x503003).bind fun t510 => (if t510 = true then (if x8.length < 5864062014805 then (impl_meeting.l0 k (x8 ++ [(⟨(⟨(rd_T32 x24 x26).f0.f0, (rd_T32 x24 x26).f0.f1⟩ : S25), (rd_T32 x24 x26).f1⟩ : S32)]) x24 x25 (wrap64 (x26 + 1)) x503000 x503001 x503002 x503003) else (none)) else (impl_meeting.l0 k x8 x24 x25 (wrap64 (x26 + 1)) x503000 x503001 x503002 x503003))) else (none)) else (none)) else (some (x8, true))
end
def impl_meeting.f (k : Nat) (a0_0 : Int) (a0_1 : Int) (a1_0 : Int) (a1_1 : Int) (a1_2 : Int) (a1_3 : Int) : Option ((List (S32)) × Bool) := (impl_perfect.f k a0_0 a0_1).bind fun bt503 => (if bt503.2 = true then ((impl_WishOk.f a0_0 a0_1 a1_0 a1_1 a1_2 a1_3).bind fun t507 => (impl_meeting.j0 k bt503.1 (!t507) a1_0 a1_1 a1_2 a1_3)) else (impl_meeting.j0 k bt503.1 true a1_0 a1_1 a1_2 a1_3))
theorem impl_meeting.mono_l : ∀ k, (∀ y0 y1 y2 y3 y4 y5, LeO (impl_meeting.j0 k y0 y1 y2 y3 y4 y5) (impl_meeting.j0 (k + 1) y0 y1 y2 y3 y4 y5)) ∧ (∀ y0 y1 y2 y3 y4 y5 y6 y7, LeO (impl_meeting.l0 k y0 y1 y2 y3 y4 y5 y6 y7) (impl_meeting.l0 (k + 1) y0 y1 y2 y3 y4 y5 y6 y7))
 | 0 => ⟨fun _ _ _ _ _ _ r h => by simp [impl_meeting.j0] at h, fun _ _ _ _ _ _ _ _ r h => by simp [impl_meeting.l0] at h⟩
 | k + 1 => by
  obtain ⟨ih0, ih1⟩ := impl_meeting.mono_l k
  refine ⟨?_, ?_⟩
  ·intro y0 y1 y2 y3 y4 y5
   unfold impl_meeting.j0
   repeat' first
   | (with_reducible exact ih0 ..)
   | (with_reducible exact ih1 ..)
   | (with_reducible exact impl_MeetsWish.mono ..)
   | (with_reducible exact impl_perfect.mono ..)
   | (with_reducible first | exact lr_ _ | exact ln_ _ | refine li_ ?_ ?_ | refine lb_ ?_ fun _ => ?_)
   | exact ih0 ..
   | exact ih1 ..
   | exact impl_MeetsWish.mono ..
   | exact impl_perfect.mono ..
   | exact ln_ _ | refine li_ ?_ ?_ | refine lb_ ?_ fun _ => ?_
  ·intro y0 y1 y2 y3 y4 y5 y6 y7
   unfold impl_meeting.l0
   repeat' first
   | (with_reducible exact ih0 ..)
   | (with_reducible exact ih1 ..)
   | (with_reducible exact impl_MeetsWish.mono ..)
   | (with_reducible exact impl_perfect.mono ..)
   | (with_reducible first | exact lr_ _ | exact ln_ _ | refine li_ ?_ ?_ | refine lb_ ?_ fun _ => ?_)
   | exact ih0 ..
   | exact ih1 ..
   | exact impl_MeetsWish.mono ..
   | exact impl_perfect.mono ..
   | exact ln_ _ | refine li_ ?_ ?_ | refine lb_ ?_ fun _ => ?_
theorem impl_meeting.mono : ∀ a0 a1 a2 a3 a4 a5 k, LeO (impl_meeting.f k a0 a1 a2 a3 a4 a5) (impl_meeting.f (k + 1) a0 a1 a2 a3 a4 a5) := by
 intro a0 a1 a2 a3 a4 a5 k
 obtain ⟨ih0, ih1⟩ := impl_meeting.mono_l k
 unfold impl_meeting.f
 repeat' first
   | (with_reducible exact ih0 ..)
   | (with_reducible exact ih1 ..)
   | (with_reducible exact impl_MeetsWish.mono ..)
   | (with_reducible exact impl_perfect.mono ..)
   | (with_reducible first | exact lr_ _ | exact ln_ _ | refine li_ ?_ ?_ | refine lb_ ?_ fun _ => ?_)
   | exact ih0 ..
   | exact ih1 ..
   | exact impl_MeetsWish.mono ..
   | exact impl_perfect.mono ..
   | exact ln_ _ | refine li_ ?_ ?_ | refine lb_ ?_ fun _ => ?_
set_option maxHeartbeats 8000000 in
set_option maxRecDepth 100000 in
theorem impl_meeting.calls (k : Nat) (a0_0 : Int) (a0_1 : Int) (a1_0 : Int) (a1_1 : Int) (a1_2 : Int) (a1_3 : Int) (r1 : List (S32)) (r2 : Bool) (w : World) (h : impl_meeting.f k a0_0 a0_1 a1_0 a1_1 a1_2 a1_3 = some (r1, r2)) :
  Calls Try.prog 16 #[.agg #[.int .i64 a0_0, .int .i64 a0_1], .agg #[.int .i64 a1_0, .int .i64 a1_1, .int .i64 a1_2, .int .i64 a1_3]] w fun e w' => ∃ v0_ : Value, e = .returned (.tuple #[v0_, .bool r2]) ∧ Kd.R k32 32 w' w.heap.size (fun _ => True) v0_ r1 ∧ Below w.heap.size w w' := by
 have hu25 := Try.underlying25
 have hu27 := Try.underlying27
 have hu32 := Try.underlying32
 have HB := Aside0.mk (Below.refl w.heap.size w)
 have H : ((impl_perfect.f k a0_0 a0_1).bind fun bt503 => (if bt503.2 = true then ((impl_WishOk.f a0_0 a0_1 a1_0 a1_1 a1_2 a1_3).bind fun t507 => (impl_meeting.j0 k bt503.1 (!t507) a1_0 a1_1 a1_2 a1_3)) else (impl_meeting.j0 k bt503.1 true a1_0 a1_1 a1_2 a1_3))) = some (r1, r2) := h
 clear h
 replace H := Option.bind_eq_some_iff.mp H
 obtain ⟨⟨t503, t506⟩, A30, H⟩ := H
 replace H : (if t506 = true then ((impl_WishOk.f a0_0 a0_1 a1_0 a1_1 a1_2 a1_3).bind fun t507 => (impl_meeting.j0 k t503 (!t507) a1_0 a1_1 a1_2 a1_3)) else (impl_meeting.j0 k t503 true a1_0 a1_1 a1_2 a1_3)) = some (r1, r2) := H
 have A3 := Aside0.mk A30
 clear A30
 have HC4 := Aside0.mk H
 clear H
 go_enter Try.func16, Try.ntmps16
 go_upto_region 2 with (first | (refine box_ (N := 2) (cs := #[.int .i64 a0_0, .int .i64 a0_1]) (t := 25) ?_; intro gb501 hg w5 hbox hb; have BK501 := Aside0.mk (hbox); have GW501 := HB.g0 hg; have GE501 := HB.g0 hg; replace HB := HB.s0 hb; clear hb hbox hg) | (refine box_ (N := 3) (cs := #[.int .i64 a1_0, .int .i64 a1_1, .int .i64 a1_2, .int .i64 a1_3]) (t := 27) ?_; intro gb502 hg w6 hbox hb; have BK502 := Aside0.mk (hbox); have GW502 := HB.g1 GE501 hg; have GE502 := HB.g1 GE501 hg; replace HB := HB.s1 GE501 hb; have NB501_502 := BK501.nl hg; have NB502_501 := BK501.nr hg; replace BK501 := BK501.bb hb; clear hb hbox hg; have hnb7 := NB501_502.out; have hnc7 := NB502_501.out; obtain ⟨hcz8_0, hcz8_1⟩ := cz2_ BK501.out; obtain ⟨hfz8_0, hfz8_1⟩ := fz2_ BK501.out) | (refine gl_ 13 Try.func17 #[.agg #[.int .i64 a0_0, .int .i64 a0_1]] ?_; (with_reducible refine (impl_perfect.calls k a0_0 a0_1 t503 t506 _ A3.out).mono ?_); rintro e w9 ⟨v504, rfl, ho0, hb⟩; refine ⟨_, rfl, ?_⟩; have HO505 := Aside0.mk (Kd.R_lower ho0 (below_size (hb2_ HB.out GE501.out GE502.out))); replace BK501 := BK501.bb hb; replace BK502 := BK502.bb hb; replace HB := HB.s2 GE501 GE502 hb; (try clear hb); (try clear ho0)))
 (try simp only [Act.put, List.setIfInBounds_toArray, List.set_cons_zero, List.set_cons_succ])
 go_cut [23] (fun v23 wc => ∃ (kq : Nat) (x23_3 : Bool), v23 = .bool x23_3 ∧ Aside0 (impl_meeting.j0 kq t503 x23_3 a1_0 a1_1 a1_2 a1_3 = some (r1, r2)) ∧ Aside0 (kq ≤ k) ∧ Aside0 (Kd.R k32 32 wc w.heap.size (fun _ => True) v504 t503) ∧ Aside0 (wc.heap[gb501]? = some (.cells #[.int .i64 a0_0, .int .i64 a0_1] 25 (0, 0))) ∧ Aside0 (wc.heap[gb502]? = some (.cells #[.int .i64 a1_0, .int .i64 a1_1, .int .i64 a1_2, .int .i64 a1_3] 27 (0, 0))) ∧ Aside0 (Below w.heap.size w wc))
 case first =>
  have H := HC4.out
  clear HC4
  by_cases c10 : t506 = true
  ·subst c10
   have H1 : ((impl_WishOk.f a0_0 a0_1 a1_0 a1_1 a1_2 a1_3).bind fun t507 => (impl_meeting.j0 k t503 (!t507) a1_0 a1_1 a1_2 a1_3)) = some (r1, r2) := by rw [if_pos rfl] at H; exact H
   clear H
   have H := H1
   clear H1
   replace H := Option.bind_eq_some_iff.mp H
   obtain ⟨t507, A110, H⟩ := H
   replace H : (impl_meeting.j0 k t503 (!t507) a1_0 a1_1 a1_2 a1_3) = some (r1, r2) := H
   have A11 := Aside0.mk A110
   clear A110
   have H' := Aside0.mk H
   clear H
   have hnb12 := NB501_502.out
   have hnc12 := NB502_501.out
   obtain ⟨hcz13_0, hcz13_1⟩ := cz2_ BK501.out
   obtain ⟨hfz13_0, hfz13_1⟩ := fz2_ BK501.out
   obtain ⟨hcz14_0, hcz14_1, hcz14_2, hcz14_3⟩ := cz4_ BK502.out
   obtain ⟨hfz14_0, hfz14_1, hfz14_2, hfz14_3⟩ := fz4_ BK502.out
   go_wp2_with (first | (go_at_call 12; (with_reducible refine (impl_WishOk.calls a0_0 a0_1 a1_0 a1_1 a1_2 a1_3 t507 _ A11.out).mono ?_); rintro e w15 ⟨rfl, hb⟩; replace HO505 := HO505.kb hb; replace BK501 := BK501.bb hb; replace BK502 := BK502.bb hb; replace HB := HB.s2 GE501 GE502 hb; (try clear hb)))
   go_meet
   case rel => exact ⟨_, (!t507), (by first | rfl | (simp; done) | (simp [*]; done)), H', ⟨by first | omega | exact Nat.le_refl _⟩, ⟨kr_ HO505.out⟩, ⟨bk_ BK501.out⟩, ⟨bk_ BK502.out⟩, ⟨hb2_ HB.out GE501.out GE502.out⟩⟩
  ·replace c10 := Bool.eq_false_iff.mpr c10
   subst c10
   have H1 : (impl_meeting.j0 k t503 true a1_0 a1_1 a1_2 a1_3) = some (r1, r2) := by rw [if_neg (show ¬ (false = true) by decide)] at H; exact H
   clear H
   have H := H1
   clear H1
   have H' := Aside0.mk H
   clear H
   go_wp2
   go_meet
   case rel => exact ⟨_, (true), (by first | rfl | (simp; done) | (simp [*]; done)), H', ⟨by first | omega | exact Nat.le_refl _⟩, ⟨kr_ HO505.out⟩, ⟨bk_ BK501.out⟩, ⟨bk_ BK502.out⟩, ⟨hb2_ HB.out GE501.out GE502.out⟩⟩
 case rest =>
  clear HC4
  try clear c1
  try clear p2
  try clear c7
  try clear c10
  try clear c12
  try clear hcz13_0
  try clear hcz13_1
  try clear hcz14_0
  try clear hcz14_1
  try clear hcz14_2
  try clear hcz14_3
  try clear hcz8_0
  try clear hcz8_1
  try clear hfz13_0
  try clear hfz13_1
  try clear hfz14_0
  try clear hfz14_1
  try clear hfz14_2
  try clear hfz14_3
  try clear hfz8_0
  try clear hfz8_1
  obtain ⟨kq, x23_3, rfl, HA, HJ3, HO_6, BK501, BK502, HB⟩ := hcut
  cases kq with
  | zero => exact absurd HA.out (by simp [impl_meeting.j0])
  | succ kj3 =>
   have H := HA.out
   clear HA
   simp only [impl_meeting.j0] at H
   by_cases c16 : x23_3 = true
   ·subst c16
    have H1 : (some (([] : List (S32)), false)) = some (r1, r2) := by rw [if_pos rfl] at H; exact H
    clear H
    have H := H1
    clear H1
    simp only [Option.some.injEq, Prod.mk.injEq] at H
    obtain ⟨rfl, rfl⟩ := H
    go_wp2
    go_ret2
    exact ⟨_, ex_, by first | exact Kd.R_nil _ _ _ _ _ | exact Kd.N_nil _ _ _ _ _ | exact Kd.V_nil _ _ _ _ _ | exact Kd.Q_nil _ _ _ _ _ | exact Kd.S_nil _ _ _ _ _, hb2_ HB.out GE501.out GE502.out⟩
   ·replace c16 := Bool.eq_false_iff.mpr c16
    subst c16
    have H1 : (impl_meeting.l0 kj3 ([] : List (S32)) t503 (t503.length : Int) 0 a1_0 a1_1 a1_2 a1_3) = some (r1, r2) := by rw [if_neg (show ¬ (false = true) by decide)] at H; exact H
    clear H
    have H := H1
    clear H1
    have H' := Aside0.mk H
    clear H
    obtain ⟨Ao17, co17, eo17⟩ := Kd.R_slice HO_6.out
    subst eo17
    go_wp2
    go_loopg [8, 26] kj3 (fun kq v8 v26 w' => ∃ (x8_2 : List (S32)) (x26_2 : Int), v26 = .int .i64 x26_2 ∧ Aside0 (impl_meeting.l0 kq x8_2 t503 (t503.length : Int) x26_2 a1_0 a1_1 a1_2 a1_3 = some (r1, r2)) ∧ Aside0 (kq ≤ kj3) ∧ Aside0 (Kd.R k32 32 w' w.heap.size (fun k_ => some k_ ≠ ((.slice Ao17 t503.length co17) : Value).ownBlock) v8 x8_2) ∧ Aside0 (Kd.R k32 32 w' w.heap.size (fun k_ => some k_ ≠ (v8 : Value).ownBlock) (.slice Ao17 t503.length co17) t503) ∧ Aside0 (w'.heap[gb501]? = some (.cells #[.int .i64 a0_0, .int .i64 a0_1] 25 (0, 0))) ∧ Aside0 (w'.heap[gb502]? = some (.cells #[.int .i64 a1_0, .int .i64 a1_1, .int .i64 a1_2, .int .i64 a1_3] 27 (0, 0))) ∧ Aside0 (Below w.heap.size w w'))
    case atStart => exact ⟨(([] : List (S32))), (0), (by first | rfl | (simp; done) | (simp [*]; done)), H', ⟨Nat.le_refl _⟩, ⟨by first | exact Kd.R_nil _ _ _ _ _ | exact Kd.N_nil _ _ _ _ _ | exact Kd.V_nil _ _ _ _ _ | exact Kd.Q_nil _ _ _ _ _ | exact Kd.S_nil _ _ _ _ _⟩, ⟨by (with_reducible repeat (first | apply Kd.R_alloc | apply Kd.R_drewN | apply Kd.R_drew)); exact Kd.R_mono HO_6.out (fun _ hk => (by simp [Value.ownBlock]))⟩, ⟨bk_ BK501.out⟩, ⟨bk_ BK502.out⟩, ⟨hb2_ HB.out GE501.out GE502.out⟩⟩
    case round =>
     clear H'
     try clear c1
     try clear p2
     try clear c7
     try clear c10
     try clear c12
     try clear c16
     try clear c17
     try clear hcz13_0
     try clear hcz13_1
     try clear hcz14_0
     try clear hcz14_1
     try clear hcz14_2
     try clear hcz14_3
     try clear hcz8_0
     try clear hcz8_1
     try clear hfz13_0
     try clear hfz13_1
     try clear hfz14_0
     try clear hfz14_1
     try clear hfz14_2
     try clear hfz14_3
     try clear hfz8_0
     try clear hfz8_1
     try clear p2
     obtain ⟨x8_2, x26_2, rfl, HA, HK2, HO_8, HO_24, BK501, BK502, HB⟩ := hrel
     cases gk with
     | zero => exact absurd HA.out (by simp [impl_meeting.l0])
     | succ k2 =>
      have H := HA.out
      clear HA
      simp only [impl_meeting.l0] at H
      by_cases c18 : x26_2 < (t503.length : Int)
      ·rw [if_pos c18] at H
       have c18b0 : decide (x26_2 < (t503.length : Int)) = true := decide_eq_true c18
       clear c18
       by_cases c19 : 0 ≤ x26_2
       ·rw [if_pos c19] at H
        have c19b0 : decide (0 ≤ x26_2) = true := decide_eq_true c19
        clear c19
        by_cases c20 : x26_2 < (t503.length : Int)
        ·rw [if_pos c20] at H
         have c20b0 : decide (x26_2 < (t503.length : Int)) = true := decide_eq_true c20
         clear c20
         replace H := Option.bind_eq_some_iff.mp H
         obtain ⟨t510, A210, H⟩ := H
         replace H : (if t510 = true then (if x8_2.length < 5864062014805 then (impl_meeting.l0 k2 (x8_2 ++ [(⟨(⟨(rd_T32 t503 x26_2).f0.f0, (rd_T32 t503 x26_2).f0.f1⟩ : S25), (rd_T32 t503 x26_2).f1⟩ : S32)]) t503 (t503.length : Int) (wrap64 (x26_2 + 1)) a1_0 a1_1 a1_2 a1_3) else (none)) else (impl_meeting.l0 k2 x8_2 t503 (t503.length : Int) (wrap64 (x26_2 + 1)) a1_0 a1_1 a1_2 a1_3)) = some (r1, r2) := H
         have A21 := Aside0.mk A210
         clear A210
         by_cases c22 : t510 = true
         ·subst c22
          have H1 : (if x8_2.length < 5864062014805 then (impl_meeting.l0 k2 (x8_2 ++ [(⟨(⟨(rd_T32 t503 x26_2).f0.f0, (rd_T32 t503 x26_2).f0.f1⟩ : S25), (rd_T32 t503 x26_2).f1⟩ : S32)]) t503 (t503.length : Int) (wrap64 (x26_2 + 1)) a1_0 a1_1 a1_2 a1_3) else (none)) = some (r1, r2) := by rw [if_pos rfl] at H; exact H
          clear H
          have H := H1
          clear H1
          by_cases c23 : x8_2.length < 5864062014805
          ·rw [if_pos c23] at H
           have LMc23 := Aside0.mk c23
           clear c23
           obtain ⟨y511, hy511⟩ : ∃ y_ : List (S32), y_ = (x8_2 ++ [(⟨(⟨(rd_T32 t503 x26_2).f0.f0, (rd_T32 t503 x26_2).f0.f1⟩ : S25), (rd_T32 t503 x26_2).f1⟩ : S32)]) := ⟨_, rfl⟩
           replace H : (impl_meeting.l0 k2 y511 t503 (t503.length : Int) (wrap64 (x26_2 + 1)) a1_0 a1_1 a1_2 a1_3) = some (r1, r2) := by first | (rw [hy511]; with_reducible exact H) | (have H2_ := (Option.bind_some _ _).symm.trans H; rw [hy511]; with_reducible exact H2_) | (have H2_ := (Option.bind_some _ _).symm.trans H; with_reducible exact H2_) | with_reducible exact H | (rw [hy511]; exact H) | exact H
           have Ny511 := Aside0.mk hy511
           clear hy511
           have H' := Aside0.mk H
           clear H
           have p508 : 0 ≤ (x26_2 : Int) := of_decide_eq_true (as_)
           have q508 : x26_2 < (t503.length : Int) := of_decide_eq_true (as_)
           obtain ⟨ad508, e508, hx508_0, hx508_1, hx508_2⟩ := at_T32 (Kd.R_reads' HO_24.out).2.2 x26_2 p508 q508
           cases e508
           replace p508 := eq_true p508
           replace q508 := eq_true q508
           go_wp2_with (first | (refine box_ (N := 10) (cs := #[.int .i64 0, .int .i64 0, .int .i64 0]) (t := 32) ?_; intro gb509 hg w24 hbox hb; replace HO_8 := Aside0.mk (Kd.R_below (Kd.R_elderB (kr_ HO_8.out) gb509 (Nat.le_of_eq hg.symm)) hb); replace HO_24 := Aside0.mk (Kd.R_below (Kd.R_elderB (kr_ HO_24.out) gb509 (Nat.le_of_eq hg.symm)) hb); have BK509 := Aside0.mk (hbox); have GW509 := HB.g2 GE501 GE502 hg; have GE509 := HB.g2 GE501 GE502 hg; replace HB := HB.s2 GE501 GE502 hb; have NB501_509 := BK501.nl hg; have NB509_501 := BK501.nr hg; replace BK501 := BK501.bb hb; have NB502_509 := BK502.nl hg; have NB509_502 := BK502.nr hg; replace BK502 := BK502.bb hb; clear hb hbox hg; have hnb25 := NB509_501.out; have hnc25 := NB501_509.out; have hnb26 := NB509_502.out; have hnc26 := NB502_509.out; obtain ⟨hcz27_0, hcz27_1, hcz27_2⟩ := cz3_ BK509.out; obtain ⟨hfz27_0, hfz27_1, hfz27_2⟩ := fz3_ BK509.out; have hnb28 := NB502_501.out; have hnc28 := NB501_502.out; obtain ⟨hcz29_0, hcz29_1, hcz29_2, hcz29_3⟩ := cz4_ BK502.out; obtain ⟨hfz29_0, hfz29_1, hfz29_2, hfz29_3⟩ := fz4_ BK502.out) | (refine gl_ 32 Try.func9 #[.agg #[.int .i64 ((rd_T32 t503 x26_2).f0.f0), .int .i64 ((rd_T32 t503 x26_2).f0.f1), .int .i64 ((rd_T32 t503 x26_2).f1)], .agg #[.int .i64 a1_0, .int .i64 a1_1, .int .i64 a1_2, .int .i64 a1_3]] ?_; (with_reducible refine (impl_MeetsWish.calls k2 ((rd_T32 t503 x26_2).f0.f0) ((rd_T32 t503 x26_2).f0.f1) ((rd_T32 t503 x26_2).f1) a1_0 a1_1 a1_2 a1_3 true _ A21.out).mono ?_); rintro e w30 ⟨rfl, hb⟩; refine ⟨_, rfl, ?_⟩; replace HO_8 := Aside0.mk (Kd.R_below (by (with_reducible repeat (first | apply Kd.R_alloc | apply Kd.R_drewN | apply Kd.R_drew)); exact (Kd.R_mono (Kd.R_far (p := ⟨gb509, 2, none⟩) (Kd.R_far (p := ⟨gb509, 1, none⟩) (Kd.R_far (p := ⟨gb509, 0, none⟩) (Kd.R_mono HO_8.out (fun k_ hk => (⟨hk, hk.2⟩ : _ ∧ k_ ≠ gb509))) (fun _ hk => hk.2) (.int .i64 ((rd_T32 t503 x26_2).f0.f0))) (fun _ hk => hk.2) (.int .i64 ((rd_T32 t503 x26_2).f0.f1))) (fun _ hk => hk.2) (.int .i64 ((rd_T32 t503 x26_2).f1))) (fun _ h_ => h_.1))) hb); replace HO_24 := Aside0.mk (Kd.R_below (by (with_reducible repeat (first | apply Kd.R_alloc | apply Kd.R_drewN | apply Kd.R_drew)); exact (Kd.R_mono (Kd.R_far (p := ⟨gb509, 2, none⟩) (Kd.R_far (p := ⟨gb509, 1, none⟩) (Kd.R_far (p := ⟨gb509, 0, none⟩) (Kd.R_mono HO_24.out (fun k_ hk => (⟨hk, hk.2⟩ : _ ∧ k_ ≠ gb509))) (fun _ hk => hk.2) (.int .i64 ((rd_T32 t503 x26_2).f0.f0))) (fun _ hk => hk.2) (.int .i64 ((rd_T32 t503 x26_2).f0.f1))) (fun _ hk => hk.2) (.int .i64 ((rd_T32 t503 x26_2).f1))) (fun _ h_ => h_.1))) hb); replace BK501 := Aside0.mk (blk_below (g := gb501) (o := .cells #[.int .i64 a0_0, .int .i64 a0_1] 25 (0, 0)) (by (with_reducible repeat (first | refine blk_drewN ?_ _ | refine blk_drew ?_ | refine blk_alloc ?_ _)); refine blk_far ?_ NB501_509.out _; (with_reducible repeat (first | refine blk_drewN ?_ _ | refine blk_drew ?_ | refine blk_alloc ?_ _)); refine blk_far ?_ NB501_509.out _; (with_reducible repeat (first | refine blk_drewN ?_ _ | refine blk_drew ?_ | refine blk_alloc ?_ _)); refine blk_far ?_ NB501_509.out _; (with_reducible repeat (first | refine blk_drewN ?_ _ | refine blk_drew ?_ | refine blk_alloc ?_ _)); exact BK501.out) hb); replace BK502 := Aside0.mk (blk_below (g := gb502) (o := .cells #[.int .i64 a1_0, .int .i64 a1_1, .int .i64 a1_2, .int .i64 a1_3] 27 (0, 0)) (by (with_reducible repeat (first | refine blk_drewN ?_ _ | refine blk_drew ?_ | refine blk_alloc ?_ _)); refine blk_far ?_ NB502_509.out _; (with_reducible repeat (first | refine blk_drewN ?_ _ | refine blk_drew ?_ | refine blk_alloc ?_ _)); refine blk_far ?_ NB502_509.out _; (with_reducible repeat (first | refine blk_drewN ?_ _ | refine blk_drew ?_ | refine blk_alloc ?_ _)); refine blk_far ?_ NB502_509.out _; (with_reducible repeat (first | refine blk_drewN ?_ _ | refine blk_drew ?_ | refine blk_alloc ?_ _)); exact BK502.out) hb); replace BK509 := Aside0.mk (blk_below (bq3_ BK509.out) hb); replace HB := HB.s3 GE501 GE502 GE509 hb; (try clear hb); obtain ⟨hcz31_0, hcz31_1, hcz31_2⟩ := cz3_ BK509.out; obtain ⟨hfz31_0, hfz31_1, hfz31_2⟩ := fz3_ BK509.out) | ((with_reducible refine gate_builtin (b := .append) (xs := #[.tmp 33, .tmp 35]) rfl ?_); at_builtin; refine Kd.R_append k32 (w0 := w) w.heap.size rfl (.tmp 33) (.tmp 35) 44 32 (.agg #[(.int .i64 0), (.int .i64 0), (.int .i64 0)]) 24 rfl Try.underlying44 info32 rfl (by decide) (by omega) u8 x8_2 (⟨(⟨(rd_T32 t503 x26_2).f0.f0, (rd_T32 t503 x26_2).f0.f1⟩ : S25), (rd_T32 t503 x26_2).f1⟩ : S32) [.int .i64 ((rd_T32 t503 x26_2).f0.f0), .int .i64 ((rd_T32 t503 x26_2).f0.f1), .int .i64 ((rd_T32 t503 x26_2).f1)] (fun k_ => some k_ ≠ (.slice (some ad508) t503.length co17 : Value).ownBlock ∧ k_ ≠ gb509) (fun _ => False) rfl rfl ?aP (fun _ hk => hk.elim) ?aF ?aO ?aB ?aS ?aL ?_; (case aP => exact k32_mkM _ _ _ (⟨(⟨(rd_T32 t503 x26_2).f0.f0, (rd_T32 t503 x26_2).f0.f1⟩ : S25), (rd_T32 t503 x26_2).f1⟩ : S32)); (case aB => exact (hb3_ HB.out GE501.out GE502.out GE509.out)); (case aF => exact (fun k_ hk => ⟨Kd.fresh' (Kd.R_lt (kr_ HO_24.out)) k_ hk, Kd.freshB (g := gb509) (o := .cells #[.int .i64 ((rd_T32 t503 x26_2).f0.f0), .int .i64 ((rd_T32 t503 x26_2).f0.f1), .int .i64 ((rd_T32 t503 x26_2).f1)] 32 (0, 0)) (bk_ BK509.out) k_ hk⟩)); (case aO => exact (kr_ HO_8.out)); (case aS => exact (below_size (hb3_ HB.out GE501.out GE502.out GE509.out))); (case aL => have := LMc23.out; omega); intro v512 w32 ho hb hg hat; rw [← Ny511.out] at ho; replace HO_24 := Aside0.mk (Kd.R_after (ok := (fun k_ => k_ ≠ gb509)) (by (with_reducible repeat (first | apply Kd.R_alloc | apply Kd.R_drewN | apply Kd.R_drew)); exact Kd.R_mono HO_24.out (fun _ hk => ⟨hk.2, hk.1⟩)) hg hat); replace BK501 := Aside0.mk (blk_grown (g := gb501) (o := .cells #[.int .i64 a0_0, .int .i64 a0_1] 25 (0, 0)) (bk_ BK501.out) hg (Kd.R_ne HO_8.out BK501.out (by decide))); replace BK502 := Aside0.mk (blk_grown (g := gb502) (o := .cells #[.int .i64 a1_0, .int .i64 a1_1, .int .i64 a1_2, .int .i64 a1_3] 27 (0, 0)) (bk_ BK502.out) hg (Kd.R_ne HO_8.out BK502.out (by decide))); replace BK509 := Aside0.mk (blk_grown (g := gb509) (o := .cells #[.int .i64 ((rd_T32 t503 x26_2).f0.f0), .int .i64 ((rd_T32 t503 x26_2).f0.f1), .int .i64 ((rd_T32 t503 x26_2).f1)] 32 (0, 0)) (bk_ BK509.out) hg (Kd.R_away HO_8.out (fun _ hk => hk.2))); replace HB := Aside0.mk (hb); have HO513 := Aside0.mk (ho); clear HO_8; clear ho hb hg hat))
           go_roundg k2
           case measure => have := HJ3.out; have := HK2.out; omega
           case rel => exact ⟨(y511), (wrap64 (x26_2 + 1)), (by first | rfl | (simp; done) | (simp [*]; done)), H', ⟨by have := HJ3.out; have := HK2.out; omega⟩, ⟨by (with_reducible repeat (first | apply Kd.R_alloc | apply Kd.R_drewN | apply Kd.R_drew)); exact Kd.R_mono HO513.out (fun _ hk => hk.1)⟩, ⟨by (with_reducible repeat (first | apply Kd.R_alloc | apply Kd.R_drewN | apply Kd.R_drew)); exact Kd.R_mono HO_24.out (fun _ hk => hk.2)⟩, ⟨bk_ BK501.out⟩, ⟨bk_ BK502.out⟩, ⟨hb3_ HB.out GE501.out GE502.out GE509.out⟩⟩
          ·rw [if_neg c23] at H
           exact absurd H (by simp)
         ·replace c22 := Bool.eq_false_iff.mpr c22
          subst c22
          have H1 : (impl_meeting.l0 k2 x8_2 t503 (t503.length : Int) (wrap64 (x26_2 + 1)) a1_0 a1_1 a1_2 a1_3) = some (r1, r2) := by rw [if_neg (show ¬ (false = true) by decide)] at H; exact H
          clear H
          have H := H1
          clear H1
          have H' := Aside0.mk H
          clear H
          have p508 : 0 ≤ (x26_2 : Int) := of_decide_eq_true (as_)
          have q508 : x26_2 < (t503.length : Int) := of_decide_eq_true (as_)
          obtain ⟨ad508, e508, hx508_0, hx508_1, hx508_2⟩ := at_T32 (Kd.R_reads' HO_24.out).2.2 x26_2 p508 q508
          cases e508
          replace p508 := eq_true p508
          replace q508 := eq_true q508
          go_wp2_with (first | (refine box_ (N := 10) (cs := #[.int .i64 0, .int .i64 0, .int .i64 0]) (t := 32) ?_; intro gb509 hg w33 hbox hb; replace HO_8 := Aside0.mk (Kd.R_below (Kd.R_elderB (kr_ HO_8.out) gb509 (Nat.le_of_eq hg.symm)) hb); replace HO_24 := Aside0.mk (Kd.R_below (Kd.R_elderB (kr_ HO_24.out) gb509 (Nat.le_of_eq hg.symm)) hb); have BK509 := Aside0.mk (hbox); have GW509 := HB.g2 GE501 GE502 hg; have GE509 := HB.g2 GE501 GE502 hg; replace HB := HB.s2 GE501 GE502 hb; have NB501_509 := BK501.nl hg; have NB509_501 := BK501.nr hg; replace BK501 := BK501.bb hb; have NB502_509 := BK502.nl hg; have NB509_502 := BK502.nr hg; replace BK502 := BK502.bb hb; clear hb hbox hg; have hnb34 := NB509_501.out; have hnc34 := NB501_509.out; have hnb35 := NB509_502.out; have hnc35 := NB502_509.out; obtain ⟨hcz36_0, hcz36_1, hcz36_2⟩ := cz3_ BK509.out; obtain ⟨hfz36_0, hfz36_1, hfz36_2⟩ := fz3_ BK509.out; have hnb37 := NB502_501.out; have hnc37 := NB501_502.out; obtain ⟨hcz38_0, hcz38_1, hcz38_2, hcz38_3⟩ := cz4_ BK502.out; obtain ⟨hfz38_0, hfz38_1, hfz38_2, hfz38_3⟩ := fz4_ BK502.out) | (refine gl_ 32 Try.func9 #[.agg #[.int .i64 ((rd_T32 t503 x26_2).f0.f0), .int .i64 ((rd_T32 t503 x26_2).f0.f1), .int .i64 ((rd_T32 t503 x26_2).f1)], .agg #[.int .i64 a1_0, .int .i64 a1_1, .int .i64 a1_2, .int .i64 a1_3]] ?_; (with_reducible refine (impl_MeetsWish.calls k2 ((rd_T32 t503 x26_2).f0.f0) ((rd_T32 t503 x26_2).f0.f1) ((rd_T32 t503 x26_2).f1) a1_0 a1_1 a1_2 a1_3 false _ A21.out).mono ?_); rintro e w39 ⟨rfl, hb⟩; refine ⟨_, rfl, ?_⟩; replace HO_8 := Aside0.mk (Kd.R_below (by (with_reducible repeat (first | apply Kd.R_alloc | apply Kd.R_drewN | apply Kd.R_drew)); exact (Kd.R_mono (Kd.R_far (p := ⟨gb509, 2, none⟩) (Kd.R_far (p := ⟨gb509, 1, none⟩) (Kd.R_far (p := ⟨gb509, 0, none⟩) (Kd.R_mono HO_8.out (fun k_ hk => (⟨hk, hk.2⟩ : _ ∧ k_ ≠ gb509))) (fun _ hk => hk.2) (.int .i64 ((rd_T32 t503 x26_2).f0.f0))) (fun _ hk => hk.2) (.int .i64 ((rd_T32 t503 x26_2).f0.f1))) (fun _ hk => hk.2) (.int .i64 ((rd_T32 t503 x26_2).f1))) (fun _ h_ => h_.1))) hb); replace HO_24 := Aside0.mk (Kd.R_below (by (with_reducible repeat (first | apply Kd.R_alloc | apply Kd.R_drewN | apply Kd.R_drew)); exact (Kd.R_mono (Kd.R_far (p := ⟨gb509, 2, none⟩) (Kd.R_far (p := ⟨gb509, 1, none⟩) (Kd.R_far (p := ⟨gb509, 0, none⟩) (Kd.R_mono HO_24.out (fun k_ hk => (⟨hk, hk.2⟩ : _ ∧ k_ ≠ gb509))) (fun _ hk => hk.2) (.int .i64 ((rd_T32 t503 x26_2).f0.f0))) (fun _ hk => hk.2) (.int .i64 ((rd_T32 t503 x26_2).f0.f1))) (fun _ hk => hk.2) (.int .i64 ((rd_T32 t503 x26_2).f1))) (fun _ h_ => h_.1))) hb); replace BK501 := Aside0.mk (blk_below (g := gb501) (o := .cells #[.int .i64 a0_0, .int .i64 a0_1] 25 (0, 0)) (by (with_reducible repeat (first | refine blk_drewN ?_ _ | refine blk_drew ?_ | refine blk_alloc ?_ _)); refine blk_far ?_ NB501_509.out _; (with_reducible repeat (first | refine blk_drewN ?_ _ | refine blk_drew ?_ | refine blk_alloc ?_ _)); refine blk_far ?_ NB501_509.out _; (with_reducible repeat (first | refine blk_drewN ?_ _ | refine blk_drew ?_ | refine blk_alloc ?_ _)); refine blk_far ?_ NB501_509.out _; (with_reducible repeat (first | refine blk_drewN ?_ _ | refine blk_drew ?_ | refine blk_alloc ?_ _)); exact BK501.out) hb); replace BK502 := Aside0.mk (blk_below (g := gb502) (o := .cells #[.int .i64 a1_0, .int .i64 a1_1, .int .i64 a1_2, .int .i64 a1_3] 27 (0, 0)) (by (with_reducible repeat (first | refine blk_drewN ?_ _ | refine blk_drew ?_ | refine blk_alloc ?_ _)); refine blk_far ?_ NB502_509.out _; (with_reducible repeat (first | refine blk_drewN ?_ _ | refine blk_drew ?_ | refine blk_alloc ?_ _)); refine blk_far ?_ NB502_509.out _; (with_reducible repeat (first | refine blk_drewN ?_ _ | refine blk_drew ?_ | refine blk_alloc ?_ _)); refine blk_far ?_ NB502_509.out _; (with_reducible repeat (first | refine blk_drewN ?_ _ | refine blk_drew ?_ | refine blk_alloc ?_ _)); exact BK502.out) hb); replace BK509 := Aside0.mk (blk_below (bq3_ BK509.out) hb); replace HB := HB.s3 GE501 GE502 GE509 hb; (try clear hb)))
          go_roundg k2
          case measure => have := HJ3.out; have := HK2.out; omega
          case rel => exact ⟨(x8_2), (wrap64 (x26_2 + 1)), (by first | rfl | (simp; done) | (simp [*]; done)), H', ⟨by have := HJ3.out; have := HK2.out; omega⟩, ⟨by (with_reducible repeat (first | apply Kd.R_alloc | apply Kd.R_drewN | apply Kd.R_drew)); exact Kd.R_mono HO_8.out (fun _ hk => hk.1)⟩, ⟨by (with_reducible repeat (first | apply Kd.R_alloc | apply Kd.R_drewN | apply Kd.R_drew)); exact Kd.R_mono HO_24.out (fun _ hk => hk.1)⟩, ⟨bk_ BK501.out⟩, ⟨bk_ BK502.out⟩, ⟨hb3_ HB.out GE501.out GE502.out GE509.out⟩⟩
        ·rw [if_neg c20] at H
         exact absurd H (by simp)
       ·rw [if_neg c19] at H
        exact absurd H (by simp)
      ·rw [if_neg c18] at H
       have c18b0 : decide (x26_2 < (t503.length : Int)) = false := decide_eq_false c18
       clear c18
       simp only [Option.some.injEq, Prod.mk.injEq] at H
       obtain ⟨rfl, rfl⟩ := H
       go_wp2
       go_ret2
       exact ⟨_, ex_, by (with_reducible repeat (first | apply Kd.R_alloc | apply Kd.R_drewN | apply Kd.R_drew)); exact Kd.R_mono HO_8.out (fun _ hk => trivial), hb2_ HB.out GE501.out GE502.out⟩

end Go.Proofs.Ytnfclfpicemojaa.X
