-- Written by a program of this session (xprint.py), out of the translation and of hand-written contracts. Lean checks it.
import Derived.Test.YtnfclfpicemojaaX0
import Derived.Test.YtnfclfpicemojaaXcmaze
import Derived.Test.YtnfclfpicemojaaXcnbr
namespace Go.Proofs.Ytnfclfpicemojaa.X
open Go.RowKit Go.Proofs.YtnfclfpicemojaaW.PrintWords Go.Proofs.YtnfclfpicemojaaW.PrintLast Go.Proofs.YtnfclfpicemojaaW.PrintMore
attribute [local go_sem] max2_int min2_int max_two min_two max_three min_three max_four min_four   -- for this text's walks alone
set_option linter.unusedVariables false
set_option linter.unusedSimpArgs false

/-! ### impl_Step: function 41 -/
def impl_Step.f (k : Nat) (a0_0 : Int) (a0_1 : Int) (a0_2 : Int) (a1 : Int) (a2 : Int) : Option (Int) := (impl_MazeOk.f a0_0 a0_1 a0_2).bind fun t502 => (if t502 = true then ((impl_GapAt.f k a0_0 a0_1 a1 a2).bind fun t503 => ((impl_isOpen.f a0_0 a0_1 a0_2 t503).bind fun t504 => (if t504 = true then ((impl_Neighbor.f k a0_0 a0_1 a1 a2).bind fun t505 => (some t505)) else (some (-1))))) else (some (-1)))
theorem impl_Step.mono : ∀ a0 a1 a2 a3 a4 k, LeO (impl_Step.f k a0 a1 a2 a3 a4) (impl_Step.f (k + 1) a0 a1 a2 a3 a4) := by
 intro a0 a1 a2 a3 a4 k
 unfold impl_Step.f
 repeat' first
   | (with_reducible exact impl_GapAt.mono ..)
   | (with_reducible exact impl_Neighbor.mono ..)
   | (with_reducible first | exact lr_ _ | exact ln_ _ | refine li_ ?_ ?_ | refine lb_ ?_ fun _ => ?_)
   | exact impl_GapAt.mono ..
   | exact impl_Neighbor.mono ..
   | exact ln_ _ | refine li_ ?_ ?_ | refine lb_ ?_ fun _ => ?_
def impl_Step.T1 : Bool × List (List Nat × List Nat) := (true, [([], []), ([0], [0]), ([1], [1]), ([2, 1], [2]), ([3], [3]), ([3], [3]), ([5, 3], [3, 5]), ([3], [3]), ([3], [3]), ([6, 7, 8, 3, 3], [3, 6, 7, 8]), ([4, 9, 9, 3], [3, 4, 9]), ([10, 3], [3, 10]), ([3, 11], [3, 11])])
def impl_Step.B1 : List Nat := [0, 1, 3, 7, 15, 15, 47, 15, 15, 495, 1023, 2047, 4095]
theorem impl_Step.tab1 : rtab .any (opsOf Try.f41 1) = impl_Step.T1 := by kernel_rfl
theorem impl_Step.bits1 : waitsOk impl_Step.T1.2 impl_Step.B1 = true := by kernel_rfl
set_option maxHeartbeats 8000000 in
set_option maxRecDepth 100000 in
theorem impl_Step.calls (k : Nat) (a0_0 : Int) (a0_1 : Int) (a0_2 : Int) (a1 : Int) (a2 : Int) (r : Int) (w : World) (h : impl_Step.f k a0_0 a0_1 a0_2 a1 a2 = some r) :
  Calls Try.prog 41 #[.agg #[.int .i64 a0_0, .int .i64 a0_1, .int .i64 a0_2], .int .i64 a1, .int .i64 a2] w fun e w' => e = .returned (.int .i64 r) ∧ Below w.heap.size w w' := by
 have hu32 := Try.underlying32
 have hu25 := Try.underlying25
 have HB := Aside0.mk (Below.refl w.heap.size w)
 have H : ((impl_MazeOk.f a0_0 a0_1 a0_2).bind fun t502 => (if t502 = true then ((impl_GapAt.f k a0_0 a0_1 a1 a2).bind fun t503 => ((impl_isOpen.f a0_0 a0_1 a0_2 t503).bind fun t504 => (if t504 = true then ((impl_Neighbor.f k a0_0 a0_1 a1 a2).bind fun t505 => (some t505)) else (some (-1))))) else (some (-1)))) = some r := h
 clear h
 replace H := Option.bind_eq_some_iff.mp H
 obtain ⟨t502, A40, H⟩ := H
 replace H : (if t502 = true then ((impl_GapAt.f k a0_0 a0_1 a1 a2).bind fun t503 => ((impl_isOpen.f a0_0 a0_1 a0_2 t503).bind fun t504 => (if t504 = true then ((impl_Neighbor.f k a0_0 a0_1 a1 a2).bind fun t505 => (some t505)) else (some (-1))))) else (some (-1))) = some r := H
 have A4 := Aside0.mk A40
 clear A40
 by_cases c5 : t502 = true
 ·subst c5
  have H1 : ((impl_GapAt.f k a0_0 a0_1 a1 a2).bind fun t503 => ((impl_isOpen.f a0_0 a0_1 a0_2 t503).bind fun t504 => (if t504 = true then ((impl_Neighbor.f k a0_0 a0_1 a1 a2).bind fun t505 => (some t505)) else (some (-1))))) = some r := by rw [if_pos rfl] at H; exact H
  clear H
  have H := H1
  clear H1
  replace H := Option.bind_eq_some_iff.mp H
  obtain ⟨t503, A60, H⟩ := H
  replace H : ((impl_isOpen.f a0_0 a0_1 a0_2 t503).bind fun t504 => (if t504 = true then ((impl_Neighbor.f k a0_0 a0_1 a1 a2).bind fun t505 => (some t505)) else (some (-1)))) = some r := H
  have A6 := Aside0.mk A60
  clear A60
  replace H := Option.bind_eq_some_iff.mp H
  obtain ⟨t504, A70, H⟩ := H
  replace H : (if t504 = true then ((impl_Neighbor.f k a0_0 a0_1 a1 a2).bind fun t505 => (some t505)) else (some (-1))) = some r := H
  have A7 := Aside0.mk A70
  clear A70
  by_cases c8 : t504 = true
  ·subst c8
   have H1 : ((impl_Neighbor.f k a0_0 a0_1 a1 a2).bind fun t505 => (some t505)) = some r := by rw [if_pos rfl] at H; exact H
   clear H
   have H := H1
   clear H1
   replace H := Option.bind_eq_some_iff.mp H
   obtain ⟨t505, A90, H⟩ := H
   replace H : (some t505) = some r := H
   have A9 := Aside0.mk A90
   clear A90
   obtain rfl := Option.some.inj H
   go_enter Try.func41, Try.ntmps41
   try go_wp2_with (first | (refine box_ (N := 3) (cs := #[.int .i64 a0_0, .int .i64 a0_1, .int .i64 a0_2]) (t := 32) ?_; intro gb501 hg w10 hbox hb; have BK501 := Aside0.mk (hbox); have GW501 := HB.g0 hg; have GE501 := HB.g0 hg; replace HB := HB.s0 hb; clear hb hbox hg))
   replace BK501 := Aside0.mk (blk_drew BK501.out)
   replace HB := Aside0.mk (below_drew1 HB.out)
   refine start_ (n := 13) (S := fun w' => w'.cell? ⟨gb501, 0, none⟩ = some (.int .i64 a0_0) ∧ w'.cell? ⟨gb501, 1, none⟩ = some (.int .i64 a0_1) ∧ w'.cell? ⟨gb501, 2, none⟩ = some (.int .i64 a0_2)) (ds := []) #[false, false, false, false, false, false, false, false, false, false, false, false, false] (by kernel_rfl) rfl rfl ⟨BK501.c 0, BK501.c 1, BK501.c 2⟩ (fun hHeld => ?_); refine with_tabW impl_Step.tab1 impl_Step.bits1 (fun HT_ HW_ => ?_)
   generalize w10.drew = w11 at BK501 HB hHeld ⊢
   refine tv3_ (i := 0) (N := some 7) HT_.out HW_.out hHeld ?_
   refine ov_ (i := 1) (N := some 8) HT_.out (fun K hK => ?_)
   refine gq_ Try.func36 #[.agg #[.int .i64 a0_0, .int .i64 a0_1, .int .i64 a0_2]] ?_
   with_reducible refine (impl_MazeOk.calls a0_0 a0_1 a0_2 true _ A4.out).mono ?_
   rintro e w12 ⟨rfl, hb⟩
   refine ⟨_, rfl, ?_⟩
   replace BK501 := BK501.bb hb
   replace HB := HB.s1 GE501 hb
   skip
   (try clear hb2)
   (try clear hk)
   (try clear hi)
   refine hK.out _ _ ⟨BK501.c 0, BK501.c 1, BK501.c 2⟩ (fun hHeld => ?_)
   clear hK K
   refine nm_ ?_
   refine pv_ (i := 2) (N := some 9) HT_.out ?_
   refine pv_ (i := 3) (N := some 10) HT_.out ?_
   refine pv_ (i := 5) (N := some 12) HT_.out ?_
   refine pv_ (i := 7) (N := some 14) HT_.out ?_
   refine pv_ (i := 8) (N := some 15) HT_.out ?_
   refine tv3_ (i := 4) (N := some 11) HT_.out HW_.out hHeld ?_
   refine tv3_ (i := 6) (N := some 13) HT_.out HW_.out hHeld ?_
   refine ov_ (i := 9) (N := some 16) HT_.out (fun K hK => ?_)
   refine gq_ Try.func56 #[.agg #[.int .i64 a0_0, .int .i64 a0_1], .int .i64 a1, .int .i64 a2] ?_
   with_reducible refine (impl_GapAt.calls k a0_0 a0_1 a1 a2 t503 _ A6.out).mono ?_
   rintro e w13 ⟨rfl, hb⟩
   refine ⟨_, rfl, ?_⟩
   replace BK501 := BK501.bb hb
   replace HB := HB.s1 GE501 hb
   skip
   (try clear hb2)
   (try clear hk)
   (try clear hi)
   refine hK.out _ _ ⟨BK501.c 0, BK501.c 1, BK501.c 2⟩ (fun hHeld => ?_)
   clear hK K
   refine nm_ ?_
   refine ov_ (i := 10) (N := some 17) HT_.out (fun K hK => ?_)
   refine gq_ Try.func55 #[.agg #[.int .i64 a0_0, .int .i64 a0_1, .int .i64 a0_2], .int .i64 t503] ?_
   with_reducible refine (impl_isOpen.calls a0_0 a0_1 a0_2 t503 true _ A7.out).mono ?_
   rintro e w14 ⟨rfl, hb⟩
   refine ⟨_, rfl, ?_⟩
   replace BK501 := BK501.bb hb
   replace HB := HB.s1 GE501 hb
   skip
   (try clear hb2)
   (try clear hk)
   (try clear hi)
   refine hK.out _ _ ⟨BK501.c 0, BK501.c 1, BK501.c 2⟩ (fun hHeld => ?_)
   clear hK K
   refine nm_ ?_
   refine pv_ (i := 11) (N := some 18) HT_.out ?_
   refine pv_ (i := 12) (N := some 19) HT_.out ?_
   refine done_ (done_of HT_.out (by kernel_rfl)) ?_
   obtain ⟨hcz15_0, hcz15_1, hcz15_2⟩ := cz3_ BK501.out
   obtain ⟨hfz15_0, hfz15_1, hfz15_2⟩ := fz3_ BK501.out
   try go_wp2_with (first | (refine gl_ 24 Try.func57 #[.agg #[.int .i64 a0_0, .int .i64 a0_1], .int .i64 a1, .int .i64 a2] ?_; (with_reducible refine (impl_Neighbor.calls k a0_0 a0_1 a1 a2 t505 _ A9.out).mono ?_); rintro e w16 ⟨rfl, hb⟩; refine ⟨_, rfl, ?_⟩; replace BK501 := BK501.bb hb; replace HB := HB.s1 GE501 hb; (try clear hb)))
   go_ret
   exact ⟨ex_, hb1_ HB.out GE501.out⟩
  ·replace c8 := Bool.eq_false_iff.mpr c8
   subst c8
   have H1 : (some (-1)) = some r := by rw [if_neg (show ¬ (false = true) by decide)] at H; exact H
   clear H
   have H := H1
   clear H1
   obtain rfl := Option.some.inj H
   go_enter Try.func41, Try.ntmps41
   try go_wp2_with (first | (refine box_ (N := 3) (cs := #[.int .i64 a0_0, .int .i64 a0_1, .int .i64 a0_2]) (t := 32) ?_; intro gb501 hg w17 hbox hb; have BK501 := Aside0.mk (hbox); have GW501 := HB.g0 hg; have GE501 := HB.g0 hg; replace HB := HB.s0 hb; clear hb hbox hg))
   replace BK501 := Aside0.mk (blk_drew BK501.out)
   replace HB := Aside0.mk (below_drew1 HB.out)
   refine start_ (n := 13) (S := fun w' => w'.cell? ⟨gb501, 0, none⟩ = some (.int .i64 a0_0) ∧ w'.cell? ⟨gb501, 1, none⟩ = some (.int .i64 a0_1) ∧ w'.cell? ⟨gb501, 2, none⟩ = some (.int .i64 a0_2)) (ds := []) #[false, false, false, false, false, false, false, false, false, false, false, false, false] (by kernel_rfl) rfl rfl ⟨BK501.c 0, BK501.c 1, BK501.c 2⟩ (fun hHeld => ?_); refine with_tabW impl_Step.tab1 impl_Step.bits1 (fun HT_ HW_ => ?_)
   generalize w17.drew = w18 at BK501 HB hHeld ⊢
   refine tv3_ (i := 0) (N := some 7) HT_.out HW_.out hHeld ?_
   refine ov_ (i := 1) (N := some 8) HT_.out (fun K hK => ?_)
   refine gq_ Try.func36 #[.agg #[.int .i64 a0_0, .int .i64 a0_1, .int .i64 a0_2]] ?_
   with_reducible refine (impl_MazeOk.calls a0_0 a0_1 a0_2 true _ A4.out).mono ?_
   rintro e w19 ⟨rfl, hb⟩
   refine ⟨_, rfl, ?_⟩
   replace BK501 := BK501.bb hb
   replace HB := HB.s1 GE501 hb
   skip
   (try clear hb2)
   (try clear hk)
   (try clear hi)
   refine hK.out _ _ ⟨BK501.c 0, BK501.c 1, BK501.c 2⟩ (fun hHeld => ?_)
   clear hK K
   refine nm_ ?_
   refine pv_ (i := 2) (N := some 9) HT_.out ?_
   refine pv_ (i := 3) (N := some 10) HT_.out ?_
   refine pv_ (i := 5) (N := some 12) HT_.out ?_
   refine pv_ (i := 7) (N := some 14) HT_.out ?_
   refine pv_ (i := 8) (N := some 15) HT_.out ?_
   refine tv3_ (i := 4) (N := some 11) HT_.out HW_.out hHeld ?_
   refine tv3_ (i := 6) (N := some 13) HT_.out HW_.out hHeld ?_
   refine ov_ (i := 9) (N := some 16) HT_.out (fun K hK => ?_)
   refine gq_ Try.func56 #[.agg #[.int .i64 a0_0, .int .i64 a0_1], .int .i64 a1, .int .i64 a2] ?_
   with_reducible refine (impl_GapAt.calls k a0_0 a0_1 a1 a2 t503 _ A6.out).mono ?_
   rintro e w20 ⟨rfl, hb⟩
   refine ⟨_, rfl, ?_⟩
   replace BK501 := BK501.bb hb
   replace HB := HB.s1 GE501 hb
   skip
   (try clear hb2)
   (try clear hk)
   (try clear hi)
   refine hK.out _ _ ⟨BK501.c 0, BK501.c 1, BK501.c 2⟩ (fun hHeld => ?_)
   clear hK K
   refine nm_ ?_
   refine ov_ (i := 10) (N := some 17) HT_.out (fun K hK => ?_)
   refine gq_ Try.func55 #[.agg #[.int .i64 a0_0, .int .i64 a0_1, .int .i64 a0_2], .int .i64 t503] ?_
   with_reducible refine (impl_isOpen.calls a0_0 a0_1 a0_2 t503 false _ A7.out).mono ?_
   rintro e w21 ⟨rfl, hb⟩
   refine ⟨_, rfl, ?_⟩
   replace BK501 := BK501.bb hb
   replace HB := HB.s1 GE501 hb
   skip
   (try clear hb2)
   (try clear hk)
   (try clear hi)
   refine hK.out _ _ ⟨BK501.c 0, BK501.c 1, BK501.c 2⟩ (fun hHeld => ?_)
   clear hK K
   refine nm_ ?_
   refine pv_ (i := 11) (N := some 18) HT_.out ?_
   refine pv_ (i := 12) (N := some 19) HT_.out ?_
   refine done_ (done_of HT_.out (by kernel_rfl)) ?_
   try go_wp2
   go_ret
   exact ⟨ex_, hb1_ HB.out GE501.out⟩
 ·replace c5 := Bool.eq_false_iff.mpr c5
  subst c5
  have H1 : (some (-1)) = some r := by rw [if_neg (show ¬ (false = true) by decide)] at H; exact H
  clear H
  have H := H1
  clear H1
  obtain rfl := Option.some.inj H
  go_enter Try.func41, Try.ntmps41
  try go_wp2_with (first | (refine box_ (N := 3) (cs := #[.int .i64 a0_0, .int .i64 a0_1, .int .i64 a0_2]) (t := 32) ?_; intro gb501 hg w22 hbox hb; have BK501 := Aside0.mk (hbox); have GW501 := HB.g0 hg; have GE501 := HB.g0 hg; replace HB := HB.s0 hb; clear hb hbox hg))
  replace BK501 := Aside0.mk (blk_drew BK501.out)
  replace HB := Aside0.mk (below_drew1 HB.out)
  refine start_ (n := 13) (S := fun w' => w'.cell? ⟨gb501, 0, none⟩ = some (.int .i64 a0_0) ∧ w'.cell? ⟨gb501, 1, none⟩ = some (.int .i64 a0_1) ∧ w'.cell? ⟨gb501, 2, none⟩ = some (.int .i64 a0_2)) (ds := []) #[false, false, false, false, false, false, false, false, false, false, false, false, false] (by kernel_rfl) rfl rfl ⟨BK501.c 0, BK501.c 1, BK501.c 2⟩ (fun hHeld => ?_); refine with_tabW impl_Step.tab1 impl_Step.bits1 (fun HT_ HW_ => ?_)
  generalize w22.drew = w23 at BK501 HB hHeld ⊢
  refine tv3_ (i := 0) (N := some 7) HT_.out HW_.out hHeld ?_
  refine ov_ (i := 1) (N := some 8) HT_.out (fun K hK => ?_)
  refine gq_ Try.func36 #[.agg #[.int .i64 a0_0, .int .i64 a0_1, .int .i64 a0_2]] ?_
  with_reducible refine (impl_MazeOk.calls a0_0 a0_1 a0_2 false _ A4.out).mono ?_
  rintro e w24 ⟨rfl, hb⟩
  refine ⟨_, rfl, ?_⟩
  replace BK501 := BK501.bb hb
  replace HB := HB.s1 GE501 hb
  skip
  (try clear hb2)
  (try clear hk)
  (try clear hi)
  refine hK.out _ _ ⟨BK501.c 0, BK501.c 1, BK501.c 2⟩ (fun hHeld => ?_)
  clear hK K
  refine nm_ ?_
  refine pv_ (i := 2) (N := some 9) HT_.out ?_
  refine pv_ (i := 3) (N := some 10) HT_.out ?_
  refine pu_ (i := 4) (N := some 11) HT_.out ?_
  refine pu_ (i := 5) (N := some 12) HT_.out ?_
  refine pu_ (i := 6) (N := some 13) HT_.out ?_
  refine pu_ (i := 7) (N := some 14) HT_.out ?_
  refine pu_ (i := 8) (N := some 15) HT_.out ?_
  refine pu_ (i := 9) (N := some 16) HT_.out ?_
  refine pu_ (i := 10) (N := some 17) HT_.out ?_
  refine pu_ (i := 11) (N := some 18) HT_.out ?_
  refine pv_ (i := 12) (N := some 19) HT_.out ?_
  refine done_ (done_of HT_.out (by kernel_rfl)) ?_
  try go_wp2
  go_ret
  exact ⟨ex_, hb1_ HB.out GE501.out⟩

/-! ### impl_WaysFrom: function 40 -/
def impl_WaysFrom.l0 : Nat → Int → List Int → Int → Int → Int → Int → Option (List Int)
 | 0, _, _, _, _, _, _ => none
 | k + 1, x1, x5, x6, x502000, x502001, x502002 => if x6 ≤ 3 then ((impl_Step.f k x502000 x502001 x502002 x1 x6).bind fun t502 => (if t502 ≥ 0 then (if x5.length < 17592186044416 then (impl_WaysFrom.l0 k x1 (x5 ++ [x6]) (wrap64 (x6 + 1)) x502000 x502001 x502002) else (none)) else (impl_WaysFrom.l0 k x1 x5 (wrap64 (x6 + 1)) x502000 x502001 x502002))) else (some x5)
def impl_WaysFrom.f (k : Nat) (a0_0 : Int) (a0_1 : Int) (a0_2 : Int) (a1 : Int) : Option (List Int) := impl_WaysFrom.l0 k a1 ([] : List Int) 0 a0_0 a0_1 a0_2
theorem impl_WaysFrom.mono_l : ∀ k, (∀ y0 y1 y2 y3 y4 y5, LeO (impl_WaysFrom.l0 k y0 y1 y2 y3 y4 y5) (impl_WaysFrom.l0 (k + 1) y0 y1 y2 y3 y4 y5))
 | 0 => fun _ _ _ _ _ _ r h => by simp [impl_WaysFrom.l0] at h
 | k + 1 => by
  have ih0 := impl_WaysFrom.mono_l k
  ·intro y0 y1 y2 y3 y4 y5
   unfold impl_WaysFrom.l0
   repeat' first
   | (with_reducible exact ih0 ..)
   | (with_reducible exact impl_Step.mono ..)
   | (with_reducible first | exact lr_ _ | exact ln_ _ | refine li_ ?_ ?_ | refine lb_ ?_ fun _ => ?_)
   | exact ih0 ..
   | exact impl_Step.mono ..
   | exact ln_ _ | refine li_ ?_ ?_ | refine lb_ ?_ fun _ => ?_
theorem impl_WaysFrom.mono : ∀ a0 a1 a2 a3 k, LeO (impl_WaysFrom.f k a0 a1 a2 a3) (impl_WaysFrom.f (k + 1) a0 a1 a2 a3) := by
 intro a0 a1 a2 a3 k
 have ih0 := impl_WaysFrom.mono_l k
 unfold impl_WaysFrom.f
 repeat' first
   | (with_reducible exact ih0 ..)
   | (with_reducible exact impl_Step.mono ..)
   | (with_reducible first | exact lr_ _ | exact ln_ _ | refine li_ ?_ ?_ | refine lb_ ?_ fun _ => ?_)
   | exact ih0 ..
   | exact impl_Step.mono ..
   | exact ln_ _ | refine li_ ?_ ?_ | refine lb_ ?_ fun _ => ?_
set_option maxHeartbeats 8000000 in
set_option maxRecDepth 100000 in
theorem impl_WaysFrom.calls (k : Nat) (a0_0 : Int) (a0_1 : Int) (a0_2 : Int) (a1 : Int) (r : List Int) (w : World) (h : impl_WaysFrom.f k a0_0 a0_1 a0_2 a1 = some r) :
  Calls Try.prog 40 #[.agg #[.int .i64 a0_0, .int .i64 a0_1, .int .i64 a0_2], .int .i64 a1] w fun e w' => ∃ v0_ : Value, e = .returned (v0_) ∧ Kd.R (Kd.int .i64) 3 w' w.heap.size (fun _ => True) v0_ r ∧ Below w.heap.size w w' := by
 have hu32 := Try.underlying32
 have HB := Aside0.mk (Below.refl w.heap.size w)
 have H : (impl_WaysFrom.l0 k a1 ([] : List Int) 0 a0_0 a0_1 a0_2) = some r := h
 clear h
 have H' := Aside0.mk H
 clear H
 go_enter Try.func40, Try.ntmps40
 go_wp2_with (first | (refine box_ (N := 2) (cs := #[.int .i64 a0_0, .int .i64 a0_1, .int .i64 a0_2]) (t := 32) ?_; intro gb501 hg w3 hbox hb; have BK501 := Aside0.mk (hbox); have GW501 := HB.g0 hg; have GE501 := HB.g0 hg; replace HB := HB.s0 hb; clear hb hbox hg))
 go_loopg [5, 6] k (fun kq v5 v6 w' => ∃ (x5_1 : List Int) (x6_1 : Int), v6 = .int .i64 x6_1 ∧ Aside0 (impl_WaysFrom.l0 kq a1 x5_1 x6_1 a0_0 a0_1 a0_2 = some r) ∧ Aside0 (kq ≤ k) ∧ Aside0 (Kd.R (Kd.int .i64) 3 w' w.heap.size (fun _ => True) v5 x5_1) ∧ Aside0 (w'.heap[gb501]? = some (.cells #[.int .i64 a0_0, .int .i64 a0_1, .int .i64 a0_2] 32 (0, 0))) ∧ Aside0 (Below w.heap.size w w'))
 case atStart => exact ⟨(([] : List Int)), (0), (by first | rfl | (simp; done) | (simp [*]; done)), H', ⟨Nat.le_refl _⟩, ⟨by first | exact Kd.R_nil _ _ _ _ _ | exact Kd.N_nil _ _ _ _ _ | exact Kd.V_nil _ _ _ _ _ | exact Kd.Q_nil _ _ _ _ _ | exact Kd.S_nil _ _ _ _ _⟩, ⟨bk_ BK501.out⟩, ⟨hb1_ HB.out GE501.out⟩⟩
 case round =>
  clear H'
  try clear p2
  obtain ⟨x5_1, x6_1, rfl, HA, HK1, HO_5, BK501, HB⟩ := hrel
  cases gk with
  | zero => exact absurd HA.out (by simp [impl_WaysFrom.l0])
  | succ k1 =>
   have H := HA.out
   clear HA
   simp only [impl_WaysFrom.l0] at H
   by_cases c4 : x6_1 ≤ 3
   ·rw [if_pos c4] at H
    have c4b0 : decide (x6_1 ≤ 3) = true := decide_eq_true c4
    clear c4
    replace H := Option.bind_eq_some_iff.mp H
    obtain ⟨t502, A50, H⟩ := H
    replace H : (if t502 ≥ 0 then (if x5_1.length < 17592186044416 then (impl_WaysFrom.l0 k1 a1 (x5_1 ++ [x6_1]) (wrap64 (x6_1 + 1)) a0_0 a0_1 a0_2) else (none)) else (impl_WaysFrom.l0 k1 a1 x5_1 (wrap64 (x6_1 + 1)) a0_0 a0_1 a0_2)) = some r := H
    have A5 := Aside0.mk A50
    clear A50
    by_cases c6 : t502 ≥ 0
    ·rw [if_pos c6] at H
     have c6b0 : decide (0 ≤ t502) = true := decide_eq_true c6
     clear c6
     by_cases c7 : x5_1.length < 17592186044416
     ·rw [if_pos c7] at H
      have LMc7 := Aside0.mk c7
      clear c7
      obtain ⟨y503, hy503⟩ : ∃ y_ : List Int, y_ = (x5_1 ++ [x6_1]) := ⟨_, rfl⟩
      replace H : (impl_WaysFrom.l0 k1 a1 y503 (wrap64 (x6_1 + 1)) a0_0 a0_1 a0_2) = some r := by first | (rw [hy503]; with_reducible exact H) | (have H2_ := (Option.bind_some _ _).symm.trans H; rw [hy503]; with_reducible exact H2_) | (have H2_ := (Option.bind_some _ _).symm.trans H; with_reducible exact H2_) | with_reducible exact H | (rw [hy503]; exact H) | exact H
      have Ny503 := Aside0.mk hy503
      clear hy503
      have H' := Aside0.mk H
      clear H
      obtain ⟨hcz8_0, hcz8_1, hcz8_2⟩ := cz3_ BK501.out
      obtain ⟨hfz8_0, hfz8_1, hfz8_2⟩ := fz3_ BK501.out
      go_wp2_with (first | (refine gl_ 14 Try.func41 #[.agg #[.int .i64 a0_0, .int .i64 a0_1, .int .i64 a0_2], .int .i64 a1, .int .i64 x6_1] ?_; (with_reducible refine (impl_Step.calls k1 a0_0 a0_1 a0_2 a1 x6_1 t502 _ A5.out).mono ?_); rintro e w9 ⟨rfl, hb⟩; refine ⟨_, rfl, ?_⟩; replace HO_5 := HO_5.kb hb; replace BK501 := BK501.bb hb; replace HB := HB.s1 GE501 hb; (try clear hb)) | ((with_reducible refine gate_builtin (b := .append) (xs := #[.tmp 16, .tmp 18]) rfl ?_); at_builtin; refine Kd.R_append (Kd.int .i64) (w0 := w) w.heap.size rfl (.tmp 16) (.tmp 18) 50 3 (.int .i64 0) 8 rfl Try.underlying50 info3 rfl (by decide) (by omega) u5 x5_1 x6_1 [.int .i64 x6_1] (fun _ => True) (fun _ => False) rfl rfl ?aP (fun _ hk => hk.elim) ?aF ?aO ?aB ?aS ?aL ?_; (case aP => exact rfl); (case aB => exact (hb1_ HB.out GE501.out)); (case aF => exact (fun _ _ => trivial)); (case aO => exact (kr_ HO_5.out)); (case aS => exact (below_size (hb1_ HB.out GE501.out))); (case aL => have := LMc7.out; omega); intro v504 w10 ho hb hg hat; rw [← Ny503.out] at ho; replace BK501 := Aside0.mk (blk_grown (g := gb501) (o := .cells #[.int .i64 a0_0, .int .i64 a0_1, .int .i64 a0_2] 32 (0, 0)) (bk_ BK501.out) hg (Kd.R_ne HO_5.out BK501.out (by decide))); replace HB := Aside0.mk (hb); have HO505 := Aside0.mk (ho); clear HO_5; clear ho hb hg hat))
      go_roundg k1
      case measure => have := HK1.out; omega
      case rel => exact ⟨(y503), (wrap64 (x6_1 + 1)), (by first | rfl | (simp; done) | (simp [*]; done)), H', ⟨by have := HK1.out; omega⟩, ⟨kr_ HO505.out⟩, ⟨bk_ BK501.out⟩, ⟨hb1_ HB.out GE501.out⟩⟩
     ·rw [if_neg c7] at H
      exact absurd H (by simp)
    ·rw [if_neg c6] at H
     have c6b0 : decide (0 ≤ t502) = false := decide_eq_false c6
     clear c6
     have H' := Aside0.mk H
     clear H
     obtain ⟨hcz11_0, hcz11_1, hcz11_2⟩ := cz3_ BK501.out
     obtain ⟨hfz11_0, hfz11_1, hfz11_2⟩ := fz3_ BK501.out
     go_wp2_with (first | (refine gl_ 14 Try.func41 #[.agg #[.int .i64 a0_0, .int .i64 a0_1, .int .i64 a0_2], .int .i64 a1, .int .i64 x6_1] ?_; (with_reducible refine (impl_Step.calls k1 a0_0 a0_1 a0_2 a1 x6_1 t502 _ A5.out).mono ?_); rintro e w12 ⟨rfl, hb⟩; refine ⟨_, rfl, ?_⟩; replace HO_5 := HO_5.kb hb; replace BK501 := BK501.bb hb; replace HB := HB.s1 GE501 hb; (try clear hb)))
     go_roundg k1
     case measure => have := HK1.out; omega
     case rel => exact ⟨(x5_1), (wrap64 (x6_1 + 1)), (by first | rfl | (simp; done) | (simp [*]; done)), H', ⟨by have := HK1.out; omega⟩, ⟨kr_ HO_5.out⟩, ⟨bk_ BK501.out⟩, ⟨hb1_ HB.out GE501.out⟩⟩
   ·rw [if_neg c4] at H
    have c4b0 : decide (x6_1 ≤ 3) = false := decide_eq_false c4
    clear c4
    obtain rfl := Option.some.inj H
    go_wp2
    go_ret
    exact ⟨_, ex_, kr_ HO_5.out, hb1_ HB.out GE501.out⟩

end Go.Proofs.Ytnfclfpicemojaa.X
