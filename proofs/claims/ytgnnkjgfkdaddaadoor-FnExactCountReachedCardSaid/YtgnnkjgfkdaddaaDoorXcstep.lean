-- Written by a program of this session (xprint.py), out of the translation and of hand-written contracts. Lean checks it.
import Derived.Test.YtgnnkjgfkdaddaaDoorX0
import Derived.Test.YtgnnkjgfkdaddaaDoorXcmaze
import Derived.Test.YtgnnkjgfkdaddaaDoorXcnbr
namespace Go.Proofs.YtgnnkjgfkdaddaaDoor.X
open Go.RowKit Go.Proofs.YtgnnkjgfkdaddaaDoorW.PrintWords Go.Proofs.YtgnnkjgfkdaddaaDoorW.PrintLast Go.Proofs.YtgnnkjgfkdaddaaDoorW.PrintMore
attribute [local go_sem] max2_int min2_int max_two min_two max_three min_three max_four min_four   -- for this text's walks alone
set_option linter.unusedVariables false
set_option linter.unusedSimpArgs false

/-! ### spec_Step: function 27 -/
def spec_Step.f (k : Nat) (a0_0 : Int) (a0_1 : Int) (a0_2 : Int) (a1 : Int) (a2 : Int) : Option (Int) := (spec_MazeOk.f a0_0 a0_1 a0_2).bind fun t502 => (if t502 = true then ((spec_GapAt.f k a0_0 a0_1 a1 a2).bind fun t503 => ((spec_IsPassage.f a0_0 a0_1 a0_2 t503).bind fun t504 => (if t504 = true then ((spec_Neighbor.f k a0_0 a0_1 a1 a2).bind fun t505 => (some t505)) else (some (-1))))) else (some (-1)))
theorem spec_Step.mono : ∀ a0 a1 a2 a3 a4 k, LeO (spec_Step.f k a0 a1 a2 a3 a4) (spec_Step.f (k + 1) a0 a1 a2 a3 a4) := by
 intro a0 a1 a2 a3 a4 k
 unfold spec_Step.f
 repeat' first
   | (with_reducible exact spec_GapAt.mono ..)
   | (with_reducible exact spec_Neighbor.mono ..)
   | (with_reducible first | exact lr_ _ | exact ln_ _ | refine li_ ?_ ?_ | refine lb_ ?_ fun _ => ?_)
   | exact spec_GapAt.mono ..
   | exact spec_Neighbor.mono ..
   | exact ln_ _ | refine li_ ?_ ?_ | refine lb_ ?_ fun _ => ?_
def spec_Step.T1 : Bool × List (List Nat × List Nat) := (true, [([], []), ([0], [0]), ([1], [1]), ([2, 1], [2]), ([3], [3]), ([3], [3]), ([5, 3], [3, 5]), ([3], [3]), ([3], [3]), ([6, 7, 8, 3, 3], [3, 6, 7, 8]), ([4, 9, 9, 3], [3, 4, 9]), ([10, 3], [3, 10]), ([3, 11], [3, 11])])
def spec_Step.B1 : List Nat := [0, 1, 3, 7, 15, 15, 47, 15, 15, 495, 1023, 2047, 4095]
theorem spec_Step.tab1 : rtab .any (opsOf Tryd.f27 1) = spec_Step.T1 := by kernel_rfl
theorem spec_Step.bits1 : waitsOk spec_Step.T1.2 spec_Step.B1 = true := by kernel_rfl
set_option maxHeartbeats 8000000 in
set_option maxRecDepth 100000 in
theorem spec_Step.calls (k : Nat) (a0_0 : Int) (a0_1 : Int) (a0_2 : Int) (a1 : Int) (a2 : Int) (r : Int) (w : World) (h : spec_Step.f k a0_0 a0_1 a0_2 a1 a2 = some r) :
  Calls Tryd.prog 27 #[.agg #[.int .i64 a0_0, .int .i64 a0_1, .int .i64 a0_2], .int .i64 a1, .int .i64 a2] w fun e w' => e = .returned (.int .i64 r) ∧ Below w.heap.size w w' := by
 have hu30 := Tryd.underlying30
 have hu28 := Tryd.underlying28
 have HB := Aside0.mk (Below.refl w.heap.size w)
 have H : ((spec_MazeOk.f a0_0 a0_1 a0_2).bind fun t502 => (if t502 = true then ((spec_GapAt.f k a0_0 a0_1 a1 a2).bind fun t503 => ((spec_IsPassage.f a0_0 a0_1 a0_2 t503).bind fun t504 => (if t504 = true then ((spec_Neighbor.f k a0_0 a0_1 a1 a2).bind fun t505 => (some t505)) else (some (-1))))) else (some (-1)))) = some r := h
 clear h
 replace H := Option.bind_eq_some_iff.mp H
 obtain ⟨t502, A40, H⟩ := H
 replace H : (if t502 = true then ((spec_GapAt.f k a0_0 a0_1 a1 a2).bind fun t503 => ((spec_IsPassage.f a0_0 a0_1 a0_2 t503).bind fun t504 => (if t504 = true then ((spec_Neighbor.f k a0_0 a0_1 a1 a2).bind fun t505 => (some t505)) else (some (-1))))) else (some (-1))) = some r := H
 have A4 := Aside0.mk A40
 clear A40
 by_cases c5 : t502 = true
 ·subst c5
  have H1 : ((spec_GapAt.f k a0_0 a0_1 a1 a2).bind fun t503 => ((spec_IsPassage.f a0_0 a0_1 a0_2 t503).bind fun t504 => (if t504 = true then ((spec_Neighbor.f k a0_0 a0_1 a1 a2).bind fun t505 => (some t505)) else (some (-1))))) = some r := by rw [if_pos rfl] at H; exact H
  clear H
  have H := H1
  clear H1
  replace H := Option.bind_eq_some_iff.mp H
  obtain ⟨t503, A60, H⟩ := H
  replace H : ((spec_IsPassage.f a0_0 a0_1 a0_2 t503).bind fun t504 => (if t504 = true then ((spec_Neighbor.f k a0_0 a0_1 a1 a2).bind fun t505 => (some t505)) else (some (-1)))) = some r := H
  have A6 := Aside0.mk A60
  clear A60
  replace H := Option.bind_eq_some_iff.mp H
  obtain ⟨t504, A70, H⟩ := H
  replace H : (if t504 = true then ((spec_Neighbor.f k a0_0 a0_1 a1 a2).bind fun t505 => (some t505)) else (some (-1))) = some r := H
  have A7 := Aside0.mk A70
  clear A70
  by_cases c8 : t504 = true
  ·subst c8
   have H1 : ((spec_Neighbor.f k a0_0 a0_1 a1 a2).bind fun t505 => (some t505)) = some r := by rw [if_pos rfl] at H; exact H
   clear H
   have H := H1
   clear H1
   replace H := Option.bind_eq_some_iff.mp H
   obtain ⟨t505, A90, H⟩ := H
   replace H : (some t505) = some r := H
   have A9 := Aside0.mk A90
   clear A90
   obtain rfl := Option.some.inj H
   go_enter Tryd.func27, Tryd.ntmps27
   try go_wp2_with (first | (refine box_ (N := 3) (cs := #[.int .i64 a0_0, .int .i64 a0_1, .int .i64 a0_2]) (t := 30) ?_; intro gb501 hg w10 hbox hb; have BK501 := Aside0.mk (hbox); have GW501 := HB.g0 hg; have GE501 := HB.g0 hg; replace HB := HB.s0 hb; clear hb hbox hg))
   replace BK501 := Aside0.mk (blk_drew BK501.out)
   replace HB := Aside0.mk (below_drew1 HB.out)
   refine start_ (n := 13) (S := fun w' => w'.cell? ⟨gb501, 0, none⟩ = some (.int .i64 a0_0) ∧ w'.cell? ⟨gb501, 1, none⟩ = some (.int .i64 a0_1) ∧ w'.cell? ⟨gb501, 2, none⟩ = some (.int .i64 a0_2)) (ds := []) #[false, false, false, false, false, false, false, false, false, false, false, false, false] (by kernel_rfl) rfl rfl ⟨BK501.c 0, BK501.c 1, BK501.c 2⟩ (fun hHeld => ?_); refine with_tabW spec_Step.tab1 spec_Step.bits1 (fun HT_ HW_ => ?_)
   generalize w10.drew = w11 at BK501 HB hHeld ⊢
   refine tv3_ (i := 0) (N := some 7) HT_.out HW_.out hHeld ?_
   refine ov_ (i := 1) (N := some 8) HT_.out (fun K hK => ?_)
   refine gq_ Tryd.func16 #[.agg #[.int .i64 a0_0, .int .i64 a0_1, .int .i64 a0_2]] ?_
   with_reducible refine (spec_MazeOk.calls a0_0 a0_1 a0_2 true _ A4.out).mono ?_
   rintro e w12 ⟨rfl, hb⟩
   refine ⟨_, rfl, ?_⟩
   replace BK501 := BK501.bb hb
   replace HB := HB.s1 GE501 hb
   skip
   (try clear hb2)
   (try clear hk)
   (try clear hi)
   refine hK.out _ _ ⟨BK501.c 0, BK501.c 1, BK501.c 2⟩ (fun hHeld => ?_)
   clear hK K
   refine nm_ ?_
   refine pv_ (i := 2) (N := some 9) HT_.out ?_
   refine pv_ (i := 3) (N := some 10) HT_.out ?_
   refine pv_ (i := 5) (N := some 12) HT_.out ?_
   refine pv_ (i := 7) (N := some 14) HT_.out ?_
   refine pv_ (i := 8) (N := some 15) HT_.out ?_
   refine tv3_ (i := 4) (N := some 11) HT_.out HW_.out hHeld ?_
   refine tv3_ (i := 6) (N := some 13) HT_.out HW_.out hHeld ?_
   refine ov_ (i := 9) (N := some 16) HT_.out (fun K hK => ?_)
   refine gq_ Tryd.func37 #[.agg #[.int .i64 a0_0, .int .i64 a0_1], .int .i64 a1, .int .i64 a2] ?_
   with_reducible refine (spec_GapAt.calls k a0_0 a0_1 a1 a2 t503 _ A6.out).mono ?_
   rintro e w13 ⟨rfl, hb⟩
   refine ⟨_, rfl, ?_⟩
   replace BK501 := BK501.bb hb
   replace HB := HB.s1 GE501 hb
   skip
   (try clear hb2)
   (try clear hk)
   (try clear hi)
   refine hK.out _ _ ⟨BK501.c 0, BK501.c 1, BK501.c 2⟩ (fun hHeld => ?_)
   clear hK K
   refine nm_ ?_
   refine ov_ (i := 10) (N := some 17) HT_.out (fun K hK => ?_)
   refine gq_ Tryd.func36 #[.agg #[.int .i64 a0_0, .int .i64 a0_1, .int .i64 a0_2], .int .i64 t503] ?_
   with_reducible refine (spec_IsPassage.calls a0_0 a0_1 a0_2 t503 true _ A7.out).mono ?_
   rintro e w14 ⟨rfl, hb⟩
   refine ⟨_, rfl, ?_⟩
   replace BK501 := BK501.bb hb
   replace HB := HB.s1 GE501 hb
   skip
   (try clear hb2)
   (try clear hk)
   (try clear hi)
   refine hK.out _ _ ⟨BK501.c 0, BK501.c 1, BK501.c 2⟩ (fun hHeld => ?_)
   clear hK K
   refine nm_ ?_
   refine pv_ (i := 11) (N := some 18) HT_.out ?_
   refine pv_ (i := 12) (N := some 19) HT_.out ?_
   refine done_ (done_of HT_.out (by kernel_rfl)) ?_
   obtain ⟨hcz15_0, hcz15_1, hcz15_2⟩ := cz3_ BK501.out
   obtain ⟨hfz15_0, hfz15_1, hfz15_2⟩ := fz3_ BK501.out
   try go_wp2_with (first | (refine gl_ 24 Tryd.func38 #[.agg #[.int .i64 a0_0, .int .i64 a0_1], .int .i64 a1, .int .i64 a2] ?_; (with_reducible refine (spec_Neighbor.calls k a0_0 a0_1 a1 a2 t505 _ A9.out).mono ?_); rintro e w16 ⟨rfl, hb⟩; refine ⟨_, rfl, ?_⟩; replace BK501 := BK501.bb hb; replace HB := HB.s1 GE501 hb; (try clear hb)))
   go_ret
   exact ⟨ex_, hb1_ HB.out GE501.out⟩
  ·replace c8 := Bool.eq_false_iff.mpr c8
   subst c8
   have H1 : (some (-1)) = some r := by rw [if_neg (show ¬ (false = true) by decide)] at H; exact H
   clear H
   have H := H1
   clear H1
   obtain rfl := Option.some.inj H
   go_enter Tryd.func27, Tryd.ntmps27
   try go_wp2_with (first | (refine box_ (N := 3) (cs := #[.int .i64 a0_0, .int .i64 a0_1, .int .i64 a0_2]) (t := 30) ?_; intro gb501 hg w17 hbox hb; have BK501 := Aside0.mk (hbox); have GW501 := HB.g0 hg; have GE501 := HB.g0 hg; replace HB := HB.s0 hb; clear hb hbox hg))
   replace BK501 := Aside0.mk (blk_drew BK501.out)
   replace HB := Aside0.mk (below_drew1 HB.out)
   refine start_ (n := 13) (S := fun w' => w'.cell? ⟨gb501, 0, none⟩ = some (.int .i64 a0_0) ∧ w'.cell? ⟨gb501, 1, none⟩ = some (.int .i64 a0_1) ∧ w'.cell? ⟨gb501, 2, none⟩ = some (.int .i64 a0_2)) (ds := []) #[false, false, false, false, false, false, false, false, false, false, false, false, false] (by kernel_rfl) rfl rfl ⟨BK501.c 0, BK501.c 1, BK501.c 2⟩ (fun hHeld => ?_); refine with_tabW spec_Step.tab1 spec_Step.bits1 (fun HT_ HW_ => ?_)
   generalize w17.drew = w18 at BK501 HB hHeld ⊢
   refine tv3_ (i := 0) (N := some 7) HT_.out HW_.out hHeld ?_
   refine ov_ (i := 1) (N := some 8) HT_.out (fun K hK => ?_)
   refine gq_ Tryd.func16 #[.agg #[.int .i64 a0_0, .int .i64 a0_1, .int .i64 a0_2]] ?_
   with_reducible refine (spec_MazeOk.calls a0_0 a0_1 a0_2 true _ A4.out).mono ?_
   rintro e w19 ⟨rfl, hb⟩
   refine ⟨_, rfl, ?_⟩
   replace BK501 := BK501.bb hb
   replace HB := HB.s1 GE501 hb
   skip
   (try clear hb2)
   (try clear hk)
   (try clear hi)
   refine hK.out _ _ ⟨BK501.c 0, BK501.c 1, BK501.c 2⟩ (fun hHeld => ?_)
   clear hK K
   refine nm_ ?_
   refine pv_ (i := 2) (N := some 9) HT_.out ?_
   refine pv_ (i := 3) (N := some 10) HT_.out ?_
   refine pv_ (i := 5) (N := some 12) HT_.out ?_
   refine pv_ (i := 7) (N := some 14) HT_.out ?_
   refine pv_ (i := 8) (N := some 15) HT_.out ?_
   refine tv3_ (i := 4) (N := some 11) HT_.out HW_.out hHeld ?_
   refine tv3_ (i := 6) (N := some 13) HT_.out HW_.out hHeld ?_
   refine ov_ (i := 9) (N := some 16) HT_.out (fun K hK => ?_)
   refine gq_ Tryd.func37 #[.agg #[.int .i64 a0_0, .int .i64 a0_1], .int .i64 a1, .int .i64 a2] ?_
   with_reducible refine (spec_GapAt.calls k a0_0 a0_1 a1 a2 t503 _ A6.out).mono ?_
   rintro e w20 ⟨rfl, hb⟩
   refine ⟨_, rfl, ?_⟩
   replace BK501 := BK501.bb hb
   replace HB := HB.s1 GE501 hb
   skip
   (try clear hb2)
   (try clear hk)
   (try clear hi)
   refine hK.out _ _ ⟨BK501.c 0, BK501.c 1, BK501.c 2⟩ (fun hHeld => ?_)
   clear hK K
   refine nm_ ?_
   refine ov_ (i := 10) (N := some 17) HT_.out (fun K hK => ?_)
   refine gq_ Tryd.func36 #[.agg #[.int .i64 a0_0, .int .i64 a0_1, .int .i64 a0_2], .int .i64 t503] ?_
   with_reducible refine (spec_IsPassage.calls a0_0 a0_1 a0_2 t503 false _ A7.out).mono ?_
   rintro e w21 ⟨rfl, hb⟩
   refine ⟨_, rfl, ?_⟩
   replace BK501 := BK501.bb hb
   replace HB := HB.s1 GE501 hb
   skip
   (try clear hb2)
   (try clear hk)
   (try clear hi)
   refine hK.out _ _ ⟨BK501.c 0, BK501.c 1, BK501.c 2⟩ (fun hHeld => ?_)
   clear hK K
   refine nm_ ?_
   refine pv_ (i := 11) (N := some 18) HT_.out ?_
   refine pv_ (i := 12) (N := some 19) HT_.out ?_
   refine done_ (done_of HT_.out (by kernel_rfl)) ?_
   try go_wp2
   go_ret
   exact ⟨ex_, hb1_ HB.out GE501.out⟩
 ·replace c5 := Bool.eq_false_iff.mpr c5
  subst c5
  have H1 : (some (-1)) = some r := by rw [if_neg (show ¬ (false = true) by decide)] at H; exact H
  clear H
  have H := H1
  clear H1
  obtain rfl := Option.some.inj H
  go_enter Tryd.func27, Tryd.ntmps27
  try go_wp2_with (first | (refine box_ (N := 3) (cs := #[.int .i64 a0_0, .int .i64 a0_1, .int .i64 a0_2]) (t := 30) ?_; intro gb501 hg w22 hbox hb; have BK501 := Aside0.mk (hbox); have GW501 := HB.g0 hg; have GE501 := HB.g0 hg; replace HB := HB.s0 hb; clear hb hbox hg))
  replace BK501 := Aside0.mk (blk_drew BK501.out)
  replace HB := Aside0.mk (below_drew1 HB.out)
  refine start_ (n := 13) (S := fun w' => w'.cell? ⟨gb501, 0, none⟩ = some (.int .i64 a0_0) ∧ w'.cell? ⟨gb501, 1, none⟩ = some (.int .i64 a0_1) ∧ w'.cell? ⟨gb501, 2, none⟩ = some (.int .i64 a0_2)) (ds := []) #[false, false, false, false, false, false, false, false, false, false, false, false, false] (by kernel_rfl) rfl rfl ⟨BK501.c 0, BK501.c 1, BK501.c 2⟩ (fun hHeld => ?_); refine with_tabW spec_Step.tab1 spec_Step.bits1 (fun HT_ HW_ => ?_)
  generalize w22.drew = w23 at BK501 HB hHeld ⊢
  refine tv3_ (i := 0) (N := some 7) HT_.out HW_.out hHeld ?_
  refine ov_ (i := 1) (N := some 8) HT_.out (fun K hK => ?_)
  refine gq_ Tryd.func16 #[.agg #[.int .i64 a0_0, .int .i64 a0_1, .int .i64 a0_2]] ?_
  with_reducible refine (spec_MazeOk.calls a0_0 a0_1 a0_2 false _ A4.out).mono ?_
  rintro e w24 ⟨rfl, hb⟩
  refine ⟨_, rfl, ?_⟩
  replace BK501 := BK501.bb hb
  replace HB := HB.s1 GE501 hb
  skip
  (try clear hb2)
  (try clear hk)
  (try clear hi)
  refine hK.out _ _ ⟨BK501.c 0, BK501.c 1, BK501.c 2⟩ (fun hHeld => ?_)
  clear hK K
  refine nm_ ?_
  refine pv_ (i := 2) (N := some 9) HT_.out ?_
  refine pv_ (i := 3) (N := some 10) HT_.out ?_
  refine pu_ (i := 4) (N := some 11) HT_.out ?_
  refine pu_ (i := 5) (N := some 12) HT_.out ?_
  refine pu_ (i := 6) (N := some 13) HT_.out ?_
  refine pu_ (i := 7) (N := some 14) HT_.out ?_
  refine pu_ (i := 8) (N := some 15) HT_.out ?_
  refine pu_ (i := 9) (N := some 16) HT_.out ?_
  refine pu_ (i := 10) (N := some 17) HT_.out ?_
  refine pu_ (i := 11) (N := some 18) HT_.out ?_
  refine pv_ (i := 12) (N := some 19) HT_.out ?_
  refine done_ (done_of HT_.out (by kernel_rfl)) ?_
  try go_wp2
  go_ret
  exact ⟨ex_, hb1_ HB.out GE501.out⟩

/-! ### impl_Step: function 33 -/
def impl_Step.f (k : Nat) (a0_0 : Int) (a0_1 : Int) (a0_2 : Int) (a1 : Int) (a2 : Int) : Option (Int) := (impl_MazeOk.f a0_0 a0_1 a0_2).bind fun t502 => (if t502 = true then ((impl_GapAt.f k a0_0 a0_1 a1 a2).bind fun t503 => ((impl_isOpen.f a0_0 a0_1 a0_2 t503).bind fun t504 => (if t504 = true then ((impl_Neighbor.f k a0_0 a0_1 a1 a2).bind fun t505 => (some t505)) else (some (-1))))) else (some (-1)))
theorem impl_Step.mono : ∀ a0 a1 a2 a3 a4 k, LeO (impl_Step.f k a0 a1 a2 a3 a4) (impl_Step.f (k + 1) a0 a1 a2 a3 a4) := by
 intro a0 a1 a2 a3 a4 k
 unfold impl_Step.f
 repeat' first
   | (with_reducible exact impl_GapAt.mono ..)
   | (with_reducible exact impl_Neighbor.mono ..)
   | (with_reducible first | exact lr_ _ | exact ln_ _ | refine li_ ?_ ?_ | refine lb_ ?_ fun _ => ?_)
   | exact impl_GapAt.mono ..
   | exact impl_Neighbor.mono ..
   | exact ln_ _ | refine li_ ?_ ?_ | refine lb_ ?_ fun _ => ?_
def impl_Step.T1 : Bool × List (List Nat × List Nat) := (true, [([], []), ([0], [0]), ([1], [1]), ([2, 1], [2]), ([3], [3]), ([3], [3]), ([5, 3], [3, 5]), ([3], [3]), ([3], [3]), ([6, 7, 8, 3, 3], [3, 6, 7, 8]), ([4, 9, 9, 3], [3, 4, 9]), ([10, 3], [3, 10]), ([3, 11], [3, 11])])
def impl_Step.B1 : List Nat := [0, 1, 3, 7, 15, 15, 47, 15, 15, 495, 1023, 2047, 4095]
theorem impl_Step.tab1 : rtab .any (opsOf Tryd.f33 1) = impl_Step.T1 := by kernel_rfl
theorem impl_Step.bits1 : waitsOk impl_Step.T1.2 impl_Step.B1 = true := by kernel_rfl
set_option maxHeartbeats 8000000 in
set_option maxRecDepth 100000 in
theorem impl_Step.calls (k : Nat) (a0_0 : Int) (a0_1 : Int) (a0_2 : Int) (a1 : Int) (a2 : Int) (r : Int) (w : World) (h : impl_Step.f k a0_0 a0_1 a0_2 a1 a2 = some r) :
  Calls Tryd.prog 33 #[.agg #[.int .i64 a0_0, .int .i64 a0_1, .int .i64 a0_2], .int .i64 a1, .int .i64 a2] w fun e w' => e = .returned (.int .i64 r) ∧ Below w.heap.size w w' := by
 have hu30 := Tryd.underlying30
 have hu28 := Tryd.underlying28
 have HB := Aside0.mk (Below.refl w.heap.size w)
 have H : ((impl_MazeOk.f a0_0 a0_1 a0_2).bind fun t502 => (if t502 = true then ((impl_GapAt.f k a0_0 a0_1 a1 a2).bind fun t503 => ((impl_isOpen.f a0_0 a0_1 a0_2 t503).bind fun t504 => (if t504 = true then ((impl_Neighbor.f k a0_0 a0_1 a1 a2).bind fun t505 => (some t505)) else (some (-1))))) else (some (-1)))) = some r := h
 clear h
 replace H := Option.bind_eq_some_iff.mp H
 obtain ⟨t502, A40, H⟩ := H
 replace H : (if t502 = true then ((impl_GapAt.f k a0_0 a0_1 a1 a2).bind fun t503 => ((impl_isOpen.f a0_0 a0_1 a0_2 t503).bind fun t504 => (if t504 = true then ((impl_Neighbor.f k a0_0 a0_1 a1 a2).bind fun t505 => (some t505)) else (some (-1))))) else (some (-1))) = some r := H
 have A4 := Aside0.mk A40
 clear A40
 by_cases c5 : t502 = true
 ·subst c5
  have H1 : ((impl_GapAt.f k a0_0 a0_1 a1 a2).bind fun t503 => ((impl_isOpen.f a0_0 a0_1 a0_2 t503).bind fun t504 => (if t504 = true then ((impl_Neighbor.f k a0_0 a0_1 a1 a2).bind fun t505 => (some t505)) else (some (-1))))) = some r := by rw [if_pos rfl] at H; exact H
  clear H
  have H := H1
  clear H1
  replace H := Option.bind_eq_some_iff.mp H
  obtain ⟨t503, A60, H⟩ := H
  replace H : ((impl_isOpen.f a0_0 a0_1 a0_2 t503).bind fun t504 => (if t504 = true then ((impl_Neighbor.f k a0_0 a0_1 a1 a2).bind fun t505 => (some t505)) else (some (-1)))) = some r := H
  have A6 := Aside0.mk A60
  clear A60
  replace H := Option.bind_eq_some_iff.mp H
  obtain ⟨t504, A70, H⟩ := H
  replace H : (if t504 = true then ((impl_Neighbor.f k a0_0 a0_1 a1 a2).bind fun t505 => (some t505)) else (some (-1))) = some r := H
  have A7 := Aside0.mk A70
  clear A70
  by_cases c8 : t504 = true
  ·subst c8
   have H1 : ((impl_Neighbor.f k a0_0 a0_1 a1 a2).bind fun t505 => (some t505)) = some r := by rw [if_pos rfl] at H; exact H
   clear H
   have H := H1
   clear H1
   replace H := Option.bind_eq_some_iff.mp H
   obtain ⟨t505, A90, H⟩ := H
   replace H : (some t505) = some r := H
   have A9 := Aside0.mk A90
   clear A90
   obtain rfl := Option.some.inj H
   go_enter Tryd.func33, Tryd.ntmps33
   try go_wp2_with (first | (refine box_ (N := 3) (cs := #[.int .i64 a0_0, .int .i64 a0_1, .int .i64 a0_2]) (t := 30) ?_; intro gb501 hg w10 hbox hb; have BK501 := Aside0.mk (hbox); have GW501 := HB.g0 hg; have GE501 := HB.g0 hg; replace HB := HB.s0 hb; clear hb hbox hg))
   replace BK501 := Aside0.mk (blk_drew BK501.out)
   replace HB := Aside0.mk (below_drew1 HB.out)
   refine start_ (n := 13) (S := fun w' => w'.cell? ⟨gb501, 0, none⟩ = some (.int .i64 a0_0) ∧ w'.cell? ⟨gb501, 1, none⟩ = some (.int .i64 a0_1) ∧ w'.cell? ⟨gb501, 2, none⟩ = some (.int .i64 a0_2)) (ds := []) #[false, false, false, false, false, false, false, false, false, false, false, false, false] (by kernel_rfl) rfl rfl ⟨BK501.c 0, BK501.c 1, BK501.c 2⟩ (fun hHeld => ?_); refine with_tabW impl_Step.tab1 impl_Step.bits1 (fun HT_ HW_ => ?_)
   generalize w10.drew = w11 at BK501 HB hHeld ⊢
   refine tv3_ (i := 0) (N := some 7) HT_.out HW_.out hHeld ?_
   refine ov_ (i := 1) (N := some 8) HT_.out (fun K hK => ?_)
   refine gq_ Tryd.func39 #[.agg #[.int .i64 a0_0, .int .i64 a0_1, .int .i64 a0_2]] ?_
   with_reducible refine (impl_MazeOk.calls a0_0 a0_1 a0_2 true _ A4.out).mono ?_
   rintro e w12 ⟨rfl, hb⟩
   refine ⟨_, rfl, ?_⟩
   replace BK501 := BK501.bb hb
   replace HB := HB.s1 GE501 hb
   skip
   (try clear hb2)
   (try clear hk)
   (try clear hi)
   refine hK.out _ _ ⟨BK501.c 0, BK501.c 1, BK501.c 2⟩ (fun hHeld => ?_)
   clear hK K
   refine nm_ ?_
   refine pv_ (i := 2) (N := some 9) HT_.out ?_
   refine pv_ (i := 3) (N := some 10) HT_.out ?_
   refine pv_ (i := 5) (N := some 12) HT_.out ?_
   refine pv_ (i := 7) (N := some 14) HT_.out ?_
   refine pv_ (i := 8) (N := some 15) HT_.out ?_
   refine tv3_ (i := 4) (N := some 11) HT_.out HW_.out hHeld ?_
   refine tv3_ (i := 6) (N := some 13) HT_.out HW_.out hHeld ?_
   refine ov_ (i := 9) (N := some 16) HT_.out (fun K hK => ?_)
   refine gq_ Tryd.func46 #[.agg #[.int .i64 a0_0, .int .i64 a0_1], .int .i64 a1, .int .i64 a2] ?_
   with_reducible refine (impl_GapAt.calls k a0_0 a0_1 a1 a2 t503 _ A6.out).mono ?_
   rintro e w13 ⟨rfl, hb⟩
   refine ⟨_, rfl, ?_⟩
   replace BK501 := BK501.bb hb
   replace HB := HB.s1 GE501 hb
   skip
   (try clear hb2)
   (try clear hk)
   (try clear hi)
   refine hK.out _ _ ⟨BK501.c 0, BK501.c 1, BK501.c 2⟩ (fun hHeld => ?_)
   clear hK K
   refine nm_ ?_
   refine ov_ (i := 10) (N := some 17) HT_.out (fun K hK => ?_)
   refine gq_ Tryd.func45 #[.agg #[.int .i64 a0_0, .int .i64 a0_1, .int .i64 a0_2], .int .i64 t503] ?_
   with_reducible refine (impl_isOpen.calls a0_0 a0_1 a0_2 t503 true _ A7.out).mono ?_
   rintro e w14 ⟨rfl, hb⟩
   refine ⟨_, rfl, ?_⟩
   replace BK501 := BK501.bb hb
   replace HB := HB.s1 GE501 hb
   skip
   (try clear hb2)
   (try clear hk)
   (try clear hi)
   refine hK.out _ _ ⟨BK501.c 0, BK501.c 1, BK501.c 2⟩ (fun hHeld => ?_)
   clear hK K
   refine nm_ ?_
   refine pv_ (i := 11) (N := some 18) HT_.out ?_
   refine pv_ (i := 12) (N := some 19) HT_.out ?_
   refine done_ (done_of HT_.out (by kernel_rfl)) ?_
   obtain ⟨hcz15_0, hcz15_1, hcz15_2⟩ := cz3_ BK501.out
   obtain ⟨hfz15_0, hfz15_1, hfz15_2⟩ := fz3_ BK501.out
   try go_wp2_with (first | (refine gl_ 24 Tryd.func47 #[.agg #[.int .i64 a0_0, .int .i64 a0_1], .int .i64 a1, .int .i64 a2] ?_; (with_reducible refine (impl_Neighbor.calls k a0_0 a0_1 a1 a2 t505 _ A9.out).mono ?_); rintro e w16 ⟨rfl, hb⟩; refine ⟨_, rfl, ?_⟩; replace BK501 := BK501.bb hb; replace HB := HB.s1 GE501 hb; (try clear hb)))
   go_ret
   exact ⟨ex_, hb1_ HB.out GE501.out⟩
  ·replace c8 := Bool.eq_false_iff.mpr c8
   subst c8
   have H1 : (some (-1)) = some r := by rw [if_neg (show ¬ (false = true) by decide)] at H; exact H
   clear H
   have H := H1
   clear H1
   obtain rfl := Option.some.inj H
   go_enter Tryd.func33, Tryd.ntmps33
   try go_wp2_with (first | (refine box_ (N := 3) (cs := #[.int .i64 a0_0, .int .i64 a0_1, .int .i64 a0_2]) (t := 30) ?_; intro gb501 hg w17 hbox hb; have BK501 := Aside0.mk (hbox); have GW501 := HB.g0 hg; have GE501 := HB.g0 hg; replace HB := HB.s0 hb; clear hb hbox hg))
   replace BK501 := Aside0.mk (blk_drew BK501.out)
   replace HB := Aside0.mk (below_drew1 HB.out)
   refine start_ (n := 13) (S := fun w' => w'.cell? ⟨gb501, 0, none⟩ = some (.int .i64 a0_0) ∧ w'.cell? ⟨gb501, 1, none⟩ = some (.int .i64 a0_1) ∧ w'.cell? ⟨gb501, 2, none⟩ = some (.int .i64 a0_2)) (ds := []) #[false, false, false, false, false, false, false, false, false, false, false, false, false] (by kernel_rfl) rfl rfl ⟨BK501.c 0, BK501.c 1, BK501.c 2⟩ (fun hHeld => ?_); refine with_tabW impl_Step.tab1 impl_Step.bits1 (fun HT_ HW_ => ?_)
   generalize w17.drew = w18 at BK501 HB hHeld ⊢
   refine tv3_ (i := 0) (N := some 7) HT_.out HW_.out hHeld ?_
   refine ov_ (i := 1) (N := some 8) HT_.out (fun K hK => ?_)
   refine gq_ Tryd.func39 #[.agg #[.int .i64 a0_0, .int .i64 a0_1, .int .i64 a0_2]] ?_
   with_reducible refine (impl_MazeOk.calls a0_0 a0_1 a0_2 true _ A4.out).mono ?_
   rintro e w19 ⟨rfl, hb⟩
   refine ⟨_, rfl, ?_⟩
   replace BK501 := BK501.bb hb
   replace HB := HB.s1 GE501 hb
   skip
   (try clear hb2)
   (try clear hk)
   (try clear hi)
   refine hK.out _ _ ⟨BK501.c 0, BK501.c 1, BK501.c 2⟩ (fun hHeld => ?_)
   clear hK K
   refine nm_ ?_
   refine pv_ (i := 2) (N := some 9) HT_.out ?_
   refine pv_ (i := 3) (N := some 10) HT_.out ?_
   refine pv_ (i := 5) (N := some 12) HT_.out ?_
   refine pv_ (i := 7) (N := some 14) HT_.out ?_
   refine pv_ (i := 8) (N := some 15) HT_.out ?_
   refine tv3_ (i := 4) (N := some 11) HT_.out HW_.out hHeld ?_
   refine tv3_ (i := 6) (N := some 13) HT_.out HW_.out hHeld ?_
   refine ov_ (i := 9) (N := some 16) HT_.out (fun K hK => ?_)
   refine gq_ Tryd.func46 #[.agg #[.int .i64 a0_0, .int .i64 a0_1], .int .i64 a1, .int .i64 a2] ?_
   with_reducible refine (impl_GapAt.calls k a0_0 a0_1 a1 a2 t503 _ A6.out).mono ?_
   rintro e w20 ⟨rfl, hb⟩
   refine ⟨_, rfl, ?_⟩
   replace BK501 := BK501.bb hb
   replace HB := HB.s1 GE501 hb
   skip
   (try clear hb2)
   (try clear hk)
   (try clear hi)
   refine hK.out _ _ ⟨BK501.c 0, BK501.c 1, BK501.c 2⟩ (fun hHeld => ?_)
   clear hK K
   refine nm_ ?_
   refine ov_ (i := 10) (N := some 17) HT_.out (fun K hK => ?_)
   refine gq_ Tryd.func45 #[.agg #[.int .i64 a0_0, .int .i64 a0_1, .int .i64 a0_2], .int .i64 t503] ?_
   with_reducible refine (impl_isOpen.calls a0_0 a0_1 a0_2 t503 false _ A7.out).mono ?_
   rintro e w21 ⟨rfl, hb⟩
   refine ⟨_, rfl, ?_⟩
   replace BK501 := BK501.bb hb
   replace HB := HB.s1 GE501 hb
   skip
   (try clear hb2)
   (try clear hk)
   (try clear hi)
   refine hK.out _ _ ⟨BK501.c 0, BK501.c 1, BK501.c 2⟩ (fun hHeld => ?_)
   clear hK K
   refine nm_ ?_
   refine pv_ (i := 11) (N := some 18) HT_.out ?_
   refine pv_ (i := 12) (N := some 19) HT_.out ?_
   refine done_ (done_of HT_.out (by kernel_rfl)) ?_
   try go_wp2
   go_ret
   exact ⟨ex_, hb1_ HB.out GE501.out⟩
 ·replace c5 := Bool.eq_false_iff.mpr c5
  subst c5
  have H1 : (some (-1)) = some r := by rw [if_neg (show ¬ (false = true) by decide)] at H; exact H
  clear H
  have H := H1
  clear H1
  obtain rfl := Option.some.inj H
  go_enter Tryd.func33, Tryd.ntmps33
  try go_wp2_with (first | (refine box_ (N := 3) (cs := #[.int .i64 a0_0, .int .i64 a0_1, .int .i64 a0_2]) (t := 30) ?_; intro gb501 hg w22 hbox hb; have BK501 := Aside0.mk (hbox); have GW501 := HB.g0 hg; have GE501 := HB.g0 hg; replace HB := HB.s0 hb; clear hb hbox hg))
  replace BK501 := Aside0.mk (blk_drew BK501.out)
  replace HB := Aside0.mk (below_drew1 HB.out)
  refine start_ (n := 13) (S := fun w' => w'.cell? ⟨gb501, 0, none⟩ = some (.int .i64 a0_0) ∧ w'.cell? ⟨gb501, 1, none⟩ = some (.int .i64 a0_1) ∧ w'.cell? ⟨gb501, 2, none⟩ = some (.int .i64 a0_2)) (ds := []) #[false, false, false, false, false, false, false, false, false, false, false, false, false] (by kernel_rfl) rfl rfl ⟨BK501.c 0, BK501.c 1, BK501.c 2⟩ (fun hHeld => ?_); refine with_tabW impl_Step.tab1 impl_Step.bits1 (fun HT_ HW_ => ?_)
  generalize w22.drew = w23 at BK501 HB hHeld ⊢
  refine tv3_ (i := 0) (N := some 7) HT_.out HW_.out hHeld ?_
  refine ov_ (i := 1) (N := some 8) HT_.out (fun K hK => ?_)
  refine gq_ Tryd.func39 #[.agg #[.int .i64 a0_0, .int .i64 a0_1, .int .i64 a0_2]] ?_
  with_reducible refine (impl_MazeOk.calls a0_0 a0_1 a0_2 false _ A4.out).mono ?_
  rintro e w24 ⟨rfl, hb⟩
  refine ⟨_, rfl, ?_⟩
  replace BK501 := BK501.bb hb
  replace HB := HB.s1 GE501 hb
  skip
  (try clear hb2)
  (try clear hk)
  (try clear hi)
  refine hK.out _ _ ⟨BK501.c 0, BK501.c 1, BK501.c 2⟩ (fun hHeld => ?_)
  clear hK K
  refine nm_ ?_
  refine pv_ (i := 2) (N := some 9) HT_.out ?_
  refine pv_ (i := 3) (N := some 10) HT_.out ?_
  refine pu_ (i := 4) (N := some 11) HT_.out ?_
  refine pu_ (i := 5) (N := some 12) HT_.out ?_
  refine pu_ (i := 6) (N := some 13) HT_.out ?_
  refine pu_ (i := 7) (N := some 14) HT_.out ?_
  refine pu_ (i := 8) (N := some 15) HT_.out ?_
  refine pu_ (i := 9) (N := some 16) HT_.out ?_
  refine pu_ (i := 10) (N := some 17) HT_.out ?_
  refine pu_ (i := 11) (N := some 18) HT_.out ?_
  refine pv_ (i := 12) (N := some 19) HT_.out ?_
  refine done_ (done_of HT_.out (by kernel_rfl)) ?_
  try go_wp2
  go_ret
  exact ⟨ex_, hb1_ HB.out GE501.out⟩

end Go.Proofs.YtgnnkjgfkdaddaaDoor.X
