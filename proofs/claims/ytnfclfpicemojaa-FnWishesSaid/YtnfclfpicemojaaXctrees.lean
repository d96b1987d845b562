-- Written by a program of this session (xprint.py), out of the translation and of hand-written contracts. Lean checks it.
import Derived.Test.YtnfclfpicemojaaX0
import Derived.Test.YtnfclfpicemojaaXcbits
import Derived.Test.YtnfclfpicemojaaXcgrid
import Derived.Test.YtnfclfpicemojaaXcmaze
import Derived.Test.YtnfclfpicemojaaXcreach
namespace Go.Proofs.Ytnfclfpicemojaa.X
open Go.RowKit Go.Proofs.YtnfclfpicemojaaW.PrintWords Go.Proofs.YtnfclfpicemojaaW.PrintLast Go.Proofs.YtnfclfpicemojaaW.PrintMore
attribute [local go_sem] max2_int min2_int max_two min_two max_three min_three max_four min_four   -- for this text's walks alone
set_option linter.unusedVariables false
set_option linter.unusedSimpArgs false

/-! ### impl_CountPassages: function 33 -/
def impl_CountPassages.f (a0_0 : Int) (a0_1 : Int) (a0_2 : Int) : Option (Int) := (impl_MazeOk.f a0_0 a0_1 a0_2).bind fun t502 => (if t502 = true then ((bits_OnesCount.f (IntKind.u64.wrap (a0_2))).bind fun t503 => (some t503)) else (some 0))
set_option maxHeartbeats 8000000 in
set_option maxRecDepth 100000 in
theorem impl_CountPassages.calls (a0_0 : Int) (a0_1 : Int) (a0_2 : Int) (r : Int) (w : World) (h : impl_CountPassages.f a0_0 a0_1 a0_2 = some r) :
  Calls Try.prog 33 #[.agg #[.int .i64 a0_0, .int .i64 a0_1, .int .i64 a0_2]] w fun e w' => e = .returned (.int .i64 r) ∧ Below w.heap.size w w' := by
 have hu32 := Try.underlying32
 have HB := Aside0.mk (Below.refl w.heap.size w)
 have H : ((impl_MazeOk.f a0_0 a0_1 a0_2).bind fun t502 => (if t502 = true then ((bits_OnesCount.f (IntKind.u64.wrap (a0_2))).bind fun t503 => (some t503)) else (some 0))) = some r := h
 clear h
 replace H := Option.bind_eq_some_iff.mp H
 obtain ⟨t502, A20, H⟩ := H
 replace H : (if t502 = true then ((bits_OnesCount.f (IntKind.u64.wrap (a0_2))).bind fun t503 => (some t503)) else (some 0)) = some r := H
 have A2 := Aside0.mk A20
 clear A20
 by_cases c3 : t502 = true
 ·subst c3
  have H1 : ((bits_OnesCount.f (IntKind.u64.wrap (a0_2))).bind fun t503 => (some t503)) = some r := by rw [if_pos rfl] at H; exact H
  clear H
  have H := H1
  clear H1
  replace H := Option.bind_eq_some_iff.mp H
  obtain ⟨t503, A40, H⟩ := H
  replace H : (some t503) = some r := H
  have A4 := Aside0.mk A40
  clear A40
  obtain rfl := Option.some.inj H
  go_enter Try.func33, Try.ntmps33
  go_wp2_with (first | (refine box_ (N := 1) (cs := #[.int .i64 a0_0, .int .i64 a0_1, .int .i64 a0_2]) (t := 32) ?_; intro gb501 hg w5 hbox hb; have BK501 := Aside0.mk (hbox); have GW501 := HB.g0 hg; have GE501 := HB.g0 hg; replace HB := HB.s0 hb; clear hb hbox hg; obtain ⟨hcz6_0, hcz6_1, hcz6_2⟩ := cz3_ BK501.out; obtain ⟨hfz6_0, hfz6_1, hfz6_2⟩ := fz3_ BK501.out) | (refine gl_ 4 Try.func36 #[.agg #[.int .i64 a0_0, .int .i64 a0_1, .int .i64 a0_2]] ?_; (with_reducible refine (impl_MazeOk.calls a0_0 a0_1 a0_2 true _ A2.out).mono ?_); rintro e w7 ⟨rfl, hb⟩; refine ⟨_, rfl, ?_⟩; replace BK501 := BK501.bb hb; replace HB := HB.s1 GE501 hb; (try clear hb); obtain ⟨hcz8_0, hcz8_1, hcz8_2⟩ := cz3_ BK501.out; obtain ⟨hfz8_0, hfz8_1, hfz8_2⟩ := fz3_ BK501.out) | (refine gl_ 9 Try.func48 #[.int .u64 (IntKind.u64.wrap (a0_2))] ?_; (with_reducible refine (bits_OnesCount.calls (IntKind.u64.wrap (a0_2)) t503 _ A4.out).mono ?_); rintro e w' ⟨rfl, ⟨nd, rfl⟩⟩; refine ⟨_, rfl, ?_⟩))
  go_ret
  exact ⟨ex_, hb1_ HB.out GE501.out⟩
 ·replace c3 := Bool.eq_false_iff.mpr c3
  subst c3
  have H1 : (some 0) = some r := by rw [if_neg (show ¬ (false = true) by decide)] at H; exact H
  clear H
  have H := H1
  clear H1
  obtain rfl := Option.some.inj H
  go_enter Try.func33, Try.ntmps33
  go_wp2_with (first | (refine box_ (N := 1) (cs := #[.int .i64 a0_0, .int .i64 a0_1, .int .i64 a0_2]) (t := 32) ?_; intro gb501 hg w9 hbox hb; have BK501 := Aside0.mk (hbox); have GW501 := HB.g0 hg; have GE501 := HB.g0 hg; replace HB := HB.s0 hb; clear hb hbox hg; obtain ⟨hcz10_0, hcz10_1, hcz10_2⟩ := cz3_ BK501.out; obtain ⟨hfz10_0, hfz10_1, hfz10_2⟩ := fz3_ BK501.out) | (refine gl_ 4 Try.func36 #[.agg #[.int .i64 a0_0, .int .i64 a0_1, .int .i64 a0_2]] ?_; (with_reducible refine (impl_MazeOk.calls a0_0 a0_1 a0_2 false _ A2.out).mono ?_); rintro e w11 ⟨rfl, hb⟩; refine ⟨_, rfl, ?_⟩; replace BK501 := BK501.bb hb; replace HB := HB.s1 GE501 hb; (try clear hb)))
  go_ret
  exact ⟨ex_, hb1_ HB.out GE501.out⟩

/-! ### impl_IsPerfect: function 19 -/
def impl_IsPerfect.f (k : Nat) (a0_0 : Int) (a0_1 : Int) (a0_2 : Int) : Option (Bool) := (impl_IsConnected.f k a0_0 a0_1 a0_2).bind fun t502 => (if t502 = true then ((impl_CountPassages.f a0_0 a0_1 a0_2).bind fun t503 => ((impl_CountCells.f a0_0 a0_1).bind fun t504 => (some (t503 == (wrap64 (t504 - 1)))))) else (some false))
theorem impl_IsPerfect.mono : ∀ a0 a1 a2 k, LeO (impl_IsPerfect.f k a0 a1 a2) (impl_IsPerfect.f (k + 1) a0 a1 a2) := by
 intro a0 a1 a2 k
 unfold impl_IsPerfect.f
 repeat' first
   | (with_reducible exact impl_IsConnected.mono ..)
   | (with_reducible first | exact lr_ _ | exact ln_ _ | refine li_ ?_ ?_ | refine lb_ ?_ fun _ => ?_)
   | exact impl_IsConnected.mono ..
   | exact ln_ _ | refine li_ ?_ ?_ | refine lb_ ?_ fun _ => ?_
def impl_IsPerfect.T1 : Bool × List (List Nat × List Nat) := (true, [([], []), ([0], [0]), ([1, 1], [1]), ([2], [2]), ([3, 2, 2], [2, 3]), ([2], [2]), ([5, 2], [2, 5]), ([6, 4, 2], [2, 6]), ([7, 2], [2, 7]), ([4, 8, 2], [2, 4, 8]), ([2, 9], [2, 9]), ([10, 7, 0, 1, 2, 3, 4, 5, 6, 7, 8, 9, 10], [10])])
def impl_IsPerfect.B1 : List Nat := [0, 1, 3, 7, 15, 7, 39, 127, 255, 511, 1023, 2047]
theorem impl_IsPerfect.tab1 : rtab .any (opsOf Try.f19 1) = impl_IsPerfect.T1 := by kernel_rfl
theorem impl_IsPerfect.bits1 : waitsOk impl_IsPerfect.T1.2 impl_IsPerfect.B1 = true := by kernel_rfl
set_option maxHeartbeats 8000000 in
set_option maxRecDepth 100000 in
theorem impl_IsPerfect.calls (k : Nat) (a0_0 : Int) (a0_1 : Int) (a0_2 : Int) (r : Bool) (w : World) (h : impl_IsPerfect.f k a0_0 a0_1 a0_2 = some r) :
  Calls Try.prog 19 #[.agg #[.int .i64 a0_0, .int .i64 a0_1, .int .i64 a0_2]] w fun e w' => e = .returned (.bool r) ∧ Below w.heap.size w w' := by
 have hu32 := Try.underlying32
 have hu25 := Try.underlying25
 have HB := Aside0.mk (Below.refl w.heap.size w)
 have H : ((impl_IsConnected.f k a0_0 a0_1 a0_2).bind fun t502 => (if t502 = true then ((impl_CountPassages.f a0_0 a0_1 a0_2).bind fun t503 => ((impl_CountCells.f a0_0 a0_1).bind fun t504 => (some (t503 == (wrap64 (t504 - 1)))))) else (some false))) = some r := h
 clear h
 replace H := Option.bind_eq_some_iff.mp H
 obtain ⟨t502, A20, H⟩ := H
 replace H : (if t502 = true then ((impl_CountPassages.f a0_0 a0_1 a0_2).bind fun t503 => ((impl_CountCells.f a0_0 a0_1).bind fun t504 => (some (t503 == (wrap64 (t504 - 1)))))) else (some false)) = some r := H
 have A2 := Aside0.mk A20
 clear A20
 by_cases c3 : t502 = true
 ·subst c3
  have H1 : ((impl_CountPassages.f a0_0 a0_1 a0_2).bind fun t503 => ((impl_CountCells.f a0_0 a0_1).bind fun t504 => (some (t503 == (wrap64 (t504 - 1)))))) = some r := by rw [if_pos rfl] at H; exact H
  clear H
  have H := H1
  clear H1
  replace H := Option.bind_eq_some_iff.mp H
  obtain ⟨t503, A40, H⟩ := H
  replace H : ((impl_CountCells.f a0_0 a0_1).bind fun t504 => (some (t503 == (wrap64 (t504 - 1))))) = some r := H
  have A4 := Aside0.mk A40
  clear A40
  replace H := Option.bind_eq_some_iff.mp H
  obtain ⟨t504, A50, H⟩ := H
  replace H : (some (t503 == (wrap64 (t504 - 1)))) = some r := H
  have A5 := Aside0.mk A50
  clear A50
  obtain rfl := Option.some.inj H
  go_enter Try.func19, Try.ntmps19
  try go_wp2_with (first | (refine box_ (N := 1) (cs := #[.int .i64 a0_0, .int .i64 a0_1, .int .i64 a0_2]) (t := 32) ?_; intro gb501 hg w6 hbox hb; have BK501 := Aside0.mk (hbox); have GW501 := HB.g0 hg; have GE501 := HB.g0 hg; replace HB := HB.s0 hb; clear hb hbox hg))
  replace BK501 := Aside0.mk (blk_drew BK501.out)
  replace HB := Aside0.mk (below_drew1 HB.out)
  refine start_ (n := 12) (S := fun w' => w'.cell? ⟨gb501, 0, none⟩ = some (.int .i64 a0_0) ∧ w'.cell? ⟨gb501, 1, none⟩ = some (.int .i64 a0_1) ∧ w'.cell? ⟨gb501, 2, none⟩ = some (.int .i64 a0_2)) (ds := []) #[false, false, false, false, false, false, false, false, false, false, false, false] (by kernel_rfl) rfl rfl ⟨BK501.c 0, BK501.c 1, BK501.c 2⟩ (fun hHeld => ?_); refine with_tabW impl_IsPerfect.tab1 impl_IsPerfect.bits1 (fun HT_ HW_ => ?_)
  generalize w6.drew = w7 at BK501 HB hHeld ⊢
  refine tv3_ (i := 0) (N := some 3) HT_.out HW_.out hHeld ?_
  refine ov_ (i := 1) (N := some 4) HT_.out (fun K hK => ?_)
  refine gq_ Try.func32 #[.agg #[.int .i64 a0_0, .int .i64 a0_1, .int .i64 a0_2]] ?_
  with_reducible refine (impl_IsConnected.calls k a0_0 a0_1 a0_2 true _ A2.out).mono ?_
  rintro e w8 ⟨rfl, hb⟩
  refine ⟨_, rfl, ?_⟩
  replace BK501 := BK501.bb hb
  replace HB := HB.s1 GE501 hb
  skip
  (try clear hb2)
  (try clear hk)
  (try clear hi)
  refine hK.out _ _ ⟨BK501.c 0, BK501.c 1, BK501.c 2⟩ (fun hHeld => ?_)
  clear hK K
  refine nm_ ?_
  refine pv_ (i := 2) (N := some 5) HT_.out ?_
  refine pv_ (i := 5) (N := some 8) HT_.out ?_
  refine tv3_ (i := 3) (N := some 6) HT_.out HW_.out hHeld ?_
  refine tv3_ (i := 6) (N := some 9) HT_.out HW_.out hHeld ?_
  refine ov_ (i := 4) (N := some 7) HT_.out (fun K hK => ?_)
  refine gq_ Try.func33 #[.agg #[.int .i64 a0_0, .int .i64 a0_1, .int .i64 a0_2]] ?_
  with_reducible refine (impl_CountPassages.calls a0_0 a0_1 a0_2 t503 _ A4.out).mono ?_
  rintro e w9 ⟨rfl, hb⟩
  refine ⟨_, rfl, ?_⟩
  replace BK501 := BK501.bb hb
  replace HB := HB.s1 GE501 hb
  skip
  (try clear hb2)
  (try clear hk)
  (try clear hi)
  refine hK.out _ _ ⟨BK501.c 0, BK501.c 1, BK501.c 2⟩ (fun hHeld => ?_)
  clear hK K
  refine nm_ ?_
  refine ov_ (i := 7) (N := some 10) HT_.out (fun K hK => ?_)
  refine gq_ Try.func31 #[.agg #[.int .i64 a0_0, .int .i64 a0_1]] ?_
  with_reducible refine (impl_CountCells.calls a0_0 a0_1 t504 _ A5.out).mono ?_
  rintro e w10 ⟨rfl, hb⟩
  refine ⟨_, rfl, ?_⟩
  replace BK501 := BK501.bb hb
  replace HB := HB.s1 GE501 hb
  skip
  (try clear hb2)
  (try clear hk)
  (try clear hi)
  refine hK.out _ _ ⟨BK501.c 0, BK501.c 1, BK501.c 2⟩ (fun hHeld => ?_)
  clear hK K
  refine nm_ ?_
  refine pv_ (i := 8) (N := some 11) HT_.out ?_
  refine pv_ (i := 9) (N := some 12) HT_.out ?_
  refine pv_ (i := 10) (N := some 13) HT_.out ?_
  refine pv_ (i := 11) (N := some 2) HT_.out ?_
  refine done_ (done_of HT_.out (by kernel_rfl)) ?_
  try go_wp2
  go_ret
  exact ⟨ex_, hb1_ HB.out GE501.out⟩
 ·replace c3 := Bool.eq_false_iff.mpr c3
  subst c3
  have H1 : (some false) = some r := by rw [if_neg (show ¬ (false = true) by decide)] at H; exact H
  clear H
  have H := H1
  clear H1
  obtain rfl := Option.some.inj H
  go_enter Try.func19, Try.ntmps19
  try go_wp2_with (first | (refine box_ (N := 1) (cs := #[.int .i64 a0_0, .int .i64 a0_1, .int .i64 a0_2]) (t := 32) ?_; intro gb501 hg w11 hbox hb; have BK501 := Aside0.mk (hbox); have GW501 := HB.g0 hg; have GE501 := HB.g0 hg; replace HB := HB.s0 hb; clear hb hbox hg))
  replace BK501 := Aside0.mk (blk_drew BK501.out)
  replace HB := Aside0.mk (below_drew1 HB.out)
  refine start_ (n := 12) (S := fun w' => w'.cell? ⟨gb501, 0, none⟩ = some (.int .i64 a0_0) ∧ w'.cell? ⟨gb501, 1, none⟩ = some (.int .i64 a0_1) ∧ w'.cell? ⟨gb501, 2, none⟩ = some (.int .i64 a0_2)) (ds := []) #[false, false, false, false, false, false, false, false, false, false, false, false] (by kernel_rfl) rfl rfl ⟨BK501.c 0, BK501.c 1, BK501.c 2⟩ (fun hHeld => ?_); refine with_tabW impl_IsPerfect.tab1 impl_IsPerfect.bits1 (fun HT_ HW_ => ?_)
  generalize w11.drew = w12 at BK501 HB hHeld ⊢
  refine tv3_ (i := 0) (N := some 3) HT_.out HW_.out hHeld ?_
  refine ov_ (i := 1) (N := some 4) HT_.out (fun K hK => ?_)
  refine gq_ Try.func32 #[.agg #[.int .i64 a0_0, .int .i64 a0_1, .int .i64 a0_2]] ?_
  with_reducible refine (impl_IsConnected.calls k a0_0 a0_1 a0_2 false _ A2.out).mono ?_
  rintro e w13 ⟨rfl, hb⟩
  refine ⟨_, rfl, ?_⟩
  replace BK501 := BK501.bb hb
  replace HB := HB.s1 GE501 hb
  skip
  (try clear hb2)
  (try clear hk)
  (try clear hi)
  refine hK.out _ _ ⟨BK501.c 0, BK501.c 1, BK501.c 2⟩ (fun hHeld => ?_)
  clear hK K
  refine nm_ ?_
  refine pv_ (i := 2) (N := some 5) HT_.out ?_
  refine pu_ (i := 3) (N := some 6) HT_.out ?_
  refine pu_ (i := 4) (N := some 7) HT_.out ?_
  refine pu_ (i := 5) (N := some 8) HT_.out ?_
  refine pu_ (i := 6) (N := some 9) HT_.out ?_
  refine pu_ (i := 7) (N := some 10) HT_.out ?_
  refine pu_ (i := 8) (N := some 11) HT_.out ?_
  refine pu_ (i := 9) (N := some 12) HT_.out ?_
  refine pv_ (i := 10) (N := some 13) HT_.out ?_
  refine pv_ (i := 11) (N := some 2) HT_.out ?_
  refine done_ (done_of HT_.out (by kernel_rfl)) ?_
  try go_wp2
  go_ret
  exact ⟨ex_, hb1_ HB.out GE501.out⟩

/-! ### impl_ListTrees: function 29 -/
mutual
def impl_ListTrees.j0 : Nat → Bool → Int → Int → Int → Option ((List (S32)))
 | 0, _, _, _, _ => none
 | k + 1, x13, x502000, x502001, x502002 => if x13 = true then (some ([] : List (S32))) else (impl_ListTrees.l0 k ([] : List (S32)) 0 x502000 x502001 x502002)
def impl_ListTrees.l0 : Nat → List (S32) → Int → Int → Int → Int → Option ((List (S32)))
 | 0, _, _, _, _, _ => none
 | k + 1, x3, x4, x502000, x502001, x502002 => if x4 ≤ x502002 then (if (Go.bits .andNot .i64 x4 x502002) = 0 then ((bits_OnesCount.f (IntKind.u64.wrap (x4))).bind fun t504 => ((impl_CountCells.f x502000 x502001).bind fun t505 => (impl_ListTrees.j2 k x3 x4 (t504 != (wrap64 (t505 - 1))) x502000 x502001 x502002))) else (impl_ListTrees.j2 k x3 x4 true x502000 x502001 x502002)) else (some x3)
def impl_ListTrees.j2 : Nat → List (S32) → Int → Bool → Int → Int → Int → Option ((List (S32)))
 | 0, _, _, _, _, _, _ => none
 | k + 1, x3, x4, x34, x502000, x502001, x502002 => if x34 = true then (impl_ListTrees.l0 k x3 (wrap64 (x4 + 1)) x502000 x502001 x502002) else ((impl_IsPerfect.f k x502000 x502001 x4).bind fun t507 => (if t507 = true then (if x3.length < 5864062014805 then (impl_ListTrees.l0 k (x3 ++ [(⟨(⟨x502000, x502001⟩ : S25), x4⟩ : S32)]) (wrap64 (x4 + 1)) x502000 x502001 x502002) else (none)) else (impl_ListTrees.l0 k x3 (wrap64 (x4 + 1)) x502000 x502001 x502002)))
end
def impl_ListTrees.f (k : Nat) (a0_0 : Int) (a0_1 : Int) (a0_2 : Int) : Option ((List (S32))) := (impl_MazeOk.f a0_0 a0_1 a0_2).bind fun t502 => (if t502 = true then ((impl_CountPassages.f a0_0 a0_1 a0_2).bind fun t503 => (impl_ListTrees.j0 k (decide (t503 > 12)) a0_0 a0_1 a0_2)) else (impl_ListTrees.j0 k true a0_0 a0_1 a0_2))
theorem impl_ListTrees.mono_l : ∀ k, (∀ y0 y1 y2 y3, LeO (impl_ListTrees.j0 k y0 y1 y2 y3) (impl_ListTrees.j0 (k + 1) y0 y1 y2 y3)) ∧ (∀ y0 y1 y2 y3 y4, LeO (impl_ListTrees.l0 k y0 y1 y2 y3 y4) (impl_ListTrees.l0 (k + 1) y0 y1 y2 y3 y4)) ∧ (∀ y0 y1 y2 y3 y4 y5, LeO (impl_ListTrees.j2 k y0 y1 y2 y3 y4 y5) (impl_ListTrees.j2 (k + 1) y0 y1 y2 y3 y4 y5))
 | 0 => ⟨fun _ _ _ _ r h => by simp [impl_ListTrees.j0] at h, fun _ _ _ _ _ r h => by simp [impl_ListTrees.l0] at h, fun _ _ _ _ _ _ r h => by simp [impl_ListTrees.j2] at h⟩
 | k + 1 => by
  obtain ⟨ih0, ih1, ih2⟩ := impl_ListTrees.mono_l k
  refine ⟨?_, ?_, ?_⟩
  ·intro y0 y1 y2 y3
   unfold impl_ListTrees.j0
   repeat' first
   | (with_reducible exact ih0 ..)
   | (with_reducible exact ih1 ..)
   | (with_reducible exact ih2 ..)
   | (with_reducible exact impl_IsPerfect.mono ..)
   | (with_reducible first | exact lr_ _ | exact ln_ _ | refine li_ ?_ ?_ | refine lb_ ?_ fun _ => ?_)
   | exact ih0 ..
   | exact ih1 ..
   | exact ih2 ..
   | exact impl_IsPerfect.mono ..
   | exact ln_ _ | refine li_ ?_ ?_ | refine lb_ ?_ fun _ => ?_
  ·intro y0 y1 y2 y3 y4
   unfold impl_ListTrees.l0
   repeat' first
   | (with_reducible exact ih0 ..)
   | (with_reducible exact ih1 ..)
   | (with_reducible exact ih2 ..)
   | (with_reducible exact impl_IsPerfect.mono ..)
   | (with_reducible first | exact lr_ _ | exact ln_ _ | refine li_ ?_ ?_ | refine lb_ ?_ fun _ => ?_)
   | exact ih0 ..
   | exact ih1 ..
   | exact ih2 ..
   | exact impl_IsPerfect.mono ..
   | exact ln_ _ | refine li_ ?_ ?_ | refine lb_ ?_ fun _ => ?_
  ·intro y0 y1 y2 y3 y4 y5
   unfold impl_ListTrees.j2
   repeat' first
   | (with_reducible exact ih0 ..)
   | (with_reducible exact ih1 ..)
   | (with_reducible exact ih2 ..)
   | (with_reducible exact impl_IsPerfect.mono ..)
   | (with_reducible first | exact lr_ _ | exact ln_ _ | refine li_ ?_ ?_ | refine lb_ ?_ fun _ => ?_)
   | exact ih0 ..
   | exact ih1 ..
   | exact ih2 ..
   | exact impl_IsPerfect.mono ..
   | exact ln_ _ | refine li_ ?_ ?_ | refine lb_ ?_ fun _ => ?_
theorem impl_ListTrees.mono : ∀ a0 a1 a2 k, LeO (impl_ListTrees.f k a0 a1 a2) (impl_ListTrees.f (k + 1) a0 a1 a2) := by
 intro a0 a1 a2 k
 obtain ⟨ih0, ih1, ih2⟩ := impl_ListTrees.mono_l k
 unfold impl_ListTrees.f
 repeat' first
   | (with_reducible exact ih0 ..)
   | (with_reducible exact ih1 ..)
   | (with_reducible exact ih2 ..)
   | (with_reducible exact impl_IsPerfect.mono ..)
   | (with_reducible first | exact lr_ _ | exact ln_ _ | refine li_ ?_ ?_ | refine lb_ ?_ fun _ => ?_)
   | exact ih0 ..
   | exact ih1 ..
   | exact ih2 ..
   | exact impl_IsPerfect.mono ..
   | exact ln_ _ | refine li_ ?_ ?_ | refine lb_ ?_ fun _ => ?_
def impl_ListTrees.T7 : Bool × List (List Nat × List Nat) := (true, [([], []), ([], []), ([1], [1]), ([0, 2], [0, 2]), ([3], [3]), ([4], [4]), ([5], [5]), ([6, 5], [5, 6]), ([7, 5, 5], [5, 7]), ([5], [5]), ([9, 5], [5, 9]), ([10, 8, 5], [5, 10]), ([11, 5], [5, 11]), ([8, 12, 5], [5, 8, 12]), ([5, 13], [5, 13])])
def impl_ListTrees.B7 : List Nat := [0, 0, 2, 7, 15, 31, 63, 127, 255, 63, 575, 2047, 4095, 8191, 16383]
theorem impl_ListTrees.tab7 : rtab .any (opsOf Try.f29 7) = impl_ListTrees.T7 := by kernel_rfl
theorem impl_ListTrees.bits7 : waitsOk impl_ListTrees.T7.2 impl_ListTrees.B7 = true := by kernel_rfl
set_option maxHeartbeats 8000000 in
set_option maxRecDepth 100000 in
theorem impl_ListTrees.calls (k : Nat) (a0_0 : Int) (a0_1 : Int) (a0_2 : Int) (r : List (S32)) (w : World) (h : impl_ListTrees.f k a0_0 a0_1 a0_2 = some r) :
  Calls Try.prog 29 #[.agg #[.int .i64 a0_0, .int .i64 a0_1, .int .i64 a0_2]] w fun e w' => ∃ v0_ : Value, e = .returned (v0_) ∧ Kd.R k32 32 w' w.heap.size (fun _ => True) v0_ r ∧ Below w.heap.size w w' := by
 have hu32 := Try.underlying32
 have hu25 := Try.underlying25
 have HB := Aside0.mk (Below.refl w.heap.size w)
 have H : ((impl_MazeOk.f a0_0 a0_1 a0_2).bind fun t502 => (if t502 = true then ((impl_CountPassages.f a0_0 a0_1 a0_2).bind fun t503 => (impl_ListTrees.j0 k (decide (t503 > 12)) a0_0 a0_1 a0_2)) else (impl_ListTrees.j0 k true a0_0 a0_1 a0_2))) = some r := h
 clear h
 have HC2 := Aside0.mk H
 clear H
 go_enter Try.func29, Try.ntmps29
 go_upto_region 1 with (first | (refine box_ (N := 1) (cs := #[.int .i64 a0_0, .int .i64 a0_1, .int .i64 a0_2]) (t := 32) ?_; intro gb501 hg w3 hbox hb; have BK501 := Aside0.mk (hbox); have GW501 := HB.g0 hg; have GE501 := HB.g0 hg; replace HB := HB.s0 hb; clear hb hbox hg))
 (try simp only [Act.put, List.setIfInBounds_toArray, List.set_cons_zero, List.set_cons_succ])
 go_cut [13] (fun v13 wc => ∃ (kq : Nat) (x13_1 : Bool), v13 = .bool x13_1 ∧ Aside0 (impl_ListTrees.j0 kq x13_1 a0_0 a0_1 a0_2 = some r) ∧ Aside0 (kq ≤ k) ∧ Aside0 (wc.heap[gb501]? = some (.cells #[.int .i64 a0_0, .int .i64 a0_1, .int .i64 a0_2] 32 (0, 0))) ∧ Aside0 (Below w.heap.size w wc))
 case first =>
  have H := HC2.out
  clear HC2
  replace H := Option.bind_eq_some_iff.mp H
  obtain ⟨t502, A40, H⟩ := H
  replace H : (if t502 = true then ((impl_CountPassages.f a0_0 a0_1 a0_2).bind fun t503 => (impl_ListTrees.j0 k (decide (t503 > 12)) a0_0 a0_1 a0_2)) else (impl_ListTrees.j0 k true a0_0 a0_1 a0_2)) = some r := H
  have A4 := Aside0.mk A40
  clear A40
  by_cases c5 : t502 = true
  ·subst c5
   have H1 : ((impl_CountPassages.f a0_0 a0_1 a0_2).bind fun t503 => (impl_ListTrees.j0 k (decide (t503 > 12)) a0_0 a0_1 a0_2)) = some r := by rw [if_pos rfl] at H; exact H
   clear H
   have H := H1
   clear H1
   replace H := Option.bind_eq_some_iff.mp H
   obtain ⟨t503, A60, H⟩ := H
   replace H : (impl_ListTrees.j0 k (decide (t503 > 12)) a0_0 a0_1 a0_2) = some r := H
   have A6 := Aside0.mk A60
   clear A60
   have H' := Aside0.mk H
   clear H
   obtain ⟨hcz7_0, hcz7_1, hcz7_2⟩ := cz3_ BK501.out
   obtain ⟨hfz7_0, hfz7_1, hfz7_2⟩ := fz3_ BK501.out
   go_wp2_with (first | (refine gl_ 7 Try.func36 #[.agg #[.int .i64 a0_0, .int .i64 a0_1, .int .i64 a0_2]] ?_; (with_reducible refine (impl_MazeOk.calls a0_0 a0_1 a0_2 true _ A4.out).mono ?_); rintro e w8 ⟨rfl, hb⟩; refine ⟨_, rfl, ?_⟩; replace BK501 := BK501.bb hb; replace HB := HB.s1 GE501 hb; (try clear hb); obtain ⟨hcz9_0, hcz9_1, hcz9_2⟩ := cz3_ BK501.out; obtain ⟨hfz9_0, hfz9_1, hfz9_2⟩ := fz3_ BK501.out) | (go_at_call 33; (with_reducible refine (impl_CountPassages.calls a0_0 a0_1 a0_2 t503 _ A6.out).mono ?_); rintro e w10 ⟨rfl, hb⟩; replace BK501 := BK501.bb hb; replace HB := HB.s1 GE501 hb; (try clear hb)))
   go_meet
   case rel => exact ⟨_, (decide (t503 > 12)), (by first | rfl | (simp; done) | (simp [*]; done)), H', ⟨by first | omega | exact Nat.le_refl _⟩, ⟨bk_ BK501.out⟩, ⟨hb1_ HB.out GE501.out⟩⟩
  ·replace c5 := Bool.eq_false_iff.mpr c5
   subst c5
   have H1 : (impl_ListTrees.j0 k true a0_0 a0_1 a0_2) = some r := by rw [if_neg (show ¬ (false = true) by decide)] at H; exact H
   clear H
   have H := H1
   clear H1
   have H' := Aside0.mk H
   clear H
   obtain ⟨hcz11_0, hcz11_1, hcz11_2⟩ := cz3_ BK501.out
   obtain ⟨hfz11_0, hfz11_1, hfz11_2⟩ := fz3_ BK501.out
   go_wp2_with (first | (refine gl_ 7 Try.func36 #[.agg #[.int .i64 a0_0, .int .i64 a0_1, .int .i64 a0_2]] ?_; (with_reducible refine (impl_MazeOk.calls a0_0 a0_1 a0_2 false _ A4.out).mono ?_); rintro e w12 ⟨rfl, hb⟩; refine ⟨_, rfl, ?_⟩; replace BK501 := BK501.bb hb; replace HB := HB.s1 GE501 hb; (try clear hb)))
   go_meet
   case rel => exact ⟨_, (true), (by first | rfl | (simp; done) | (simp [*]; done)), H', ⟨by first | omega | exact Nat.le_refl _⟩, ⟨bk_ BK501.out⟩, ⟨hb1_ HB.out GE501.out⟩⟩
 case rest =>
  clear HC2
  try clear c2
  try clear p2
  try clear c3
  try clear c5
  try clear hcz11_0
  try clear hcz11_1
  try clear hcz11_2
  try clear hcz7_0
  try clear hcz7_1
  try clear hcz7_2
  try clear hcz9_0
  try clear hcz9_1
  try clear hcz9_2
  try clear hfz11_0
  try clear hfz11_1
  try clear hfz11_2
  try clear hfz7_0
  try clear hfz7_1
  try clear hfz7_2
  try clear hfz9_0
  try clear hfz9_1
  try clear hfz9_2
  obtain ⟨kq, x13_1, rfl, HA, HJ1, BK501, HB⟩ := hcut
  cases kq with
  | zero => exact absurd HA.out (by simp [impl_ListTrees.j0])
  | succ kj1 =>
   have H := HA.out
   clear HA
   simp only [impl_ListTrees.j0] at H
   by_cases c13 : x13_1 = true
   ·subst c13
    have H1 : (some ([] : List (S32))) = some r := by rw [if_pos rfl] at H; exact H
    clear H
    have H := H1
    clear H1
    obtain rfl := Option.some.inj H
    go_wp2
    go_ret
    exact ⟨_, ex_, by first | exact Kd.R_nil _ _ _ _ _ | exact Kd.N_nil _ _ _ _ _ | exact Kd.V_nil _ _ _ _ _ | exact Kd.Q_nil _ _ _ _ _ | exact Kd.S_nil _ _ _ _ _, hb1_ HB.out GE501.out⟩
   ·replace c13 := Bool.eq_false_iff.mpr c13
    subst c13
    have H1 : (impl_ListTrees.l0 kj1 ([] : List (S32)) 0 a0_0 a0_1 a0_2) = some r := by rw [if_neg (show ¬ (false = true) by decide)] at H; exact H
    clear H
    have H := H1
    clear H1
    have H' := Aside0.mk H
    clear H
    go_wp2
    go_loopg [3, 4] kj1 (fun kq v3 v4 w' => ∃ (x3_2 : List (S32)) (x4_2 : Int), v4 = .int .i64 x4_2 ∧ Aside0 (impl_ListTrees.l0 kq x3_2 x4_2 a0_0 a0_1 a0_2 = some r) ∧ Aside0 (kq ≤ kj1) ∧ Aside0 (Kd.R k32 32 w' w.heap.size (fun k_ => k_ ≠ gb501) v3 x3_2) ∧ Aside0 (w'.heap[gb501]? = some (.cells #[.int .i64 a0_0, .int .i64 a0_1, .int .i64 a0_2] 32 (0, 0))) ∧ Aside0 (Below w.heap.size w w'))
    case atStart => exact ⟨(([] : List (S32))), (0), (by first | rfl | (simp; done) | (simp [*]; done)), H', ⟨Nat.le_refl _⟩, ⟨by first | exact Kd.R_nil _ _ _ _ _ | exact Kd.N_nil _ _ _ _ _ | exact Kd.V_nil _ _ _ _ _ | exact Kd.Q_nil _ _ _ _ _ | exact Kd.S_nil _ _ _ _ _⟩, ⟨bk_ BK501.out⟩, ⟨hb1_ HB.out GE501.out⟩⟩
    case round =>
     clear H'
     try clear c1
     try clear c2
     try clear p2
     try clear c3
     try clear c5
     try clear c13
     try clear hcz11_0
     try clear hcz11_1
     try clear hcz11_2
     try clear hcz7_0
     try clear hcz7_1
     try clear hcz7_2
     try clear hcz9_0
     try clear hcz9_1
     try clear hcz9_2
     try clear hfz11_0
     try clear hfz11_1
     try clear hfz11_2
     try clear hfz7_0
     try clear hfz7_1
     try clear hfz7_2
     try clear hfz9_0
     try clear hfz9_1
     try clear hfz9_2
     try clear p2
     obtain ⟨x3_2, x4_2, rfl, HA, HK2, HO_3, BK501, HB⟩ := hrel
     cases gk with
     | zero => exact absurd HA.out (by simp [impl_ListTrees.l0])
     | succ k2 =>
      have H := HA.out
      clear HA
      simp only [impl_ListTrees.l0] at H
      by_cases c14 : x4_2 ≤ a0_2
      ·rw [if_pos c14] at H
       have c14b0 : decide (x4_2 ≤ a0_2) = true := decide_eq_true c14
       clear c14
       have HC15 := Aside0.mk H
       clear H
       obtain ⟨hcz16_0, hcz16_1, hcz16_2⟩ := cz3_ BK501.out
       obtain ⟨hfz16_0, hfz16_1, hfz16_2⟩ := fz3_ BK501.out
       go_upto_region 7 with (fail)
       go_cut [34] (fun v34 wc => ∃ (kq : Nat) (x34_14 : Bool), v34 = .bool x34_14 ∧ Aside0 (impl_ListTrees.j2 kq x3_2 x4_2 x34_14 a0_0 a0_1 a0_2 = some r) ∧ Aside0 (kq ≤ k2) ∧ Aside0 (Kd.R k32 32 wc w.heap.size (fun k_ => k_ ≠ gb501) u3 x3_2) ∧ Aside0 (wc.heap[gb501]? = some (.cells #[.int .i64 a0_0, .int .i64 a0_1, .int .i64 a0_2] 32 (0, 0))) ∧ Aside0 (Below w.heap.size w wc))
       case first =>
        have H := HC15.out
        clear HC15
        by_cases c17 : (Go.bits .andNot .i64 x4_2 a0_2) = 0
        ·rw [if_pos c17] at H
         have c17b0 : ((Go.bits .andNot .i64 x4_2 a0_2) == 0) = true := beq_iff_eq.mpr c17
         have c17b1 : ((Go.bits .andNot .i64 x4_2 a0_2) != 0) = false := bne_eq_false_iff_eq.mpr c17
         clear c17
         (first | rw [c17b0] | (simp only [i64_w, i32_w]; rw [c17b0]) | skip)
         replace H := Option.bind_eq_some_iff.mp H
         obtain ⟨t504, A180, H⟩ := H
         replace H : ((impl_CountCells.f a0_0 a0_1).bind fun t505 => (impl_ListTrees.j2 k2 x3_2 x4_2 (t504 != (wrap64 (t505 - 1))) a0_0 a0_1 a0_2)) = some r := H
         have A18 := Aside0.mk A180
         clear A180
         replace H := Option.bind_eq_some_iff.mp H
         obtain ⟨t505, A190, H⟩ := H
         replace H : (impl_ListTrees.j2 k2 x3_2 x4_2 (t504 != (wrap64 (t505 - 1))) a0_0 a0_1 a0_2) = some r := H
         have A19 := Aside0.mk A190
         clear A190
         have H' := Aside0.mk H
         clear H
         try go_wp2
         replace HO_3 := Aside0.mk (Kd.R_drew HO_3.out)
         replace BK501 := Aside0.mk (blk_drew BK501.out)
         replace HB := Aside0.mk (below_drew1 HB.out)
         refine start_ (n := 15) (S := fun w' => w'.cell? ⟨gb501, 0, none⟩ = some (.int .i64 a0_0) ∧ w'.cell? ⟨gb501, 1, none⟩ = some (.int .i64 a0_1) ∧ w'.cell? ⟨gb501, 2, none⟩ = some (.int .i64 a0_2)) (ds := []) #[false, false, false, false, false, false, false, false, false, false, false, false, false, false, false] (by kernel_rfl) rfl rfl ⟨BK501.c 0, BK501.c 1, BK501.c 2⟩ (fun hHeld => ?_); refine with_tabW impl_ListTrees.tab7 impl_ListTrees.bits7 (fun HT_ HW_ => ?_)
         generalize wr.drew = w20 at HO_3 BK501 HB hHeld ⊢
         refine pv_ (i := 0) (N := some 20) HT_.out ?_
         refine pv_ (i := 1) (N := some 21) HT_.out ?_
         refine tv3_ (i := 2) (N := some 22) HT_.out HW_.out hHeld ?_
         refine pv_ (i := 3) (N := some 23) HT_.out ?_
         refine pv_ (i := 4) (N := some 24) HT_.out ?_
         refine pv_ (i := 5) (N := some 25) HT_.out ?_
         refine pv_ (i := 6) (N := some 26) HT_.out ?_
         refine pv_ (i := 7) (N := some 27) HT_.out ?_
         refine pv_ (i := 9) (N := some 29) HT_.out ?_
         refine tv3_ (i := 10) (N := some 30) HT_.out HW_.out hHeld ?_
         refine ov_ (i := 8) (N := some 28) HT_.out (fun K hK => ?_)
         refine gq_ Try.func48 #[.int .u64 (IntKind.u64.wrap (x4_2))] ?_
         with_reducible refine (bits_OnesCount.calls (IntKind.u64.wrap (x4_2)) t504 _ A18.out).mono ?_
         rintro e w' ⟨rfl, ⟨nd, rfl⟩⟩
         refine ⟨_, rfl, ?_⟩
         refine hK.out _ _ ⟨BK501.c 0, BK501.c 1, BK501.c 2⟩ (fun hHeld => ?_)
         clear hK K
         refine nm_ ?_
         refine ov_ (i := 11) (N := some 31) HT_.out (fun K hK => ?_)
         refine gq_ Try.func31 #[.agg #[.int .i64 a0_0, .int .i64 a0_1]] ?_
         with_reducible refine (impl_CountCells.calls a0_0 a0_1 t505 _ A19.out).mono ?_
         rintro e w21 ⟨rfl, hb⟩
         refine ⟨_, rfl, ?_⟩
         replace HO_3 := HO_3.kb hb
         replace BK501 := BK501.bb hb
         replace HB := HB.s1 GE501 hb
         skip
         (try clear hb2)
         (try clear hk)
         (try clear hi)
         refine hK.out _ _ ⟨BK501.c 0, BK501.c 1, BK501.c 2⟩ (fun hHeld => ?_)
         clear hK K
         refine nm_ ?_
         refine pv_ (i := 12) (N := some 32) HT_.out ?_
         refine pv_ (i := 13) (N := some 33) HT_.out ?_
         refine pv_ (i := 14) (N := some 34) HT_.out ?_
         refine done_ (done_of HT_.out (by kernel_rfl)) ?_
         try go_wp2
         go_meet
         case rel => exact ⟨_, ((t504 != (wrap64 (t505 - 1)))), (by first | rfl | (simp; done) | (simp [*]; done)), H', ⟨by have := HJ1.out; have := HK2.out; first | omega | exact Nat.le_refl _⟩, ⟨kr_ HO_3.out⟩, ⟨bk_ BK501.out⟩, ⟨hb1_ HB.out GE501.out⟩⟩
        ·rw [if_neg c17] at H
         have c17b0 : ((Go.bits .andNot .i64 x4_2 a0_2) == 0) = false := beq_eq_false_iff_ne.mpr c17
         have c17b1 : ((Go.bits .andNot .i64 x4_2 a0_2) != 0) = true := bne_iff_ne.mpr c17
         (first | rw [c17b0] | (simp only [i64_w, i32_w]; rw [c17b0]) | skip)
         have H' := Aside0.mk H
         clear H
         try go_wp2
         replace HO_3 := Aside0.mk (Kd.R_drew HO_3.out)
         replace BK501 := Aside0.mk (blk_drew BK501.out)
         replace HB := Aside0.mk (below_drew1 HB.out)
         refine start_ (n := 15) (S := fun w' => w'.cell? ⟨gb501, 0, none⟩ = some (.int .i64 a0_0) ∧ w'.cell? ⟨gb501, 1, none⟩ = some (.int .i64 a0_1) ∧ w'.cell? ⟨gb501, 2, none⟩ = some (.int .i64 a0_2)) (ds := []) #[false, false, false, false, false, false, false, false, false, false, false, false, false, false, false] (by kernel_rfl) rfl rfl ⟨BK501.c 0, BK501.c 1, BK501.c 2⟩ (fun hHeld => ?_); refine with_tabW impl_ListTrees.tab7 impl_ListTrees.bits7 (fun HT_ HW_ => ?_)
         generalize wr.drew = w22 at HO_3 BK501 HB hHeld ⊢
         refine pv_ (i := 0) (N := some 20) HT_.out ?_
         refine pv_ (i := 1) (N := some 21) HT_.out ?_
         refine tv3_ (i := 2) (N := some 22) HT_.out HW_.out hHeld ?_
         refine pv_ (i := 3) (N := some 23) HT_.out ?_
         refine pv_ (i := 4) (N := some 24) HT_.out ?_
         refine pv_ (i := 5) (N := some 25) HT_.out ?_
         refine pu_ (i := 6) (N := some 26) HT_.out ?_
         refine pu_ (i := 7) (N := some 27) HT_.out ?_
         refine pu_ (i := 8) (N := some 28) HT_.out ?_
         refine pu_ (i := 9) (N := some 29) HT_.out ?_
         refine pu_ (i := 10) (N := some 30) HT_.out ?_
         refine pu_ (i := 11) (N := some 31) HT_.out ?_
         refine pu_ (i := 12) (N := some 32) HT_.out ?_
         refine pu_ (i := 13) (N := some 33) HT_.out ?_
         refine pv_ (i := 14) (N := some 34) HT_.out ?_
         refine done_ (done_of HT_.out (by kernel_rfl)) ?_
         try go_wp2
         go_meet
         case rel => exact ⟨_, (true), (by first | rfl | (simp; done) | (simp [*]; done)), H', ⟨by have := HJ1.out; have := HK2.out; first | omega | exact Nat.le_refl _⟩, ⟨kr_ HO_3.out⟩, ⟨bk_ BK501.out⟩, ⟨hb1_ HB.out GE501.out⟩⟩
       case rest =>
        clear HC15
        try clear c1
        try clear c2
        try clear p2
        try clear c3
        try clear c4
        try clear c5
        try clear p6
        try clear c13
        try clear c14
        try clear c14b0
        try clear c17
        try clear c17b0
        try clear c17b1
        try clear hcz11_0
        try clear hcz11_1
        try clear hcz11_2
        try clear hcz16_0
        try clear hcz16_1
        try clear hcz16_2
        try clear hcz7_0
        try clear hcz7_1
        try clear hcz7_2
        try clear hcz9_0
        try clear hcz9_1
        try clear hcz9_2
        try clear hfz11_0
        try clear hfz11_1
        try clear hfz11_2
        try clear hfz16_0
        try clear hfz16_1
        try clear hfz16_2
        try clear hfz7_0
        try clear hfz7_1
        try clear hfz7_2
        try clear hfz9_0
        try clear hfz9_1
        try clear hfz9_2
        try clear p2
        obtain ⟨kq, x34_14, rfl, HA, HJ14, HO_3, BK501, HB⟩ := hcut
        cases kq with
        | zero => exact absurd HA.out (by simp [impl_ListTrees.j2])
        | succ kj14 =>
         have H := HA.out
         clear HA
         simp only [impl_ListTrees.j2] at H
         by_cases c23 : x34_14 = true
         ·subst c23
          have H1 : (impl_ListTrees.l0 kj14 x3_2 (wrap64 (x4_2 + 1)) a0_0 a0_1 a0_2) = some r := by rw [if_pos rfl] at H; exact H
          clear H
          have H := H1
          clear H1
          have H' := Aside0.mk H
          clear H
          go_wp2
          go_roundg kj14
          case measure => have := HJ1.out; have := HK2.out; have := HJ14.out; omega
          case rel => exact ⟨(x3_2), (wrap64 (x4_2 + 1)), (by first | rfl | (simp; done) | (simp [*]; done)), H', ⟨by have := HJ1.out; have := HK2.out; have := HJ14.out; omega⟩, ⟨kr_ HO_3.out⟩, ⟨bk_ BK501.out⟩, ⟨hb1_ HB.out GE501.out⟩⟩
         ·replace c23 := Bool.eq_false_iff.mpr c23
          subst c23
          have H1 : ((impl_IsPerfect.f kj14 a0_0 a0_1 x4_2).bind fun t507 => (if t507 = true then (if x3_2.length < 5864062014805 then (impl_ListTrees.l0 kj14 (x3_2 ++ [(⟨(⟨a0_0, a0_1⟩ : S25), x4_2⟩ : S32)]) (wrap64 (x4_2 + 1)) a0_0 a0_1 a0_2) else (none)) else (impl_ListTrees.l0 kj14 x3_2 (wrap64 (x4_2 + 1)) a0_0 a0_1 a0_2))) = some r := by rw [if_neg (show ¬ (false = true) by decide)] at H; exact H
          clear H
          have H := H1
          clear H1
          replace H := Option.bind_eq_some_iff.mp H
          obtain ⟨t507, A240, H⟩ := H
          replace H : (if t507 = true then (if x3_2.length < 5864062014805 then (impl_ListTrees.l0 kj14 (x3_2 ++ [(⟨(⟨a0_0, a0_1⟩ : S25), x4_2⟩ : S32)]) (wrap64 (x4_2 + 1)) a0_0 a0_1 a0_2) else (none)) else (impl_ListTrees.l0 kj14 x3_2 (wrap64 (x4_2 + 1)) a0_0 a0_1 a0_2)) = some r := H
          have A24 := Aside0.mk A240
          clear A240
          by_cases c25 : t507 = true
          ·subst c25
           have H1 : (if x3_2.length < 5864062014805 then (impl_ListTrees.l0 kj14 (x3_2 ++ [(⟨(⟨a0_0, a0_1⟩ : S25), x4_2⟩ : S32)]) (wrap64 (x4_2 + 1)) a0_0 a0_1 a0_2) else (none)) = some r := by rw [if_pos rfl] at H; exact H
           clear H
           have H := H1
           clear H1
           by_cases c26 : x3_2.length < 5864062014805
           ·rw [if_pos c26] at H
            have LMc26 := Aside0.mk c26
            clear c26
            obtain ⟨y508, hy508⟩ : ∃ y_ : List (S32), y_ = (x3_2 ++ [(⟨(⟨a0_0, a0_1⟩ : S25), x4_2⟩ : S32)]) := ⟨_, rfl⟩
            replace H : (impl_ListTrees.l0 kj14 y508 (wrap64 (x4_2 + 1)) a0_0 a0_1 a0_2) = some r := by first | (rw [hy508]; with_reducible exact H) | (have H2_ := (Option.bind_some _ _).symm.trans H; rw [hy508]; with_reducible exact H2_) | (have H2_ := (Option.bind_some _ _).symm.trans H; with_reducible exact H2_) | with_reducible exact H | (rw [hy508]; exact H) | exact H
            have Ny508 := Aside0.mk hy508
            clear hy508
            have H' := Aside0.mk H
            clear H
            obtain ⟨hcz27_0, hcz27_1, hcz27_2⟩ := cz3_ BK501.out
            obtain ⟨hfz27_0, hfz27_1, hfz27_2⟩ := fz3_ BK501.out
            go_wp2_with (first | (refine box_ (N := 5) (cs := #[.int .i64 0, .int .i64 0, .int .i64 0]) (t := 32) ?_; intro gb506 hg w28 hbox hb; replace HO_3 := Aside0.mk (Kd.R_below (Kd.R_elderB (kr_ HO_3.out) gb506 (Nat.le_of_eq hg.symm)) hb); have BK506 := Aside0.mk (hbox); have GW506 := HB.g1 GE501 hg; have GE506 := HB.g1 GE501 hg; replace HB := HB.s1 GE501 hb; have NB501_506 := BK501.nl hg; have NB506_501 := BK501.nr hg; replace BK501 := BK501.bb hb; clear hb hbox hg; have hnb29 := NB506_501.out; have hnc29 := NB501_506.out; obtain ⟨hcz30_0, hcz30_1, hcz30_2⟩ := cz3_ BK506.out; obtain ⟨hfz30_0, hfz30_1, hfz30_2⟩ := fz3_ BK506.out) | (refine gl_ 40 Try.func19 #[.agg #[.int .i64 a0_0, .int .i64 a0_1, .int .i64 x4_2]] ?_; (with_reducible refine (impl_IsPerfect.calls kj14 a0_0 a0_1 x4_2 true _ A24.out).mono ?_); rintro e w31 ⟨rfl, hb⟩; refine ⟨_, rfl, ?_⟩; replace HO_3 := Aside0.mk (Kd.R_below (by (with_reducible repeat (first | apply Kd.R_alloc | apply Kd.R_drewN | apply Kd.R_drew)); exact (Kd.R_mono (Kd.R_far (p := ⟨gb506, 2, none⟩) (Kd.R_far (p := ⟨gb506, 1, none⟩) (Kd.R_far (p := ⟨gb506, 0, none⟩) (Kd.R_mono HO_3.out (fun k_ hk => (⟨hk, hk.2⟩ : _ ∧ k_ ≠ gb506))) (fun _ hk => hk.2) (.int .i64 a0_0)) (fun _ hk => hk.2) (.int .i64 a0_1)) (fun _ hk => hk.2) (.int .i64 x4_2)) (fun _ h_ => h_.1))) hb); replace BK501 := Aside0.mk (blk_below (g := gb501) (o := .cells #[.int .i64 a0_0, .int .i64 a0_1, .int .i64 a0_2] 32 (0, 0)) (by (with_reducible repeat (first | refine blk_drewN ?_ _ | refine blk_drew ?_ | refine blk_alloc ?_ _)); refine blk_far ?_ NB501_506.out _; (with_reducible repeat (first | refine blk_drewN ?_ _ | refine blk_drew ?_ | refine blk_alloc ?_ _)); refine blk_far ?_ NB501_506.out _; (with_reducible repeat (first | refine blk_drewN ?_ _ | refine blk_drew ?_ | refine blk_alloc ?_ _)); refine blk_far ?_ NB501_506.out _; (with_reducible repeat (first | refine blk_drewN ?_ _ | refine blk_drew ?_ | refine blk_alloc ?_ _)); exact BK501.out) hb); replace BK506 := Aside0.mk (blk_below (bq3_ BK506.out) hb); replace HB := HB.s2 GE501 GE506 hb; (try clear hb); obtain ⟨hcz32_0, hcz32_1, hcz32_2⟩ := cz3_ BK506.out; obtain ⟨hfz32_0, hfz32_1, hfz32_2⟩ := fz3_ BK506.out) | ((with_reducible refine gate_builtin (b := .append) (xs := #[.tmp 41, .tmp 43]) rfl ?_); at_builtin; refine Kd.R_append k32 (w0 := w) w.heap.size rfl (.tmp 41) (.tmp 43) 44 32 (.agg #[(.int .i64 0), (.int .i64 0), (.int .i64 0)]) 24 rfl Try.underlying44 info32 rfl (by decide) (by omega) u3 x3_2 (⟨(⟨a0_0, a0_1⟩ : S25), x4_2⟩ : S32) [.int .i64 a0_0, .int .i64 a0_1, .int .i64 x4_2] (fun k_ => k_ ≠ gb501 ∧ k_ ≠ gb506) (fun _ => False) rfl rfl ?aP (fun _ hk => hk.elim) ?aF ?aO ?aB ?aS ?aL ?_; (case aP => exact k32_mkM _ _ _ (⟨(⟨a0_0, a0_1⟩ : S25), x4_2⟩ : S32)); (case aB => exact (hb2_ HB.out GE501.out GE506.out)); (case aF => exact (fun k_ hk => ⟨Kd.freshB (g := gb501) (o := .cells #[.int .i64 a0_0, .int .i64 a0_1, .int .i64 a0_2] 32 (0, 0)) (bk_ BK501.out) k_ hk, Kd.freshB (g := gb506) (o := .cells #[.int .i64 a0_0, .int .i64 a0_1, .int .i64 x4_2] 32 (0, 0)) (bk_ BK506.out) k_ hk⟩)); (case aO => exact (kr_ HO_3.out)); (case aS => exact (below_size (hb2_ HB.out GE501.out GE506.out))); (case aL => have := LMc26.out; omega); intro v509 w33 ho hb hg hat; rw [← Ny508.out] at ho; replace BK501 := Aside0.mk (blk_grown (g := gb501) (o := .cells #[.int .i64 a0_0, .int .i64 a0_1, .int .i64 a0_2] 32 (0, 0)) (bk_ BK501.out) hg (Kd.R_away HO_3.out (fun _ hk => hk.1))); replace BK506 := Aside0.mk (blk_grown (g := gb506) (o := .cells #[.int .i64 a0_0, .int .i64 a0_1, .int .i64 x4_2] 32 (0, 0)) (bk_ BK506.out) hg (Kd.R_away HO_3.out (fun _ hk => hk.2))); replace HB := Aside0.mk (hb); have HO510 := Aside0.mk (ho); clear HO_3; clear ho hb hg hat))
            go_roundg kj14
            case measure => have := HJ1.out; have := HK2.out; have := HJ14.out; omega
            case rel => exact ⟨(y508), (wrap64 (x4_2 + 1)), (by first | rfl | (simp; done) | (simp [*]; done)), H', ⟨by have := HJ1.out; have := HK2.out; have := HJ14.out; omega⟩, ⟨by (with_reducible repeat (first | apply Kd.R_alloc | apply Kd.R_drewN | apply Kd.R_drew)); exact Kd.R_mono HO510.out (fun _ hk => hk.1)⟩, ⟨bk_ BK501.out⟩, ⟨hb2_ HB.out GE501.out GE506.out⟩⟩
           ·rw [if_neg c26] at H
            exact absurd H (by simp)
          ·replace c25 := Bool.eq_false_iff.mpr c25
           subst c25
           have H1 : (impl_ListTrees.l0 kj14 x3_2 (wrap64 (x4_2 + 1)) a0_0 a0_1 a0_2) = some r := by rw [if_neg (show ¬ (false = true) by decide)] at H; exact H
           clear H
           have H := H1
           clear H1
           have H' := Aside0.mk H
           clear H
           obtain ⟨hcz34_0, hcz34_1, hcz34_2⟩ := cz3_ BK501.out
           obtain ⟨hfz34_0, hfz34_1, hfz34_2⟩ := fz3_ BK501.out
           go_wp2_with (first | (refine box_ (N := 5) (cs := #[.int .i64 0, .int .i64 0, .int .i64 0]) (t := 32) ?_; intro gb506 hg w35 hbox hb; replace HO_3 := Aside0.mk (Kd.R_below (Kd.R_elderB (kr_ HO_3.out) gb506 (Nat.le_of_eq hg.symm)) hb); have BK506 := Aside0.mk (hbox); have GW506 := HB.g1 GE501 hg; have GE506 := HB.g1 GE501 hg; replace HB := HB.s1 GE501 hb; have NB501_506 := BK501.nl hg; have NB506_501 := BK501.nr hg; replace BK501 := BK501.bb hb; clear hb hbox hg; have hnb36 := NB506_501.out; have hnc36 := NB501_506.out; obtain ⟨hcz37_0, hcz37_1, hcz37_2⟩ := cz3_ BK506.out; obtain ⟨hfz37_0, hfz37_1, hfz37_2⟩ := fz3_ BK506.out) | (refine gl_ 40 Try.func19 #[.agg #[.int .i64 a0_0, .int .i64 a0_1, .int .i64 x4_2]] ?_; (with_reducible refine (impl_IsPerfect.calls kj14 a0_0 a0_1 x4_2 false _ A24.out).mono ?_); rintro e w38 ⟨rfl, hb⟩; refine ⟨_, rfl, ?_⟩; replace HO_3 := Aside0.mk (Kd.R_below (by (with_reducible repeat (first | apply Kd.R_alloc | apply Kd.R_drewN | apply Kd.R_drew)); exact (Kd.R_mono (Kd.R_far (p := ⟨gb506, 2, none⟩) (Kd.R_far (p := ⟨gb506, 1, none⟩) (Kd.R_far (p := ⟨gb506, 0, none⟩) (Kd.R_mono HO_3.out (fun k_ hk => (⟨hk, hk.2⟩ : _ ∧ k_ ≠ gb506))) (fun _ hk => hk.2) (.int .i64 a0_0)) (fun _ hk => hk.2) (.int .i64 a0_1)) (fun _ hk => hk.2) (.int .i64 x4_2)) (fun _ h_ => h_.1))) hb); replace BK501 := Aside0.mk (blk_below (g := gb501) (o := .cells #[.int .i64 a0_0, .int .i64 a0_1, .int .i64 a0_2] 32 (0, 0)) (by (with_reducible repeat (first | refine blk_drewN ?_ _ | refine blk_drew ?_ | refine blk_alloc ?_ _)); refine blk_far ?_ NB501_506.out _; (with_reducible repeat (first | refine blk_drewN ?_ _ | refine blk_drew ?_ | refine blk_alloc ?_ _)); refine blk_far ?_ NB501_506.out _; (with_reducible repeat (first | refine blk_drewN ?_ _ | refine blk_drew ?_ | refine blk_alloc ?_ _)); refine blk_far ?_ NB501_506.out _; (with_reducible repeat (first | refine blk_drewN ?_ _ | refine blk_drew ?_ | refine blk_alloc ?_ _)); exact BK501.out) hb); replace BK506 := Aside0.mk (blk_below (bq3_ BK506.out) hb); replace HB := HB.s2 GE501 GE506 hb; (try clear hb)))
           go_roundg kj14
           case measure => have := HJ1.out; have := HK2.out; have := HJ14.out; omega
           case rel => exact ⟨(x3_2), (wrap64 (x4_2 + 1)), (by first | rfl | (simp; done) | (simp [*]; done)), H', ⟨by have := HJ1.out; have := HK2.out; have := HJ14.out; omega⟩, ⟨by (with_reducible repeat (first | apply Kd.R_alloc | apply Kd.R_drewN | apply Kd.R_drew)); exact Kd.R_mono HO_3.out (fun _ hk => hk.1)⟩, ⟨bk_ BK501.out⟩, ⟨hb2_ HB.out GE501.out GE506.out⟩⟩
      ·rw [if_neg c14] at H
       have c14b0 : decide (x4_2 ≤ a0_2) = false := decide_eq_false c14
       clear c14
       obtain rfl := Option.some.inj H
       obtain ⟨hcz39_0, hcz39_1, hcz39_2⟩ := cz3_ BK501.out
       obtain ⟨hfz39_0, hfz39_1, hfz39_2⟩ := fz3_ BK501.out
       go_wp2
       go_ret
       exact ⟨_, ex_, by (with_reducible repeat (first | apply Kd.R_alloc | apply Kd.R_drewN | apply Kd.R_drew)); exact Kd.R_mono HO_3.out (fun _ hk => trivial), hb1_ HB.out GE501.out⟩

end Go.Proofs.Ytnfclfpicemojaa.X
