-- Written by a program of this session (xprint.py), out of the translation and of hand-written contracts. Lean checks it.
import Derived.Test.YtgnnkjgfkdaddaaDoorX0
import Derived.Test.YtgnnkjgfkdaddaaDoorXcgaps
import Derived.Test.YtgnnkjgfkdaddaaDoorXcgrid
namespace Go.Proofs.YtgnnkjgfkdaddaaDoor.X
open Go.RowKit Go.Proofs.YtgnnkjgfkdaddaaDoorW.PrintWords Go.Proofs.YtgnnkjgfkdaddaaDoorW.PrintLast Go.Proofs.YtgnnkjgfkdaddaaDoorW.PrintMore
attribute [local go_sem] max2_int min2_int max_two min_two max_three min_three max_four min_four   -- for this text's walks alone
set_option linter.unusedVariables false
set_option linter.unusedSimpArgs false

/-! ### spec_MazeOk: function 16 -/
def spec_MazeOk.f (a0_0 : Int) (a0_1 : Int) (a0_2 : Int) : Option (Bool) := (spec_GridOk.f a0_0 a0_1).bind fun t502 => (if t502 = true then ((spec_CountGaps.f a0_0 a0_1).bind fun t503 => (if 0 ≤ t503 then ((spec_l01In.f a0_2 0 (wrap64 ((shl .i64 1 t503) - 1))).bind fun t504 => (some t504)) else (none))) else (some false))
def spec_MazeOk.T1 : Bool × List (List Nat × List Nat) := (true, [([], []), ([0], [0]), ([1], [1]), ([2, 2], [2]), ([3], [3]), ([4, 3], [3, 4]), ([3], [3]), ([6, 3], [3, 6]), ([7, 3, 3], [3, 7]), ([8, 3], [3, 8]), ([9, 3], [3, 9]), ([5, 10, 8, 3], [3, 5, 10]), ([3, 11], [3, 11]), ([12, 11, 0, 1, 2, 3, 4, 5, 6, 7, 8, 9, 10, 11, 12], [12])])
def spec_MazeOk.B1 : List Nat := [0, 1, 3, 7, 15, 31, 15, 79, 207, 463, 975, 2047, 4095, 8191]
theorem spec_MazeOk.tab1 : rtab .any (opsOf Tryd.f16 1) = spec_MazeOk.T1 := by kernel_rfl
theorem spec_MazeOk.bits1 : waitsOk spec_MazeOk.T1.2 spec_MazeOk.B1 = true := by kernel_rfl
set_option maxHeartbeats 8000000 in
set_option maxRecDepth 100000 in
theorem spec_MazeOk.calls (a0_0 : Int) (a0_1 : Int) (a0_2 : Int) (r : Bool) (w : World) (h : spec_MazeOk.f a0_0 a0_1 a0_2 = some r) :
  Calls Tryd.prog 16 #[.agg #[.int .i64 a0_0, .int .i64 a0_1, .int .i64 a0_2]] w fun e w' => e = .returned (.bool r) ∧ Below w.heap.size w w' := by
 have hu30 := Tryd.underlying30
 have hu28 := Tryd.underlying28
 have HB := Aside0.mk (Below.refl w.heap.size w)
 have H : ((spec_GridOk.f a0_0 a0_1).bind fun t502 => (if t502 = true then ((spec_CountGaps.f a0_0 a0_1).bind fun t503 => (if 0 ≤ t503 then ((spec_l01In.f a0_2 0 (wrap64 ((shl .i64 1 t503) - 1))).bind fun t504 => (some t504)) else (none))) else (some false))) = some r := h
 clear h
 replace H := Option.bind_eq_some_iff.mp H
 obtain ⟨t502, A20, H⟩ := H
 replace H : (if t502 = true then ((spec_CountGaps.f a0_0 a0_1).bind fun t503 => (if 0 ≤ t503 then ((spec_l01In.f a0_2 0 (wrap64 ((shl .i64 1 t503) - 1))).bind fun t504 => (some t504)) else (none))) else (some false)) = some r := H
 have A2 := Aside0.mk A20
 clear A20
 by_cases c3 : t502 = true
 ·subst c3
  have H1 : ((spec_CountGaps.f a0_0 a0_1).bind fun t503 => (if 0 ≤ t503 then ((spec_l01In.f a0_2 0 (wrap64 ((shl .i64 1 t503) - 1))).bind fun t504 => (some t504)) else (none))) = some r := by rw [if_pos rfl] at H; exact H
  clear H
  have H := H1
  clear H1
  replace H := Option.bind_eq_some_iff.mp H
  obtain ⟨t503, A40, H⟩ := H
  replace H : (if 0 ≤ t503 then ((spec_l01In.f a0_2 0 (wrap64 ((shl .i64 1 t503) - 1))).bind fun t504 => (some t504)) else (none)) = some r := H
  have A4 := Aside0.mk A40
  clear A40
  by_cases c5 : 0 ≤ t503
  ·rw [if_pos c5] at H
   have c5b0 := eq_true c5
   have c5b1 : decide (0 ≤ t503) = true := decide_eq_true c5
   clear c5
   obtain ⟨ji6, hji6⟩ : ∃ j_ : Int, (shl .i64 1 t503) = j_ := ⟨_, rfl⟩
   replace H : ((spec_l01In.f a0_2 0 (wrap64 ((ji6) - 1))).bind fun t504 => (some t504)) = some r := by first | (rw [hji6] at H; exact H) | (simp only [hji6] at H ⊢; exact H)
   (try rw [hji6] at A2)
   (try rw [hji6] at A4)
   have hji6_ : (IntKind.i64.wrap (1 * 2 ^ min t503.toNat 64)) = ji6 := hji6
   have hji6z : t503 ≤ 64 → (IntKind.i64.wrap (1 * 2 ^ t503.toNat)) = ji6 := shl_small hji6
   have hji6u : (IntKind.i64.wrap (2 ^ min t503.toNat 64)) = ji6 := by have h_ := hji6_; rw [Int.one_mul] at h_; exact h_
   have hji6v : t503 ≤ 64 → (IntKind.i64.wrap (2 ^ t503.toNat)) = ji6 := fun hle_ => by have h_ := hji6z hle_; rw [Int.one_mul] at h_; exact h_
   have hji6y : (wrap64 (1 * 2 ^ min t503.toNat 64)) = ji6 := (i64_w _).symm.trans hji6_
   have hji6x : t503 ≤ 64 → (wrap64 (1 * 2 ^ t503.toNat)) = ji6 := fun h_ => (i64_w _).symm.trans (hji6z h_)
   replace H := Option.bind_eq_some_iff.mp H
   obtain ⟨t504, A70, H⟩ := H
   replace H : (some t504) = some r := H
   have A7 := Aside0.mk A70
   clear A70
   obtain rfl := Option.some.inj H
   go_enter Tryd.func16, Tryd.ntmps16
   try go_wp2_with (first | (refine box_ (N := 1) (cs := #[.int .i64 a0_0, .int .i64 a0_1, .int .i64 a0_2]) (t := 30) ?_; intro gb501 hg w8 hbox hb; have BK501 := Aside0.mk (hbox); have GW501 := HB.g0 hg; have GE501 := HB.g0 hg; replace HB := HB.s0 hb; clear hb hbox hg))
   replace BK501 := Aside0.mk (blk_drew BK501.out)
   replace HB := Aside0.mk (below_drew1 HB.out)
   refine start_ (n := 14) (S := fun w' => w'.cell? ⟨gb501, 0, none⟩ = some (.int .i64 a0_0) ∧ w'.cell? ⟨gb501, 1, none⟩ = some (.int .i64 a0_1) ∧ w'.cell? ⟨gb501, 2, none⟩ = some (.int .i64 a0_2)) (ds := []) #[false, false, false, false, false, false, false, false, false, false, false, false, false, false] (by kernel_rfl) rfl rfl ⟨BK501.c 0, BK501.c 1, BK501.c 2⟩ (fun hHeld => ?_); refine with_tabW spec_MazeOk.tab1 spec_MazeOk.bits1 (fun HT_ HW_ => ?_)
   generalize w8.drew = w9 at BK501 HB hHeld ⊢
   refine pv_ (i := 0) (N := some 3) HT_.out ?_
   refine tv3_ (i := 1) (N := some 4) HT_.out HW_.out hHeld ?_
   refine ov_ (i := 2) (N := some 5) HT_.out (fun K hK => ?_)
   refine gq_ Tryd.func17 #[.agg #[.int .i64 a0_0, .int .i64 a0_1]] ?_
   with_reducible refine (spec_GridOk.calls a0_0 a0_1 true _ A2.out).mono ?_
   rintro e w10 ⟨rfl, hb⟩
   refine ⟨_, rfl, ?_⟩
   replace BK501 := BK501.bb hb
   replace HB := HB.s1 GE501 hb
   skip
   (try clear hb2)
   (try clear hk)
   (try clear hi)
   refine hK.out _ _ ⟨BK501.c 0, BK501.c 1, BK501.c 2⟩ (fun hHeld => ?_)
   clear hK K
   refine nm_ ?_
   refine pv_ (i := 3) (N := some 6) HT_.out ?_
   refine pv_ (i := 4) (N := some 7) HT_.out ?_
   refine pv_ (i := 6) (N := some 9) HT_.out ?_
   refine tv3_ (i := 5) (N := some 8) HT_.out HW_.out hHeld ?_
   refine tv3_ (i := 7) (N := some 10) HT_.out HW_.out hHeld ?_
   refine ov_ (i := 8) (N := some 11) HT_.out (fun K hK => ?_)
   refine gq_ Tryd.func26 #[.agg #[.int .i64 a0_0, .int .i64 a0_1]] ?_
   with_reducible refine (spec_CountGaps.calls a0_0 a0_1 t503 _ A4.out).mono ?_
   rintro e w11 ⟨rfl, hb⟩
   refine ⟨_, rfl, ?_⟩
   replace BK501 := BK501.bb hb
   replace HB := HB.s1 GE501 hb
   skip
   (try clear hb2)
   (try clear hk)
   (try clear hi)
   refine hK.out _ _ ⟨BK501.c 0, BK501.c 1, BK501.c 2⟩ (fun hHeld => ?_)
   clear hK K
   refine nm_ ?_
   refine pv_ (i := 9) (N := some 12) HT_.out ?_
   refine pv_ (i := 10) (N := some 13) HT_.out ?_
   refine ov_ (i := 11) (N := some 14) HT_.out (fun K hK => ?_)
   refine goes_ Tryd.func25 (by kernel_rfl) rfl #[.int .i64 a0_2, .int .i64 0, .int .i64 (wrap64 ((ji6) - 1))] (by rfl) rfl rfl (by (try simp only [List.map_toArray, List.map_cons, List.map_nil]); first | done | (simp only [hji6]; rfl) | rfl | (simp only [List.length_drop, List.length_take]; rfl)) ?_
   with_reducible refine (spec_l01In.calls a0_2 0 (wrap64 ((ji6) - 1)) t504 _ A7.out).mono ?_
   rintro e w' ⟨rfl, ⟨nd, rfl⟩⟩
   refine ⟨_, rfl, ?_⟩
   refine hK.out _ _ ⟨BK501.c 0, BK501.c 1, BK501.c 2⟩ (fun hHeld => ?_)
   clear hK K
   refine nm_ ?_
   refine pv_ (i := 12) (N := some 15) HT_.out ?_
   refine pv_ (i := 13) (N := some 2) HT_.out ?_
   refine done_ (done_of HT_.out (by kernel_rfl)) ?_
   try go_wp2
   go_ret
   exact ⟨by first | rfl | (simp [errW_none, errW_some] <;> rfl) | (simp only [← hji6]; first | rfl | (simp [errW_none, errW_some] <;> rfl)) | (simp [*, errW_none, errW_some] <;> rfl), hb1_ HB.out GE501.out⟩
  ·rw [if_neg c5] at H
   exact absurd H (by simp)
 ·replace c3 := Bool.eq_false_iff.mpr c3
  subst c3
  have H1 : (some false) = some r := by rw [if_neg (show ¬ (false = true) by decide)] at H; exact H
  clear H
  have H := H1
  clear H1
  obtain rfl := Option.some.inj H
  go_enter Tryd.func16, Tryd.ntmps16
  try go_wp2_with (first | (refine box_ (N := 1) (cs := #[.int .i64 a0_0, .int .i64 a0_1, .int .i64 a0_2]) (t := 30) ?_; intro gb501 hg w12 hbox hb; have BK501 := Aside0.mk (hbox); have GW501 := HB.g0 hg; have GE501 := HB.g0 hg; replace HB := HB.s0 hb; clear hb hbox hg))
  replace BK501 := Aside0.mk (blk_drew BK501.out)
  replace HB := Aside0.mk (below_drew1 HB.out)
  refine start_ (n := 14) (S := fun w' => w'.cell? ⟨gb501, 0, none⟩ = some (.int .i64 a0_0) ∧ w'.cell? ⟨gb501, 1, none⟩ = some (.int .i64 a0_1) ∧ w'.cell? ⟨gb501, 2, none⟩ = some (.int .i64 a0_2)) (ds := []) #[false, false, false, false, false, false, false, false, false, false, false, false, false, false] (by kernel_rfl) rfl rfl ⟨BK501.c 0, BK501.c 1, BK501.c 2⟩ (fun hHeld => ?_); refine with_tabW spec_MazeOk.tab1 spec_MazeOk.bits1 (fun HT_ HW_ => ?_)
  generalize w12.drew = w13 at BK501 HB hHeld ⊢
  refine pv_ (i := 0) (N := some 3) HT_.out ?_
  refine tv3_ (i := 1) (N := some 4) HT_.out HW_.out hHeld ?_
  refine ov_ (i := 2) (N := some 5) HT_.out (fun K hK => ?_)
  refine gq_ Tryd.func17 #[.agg #[.int .i64 a0_0, .int .i64 a0_1]] ?_
  with_reducible refine (spec_GridOk.calls a0_0 a0_1 false _ A2.out).mono ?_
  rintro e w14 ⟨rfl, hb⟩
  refine ⟨_, rfl, ?_⟩
  replace BK501 := BK501.bb hb
  replace HB := HB.s1 GE501 hb
  skip
  (try clear hb2)
  (try clear hk)
  (try clear hi)
  refine hK.out _ _ ⟨BK501.c 0, BK501.c 1, BK501.c 2⟩ (fun hHeld => ?_)
  clear hK K
  refine nm_ ?_
  refine pv_ (i := 3) (N := some 6) HT_.out ?_
  refine pu_ (i := 4) (N := some 7) HT_.out ?_
  refine pu_ (i := 5) (N := some 8) HT_.out ?_
  refine pu_ (i := 6) (N := some 9) HT_.out ?_
  refine pu_ (i := 7) (N := some 10) HT_.out ?_
  refine pu_ (i := 8) (N := some 11) HT_.out ?_
  refine pu_ (i := 9) (N := some 12) HT_.out ?_
  refine pu_ (i := 10) (N := some 13) HT_.out ?_
  refine pu_ (i := 11) (N := some 14) HT_.out ?_
  refine pv_ (i := 12) (N := some 15) HT_.out ?_
  refine pv_ (i := 13) (N := some 2) HT_.out ?_
  refine done_ (done_of HT_.out (by kernel_rfl)) ?_
  try go_wp2
  go_ret
  exact ⟨ex_, hb1_ HB.out GE501.out⟩

/-! ### spec_l03Bit: function 49 -/
def spec_l03Bit.f (a0 : Int) (a1 : Int) : Option (Bool) := if 0 ≤ a1 then (some ((Go.bits .and .i64 (shr .i64 a0 a1) 1) == 1)) else (none)
set_option maxHeartbeats 8000000 in
set_option maxRecDepth 100000 in
theorem spec_l03Bit.calls (a0 : Int) (a1 : Int) (r : Bool) (w : World) (h : spec_l03Bit.f a0 a1 = some r) :
  Calls Tryd.prog 49 #[.int .i64 a0, .int .i64 a1] w fun e w' => e = .returned (.bool r) ∧ Drawn0 w w' := by
 have H : (if 0 ≤ a1 then (some ((Go.bits .and .i64 (shr .i64 a0 a1) 1) == 1)) else (none)) = some r := h
 clear h
 by_cases c3 : 0 ≤ a1
 ·rw [if_pos c3] at H
  have c3b0 := eq_true c3
  have c3b1 : decide (0 ≤ a1) = true := decide_eq_true c3
  clear c3
  obtain ⟨ji4, hji4⟩ : ∃ j_ : Int, (shr .i64 a0 a1) = j_ := ⟨_, rfl⟩
  replace H : (some ((Go.bits .and .i64 (ji4) 1) == 1)) = some r := by first | (rw [hji4] at H; exact H) | (simp only [hji4] at H ⊢; exact H)
  have hji4_ : (a0 / 2 ^ min a1.toNat 64) = ji4 := hji4
  have hji4z : a1 ≤ 64 → (a0 / 2 ^ a1.toNat) = ji4 := shr_small hji4
  obtain rfl := Option.some.inj H
  go_enter Tryd.func49, Tryd.ntmps49
  go_wp2
  go_ret
  exact ⟨by first | rfl | (simp; done) | (simp only [← hji4] <;> (first | rfl | simp)) | (simp [*]; done), dr_⟩
 ·rw [if_neg c3] at H
  exact absurd H (by simp)

/-! ### spec_IsPassage: function 36 -/
def spec_IsPassage.f (a0_0 : Int) (a0_1 : Int) (a0_2 : Int) (a1 : Int) : Option (Bool) := (spec_MazeOk.f a0_0 a0_1 a0_2).bind fun t502 => (if t502 = true then ((spec_CountGaps.f a0_0 a0_1).bind fun t503 => ((spec_l01In.f a1 0 (wrap64 (t503 - 1))).bind fun t504 => (if t504 = true then ((spec_l03Bit.f a0_2 a1).bind fun t505 => (some t505)) else (some false)))) else (some false))
set_option maxHeartbeats 8000000 in
set_option maxRecDepth 100000 in
theorem spec_IsPassage.calls (a0_0 : Int) (a0_1 : Int) (a0_2 : Int) (a1 : Int) (r : Bool) (w : World) (h : spec_IsPassage.f a0_0 a0_1 a0_2 a1 = some r) :
  Calls Tryd.prog 36 #[.agg #[.int .i64 a0_0, .int .i64 a0_1, .int .i64 a0_2], .int .i64 a1] w fun e w' => e = .returned (.bool r) ∧ Below w.heap.size w w' := by
 have hu30 := Tryd.underlying30
 have hu28 := Tryd.underlying28
 have HB := Aside0.mk (Below.refl w.heap.size w)
 have H : ((spec_MazeOk.f a0_0 a0_1 a0_2).bind fun t502 => (if t502 = true then ((spec_CountGaps.f a0_0 a0_1).bind fun t503 => ((spec_l01In.f a1 0 (wrap64 (t503 - 1))).bind fun t504 => (if t504 = true then ((spec_l03Bit.f a0_2 a1).bind fun t505 => (some t505)) else (some false)))) else (some false))) = some r := h
 clear h
 replace H := Option.bind_eq_some_iff.mp H
 obtain ⟨t502, A30, H⟩ := H
 replace H : (if t502 = true then ((spec_CountGaps.f a0_0 a0_1).bind fun t503 => ((spec_l01In.f a1 0 (wrap64 (t503 - 1))).bind fun t504 => (if t504 = true then ((spec_l03Bit.f a0_2 a1).bind fun t505 => (some t505)) else (some false)))) else (some false)) = some r := H
 have A3 := Aside0.mk A30
 clear A30
 by_cases c4 : t502 = true
 ·subst c4
  have H1 : ((spec_CountGaps.f a0_0 a0_1).bind fun t503 => ((spec_l01In.f a1 0 (wrap64 (t503 - 1))).bind fun t504 => (if t504 = true then ((spec_l03Bit.f a0_2 a1).bind fun t505 => (some t505)) else (some false)))) = some r := by rw [if_pos rfl] at H; exact H
  clear H
  have H := H1
  clear H1
  replace H := Option.bind_eq_some_iff.mp H
  obtain ⟨t503, A50, H⟩ := H
  replace H : ((spec_l01In.f a1 0 (wrap64 (t503 - 1))).bind fun t504 => (if t504 = true then ((spec_l03Bit.f a0_2 a1).bind fun t505 => (some t505)) else (some false))) = some r := H
  have A5 := Aside0.mk A50
  clear A50
  replace H := Option.bind_eq_some_iff.mp H
  obtain ⟨t504, A60, H⟩ := H
  replace H : (if t504 = true then ((spec_l03Bit.f a0_2 a1).bind fun t505 => (some t505)) else (some false)) = some r := H
  have A6 := Aside0.mk A60
  clear A60
  by_cases c7 : t504 = true
  ·subst c7
   have H1 : ((spec_l03Bit.f a0_2 a1).bind fun t505 => (some t505)) = some r := by rw [if_pos rfl] at H; exact H
   clear H
   have H := H1
   clear H1
   replace H := Option.bind_eq_some_iff.mp H
   obtain ⟨t505, A80, H⟩ := H
   replace H : (some t505) = some r := H
   have A8 := Aside0.mk A80
   clear A80
   obtain rfl := Option.some.inj H
   go_enter Tryd.func36, Tryd.ntmps36
   go_wp2_with (first | (refine box_ (N := 2) (cs := #[.int .i64 a0_0, .int .i64 a0_1, .int .i64 a0_2]) (t := 30) ?_; intro gb501 hg w9 hbox hb; have BK501 := Aside0.mk (hbox); have GW501 := HB.g0 hg; have GE501 := HB.g0 hg; replace HB := HB.s0 hb; clear hb hbox hg; obtain ⟨hcz10_0, hcz10_1, hcz10_2⟩ := cz3_ BK501.out; obtain ⟨hfz10_0, hfz10_1, hfz10_2⟩ := fz3_ BK501.out) | (refine gl_ 6 Tryd.func16 #[.agg #[.int .i64 a0_0, .int .i64 a0_1, .int .i64 a0_2]] ?_; (with_reducible refine (spec_MazeOk.calls a0_0 a0_1 a0_2 true _ A3.out).mono ?_); rintro e w11 ⟨rfl, hb⟩; refine ⟨_, rfl, ?_⟩; replace BK501 := BK501.bb hb; replace HB := HB.s1 GE501 hb; (try clear hb); obtain ⟨hcz12_0, hcz12_1, hcz12_2⟩ := cz3_ BK501.out; obtain ⟨hfz12_0, hfz12_1, hfz12_2⟩ := fz3_ BK501.out) | (go_at_call 26; (with_reducible refine (spec_CountGaps.calls a0_0 a0_1 t503 _ A5.out).mono ?_); rintro e w13 ⟨rfl, hb⟩; replace BK501 := BK501.bb hb; replace HB := HB.s1 GE501 hb; (try clear hb)) | (go_at_call 25; (with_reducible refine (spec_l01In.calls a1 0 (wrap64 (t503 - 1)) true _ A6.out).mono ?_); rintro e w' ⟨rfl, ⟨nd, rfl⟩⟩; obtain ⟨hcz14_0, hcz14_1, hcz14_2⟩ := cz3_ BK501.out; obtain ⟨hfz14_0, hfz14_1, hfz14_2⟩ := fz3_ BK501.out) | (go_at_call 49; (with_reducible refine (spec_l03Bit.calls a0_2 a1 t505 _ A8.out).mono ?_); rintro e w' ⟨rfl, ⟨nd, rfl⟩⟩))
   go_ret
   exact ⟨ex_, hb1_ HB.out GE501.out⟩
  ·replace c7 := Bool.eq_false_iff.mpr c7
   subst c7
   have H1 : (some false) = some r := by rw [if_neg (show ¬ (false = true) by decide)] at H; exact H
   clear H
   have H := H1
   clear H1
   obtain rfl := Option.some.inj H
   go_enter Tryd.func36, Tryd.ntmps36
   go_wp2_with (first | (refine box_ (N := 2) (cs := #[.int .i64 a0_0, .int .i64 a0_1, .int .i64 a0_2]) (t := 30) ?_; intro gb501 hg w15 hbox hb; have BK501 := Aside0.mk (hbox); have GW501 := HB.g0 hg; have GE501 := HB.g0 hg; replace HB := HB.s0 hb; clear hb hbox hg; obtain ⟨hcz16_0, hcz16_1, hcz16_2⟩ := cz3_ BK501.out; obtain ⟨hfz16_0, hfz16_1, hfz16_2⟩ := fz3_ BK501.out) | (refine gl_ 6 Tryd.func16 #[.agg #[.int .i64 a0_0, .int .i64 a0_1, .int .i64 a0_2]] ?_; (with_reducible refine (spec_MazeOk.calls a0_0 a0_1 a0_2 true _ A3.out).mono ?_); rintro e w17 ⟨rfl, hb⟩; refine ⟨_, rfl, ?_⟩; replace BK501 := BK501.bb hb; replace HB := HB.s1 GE501 hb; (try clear hb); obtain ⟨hcz18_0, hcz18_1, hcz18_2⟩ := cz3_ BK501.out; obtain ⟨hfz18_0, hfz18_1, hfz18_2⟩ := fz3_ BK501.out) | (go_at_call 26; (with_reducible refine (spec_CountGaps.calls a0_0 a0_1 t503 _ A5.out).mono ?_); rintro e w19 ⟨rfl, hb⟩; replace BK501 := BK501.bb hb; replace HB := HB.s1 GE501 hb; (try clear hb)) | (go_at_call 25; (with_reducible refine (spec_l01In.calls a1 0 (wrap64 (t503 - 1)) false _ A6.out).mono ?_); rintro e w' ⟨rfl, ⟨nd, rfl⟩⟩))
   go_ret
   exact ⟨ex_, hb1_ HB.out GE501.out⟩
 ·replace c4 := Bool.eq_false_iff.mpr c4
  subst c4
  have H1 : (some false) = some r := by rw [if_neg (show ¬ (false = true) by decide)] at H; exact H
  clear H
  have H := H1
  clear H1
  obtain rfl := Option.some.inj H
  go_enter Tryd.func36, Tryd.ntmps36
  go_wp2_with (first | (refine box_ (N := 2) (cs := #[.int .i64 a0_0, .int .i64 a0_1, .int .i64 a0_2]) (t := 30) ?_; intro gb501 hg w20 hbox hb; have BK501 := Aside0.mk (hbox); have GW501 := HB.g0 hg; have GE501 := HB.g0 hg; replace HB := HB.s0 hb; clear hb hbox hg; obtain ⟨hcz21_0, hcz21_1, hcz21_2⟩ := cz3_ BK501.out; obtain ⟨hfz21_0, hfz21_1, hfz21_2⟩ := fz3_ BK501.out) | (refine gl_ 6 Tryd.func16 #[.agg #[.int .i64 a0_0, .int .i64 a0_1, .int .i64 a0_2]] ?_; (with_reducible refine (spec_MazeOk.calls a0_0 a0_1 a0_2 false _ A3.out).mono ?_); rintro e w22 ⟨rfl, hb⟩; refine ⟨_, rfl, ?_⟩; replace BK501 := BK501.bb hb; replace HB := HB.s1 GE501 hb; (try clear hb)))
  go_ret
  exact ⟨ex_, hb1_ HB.out GE501.out⟩

/-! ### impl_MazeOk: function 39 -/
def impl_MazeOk.f (a0_0 : Int) (a0_1 : Int) (a0_2 : Int) : Option (Bool) := (impl_GridOk.f a0_0 a0_1).bind fun t502 => (if t502 = true then (if a0_2 ≥ 0 then ((impl_CountGaps.f a0_0 a0_1).bind fun t503 => (if 0 ≤ t503 then (some (decide (a0_2 < (shl .i64 1 t503)))) else (none))) else (some false)) else (some false))
def impl_MazeOk.T1 : Bool × List (List Nat × List Nat) := (true, [([], []), ([0], [0]), ([1], [1]), ([2, 2], [2]), ([3], [3]), ([4, 3], [3, 4]), ([5, 3], [3, 5]), ([3, 6], [3, 6]), ([7, 3], [7]), ([8], [8]), ([9, 8], [8, 9]), ([8], [8]), ([11, 8], [8, 11]), ([12, 8, 8], [8, 12]), ([13, 8], [8, 13]), ([10, 14, 8], [8, 10, 14]), ([8, 15], [8, 15]), ([16, 13, 0, 1, 2, 3, 4, 5, 6, 7, 8, 9, 10, 11, 12, 13, 14, 15, 16], [16])])
def impl_MazeOk.B1 : List Nat := [0, 1, 3, 7, 15, 31, 63, 127, 255, 511, 1023, 511, 2559, 6655, 14847, 32767, 65535, 131071]
theorem impl_MazeOk.tab1 : rtab .any (opsOf Tryd.f39 1) = impl_MazeOk.T1 := by kernel_rfl
theorem impl_MazeOk.bits1 : waitsOk impl_MazeOk.T1.2 impl_MazeOk.B1 = true := by kernel_rfl
set_option maxHeartbeats 8000000 in
set_option maxRecDepth 100000 in
theorem impl_MazeOk.calls (a0_0 : Int) (a0_1 : Int) (a0_2 : Int) (r : Bool) (w : World) (h : impl_MazeOk.f a0_0 a0_1 a0_2 = some r) :
  Calls Tryd.prog 39 #[.agg #[.int .i64 a0_0, .int .i64 a0_1, .int .i64 a0_2]] w fun e w' => e = .returned (.bool r) ∧ Below w.heap.size w w' := by
 have hu30 := Tryd.underlying30
 have hu28 := Tryd.underlying28
 have HB := Aside0.mk (Below.refl w.heap.size w)
 have H : ((impl_GridOk.f a0_0 a0_1).bind fun t502 => (if t502 = true then (if a0_2 ≥ 0 then ((impl_CountGaps.f a0_0 a0_1).bind fun t503 => (if 0 ≤ t503 then (some (decide (a0_2 < (shl .i64 1 t503)))) else (none))) else (some false)) else (some false))) = some r := h
 clear h
 replace H := Option.bind_eq_some_iff.mp H
 obtain ⟨t502, A20, H⟩ := H
 replace H : (if t502 = true then (if a0_2 ≥ 0 then ((impl_CountGaps.f a0_0 a0_1).bind fun t503 => (if 0 ≤ t503 then (some (decide (a0_2 < (shl .i64 1 t503)))) else (none))) else (some false)) else (some false)) = some r := H
 have A2 := Aside0.mk A20
 clear A20
 by_cases c3 : t502 = true
 ·subst c3
  have H1 : (if a0_2 ≥ 0 then ((impl_CountGaps.f a0_0 a0_1).bind fun t503 => (if 0 ≤ t503 then (some (decide (a0_2 < (shl .i64 1 t503)))) else (none))) else (some false)) = some r := by rw [if_pos rfl] at H; exact H
  clear H
  have H := H1
  clear H1
  by_cases c4 : a0_2 ≥ 0
  ·rw [if_pos c4] at H
   have c4b0 : decide (0 ≤ a0_2) = true := decide_eq_true c4
   clear c4
   replace H := Option.bind_eq_some_iff.mp H
   obtain ⟨t503, A50, H⟩ := H
   replace H : (if 0 ≤ t503 then (some (decide (a0_2 < (shl .i64 1 t503)))) else (none)) = some r := H
   have A5 := Aside0.mk A50
   clear A50
   by_cases c6 : 0 ≤ t503
   ·rw [if_pos c6] at H
    have c6b0 := eq_true c6
    have c6b1 : decide (0 ≤ t503) = true := decide_eq_true c6
    clear c6
    obtain ⟨ji7, hji7⟩ : ∃ j_ : Int, (shl .i64 1 t503) = j_ := ⟨_, rfl⟩
    replace H : (some (decide (a0_2 < (ji7)))) = some r := by first | (rw [hji7] at H; exact H) | (simp only [hji7] at H ⊢; exact H)
    (try rw [hji7] at A2)
    (try rw [hji7] at A5)
    have hji7_ : (IntKind.i64.wrap (1 * 2 ^ min t503.toNat 64)) = ji7 := hji7
    have hji7z : t503 ≤ 64 → (IntKind.i64.wrap (1 * 2 ^ t503.toNat)) = ji7 := shl_small hji7
    have hji7u : (IntKind.i64.wrap (2 ^ min t503.toNat 64)) = ji7 := by have h_ := hji7_; rw [Int.one_mul] at h_; exact h_
    have hji7v : t503 ≤ 64 → (IntKind.i64.wrap (2 ^ t503.toNat)) = ji7 := fun hle_ => by have h_ := hji7z hle_; rw [Int.one_mul] at h_; exact h_
    have hji7y : (wrap64 (1 * 2 ^ min t503.toNat 64)) = ji7 := (i64_w _).symm.trans hji7_
    have hji7x : t503 ≤ 64 → (wrap64 (1 * 2 ^ t503.toNat)) = ji7 := fun h_ => (i64_w _).symm.trans (hji7z h_)
    obtain rfl := Option.some.inj H
    go_enter Tryd.func39, Tryd.ntmps39
    try go_wp2_with (first | (refine box_ (N := 1) (cs := #[.int .i64 a0_0, .int .i64 a0_1, .int .i64 a0_2]) (t := 30) ?_; intro gb501 hg w8 hbox hb; have BK501 := Aside0.mk (hbox); have GW501 := HB.g0 hg; have GE501 := HB.g0 hg; replace HB := HB.s0 hb; clear hb hbox hg))
    replace BK501 := Aside0.mk (blk_drew BK501.out)
    replace HB := Aside0.mk (below_drew1 HB.out)
    refine start_ (n := 18) (S := fun w' => w'.cell? ⟨gb501, 0, none⟩ = some (.int .i64 a0_0) ∧ w'.cell? ⟨gb501, 1, none⟩ = some (.int .i64 a0_1) ∧ w'.cell? ⟨gb501, 2, none⟩ = some (.int .i64 a0_2)) (ds := []) #[false, false, false, false, false, false, false, false, false, false, false, false, false, false, false, false, false, false] (by kernel_rfl) rfl rfl ⟨BK501.c 0, BK501.c 1, BK501.c 2⟩ (fun hHeld => ?_); refine with_tabW impl_MazeOk.tab1 impl_MazeOk.bits1 (fun HT_ HW_ => ?_)
    generalize w8.drew = w9 at BK501 HB hHeld ⊢
    refine pv_ (i := 0) (N := some 3) HT_.out ?_
    refine tv3_ (i := 1) (N := some 4) HT_.out HW_.out hHeld ?_
    refine ov_ (i := 2) (N := some 5) HT_.out (fun K hK => ?_)
    refine gq_ Tryd.func30 #[.agg #[.int .i64 a0_0, .int .i64 a0_1]] ?_
    with_reducible refine (impl_GridOk.calls a0_0 a0_1 true _ A2.out).mono ?_
    rintro e w10 ⟨rfl, hb⟩
    refine ⟨_, rfl, ?_⟩
    replace BK501 := BK501.bb hb
    replace HB := HB.s1 GE501 hb
    skip
    (try clear hb2)
    (try clear hk)
    (try clear hi)
    refine hK.out _ _ ⟨BK501.c 0, BK501.c 1, BK501.c 2⟩ (fun hHeld => ?_)
    clear hK K
    refine nm_ ?_
    refine pv_ (i := 3) (N := some 6) HT_.out ?_
    refine pv_ (i := 4) (N := some 7) HT_.out ?_
    refine tv3_ (i := 5) (N := some 8) HT_.out HW_.out hHeld ?_
    refine pv_ (i := 6) (N := some 9) HT_.out ?_
    refine pv_ (i := 7) (N := some 10) HT_.out ?_
    refine pv_ (i := 8) (N := some 11) HT_.out ?_
    refine pv_ (i := 9) (N := some 12) HT_.out ?_
    refine pv_ (i := 11) (N := some 14) HT_.out ?_
    refine tv3_ (i := 10) (N := some 13) HT_.out HW_.out hHeld ?_
    refine tv3_ (i := 12) (N := some 15) HT_.out HW_.out hHeld ?_
    refine ov_ (i := 13) (N := some 16) HT_.out (fun K hK => ?_)
    refine gq_ Tryd.func50 #[.agg #[.int .i64 a0_0, .int .i64 a0_1]] ?_
    with_reducible refine (impl_CountGaps.calls a0_0 a0_1 t503 _ A5.out).mono ?_
    rintro e w11 ⟨rfl, hb⟩
    refine ⟨_, rfl, ?_⟩
    replace BK501 := BK501.bb hb
    replace HB := HB.s1 GE501 hb
    skip
    (try clear hb2)
    (try clear hk)
    (try clear hi)
    refine hK.out _ _ ⟨BK501.c 0, BK501.c 1, BK501.c 2⟩ (fun hHeld => ?_)
    clear hK K
    refine nm_ ?_
    refine pv_ (i := 14) (N := some 17) HT_.out ?_
    refine pv_ (i := 15) (N := some 18) HT_.out ?_
    refine pv_ (i := 16) (N := some 19) HT_.out ?_
    refine pv_ (i := 17) (N := some 2) HT_.out ?_
    refine done_ (done_of HT_.out (by kernel_rfl)) ?_
    try go_wp2
    go_ret
    exact ⟨by first | rfl | (simp [errW_none, errW_some] <;> rfl) | (simp only [← hji7]; first | rfl | (simp [errW_none, errW_some] <;> rfl)) | (simp [*, errW_none, errW_some] <;> rfl), hb1_ HB.out GE501.out⟩
   ·rw [if_neg c6] at H
    exact absurd H (by simp)
  ·rw [if_neg c4] at H
   have c4b0 : decide (0 ≤ a0_2) = false := decide_eq_false c4
   clear c4
   obtain rfl := Option.some.inj H
   go_enter Tryd.func39, Tryd.ntmps39
   try go_wp2_with (first | (refine box_ (N := 1) (cs := #[.int .i64 a0_0, .int .i64 a0_1, .int .i64 a0_2]) (t := 30) ?_; intro gb501 hg w12 hbox hb; have BK501 := Aside0.mk (hbox); have GW501 := HB.g0 hg; have GE501 := HB.g0 hg; replace HB := HB.s0 hb; clear hb hbox hg))
   replace BK501 := Aside0.mk (blk_drew BK501.out)
   replace HB := Aside0.mk (below_drew1 HB.out)
   refine start_ (n := 18) (S := fun w' => w'.cell? ⟨gb501, 0, none⟩ = some (.int .i64 a0_0) ∧ w'.cell? ⟨gb501, 1, none⟩ = some (.int .i64 a0_1) ∧ w'.cell? ⟨gb501, 2, none⟩ = some (.int .i64 a0_2)) (ds := []) #[false, false, false, false, false, false, false, false, false, false, false, false, false, false, false, false, false, false] (by kernel_rfl) rfl rfl ⟨BK501.c 0, BK501.c 1, BK501.c 2⟩ (fun hHeld => ?_); refine with_tabW impl_MazeOk.tab1 impl_MazeOk.bits1 (fun HT_ HW_ => ?_)
   generalize w12.drew = w13 at BK501 HB hHeld ⊢
   refine pv_ (i := 0) (N := some 3) HT_.out ?_
   refine tv3_ (i := 1) (N := some 4) HT_.out HW_.out hHeld ?_
   refine ov_ (i := 2) (N := some 5) HT_.out (fun K hK => ?_)
   refine gq_ Tryd.func30 #[.agg #[.int .i64 a0_0, .int .i64 a0_1]] ?_
   with_reducible refine (impl_GridOk.calls a0_0 a0_1 true _ A2.out).mono ?_
   rintro e w14 ⟨rfl, hb⟩
   refine ⟨_, rfl, ?_⟩
   replace BK501 := BK501.bb hb
   replace HB := HB.s1 GE501 hb
   skip
   (try clear hb2)
   (try clear hk)
   (try clear hi)
   refine hK.out _ _ ⟨BK501.c 0, BK501.c 1, BK501.c 2⟩ (fun hHeld => ?_)
   clear hK K
   refine nm_ ?_
   refine pv_ (i := 3) (N := some 6) HT_.out ?_
   refine pv_ (i := 4) (N := some 7) HT_.out ?_
   refine tv3_ (i := 5) (N := some 8) HT_.out HW_.out hHeld ?_
   refine pv_ (i := 6) (N := some 9) HT_.out ?_
   refine pv_ (i := 7) (N := some 10) HT_.out ?_
   refine pv_ (i := 8) (N := some 11) HT_.out ?_
   refine pu_ (i := 9) (N := some 12) HT_.out ?_
   refine pu_ (i := 10) (N := some 13) HT_.out ?_
   refine pu_ (i := 11) (N := some 14) HT_.out ?_
   refine pu_ (i := 12) (N := some 15) HT_.out ?_
   refine pu_ (i := 13) (N := some 16) HT_.out ?_
   refine pu_ (i := 14) (N := some 17) HT_.out ?_
   refine pu_ (i := 15) (N := some 18) HT_.out ?_
   refine pv_ (i := 16) (N := some 19) HT_.out ?_
   refine pv_ (i := 17) (N := some 2) HT_.out ?_
   refine done_ (done_of HT_.out (by kernel_rfl)) ?_
   try go_wp2
   go_ret
   exact ⟨ex_, hb1_ HB.out GE501.out⟩
 ·replace c3 := Bool.eq_false_iff.mpr c3
  subst c3
  have H1 : (some false) = some r := by rw [if_neg (show ¬ (false = true) by decide)] at H; exact H
  clear H
  have H := H1
  clear H1
  obtain rfl := Option.some.inj H
  go_enter Tryd.func39, Tryd.ntmps39
  try go_wp2_with (first | (refine box_ (N := 1) (cs := #[.int .i64 a0_0, .int .i64 a0_1, .int .i64 a0_2]) (t := 30) ?_; intro gb501 hg w15 hbox hb; have BK501 := Aside0.mk (hbox); have GW501 := HB.g0 hg; have GE501 := HB.g0 hg; replace HB := HB.s0 hb; clear hb hbox hg))
  replace BK501 := Aside0.mk (blk_drew BK501.out)
  replace HB := Aside0.mk (below_drew1 HB.out)
  refine start_ (n := 18) (S := fun w' => w'.cell? ⟨gb501, 0, none⟩ = some (.int .i64 a0_0) ∧ w'.cell? ⟨gb501, 1, none⟩ = some (.int .i64 a0_1) ∧ w'.cell? ⟨gb501, 2, none⟩ = some (.int .i64 a0_2)) (ds := []) #[false, false, false, false, false, false, false, false, false, false, false, false, false, false, false, false, false, false] (by kernel_rfl) rfl rfl ⟨BK501.c 0, BK501.c 1, BK501.c 2⟩ (fun hHeld => ?_); refine with_tabW impl_MazeOk.tab1 impl_MazeOk.bits1 (fun HT_ HW_ => ?_)
  generalize w15.drew = w16 at BK501 HB hHeld ⊢
  refine pv_ (i := 0) (N := some 3) HT_.out ?_
  refine tv3_ (i := 1) (N := some 4) HT_.out HW_.out hHeld ?_
  refine ov_ (i := 2) (N := some 5) HT_.out (fun K hK => ?_)
  refine gq_ Tryd.func30 #[.agg #[.int .i64 a0_0, .int .i64 a0_1]] ?_
  with_reducible refine (impl_GridOk.calls a0_0 a0_1 false _ A2.out).mono ?_
  rintro e w17 ⟨rfl, hb⟩
  refine ⟨_, rfl, ?_⟩
  replace BK501 := BK501.bb hb
  replace HB := HB.s1 GE501 hb
  skip
  (try clear hb2)
  (try clear hk)
  (try clear hi)
  refine hK.out _ _ ⟨BK501.c 0, BK501.c 1, BK501.c 2⟩ (fun hHeld => ?_)
  clear hK K
  refine nm_ ?_
  refine pv_ (i := 3) (N := some 6) HT_.out ?_
  refine pu_ (i := 4) (N := some 7) HT_.out ?_
  refine pu_ (i := 5) (N := some 8) HT_.out ?_
  refine pu_ (i := 6) (N := some 9) HT_.out ?_
  refine pv_ (i := 7) (N := some 10) HT_.out ?_
  refine pv_ (i := 8) (N := some 11) HT_.out ?_
  refine pu_ (i := 9) (N := some 12) HT_.out ?_
  refine pu_ (i := 10) (N := some 13) HT_.out ?_
  refine pu_ (i := 11) (N := some 14) HT_.out ?_
  refine pu_ (i := 12) (N := some 15) HT_.out ?_
  refine pu_ (i := 13) (N := some 16) HT_.out ?_
  refine pu_ (i := 14) (N := some 17) HT_.out ?_
  refine pu_ (i := 15) (N := some 18) HT_.out ?_
  refine pv_ (i := 16) (N := some 19) HT_.out ?_
  refine pv_ (i := 17) (N := some 2) HT_.out ?_
  refine done_ (done_of HT_.out (by kernel_rfl)) ?_
  try go_wp2
  go_ret
  exact ⟨ex_, hb1_ HB.out GE501.out⟩

/-! ### impl_isOpen: function 45 -/
def impl_isOpen.f (a0_0 : Int) (a0_1 : Int) (a0_2 : Int) (a1 : Int) : Option (Bool) := if a1 ≥ 0 then (if 0 ≤ a1 then (some ((Go.bits .and .i64 (shr .i64 a0_2 a1) 1) == 1)) else (none)) else (some false)
set_option maxHeartbeats 8000000 in
set_option maxRecDepth 100000 in
theorem impl_isOpen.calls (a0_0 : Int) (a0_1 : Int) (a0_2 : Int) (a1 : Int) (r : Bool) (w : World) (h : impl_isOpen.f a0_0 a0_1 a0_2 a1 = some r) :
  Calls Tryd.prog 45 #[.agg #[.int .i64 a0_0, .int .i64 a0_1, .int .i64 a0_2], .int .i64 a1] w fun e w' => e = .returned (.bool r) ∧ Below w.heap.size w w' := by
 have hu30 := Tryd.underlying30
 have HB := Aside0.mk (Below.refl w.heap.size w)
 have H : (if a1 ≥ 0 then (if 0 ≤ a1 then (some ((Go.bits .and .i64 (shr .i64 a0_2 a1) 1) == 1)) else (none)) else (some false)) = some r := h
 clear h
 by_cases c3 : a1 ≥ 0
 ·rw [if_pos c3] at H
  have c3b0 : decide (0 ≤ a1) = true := decide_eq_true c3
  clear c3
  by_cases c4 : 0 ≤ a1
  ·rw [if_pos c4] at H
   have c4b0 := eq_true c4
   have c4b1 : decide (0 ≤ a1) = true := decide_eq_true c4
   clear c4
   obtain ⟨ji5, hji5⟩ : ∃ j_ : Int, (shr .i64 a0_2 a1) = j_ := ⟨_, rfl⟩
   replace H : (some ((Go.bits .and .i64 (ji5) 1) == 1)) = some r := by first | (rw [hji5] at H; exact H) | (simp only [hji5] at H ⊢; exact H)
   have hji5_ : (a0_2 / 2 ^ min a1.toNat 64) = ji5 := hji5
   have hji5z : a1 ≤ 64 → (a0_2 / 2 ^ a1.toNat) = ji5 := shr_small hji5
   obtain rfl := Option.some.inj H
   go_enter Tryd.func45, Tryd.ntmps45
   go_wp2_with (first | (refine box_ (N := 2) (cs := #[.int .i64 a0_0, .int .i64 a0_1, .int .i64 a0_2]) (t := 30) ?_; intro gb501 hg w6 hbox hb; have BK501 := Aside0.mk (hbox); have GW501 := HB.g0 hg; have GE501 := HB.g0 hg; replace HB := HB.s0 hb; clear hb hbox hg; obtain ⟨hcz7_0, hcz7_1, hcz7_2⟩ := cz3_ BK501.out; obtain ⟨hfz7_0, hfz7_1, hfz7_2⟩ := fz3_ BK501.out))
   go_ret
   exact ⟨by first | rfl | (simp [errW_none, errW_some] <;> rfl) | (simp only [← hji5]; first | rfl | (simp [errW_none, errW_some] <;> rfl)) | (simp [*, errW_none, errW_some] <;> rfl), hb1_ HB.out GE501.out⟩
  ·rw [if_neg c4] at H
   exact absurd H (by simp)
 ·rw [if_neg c3] at H
  have c3b0 : decide (0 ≤ a1) = false := decide_eq_false c3
  clear c3
  obtain rfl := Option.some.inj H
  go_enter Tryd.func45, Tryd.ntmps45
  go_wp2_with (first | (refine box_ (N := 2) (cs := #[.int .i64 a0_0, .int .i64 a0_1, .int .i64 a0_2]) (t := 30) ?_; intro gb501 hg w8 hbox hb; have BK501 := Aside0.mk (hbox); have GW501 := HB.g0 hg; have GE501 := HB.g0 hg; replace HB := HB.s0 hb; clear hb hbox hg))
  go_ret
  exact ⟨ex_, hb1_ HB.out GE501.out⟩

end Go.Proofs.YtgnnkjgfkdaddaaDoor.X
