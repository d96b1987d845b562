-- Written by a program of this session (xprint.py), out of the translation and of hand-written contracts. Lean checks it.
import Derived.Test.YtlfomjhjeknnmaaX0
import Derived.Test.YtlfomjhjeknnmaaXcmaze
namespace Go.Proofs.Ytlfomjhjeknnmaa.X
open Go.RowKit Go.Proofs.YtlfomjhjeknnmaaW.PrintWords Go.Proofs.YtlfomjhjeknnmaaW.PrintLast Go.Proofs.YtlfomjhjeknnmaaW.PrintMore
attribute [local go_sem] max2_int min2_int max_two min_two max_three min_three max_four min_four   -- for this text's walks alone
set_option linter.unusedVariables false
set_option linter.unusedSimpArgs false

/-! ### impl_TimedOk: function 37 -/
mutual
def impl_TimedOk.j0 : Nat → Bool → Int → Int → Int → Int → List (S56) → Option (Bool)
 | 0, _, _, _, _, _, _ => none
 | k + 1, x24, x502000, x502001, x502002, x502003, x502004 => if x24 = true then (some false) else (impl_TimedOk.l0 k x502004 (x502004.length : Int) 0 x502000 x502001 x502002 x502003 x502004)
def impl_TimedOk.l0 : Nat → List (S56) → Int → Int → Int → Int → Int → Int → List (S56) → Option (Bool)
 | 0, _, _, _, _, _, _, _, _ => none
 | k + 1, x26, x27, x28, x502000, x502001, x502002, x502003, x502004 => if x28 < x27 then (if 0 ≤ x28 then (if x28 < (x26.length : Int) then ((impl_IsPassage.f x502000 x502001 x502002 ((rd_T56 x26 x28).f0)).bind fun t505 => (if t505 = true then (if x28 > 0 then (if 0 ≤ (wrap64 (x28 - 1)) then (if (wrap64 (x28 - 1)) < (x502004.length : Int) then (if ((rd_T56 x502004 (wrap64 (x28 - 1))).f0) ≥ ((rd_T56 x26 x28).f0) then (impl_TimedOk.j2 k x26 x27 x28 true x502000 x502001 x502002 x502003 x502004) else (if ((rd_T56 x26 x28).f1) < 0 then (impl_TimedOk.j2 k x26 x27 x28 true x502000 x502001 x502002 x502003 x502004) else (if 0 ≤ x502003 then (impl_TimedOk.j2 k x26 x27 x28 (decide (((rd_T56 x26 x28).f1) ≥ (shl .i64 1 x502003))) x502000 x502001 x502002 x502003 x502004) else (none)))) else (none)) else (none)) else (if ((rd_T56 x26 x28).f1) < 0 then (impl_TimedOk.j2 k x26 x27 x28 true x502000 x502001 x502002 x502003 x502004) else (if 0 ≤ x502003 then (impl_TimedOk.j2 k x26 x27 x28 (decide (((rd_T56 x26 x28).f1) ≥ (shl .i64 1 x502003))) x502000 x502001 x502002 x502003 x502004) else (none)))) else (impl_TimedOk.j2 k x26 x27 x28 true x502000 x502001 x502002 x502003 x502004))) else (none)) else (none)) else (some true)
def impl_TimedOk.j2 : Nat → List (S56) → Int → Int → Bool → Int → Int → Int → Int → List (S56) → Option (Bool)
 | 0, _, _, _, _, _, _, _, _, _ => none
 | k + 1, x26, x27, x28, x67, x502000, x502001, x502002, x502003, x502004 => if x67 = true then (some false) else (impl_TimedOk.l0 k x26 x27 (wrap64 (x28 + 1)) x502000 x502001 x502002 x502003 x502004)
end
def impl_TimedOk.f (k : Nat) (a0_0 : Int) (a0_1 : Int) (a0_2 : Int) (a0_3 : Int) (l0_4 : List (S56)) : Option (Bool) := (impl_MazeOk.f a0_0 a0_1 a0_2).bind fun t502 => (if t502 = true then (if a0_3 < 1 then (impl_TimedOk.j0 k true a0_0 a0_1 a0_2 a0_3 l0_4) else (if a0_3 > 6 then (impl_TimedOk.j0 k true a0_0 a0_1 a0_2 a0_3 l0_4) else (impl_TimedOk.j0 k (decide ((l0_4.length : Int) > 8)) a0_0 a0_1 a0_2 a0_3 l0_4))) else (impl_TimedOk.j0 k true a0_0 a0_1 a0_2 a0_3 l0_4))
theorem impl_TimedOk.mono_l : ∀ k, (∀ y0 y1 y2 y3 y4 y5, LeO (impl_TimedOk.j0 k y0 y1 y2 y3 y4 y5) (impl_TimedOk.j0 (k + 1) y0 y1 y2 y3 y4 y5)) ∧ (∀ y0 y1 y2 y3 y4 y5 y6 y7, LeO (impl_TimedOk.l0 k y0 y1 y2 y3 y4 y5 y6 y7) (impl_TimedOk.l0 (k + 1) y0 y1 y2 y3 y4 y5 y6 y7)) ∧ (∀ y0 y1 y2 y3 y4 y5 y6 y7 y8, LeO (impl_TimedOk.j2 k y0 y1 y2 y3 y4 y5 y6 y7 y8) (impl_TimedOk.j2 (k + 1) y0 y1 y2 y3 y4 y5 y6 y7 y8))
 | 0 => ⟨fun _ _ _ _ _ _ r h => by simp [impl_TimedOk.j0] at h, fun _ _ _ _ _ _ _ _ r h => by simp [impl_TimedOk.l0] at h, fun _ _ _ _ _ _ _ _ _ r h => by simp [impl_TimedOk.j2] at h⟩
 | k + 1 => by
  obtain ⟨ih0, ih1, ih2⟩ := impl_TimedOk.mono_l k
  refine ⟨?_, ?_, ?_⟩
  ·intro y0 y1 y2 y3 y4 y5
   unfold impl_TimedOk.j0
   repeat' first
   | (with_reducible exact ih0 ..)
   | (with_reducible exact ih1 ..)
   | (with_reducible exact ih2 ..)
   | (with_reducible first | exact lr_ _ | exact ln_ _ | refine li_ ?_ ?_ | refine lb_ ?_ fun _ => ?_)
   | exact ih0 ..
   | exact ih1 ..
   | exact ih2 ..
   | exact ln_ _ | refine li_ ?_ ?_ | refine lb_ ?_ fun _ => ?_
  ·intro y0 y1 y2 y3 y4 y5 y6 y7
   unfold impl_TimedOk.l0
   repeat' first
   | (with_reducible exact ih0 ..)
   | (with_reducible exact ih1 ..)
   | (with_reducible exact ih2 ..)
   | (with_reducible first | exact lr_ _ | exact ln_ _ | refine li_ ?_ ?_ | refine lb_ ?_ fun _ => ?_)
   | exact ih0 ..
   | exact ih1 ..
   | exact ih2 ..
   | exact ln_ _ | refine li_ ?_ ?_ | refine lb_ ?_ fun _ => ?_
  ·intro y0 y1 y2 y3 y4 y5 y6 y7 y8
   unfold impl_TimedOk.j2
   repeat' first
   | (with_reducible exact ih0 ..)
   | (with_reducible exact ih1 ..)
   | (with_reducible exact ih2 ..)
   | (with_reducible first | exact lr_ _ | exact ln_ _ | refine li_ ?_ ?_ | refine lb_ ?_ fun _ => ?_)
   | exact ih0 ..
   | exact ih1 ..
   | exact ih2 ..
   | exact ln_ _ | refine li_ ?_ ?_ | refine lb_ ?_ fun _ => ?_
theorem impl_TimedOk.mono : ∀ a0 a1 a2 a3 a4 k, LeO (impl_TimedOk.f k a0 a1 a2 a3 a4) (impl_TimedOk.f (k + 1) a0 a1 a2 a3 a4) := by
 intro a0 a1 a2 a3 a4 k
 obtain ⟨ih0, ih1, ih2⟩ := impl_TimedOk.mono_l k
 unfold impl_TimedOk.f
 repeat' first
   | (with_reducible exact ih0 ..)
   | (with_reducible exact ih1 ..)
   | (with_reducible exact ih2 ..)
   | (with_reducible first | exact lr_ _ | exact ln_ _ | refine li_ ?_ ?_ | refine lb_ ?_ fun _ => ?_)
   | exact ih0 ..
   | exact ih1 ..
   | exact ih2 ..
   | exact ln_ _ | refine li_ ?_ ?_ | refine lb_ ?_ fun _ => ?_
def impl_TimedOk.T6 : Bool × List (List Nat × List Nat) := (true, [([], []), ([0], [0]), ([], []), ([2], [2]), ([1, 3], [1, 3]), ([4], [4]), ([5, 4], [5]), ([6], [6]), ([7, 6], [6, 7]), ([8, 6, 6], [6, 8]), ([9], [9]), ([10, 9], [9, 10]), ([9], [9]), ([12, 9], [9, 12]), ([11, 13, 9], [9, 11, 13]), ([14, 9], [9, 14]), ([15, 9], [9, 15]), ([9], [9]), ([17, 9], [9, 17]), ([16, 18, 9], [9, 16, 18]), ([9, 19, 6], [6, 9, 19]), ([6, 20], [6, 20]), ([21, 9], [21]), ([22], [22]), ([23, 22], [22, 23]), ([24, 22], [22, 24]), ([22, 25], [22, 25]), ([26, 22], [26]), ([27], [27]), ([28, 27], [27, 28]), ([27], [27]), ([30, 27], [27, 30]), ([31, 27], [27, 31]), ([29, 32, 27], [27, 29, 32]), ([27, 33], [27, 33])])
def impl_TimedOk.B6 : List Nat := [0, 1, 0, 4, 15, 31, 63, 127, 255, 511, 1023, 2047, 1023, 5119, 16383, 32767, 65535, 1023, 132095, 524287, 1048575, 2097151, 4194303, 8388607, 16777215, 33554431, 67108863, 134217727, 268435455, 536870911, 268435455, 1342177279, 3489660927, 8589934591, 17179869183]
theorem impl_TimedOk.tab6 : rtab .any (opsOf Try.f37 6) = impl_TimedOk.T6 := by kernel_rfl
theorem impl_TimedOk.bits6 : waitsOk impl_TimedOk.T6.2 impl_TimedOk.B6 = true := by kernel_rfl
set_option maxHeartbeats 8000000 in
set_option maxRecDepth 100000 in
theorem impl_TimedOk.calls (k : Nat) (a0_0 : Int) (a0_1 : Int) (a0_2 : Int) (a0_3 : Int) (A0_4 : Option Addr) (c0_4 : Nat) (l0_4 : List (S56)) (r : Bool) (w : World) (hr0_4 : Kd.C k56 w A0_4 l0_4.length l0_4) (hc0_4 : l0_4.length ≤ c0_4) (h : impl_TimedOk.f k a0_0 a0_1 a0_2 a0_3 l0_4 = some r) :
  Calls Try.prog 37 #[.agg #[.int .i64 a0_0, .int .i64 a0_1, .int .i64 a0_2, .int .i64 a0_3, .slice A0_4 l0_4.length c0_4]] w fun e w' => e = .returned (.bool r) ∧ Below w.heap.size w w' := by
 have hu36 := Try.underlying36
 have hu33 := Try.underlying33
 have hu56 := Try.underlying56
 have HR0_4 := Aside0.mk hr0_4
 have HC0_4 := Aside0.mk hc0_4
 clear hr0_4 hc0_4
 have HB := Aside0.mk (Below.refl w.heap.size w)
 have H : ((impl_MazeOk.f a0_0 a0_1 a0_2).bind fun t502 => (if t502 = true then (if a0_3 < 1 then (impl_TimedOk.j0 k true a0_0 a0_1 a0_2 a0_3 l0_4) else (if a0_3 > 6 then (impl_TimedOk.j0 k true a0_0 a0_1 a0_2 a0_3 l0_4) else (impl_TimedOk.j0 k (decide ((l0_4.length : Int) > 8)) a0_0 a0_1 a0_2 a0_3 l0_4))) else (impl_TimedOk.j0 k true a0_0 a0_1 a0_2 a0_3 l0_4))) = some r := h
 clear h
 have HC2 := Aside0.mk H
 clear H
 go_enter Try.func37, Try.ntmps37
 go_upto_region 1 with (first | ((with_reducible refine gate_dst (N := 1) rfl ?_); (try (refine gate_guard (by rfl) ?_; dsimp only)); refine box_event ?hg (N := 1) ?hd (cs := #[.int .i64 a0_0, .int .i64 a0_1, .int .i64 a0_2, .int .i64 a0_3, .slice A0_4 l0_4.length c0_4]) (t := 36) ?hr ?_; (case hd => rfl); (case hg => rfl); (case hr => first | (go_simp; done) | (go_simp; rfl)); intro gb501 hg w3 hbox hb; have BK501 := Aside0.mk (hbox); have GW501 := HB.g0 hg; have GE501 := HB.g0 hg; replace HB := HB.s0 hb; clear hb hbox hg))
 (try simp only [Act.put, List.setIfInBounds_toArray, List.set_cons_zero, List.set_cons_succ])
 go_cut [24] (fun v24 wc => ∃ (kq : Nat) (x24_1 : Bool), v24 = .bool x24_1 ∧ Aside0 (impl_TimedOk.j0 kq x24_1 a0_0 a0_1 a0_2 a0_3 l0_4 = some r) ∧ Aside0 (kq ≤ k) ∧ Aside0 (wc.heap[gb501]? = some (.cells #[.int .i64 a0_0, .int .i64 a0_1, .int .i64 a0_2, .int .i64 a0_3, (.slice A0_4 l0_4.length c0_4)] 36 (0, 0))) ∧ Aside0 (Below w.heap.size w wc))
 case first =>
  have H := HC2.out
  clear HC2
  replace H := Option.bind_eq_some_iff.mp H
  obtain ⟨t502, A40, H⟩ := H
  replace H : (if t502 = true then (if a0_3 < 1 then (impl_TimedOk.j0 k true a0_0 a0_1 a0_2 a0_3 l0_4) else (if a0_3 > 6 then (impl_TimedOk.j0 k true a0_0 a0_1 a0_2 a0_3 l0_4) else (impl_TimedOk.j0 k (decide ((l0_4.length : Int) > 8)) a0_0 a0_1 a0_2 a0_3 l0_4))) else (impl_TimedOk.j0 k true a0_0 a0_1 a0_2 a0_3 l0_4)) = some r := H
  have A4 := Aside0.mk A40
  clear A40
  by_cases c5 : t502 = true
  ·subst c5
   have H1 : (if a0_3 < 1 then (impl_TimedOk.j0 k true a0_0 a0_1 a0_2 a0_3 l0_4) else (if a0_3 > 6 then (impl_TimedOk.j0 k true a0_0 a0_1 a0_2 a0_3 l0_4) else (impl_TimedOk.j0 k (decide ((l0_4.length : Int) > 8)) a0_0 a0_1 a0_2 a0_3 l0_4))) = some r := by rw [if_pos rfl] at H; exact H
   clear H
   have H := H1
   clear H1
   by_cases c6 : a0_3 < 1
   ·rw [if_pos c6] at H
    have c6b0 : decide (a0_3 < 1) = true := decide_eq_true c6
    clear c6
    (first | rw [c6b0] | (simp only [i64_w, i32_w]; rw [c6b0]) | skip)
    have H' := Aside0.mk H
    clear H
    obtain ⟨hcz7_0, hcz7_1, hcz7_2, hcz7_3, hcz7_4⟩ := cz5_ BK501.out
    obtain ⟨hfz7_0, hfz7_1, hfz7_2, hfz7_3, hfz7_4⟩ := fz5_ BK501.out
    go_wp2_with (first | (refine gl_ 7 Try.func59 #[.agg #[.int .i64 a0_0, .int .i64 a0_1, .int .i64 a0_2]] ?_; (with_reducible refine (impl_MazeOk.calls a0_0 a0_1 a0_2 true _ A4.out).mono ?_); rintro e w8 ⟨rfl, hb⟩; refine ⟨_, rfl, ?_⟩; replace BK501 := BK501.bb hb; replace HB := HB.s1 GE501 hb; (try clear hb); obtain ⟨hcz9_0, hcz9_1, hcz9_2, hcz9_3, hcz9_4⟩ := cz5_ BK501.out; obtain ⟨hfz9_0, hfz9_1, hfz9_2, hfz9_3, hfz9_4⟩ := fz5_ BK501.out))
    go_meet
    case rel => exact ⟨_, (true), (by first | rfl | (simp; done) | (simp [*]; done)), H', ⟨by first | omega | exact Nat.le_refl _⟩, ⟨bk_ BK501.out⟩, ⟨hb1_ HB.out GE501.out⟩⟩
   ·rw [if_neg c6] at H
    have c6b0 : decide (a0_3 < 1) = false := decide_eq_false c6
    clear c6
    (first | rw [c6b0] | (simp only [i64_w, i32_w]; rw [c6b0]) | skip)
    by_cases c10 : a0_3 > 6
    ·rw [if_pos c10] at H
     have c10b0 : decide (6 < a0_3) = true := decide_eq_true c10
     clear c10
     have H' := Aside0.mk H
     clear H
     obtain ⟨hcz11_0, hcz11_1, hcz11_2, hcz11_3, hcz11_4⟩ := cz5_ BK501.out
     obtain ⟨hfz11_0, hfz11_1, hfz11_2, hfz11_3, hfz11_4⟩ := fz5_ BK501.out
     go_wp2_with (first | (refine gl_ 7 Try.func59 #[.agg #[.int .i64 a0_0, .int .i64 a0_1, .int .i64 a0_2]] ?_; (with_reducible refine (impl_MazeOk.calls a0_0 a0_1 a0_2 true _ A4.out).mono ?_); rintro e w12 ⟨rfl, hb⟩; refine ⟨_, rfl, ?_⟩; replace BK501 := BK501.bb hb; replace HB := HB.s1 GE501 hb; (try clear hb); obtain ⟨hcz13_0, hcz13_1, hcz13_2, hcz13_3, hcz13_4⟩ := cz5_ BK501.out; obtain ⟨hfz13_0, hfz13_1, hfz13_2, hfz13_3, hfz13_4⟩ := fz5_ BK501.out))
     go_meet
     case rel => exact ⟨_, (true), (by first | rfl | (simp; done) | (simp [*]; done)), H', ⟨by first | omega | exact Nat.le_refl _⟩, ⟨bk_ BK501.out⟩, ⟨hb1_ HB.out GE501.out⟩⟩
    ·rw [if_neg c10] at H
     have c10b0 : decide (6 < a0_3) = false := decide_eq_false c10
     clear c10
     have H' := Aside0.mk H
     clear H
     obtain ⟨hcz14_0, hcz14_1, hcz14_2, hcz14_3, hcz14_4⟩ := cz5_ BK501.out
     obtain ⟨hfz14_0, hfz14_1, hfz14_2, hfz14_3, hfz14_4⟩ := fz5_ BK501.out
     go_wp2_with (first | (refine gl_ 7 Try.func59 #[.agg #[.int .i64 a0_0, .int .i64 a0_1, .int .i64 a0_2]] ?_; (with_reducible refine (impl_MazeOk.calls a0_0 a0_1 a0_2 true _ A4.out).mono ?_); rintro e w15 ⟨rfl, hb⟩; refine ⟨_, rfl, ?_⟩; replace BK501 := BK501.bb hb; replace HB := HB.s1 GE501 hb; (try clear hb); obtain ⟨hcz16_0, hcz16_1, hcz16_2, hcz16_3, hcz16_4⟩ := cz5_ BK501.out; obtain ⟨hfz16_0, hfz16_1, hfz16_2, hfz16_3, hfz16_4⟩ := fz5_ BK501.out))
     go_meet
     case rel => exact ⟨_, (decide ((l0_4.length : Int) > 8)), (by first | rfl | (simp; done) | (simp [*]; done)), H', ⟨by first | omega | exact Nat.le_refl _⟩, ⟨bk_ BK501.out⟩, ⟨hb1_ HB.out GE501.out⟩⟩
  ·replace c5 := Bool.eq_false_iff.mpr c5
   subst c5
   have H1 : (impl_TimedOk.j0 k true a0_0 a0_1 a0_2 a0_3 l0_4) = some r := by rw [if_neg (show ¬ (false = true) by decide)] at H; exact H
   clear H
   have H := H1
   clear H1
   have H' := Aside0.mk H
   clear H
   obtain ⟨hcz17_0, hcz17_1, hcz17_2, hcz17_3, hcz17_4⟩ := cz5_ BK501.out
   obtain ⟨hfz17_0, hfz17_1, hfz17_2, hfz17_3, hfz17_4⟩ := fz5_ BK501.out
   go_wp2_with (first | (refine gl_ 7 Try.func59 #[.agg #[.int .i64 a0_0, .int .i64 a0_1, .int .i64 a0_2]] ?_; (with_reducible refine (impl_MazeOk.calls a0_0 a0_1 a0_2 false _ A4.out).mono ?_); rintro e w18 ⟨rfl, hb⟩; refine ⟨_, rfl, ?_⟩; replace BK501 := BK501.bb hb; replace HB := HB.s1 GE501 hb; (try clear hb)))
   go_meet
   case rel => exact ⟨_, (true), (by first | rfl | (simp; done) | (simp [*]; done)), H', ⟨by first | omega | exact Nat.le_refl _⟩, ⟨bk_ BK501.out⟩, ⟨hb1_ HB.out GE501.out⟩⟩
 case rest =>
  clear HC2
  try clear c1
  try clear p2
  try clear c3
  try clear c5
  try clear c6
  try clear c6b0
  try clear c10
  try clear c10b0
  try clear hcz11_0
  try clear hcz11_1
  try clear hcz11_2
  try clear hcz11_3
  try clear hcz11_4
  try clear hcz13_0
  try clear hcz13_1
  try clear hcz13_2
  try clear hcz13_3
  try clear hcz13_4
  try clear hcz14_0
  try clear hcz14_1
  try clear hcz14_2
  try clear hcz14_3
  try clear hcz14_4
  try clear hcz16_0
  try clear hcz16_1
  try clear hcz16_2
  try clear hcz16_3
  try clear hcz16_4
  try clear hcz17_0
  try clear hcz17_1
  try clear hcz17_2
  try clear hcz17_3
  try clear hcz17_4
  try clear hcz7_0
  try clear hcz7_1
  try clear hcz7_2
  try clear hcz7_3
  try clear hcz7_4
  try clear hcz9_0
  try clear hcz9_1
  try clear hcz9_2
  try clear hcz9_3
  try clear hcz9_4
  try clear hfz11_0
  try clear hfz11_1
  try clear hfz11_2
  try clear hfz11_3
  try clear hfz11_4
  try clear hfz13_0
  try clear hfz13_1
  try clear hfz13_2
  try clear hfz13_3
  try clear hfz13_4
  try clear hfz14_0
  try clear hfz14_1
  try clear hfz14_2
  try clear hfz14_3
  try clear hfz14_4
  try clear hfz16_0
  try clear hfz16_1
  try clear hfz16_2
  try clear hfz16_3
  try clear hfz16_4
  try clear hfz17_0
  try clear hfz17_1
  try clear hfz17_2
  try clear hfz17_3
  try clear hfz17_4
  try clear hfz7_0
  try clear hfz7_1
  try clear hfz7_2
  try clear hfz7_3
  try clear hfz7_4
  try clear hfz9_0
  try clear hfz9_1
  try clear hfz9_2
  try clear hfz9_3
  try clear hfz9_4
  obtain ⟨kq, x24_1, rfl, HA, HJ1, BK501, HB⟩ := hcut
  cases kq with
  | zero => exact absurd HA.out (by simp [impl_TimedOk.j0])
  | succ kj1 =>
   have H := HA.out
   clear HA
   simp only [impl_TimedOk.j0] at H
   by_cases c19 : x24_1 = true
   ·subst c19
    have H1 : (some false) = some r := by rw [if_pos rfl] at H; exact H
    clear H
    have H := H1
    clear H1
    obtain rfl := Option.some.inj H
    go_wp2
    go_ret
    exact ⟨ex_, hb1_ HB.out GE501.out⟩
   ·replace c19 := Bool.eq_false_iff.mpr c19
    subst c19
    have H1 : (impl_TimedOk.l0 kj1 l0_4 (l0_4.length : Int) 0 a0_0 a0_1 a0_2 a0_3 l0_4) = some r := by rw [if_neg (show ¬ (false = true) by decide)] at H; exact H
    clear H
    have H := H1
    clear H1
    have H' := Aside0.mk H
    clear H
    obtain ⟨hcz20_0, hcz20_1, hcz20_2, hcz20_3, hcz20_4⟩ := cz5_ BK501.out
    obtain ⟨hfz20_0, hfz20_1, hfz20_2, hfz20_3, hfz20_4⟩ := fz5_ BK501.out
    go_wp2
    go_loopg [28] kj1 (fun kq v28 w' => ∃ (x28_2 : Int), v28 = .int .i64 x28_2 ∧ Aside0 (impl_TimedOk.l0 kq l0_4 (l0_4.length : Int) x28_2 a0_0 a0_1 a0_2 a0_3 l0_4 = some r) ∧ Aside0 (kq ≤ kj1) ∧ Aside0 (w'.heap[gb501]? = some (.cells #[.int .i64 a0_0, .int .i64 a0_1, .int .i64 a0_2, .int .i64 a0_3, (.slice A0_4 l0_4.length c0_4)] 36 (0, 0))) ∧ Aside0 (Below w.heap.size w w'))
    case atStart => exact ⟨(0), (by first | rfl | (simp; done) | (simp [*]; done)), H', ⟨Nat.le_refl _⟩, ⟨bk_ BK501.out⟩, ⟨hb1_ HB.out GE501.out⟩⟩
    case round =>
     clear H'
     try clear c1
     try clear p2
     try clear c3
     try clear c5
     try clear c6
     try clear c6b0
     try clear c10
     try clear c10b0
     try clear c19
     try clear hcz11_0
     try clear hcz11_1
     try clear hcz11_2
     try clear hcz11_3
     try clear hcz11_4
     try clear hcz13_0
     try clear hcz13_1
     try clear hcz13_2
     try clear hcz13_3
     try clear hcz13_4
     try clear hcz14_0
     try clear hcz14_1
     try clear hcz14_2
     try clear hcz14_3
     try clear hcz14_4
     try clear hcz16_0
     try clear hcz16_1
     try clear hcz16_2
     try clear hcz16_3
     try clear hcz16_4
     try clear hcz17_0
     try clear hcz17_1
     try clear hcz17_2
     try clear hcz17_3
     try clear hcz17_4
     try clear hcz20_0
     try clear hcz20_1
     try clear hcz20_2
     try clear hcz20_3
     try clear hcz20_4
     try clear hcz7_0
     try clear hcz7_1
     try clear hcz7_2
     try clear hcz7_3
     try clear hcz7_4
     try clear hcz9_0
     try clear hcz9_1
     try clear hcz9_2
     try clear hcz9_3
     try clear hcz9_4
     try clear hfz11_0
     try clear hfz11_1
     try clear hfz11_2
     try clear hfz11_3
     try clear hfz11_4
     try clear hfz13_0
     try clear hfz13_1
     try clear hfz13_2
     try clear hfz13_3
     try clear hfz13_4
     try clear hfz14_0
     try clear hfz14_1
     try clear hfz14_2
     try clear hfz14_3
     try clear hfz14_4
     try clear hfz16_0
     try clear hfz16_1
     try clear hfz16_2
     try clear hfz16_3
     try clear hfz16_4
     try clear hfz17_0
     try clear hfz17_1
     try clear hfz17_2
     try clear hfz17_3
     try clear hfz17_4
     try clear hfz20_0
     try clear hfz20_1
     try clear hfz20_2
     try clear hfz20_3
     try clear hfz20_4
     try clear hfz7_0
     try clear hfz7_1
     try clear hfz7_2
     try clear hfz7_3
     try clear hfz7_4
     try clear hfz9_0
     try clear hfz9_1
     try clear hfz9_2
     try clear hfz9_3
     try clear hfz9_4
     try clear p2
     obtain ⟨x28_2, rfl, HA, HK2, BK501, HB⟩ := hrel
     cases gk with
     | zero => exact absurd HA.out (by simp [impl_TimedOk.l0])
     | succ k2 =>
      have H := HA.out
      clear HA
      simp only [impl_TimedOk.l0] at H
      by_cases c21 : x28_2 < (l0_4.length : Int)
      ·rw [if_pos c21] at H
       have c21b0 : decide (x28_2 < (l0_4.length : Int)) = true := decide_eq_true c21
       clear c21
       by_cases c22 : 0 ≤ x28_2
       ·rw [if_pos c22] at H
        have c22b0 : decide (0 ≤ x28_2) = true := decide_eq_true c22
        clear c22
        by_cases c23 : x28_2 < (l0_4.length : Int)
        ·rw [if_pos c23] at H
         have c23b0 : decide (x28_2 < (l0_4.length : Int)) = true := decide_eq_true c23
         clear c23
         have HC24 := Aside0.mk H
         clear H
         have p503 : 0 ≤ (x28_2 : Int) := of_decide_eq_true (as_)
         have q503 : x28_2 < (l0_4.length : Int) := of_decide_eq_true (as_)
         obtain ⟨ad503, e503, hx503_0, hx503_1⟩ := at_T56 HR0_4.out x28_2 p503 q503
         cases e503
         replace hx503_0 := (HB.out.cell (World.block_lt_of_cell? w _ hx503_0)).trans hx503_0
         replace hx503_1 := (HB.out.cell (World.block_lt_of_cell? w _ hx503_1)).trans hx503_1
         replace p503 := eq_true p503
         replace q503 := eq_true q503
         go_upto_region 6 with (first | ((with_reducible refine gate_dst (N := 4) rfl ?_); (try (refine gate_guard (by rfl) ?_; dsimp only)); refine box_event ?hg (N := 4) ?hd (cs := #[.int .i64 0, .int .i64 0]) (t := 56) ?hr ?_; (case hd => rfl); (case hg => rfl); (case hr => first | (go_simp; done) | (go_simp; rfl)); intro gb504 hg w25 hbox hb; have BK504 := Aside0.mk (hbox); have GW504 := HB.g1 GE501 hg; have GE504 := HB.g1 GE501 hg; replace HB := HB.s1 GE501 hb; have NB501_504 := BK501.nl hg; have NB504_501 := BK501.nr hg; replace BK501 := BK501.bb hb; clear hb hbox hg; have hnb26 := NB504_501.out; have hnc26 := NB501_504.out; obtain ⟨hcz27_0, hcz27_1⟩ := cz2_ BK504.out; obtain ⟨hfz27_0, hfz27_1⟩ := fz2_ BK504.out))
         (try simp only [Act.put, List.setIfInBounds_toArray, List.set_cons_zero, List.set_cons_succ])
         go_cut [67] (fun v67 wc => ∃ (kq : Nat) (x67_23 : Bool), v67 = .bool x67_23 ∧ Aside0 (impl_TimedOk.j2 kq l0_4 (l0_4.length : Int) x28_2 x67_23 a0_0 a0_1 a0_2 a0_3 l0_4 = some r) ∧ Aside0 (kq ≤ k2) ∧ Aside0 (wc.heap[gb501]? = some (.cells #[.int .i64 a0_0, .int .i64 a0_1, .int .i64 a0_2, .int .i64 a0_3, (.slice (some ad503) l0_4.length c0_4)] 36 (0, 0))) ∧ Aside0 (wc.heap[gb504]? = some (.cells #[.int .i64 ((rd_T56 l0_4 x28_2).f0), .int .i64 ((rd_T56 l0_4 x28_2).f1)] 56 (0, 0))) ∧ Aside0 (Below w.heap.size w wc))
         case first =>
          have H := HC24.out
          clear HC24
          replace H := Option.bind_eq_some_iff.mp H
          obtain ⟨t505, A280, H⟩ := H
          replace H : (if t505 = true then (if x28_2 > 0 then (if 0 ≤ (wrap64 (x28_2 - 1)) then (if (wrap64 (x28_2 - 1)) < (l0_4.length : Int) then (if ((rd_T56 l0_4 (wrap64 (x28_2 - 1))).f0) ≥ ((rd_T56 l0_4 x28_2).f0) then (impl_TimedOk.j2 k2 l0_4 (l0_4.length : Int) x28_2 true a0_0 a0_1 a0_2 a0_3 l0_4) else (if ((rd_T56 l0_4 x28_2).f1) < 0 then (impl_TimedOk.j2 k2 l0_4 (l0_4.length : Int) x28_2 true a0_0 a0_1 a0_2 a0_3 l0_4) else (if 0 ≤ a0_3 then (impl_TimedOk.j2 k2 l0_4 (l0_4.length : Int) x28_2 (decide (((rd_T56 l0_4 x28_2).f1) ≥ (shl .i64 1 a0_3))) a0_0 a0_1 a0_2 a0_3 l0_4) else (none)))) else (none)) else (none)) else (if ((rd_T56 l0_4 x28_2).f1) < 0 then (impl_TimedOk.j2 k2 l0_4 (l0_4.length : Int) x28_2 true a0_0 a0_1 a0_2 a0_3 l0_4) else (if 0 ≤ a0_3 then (impl_TimedOk.j2 k2 l0_4 (l0_4.length : Int) x28_2 (decide (((rd_T56 l0_4 x28_2).f1) ≥ (shl .i64 1 a0_3))) a0_0 a0_1 a0_2 a0_3 l0_4) else (none)))) else (impl_TimedOk.j2 k2 l0_4 (l0_4.length : Int) x28_2 true a0_0 a0_1 a0_2 a0_3 l0_4)) = some r := H
          have A28 := Aside0.mk A280
          clear A280
          by_cases c29 : t505 = true
          ·subst c29
           have H1 : (if x28_2 > 0 then (if 0 ≤ (wrap64 (x28_2 - 1)) then (if (wrap64 (x28_2 - 1)) < (l0_4.length : Int) then (if ((rd_T56 l0_4 (wrap64 (x28_2 - 1))).f0) ≥ ((rd_T56 l0_4 x28_2).f0) then (impl_TimedOk.j2 k2 l0_4 (l0_4.length : Int) x28_2 true a0_0 a0_1 a0_2 a0_3 l0_4) else (if ((rd_T56 l0_4 x28_2).f1) < 0 then (impl_TimedOk.j2 k2 l0_4 (l0_4.length : Int) x28_2 true a0_0 a0_1 a0_2 a0_3 l0_4) else (if 0 ≤ a0_3 then (impl_TimedOk.j2 k2 l0_4 (l0_4.length : Int) x28_2 (decide (((rd_T56 l0_4 x28_2).f1) ≥ (shl .i64 1 a0_3))) a0_0 a0_1 a0_2 a0_3 l0_4) else (none)))) else (none)) else (none)) else (if ((rd_T56 l0_4 x28_2).f1) < 0 then (impl_TimedOk.j2 k2 l0_4 (l0_4.length : Int) x28_2 true a0_0 a0_1 a0_2 a0_3 l0_4) else (if 0 ≤ a0_3 then (impl_TimedOk.j2 k2 l0_4 (l0_4.length : Int) x28_2 (decide (((rd_T56 l0_4 x28_2).f1) ≥ (shl .i64 1 a0_3))) a0_0 a0_1 a0_2 a0_3 l0_4) else (none)))) = some r := by rw [if_pos rfl] at H; exact H
           clear H
           have H := H1
           clear H1
           by_cases c30 : x28_2 > 0
           ·rw [if_pos c30] at H
            have c30b0 : decide (0 < x28_2) = true := decide_eq_true c30
            clear c30
            (first | rw [c30b0] | (simp only [i64_w, i32_w]; rw [c30b0]) | skip)
            obtain ⟨ji31, hji31⟩ : ∃ j_ : Int, (wrap64 (x28_2 - 1)) = j_ := ⟨_, rfl⟩
            replace H : (if 0 ≤ (ji31) then (if (ji31) < (l0_4.length : Int) then (if ((rd_T56 l0_4 (ji31)).f0) ≥ ((rd_T56 l0_4 x28_2).f0) then (impl_TimedOk.j2 k2 l0_4 (l0_4.length : Int) x28_2 true a0_0 a0_1 a0_2 a0_3 l0_4) else (if ((rd_T56 l0_4 x28_2).f1) < 0 then (impl_TimedOk.j2 k2 l0_4 (l0_4.length : Int) x28_2 true a0_0 a0_1 a0_2 a0_3 l0_4) else (if 0 ≤ a0_3 then (impl_TimedOk.j2 k2 l0_4 (l0_4.length : Int) x28_2 (decide (((rd_T56 l0_4 x28_2).f1) ≥ (shl .i64 1 a0_3))) a0_0 a0_1 a0_2 a0_3 l0_4) else (none)))) else (none)) else (none)) = some r := by first | (rw [hji31] at H; exact H) | (simp only [hji31] at H ⊢; exact H)
            (try rw [hji31] at A28)
            have hji31w : (IntKind.i64.wrap (x28_2 - 1)) = ji31 := (i64_w _).trans hji31
            by_cases c32 : 0 ≤ (ji31)
            ·rw [if_pos c32] at H
             have c32b0 : decide (0 ≤ (ji31)) = true := decide_eq_true c32
             clear c32
             by_cases c33 : (ji31) < (l0_4.length : Int)
             ·rw [if_pos c33] at H
              have c33b0 : decide ((ji31) < (l0_4.length : Int)) = true := decide_eq_true c33
              clear c33
              by_cases c34 : ((rd_T56 l0_4 (ji31)).f0) ≥ ((rd_T56 l0_4 x28_2).f0)
              ·rw [if_pos c34] at H
               have c34b0 : decide (((rd_T56 l0_4 x28_2).f0) ≤ ((rd_T56 l0_4 (ji31)).f0)) = true := decide_eq_true c34
               clear c34
               have H' := Aside0.mk H
               clear H
               try go_wp2
               have n0_ : Aside0 (((w25.setCell ⟨gb504, 0, none⟩ (.int .i64 ((rd_T56 l0_4 x28_2).f0))).setCell ⟨gb504, 1, none⟩ (.int .i64 ((rd_T56 l0_4 x28_2).f1))).heap[gb501]? = some (.cells #[.int .i64 a0_0, .int .i64 a0_1, .int .i64 a0_2, .int .i64 a0_3, .slice (some ad503) l0_4.length c0_4] 36 (0, 0))) := ⟨by (with_reducible repeat (first | refine blk_drewN ?_ _ | refine blk_drew ?_ | refine blk_alloc ?_ _)); refine blk_far ?_ NB501_504.out _; (with_reducible repeat (first | refine blk_drewN ?_ _ | refine blk_drew ?_ | refine blk_alloc ?_ _)); refine blk_far ?_ NB501_504.out _; (with_reducible repeat (first | refine blk_drewN ?_ _ | refine blk_drew ?_ | refine blk_alloc ?_ _)); exact BK501.out⟩
               have n1_ : Aside0 (((w25.setCell ⟨gb504, 0, none⟩ (.int .i64 ((rd_T56 l0_4 x28_2).f0))).setCell ⟨gb504, 1, none⟩ (.int .i64 ((rd_T56 l0_4 x28_2).f1))).heap[gb504]? = some (.cells #[.int .i64 ((rd_T56 l0_4 x28_2).f0), .int .i64 ((rd_T56 l0_4 x28_2).f1)] 56 (0, 0))) := ⟨bq2_ BK504.out⟩
               have n2_ : Aside0 (Below w.heap.size w ((w25.setCell ⟨gb504, 0, none⟩ (.int .i64 ((rd_T56 l0_4 x28_2).f0))).setCell ⟨gb504, 1, none⟩ (.int .i64 ((rd_T56 l0_4 x28_2).f1)))) := ⟨hb2_ HB.out GE501.out GE504.out⟩
               (try clear BK501)
               (try clear BK504)
               (try clear HB)
               generalize ((w25.setCell ⟨gb504, 0, none⟩ (.int .i64 ((rd_T56 l0_4 x28_2).f0))).setCell ⟨gb504, 1, none⟩ (.int .i64 ((rd_T56 l0_4 x28_2).f1))) = w35 at n0_ n1_ n2_ ⊢
               have BK501 := n0_
               have BK504 := n1_
               have HB := n2_
               clear n0_ n1_ n2_
               replace BK501 := Aside0.mk (blk_drew BK501.out)
               replace BK504 := Aside0.mk (blk_drew BK504.out)
               replace HB := Aside0.mk (below_drew1 HB.out)
               have p506 : 0 ≤ ((ji31) : Int) := of_decide_eq_true (as_)
               have q506 : (ji31) < (l0_4.length : Int) := of_decide_eq_true (as_)
               obtain ⟨ad506, e506, hx506_0, hx506_1⟩ := at_T56 HR0_4.out (ji31) p506 q506
               have hw506_1 := hx506_1
               have hw506_0 := hx506_0
               obtain rfl : ad503 = ad506 := (by injection e506)
               replace hx506_0 := (HB.out.cell (World.block_lt_of_cell? w _ hx506_0)).trans hx506_0
               replace hx506_1 := (HB.out.cell (World.block_lt_of_cell? w _ hx506_1)).trans hx506_1
               replace p506 := eq_true p506
               replace q506 := eq_true q506
               refine start_ (n := 35) (S := fun w' => w'.cell? ⟨gb501, 0, none⟩ = some (.int .i64 a0_0) ∧ w'.cell? ⟨gb501, 1, none⟩ = some (.int .i64 a0_1) ∧ w'.cell? ⟨gb501, 2, none⟩ = some (.int .i64 a0_2) ∧ w'.cell? ⟨gb501, 3, none⟩ = some (.int .i64 a0_3) ∧ w'.cell? ⟨gb501, 4, none⟩ = some (.slice (some ad503) l0_4.length c0_4) ∧ w'.cell? ⟨gb504, 0, none⟩ = some (.int .i64 ((rd_T56 l0_4 x28_2).f0)) ∧ w'.cell? ⟨gb504, 1, none⟩ = some (.int .i64 ((rd_T56 l0_4 x28_2).f1)) ∧ w'.cell? (ad503.add (((ji31)).toNat * 2)) = some (.int .i64 ((rd_T56 l0_4 (ji31)).f0)) ∧ w'.cell? ⟨(ad503.add (((ji31)).toNat * 2)).block, (ad503.add (((ji31)).toNat * 2)).off + 1, none⟩ = some (.int .i64 ((rd_T56 l0_4 (ji31)).f1))) (ds := []) #[false, false, false, false, false, false, false, false, false, false, false, false, false, false, false, false, false, false, false, false, false, false, false, false, false, false, false, false, false, false, false, false, false, false, false] (by kernel_rfl) rfl rfl ⟨BK501.c 0, BK501.c 1, BK501.c 2, BK501.c 3, BK501.c 4, BK504.c 0, BK504.c 1, ((HB.out.cell (World.block_lt_of_cell? w _ hw506_0)).trans hw506_0), ((HB.out.cell (World.block_lt_of_cell? w _ hw506_1)).trans hw506_1)⟩ (fun hHeld => ?_); refine with_tabW impl_TimedOk.tab6 impl_TimedOk.bits6 (fun HT_ HW_ => ?_)
               generalize w35.drew = w36 at BK501 BK504 HB hx506_0 hx506_1 hHeld ⊢
               refine pv_ (i := 0) (N := some 33) HT_.out ?_
               refine pv_ (i := 2) (N := some 35) HT_.out ?_
               refine tv9_ (i := 1) (N := some 34) HT_.out HW_.out hHeld ?_
               refine tv9_ (i := 3) (N := some 36) HT_.out HW_.out hHeld ?_
               refine ov_ (i := 4) (N := some 37) HT_.out (fun K hK => ?_)
               refine gq_ Try.func60 #[.agg #[.int .i64 a0_0, .int .i64 a0_1, .int .i64 a0_2], .int .i64 ((rd_T56 l0_4 x28_2).f0)] ?_
               with_reducible refine (impl_IsPassage.calls a0_0 a0_1 a0_2 ((rd_T56 l0_4 x28_2).f0) true _ A28.out).mono ?_
               rintro e w37 ⟨rfl, hb⟩
               refine ⟨_, rfl, ?_⟩
               replace BK501 := BK501.bb hb
               replace BK504 := BK504.bb hb
               replace HB := HB.s2 GE501 GE504 hb
               skip
               (try clear hb2)
               (try clear hk)
               (try clear hi)
               refine hK.out _ _ ⟨BK501.c 0, BK501.c 1, BK501.c 2, BK501.c 3, BK501.c 4, BK504.c 0, BK504.c 1, ((HB.out.cell (World.block_lt_of_cell? w _ hw506_0)).trans hw506_0), ((HB.out.cell (World.block_lt_of_cell? w _ hw506_1)).trans hw506_1)⟩ (fun hHeld => ?_)
               clear hK K
               refine nm_ ?_
               refine pv_ (i := 5) (N := some 38) HT_.out ?_
               refine pv_ (i := 6) (N := some 39) HT_.out ?_
               refine pv_ (i := 7) (N := some 40) HT_.out ?_
               refine pv_ (i := 8) (N := some 41) HT_.out ?_
               refine pv_ (i := 9) (N := some 42) HT_.out ?_
               refine pv_ (i := 10) (N := some 43) HT_.out ?_
               refine pv_ (i := 12) (N := some 45) HT_.out ?_
               refine pv_ (i := 13) (N := some 46) HT_.out ?_
               refine pv_ (i := 17) (N := some 50) HT_.out ?_
               refine tv9_ (i := 11) (N := some 44) HT_.out HW_.out hHeld ?_
               refine pv_ (i := 14) (N := some 47) HT_.out ?_
               refine pv_ (i := 15) (N := some 48) HT_.out ?_
               refine tv9_ (i := 16) (N := some 49) HT_.out HW_.out hHeld ?_
               refine tv9_ (i := 18) (N := some 51) HT_.out HW_.out hHeld ?_
               refine pv_ (i := 19) (N := some 52) HT_.out ?_
               refine pv_ (i := 20) (N := some 53) HT_.out ?_
               refine pv_ (i := 21) (N := some 54) HT_.out ?_
               refine pv_ (i := 22) (N := some 55) HT_.out ?_
               refine pu_ (i := 23) (N := some 56) HT_.out ?_
               refine pu_ (i := 24) (N := some 57) HT_.out ?_
               refine pu_ (i := 25) (N := some 58) HT_.out ?_
               refine pv_ (i := 26) (N := some 59) HT_.out ?_
               refine pv_ (i := 27) (N := some 60) HT_.out ?_
               refine pu_ (i := 28) (N := some 61) HT_.out ?_
               refine pu_ (i := 29) (N := some 62) HT_.out ?_
               refine pu_ (i := 30) (N := some 63) HT_.out ?_
               refine pu_ (i := 31) (N := some 64) HT_.out ?_
               refine pu_ (i := 32) (N := some 65) HT_.out ?_
               refine pu_ (i := 33) (N := some 66) HT_.out ?_
               refine pv_ (i := 34) (N := some 67) HT_.out ?_
               refine done_ (done_of HT_.out (by kernel_rfl)) ?_
               try go_wp2
               go_meet
               case rel => exact ⟨_, (true), (by first | rfl | (simp; done) | (simp [*]; done)), H', ⟨by have := HJ1.out; have := HK2.out; first | omega | exact Nat.le_refl _⟩, ⟨bk_ BK501.out⟩, ⟨bk_ BK504.out⟩, ⟨hb2_ HB.out GE501.out GE504.out⟩⟩
              ·rw [if_neg c34] at H
               have c34b0 : decide (((rd_T56 l0_4 x28_2).f0) ≤ ((rd_T56 l0_4 (ji31)).f0)) = false := decide_eq_false c34
               clear c34
               by_cases c38 : ((rd_T56 l0_4 x28_2).f1) < 0
               ·rw [if_pos c38] at H
                have c38b0 : decide (((rd_T56 l0_4 x28_2).f1) < 0) = true := decide_eq_true c38
                clear c38
                have H' := Aside0.mk H
                clear H
                try go_wp2
                have n0_ : Aside0 (((w25.setCell ⟨gb504, 0, none⟩ (.int .i64 ((rd_T56 l0_4 x28_2).f0))).setCell ⟨gb504, 1, none⟩ (.int .i64 ((rd_T56 l0_4 x28_2).f1))).heap[gb501]? = some (.cells #[.int .i64 a0_0, .int .i64 a0_1, .int .i64 a0_2, .int .i64 a0_3, .slice (some ad503) l0_4.length c0_4] 36 (0, 0))) := ⟨by (with_reducible repeat (first | refine blk_drewN ?_ _ | refine blk_drew ?_ | refine blk_alloc ?_ _)); refine blk_far ?_ NB501_504.out _; (with_reducible repeat (first | refine blk_drewN ?_ _ | refine blk_drew ?_ | refine blk_alloc ?_ _)); refine blk_far ?_ NB501_504.out _; (with_reducible repeat (first | refine blk_drewN ?_ _ | refine blk_drew ?_ | refine blk_alloc ?_ _)); exact BK501.out⟩
                have n1_ : Aside0 (((w25.setCell ⟨gb504, 0, none⟩ (.int .i64 ((rd_T56 l0_4 x28_2).f0))).setCell ⟨gb504, 1, none⟩ (.int .i64 ((rd_T56 l0_4 x28_2).f1))).heap[gb504]? = some (.cells #[.int .i64 ((rd_T56 l0_4 x28_2).f0), .int .i64 ((rd_T56 l0_4 x28_2).f1)] 56 (0, 0))) := ⟨bq2_ BK504.out⟩
                have n2_ : Aside0 (Below w.heap.size w ((w25.setCell ⟨gb504, 0, none⟩ (.int .i64 ((rd_T56 l0_4 x28_2).f0))).setCell ⟨gb504, 1, none⟩ (.int .i64 ((rd_T56 l0_4 x28_2).f1)))) := ⟨hb2_ HB.out GE501.out GE504.out⟩
                (try clear BK501)
                (try clear BK504)
                (try clear HB)
                generalize ((w25.setCell ⟨gb504, 0, none⟩ (.int .i64 ((rd_T56 l0_4 x28_2).f0))).setCell ⟨gb504, 1, none⟩ (.int .i64 ((rd_T56 l0_4 x28_2).f1))) = w39 at n0_ n1_ n2_ ⊢
                have BK501 := n0_
                have BK504 := n1_
                have HB := n2_
                clear n0_ n1_ n2_
                replace BK501 := Aside0.mk (blk_drew BK501.out)
                replace BK504 := Aside0.mk (blk_drew BK504.out)
                replace HB := Aside0.mk (below_drew1 HB.out)
                have p506 : 0 ≤ ((ji31) : Int) := of_decide_eq_true (as_)
                have q506 : (ji31) < (l0_4.length : Int) := of_decide_eq_true (as_)
                obtain ⟨ad506, e506, hx506_0, hx506_1⟩ := at_T56 HR0_4.out (ji31) p506 q506
                have hw506_1 := hx506_1
                have hw506_0 := hx506_0
                obtain rfl : ad503 = ad506 := (by injection e506)
                replace hx506_0 := (HB.out.cell (World.block_lt_of_cell? w _ hx506_0)).trans hx506_0
                replace hx506_1 := (HB.out.cell (World.block_lt_of_cell? w _ hx506_1)).trans hx506_1
                replace p506 := eq_true p506
                replace q506 := eq_true q506
                refine start_ (n := 35) (S := fun w' => w'.cell? ⟨gb501, 0, none⟩ = some (.int .i64 a0_0) ∧ w'.cell? ⟨gb501, 1, none⟩ = some (.int .i64 a0_1) ∧ w'.cell? ⟨gb501, 2, none⟩ = some (.int .i64 a0_2) ∧ w'.cell? ⟨gb501, 3, none⟩ = some (.int .i64 a0_3) ∧ w'.cell? ⟨gb501, 4, none⟩ = some (.slice (some ad503) l0_4.length c0_4) ∧ w'.cell? ⟨gb504, 0, none⟩ = some (.int .i64 ((rd_T56 l0_4 x28_2).f0)) ∧ w'.cell? ⟨gb504, 1, none⟩ = some (.int .i64 ((rd_T56 l0_4 x28_2).f1)) ∧ w'.cell? (ad503.add (((ji31)).toNat * 2)) = some (.int .i64 ((rd_T56 l0_4 (ji31)).f0)) ∧ w'.cell? ⟨(ad503.add (((ji31)).toNat * 2)).block, (ad503.add (((ji31)).toNat * 2)).off + 1, none⟩ = some (.int .i64 ((rd_T56 l0_4 (ji31)).f1))) (ds := []) #[false, false, false, false, false, false, false, false, false, false, false, false, false, false, false, false, false, false, false, false, false, false, false, false, false, false, false, false, false, false, false, false, false, false, false] (by kernel_rfl) rfl rfl ⟨BK501.c 0, BK501.c 1, BK501.c 2, BK501.c 3, BK501.c 4, BK504.c 0, BK504.c 1, ((HB.out.cell (World.block_lt_of_cell? w _ hw506_0)).trans hw506_0), ((HB.out.cell (World.block_lt_of_cell? w _ hw506_1)).trans hw506_1)⟩ (fun hHeld => ?_); refine with_tabW impl_TimedOk.tab6 impl_TimedOk.bits6 (fun HT_ HW_ => ?_)
                generalize w39.drew = w40 at BK501 BK504 HB hx506_0 hx506_1 hHeld ⊢
                refine pv_ (i := 0) (N := some 33) HT_.out ?_
                refine pv_ (i := 2) (N := some 35) HT_.out ?_
                refine tv9_ (i := 1) (N := some 34) HT_.out HW_.out hHeld ?_
                refine tv9_ (i := 3) (N := some 36) HT_.out HW_.out hHeld ?_
                refine ov_ (i := 4) (N := some 37) HT_.out (fun K hK => ?_)
                refine gq_ Try.func60 #[.agg #[.int .i64 a0_0, .int .i64 a0_1, .int .i64 a0_2], .int .i64 ((rd_T56 l0_4 x28_2).f0)] ?_
                with_reducible refine (impl_IsPassage.calls a0_0 a0_1 a0_2 ((rd_T56 l0_4 x28_2).f0) true _ A28.out).mono ?_
                rintro e w41 ⟨rfl, hb⟩
                refine ⟨_, rfl, ?_⟩
                replace BK501 := BK501.bb hb
                replace BK504 := BK504.bb hb
                replace HB := HB.s2 GE501 GE504 hb
                skip
                (try clear hb2)
                (try clear hk)
                (try clear hi)
                refine hK.out _ _ ⟨BK501.c 0, BK501.c 1, BK501.c 2, BK501.c 3, BK501.c 4, BK504.c 0, BK504.c 1, ((HB.out.cell (World.block_lt_of_cell? w _ hw506_0)).trans hw506_0), ((HB.out.cell (World.block_lt_of_cell? w _ hw506_1)).trans hw506_1)⟩ (fun hHeld => ?_)
                clear hK K
                refine nm_ ?_
                refine pv_ (i := 5) (N := some 38) HT_.out ?_
                refine pv_ (i := 6) (N := some 39) HT_.out ?_
                refine pv_ (i := 7) (N := some 40) HT_.out ?_
                refine pv_ (i := 8) (N := some 41) HT_.out ?_
                refine pv_ (i := 9) (N := some 42) HT_.out ?_
                refine pv_ (i := 10) (N := some 43) HT_.out ?_
                refine pv_ (i := 12) (N := some 45) HT_.out ?_
                refine pv_ (i := 13) (N := some 46) HT_.out ?_
                refine pv_ (i := 17) (N := some 50) HT_.out ?_
                refine tv9_ (i := 11) (N := some 44) HT_.out HW_.out hHeld ?_
                refine pv_ (i := 14) (N := some 47) HT_.out ?_
                refine pv_ (i := 15) (N := some 48) HT_.out ?_
                refine tv9_ (i := 16) (N := some 49) HT_.out HW_.out hHeld ?_
                refine tv9_ (i := 18) (N := some 51) HT_.out HW_.out hHeld ?_
                refine pv_ (i := 19) (N := some 52) HT_.out ?_
                refine pv_ (i := 20) (N := some 53) HT_.out ?_
                refine pv_ (i := 21) (N := some 54) HT_.out ?_
                refine pv_ (i := 22) (N := some 55) HT_.out ?_
                refine pv_ (i := 23) (N := some 56) HT_.out ?_
                refine tv9_ (i := 24) (N := some 57) HT_.out HW_.out hHeld ?_
                refine pv_ (i := 25) (N := some 58) HT_.out ?_
                refine pv_ (i := 26) (N := some 59) HT_.out ?_
                refine pv_ (i := 27) (N := some 60) HT_.out ?_
                refine pu_ (i := 28) (N := some 61) HT_.out ?_
                refine pu_ (i := 29) (N := some 62) HT_.out ?_
                refine pu_ (i := 30) (N := some 63) HT_.out ?_
                refine pu_ (i := 31) (N := some 64) HT_.out ?_
                refine pu_ (i := 32) (N := some 65) HT_.out ?_
                refine pu_ (i := 33) (N := some 66) HT_.out ?_
                refine pv_ (i := 34) (N := some 67) HT_.out ?_
                refine done_ (done_of HT_.out (by kernel_rfl)) ?_
                try go_wp2
                go_meet
                case rel => exact ⟨_, (true), (by first | rfl | (simp; done) | (simp [*]; done)), H', ⟨by have := HJ1.out; have := HK2.out; first | omega | exact Nat.le_refl _⟩, ⟨bk_ BK501.out⟩, ⟨bk_ BK504.out⟩, ⟨hb2_ HB.out GE501.out GE504.out⟩⟩
               ·rw [if_neg c38] at H
                have c38b0 : decide (((rd_T56 l0_4 x28_2).f1) < 0) = false := decide_eq_false c38
                clear c38
                by_cases c42 : 0 ≤ a0_3
                ·rw [if_pos c42] at H
                 have c42b0 := eq_true c42
                 have c42b1 : decide (0 ≤ a0_3) = true := decide_eq_true c42
                 clear c42
                 obtain ⟨ji43, hji43⟩ : ∃ j_ : Int, (shl .i64 1 a0_3) = j_ := ⟨_, rfl⟩
                 replace H : (impl_TimedOk.j2 k2 l0_4 (l0_4.length : Int) x28_2 (decide (((rd_T56 l0_4 x28_2).f1) ≥ (ji43))) a0_0 a0_1 a0_2 a0_3 l0_4) = some r := by first | (rw [hji43] at H; exact H) | (simp only [hji43] at H ⊢; exact H)
                 (try rw [hji43] at A28)
                 have hji43_ : (IntKind.i64.wrap (1 * 2 ^ min a0_3.toNat 64)) = ji43 := hji43
                 have hji43z : a0_3 ≤ 64 → (IntKind.i64.wrap (1 * 2 ^ a0_3.toNat)) = ji43 := shl_small hji43
                 have hji43u : (IntKind.i64.wrap (2 ^ min a0_3.toNat 64)) = ji43 := by have h_ := hji43_; rw [Int.one_mul] at h_; exact h_
                 have hji43v : a0_3 ≤ 64 → (IntKind.i64.wrap (2 ^ a0_3.toNat)) = ji43 := fun hle_ => by have h_ := hji43z hle_; rw [Int.one_mul] at h_; exact h_
                 have hji43y : (wrap64 (1 * 2 ^ min a0_3.toNat 64)) = ji43 := (i64_w _).symm.trans hji43_
                 have hji43x : a0_3 ≤ 64 → (wrap64 (1 * 2 ^ a0_3.toNat)) = ji43 := fun h_ => (i64_w _).symm.trans (hji43z h_)
                 have H' := Aside0.mk H
                 clear H
                 try go_wp2
                 have n0_ : Aside0 (((w25.setCell ⟨gb504, 0, none⟩ (.int .i64 ((rd_T56 l0_4 x28_2).f0))).setCell ⟨gb504, 1, none⟩ (.int .i64 ((rd_T56 l0_4 x28_2).f1))).heap[gb501]? = some (.cells #[.int .i64 a0_0, .int .i64 a0_1, .int .i64 a0_2, .int .i64 a0_3, .slice (some ad503) l0_4.length c0_4] 36 (0, 0))) := ⟨by (with_reducible repeat (first | refine blk_drewN ?_ _ | refine blk_drew ?_ | refine blk_alloc ?_ _)); refine blk_far ?_ NB501_504.out _; (with_reducible repeat (first | refine blk_drewN ?_ _ | refine blk_drew ?_ | refine blk_alloc ?_ _)); refine blk_far ?_ NB501_504.out _; (with_reducible repeat (first | refine blk_drewN ?_ _ | refine blk_drew ?_ | refine blk_alloc ?_ _)); exact BK501.out⟩
                 have n1_ : Aside0 (((w25.setCell ⟨gb504, 0, none⟩ (.int .i64 ((rd_T56 l0_4 x28_2).f0))).setCell ⟨gb504, 1, none⟩ (.int .i64 ((rd_T56 l0_4 x28_2).f1))).heap[gb504]? = some (.cells #[.int .i64 ((rd_T56 l0_4 x28_2).f0), .int .i64 ((rd_T56 l0_4 x28_2).f1)] 56 (0, 0))) := ⟨bq2_ BK504.out⟩
                 have n2_ : Aside0 (Below w.heap.size w ((w25.setCell ⟨gb504, 0, none⟩ (.int .i64 ((rd_T56 l0_4 x28_2).f0))).setCell ⟨gb504, 1, none⟩ (.int .i64 ((rd_T56 l0_4 x28_2).f1)))) := ⟨hb2_ HB.out GE501.out GE504.out⟩
                 (try clear BK501)
                 (try clear BK504)
                 (try clear HB)
                 generalize ((w25.setCell ⟨gb504, 0, none⟩ (.int .i64 ((rd_T56 l0_4 x28_2).f0))).setCell ⟨gb504, 1, none⟩ (.int .i64 ((rd_T56 l0_4 x28_2).f1))) = w44 at n0_ n1_ n2_ ⊢
                 have BK501 := n0_
                 have BK504 := n1_
                 have HB := n2_
                 clear n0_ n1_ n2_
                 replace BK501 := Aside0.mk (blk_drew BK501.out)
                 replace BK504 := Aside0.mk (blk_drew BK504.out)
                 replace HB := Aside0.mk (below_drew1 HB.out)
                 have p506 : 0 ≤ ((ji31) : Int) := of_decide_eq_true (as_)
                 have q506 : (ji31) < (l0_4.length : Int) := of_decide_eq_true (as_)
                 obtain ⟨ad506, e506, hx506_0, hx506_1⟩ := at_T56 HR0_4.out (ji31) p506 q506
                 have hw506_1 := hx506_1
                 have hw506_0 := hx506_0
                 obtain rfl : ad503 = ad506 := (by injection e506)
                 replace hx506_0 := (HB.out.cell (World.block_lt_of_cell? w _ hx506_0)).trans hx506_0
                 replace hx506_1 := (HB.out.cell (World.block_lt_of_cell? w _ hx506_1)).trans hx506_1
                 replace p506 := eq_true p506
                 replace q506 := eq_true q506
                 refine start_ (n := 35) (S := fun w' => w'.cell? ⟨gb501, 0, none⟩ = some (.int .i64 a0_0) ∧ w'.cell? ⟨gb501, 1, none⟩ = some (.int .i64 a0_1) ∧ w'.cell? ⟨gb501, 2, none⟩ = some (.int .i64 a0_2) ∧ w'.cell? ⟨gb501, 3, none⟩ = some (.int .i64 a0_3) ∧ w'.cell? ⟨gb501, 4, none⟩ = some (.slice (some ad503) l0_4.length c0_4) ∧ w'.cell? ⟨gb504, 0, none⟩ = some (.int .i64 ((rd_T56 l0_4 x28_2).f0)) ∧ w'.cell? ⟨gb504, 1, none⟩ = some (.int .i64 ((rd_T56 l0_4 x28_2).f1)) ∧ w'.cell? (ad503.add (((ji31)).toNat * 2)) = some (.int .i64 ((rd_T56 l0_4 (ji31)).f0)) ∧ w'.cell? ⟨(ad503.add (((ji31)).toNat * 2)).block, (ad503.add (((ji31)).toNat * 2)).off + 1, none⟩ = some (.int .i64 ((rd_T56 l0_4 (ji31)).f1))) (ds := []) #[false, false, false, false, false, false, false, false, false, false, false, false, false, false, false, false, false, false, false, false, false, false, false, false, false, false, false, false, false, false, false, false, false, false, false] (by kernel_rfl) rfl rfl ⟨BK501.c 0, BK501.c 1, BK501.c 2, BK501.c 3, BK501.c 4, BK504.c 0, BK504.c 1, ((HB.out.cell (World.block_lt_of_cell? w _ hw506_0)).trans hw506_0), ((HB.out.cell (World.block_lt_of_cell? w _ hw506_1)).trans hw506_1)⟩ (fun hHeld => ?_); refine with_tabW impl_TimedOk.tab6 impl_TimedOk.bits6 (fun HT_ HW_ => ?_)
                 generalize w44.drew = w45 at BK501 BK504 HB hx506_0 hx506_1 hHeld ⊢
                 refine pv_ (i := 0) (N := some 33) HT_.out ?_
                 refine pv_ (i := 2) (N := some 35) HT_.out ?_
                 refine tv9_ (i := 1) (N := some 34) HT_.out HW_.out hHeld ?_
                 refine tv9_ (i := 3) (N := some 36) HT_.out HW_.out hHeld ?_
                 refine ov_ (i := 4) (N := some 37) HT_.out (fun K hK => ?_)
                 refine gq_ Try.func60 #[.agg #[.int .i64 a0_0, .int .i64 a0_1, .int .i64 a0_2], .int .i64 ((rd_T56 l0_4 x28_2).f0)] ?_
                 with_reducible refine (impl_IsPassage.calls a0_0 a0_1 a0_2 ((rd_T56 l0_4 x28_2).f0) true _ A28.out).mono ?_
                 rintro e w46 ⟨rfl, hb⟩
                 refine ⟨_, rfl, ?_⟩
                 replace BK501 := BK501.bb hb
                 replace BK504 := BK504.bb hb
                 replace HB := HB.s2 GE501 GE504 hb
                 skip
                 (try clear hb2)
                 (try clear hk)
                 (try clear hi)
                 refine hK.out _ _ ⟨BK501.c 0, BK501.c 1, BK501.c 2, BK501.c 3, BK501.c 4, BK504.c 0, BK504.c 1, ((HB.out.cell (World.block_lt_of_cell? w _ hw506_0)).trans hw506_0), ((HB.out.cell (World.block_lt_of_cell? w _ hw506_1)).trans hw506_1)⟩ (fun hHeld => ?_)
                 clear hK K
                 refine nm_ ?_
                 refine pv_ (i := 5) (N := some 38) HT_.out ?_
                 refine pv_ (i := 6) (N := some 39) HT_.out ?_
                 refine pv_ (i := 7) (N := some 40) HT_.out ?_
                 refine pv_ (i := 8) (N := some 41) HT_.out ?_
                 refine pv_ (i := 9) (N := some 42) HT_.out ?_
                 refine pv_ (i := 10) (N := some 43) HT_.out ?_
                 refine pv_ (i := 12) (N := some 45) HT_.out ?_
                 refine pv_ (i := 13) (N := some 46) HT_.out ?_
                 refine pv_ (i := 17) (N := some 50) HT_.out ?_
                 refine tv9_ (i := 11) (N := some 44) HT_.out HW_.out hHeld ?_
                 refine pv_ (i := 14) (N := some 47) HT_.out ?_
                 refine pv_ (i := 15) (N := some 48) HT_.out ?_
                 refine tv9_ (i := 16) (N := some 49) HT_.out HW_.out hHeld ?_
                 refine tv9_ (i := 18) (N := some 51) HT_.out HW_.out hHeld ?_
                 refine pv_ (i := 19) (N := some 52) HT_.out ?_
                 refine pv_ (i := 20) (N := some 53) HT_.out ?_
                 refine pv_ (i := 21) (N := some 54) HT_.out ?_
                 refine pv_ (i := 22) (N := some 55) HT_.out ?_
                 refine pv_ (i := 23) (N := some 56) HT_.out ?_
                 refine tv9_ (i := 24) (N := some 57) HT_.out HW_.out hHeld ?_
                 refine pv_ (i := 25) (N := some 58) HT_.out ?_
                 refine pv_ (i := 26) (N := some 59) HT_.out ?_
                 refine pv_ (i := 27) (N := some 60) HT_.out ?_
                 refine pv_ (i := 28) (N := some 61) HT_.out ?_
                 refine pv_ (i := 30) (N := some 63) HT_.out ?_
                 refine tv9_ (i := 29) (N := some 62) HT_.out HW_.out hHeld ?_
                 refine tv9_ (i := 31) (N := some 64) HT_.out HW_.out hHeld ?_
                 refine pv_ (i := 32) (N := some 65) HT_.out ?_
                 refine pv_ (i := 33) (N := some 66) HT_.out ?_
                 refine pv_ (i := 34) (N := some 67) HT_.out ?_
                 refine done_ (done_of HT_.out (by kernel_rfl)) ?_
                 try go_wp2
                 go_meet
                 case rel => exact ⟨_, (decide (((rd_T56 l0_4 x28_2).f1) ≥ (ji43))), (by first | rfl | (simp; done) | (simp only [← hji43] <;> (first | rfl | simp)) | (simp [*]; done)), H', ⟨by have := HJ1.out; have := HK2.out; first | omega | exact Nat.le_refl _⟩, ⟨bk_ BK501.out⟩, ⟨bk_ BK504.out⟩, ⟨hb2_ HB.out GE501.out GE504.out⟩⟩
                ·rw [if_neg c42] at H
                 exact absurd H (by simp)
             ·rw [if_neg c33] at H
              exact absurd H (by simp)
            ·rw [if_neg c32] at H
             exact absurd H (by simp)
           ·rw [if_neg c30] at H
            have c30b0 : decide (0 < x28_2) = false := decide_eq_false c30
            clear c30
            (first | rw [c30b0] | (simp only [i64_w, i32_w]; rw [c30b0]) | skip)
            by_cases c47 : ((rd_T56 l0_4 x28_2).f1) < 0
            ·rw [if_pos c47] at H
             have c47b0 : decide (((rd_T56 l0_4 x28_2).f1) < 0) = true := decide_eq_true c47
             clear c47
             have H' := Aside0.mk H
             clear H
             try go_wp2
             have n0_ : Aside0 (((w25.setCell ⟨gb504, 0, none⟩ (.int .i64 ((rd_T56 l0_4 x28_2).f0))).setCell ⟨gb504, 1, none⟩ (.int .i64 ((rd_T56 l0_4 x28_2).f1))).heap[gb501]? = some (.cells #[.int .i64 a0_0, .int .i64 a0_1, .int .i64 a0_2, .int .i64 a0_3, .slice (some ad503) l0_4.length c0_4] 36 (0, 0))) := ⟨by (with_reducible repeat (first | refine blk_drewN ?_ _ | refine blk_drew ?_ | refine blk_alloc ?_ _)); refine blk_far ?_ NB501_504.out _; (with_reducible repeat (first | refine blk_drewN ?_ _ | refine blk_drew ?_ | refine blk_alloc ?_ _)); refine blk_far ?_ NB501_504.out _; (with_reducible repeat (first | refine blk_drewN ?_ _ | refine blk_drew ?_ | refine blk_alloc ?_ _)); exact BK501.out⟩
             have n1_ : Aside0 (((w25.setCell ⟨gb504, 0, none⟩ (.int .i64 ((rd_T56 l0_4 x28_2).f0))).setCell ⟨gb504, 1, none⟩ (.int .i64 ((rd_T56 l0_4 x28_2).f1))).heap[gb504]? = some (.cells #[.int .i64 ((rd_T56 l0_4 x28_2).f0), .int .i64 ((rd_T56 l0_4 x28_2).f1)] 56 (0, 0))) := ⟨bq2_ BK504.out⟩
             have n2_ : Aside0 (Below w.heap.size w ((w25.setCell ⟨gb504, 0, none⟩ (.int .i64 ((rd_T56 l0_4 x28_2).f0))).setCell ⟨gb504, 1, none⟩ (.int .i64 ((rd_T56 l0_4 x28_2).f1)))) := ⟨hb2_ HB.out GE501.out GE504.out⟩
             (try clear BK501)
             (try clear BK504)
             (try clear HB)
             generalize ((w25.setCell ⟨gb504, 0, none⟩ (.int .i64 ((rd_T56 l0_4 x28_2).f0))).setCell ⟨gb504, 1, none⟩ (.int .i64 ((rd_T56 l0_4 x28_2).f1))) = w48 at n0_ n1_ n2_ ⊢
             have BK501 := n0_
             have BK504 := n1_
             have HB := n2_
             clear n0_ n1_ n2_
             replace BK501 := Aside0.mk (blk_drew BK501.out)
             replace BK504 := Aside0.mk (blk_drew BK504.out)
             replace HB := Aside0.mk (below_drew1 HB.out)
             refine start_ (n := 35) (S := fun w' => w'.cell? ⟨gb501, 0, none⟩ = some (.int .i64 a0_0) ∧ w'.cell? ⟨gb501, 1, none⟩ = some (.int .i64 a0_1) ∧ w'.cell? ⟨gb501, 2, none⟩ = some (.int .i64 a0_2) ∧ w'.cell? ⟨gb501, 3, none⟩ = some (.int .i64 a0_3) ∧ w'.cell? ⟨gb501, 4, none⟩ = some (.slice (some ad503) l0_4.length c0_4) ∧ w'.cell? ⟨gb504, 0, none⟩ = some (.int .i64 ((rd_T56 l0_4 x28_2).f0)) ∧ w'.cell? ⟨gb504, 1, none⟩ = some (.int .i64 ((rd_T56 l0_4 x28_2).f1))) (ds := []) #[false, false, false, false, false, false, false, false, false, false, false, false, false, false, false, false, false, false, false, false, false, false, false, false, false, false, false, false, false, false, false, false, false, false, false] (by kernel_rfl) rfl rfl ⟨BK501.c 0, BK501.c 1, BK501.c 2, BK501.c 3, BK501.c 4, BK504.c 0, BK504.c 1⟩ (fun hHeld => ?_); refine with_tabW impl_TimedOk.tab6 impl_TimedOk.bits6 (fun HT_ HW_ => ?_)
             generalize w48.drew = w49 at BK501 BK504 HB hHeld ⊢
             refine pv_ (i := 0) (N := some 33) HT_.out ?_
             refine pv_ (i := 2) (N := some 35) HT_.out ?_
             refine tv7_ (i := 1) (N := some 34) HT_.out HW_.out hHeld ?_
             refine tv7_ (i := 3) (N := some 36) HT_.out HW_.out hHeld ?_
             refine ov_ (i := 4) (N := some 37) HT_.out (fun K hK => ?_)
             refine gq_ Try.func60 #[.agg #[.int .i64 a0_0, .int .i64 a0_1, .int .i64 a0_2], .int .i64 ((rd_T56 l0_4 x28_2).f0)] ?_
             with_reducible refine (impl_IsPassage.calls a0_0 a0_1 a0_2 ((rd_T56 l0_4 x28_2).f0) true _ A28.out).mono ?_
             rintro e w50 ⟨rfl, hb⟩
             refine ⟨_, rfl, ?_⟩
             replace BK501 := BK501.bb hb
             replace BK504 := BK504.bb hb
             replace HB := HB.s2 GE501 GE504 hb
             skip
             (try clear hb2)
             (try clear hk)
             (try clear hi)
             refine hK.out _ _ ⟨BK501.c 0, BK501.c 1, BK501.c 2, BK501.c 3, BK501.c 4, BK504.c 0, BK504.c 1⟩ (fun hHeld => ?_)
             clear hK K
             refine nm_ ?_
             refine pv_ (i := 5) (N := some 38) HT_.out ?_
             refine pv_ (i := 6) (N := some 39) HT_.out ?_
             refine pv_ (i := 7) (N := some 40) HT_.out ?_
             refine pv_ (i := 8) (N := some 41) HT_.out ?_
             refine pv_ (i := 9) (N := some 42) HT_.out ?_
             refine pu_ (i := 10) (N := some 43) HT_.out ?_
             refine pu_ (i := 11) (N := some 44) HT_.out ?_
             refine pu_ (i := 12) (N := some 45) HT_.out ?_
             refine pu_ (i := 13) (N := some 46) HT_.out ?_
             refine pu_ (i := 14) (N := some 47) HT_.out ?_
             refine pu_ (i := 15) (N := some 48) HT_.out ?_
             refine pu_ (i := 16) (N := some 49) HT_.out ?_
             refine pu_ (i := 17) (N := some 50) HT_.out ?_
             refine pu_ (i := 18) (N := some 51) HT_.out ?_
             refine pu_ (i := 19) (N := some 52) HT_.out ?_
             refine pv_ (i := 20) (N := some 53) HT_.out ?_
             refine pv_ (i := 21) (N := some 54) HT_.out ?_
             refine pv_ (i := 22) (N := some 55) HT_.out ?_
             refine pv_ (i := 23) (N := some 56) HT_.out ?_
             refine tv7_ (i := 24) (N := some 57) HT_.out HW_.out hHeld ?_
             refine pv_ (i := 25) (N := some 58) HT_.out ?_
             refine pv_ (i := 26) (N := some 59) HT_.out ?_
             refine pv_ (i := 27) (N := some 60) HT_.out ?_
             refine pu_ (i := 28) (N := some 61) HT_.out ?_
             refine pu_ (i := 29) (N := some 62) HT_.out ?_
             refine pu_ (i := 30) (N := some 63) HT_.out ?_
             refine pu_ (i := 31) (N := some 64) HT_.out ?_
             refine pu_ (i := 32) (N := some 65) HT_.out ?_
             refine pu_ (i := 33) (N := some 66) HT_.out ?_
             refine pv_ (i := 34) (N := some 67) HT_.out ?_
             refine done_ (done_of HT_.out (by kernel_rfl)) ?_
             try go_wp2
             go_meet
             case rel => exact ⟨_, (true), (by first | rfl | (simp; done) | (simp [*]; done)), H', ⟨by have := HJ1.out; have := HK2.out; first | omega | exact Nat.le_refl _⟩, ⟨bk_ BK501.out⟩, ⟨bk_ BK504.out⟩, ⟨hb2_ HB.out GE501.out GE504.out⟩⟩
            ·rw [if_neg c47] at H
             have c47b0 : decide (((rd_T56 l0_4 x28_2).f1) < 0) = false := decide_eq_false c47
             clear c47
             by_cases c51 : 0 ≤ a0_3
             ·rw [if_pos c51] at H
              have c51b0 := eq_true c51
              have c51b1 : decide (0 ≤ a0_3) = true := decide_eq_true c51
              clear c51
              obtain ⟨ji52, hji52⟩ : ∃ j_ : Int, (shl .i64 1 a0_3) = j_ := ⟨_, rfl⟩
              replace H : (impl_TimedOk.j2 k2 l0_4 (l0_4.length : Int) x28_2 (decide (((rd_T56 l0_4 x28_2).f1) ≥ (ji52))) a0_0 a0_1 a0_2 a0_3 l0_4) = some r := by first | (rw [hji52] at H; exact H) | (simp only [hji52] at H ⊢; exact H)
              (try rw [hji52] at A28)
              have hji52_ : (IntKind.i64.wrap (1 * 2 ^ min a0_3.toNat 64)) = ji52 := hji52
              have hji52z : a0_3 ≤ 64 → (IntKind.i64.wrap (1 * 2 ^ a0_3.toNat)) = ji52 := shl_small hji52
              have hji52u : (IntKind.i64.wrap (2 ^ min a0_3.toNat 64)) = ji52 := by have h_ := hji52_; rw [Int.one_mul] at h_; exact h_
              have hji52v : a0_3 ≤ 64 → (IntKind.i64.wrap (2 ^ a0_3.toNat)) = ji52 := fun hle_ => by have h_ := hji52z hle_; rw [Int.one_mul] at h_; exact h_
              have hji52y : (wrap64 (1 * 2 ^ min a0_3.toNat 64)) = ji52 := (i64_w _).symm.trans hji52_
              have hji52x : a0_3 ≤ 64 → (wrap64 (1 * 2 ^ a0_3.toNat)) = ji52 := fun h_ => (i64_w _).symm.trans (hji52z h_)
              have H' := Aside0.mk H
              clear H
              try go_wp2
              have n0_ : Aside0 (((w25.setCell ⟨gb504, 0, none⟩ (.int .i64 ((rd_T56 l0_4 x28_2).f0))).setCell ⟨gb504, 1, none⟩ (.int .i64 ((rd_T56 l0_4 x28_2).f1))).heap[gb501]? = some (.cells #[.int .i64 a0_0, .int .i64 a0_1, .int .i64 a0_2, .int .i64 a0_3, .slice (some ad503) l0_4.length c0_4] 36 (0, 0))) := ⟨by (with_reducible repeat (first | refine blk_drewN ?_ _ | refine blk_drew ?_ | refine blk_alloc ?_ _)); refine blk_far ?_ NB501_504.out _; (with_reducible repeat (first | refine blk_drewN ?_ _ | refine blk_drew ?_ | refine blk_alloc ?_ _)); refine blk_far ?_ NB501_504.out _; (with_reducible repeat (first | refine blk_drewN ?_ _ | refine blk_drew ?_ | refine blk_alloc ?_ _)); exact BK501.out⟩
              have n1_ : Aside0 (((w25.setCell ⟨gb504, 0, none⟩ (.int .i64 ((rd_T56 l0_4 x28_2).f0))).setCell ⟨gb504, 1, none⟩ (.int .i64 ((rd_T56 l0_4 x28_2).f1))).heap[gb504]? = some (.cells #[.int .i64 ((rd_T56 l0_4 x28_2).f0), .int .i64 ((rd_T56 l0_4 x28_2).f1)] 56 (0, 0))) := ⟨bq2_ BK504.out⟩
              have n2_ : Aside0 (Below w.heap.size w ((w25.setCell ⟨gb504, 0, none⟩ (.int .i64 ((rd_T56 l0_4 x28_2).f0))).setCell ⟨gb504, 1, none⟩ (.int .i64 ((rd_T56 l0_4 x28_2).f1)))) := ⟨hb2_ HB.out GE501.out GE504.out⟩
              (try clear BK501)
              (try clear BK504)
              (try clear HB)
              generalize ((w25.setCell ⟨gb504, 0, none⟩ (.int .i64 ((rd_T56 l0_4 x28_2).f0))).setCell ⟨gb504, 1, none⟩ (.int .i64 ((rd_T56 l0_4 x28_2).f1))) = w53 at n0_ n1_ n2_ ⊢
              have BK501 := n0_
              have BK504 := n1_
              have HB := n2_
              clear n0_ n1_ n2_
              replace BK501 := Aside0.mk (blk_drew BK501.out)
              replace BK504 := Aside0.mk (blk_drew BK504.out)
              replace HB := Aside0.mk (below_drew1 HB.out)
              refine start_ (n := 35) (S := fun w' => w'.cell? ⟨gb501, 0, none⟩ = some (.int .i64 a0_0) ∧ w'.cell? ⟨gb501, 1, none⟩ = some (.int .i64 a0_1) ∧ w'.cell? ⟨gb501, 2, none⟩ = some (.int .i64 a0_2) ∧ w'.cell? ⟨gb501, 3, none⟩ = some (.int .i64 a0_3) ∧ w'.cell? ⟨gb501, 4, none⟩ = some (.slice (some ad503) l0_4.length c0_4) ∧ w'.cell? ⟨gb504, 0, none⟩ = some (.int .i64 ((rd_T56 l0_4 x28_2).f0)) ∧ w'.cell? ⟨gb504, 1, none⟩ = some (.int .i64 ((rd_T56 l0_4 x28_2).f1))) (ds := []) #[false, false, false, false, false, false, false, false, false, false, false, false, false, false, false, false, false, false, false, false, false, false, false, false, false, false, false, false, false, false, false, false, false, false, false] (by kernel_rfl) rfl rfl ⟨BK501.c 0, BK501.c 1, BK501.c 2, BK501.c 3, BK501.c 4, BK504.c 0, BK504.c 1⟩ (fun hHeld => ?_); refine with_tabW impl_TimedOk.tab6 impl_TimedOk.bits6 (fun HT_ HW_ => ?_)
              generalize w53.drew = w54 at BK501 BK504 HB hHeld ⊢
              refine pv_ (i := 0) (N := some 33) HT_.out ?_
              refine pv_ (i := 2) (N := some 35) HT_.out ?_
              refine tv7_ (i := 1) (N := some 34) HT_.out HW_.out hHeld ?_
              refine tv7_ (i := 3) (N := some 36) HT_.out HW_.out hHeld ?_
              refine ov_ (i := 4) (N := some 37) HT_.out (fun K hK => ?_)
              refine gq_ Try.func60 #[.agg #[.int .i64 a0_0, .int .i64 a0_1, .int .i64 a0_2], .int .i64 ((rd_T56 l0_4 x28_2).f0)] ?_
              with_reducible refine (impl_IsPassage.calls a0_0 a0_1 a0_2 ((rd_T56 l0_4 x28_2).f0) true _ A28.out).mono ?_
              rintro e w55 ⟨rfl, hb⟩
              refine ⟨_, rfl, ?_⟩
              replace BK501 := BK501.bb hb
              replace BK504 := BK504.bb hb
              replace HB := HB.s2 GE501 GE504 hb
              skip
              (try clear hb2)
              (try clear hk)
              (try clear hi)
              refine hK.out _ _ ⟨BK501.c 0, BK501.c 1, BK501.c 2, BK501.c 3, BK501.c 4, BK504.c 0, BK504.c 1⟩ (fun hHeld => ?_)
              clear hK K
              refine nm_ ?_
              refine pv_ (i := 5) (N := some 38) HT_.out ?_
              refine pv_ (i := 6) (N := some 39) HT_.out ?_
              refine pv_ (i := 7) (N := some 40) HT_.out ?_
              refine pv_ (i := 8) (N := some 41) HT_.out ?_
              refine pv_ (i := 9) (N := some 42) HT_.out ?_
              refine pu_ (i := 10) (N := some 43) HT_.out ?_
              refine pu_ (i := 11) (N := some 44) HT_.out ?_
              refine pu_ (i := 12) (N := some 45) HT_.out ?_
              refine pu_ (i := 13) (N := some 46) HT_.out ?_
              refine pu_ (i := 14) (N := some 47) HT_.out ?_
              refine pu_ (i := 15) (N := some 48) HT_.out ?_
              refine pu_ (i := 16) (N := some 49) HT_.out ?_
              refine pu_ (i := 17) (N := some 50) HT_.out ?_
              refine pu_ (i := 18) (N := some 51) HT_.out ?_
              refine pu_ (i := 19) (N := some 52) HT_.out ?_
              refine pv_ (i := 20) (N := some 53) HT_.out ?_
              refine pv_ (i := 21) (N := some 54) HT_.out ?_
              refine pv_ (i := 22) (N := some 55) HT_.out ?_
              refine pv_ (i := 23) (N := some 56) HT_.out ?_
              refine tv7_ (i := 24) (N := some 57) HT_.out HW_.out hHeld ?_
              refine pv_ (i := 25) (N := some 58) HT_.out ?_
              refine pv_ (i := 26) (N := some 59) HT_.out ?_
              refine pv_ (i := 27) (N := some 60) HT_.out ?_
              refine pv_ (i := 28) (N := some 61) HT_.out ?_
              refine pv_ (i := 30) (N := some 63) HT_.out ?_
              refine tv7_ (i := 29) (N := some 62) HT_.out HW_.out hHeld ?_
              refine tv7_ (i := 31) (N := some 64) HT_.out HW_.out hHeld ?_
              refine pv_ (i := 32) (N := some 65) HT_.out ?_
              refine pv_ (i := 33) (N := some 66) HT_.out ?_
              refine pv_ (i := 34) (N := some 67) HT_.out ?_
              refine done_ (done_of HT_.out (by kernel_rfl)) ?_
              try go_wp2
              go_meet
              case rel => exact ⟨_, (decide (((rd_T56 l0_4 x28_2).f1) ≥ (ji52))), (by first | rfl | (simp; done) | (simp only [← hji52] <;> (first | rfl | simp)) | (simp [*]; done)), H', ⟨by have := HJ1.out; have := HK2.out; first | omega | exact Nat.le_refl _⟩, ⟨bk_ BK501.out⟩, ⟨bk_ BK504.out⟩, ⟨hb2_ HB.out GE501.out GE504.out⟩⟩
             ·rw [if_neg c51] at H
              exact absurd H (by simp)
          ·replace c29 := Bool.eq_false_iff.mpr c29
           subst c29
           have H1 : (impl_TimedOk.j2 k2 l0_4 (l0_4.length : Int) x28_2 true a0_0 a0_1 a0_2 a0_3 l0_4) = some r := by rw [if_neg (show ¬ (false = true) by decide)] at H; exact H
           clear H
           have H := H1
           clear H1
           have H' := Aside0.mk H
           clear H
           try go_wp2
           have n0_ : Aside0 (((w25.setCell ⟨gb504, 0, none⟩ (.int .i64 ((rd_T56 l0_4 x28_2).f0))).setCell ⟨gb504, 1, none⟩ (.int .i64 ((rd_T56 l0_4 x28_2).f1))).heap[gb501]? = some (.cells #[.int .i64 a0_0, .int .i64 a0_1, .int .i64 a0_2, .int .i64 a0_3, .slice (some ad503) l0_4.length c0_4] 36 (0, 0))) := ⟨by (with_reducible repeat (first | refine blk_drewN ?_ _ | refine blk_drew ?_ | refine blk_alloc ?_ _)); refine blk_far ?_ NB501_504.out _; (with_reducible repeat (first | refine blk_drewN ?_ _ | refine blk_drew ?_ | refine blk_alloc ?_ _)); refine blk_far ?_ NB501_504.out _; (with_reducible repeat (first | refine blk_drewN ?_ _ | refine blk_drew ?_ | refine blk_alloc ?_ _)); exact BK501.out⟩
           have n1_ : Aside0 (((w25.setCell ⟨gb504, 0, none⟩ (.int .i64 ((rd_T56 l0_4 x28_2).f0))).setCell ⟨gb504, 1, none⟩ (.int .i64 ((rd_T56 l0_4 x28_2).f1))).heap[gb504]? = some (.cells #[.int .i64 ((rd_T56 l0_4 x28_2).f0), .int .i64 ((rd_T56 l0_4 x28_2).f1)] 56 (0, 0))) := ⟨bq2_ BK504.out⟩
           have n2_ : Aside0 (Below w.heap.size w ((w25.setCell ⟨gb504, 0, none⟩ (.int .i64 ((rd_T56 l0_4 x28_2).f0))).setCell ⟨gb504, 1, none⟩ (.int .i64 ((rd_T56 l0_4 x28_2).f1)))) := ⟨hb2_ HB.out GE501.out GE504.out⟩
           (try clear BK501)
           (try clear BK504)
           (try clear HB)
           generalize ((w25.setCell ⟨gb504, 0, none⟩ (.int .i64 ((rd_T56 l0_4 x28_2).f0))).setCell ⟨gb504, 1, none⟩ (.int .i64 ((rd_T56 l0_4 x28_2).f1))) = w56 at n0_ n1_ n2_ ⊢
           have BK501 := n0_
           have BK504 := n1_
           have HB := n2_
           clear n0_ n1_ n2_
           replace BK501 := Aside0.mk (blk_drew BK501.out)
           replace BK504 := Aside0.mk (blk_drew BK504.out)
           replace HB := Aside0.mk (below_drew1 HB.out)
           refine start_ (n := 35) (S := fun w' => w'.cell? ⟨gb501, 0, none⟩ = some (.int .i64 a0_0) ∧ w'.cell? ⟨gb501, 1, none⟩ = some (.int .i64 a0_1) ∧ w'.cell? ⟨gb501, 2, none⟩ = some (.int .i64 a0_2) ∧ w'.cell? ⟨gb501, 3, none⟩ = some (.int .i64 a0_3) ∧ w'.cell? ⟨gb501, 4, none⟩ = some (.slice (some ad503) l0_4.length c0_4) ∧ w'.cell? ⟨gb504, 0, none⟩ = some (.int .i64 ((rd_T56 l0_4 x28_2).f0)) ∧ w'.cell? ⟨gb504, 1, none⟩ = some (.int .i64 ((rd_T56 l0_4 x28_2).f1))) (ds := []) #[false, false, false, false, false, false, false, false, false, false, false, false, false, false, false, false, false, false, false, false, false, false, false, false, false, false, false, false, false, false, false, false, false, false, false] (by kernel_rfl) rfl rfl ⟨BK501.c 0, BK501.c 1, BK501.c 2, BK501.c 3, BK501.c 4, BK504.c 0, BK504.c 1⟩ (fun hHeld => ?_); refine with_tabW impl_TimedOk.tab6 impl_TimedOk.bits6 (fun HT_ HW_ => ?_)
           generalize w56.drew = w57 at BK501 BK504 HB hHeld ⊢
           refine pv_ (i := 0) (N := some 33) HT_.out ?_
           refine pv_ (i := 2) (N := some 35) HT_.out ?_
           refine tv7_ (i := 1) (N := some 34) HT_.out HW_.out hHeld ?_
           refine tv7_ (i := 3) (N := some 36) HT_.out HW_.out hHeld ?_
           refine ov_ (i := 4) (N := some 37) HT_.out (fun K hK => ?_)
           refine gq_ Try.func60 #[.agg #[.int .i64 a0_0, .int .i64 a0_1, .int .i64 a0_2], .int .i64 ((rd_T56 l0_4 x28_2).f0)] ?_
           with_reducible refine (impl_IsPassage.calls a0_0 a0_1 a0_2 ((rd_T56 l0_4 x28_2).f0) false _ A28.out).mono ?_
           rintro e w58 ⟨rfl, hb⟩
           refine ⟨_, rfl, ?_⟩
           replace BK501 := BK501.bb hb
           replace BK504 := BK504.bb hb
           replace HB := HB.s2 GE501 GE504 hb
           skip
           (try clear hb2)
           (try clear hk)
           (try clear hi)
           refine hK.out _ _ ⟨BK501.c 0, BK501.c 1, BK501.c 2, BK501.c 3, BK501.c 4, BK504.c 0, BK504.c 1⟩ (fun hHeld => ?_)
           clear hK K
           refine nm_ ?_
           refine pv_ (i := 5) (N := some 38) HT_.out ?_
           refine pv_ (i := 6) (N := some 39) HT_.out ?_
           refine pu_ (i := 7) (N := some 40) HT_.out ?_
           refine pu_ (i := 8) (N := some 41) HT_.out ?_
           refine pu_ (i := 9) (N := some 42) HT_.out ?_
           refine pu_ (i := 10) (N := some 43) HT_.out ?_
           refine pu_ (i := 11) (N := some 44) HT_.out ?_
           refine pu_ (i := 12) (N := some 45) HT_.out ?_
           refine pu_ (i := 13) (N := some 46) HT_.out ?_
           refine pu_ (i := 14) (N := some 47) HT_.out ?_
           refine pu_ (i := 15) (N := some 48) HT_.out ?_
           refine pu_ (i := 16) (N := some 49) HT_.out ?_
           refine pu_ (i := 17) (N := some 50) HT_.out ?_
           refine pu_ (i := 18) (N := some 51) HT_.out ?_
           refine pu_ (i := 19) (N := some 52) HT_.out ?_
           refine pu_ (i := 20) (N := some 53) HT_.out ?_
           refine pv_ (i := 21) (N := some 54) HT_.out ?_
           refine pv_ (i := 22) (N := some 55) HT_.out ?_
           refine pu_ (i := 23) (N := some 56) HT_.out ?_
           refine pu_ (i := 24) (N := some 57) HT_.out ?_
           refine pu_ (i := 25) (N := some 58) HT_.out ?_
           refine pv_ (i := 26) (N := some 59) HT_.out ?_
           refine pv_ (i := 27) (N := some 60) HT_.out ?_
           refine pu_ (i := 28) (N := some 61) HT_.out ?_
           refine pu_ (i := 29) (N := some 62) HT_.out ?_
           refine pu_ (i := 30) (N := some 63) HT_.out ?_
           refine pu_ (i := 31) (N := some 64) HT_.out ?_
           refine pu_ (i := 32) (N := some 65) HT_.out ?_
           refine pu_ (i := 33) (N := some 66) HT_.out ?_
           refine pv_ (i := 34) (N := some 67) HT_.out ?_
           refine done_ (done_of HT_.out (by kernel_rfl)) ?_
           try go_wp2
           go_meet
           case rel => exact ⟨_, (true), (by first | rfl | (simp; done) | (simp [*]; done)), H', ⟨by have := HJ1.out; have := HK2.out; first | omega | exact Nat.le_refl _⟩, ⟨bk_ BK501.out⟩, ⟨bk_ BK504.out⟩, ⟨hb2_ HB.out GE501.out GE504.out⟩⟩
         case rest =>
          clear HC24
          try clear c2
          try clear p2
          try clear c4
          try clear c5
          try clear c6
          try clear p6
          try clear c29
          try clear c47
          try clear c47b0
          try clear c51
          try clear c51b0
          try clear c51b1
          obtain ⟨kq, x67_23, rfl, HA, HJ23, BK501, BK504, HB⟩ := hcut
          cases kq with
          | zero => exact absurd HA.out (by simp [impl_TimedOk.j2])
          | succ kj23 =>
           have H := HA.out
           clear HA
           simp only [impl_TimedOk.j2] at H
           by_cases c59 : x67_23 = true
           ·subst c59
            have H1 : (some false) = some r := by rw [if_pos rfl] at H; exact H
            clear H
            have H := H1
            clear H1
            obtain rfl := Option.some.inj H
            go_wp2
            go_ret
            exact ⟨ex_, hb2_ HB.out GE501.out GE504.out⟩
           ·replace c59 := Bool.eq_false_iff.mpr c59
            subst c59
            have H1 : (impl_TimedOk.l0 kj23 l0_4 (l0_4.length : Int) (wrap64 (x28_2 + 1)) a0_0 a0_1 a0_2 a0_3 l0_4) = some r := by rw [if_neg (show ¬ (false = true) by decide)] at H; exact H
            clear H
            have H := H1
            clear H1
            have H' := Aside0.mk H
            clear H
            go_wp2
            go_roundg kj23
            case measure => have := HJ1.out; have := HK2.out; have := HJ23.out; omega
            case rel => exact ⟨(wrap64 (x28_2 + 1)), (by first | rfl | (simp; done) | (simp [*]; done)), H', ⟨by have := HJ1.out; have := HK2.out; have := HJ23.out; omega⟩, ⟨bk_ BK501.out⟩, ⟨hb2_ HB.out GE501.out GE504.out⟩⟩
        ·rw [if_neg c23] at H
         exact absurd H (by simp)
       ·rw [if_neg c22] at H
        exact absurd H (by simp)
      ·rw [if_neg c21] at H
       have c21b0 : decide (x28_2 < (l0_4.length : Int)) = false := decide_eq_false c21
       clear c21
       obtain rfl := Option.some.inj H
       go_wp2
       go_ret
       exact ⟨ex_, hb1_ HB.out GE501.out⟩

end Go.Proofs.Ytlfomjhjeknnmaa.X
