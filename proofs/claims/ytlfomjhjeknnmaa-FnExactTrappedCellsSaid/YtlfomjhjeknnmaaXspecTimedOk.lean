-- Written by a program of this session (xprint.py), out of the translation and of hand-written contracts. Lean checks it.
import Derived.Test.YtlfomjhjeknnmaaX0
import Derived.Test.YtlfomjhjeknnmaaXcgrid
import Derived.Test.YtlfomjhjeknnmaaXcmaze
namespace Go.Proofs.Ytlfomjhjeknnmaa.X
open Go.RowKit Go.Proofs.YtlfomjhjeknnmaaW.PrintWords Go.Proofs.YtlfomjhjeknnmaaW.PrintLast Go.Proofs.YtlfomjhjeknnmaaW.PrintMore
attribute [local go_sem] max2_int min2_int max_two min_two max_three min_three max_four min_four   -- for this text's walks alone
set_option linter.unusedVariables false
set_option linter.unusedSimpArgs false

/-! ### spec_TimedOk: function 29 -/
mutual
def spec_TimedOk.j0 : Nat → Bool → Int → Int → Int → Int → List (S56) → Option (Bool)
 | 0, _, _, _, _, _, _ => none
 | k + 1, x20, x502000, x502001, x502002, x502003, x502004 => if x20 = true then (some false) else (spec_TimedOk.l0 k 0 x502000 x502001 x502002 x502003 x502004)
def spec_TimedOk.l0 : Nat → Int → Int → Int → Int → Int → List (S56) → Option (Bool)
 | 0, _, _, _, _, _, _ => none
 | k + 1, x3, x502000, x502001, x502002, x502003, x502004 => if x3 < (x502004.length : Int) then (if 0 ≤ x3 then ((spec_IsPassage.f x502000 x502001 x502002 ((rd_T56 x502004 x3).f0)).bind fun t506 => (if t506 = true then (if x3 > 0 then (if 0 ≤ (wrap64 (x3 - 1)) then (if (wrap64 (x3 - 1)) < (x502004.length : Int) then (if ((rd_T56 x502004 x3).f0) ≤ ((rd_T56 x502004 (wrap64 (x3 - 1))).f0) then (some false) else (if 0 ≤ x502003 then ((spec_l01In.f ((rd_T56 x502004 x3).f1) 0 (wrap64 ((shl .i64 1 x502003) - 1))).bind fun t508 => (if t508 = true then (spec_TimedOk.l0 k (wrap64 (x3 + 1)) x502000 x502001 x502002 x502003 x502004) else (some false))) else (none))) else (none)) else (none)) else (if 0 ≤ x502003 then ((spec_l01In.f ((rd_T56 x502004 x3).f1) 0 (wrap64 ((shl .i64 1 x502003) - 1))).bind fun t509 => (if t509 = true then (spec_TimedOk.l0 k (wrap64 (x3 + 1)) x502000 x502001 x502002 x502003 x502004) else (some false))) else (none))) else (some false))) else (none)) else (some true)
end
def spec_TimedOk.f (k : Nat) (a0_0 : Int) (a0_1 : Int) (a0_2 : Int) (a0_3 : Int) (l0_4 : List (S56)) : Option (Bool) := (spec_MazeOk.f a0_0 a0_1 a0_2).bind fun t502 => (if t502 = true then ((spec_l01In.f a0_3 1 6).bind fun t503 => (if t503 = true then (spec_TimedOk.j0 k (decide ((l0_4.length : Int) > 8)) a0_0 a0_1 a0_2 a0_3 l0_4) else (spec_TimedOk.j0 k true a0_0 a0_1 a0_2 a0_3 l0_4))) else (spec_TimedOk.j0 k true a0_0 a0_1 a0_2 a0_3 l0_4))
theorem spec_TimedOk.mono_l : ∀ k, (∀ y0 y1 y2 y3 y4 y5, LeO (spec_TimedOk.j0 k y0 y1 y2 y3 y4 y5) (spec_TimedOk.j0 (k + 1) y0 y1 y2 y3 y4 y5)) ∧ (∀ y0 y1 y2 y3 y4 y5, LeO (spec_TimedOk.l0 k y0 y1 y2 y3 y4 y5) (spec_TimedOk.l0 (k + 1) y0 y1 y2 y3 y4 y5))
 | 0 => ⟨fun _ _ _ _ _ _ r h => by simp [spec_TimedOk.j0] at h, fun _ _ _ _ _ _ r h => by simp [spec_TimedOk.l0] at h⟩
 | k + 1 => by
  obtain ⟨ih0, ih1⟩ := spec_TimedOk.mono_l k
  refine ⟨?_, ?_⟩
  ·intro y0 y1 y2 y3 y4 y5
   unfold spec_TimedOk.j0
   repeat' first
   | (with_reducible exact ih0 ..)
   | (with_reducible exact ih1 ..)
   | (with_reducible first | exact lr_ _ | exact ln_ _ | refine li_ ?_ ?_ | refine lb_ ?_ fun _ => ?_)
   | exact ih0 ..
   | exact ih1 ..
   | exact ln_ _ | refine li_ ?_ ?_ | refine lb_ ?_ fun _ => ?_
  ·intro y0 y1 y2 y3 y4 y5
   unfold spec_TimedOk.l0
   repeat' first
   | (with_reducible exact ih0 ..)
   | (with_reducible exact ih1 ..)
   | (with_reducible first | exact lr_ _ | exact ln_ _ | refine li_ ?_ ?_ | refine lb_ ?_ fun _ => ?_)
   | exact ih0 ..
   | exact ih1 ..
   | exact ln_ _ | refine li_ ?_ ?_ | refine lb_ ?_ fun _ => ?_
theorem spec_TimedOk.mono : ∀ a0 a1 a2 a3 a4 k, LeO (spec_TimedOk.f k a0 a1 a2 a3 a4) (spec_TimedOk.f (k + 1) a0 a1 a2 a3 a4) := by
 intro a0 a1 a2 a3 a4 k
 obtain ⟨ih0, ih1⟩ := spec_TimedOk.mono_l k
 unfold spec_TimedOk.f
 repeat' first
   | (with_reducible exact ih0 ..)
   | (with_reducible exact ih1 ..)
   | (with_reducible first | exact lr_ _ | exact ln_ _ | refine li_ ?_ ?_ | refine lb_ ?_ fun _ => ?_)
   | exact ih0 ..
   | exact ih1 ..
   | exact ln_ _ | refine li_ ?_ ?_ | refine lb_ ?_ fun _ => ?_
def spec_TimedOk.T7 : Bool × List (List Nat × List Nat) := (true, [([], []), ([0], [0]), ([], []), ([2], [2]), ([1, 3], [1, 3]), ([4], [4]), ([5, 4], [5]), ([6], [6]), ([7, 6], [6, 7]), ([8, 6, 6], [6, 8]), ([9], [9]), ([10, 9], [9, 10]), ([9], [9]), ([12, 9], [9, 12]), ([9], [9]), ([14, 9], [9, 14]), ([13, 15, 9], [9, 13, 15]), ([16, 9], [9, 16]), ([17, 9], [9, 17]), ([11, 18, 9], [9, 11, 18]), ([9, 19, 6], [6, 9, 19]), ([6, 20], [6, 20]), ([21, 9], [21]), ([22], [22]), ([23, 22], [22, 23]), ([22], [22]), ([25, 22], [22, 25]), ([26, 22], [22, 26]), ([27, 22], [22, 27]), ([24, 28, 22, 22], [22, 24, 28]), ([29, 22], [22, 29]), ([22, 30], [22, 30])])
def spec_TimedOk.B7 : List Nat := [0, 1, 0, 4, 15, 31, 63, 127, 255, 511, 1023, 2047, 1023, 5119, 1023, 17407, 62463, 127999, 259071, 524287, 1048575, 2097151, 4194303, 8388607, 16777215, 8388607, 41943039, 109051903, 243269631, 536870911, 1073741823, 2147483647]
theorem spec_TimedOk.tab7 : rtab .any (opsOf Try.f29 7) = spec_TimedOk.T7 := by kernel_rfl
theorem spec_TimedOk.bits7 : waitsOk spec_TimedOk.T7.2 spec_TimedOk.B7 = true := by kernel_rfl
set_option maxHeartbeats 8000000 in
set_option maxRecDepth 100000 in
theorem spec_TimedOk.calls (k : Nat) (a0_0 : Int) (a0_1 : Int) (a0_2 : Int) (a0_3 : Int) (A0_4 : Option Addr) (c0_4 : Nat) (l0_4 : List (S56)) (r : Bool) (w : World) (hr0_4 : Kd.C k56 w A0_4 l0_4.length l0_4) (hc0_4 : l0_4.length ≤ c0_4) (h : spec_TimedOk.f k a0_0 a0_1 a0_2 a0_3 l0_4 = some r) :
  Calls Try.prog 29 #[.agg #[.int .i64 a0_0, .int .i64 a0_1, .int .i64 a0_2, .int .i64 a0_3, .slice A0_4 l0_4.length c0_4]] w fun e w' => e = .returned (.bool r) ∧ Below w.heap.size w w' := by
 have hu36 := Try.underlying36
 have hu33 := Try.underlying33
 have hu56 := Try.underlying56
 have HR0_4 := Aside0.mk hr0_4
 have HC0_4 := Aside0.mk hc0_4
 clear hr0_4 hc0_4
 have HB := Aside0.mk (Below.refl w.heap.size w)
 have H : ((spec_MazeOk.f a0_0 a0_1 a0_2).bind fun t502 => (if t502 = true then ((spec_l01In.f a0_3 1 6).bind fun t503 => (if t503 = true then (spec_TimedOk.j0 k (decide ((l0_4.length : Int) > 8)) a0_0 a0_1 a0_2 a0_3 l0_4) else (spec_TimedOk.j0 k true a0_0 a0_1 a0_2 a0_3 l0_4))) else (spec_TimedOk.j0 k true a0_0 a0_1 a0_2 a0_3 l0_4))) = some r := h
 clear h
 have HC2 := Aside0.mk H
 clear H
 go_enter Try.func29, Try.ntmps29
 go_upto_region 1 with (first | ((with_reducible refine gate_dst (N := 1) rfl ?_); (try (refine gate_guard (by rfl) ?_; dsimp only)); refine box_event ?hg (N := 1) ?hd (cs := #[.int .i64 a0_0, .int .i64 a0_1, .int .i64 a0_2, .int .i64 a0_3, .slice A0_4 l0_4.length c0_4]) (t := 36) ?hr ?_; (case hd => rfl); (case hg => rfl); (case hr => first | (go_simp; done) | (go_simp; rfl)); intro gb501 hg w3 hbox hb; have BK501 := Aside0.mk (hbox); have GW501 := HB.g0 hg; have GE501 := HB.g0 hg; replace HB := HB.s0 hb; clear hb hbox hg))
 (try simp only [Act.put, List.setIfInBounds_toArray, List.set_cons_zero, List.set_cons_succ])
 go_cut [20] (fun v20 wc => ∃ (kq : Nat) (x20_1 : Bool), v20 = .bool x20_1 ∧ Aside0 (spec_TimedOk.j0 kq x20_1 a0_0 a0_1 a0_2 a0_3 l0_4 = some r) ∧ Aside0 (kq ≤ k) ∧ Aside0 (wc.heap[gb501]? = some (.cells #[.int .i64 a0_0, .int .i64 a0_1, .int .i64 a0_2, .int .i64 a0_3, (.slice A0_4 l0_4.length c0_4)] 36 (0, 0))) ∧ Aside0 (Below w.heap.size w wc))
 case first =>
  have H := HC2.out
  clear HC2
  replace H := Option.bind_eq_some_iff.mp H
  obtain ⟨t502, A40, H⟩ := H
  replace H : (if t502 = true then ((spec_l01In.f a0_3 1 6).bind fun t503 => (if t503 = true then (spec_TimedOk.j0 k (decide ((l0_4.length : Int) > 8)) a0_0 a0_1 a0_2 a0_3 l0_4) else (spec_TimedOk.j0 k true a0_0 a0_1 a0_2 a0_3 l0_4))) else (spec_TimedOk.j0 k true a0_0 a0_1 a0_2 a0_3 l0_4)) = some r := H
  have A4 := Aside0.mk A40
  clear A40
  by_cases c5 : t502 = true
  ·subst c5
   have H1 : ((spec_l01In.f a0_3 1 6).bind fun t503 => (if t503 = true then (spec_TimedOk.j0 k (decide ((l0_4.length : Int) > 8)) a0_0 a0_1 a0_2 a0_3 l0_4) else (spec_TimedOk.j0 k true a0_0 a0_1 a0_2 a0_3 l0_4))) = some r := by rw [if_pos rfl] at H; exact H
   clear H
   have H := H1
   clear H1
   replace H := Option.bind_eq_some_iff.mp H
   obtain ⟨t503, A60, H⟩ := H
   replace H : (if t503 = true then (spec_TimedOk.j0 k (decide ((l0_4.length : Int) > 8)) a0_0 a0_1 a0_2 a0_3 l0_4) else (spec_TimedOk.j0 k true a0_0 a0_1 a0_2 a0_3 l0_4)) = some r := H
   have A6 := Aside0.mk A60
   clear A60
   by_cases c7 : t503 = true
   ·subst c7
    have H1 : (spec_TimedOk.j0 k (decide ((l0_4.length : Int) > 8)) a0_0 a0_1 a0_2 a0_3 l0_4) = some r := by rw [if_pos rfl] at H; exact H
    clear H
    have H := H1
    clear H1
    have H' := Aside0.mk H
    clear H
    obtain ⟨hcz8_0, hcz8_1, hcz8_2, hcz8_3, hcz8_4⟩ := cz5_ BK501.out
    obtain ⟨hfz8_0, hfz8_1, hfz8_2, hfz8_3, hfz8_4⟩ := fz5_ BK501.out
    go_wp2_with (first | (refine gl_ 7 Try.func53 #[.agg #[.int .i64 a0_0, .int .i64 a0_1, .int .i64 a0_2]] ?_; (with_reducible refine (spec_MazeOk.calls a0_0 a0_1 a0_2 true _ A4.out).mono ?_); rintro e w9 ⟨rfl, hb⟩; refine ⟨_, rfl, ?_⟩; replace BK501 := BK501.bb hb; replace HB := HB.s1 GE501 hb; (try clear hb); obtain ⟨hcz10_0, hcz10_1, hcz10_2, hcz10_3, hcz10_4⟩ := cz5_ BK501.out; obtain ⟨hfz10_0, hfz10_1, hfz10_2, hfz10_3, hfz10_4⟩ := fz5_ BK501.out) | (go_at_call 31; (with_reducible refine (spec_l01In.calls a0_3 1 6 true _ A6.out).mono ?_); rintro e w' ⟨rfl, ⟨nd, rfl⟩⟩))
    go_meet
    case rel => exact ⟨_, (decide ((l0_4.length : Int) > 8)), (by first | rfl | (simp; done) | (simp [*]; done)), H', ⟨by first | omega | exact Nat.le_refl _⟩, ⟨bk_ BK501.out⟩, ⟨hb1_ HB.out GE501.out⟩⟩
   ·replace c7 := Bool.eq_false_iff.mpr c7
    subst c7
    have H1 : (spec_TimedOk.j0 k true a0_0 a0_1 a0_2 a0_3 l0_4) = some r := by rw [if_neg (show ¬ (false = true) by decide)] at H; exact H
    clear H
    have H := H1
    clear H1
    have H' := Aside0.mk H
    clear H
    obtain ⟨hcz11_0, hcz11_1, hcz11_2, hcz11_3, hcz11_4⟩ := cz5_ BK501.out
    obtain ⟨hfz11_0, hfz11_1, hfz11_2, hfz11_3, hfz11_4⟩ := fz5_ BK501.out
    go_wp2_with (first | (refine gl_ 7 Try.func53 #[.agg #[.int .i64 a0_0, .int .i64 a0_1, .int .i64 a0_2]] ?_; (with_reducible refine (spec_MazeOk.calls a0_0 a0_1 a0_2 true _ A4.out).mono ?_); rintro e w12 ⟨rfl, hb⟩; refine ⟨_, rfl, ?_⟩; replace BK501 := BK501.bb hb; replace HB := HB.s1 GE501 hb; (try clear hb); obtain ⟨hcz13_0, hcz13_1, hcz13_2, hcz13_3, hcz13_4⟩ := cz5_ BK501.out; obtain ⟨hfz13_0, hfz13_1, hfz13_2, hfz13_3, hfz13_4⟩ := fz5_ BK501.out) | (go_at_call 31; (with_reducible refine (spec_l01In.calls a0_3 1 6 false _ A6.out).mono ?_); rintro e w' ⟨rfl, ⟨nd, rfl⟩⟩))
    go_meet
    case rel => exact ⟨_, (true), (by first | rfl | (simp; done) | (simp [*]; done)), H', ⟨by first | omega | exact Nat.le_refl _⟩, ⟨bk_ BK501.out⟩, ⟨hb1_ HB.out GE501.out⟩⟩
  ·replace c5 := Bool.eq_false_iff.mpr c5
   subst c5
   have H1 : (spec_TimedOk.j0 k true a0_0 a0_1 a0_2 a0_3 l0_4) = some r := by rw [if_neg (show ¬ (false = true) by decide)] at H; exact H
   clear H
   have H := H1
   clear H1
   have H' := Aside0.mk H
   clear H
   obtain ⟨hcz14_0, hcz14_1, hcz14_2, hcz14_3, hcz14_4⟩ := cz5_ BK501.out
   obtain ⟨hfz14_0, hfz14_1, hfz14_2, hfz14_3, hfz14_4⟩ := fz5_ BK501.out
   go_wp2_with (first | (refine gl_ 7 Try.func53 #[.agg #[.int .i64 a0_0, .int .i64 a0_1, .int .i64 a0_2]] ?_; (with_reducible refine (spec_MazeOk.calls a0_0 a0_1 a0_2 false _ A4.out).mono ?_); rintro e w15 ⟨rfl, hb⟩; refine ⟨_, rfl, ?_⟩; replace BK501 := BK501.bb hb; replace HB := HB.s1 GE501 hb; (try clear hb)))
   go_meet
   case rel => exact ⟨_, (true), (by first | rfl | (simp; done) | (simp [*]; done)), H', ⟨by first | omega | exact Nat.le_refl _⟩, ⟨bk_ BK501.out⟩, ⟨hb1_ HB.out GE501.out⟩⟩
 case rest =>
  clear HC2
  try clear c2
  try clear p2
  try clear c5
  try clear c7
  try clear hcz10_0
  try clear hcz10_1
  try clear hcz10_2
  try clear hcz10_3
  try clear hcz10_4
  try clear hcz11_0
  try clear hcz11_1
  try clear hcz11_2
  try clear hcz11_3
  try clear hcz11_4
  try clear hcz13_0
  try clear hcz13_1
  try clear hcz13_2
  try clear hcz13_3
  try clear hcz13_4
  try clear hcz14_0
  try clear hcz14_1
  try clear hcz14_2
  try clear hcz14_3
  try clear hcz14_4
  try clear hcz8_0
  try clear hcz8_1
  try clear hcz8_2
  try clear hcz8_3
  try clear hcz8_4
  try clear hfz10_0
  try clear hfz10_1
  try clear hfz10_2
  try clear hfz10_3
  try clear hfz10_4
  try clear hfz11_0
  try clear hfz11_1
  try clear hfz11_2
  try clear hfz11_3
  try clear hfz11_4
  try clear hfz13_0
  try clear hfz13_1
  try clear hfz13_2
  try clear hfz13_3
  try clear hfz13_4
  try clear hfz14_0
  try clear hfz14_1
  try clear hfz14_2
  try clear hfz14_3
  try clear hfz14_4
  try clear hfz8_0
  try clear hfz8_1
  try clear hfz8_2
  try clear hfz8_3
  try clear hfz8_4
  obtain ⟨kq, x20_1, rfl, HA, HJ1, BK501, HB⟩ := hcut
  cases kq with
  | zero => exact absurd HA.out (by simp [spec_TimedOk.j0])
  | succ kj1 =>
   have H := HA.out
   clear HA
   simp only [spec_TimedOk.j0] at H
   by_cases c16 : x20_1 = true
   ·subst c16
    have H1 : (some false) = some r := by rw [if_pos rfl] at H; exact H
    clear H
    have H := H1
    clear H1
    obtain rfl := Option.some.inj H
    go_wp2
    go_ret
    exact ⟨ex_, hb1_ HB.out GE501.out⟩
   ·replace c16 := Bool.eq_false_iff.mpr c16
    subst c16
    have H1 : (spec_TimedOk.l0 kj1 0 a0_0 a0_1 a0_2 a0_3 l0_4) = some r := by rw [if_neg (show ¬ (false = true) by decide)] at H; exact H
    clear H
    have H := H1
    clear H1
    have H' := Aside0.mk H
    clear H
    go_wp2
    go_loopg [3] kj1 (fun kq v3 w' => ∃ (x3_2 : Int), v3 = .int .i64 x3_2 ∧ Aside0 (spec_TimedOk.l0 kq x3_2 a0_0 a0_1 a0_2 a0_3 l0_4 = some r) ∧ Aside0 (kq ≤ kj1) ∧ Aside0 (w'.heap[gb501]? = some (.cells #[.int .i64 a0_0, .int .i64 a0_1, .int .i64 a0_2, .int .i64 a0_3, (.slice A0_4 l0_4.length c0_4)] 36 (0, 0))) ∧ Aside0 (Below w.heap.size w w'))
    case atStart => exact ⟨(0), (by first | rfl | (simp; done) | (simp [*]; done)), H', ⟨Nat.le_refl _⟩, ⟨bk_ BK501.out⟩, ⟨hb1_ HB.out GE501.out⟩⟩
    case round =>
     clear H'
     try clear c1
     try clear c2
     try clear p2
     try clear c5
     try clear c7
     try clear c16
     try clear hcz10_0
     try clear hcz10_1
     try clear hcz10_2
     try clear hcz10_3
     try clear hcz10_4
     try clear hcz11_0
     try clear hcz11_1
     try clear hcz11_2
     try clear hcz11_3
     try clear hcz11_4
     try clear hcz13_0
     try clear hcz13_1
     try clear hcz13_2
     try clear hcz13_3
     try clear hcz13_4
     try clear hcz14_0
     try clear hcz14_1
     try clear hcz14_2
     try clear hcz14_3
     try clear hcz14_4
     try clear hcz8_0
     try clear hcz8_1
     try clear hcz8_2
     try clear hcz8_3
     try clear hcz8_4
     try clear hfz10_0
     try clear hfz10_1
     try clear hfz10_2
     try clear hfz10_3
     try clear hfz10_4
     try clear hfz11_0
     try clear hfz11_1
     try clear hfz11_2
     try clear hfz11_3
     try clear hfz11_4
     try clear hfz13_0
     try clear hfz13_1
     try clear hfz13_2
     try clear hfz13_3
     try clear hfz13_4
     try clear hfz14_0
     try clear hfz14_1
     try clear hfz14_2
     try clear hfz14_3
     try clear hfz14_4
     try clear hfz8_0
     try clear hfz8_1
     try clear hfz8_2
     try clear hfz8_3
     try clear hfz8_4
     try clear p2
     obtain ⟨x3_2, rfl, HA, HK2, BK501, HB⟩ := hrel
     cases gk with
     | zero => exact absurd HA.out (by simp [spec_TimedOk.l0])
     | succ k2 =>
      have H := HA.out
      clear HA
      simp only [spec_TimedOk.l0] at H
      by_cases c17 : x3_2 < (l0_4.length : Int)
      ·rw [if_pos c17] at H
       have c17b0 : decide (x3_2 < (l0_4.length : Int)) = true := decide_eq_true c17
       clear c17
       by_cases c18 : 0 ≤ x3_2
       ·rw [if_pos c18] at H
        have c18b0 : decide (0 ≤ x3_2) = true := decide_eq_true c18
        clear c18
        replace H := Option.bind_eq_some_iff.mp H
        obtain ⟨t506, A190, H⟩ := H
        replace H : (if t506 = true then (if x3_2 > 0 then (if 0 ≤ (wrap64 (x3_2 - 1)) then (if (wrap64 (x3_2 - 1)) < (l0_4.length : Int) then (if ((rd_T56 l0_4 x3_2).f0) ≤ ((rd_T56 l0_4 (wrap64 (x3_2 - 1))).f0) then (some false) else (if 0 ≤ a0_3 then ((spec_l01In.f ((rd_T56 l0_4 x3_2).f1) 0 (wrap64 ((shl .i64 1 a0_3) - 1))).bind fun t508 => (if t508 = true then (spec_TimedOk.l0 k2 (wrap64 (x3_2 + 1)) a0_0 a0_1 a0_2 a0_3 l0_4) else (some false))) else (none))) else (none)) else (none)) else (if 0 ≤ a0_3 then ((spec_l01In.f ((rd_T56 l0_4 x3_2).f1) 0 (wrap64 ((shl .i64 1 a0_3) - 1))).bind fun t509 => (if t509 = true then (spec_TimedOk.l0 k2 (wrap64 (x3_2 + 1)) a0_0 a0_1 a0_2 a0_3 l0_4) else (some false))) else (none))) else (some false)) = some r := H
        have A19 := Aside0.mk A190
        clear A190
        by_cases c20 : t506 = true
        ·subst c20
         have H1 : (if x3_2 > 0 then (if 0 ≤ (wrap64 (x3_2 - 1)) then (if (wrap64 (x3_2 - 1)) < (l0_4.length : Int) then (if ((rd_T56 l0_4 x3_2).f0) ≤ ((rd_T56 l0_4 (wrap64 (x3_2 - 1))).f0) then (some false) else (if 0 ≤ a0_3 then ((spec_l01In.f ((rd_T56 l0_4 x3_2).f1) 0 (wrap64 ((shl .i64 1 a0_3) - 1))).bind fun t508 => (if t508 = true then (spec_TimedOk.l0 k2 (wrap64 (x3_2 + 1)) a0_0 a0_1 a0_2 a0_3 l0_4) else (some false))) else (none))) else (none)) else (none)) else (if 0 ≤ a0_3 then ((spec_l01In.f ((rd_T56 l0_4 x3_2).f1) 0 (wrap64 ((shl .i64 1 a0_3) - 1))).bind fun t509 => (if t509 = true then (spec_TimedOk.l0 k2 (wrap64 (x3_2 + 1)) a0_0 a0_1 a0_2 a0_3 l0_4) else (some false))) else (none))) = some r := by rw [if_pos rfl] at H; exact H
         clear H
         have H := H1
         clear H1
         by_cases c21 : x3_2 > 0
         ·rw [if_pos c21] at H
          have c21b0 : decide (0 < x3_2) = true := decide_eq_true c21
          clear c21
          obtain ⟨ji22, hji22⟩ : ∃ j_ : Int, (wrap64 (x3_2 - 1)) = j_ := ⟨_, rfl⟩
          replace H : (if 0 ≤ (ji22) then (if (ji22) < (l0_4.length : Int) then (if ((rd_T56 l0_4 x3_2).f0) ≤ ((rd_T56 l0_4 (ji22)).f0) then (some false) else (if 0 ≤ a0_3 then ((spec_l01In.f ((rd_T56 l0_4 x3_2).f1) 0 (wrap64 ((shl .i64 1 a0_3) - 1))).bind fun t508 => (if t508 = true then (spec_TimedOk.l0 k2 (wrap64 (x3_2 + 1)) a0_0 a0_1 a0_2 a0_3 l0_4) else (some false))) else (none))) else (none)) else (none)) = some r := by first | (rw [hji22] at H; exact H) | (simp only [hji22] at H ⊢; exact H)
          (try rw [hji22] at A19)
          have hji22w : (IntKind.i64.wrap (x3_2 - 1)) = ji22 := (i64_w _).trans hji22
          by_cases c23 : 0 ≤ (ji22)
          ·rw [if_pos c23] at H
           have c23b0 : decide (0 ≤ (ji22)) = true := decide_eq_true c23
           clear c23
           by_cases c24 : (ji22) < (l0_4.length : Int)
           ·rw [if_pos c24] at H
            have c24b0 : decide ((ji22) < (l0_4.length : Int)) = true := decide_eq_true c24
            clear c24
            by_cases c25 : ((rd_T56 l0_4 x3_2).f0) ≤ ((rd_T56 l0_4 (ji22)).f0)
            ·rw [if_pos c25] at H
             have c25b0 : decide (((rd_T56 l0_4 x3_2).f0) ≤ ((rd_T56 l0_4 (ji22)).f0)) = true := decide_eq_true c25
             clear c25
             obtain rfl := Option.some.inj H
             obtain ⟨hcz26_0, hcz26_1, hcz26_2, hcz26_3, hcz26_4⟩ := cz5_ BK501.out
             obtain ⟨hfz26_0, hfz26_1, hfz26_2, hfz26_3, hfz26_4⟩ := fz5_ BK501.out
             have p504 : 0 ≤ (x3_2 : Int) := of_decide_eq_true (as_)
             have q504 : x3_2 < (l0_4.length : Int) := of_decide_eq_true (as_)
             obtain ⟨ad504, e504, hx504_0, hx504_1⟩ := at_T56 HR0_4.out x3_2 p504 q504
             cases e504
             replace hx504_0 := (HB.out.cell (World.block_lt_of_cell? w _ hx504_0)).trans hx504_0
             replace hx504_1 := (HB.out.cell (World.block_lt_of_cell? w _ hx504_1)).trans hx504_1
             replace p504 := eq_true p504
             replace q504 := eq_true q504
             try go_wp2_with (first | ((with_reducible refine gate_dst (N := 4) rfl ?_); (try (refine gate_guard (by rfl) ?_; dsimp only)); refine box_event ?hg (N := 4) ?hd (cs := #[.int .i64 0, .int .i64 0]) (t := 56) ?hr ?_; (case hd => rfl); (case hg => rfl); (case hr => first | (go_simp; done) | (go_simp; rfl)); intro gb505 hg w27 hbox hb; have BK505 := Aside0.mk (hbox); have GW505 := HB.g1 GE501 hg; have GE505 := HB.g1 GE501 hg; replace HB := HB.s1 GE501 hb; have NB501_505 := BK501.nl hg; have NB505_501 := BK501.nr hg; replace BK501 := BK501.bb hb; clear hb hbox hg; have hnb28 := NB505_501.out; have hnc28 := NB501_505.out; obtain ⟨hcz29_0, hcz29_1⟩ := cz2_ BK505.out; obtain ⟨hfz29_0, hfz29_1⟩ := fz2_ BK505.out))
             have n0_ : Aside0 (((w27.setCell ⟨gb505, 0, none⟩ (.int .i64 ((rd_T56 l0_4 x3_2).f0))).setCell ⟨gb505, 1, none⟩ (.int .i64 ((rd_T56 l0_4 x3_2).f1))).heap[gb501]? = some (.cells #[.int .i64 a0_0, .int .i64 a0_1, .int .i64 a0_2, .int .i64 a0_3, .slice (some ad504) l0_4.length c0_4] 36 (0, 0))) := ⟨by (with_reducible repeat (first | refine blk_drewN ?_ _ | refine blk_drew ?_ | refine blk_alloc ?_ _)); refine blk_far ?_ NB501_505.out _; (with_reducible repeat (first | refine blk_drewN ?_ _ | refine blk_drew ?_ | refine blk_alloc ?_ _)); refine blk_far ?_ NB501_505.out _; (with_reducible repeat (first | refine blk_drewN ?_ _ | refine blk_drew ?_ | refine blk_alloc ?_ _)); exact BK501.out⟩
             have n1_ : Aside0 (((w27.setCell ⟨gb505, 0, none⟩ (.int .i64 ((rd_T56 l0_4 x3_2).f0))).setCell ⟨gb505, 1, none⟩ (.int .i64 ((rd_T56 l0_4 x3_2).f1))).heap[gb505]? = some (.cells #[.int .i64 ((rd_T56 l0_4 x3_2).f0), .int .i64 ((rd_T56 l0_4 x3_2).f1)] 56 (0, 0))) := ⟨bq2_ BK505.out⟩
             have n2_ : Aside0 (Below w.heap.size w ((w27.setCell ⟨gb505, 0, none⟩ (.int .i64 ((rd_T56 l0_4 x3_2).f0))).setCell ⟨gb505, 1, none⟩ (.int .i64 ((rd_T56 l0_4 x3_2).f1)))) := ⟨hb2_ HB.out GE501.out GE505.out⟩
             (try clear BK501)
             (try clear BK505)
             (try clear HB)
             generalize ((w27.setCell ⟨gb505, 0, none⟩ (.int .i64 ((rd_T56 l0_4 x3_2).f0))).setCell ⟨gb505, 1, none⟩ (.int .i64 ((rd_T56 l0_4 x3_2).f1))) = w30 at n0_ n1_ n2_ ⊢
             have BK501 := n0_
             have BK505 := n1_
             have HB := n2_
             clear n0_ n1_ n2_
             replace BK501 := Aside0.mk (blk_drew BK501.out)
             replace BK505 := Aside0.mk (blk_drew BK505.out)
             replace HB := Aside0.mk (below_drew1 HB.out)
             have p507 : 0 ≤ ((ji22) : Int) := of_decide_eq_true (as_)
             have q507 : (ji22) < (l0_4.length : Int) := of_decide_eq_true (as_)
             obtain ⟨ad507, e507, hx507_0, hx507_1⟩ := at_T56 HR0_4.out (ji22) p507 q507
             have hw507_1 := hx507_1
             have hw507_0 := hx507_0
             obtain rfl : ad504 = ad507 := (by injection e507)
             replace hx507_0 := (HB.out.cell (World.block_lt_of_cell? w _ hx507_0)).trans hx507_0
             replace hx507_1 := (HB.out.cell (World.block_lt_of_cell? w _ hx507_1)).trans hx507_1
             replace p507 := eq_true p507
             replace q507 := eq_true q507
             refine start_ (n := 32) (S := fun w' => w'.cell? ⟨gb501, 0, none⟩ = some (.int .i64 a0_0) ∧ w'.cell? ⟨gb501, 1, none⟩ = some (.int .i64 a0_1) ∧ w'.cell? ⟨gb501, 2, none⟩ = some (.int .i64 a0_2) ∧ w'.cell? ⟨gb501, 3, none⟩ = some (.int .i64 a0_3) ∧ w'.cell? ⟨gb501, 4, none⟩ = some (.slice (some ad504) l0_4.length c0_4) ∧ w'.cell? ⟨gb505, 0, none⟩ = some (.int .i64 ((rd_T56 l0_4 x3_2).f0)) ∧ w'.cell? ⟨gb505, 1, none⟩ = some (.int .i64 ((rd_T56 l0_4 x3_2).f1)) ∧ w'.cell? (ad504.add (((ji22)).toNat * 2)) = some (.int .i64 ((rd_T56 l0_4 (ji22)).f0)) ∧ w'.cell? ⟨(ad504.add (((ji22)).toNat * 2)).block, (ad504.add (((ji22)).toNat * 2)).off + 1, none⟩ = some (.int .i64 ((rd_T56 l0_4 (ji22)).f1))) (ds := []) #[false, false, false, false, false, false, false, false, false, false, false, false, false, false, false, false, false, false, false, false, false, false, false, false, false, false, false, false, false, false, false, false] (by kernel_rfl) rfl rfl ⟨BK501.c 0, BK501.c 1, BK501.c 2, BK501.c 3, BK501.c 4, BK505.c 0, BK505.c 1, ((HB.out.cell (World.block_lt_of_cell? w _ hw507_0)).trans hw507_0), ((HB.out.cell (World.block_lt_of_cell? w _ hw507_1)).trans hw507_1)⟩ (fun hHeld => ?_); refine with_tabW spec_TimedOk.tab7 spec_TimedOk.bits7 (fun HT_ HW_ => ?_)
             generalize w30.drew = w31 at BK501 BK505 HB hx507_0 hx507_1 hHeld ⊢
             refine pv_ (i := 0) (N := some 33) HT_.out ?_
             refine pv_ (i := 2) (N := some 35) HT_.out ?_
             refine tv9_ (i := 1) (N := some 34) HT_.out HW_.out hHeld ?_
             refine tv9_ (i := 3) (N := some 36) HT_.out HW_.out hHeld ?_
             refine ov_ (i := 4) (N := some 37) HT_.out (fun K hK => ?_)
             refine gq_ Try.func54 #[.agg #[.int .i64 a0_0, .int .i64 a0_1, .int .i64 a0_2], .int .i64 ((rd_T56 l0_4 x3_2).f0)] ?_
             with_reducible refine (spec_IsPassage.calls a0_0 a0_1 a0_2 ((rd_T56 l0_4 x3_2).f0) true _ A19.out).mono ?_
             rintro e w32 ⟨rfl, hb⟩
             refine ⟨_, rfl, ?_⟩
             replace BK501 := BK501.bb hb
             replace BK505 := BK505.bb hb
             replace HB := HB.s2 GE501 GE505 hb
             skip
             (try clear hb2)
             (try clear hk)
             (try clear hi)
             refine hK.out _ _ ⟨BK501.c 0, BK501.c 1, BK501.c 2, BK501.c 3, BK501.c 4, BK505.c 0, BK505.c 1, ((HB.out.cell (World.block_lt_of_cell? w _ hw507_0)).trans hw507_0), ((HB.out.cell (World.block_lt_of_cell? w _ hw507_1)).trans hw507_1)⟩ (fun hHeld => ?_)
             clear hK K
             refine nm_ ?_
             refine pv_ (i := 5) (N := some 38) HT_.out ?_
             refine pv_ (i := 6) (N := some 39) HT_.out ?_
             refine pv_ (i := 7) (N := some 40) HT_.out ?_
             refine pv_ (i := 8) (N := some 41) HT_.out ?_
             refine pv_ (i := 9) (N := some 42) HT_.out ?_
             refine pv_ (i := 10) (N := some 43) HT_.out ?_
             refine pv_ (i := 12) (N := some 45) HT_.out ?_
             refine pv_ (i := 14) (N := some 47) HT_.out ?_
             refine pv_ (i := 15) (N := some 48) HT_.out ?_
             refine tv9_ (i := 11) (N := some 44) HT_.out HW_.out hHeld ?_
             refine tv9_ (i := 13) (N := some 46) HT_.out HW_.out hHeld ?_
             refine pv_ (i := 16) (N := some 49) HT_.out ?_
             refine pv_ (i := 17) (N := some 50) HT_.out ?_
             refine tv9_ (i := 18) (N := some 51) HT_.out HW_.out hHeld ?_
             refine pv_ (i := 19) (N := some 52) HT_.out ?_
             refine pv_ (i := 20) (N := some 53) HT_.out ?_
             refine pv_ (i := 21) (N := some 54) HT_.out ?_
             refine pv_ (i := 22) (N := some 55) HT_.out ?_
             refine pu_ (i := 23) (N := some 56) HT_.out ?_
             refine pu_ (i := 24) (N := some 57) HT_.out ?_
             refine pu_ (i := 25) (N := some 58) HT_.out ?_
             refine pu_ (i := 26) (N := some 59) HT_.out ?_
             refine pu_ (i := 27) (N := some 60) HT_.out ?_
             refine pu_ (i := 28) (N := some 61) HT_.out ?_
             refine pu_ (i := 29) (N := some 62) HT_.out ?_
             refine pu_ (i := 30) (N := some 63) HT_.out ?_
             refine pv_ (i := 31) (N := some 64) HT_.out ?_
             refine done_ (done_of HT_.out (by kernel_rfl)) ?_
             try go_wp2
             go_ret
             exact ⟨by first | rfl | (simp [errW_none, errW_some] <;> rfl) | (simp only [← hji22]; first | rfl | (simp [errW_none, errW_some] <;> rfl)) | (simp [*, errW_none, errW_some] <;> rfl), hb2_ HB.out GE501.out GE505.out⟩
            ·rw [if_neg c25] at H
             have c25b0 : decide (((rd_T56 l0_4 x3_2).f0) ≤ ((rd_T56 l0_4 (ji22)).f0)) = false := decide_eq_false c25
             clear c25
             by_cases c33 : 0 ≤ a0_3
             ·rw [if_pos c33] at H
              have c33b0 := eq_true c33
              have c33b1 : decide (0 ≤ a0_3) = true := decide_eq_true c33
              clear c33
              obtain ⟨ji34, hji34⟩ : ∃ j_ : Int, (shl .i64 1 a0_3) = j_ := ⟨_, rfl⟩
              replace H : ((spec_l01In.f ((rd_T56 l0_4 x3_2).f1) 0 (wrap64 ((ji34) - 1))).bind fun t508 => (if t508 = true then (spec_TimedOk.l0 k2 (wrap64 (x3_2 + 1)) a0_0 a0_1 a0_2 a0_3 l0_4) else (some false))) = some r := by first | (rw [hji34] at H; exact H) | (simp only [hji34] at H ⊢; exact H)
              (try rw [hji34] at A19)
              have hji34_ : (IntKind.i64.wrap (1 * 2 ^ min a0_3.toNat 64)) = ji34 := hji34
              have hji34z : a0_3 ≤ 64 → (IntKind.i64.wrap (1 * 2 ^ a0_3.toNat)) = ji34 := shl_small hji34
              have hji34u : (IntKind.i64.wrap (2 ^ min a0_3.toNat 64)) = ji34 := by have h_ := hji34_; rw [Int.one_mul] at h_; exact h_
              have hji34v : a0_3 ≤ 64 → (IntKind.i64.wrap (2 ^ a0_3.toNat)) = ji34 := fun hle_ => by have h_ := hji34z hle_; rw [Int.one_mul] at h_; exact h_
              have hji34y : (wrap64 (1 * 2 ^ min a0_3.toNat 64)) = ji34 := (i64_w _).symm.trans hji34_
              have hji34x : a0_3 ≤ 64 → (wrap64 (1 * 2 ^ a0_3.toNat)) = ji34 := fun h_ => (i64_w _).symm.trans (hji34z h_)
              replace H := Option.bind_eq_some_iff.mp H
              obtain ⟨t508, A350, H⟩ := H
              replace H : (if t508 = true then (spec_TimedOk.l0 k2 (wrap64 (x3_2 + 1)) a0_0 a0_1 a0_2 a0_3 l0_4) else (some false)) = some r := H
              have A35 := Aside0.mk A350
              clear A350
              by_cases c36 : t508 = true
              ·subst c36
               have H1 : (spec_TimedOk.l0 k2 (wrap64 (x3_2 + 1)) a0_0 a0_1 a0_2 a0_3 l0_4) = some r := by rw [if_pos rfl] at H; exact H
               clear H
               have H := H1
               clear H1
               have H' := Aside0.mk H
               clear H
               obtain ⟨hcz37_0, hcz37_1, hcz37_2, hcz37_3, hcz37_4⟩ := cz5_ BK501.out
               obtain ⟨hfz37_0, hfz37_1, hfz37_2, hfz37_3, hfz37_4⟩ := fz5_ BK501.out
               have p504 : 0 ≤ (x3_2 : Int) := of_decide_eq_true (as_)
               have q504 : x3_2 < (l0_4.length : Int) := of_decide_eq_true (as_)
               obtain ⟨ad504, e504, hx504_0, hx504_1⟩ := at_T56 HR0_4.out x3_2 p504 q504
               cases e504
               replace hx504_0 := (HB.out.cell (World.block_lt_of_cell? w _ hx504_0)).trans hx504_0
               replace hx504_1 := (HB.out.cell (World.block_lt_of_cell? w _ hx504_1)).trans hx504_1
               replace p504 := eq_true p504
               replace q504 := eq_true q504
               try go_wp2_with (first | ((with_reducible refine gate_dst (N := 4) rfl ?_); (try (refine gate_guard (by rfl) ?_; dsimp only)); refine box_event ?hg (N := 4) ?hd (cs := #[.int .i64 0, .int .i64 0]) (t := 56) ?hr ?_; (case hd => rfl); (case hg => rfl); (case hr => first | (go_simp; done) | (go_simp; rfl)); intro gb505 hg w38 hbox hb; have BK505 := Aside0.mk (hbox); have GW505 := HB.g1 GE501 hg; have GE505 := HB.g1 GE501 hg; replace HB := HB.s1 GE501 hb; have NB501_505 := BK501.nl hg; have NB505_501 := BK501.nr hg; replace BK501 := BK501.bb hb; clear hb hbox hg; have hnb39 := NB505_501.out; have hnc39 := NB501_505.out; obtain ⟨hcz40_0, hcz40_1⟩ := cz2_ BK505.out; obtain ⟨hfz40_0, hfz40_1⟩ := fz2_ BK505.out))
               have n0_ : Aside0 (((w38.setCell ⟨gb505, 0, none⟩ (.int .i64 ((rd_T56 l0_4 x3_2).f0))).setCell ⟨gb505, 1, none⟩ (.int .i64 ((rd_T56 l0_4 x3_2).f1))).heap[gb501]? = some (.cells #[.int .i64 a0_0, .int .i64 a0_1, .int .i64 a0_2, .int .i64 a0_3, .slice (some ad504) l0_4.length c0_4] 36 (0, 0))) := ⟨by (with_reducible repeat (first | refine blk_drewN ?_ _ | refine blk_drew ?_ | refine blk_alloc ?_ _)); refine blk_far ?_ NB501_505.out _; (with_reducible repeat (first | refine blk_drewN ?_ _ | refine blk_drew ?_ | refine blk_alloc ?_ _)); refine blk_far ?_ NB501_505.out _; (with_reducible repeat (first | refine blk_drewN ?_ _ | refine blk_drew ?_ | refine blk_alloc ?_ _)); exact BK501.out⟩
               have n1_ : Aside0 (((w38.setCell ⟨gb505, 0, none⟩ (.int .i64 ((rd_T56 l0_4 x3_2).f0))).setCell ⟨gb505, 1, none⟩ (.int .i64 ((rd_T56 l0_4 x3_2).f1))).heap[gb505]? = some (.cells #[.int .i64 ((rd_T56 l0_4 x3_2).f0), .int .i64 ((rd_T56 l0_4 x3_2).f1)] 56 (0, 0))) := ⟨bq2_ BK505.out⟩
               have n2_ : Aside0 (Below w.heap.size w ((w38.setCell ⟨gb505, 0, none⟩ (.int .i64 ((rd_T56 l0_4 x3_2).f0))).setCell ⟨gb505, 1, none⟩ (.int .i64 ((rd_T56 l0_4 x3_2).f1)))) := ⟨hb2_ HB.out GE501.out GE505.out⟩
               (try clear BK501)
               (try clear BK505)
               (try clear HB)
               generalize ((w38.setCell ⟨gb505, 0, none⟩ (.int .i64 ((rd_T56 l0_4 x3_2).f0))).setCell ⟨gb505, 1, none⟩ (.int .i64 ((rd_T56 l0_4 x3_2).f1))) = w41 at n0_ n1_ n2_ ⊢
               have BK501 := n0_
               have BK505 := n1_
               have HB := n2_
               clear n0_ n1_ n2_
               replace BK501 := Aside0.mk (blk_drew BK501.out)
               replace BK505 := Aside0.mk (blk_drew BK505.out)
               replace HB := Aside0.mk (below_drew1 HB.out)
               have p507 : 0 ≤ ((ji22) : Int) := of_decide_eq_true (as_)
               have q507 : (ji22) < (l0_4.length : Int) := of_decide_eq_true (as_)
               obtain ⟨ad507, e507, hx507_0, hx507_1⟩ := at_T56 HR0_4.out (ji22) p507 q507
               have hw507_1 := hx507_1
               have hw507_0 := hx507_0
               obtain rfl : ad504 = ad507 := (by injection e507)
               replace hx507_0 := (HB.out.cell (World.block_lt_of_cell? w _ hx507_0)).trans hx507_0
               replace hx507_1 := (HB.out.cell (World.block_lt_of_cell? w _ hx507_1)).trans hx507_1
               replace p507 := eq_true p507
               replace q507 := eq_true q507
               refine start_ (n := 32) (S := fun w' => w'.cell? ⟨gb501, 0, none⟩ = some (.int .i64 a0_0) ∧ w'.cell? ⟨gb501, 1, none⟩ = some (.int .i64 a0_1) ∧ w'.cell? ⟨gb501, 2, none⟩ = some (.int .i64 a0_2) ∧ w'.cell? ⟨gb501, 3, none⟩ = some (.int .i64 a0_3) ∧ w'.cell? ⟨gb501, 4, none⟩ = some (.slice (some ad504) l0_4.length c0_4) ∧ w'.cell? ⟨gb505, 0, none⟩ = some (.int .i64 ((rd_T56 l0_4 x3_2).f0)) ∧ w'.cell? ⟨gb505, 1, none⟩ = some (.int .i64 ((rd_T56 l0_4 x3_2).f1)) ∧ w'.cell? (ad504.add (((ji22)).toNat * 2)) = some (.int .i64 ((rd_T56 l0_4 (ji22)).f0)) ∧ w'.cell? ⟨(ad504.add (((ji22)).toNat * 2)).block, (ad504.add (((ji22)).toNat * 2)).off + 1, none⟩ = some (.int .i64 ((rd_T56 l0_4 (ji22)).f1))) (ds := []) #[false, false, false, false, false, false, false, false, false, false, false, false, false, false, false, false, false, false, false, false, false, false, false, false, false, false, false, false, false, false, false, false] (by kernel_rfl) rfl rfl ⟨BK501.c 0, BK501.c 1, BK501.c 2, BK501.c 3, BK501.c 4, BK505.c 0, BK505.c 1, ((HB.out.cell (World.block_lt_of_cell? w _ hw507_0)).trans hw507_0), ((HB.out.cell (World.block_lt_of_cell? w _ hw507_1)).trans hw507_1)⟩ (fun hHeld => ?_); refine with_tabW spec_TimedOk.tab7 spec_TimedOk.bits7 (fun HT_ HW_ => ?_)
               generalize w41.drew = w42 at BK501 BK505 HB hx507_0 hx507_1 hHeld ⊢
               refine pv_ (i := 0) (N := some 33) HT_.out ?_
               refine pv_ (i := 2) (N := some 35) HT_.out ?_
               refine tv9_ (i := 1) (N := some 34) HT_.out HW_.out hHeld ?_
               refine tv9_ (i := 3) (N := some 36) HT_.out HW_.out hHeld ?_
               refine ov_ (i := 4) (N := some 37) HT_.out (fun K hK => ?_)
               refine gq_ Try.func54 #[.agg #[.int .i64 a0_0, .int .i64 a0_1, .int .i64 a0_2], .int .i64 ((rd_T56 l0_4 x3_2).f0)] ?_
               with_reducible refine (spec_IsPassage.calls a0_0 a0_1 a0_2 ((rd_T56 l0_4 x3_2).f0) true _ A19.out).mono ?_
               rintro e w43 ⟨rfl, hb⟩
               refine ⟨_, rfl, ?_⟩
               replace BK501 := BK501.bb hb
               replace BK505 := BK505.bb hb
               replace HB := HB.s2 GE501 GE505 hb
               skip
               (try clear hb2)
               (try clear hk)
               (try clear hi)
               refine hK.out _ _ ⟨BK501.c 0, BK501.c 1, BK501.c 2, BK501.c 3, BK501.c 4, BK505.c 0, BK505.c 1, ((HB.out.cell (World.block_lt_of_cell? w _ hw507_0)).trans hw507_0), ((HB.out.cell (World.block_lt_of_cell? w _ hw507_1)).trans hw507_1)⟩ (fun hHeld => ?_)
               clear hK K
               refine nm_ ?_
               refine pv_ (i := 5) (N := some 38) HT_.out ?_
               refine pv_ (i := 6) (N := some 39) HT_.out ?_
               refine pv_ (i := 7) (N := some 40) HT_.out ?_
               refine pv_ (i := 8) (N := some 41) HT_.out ?_
               refine pv_ (i := 9) (N := some 42) HT_.out ?_
               refine pv_ (i := 10) (N := some 43) HT_.out ?_
               refine pv_ (i := 12) (N := some 45) HT_.out ?_
               refine pv_ (i := 14) (N := some 47) HT_.out ?_
               refine pv_ (i := 15) (N := some 48) HT_.out ?_
               refine tv9_ (i := 11) (N := some 44) HT_.out HW_.out hHeld ?_
               refine tv9_ (i := 13) (N := some 46) HT_.out HW_.out hHeld ?_
               refine pv_ (i := 16) (N := some 49) HT_.out ?_
               refine pv_ (i := 17) (N := some 50) HT_.out ?_
               refine tv9_ (i := 18) (N := some 51) HT_.out HW_.out hHeld ?_
               refine pv_ (i := 19) (N := some 52) HT_.out ?_
               refine pv_ (i := 20) (N := some 53) HT_.out ?_
               refine pv_ (i := 21) (N := some 54) HT_.out ?_
               refine pv_ (i := 22) (N := some 55) HT_.out ?_
               refine pv_ (i := 23) (N := some 56) HT_.out ?_
               refine pv_ (i := 25) (N := some 58) HT_.out ?_
               refine tv9_ (i := 24) (N := some 57) HT_.out HW_.out hHeld ?_
               refine tv9_ (i := 26) (N := some 59) HT_.out HW_.out hHeld ?_
               refine pv_ (i := 27) (N := some 60) HT_.out ?_
               refine pv_ (i := 28) (N := some 61) HT_.out ?_
               refine ov_ (i := 29) (N := some 62) HT_.out (fun K hK => ?_)
               refine goes_ Try.func31 (by kernel_rfl) rfl #[.int .i64 ((rd_T56 l0_4 x3_2).f1), .int .i64 0, .int .i64 (wrap64 ((ji34) - 1))] (by rfl) rfl rfl (by (try simp only [List.map_toArray, List.map_cons, List.map_nil]); first | done | (simp only [hji34]; rfl) | rfl | (simp only [List.length_drop, List.length_take]; rfl)) ?_
               with_reducible refine (spec_l01In.calls ((rd_T56 l0_4 x3_2).f1) 0 (wrap64 ((ji34) - 1)) true _ A35.out).mono ?_
               rintro e w' ⟨rfl, ⟨nd, rfl⟩⟩
               refine ⟨_, rfl, ?_⟩
               refine hK.out _ _ ⟨BK501.c 0, BK501.c 1, BK501.c 2, BK501.c 3, BK501.c 4, BK505.c 0, BK505.c 1, ((HB.out.cell (World.block_lt_of_cell? w _ hw507_0)).trans hw507_0), ((HB.out.cell (World.block_lt_of_cell? w _ hw507_1)).trans hw507_1)⟩ (fun hHeld => ?_)
               clear hK K
               refine nm_ ?_
               refine pv_ (i := 30) (N := some 63) HT_.out ?_
               refine pv_ (i := 31) (N := some 64) HT_.out ?_
               refine done_ (done_of HT_.out (by kernel_rfl)) ?_
               try go_wp2
               go_roundg k2
               case measure => have := HJ1.out; have := HK2.out; omega
               case rel => exact ⟨(wrap64 (x3_2 + 1)), (by first | rfl | (simp; done) | (simp [*]; done)), H', ⟨by have := HJ1.out; have := HK2.out; omega⟩, ⟨bk_ BK501.out⟩, ⟨hb2_ HB.out GE501.out GE505.out⟩⟩
              ·replace c36 := Bool.eq_false_iff.mpr c36
               subst c36
               have H1 : (some false) = some r := by rw [if_neg (show ¬ (false = true) by decide)] at H; exact H
               clear H
               have H := H1
               clear H1
               obtain rfl := Option.some.inj H
               obtain ⟨hcz44_0, hcz44_1, hcz44_2, hcz44_3, hcz44_4⟩ := cz5_ BK501.out
               obtain ⟨hfz44_0, hfz44_1, hfz44_2, hfz44_3, hfz44_4⟩ := fz5_ BK501.out
               have p504 : 0 ≤ (x3_2 : Int) := of_decide_eq_true (as_)
               have q504 : x3_2 < (l0_4.length : Int) := of_decide_eq_true (as_)
               obtain ⟨ad504, e504, hx504_0, hx504_1⟩ := at_T56 HR0_4.out x3_2 p504 q504
               cases e504
               replace hx504_0 := (HB.out.cell (World.block_lt_of_cell? w _ hx504_0)).trans hx504_0
               replace hx504_1 := (HB.out.cell (World.block_lt_of_cell? w _ hx504_1)).trans hx504_1
               replace p504 := eq_true p504
               replace q504 := eq_true q504
               try go_wp2_with (first | ((with_reducible refine gate_dst (N := 4) rfl ?_); (try (refine gate_guard (by rfl) ?_; dsimp only)); refine box_event ?hg (N := 4) ?hd (cs := #[.int .i64 0, .int .i64 0]) (t := 56) ?hr ?_; (case hd => rfl); (case hg => rfl); (case hr => first | (go_simp; done) | (go_simp; rfl)); intro gb505 hg w45 hbox hb; have BK505 := Aside0.mk (hbox); have GW505 := HB.g1 GE501 hg; have GE505 := HB.g1 GE501 hg; replace HB := HB.s1 GE501 hb; have NB501_505 := BK501.nl hg; have NB505_501 := BK501.nr hg; replace BK501 := BK501.bb hb; clear hb hbox hg; have hnb46 := NB505_501.out; have hnc46 := NB501_505.out; obtain ⟨hcz47_0, hcz47_1⟩ := cz2_ BK505.out; obtain ⟨hfz47_0, hfz47_1⟩ := fz2_ BK505.out))
               have n0_ : Aside0 (((w45.setCell ⟨gb505, 0, none⟩ (.int .i64 ((rd_T56 l0_4 x3_2).f0))).setCell ⟨gb505, 1, none⟩ (.int .i64 ((rd_T56 l0_4 x3_2).f1))).heap[gb501]? = some (.cells #[.int .i64 a0_0, .int .i64 a0_1, .int .i64 a0_2, .int .i64 a0_3, .slice (some ad504) l0_4.length c0_4] 36 (0, 0))) := ⟨by (with_reducible repeat (first | refine blk_drewN ?_ _ | refine blk_drew ?_ | refine blk_alloc ?_ _)); refine blk_far ?_ NB501_505.out _; (with_reducible repeat (first | refine blk_drewN ?_ _ | refine blk_drew ?_ | refine blk_alloc ?_ _)); refine blk_far ?_ NB501_505.out _; (with_reducible repeat (first | refine blk_drewN ?_ _ | refine blk_drew ?_ | refine blk_alloc ?_ _)); exact BK501.out⟩
               have n1_ : Aside0 (((w45.setCell ⟨gb505, 0, none⟩ (.int .i64 ((rd_T56 l0_4 x3_2).f0))).setCell ⟨gb505, 1, none⟩ (.int .i64 ((rd_T56 l0_4 x3_2).f1))).heap[gb505]? = some (.cells #[.int .i64 ((rd_T56 l0_4 x3_2).f0), .int .i64 ((rd_T56 l0_4 x3_2).f1)] 56 (0, 0))) := ⟨bq2_ BK505.out⟩
               have n2_ : Aside0 (Below w.heap.size w ((w45.setCell ⟨gb505, 0, none⟩ (.int .i64 ((rd_T56 l0_4 x3_2).f0))).setCell ⟨gb505, 1, none⟩ (.int .i64 ((rd_T56 l0_4 x3_2).f1)))) := ⟨hb2_ HB.out GE501.out GE505.out⟩
               (try clear BK501)
               (try clear BK505)
               (try clear HB)
               generalize ((w45.setCell ⟨gb505, 0, none⟩ (.int .i64 ((rd_T56 l0_4 x3_2).f0))).setCell ⟨gb505, 1, none⟩ (.int .i64 ((rd_T56 l0_4 x3_2).f1))) = w48 at n0_ n1_ n2_ ⊢
               have BK501 := n0_
               have BK505 := n1_
               have HB := n2_
               clear n0_ n1_ n2_
               replace BK501 := Aside0.mk (blk_drew BK501.out)
               replace BK505 := Aside0.mk (blk_drew BK505.out)
               replace HB := Aside0.mk (below_drew1 HB.out)
               have p507 : 0 ≤ ((ji22) : Int) := of_decide_eq_true (as_)
               have q507 : (ji22) < (l0_4.length : Int) := of_decide_eq_true (as_)
               obtain ⟨ad507, e507, hx507_0, hx507_1⟩ := at_T56 HR0_4.out (ji22) p507 q507
               have hw507_1 := hx507_1
               have hw507_0 := hx507_0
               obtain rfl : ad504 = ad507 := (by injection e507)
               replace hx507_0 := (HB.out.cell (World.block_lt_of_cell? w _ hx507_0)).trans hx507_0
               replace hx507_1 := (HB.out.cell (World.block_lt_of_cell? w _ hx507_1)).trans hx507_1
               replace p507 := eq_true p507
               replace q507 := eq_true q507
               refine start_ (n := 32) (S := fun w' => w'.cell? ⟨gb501, 0, none⟩ = some (.int .i64 a0_0) ∧ w'.cell? ⟨gb501, 1, none⟩ = some (.int .i64 a0_1) ∧ w'.cell? ⟨gb501, 2, none⟩ = some (.int .i64 a0_2) ∧ w'.cell? ⟨gb501, 3, none⟩ = some (.int .i64 a0_3) ∧ w'.cell? ⟨gb501, 4, none⟩ = some (.slice (some ad504) l0_4.length c0_4) ∧ w'.cell? ⟨gb505, 0, none⟩ = some (.int .i64 ((rd_T56 l0_4 x3_2).f0)) ∧ w'.cell? ⟨gb505, 1, none⟩ = some (.int .i64 ((rd_T56 l0_4 x3_2).f1)) ∧ w'.cell? (ad504.add (((ji22)).toNat * 2)) = some (.int .i64 ((rd_T56 l0_4 (ji22)).f0)) ∧ w'.cell? ⟨(ad504.add (((ji22)).toNat * 2)).block, (ad504.add (((ji22)).toNat * 2)).off + 1, none⟩ = some (.int .i64 ((rd_T56 l0_4 (ji22)).f1))) (ds := []) #[false, false, false, false, false, false, false, false, false, false, false, false, false, false, false, false, false, false, false, false, false, false, false, false, false, false, false, false, false, false, false, false] (by kernel_rfl) rfl rfl ⟨BK501.c 0, BK501.c 1, BK501.c 2, BK501.c 3, BK501.c 4, BK505.c 0, BK505.c 1, ((HB.out.cell (World.block_lt_of_cell? w _ hw507_0)).trans hw507_0), ((HB.out.cell (World.block_lt_of_cell? w _ hw507_1)).trans hw507_1)⟩ (fun hHeld => ?_); refine with_tabW spec_TimedOk.tab7 spec_TimedOk.bits7 (fun HT_ HW_ => ?_)
               generalize w48.drew = w49 at BK501 BK505 HB hx507_0 hx507_1 hHeld ⊢
               refine pv_ (i := 0) (N := some 33) HT_.out ?_
               refine pv_ (i := 2) (N := some 35) HT_.out ?_
               refine tv9_ (i := 1) (N := some 34) HT_.out HW_.out hHeld ?_
               refine tv9_ (i := 3) (N := some 36) HT_.out HW_.out hHeld ?_
               refine ov_ (i := 4) (N := some 37) HT_.out (fun K hK => ?_)
               refine gq_ Try.func54 #[.agg #[.int .i64 a0_0, .int .i64 a0_1, .int .i64 a0_2], .int .i64 ((rd_T56 l0_4 x3_2).f0)] ?_
               with_reducible refine (spec_IsPassage.calls a0_0 a0_1 a0_2 ((rd_T56 l0_4 x3_2).f0) true _ A19.out).mono ?_
               rintro e w50 ⟨rfl, hb⟩
               refine ⟨_, rfl, ?_⟩
               replace BK501 := BK501.bb hb
               replace BK505 := BK505.bb hb
               replace HB := HB.s2 GE501 GE505 hb
               skip
               (try clear hb2)
               (try clear hk)
               (try clear hi)
               refine hK.out _ _ ⟨BK501.c 0, BK501.c 1, BK501.c 2, BK501.c 3, BK501.c 4, BK505.c 0, BK505.c 1, ((HB.out.cell (World.block_lt_of_cell? w _ hw507_0)).trans hw507_0), ((HB.out.cell (World.block_lt_of_cell? w _ hw507_1)).trans hw507_1)⟩ (fun hHeld => ?_)
               clear hK K
               refine nm_ ?_
               refine pv_ (i := 5) (N := some 38) HT_.out ?_
               refine pv_ (i := 6) (N := some 39) HT_.out ?_
               refine pv_ (i := 7) (N := some 40) HT_.out ?_
               refine pv_ (i := 8) (N := some 41) HT_.out ?_
               refine pv_ (i := 9) (N := some 42) HT_.out ?_
               refine pv_ (i := 10) (N := some 43) HT_.out ?_
               refine pv_ (i := 12) (N := some 45) HT_.out ?_
               refine pv_ (i := 14) (N := some 47) HT_.out ?_
               refine pv_ (i := 15) (N := some 48) HT_.out ?_
               refine tv9_ (i := 11) (N := some 44) HT_.out HW_.out hHeld ?_
               refine tv9_ (i := 13) (N := some 46) HT_.out HW_.out hHeld ?_
               refine pv_ (i := 16) (N := some 49) HT_.out ?_
               refine pv_ (i := 17) (N := some 50) HT_.out ?_
               refine tv9_ (i := 18) (N := some 51) HT_.out HW_.out hHeld ?_
               refine pv_ (i := 19) (N := some 52) HT_.out ?_
               refine pv_ (i := 20) (N := some 53) HT_.out ?_
               refine pv_ (i := 21) (N := some 54) HT_.out ?_
               refine pv_ (i := 22) (N := some 55) HT_.out ?_
               refine pv_ (i := 23) (N := some 56) HT_.out ?_
               refine pv_ (i := 25) (N := some 58) HT_.out ?_
               refine tv9_ (i := 24) (N := some 57) HT_.out HW_.out hHeld ?_
               refine tv9_ (i := 26) (N := some 59) HT_.out HW_.out hHeld ?_
               refine pv_ (i := 27) (N := some 60) HT_.out ?_
               refine pv_ (i := 28) (N := some 61) HT_.out ?_
               refine ov_ (i := 29) (N := some 62) HT_.out (fun K hK => ?_)
               refine goes_ Try.func31 (by kernel_rfl) rfl #[.int .i64 ((rd_T56 l0_4 x3_2).f1), .int .i64 0, .int .i64 (wrap64 ((ji34) - 1))] (by rfl) rfl rfl (by (try simp only [List.map_toArray, List.map_cons, List.map_nil]); first | done | (simp only [hji34]; rfl) | rfl | (simp only [List.length_drop, List.length_take]; rfl)) ?_
               with_reducible refine (spec_l01In.calls ((rd_T56 l0_4 x3_2).f1) 0 (wrap64 ((ji34) - 1)) false _ A35.out).mono ?_
               rintro e w' ⟨rfl, ⟨nd, rfl⟩⟩
               refine ⟨_, rfl, ?_⟩
               refine hK.out _ _ ⟨BK501.c 0, BK501.c 1, BK501.c 2, BK501.c 3, BK501.c 4, BK505.c 0, BK505.c 1, ((HB.out.cell (World.block_lt_of_cell? w _ hw507_0)).trans hw507_0), ((HB.out.cell (World.block_lt_of_cell? w _ hw507_1)).trans hw507_1)⟩ (fun hHeld => ?_)
               clear hK K
               refine nm_ ?_
               refine pv_ (i := 30) (N := some 63) HT_.out ?_
               refine pv_ (i := 31) (N := some 64) HT_.out ?_
               refine done_ (done_of HT_.out (by kernel_rfl)) ?_
               try go_wp2
               go_ret
               exact ⟨by first | rfl | (simp [errW_none, errW_some] <;> rfl) | (simp only [← hji22, ← hji34]; first | rfl | (simp [errW_none, errW_some] <;> rfl)) | (simp [*, errW_none, errW_some] <;> rfl), hb2_ HB.out GE501.out GE505.out⟩
             ·rw [if_neg c33] at H
              exact absurd H (by simp)
           ·rw [if_neg c24] at H
            exact absurd H (by simp)
          ·rw [if_neg c23] at H
           exact absurd H (by simp)
         ·rw [if_neg c21] at H
          have c21b0 : decide (0 < x3_2) = false := decide_eq_false c21
          clear c21
          by_cases c51 : 0 ≤ a0_3
          ·rw [if_pos c51] at H
           have c51b0 := eq_true c51
           have c51b1 : decide (0 ≤ a0_3) = true := decide_eq_true c51
           clear c51
           obtain ⟨ji52, hji52⟩ : ∃ j_ : Int, (shl .i64 1 a0_3) = j_ := ⟨_, rfl⟩
           replace H : ((spec_l01In.f ((rd_T56 l0_4 x3_2).f1) 0 (wrap64 ((ji52) - 1))).bind fun t509 => (if t509 = true then (spec_TimedOk.l0 k2 (wrap64 (x3_2 + 1)) a0_0 a0_1 a0_2 a0_3 l0_4) else (some false))) = some r := by first | (rw [hji52] at H; exact H) | (simp only [hji52] at H ⊢; exact H)
           (try rw [hji52] at A19)
           have hji52_ : (IntKind.i64.wrap (1 * 2 ^ min a0_3.toNat 64)) = ji52 := hji52
           have hji52z : a0_3 ≤ 64 → (IntKind.i64.wrap (1 * 2 ^ a0_3.toNat)) = ji52 := shl_small hji52
           have hji52u : (IntKind.i64.wrap (2 ^ min a0_3.toNat 64)) = ji52 := by have h_ := hji52_; rw [Int.one_mul] at h_; exact h_
           have hji52v : a0_3 ≤ 64 → (IntKind.i64.wrap (2 ^ a0_3.toNat)) = ji52 := fun hle_ => by have h_ := hji52z hle_; rw [Int.one_mul] at h_; exact h_
           have hji52y : (wrap64 (1 * 2 ^ min a0_3.toNat 64)) = ji52 := (i64_w _).symm.trans hji52_
           have hji52x : a0_3 ≤ 64 → (wrap64 (1 * 2 ^ a0_3.toNat)) = ji52 := fun h_ => (i64_w _).symm.trans (hji52z h_)
           replace H := Option.bind_eq_some_iff.mp H
           obtain ⟨t509, A530, H⟩ := H
           replace H : (if t509 = true then (spec_TimedOk.l0 k2 (wrap64 (x3_2 + 1)) a0_0 a0_1 a0_2 a0_3 l0_4) else (some false)) = some r := H
           have A53 := Aside0.mk A530
           clear A530
           by_cases c54 : t509 = true
           ·subst c54
            have H1 : (spec_TimedOk.l0 k2 (wrap64 (x3_2 + 1)) a0_0 a0_1 a0_2 a0_3 l0_4) = some r := by rw [if_pos rfl] at H; exact H
            clear H
            have H := H1
            clear H1
            have H' := Aside0.mk H
            clear H
            obtain ⟨hcz55_0, hcz55_1, hcz55_2, hcz55_3, hcz55_4⟩ := cz5_ BK501.out
            obtain ⟨hfz55_0, hfz55_1, hfz55_2, hfz55_3, hfz55_4⟩ := fz5_ BK501.out
            have p504 : 0 ≤ (x3_2 : Int) := of_decide_eq_true (as_)
            have q504 : x3_2 < (l0_4.length : Int) := of_decide_eq_true (as_)
            obtain ⟨ad504, e504, hx504_0, hx504_1⟩ := at_T56 HR0_4.out x3_2 p504 q504
            cases e504
            replace hx504_0 := (HB.out.cell (World.block_lt_of_cell? w _ hx504_0)).trans hx504_0
            replace hx504_1 := (HB.out.cell (World.block_lt_of_cell? w _ hx504_1)).trans hx504_1
            replace p504 := eq_true p504
            replace q504 := eq_true q504
            try go_wp2_with (first | ((with_reducible refine gate_dst (N := 4) rfl ?_); (try (refine gate_guard (by rfl) ?_; dsimp only)); refine box_event ?hg (N := 4) ?hd (cs := #[.int .i64 0, .int .i64 0]) (t := 56) ?hr ?_; (case hd => rfl); (case hg => rfl); (case hr => first | (go_simp; done) | (go_simp; rfl)); intro gb505 hg w56 hbox hb; have BK505 := Aside0.mk (hbox); have GW505 := HB.g1 GE501 hg; have GE505 := HB.g1 GE501 hg; replace HB := HB.s1 GE501 hb; have NB501_505 := BK501.nl hg; have NB505_501 := BK501.nr hg; replace BK501 := BK501.bb hb; clear hb hbox hg; have hnb57 := NB505_501.out; have hnc57 := NB501_505.out; obtain ⟨hcz58_0, hcz58_1⟩ := cz2_ BK505.out; obtain ⟨hfz58_0, hfz58_1⟩ := fz2_ BK505.out))
            have n0_ : Aside0 (((w56.setCell ⟨gb505, 0, none⟩ (.int .i64 ((rd_T56 l0_4 x3_2).f0))).setCell ⟨gb505, 1, none⟩ (.int .i64 ((rd_T56 l0_4 x3_2).f1))).heap[gb501]? = some (.cells #[.int .i64 a0_0, .int .i64 a0_1, .int .i64 a0_2, .int .i64 a0_3, .slice (some ad504) l0_4.length c0_4] 36 (0, 0))) := ⟨by (with_reducible repeat (first | refine blk_drewN ?_ _ | refine blk_drew ?_ | refine blk_alloc ?_ _)); refine blk_far ?_ NB501_505.out _; (with_reducible repeat (first | refine blk_drewN ?_ _ | refine blk_drew ?_ | refine blk_alloc ?_ _)); refine blk_far ?_ NB501_505.out _; (with_reducible repeat (first | refine blk_drewN ?_ _ | refine blk_drew ?_ | refine blk_alloc ?_ _)); exact BK501.out⟩
            have n1_ : Aside0 (((w56.setCell ⟨gb505, 0, none⟩ (.int .i64 ((rd_T56 l0_4 x3_2).f0))).setCell ⟨gb505, 1, none⟩ (.int .i64 ((rd_T56 l0_4 x3_2).f1))).heap[gb505]? = some (.cells #[.int .i64 ((rd_T56 l0_4 x3_2).f0), .int .i64 ((rd_T56 l0_4 x3_2).f1)] 56 (0, 0))) := ⟨bq2_ BK505.out⟩
            have n2_ : Aside0 (Below w.heap.size w ((w56.setCell ⟨gb505, 0, none⟩ (.int .i64 ((rd_T56 l0_4 x3_2).f0))).setCell ⟨gb505, 1, none⟩ (.int .i64 ((rd_T56 l0_4 x3_2).f1)))) := ⟨hb2_ HB.out GE501.out GE505.out⟩
            (try clear BK501)
            (try clear BK505)
            (try clear HB)
            generalize ((w56.setCell ⟨gb505, 0, none⟩ (.int .i64 ((rd_T56 l0_4 x3_2).f0))).setCell ⟨gb505, 1, none⟩ (.int .i64 ((rd_T56 l0_4 x3_2).f1))) = w59 at n0_ n1_ n2_ ⊢
            have BK501 := n0_
            have BK505 := n1_
            have HB := n2_
            clear n0_ n1_ n2_
            replace BK501 := Aside0.mk (blk_drew BK501.out)
            replace BK505 := Aside0.mk (blk_drew BK505.out)
            replace HB := Aside0.mk (below_drew1 HB.out)
            refine start_ (n := 32) (S := fun w' => w'.cell? ⟨gb501, 0, none⟩ = some (.int .i64 a0_0) ∧ w'.cell? ⟨gb501, 1, none⟩ = some (.int .i64 a0_1) ∧ w'.cell? ⟨gb501, 2, none⟩ = some (.int .i64 a0_2) ∧ w'.cell? ⟨gb501, 3, none⟩ = some (.int .i64 a0_3) ∧ w'.cell? ⟨gb501, 4, none⟩ = some (.slice (some ad504) l0_4.length c0_4) ∧ w'.cell? ⟨gb505, 0, none⟩ = some (.int .i64 ((rd_T56 l0_4 x3_2).f0)) ∧ w'.cell? ⟨gb505, 1, none⟩ = some (.int .i64 ((rd_T56 l0_4 x3_2).f1))) (ds := []) #[false, false, false, false, false, false, false, false, false, false, false, false, false, false, false, false, false, false, false, false, false, false, false, false, false, false, false, false, false, false, false, false] (by kernel_rfl) rfl rfl ⟨BK501.c 0, BK501.c 1, BK501.c 2, BK501.c 3, BK501.c 4, BK505.c 0, BK505.c 1⟩ (fun hHeld => ?_); refine with_tabW spec_TimedOk.tab7 spec_TimedOk.bits7 (fun HT_ HW_ => ?_)
            generalize w59.drew = w60 at BK501 BK505 HB hHeld ⊢
            refine pv_ (i := 0) (N := some 33) HT_.out ?_
            refine pv_ (i := 2) (N := some 35) HT_.out ?_
            refine tv7_ (i := 1) (N := some 34) HT_.out HW_.out hHeld ?_
            refine tv7_ (i := 3) (N := some 36) HT_.out HW_.out hHeld ?_
            refine ov_ (i := 4) (N := some 37) HT_.out (fun K hK => ?_)
            refine gq_ Try.func54 #[.agg #[.int .i64 a0_0, .int .i64 a0_1, .int .i64 a0_2], .int .i64 ((rd_T56 l0_4 x3_2).f0)] ?_
            with_reducible refine (spec_IsPassage.calls a0_0 a0_1 a0_2 ((rd_T56 l0_4 x3_2).f0) true _ A19.out).mono ?_
            rintro e w61 ⟨rfl, hb⟩
            refine ⟨_, rfl, ?_⟩
            replace BK501 := BK501.bb hb
            replace BK505 := BK505.bb hb
            replace HB := HB.s2 GE501 GE505 hb
            skip
            (try clear hb2)
            (try clear hk)
            (try clear hi)
            refine hK.out _ _ ⟨BK501.c 0, BK501.c 1, BK501.c 2, BK501.c 3, BK501.c 4, BK505.c 0, BK505.c 1⟩ (fun hHeld => ?_)
            clear hK K
            refine nm_ ?_
            refine pv_ (i := 5) (N := some 38) HT_.out ?_
            refine pv_ (i := 6) (N := some 39) HT_.out ?_
            refine pv_ (i := 7) (N := some 40) HT_.out ?_
            refine pv_ (i := 8) (N := some 41) HT_.out ?_
            refine pv_ (i := 9) (N := some 42) HT_.out ?_
            refine pu_ (i := 10) (N := some 43) HT_.out ?_
            refine pu_ (i := 11) (N := some 44) HT_.out ?_
            refine pu_ (i := 12) (N := some 45) HT_.out ?_
            refine pu_ (i := 13) (N := some 46) HT_.out ?_
            refine pu_ (i := 14) (N := some 47) HT_.out ?_
            refine pu_ (i := 15) (N := some 48) HT_.out ?_
            refine pu_ (i := 16) (N := some 49) HT_.out ?_
            refine pu_ (i := 17) (N := some 50) HT_.out ?_
            refine pu_ (i := 18) (N := some 51) HT_.out ?_
            refine pu_ (i := 19) (N := some 52) HT_.out ?_
            refine pv_ (i := 20) (N := some 53) HT_.out ?_
            refine pv_ (i := 21) (N := some 54) HT_.out ?_
            refine pv_ (i := 22) (N := some 55) HT_.out ?_
            refine pv_ (i := 23) (N := some 56) HT_.out ?_
            refine pv_ (i := 25) (N := some 58) HT_.out ?_
            refine tv7_ (i := 24) (N := some 57) HT_.out HW_.out hHeld ?_
            refine tv7_ (i := 26) (N := some 59) HT_.out HW_.out hHeld ?_
            refine pv_ (i := 27) (N := some 60) HT_.out ?_
            refine pv_ (i := 28) (N := some 61) HT_.out ?_
            refine ov_ (i := 29) (N := some 62) HT_.out (fun K hK => ?_)
            refine goes_ Try.func31 (by kernel_rfl) rfl #[.int .i64 ((rd_T56 l0_4 x3_2).f1), .int .i64 0, .int .i64 (wrap64 ((ji52) - 1))] (by rfl) rfl rfl (by (try simp only [List.map_toArray, List.map_cons, List.map_nil]); first | done | (simp only [hji52]; rfl) | rfl | (simp only [List.length_drop, List.length_take]; rfl)) ?_
            with_reducible refine (spec_l01In.calls ((rd_T56 l0_4 x3_2).f1) 0 (wrap64 ((ji52) - 1)) true _ A53.out).mono ?_
            rintro e w' ⟨rfl, ⟨nd, rfl⟩⟩
            refine ⟨_, rfl, ?_⟩
            refine hK.out _ _ ⟨BK501.c 0, BK501.c 1, BK501.c 2, BK501.c 3, BK501.c 4, BK505.c 0, BK505.c 1⟩ (fun hHeld => ?_)
            clear hK K
            refine nm_ ?_
            refine pv_ (i := 30) (N := some 63) HT_.out ?_
            refine pv_ (i := 31) (N := some 64) HT_.out ?_
            refine done_ (done_of HT_.out (by kernel_rfl)) ?_
            try go_wp2
            go_roundg k2
            case measure => have := HJ1.out; have := HK2.out; omega
            case rel => exact ⟨(wrap64 (x3_2 + 1)), (by first | rfl | (simp; done) | (simp [*]; done)), H', ⟨by have := HJ1.out; have := HK2.out; omega⟩, ⟨bk_ BK501.out⟩, ⟨hb2_ HB.out GE501.out GE505.out⟩⟩
           ·replace c54 := Bool.eq_false_iff.mpr c54
            subst c54
            have H1 : (some false) = some r := by rw [if_neg (show ¬ (false = true) by decide)] at H; exact H
            clear H
            have H := H1
            clear H1
            obtain rfl := Option.some.inj H
            obtain ⟨hcz62_0, hcz62_1, hcz62_2, hcz62_3, hcz62_4⟩ := cz5_ BK501.out
            obtain ⟨hfz62_0, hfz62_1, hfz62_2, hfz62_3, hfz62_4⟩ := fz5_ BK501.out
            have p504 : 0 ≤ (x3_2 : Int) := of_decide_eq_true (as_)
            have q504 : x3_2 < (l0_4.length : Int) := of_decide_eq_true (as_)
            obtain ⟨ad504, e504, hx504_0, hx504_1⟩ := at_T56 HR0_4.out x3_2 p504 q504
            cases e504
            replace hx504_0 := (HB.out.cell (World.block_lt_of_cell? w _ hx504_0)).trans hx504_0
            replace hx504_1 := (HB.out.cell (World.block_lt_of_cell? w _ hx504_1)).trans hx504_1
            replace p504 := eq_true p504
            replace q504 := eq_true q504
            try go_wp2_with (first | ((with_reducible refine gate_dst (N := 4) rfl ?_); (try (refine gate_guard (by rfl) ?_; dsimp only)); refine box_event ?hg (N := 4) ?hd (cs := #[.int .i64 0, .int .i64 0]) (t := 56) ?hr ?_; (case hd => rfl); (case hg => rfl); (case hr => first | (go_simp; done) | (go_simp; rfl)); intro gb505 hg w63 hbox hb; have BK505 := Aside0.mk (hbox); have GW505 := HB.g1 GE501 hg; have GE505 := HB.g1 GE501 hg; replace HB := HB.s1 GE501 hb; have NB501_505 := BK501.nl hg; have NB505_501 := BK501.nr hg; replace BK501 := BK501.bb hb; clear hb hbox hg; have hnb64 := NB505_501.out; have hnc64 := NB501_505.out; obtain ⟨hcz65_0, hcz65_1⟩ := cz2_ BK505.out; obtain ⟨hfz65_0, hfz65_1⟩ := fz2_ BK505.out))
            have n0_ : Aside0 (((w63.setCell ⟨gb505, 0, none⟩ (.int .i64 ((rd_T56 l0_4 x3_2).f0))).setCell ⟨gb505, 1, none⟩ (.int .i64 ((rd_T56 l0_4 x3_2).f1))).heap[gb501]? = some (.cells #[.int .i64 a0_0, .int .i64 a0_1, .int .i64 a0_2, .int .i64 a0_3, .slice (some ad504) l0_4.length c0_4] 36 (0, 0))) := ⟨by (with_reducible repeat (first | refine blk_drewN ?_ _ | refine blk_drew ?_ | refine blk_alloc ?_ _)); refine blk_far ?_ NB501_505.out _; (with_reducible repeat (first | refine blk_drewN ?_ _ | refine blk_drew ?_ | refine blk_alloc ?_ _)); refine blk_far ?_ NB501_505.out _; (with_reducible repeat (first | refine blk_drewN ?_ _ | refine blk_drew ?_ | refine blk_alloc ?_ _)); exact BK501.out⟩
            have n1_ : Aside0 (((w63.setCell ⟨gb505, 0, none⟩ (.int .i64 ((rd_T56 l0_4 x3_2).f0))).setCell ⟨gb505, 1, none⟩ (.int .i64 ((rd_T56 l0_4 x3_2).f1))).heap[gb505]? = some (.cells #[.int .i64 ((rd_T56 l0_4 x3_2).f0), .int .i64 ((rd_T56 l0_4 x3_2).f1)] 56 (0, 0))) := ⟨bq2_ BK505.out⟩
            have n2_ : Aside0 (Below w.heap.size w ((w63.setCell ⟨gb505, 0, none⟩ (.int .i64 ((rd_T56 l0_4 x3_2).f0))).setCell ⟨gb505, 1, none⟩ (.int .i64 ((rd_T56 l0_4 x3_2).f1)))) := ⟨hb2_ HB.out GE501.out GE505.out⟩
            (try clear BK501)
            (try clear BK505)
            (try clear HB)
            generalize ((w63.setCell ⟨gb505, 0, none⟩ (.int .i64 ((rd_T56 l0_4 x3_2).f0))).setCell ⟨gb505, 1, none⟩ (.int .i64 ((rd_T56 l0_4 x3_2).f1))) = w66 at n0_ n1_ n2_ ⊢
            have BK501 := n0_
            have BK505 := n1_
            have HB := n2_
            clear n0_ n1_ n2_
            replace BK501 := Aside0.mk (blk_drew BK501.out)
            replace BK505 := Aside0.mk (blk_drew BK505.out)
            replace HB := Aside0.mk (below_drew1 HB.out)
            refine start_ (n := 32) (S := fun w' => w'.cell? ⟨gb501, 0, none⟩ = some (.int .i64 a0_0) ∧ w'.cell? ⟨gb501, 1, none⟩ = some (.int .i64 a0_1) ∧ w'.cell? ⟨gb501, 2, none⟩ = some (.int .i64 a0_2) ∧ w'.cell? ⟨gb501, 3, none⟩ = some (.int .i64 a0_3) ∧ w'.cell? ⟨gb501, 4, none⟩ = some (.slice (some ad504) l0_4.length c0_4) ∧ w'.cell? ⟨gb505, 0, none⟩ = some (.int .i64 ((rd_T56 l0_4 x3_2).f0)) ∧ w'.cell? ⟨gb505, 1, none⟩ = some (.int .i64 ((rd_T56 l0_4 x3_2).f1))) (ds := []) #[false, false, false, false, false, false, false, false, false, false, false, false, false, false, false, false, false, false, false, false, false, false, false, false, false, false, false, false, false, false, false, false] (by kernel_rfl) rfl rfl ⟨BK501.c 0, BK501.c 1, BK501.c 2, BK501.c 3, BK501.c 4, BK505.c 0, BK505.c 1⟩ (fun hHeld => ?_); refine with_tabW spec_TimedOk.tab7 spec_TimedOk.bits7 (fun HT_ HW_ => ?_)
            generalize w66.drew = w67 at BK501 BK505 HB hHeld ⊢
            refine pv_ (i := 0) (N := some 33) HT_.out ?_
            refine pv_ (i := 2) (N := some 35) HT_.out ?_
            refine tv7_ (i := 1) (N := some 34) HT_.out HW_.out hHeld ?_
            refine tv7_ (i := 3) (N := some 36) HT_.out HW_.out hHeld ?_
            refine ov_ (i := 4) (N := some 37) HT_.out (fun K hK => ?_)
            refine gq_ Try.func54 #[.agg #[.int .i64 a0_0, .int .i64 a0_1, .int .i64 a0_2], .int .i64 ((rd_T56 l0_4 x3_2).f0)] ?_
            with_reducible refine (spec_IsPassage.calls a0_0 a0_1 a0_2 ((rd_T56 l0_4 x3_2).f0) true _ A19.out).mono ?_
            rintro e w68 ⟨rfl, hb⟩
            refine ⟨_, rfl, ?_⟩
            replace BK501 := BK501.bb hb
            replace BK505 := BK505.bb hb
            replace HB := HB.s2 GE501 GE505 hb
            skip
            (try clear hb2)
            (try clear hk)
            (try clear hi)
            refine hK.out _ _ ⟨BK501.c 0, BK501.c 1, BK501.c 2, BK501.c 3, BK501.c 4, BK505.c 0, BK505.c 1⟩ (fun hHeld => ?_)
            clear hK K
            refine nm_ ?_
            refine pv_ (i := 5) (N := some 38) HT_.out ?_
            refine pv_ (i := 6) (N := some 39) HT_.out ?_
            refine pv_ (i := 7) (N := some 40) HT_.out ?_
            refine pv_ (i := 8) (N := some 41) HT_.out ?_
            refine pv_ (i := 9) (N := some 42) HT_.out ?_
            refine pu_ (i := 10) (N := some 43) HT_.out ?_
            refine pu_ (i := 11) (N := some 44) HT_.out ?_
            refine pu_ (i := 12) (N := some 45) HT_.out ?_
            refine pu_ (i := 13) (N := some 46) HT_.out ?_
            refine pu_ (i := 14) (N := some 47) HT_.out ?_
            refine pu_ (i := 15) (N := some 48) HT_.out ?_
            refine pu_ (i := 16) (N := some 49) HT_.out ?_
            refine pu_ (i := 17) (N := some 50) HT_.out ?_
            refine pu_ (i := 18) (N := some 51) HT_.out ?_
            refine pu_ (i := 19) (N := some 52) HT_.out ?_
            refine pv_ (i := 20) (N := some 53) HT_.out ?_
            refine pv_ (i := 21) (N := some 54) HT_.out ?_
            refine pv_ (i := 22) (N := some 55) HT_.out ?_
            refine pv_ (i := 23) (N := some 56) HT_.out ?_
            refine pv_ (i := 25) (N := some 58) HT_.out ?_
            refine tv7_ (i := 24) (N := some 57) HT_.out HW_.out hHeld ?_
            refine tv7_ (i := 26) (N := some 59) HT_.out HW_.out hHeld ?_
            refine pv_ (i := 27) (N := some 60) HT_.out ?_
            refine pv_ (i := 28) (N := some 61) HT_.out ?_
            refine ov_ (i := 29) (N := some 62) HT_.out (fun K hK => ?_)
            refine goes_ Try.func31 (by kernel_rfl) rfl #[.int .i64 ((rd_T56 l0_4 x3_2).f1), .int .i64 0, .int .i64 (wrap64 ((ji52) - 1))] (by rfl) rfl rfl (by (try simp only [List.map_toArray, List.map_cons, List.map_nil]); first | done | (simp only [hji52]; rfl) | rfl | (simp only [List.length_drop, List.length_take]; rfl)) ?_
            with_reducible refine (spec_l01In.calls ((rd_T56 l0_4 x3_2).f1) 0 (wrap64 ((ji52) - 1)) false _ A53.out).mono ?_
            rintro e w' ⟨rfl, ⟨nd, rfl⟩⟩
            refine ⟨_, rfl, ?_⟩
            refine hK.out _ _ ⟨BK501.c 0, BK501.c 1, BK501.c 2, BK501.c 3, BK501.c 4, BK505.c 0, BK505.c 1⟩ (fun hHeld => ?_)
            clear hK K
            refine nm_ ?_
            refine pv_ (i := 30) (N := some 63) HT_.out ?_
            refine pv_ (i := 31) (N := some 64) HT_.out ?_
            refine done_ (done_of HT_.out (by kernel_rfl)) ?_
            try go_wp2
            go_ret
            exact ⟨by first | rfl | (simp [errW_none, errW_some] <;> rfl) | (simp only [← hji52]; first | rfl | (simp [errW_none, errW_some] <;> rfl)) | (simp [*, errW_none, errW_some] <;> rfl), hb2_ HB.out GE501.out GE505.out⟩
          ·rw [if_neg c51] at H
           exact absurd H (by simp)
        ·replace c20 := Bool.eq_false_iff.mpr c20
         subst c20
         have H1 : (some false) = some r := by rw [if_neg (show ¬ (false = true) by decide)] at H; exact H
         clear H
         have H := H1
         clear H1
         obtain rfl := Option.some.inj H
         obtain ⟨hcz69_0, hcz69_1, hcz69_2, hcz69_3, hcz69_4⟩ := cz5_ BK501.out
         obtain ⟨hfz69_0, hfz69_1, hfz69_2, hfz69_3, hfz69_4⟩ := fz5_ BK501.out
         have p504 : 0 ≤ (x3_2 : Int) := of_decide_eq_true (as_)
         have q504 : x3_2 < (l0_4.length : Int) := of_decide_eq_true (as_)
         obtain ⟨ad504, e504, hx504_0, hx504_1⟩ := at_T56 HR0_4.out x3_2 p504 q504
         cases e504
         replace hx504_0 := (HB.out.cell (World.block_lt_of_cell? w _ hx504_0)).trans hx504_0
         replace hx504_1 := (HB.out.cell (World.block_lt_of_cell? w _ hx504_1)).trans hx504_1
         replace p504 := eq_true p504
         replace q504 := eq_true q504
         try go_wp2_with (first | ((with_reducible refine gate_dst (N := 4) rfl ?_); (try (refine gate_guard (by rfl) ?_; dsimp only)); refine box_event ?hg (N := 4) ?hd (cs := #[.int .i64 0, .int .i64 0]) (t := 56) ?hr ?_; (case hd => rfl); (case hg => rfl); (case hr => first | (go_simp; done) | (go_simp; rfl)); intro gb505 hg w70 hbox hb; have BK505 := Aside0.mk (hbox); have GW505 := HB.g1 GE501 hg; have GE505 := HB.g1 GE501 hg; replace HB := HB.s1 GE501 hb; have NB501_505 := BK501.nl hg; have NB505_501 := BK501.nr hg; replace BK501 := BK501.bb hb; clear hb hbox hg; have hnb71 := NB505_501.out; have hnc71 := NB501_505.out; obtain ⟨hcz72_0, hcz72_1⟩ := cz2_ BK505.out; obtain ⟨hfz72_0, hfz72_1⟩ := fz2_ BK505.out))
         have n0_ : Aside0 (((w70.setCell ⟨gb505, 0, none⟩ (.int .i64 ((rd_T56 l0_4 x3_2).f0))).setCell ⟨gb505, 1, none⟩ (.int .i64 ((rd_T56 l0_4 x3_2).f1))).heap[gb501]? = some (.cells #[.int .i64 a0_0, .int .i64 a0_1, .int .i64 a0_2, .int .i64 a0_3, .slice (some ad504) l0_4.length c0_4] 36 (0, 0))) := ⟨by (with_reducible repeat (first | refine blk_drewN ?_ _ | refine blk_drew ?_ | refine blk_alloc ?_ _)); refine blk_far ?_ NB501_505.out _; (with_reducible repeat (first | refine blk_drewN ?_ _ | refine blk_drew ?_ | refine blk_alloc ?_ _)); refine blk_far ?_ NB501_505.out _; (with_reducible repeat (first | refine blk_drewN ?_ _ | refine blk_drew ?_ | refine blk_alloc ?_ _)); exact BK501.out⟩
         have n1_ : Aside0 (((w70.setCell ⟨gb505, 0, none⟩ (.int .i64 ((rd_T56 l0_4 x3_2).f0))).setCell ⟨gb505, 1, none⟩ (.int .i64 ((rd_T56 l0_4 x3_2).f1))).heap[gb505]? = some (.cells #[.int .i64 ((rd_T56 l0_4 x3_2).f0), .int .i64 ((rd_T56 l0_4 x3_2).f1)] 56 (0, 0))) := ⟨bq2_ BK505.out⟩
         have n2_ : Aside0 (Below w.heap.size w ((w70.setCell ⟨gb505, 0, none⟩ (.int .i64 ((rd_T56 l0_4 x3_2).f0))).setCell ⟨gb505, 1, none⟩ (.int .i64 ((rd_T56 l0_4 x3_2).f1)))) := ⟨hb2_ HB.out GE501.out GE505.out⟩
         (try clear BK501)
         (try clear BK505)
         (try clear HB)
         generalize ((w70.setCell ⟨gb505, 0, none⟩ (.int .i64 ((rd_T56 l0_4 x3_2).f0))).setCell ⟨gb505, 1, none⟩ (.int .i64 ((rd_T56 l0_4 x3_2).f1))) = w73 at n0_ n1_ n2_ ⊢
         have BK501 := n0_
         have BK505 := n1_
         have HB := n2_
         clear n0_ n1_ n2_
         replace BK501 := Aside0.mk (blk_drew BK501.out)
         replace BK505 := Aside0.mk (blk_drew BK505.out)
         replace HB := Aside0.mk (below_drew1 HB.out)
         refine start_ (n := 32) (S := fun w' => w'.cell? ⟨gb501, 0, none⟩ = some (.int .i64 a0_0) ∧ w'.cell? ⟨gb501, 1, none⟩ = some (.int .i64 a0_1) ∧ w'.cell? ⟨gb501, 2, none⟩ = some (.int .i64 a0_2) ∧ w'.cell? ⟨gb501, 3, none⟩ = some (.int .i64 a0_3) ∧ w'.cell? ⟨gb501, 4, none⟩ = some (.slice (some ad504) l0_4.length c0_4) ∧ w'.cell? ⟨gb505, 0, none⟩ = some (.int .i64 ((rd_T56 l0_4 x3_2).f0)) ∧ w'.cell? ⟨gb505, 1, none⟩ = some (.int .i64 ((rd_T56 l0_4 x3_2).f1))) (ds := []) #[false, false, false, false, false, false, false, false, false, false, false, false, false, false, false, false, false, false, false, false, false, false, false, false, false, false, false, false, false, false, false, false] (by kernel_rfl) rfl rfl ⟨BK501.c 0, BK501.c 1, BK501.c 2, BK501.c 3, BK501.c 4, BK505.c 0, BK505.c 1⟩ (fun hHeld => ?_); refine with_tabW spec_TimedOk.tab7 spec_TimedOk.bits7 (fun HT_ HW_ => ?_)
         generalize w73.drew = w74 at BK501 BK505 HB hHeld ⊢
         refine pv_ (i := 0) (N := some 33) HT_.out ?_
         refine pv_ (i := 2) (N := some 35) HT_.out ?_
         refine tv7_ (i := 1) (N := some 34) HT_.out HW_.out hHeld ?_
         refine tv7_ (i := 3) (N := some 36) HT_.out HW_.out hHeld ?_
         refine ov_ (i := 4) (N := some 37) HT_.out (fun K hK => ?_)
         refine gq_ Try.func54 #[.agg #[.int .i64 a0_0, .int .i64 a0_1, .int .i64 a0_2], .int .i64 ((rd_T56 l0_4 x3_2).f0)] ?_
         with_reducible refine (spec_IsPassage.calls a0_0 a0_1 a0_2 ((rd_T56 l0_4 x3_2).f0) false _ A19.out).mono ?_
         rintro e w75 ⟨rfl, hb⟩
         refine ⟨_, rfl, ?_⟩
         replace BK501 := BK501.bb hb
         replace BK505 := BK505.bb hb
         replace HB := HB.s2 GE501 GE505 hb
         skip
         (try clear hb2)
         (try clear hk)
         (try clear hi)
         refine hK.out _ _ ⟨BK501.c 0, BK501.c 1, BK501.c 2, BK501.c 3, BK501.c 4, BK505.c 0, BK505.c 1⟩ (fun hHeld => ?_)
         clear hK K
         refine nm_ ?_
         refine pv_ (i := 5) (N := some 38) HT_.out ?_
         refine pv_ (i := 6) (N := some 39) HT_.out ?_
         refine pu_ (i := 7) (N := some 40) HT_.out ?_
         refine pu_ (i := 8) (N := some 41) HT_.out ?_
         refine pu_ (i := 9) (N := some 42) HT_.out ?_
         refine pu_ (i := 10) (N := some 43) HT_.out ?_
         refine pu_ (i := 11) (N := some 44) HT_.out ?_
         refine pu_ (i := 12) (N := some 45) HT_.out ?_
         refine pu_ (i := 13) (N := some 46) HT_.out ?_
         refine pu_ (i := 14) (N := some 47) HT_.out ?_
         refine pu_ (i := 15) (N := some 48) HT_.out ?_
         refine pu_ (i := 16) (N := some 49) HT_.out ?_
         refine pu_ (i := 17) (N := some 50) HT_.out ?_
         refine pu_ (i := 18) (N := some 51) HT_.out ?_
         refine pu_ (i := 19) (N := some 52) HT_.out ?_
         refine pu_ (i := 20) (N := some 53) HT_.out ?_
         refine pv_ (i := 21) (N := some 54) HT_.out ?_
         refine pv_ (i := 22) (N := some 55) HT_.out ?_
         refine pu_ (i := 23) (N := some 56) HT_.out ?_
         refine pu_ (i := 24) (N := some 57) HT_.out ?_
         refine pu_ (i := 25) (N := some 58) HT_.out ?_
         refine pu_ (i := 26) (N := some 59) HT_.out ?_
         refine pu_ (i := 27) (N := some 60) HT_.out ?_
         refine pu_ (i := 28) (N := some 61) HT_.out ?_
         refine pu_ (i := 29) (N := some 62) HT_.out ?_
         refine pu_ (i := 30) (N := some 63) HT_.out ?_
         refine pv_ (i := 31) (N := some 64) HT_.out ?_
         refine done_ (done_of HT_.out (by kernel_rfl)) ?_
         try go_wp2
         go_ret
         exact ⟨ex_, hb2_ HB.out GE501.out GE505.out⟩
       ·rw [if_neg c18] at H
        exact absurd H (by simp)
      ·rw [if_neg c17] at H
       have c17b0 : decide (x3_2 < (l0_4.length : Int)) = false := decide_eq_false c17
       clear c17
       obtain rfl := Option.some.inj H
       obtain ⟨hcz76_0, hcz76_1, hcz76_2, hcz76_3, hcz76_4⟩ := cz5_ BK501.out
       obtain ⟨hfz76_0, hfz76_1, hfz76_2, hfz76_3, hfz76_4⟩ := fz5_ BK501.out
       go_wp2
       go_ret
       exact ⟨ex_, hb1_ HB.out GE501.out⟩

end Go.Proofs.Ytlfomjhjeknnmaa.X
