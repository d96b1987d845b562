-- Written by a program of this session (xprint.py), out of the translation and of hand-written contracts. Lean checks it.
import Derived.Test.YtnipocpbpcaepaaX0
import Derived.Test.YtnipocpbpcaepaaXcgrid
import Derived.Test.YtnipocpbpcaepaaXcnbr
namespace Go.Proofs.Ytnipocpbpcaepaa.X
open Go.RowKit Go.Proofs.YtnipocpbpcaepaaW.PrintWords Go.Proofs.YtnipocpbpcaepaaW.PrintLast Go.Proofs.YtnipocpbpcaepaaW.PrintMore
attribute [local go_sem] max2_int min2_int max_two min_two max_three min_three max_four min_four   -- for this text's walks alone
set_option linter.unusedVariables false
set_option linter.unusedSimpArgs false

/-! ### spec_ArrowsOk: function 22 -/
mutual
def spec_ArrowsOk.j0 : Nat → List (List Int) → Bool → Int → Int → Option (Bool)
 | 0, _, _, _, _ => none
 | k + 1, x1, x23, x502000, x502001 => if x23 = true then (some false) else (spec_ArrowsOk.l0 k x1 0 x502000 x502001)
def spec_ArrowsOk.l0 : Nat → List (List Int) → Int → Int → Int → Option (Bool)
 | 0, _, _, _, _ => none
 | k + 1, x1, x5, x502000, x502001 => if x5 < (x1.length : Int) then (spec_ArrowsOk.l1 k x1 x5 0 x502000 x502001) else (some true)
def spec_ArrowsOk.l1 : Nat → List (List Int) → Int → Int → Int → Int → Option (Bool)
 | 0, _, _, _, _, _ => none
 | k + 1, x1, x5, x6, x502000, x502001 => if 0 ≤ x5 then (if x5 < (x1.length : Int) then (if x6 < ((rd_L1 x1 x5).length : Int) then (if 0 ≤ x6 then ((spec_Neighbor.f k x502000 x502001 x5 (rd (rd_L1 x1 x5) x6)).bind fun t508 => (if t508 < 0 then (some false) else (if ((rd_L1 x1 x5).length : Int) > 60 then (some false) else (spec_ArrowsOk.l1 k x1 x5 (wrap64 (x6 + 1)) x502000 x502001)))) else (none)) else (spec_ArrowsOk.l0 k x1 (wrap64 (x5 + 1)) x502000 x502001)) else (none)) else (none)
end
def spec_ArrowsOk.f (k : Nat) (a0_0 : Int) (a0_1 : Int) (l1 : List (List Int)) : Option (Bool) := (spec_GridOk.f a0_0 a0_1).bind fun t502 => (if t502 = true then ((spec_CountCells.f a0_0 a0_1).bind fun t503 => (if (l1.length : Int) = t503 then (if 0 < (l1.length : Int) then (spec_ArrowsOk.j0 k l1 (decide (((rd_L1 l1 0).length : Int) > 0)) a0_0 a0_1) else (none)) else (spec_ArrowsOk.j0 k l1 true a0_0 a0_1))) else (spec_ArrowsOk.j0 k l1 true a0_0 a0_1))
theorem spec_ArrowsOk.mono_l : ∀ k, (∀ y0 y1 y2 y3, LeO (spec_ArrowsOk.j0 k y0 y1 y2 y3) (spec_ArrowsOk.j0 (k + 1) y0 y1 y2 y3)) ∧ (∀ y0 y1 y2 y3, LeO (spec_ArrowsOk.l0 k y0 y1 y2 y3) (spec_ArrowsOk.l0 (k + 1) y0 y1 y2 y3)) ∧ (∀ y0 y1 y2 y3 y4, LeO (spec_ArrowsOk.l1 k y0 y1 y2 y3 y4) (spec_ArrowsOk.l1 (k + 1) y0 y1 y2 y3 y4))
 | 0 => ⟨fun _ _ _ _ r h => by simp [spec_ArrowsOk.j0] at h, fun _ _ _ _ r h => by simp [spec_ArrowsOk.l0] at h, fun _ _ _ _ _ r h => by simp [spec_ArrowsOk.l1] at h⟩
 | k + 1 => by
  obtain ⟨ih0, ih1, ih2⟩ := spec_ArrowsOk.mono_l k
  refine ⟨?_, ?_, ?_⟩
  ·intro y0 y1 y2 y3
   unfold spec_ArrowsOk.j0
   repeat' first
   | (with_reducible exact ih0 ..)
   | (with_reducible exact ih1 ..)
   | (with_reducible exact ih2 ..)
   | (with_reducible exact spec_Neighbor.mono ..)
   | (with_reducible first | exact lr_ _ | exact ln_ _ | refine li_ ?_ ?_ | refine lb_ ?_ fun _ => ?_)
   | exact ih0 ..
   | exact ih1 ..
   | exact ih2 ..
   | exact spec_Neighbor.mono ..
   | exact ln_ _ | refine li_ ?_ ?_ | refine lb_ ?_ fun _ => ?_
  ·intro y0 y1 y2 y3
   unfold spec_ArrowsOk.l0
   repeat' first
   | (with_reducible exact ih0 ..)
   | (with_reducible exact ih1 ..)
   | (with_reducible exact ih2 ..)
   | (with_reducible exact spec_Neighbor.mono ..)
   | (with_reducible first | exact lr_ _ | exact ln_ _ | refine li_ ?_ ?_ | refine lb_ ?_ fun _ => ?_)
   | exact ih0 ..
   | exact ih1 ..
   | exact ih2 ..
   | exact spec_Neighbor.mono ..
   | exact ln_ _ | refine li_ ?_ ?_ | refine lb_ ?_ fun _ => ?_
  ·intro y0 y1 y2 y3 y4
   unfold spec_ArrowsOk.l1
   repeat' first
   | (with_reducible exact ih0 ..)
   | (with_reducible exact ih1 ..)
   | (with_reducible exact ih2 ..)
   | (with_reducible exact spec_Neighbor.mono ..)
   | (with_reducible first | exact lr_ _ | exact ln_ _ | refine li_ ?_ ?_ | refine lb_ ?_ fun _ => ?_)
   | exact ih0 ..
   | exact ih1 ..
   | exact ih2 ..
   | exact spec_Neighbor.mono ..
   | exact ln_ _ | refine li_ ?_ ?_ | refine lb_ ?_ fun _ => ?_
theorem spec_ArrowsOk.mono : ∀ a0 a1 a2 k, LeO (spec_ArrowsOk.f k a0 a1 a2) (spec_ArrowsOk.f (k + 1) a0 a1 a2) := by
 intro a0 a1 a2 k
 obtain ⟨ih0, ih1, ih2⟩ := spec_ArrowsOk.mono_l k
 unfold spec_ArrowsOk.f
 repeat' first
   | (with_reducible exact ih0 ..)
   | (with_reducible exact ih1 ..)
   | (with_reducible exact ih2 ..)
   | (with_reducible exact spec_Neighbor.mono ..)
   | (with_reducible first | exact lr_ _ | exact ln_ _ | refine li_ ?_ ?_ | refine lb_ ?_ fun _ => ?_)
   | exact ih0 ..
   | exact ih1 ..
   | exact ih2 ..
   | exact spec_Neighbor.mono ..
   | exact ln_ _ | refine li_ ?_ ?_ | refine lb_ ?_ fun _ => ?_
def spec_ArrowsOk.T9 : Bool × List (List Nat × List Nat) := (true, [([], []), ([], []), ([], []), ([], []), ([2, 3], [2, 3]), ([4], [4]), ([], []), ([5, 6], [5, 6]), ([7], [7]), ([0, 1, 8], [0, 1, 8]), ([9], [9]), ([10, 9], [10]), ([11], [11]), ([11], [11]), ([12, 13, 11], [11, 12, 13]), ([14, 11], [11, 14]), ([15, 11], [11, 15]), ([16, 11], [11, 16]), ([11, 17], [11, 17])])
def spec_ArrowsOk.B9 : List Nat := [0, 0, 0, 0, 12, 28, 0, 124, 252, 511, 1023, 2047, 4095, 4095, 16383, 32767, 65535, 131071, 262143]
theorem spec_ArrowsOk.tab9 : rtab .any (opsOf Try.f22 9) = spec_ArrowsOk.T9 := by kernel_rfl
theorem spec_ArrowsOk.bits9 : waitsOk spec_ArrowsOk.T9.2 spec_ArrowsOk.B9 = true := by kernel_rfl
set_option maxHeartbeats 8000000 in
set_option maxRecDepth 100000 in
theorem spec_ArrowsOk.calls (k : Nat) (a0_0 : Int) (a0_1 : Int) (A1 : Option Addr) (c1 : Nat) (l1 : List (List Int)) (r : Bool) (w : World) (hr1 : Kd.C (Kd.slice 3 (Kd.int .i64)) w A1 l1.length l1) (hc1 : l1.length ≤ c1) (h : spec_ArrowsOk.f k a0_0 a0_1 l1 = some r) :
  Calls Try.prog 22 #[.agg #[.int .i64 a0_0, .int .i64 a0_1], .slice A1 l1.length c1] w fun e w' => e = .returned (.bool r) ∧ Below w.heap.size w w' := by
 have hu28 := Try.underlying28
 have HR1 := Aside0.mk hr1
 have HC1 := Aside0.mk hc1
 clear hr1 hc1
 have HB := Aside0.mk (Below.refl w.heap.size w)
 have H : ((spec_GridOk.f a0_0 a0_1).bind fun t502 => (if t502 = true then ((spec_CountCells.f a0_0 a0_1).bind fun t503 => (if (l1.length : Int) = t503 then (if 0 < (l1.length : Int) then (spec_ArrowsOk.j0 k l1 (decide (((rd_L1 l1 0).length : Int) > 0)) a0_0 a0_1) else (none)) else (spec_ArrowsOk.j0 k l1 true a0_0 a0_1))) else (spec_ArrowsOk.j0 k l1 true a0_0 a0_1))) = some r := h
 clear h
 have HC3 := Aside0.mk H
 clear H
 go_enter Try.func22, Try.ntmps22
 go_upto_region 1 with (first | ((with_reducible refine gate_dst (N := 2) rfl ?_); (try (refine gate_guard (by rfl) ?_; dsimp only)); refine box_event ?hg (N := 2) ?hd (cs := #[.int .i64 a0_0, .int .i64 a0_1]) (t := 28) ?hr ?_; (case hd => rfl); (case hg => rfl); (case hr => first | (go_simp; done) | (go_simp; rfl)); intro gb501 hg w4 hbox hb; have BK501 := Aside0.mk (hbox); have GW501 := HB.g0 hg; have GE501 := HB.g0 hg; replace HB := HB.s0 hb; clear hb hbox hg))
 (try simp only [Act.put, List.setIfInBounds_toArray, List.set_cons_zero, List.set_cons_succ])
 go_cut [23] (fun v23 wc => ∃ (kq : Nat) (x23_2 : Bool), v23 = .bool x23_2 ∧ Aside0 (spec_ArrowsOk.j0 kq l1 x23_2 a0_0 a0_1 = some r) ∧ Aside0 (kq ≤ k) ∧ Aside0 (wc.heap[gb501]? = some (.cells #[.int .i64 a0_0, .int .i64 a0_1] 28 (0, 0))) ∧ Aside0 (Below w.heap.size w wc))
 case first =>
  have H := HC3.out
  clear HC3
  replace H := Option.bind_eq_some_iff.mp H
  obtain ⟨t502, A50, H⟩ := H
  replace H : (if t502 = true then ((spec_CountCells.f a0_0 a0_1).bind fun t503 => (if (l1.length : Int) = t503 then (if 0 < (l1.length : Int) then (spec_ArrowsOk.j0 k l1 (decide (((rd_L1 l1 0).length : Int) > 0)) a0_0 a0_1) else (none)) else (spec_ArrowsOk.j0 k l1 true a0_0 a0_1))) else (spec_ArrowsOk.j0 k l1 true a0_0 a0_1)) = some r := H
  have A5 := Aside0.mk A50
  clear A50
  by_cases c6 : t502 = true
  ·subst c6
   have H1 : ((spec_CountCells.f a0_0 a0_1).bind fun t503 => (if (l1.length : Int) = t503 then (if 0 < (l1.length : Int) then (spec_ArrowsOk.j0 k l1 (decide (((rd_L1 l1 0).length : Int) > 0)) a0_0 a0_1) else (none)) else (spec_ArrowsOk.j0 k l1 true a0_0 a0_1))) = some r := by rw [if_pos rfl] at H; exact H
   clear H
   have H := H1
   clear H1
   replace H := Option.bind_eq_some_iff.mp H
   obtain ⟨t503, A70, H⟩ := H
   replace H : (if (l1.length : Int) = t503 then (if 0 < (l1.length : Int) then (spec_ArrowsOk.j0 k l1 (decide (((rd_L1 l1 0).length : Int) > 0)) a0_0 a0_1) else (none)) else (spec_ArrowsOk.j0 k l1 true a0_0 a0_1)) = some r := H
   have A7 := Aside0.mk A70
   clear A70
   by_cases c8 : (l1.length : Int) = t503
   ·rw [if_pos c8] at H
    have c8b0 : ((l1.length : Int) == t503) = true := beq_iff_eq.mpr c8
    have c8b1 : ((l1.length : Int) != t503) = false := bne_eq_false_iff_eq.mpr c8
    clear c8
    (first | rw [c8b0] | (simp only [i64_w, i32_w]; rw [c8b0]) | skip)
    by_cases c9 : 0 < (l1.length : Int)
    ·rw [if_pos c9] at H
     have c9b0 : decide (0 < (l1.length : Int)) = true := decide_eq_true c9
     have c9b1 : decide (0 < l1.length) = true := decide_eq_true (by omega)
     clear c9
     have H' := Aside0.mk H
     clear H
     obtain ⟨hcz10_0, hcz10_1⟩ := cz2_ BK501.out
     obtain ⟨hfz10_0, hfz10_1⟩ := fz2_ BK501.out
     go_wp2_with (first | (refine gl_ 8 Try.func38 #[.agg #[.int .i64 a0_0, .int .i64 a0_1]] ?_; (with_reducible refine (spec_GridOk.calls a0_0 a0_1 true _ A5.out).mono ?_); rintro e w11 ⟨rfl, hb⟩; refine ⟨_, rfl, ?_⟩; replace BK501 := BK501.bb hb; replace HB := HB.s1 GE501 hb; (try clear hb); obtain ⟨hcz12_0, hcz12_1⟩ := cz2_ BK501.out; obtain ⟨hfz12_0, hfz12_1⟩ := fz2_ BK501.out) | (go_at_call 39; (with_reducible refine (spec_CountCells.calls a0_0 a0_1 t503 _ A7.out).mono ?_); rintro e w13 ⟨rfl, hb⟩; replace BK501 := BK501.bb hb; replace HB := HB.s1 GE501 hb; (try clear hb); have p504 : 0 ≤ (0 : Int) := (by omega); have q504 : 0 < (l1.length : Int) := of_decide_eq_true (as_); obtain ⟨ad504, A504_0, c504_0, e504, hx504_0, hl504_0, hi504_0⟩ := at_L1 HR1.out 0 p504 q504; cases e504; have qi504 : (0 < l1.length) = True := eq_true (by omega); (try rw [show ((0 : Int)).toNat = 0 from rfl] at hx504_0); (try rw [Addr.add_zero'] at hx504_0); replace hx504_0 := (HB.out.cell (World.block_lt_of_cell? w _ hx504_0)).trans hx504_0; have HR504_0 := Aside0.mk hi504_0; have HC504_0 := Aside0.mk hl504_0; clear hi504_0 hl504_0; replace p504 := eq_true p504; replace q504 := eq_true q504))
     go_meet
     case rel => exact ⟨_, (decide (((rd_L1 l1 0).length : Int) > 0)), (by first | rfl | (simp; done) | (simp [*]; done)), H', ⟨by first | omega | exact Nat.le_refl _⟩, ⟨bk_ BK501.out⟩, ⟨hb1_ HB.out GE501.out⟩⟩
    ·rw [if_neg c9] at H
     exact absurd H (by simp)
   ·rw [if_neg c8] at H
    have c8b0 : ((l1.length : Int) == t503) = false := beq_eq_false_iff_ne.mpr c8
    have c8b1 : ((l1.length : Int) != t503) = true := bne_iff_ne.mpr c8
    (first | rw [c8b0] | (simp only [i64_w, i32_w]; rw [c8b0]) | skip)
    have H' := Aside0.mk H
    clear H
    obtain ⟨hcz14_0, hcz14_1⟩ := cz2_ BK501.out
    obtain ⟨hfz14_0, hfz14_1⟩ := fz2_ BK501.out
    go_wp2_with (first | (refine gl_ 8 Try.func38 #[.agg #[.int .i64 a0_0, .int .i64 a0_1]] ?_; (with_reducible refine (spec_GridOk.calls a0_0 a0_1 true _ A5.out).mono ?_); rintro e w15 ⟨rfl, hb⟩; refine ⟨_, rfl, ?_⟩; replace BK501 := BK501.bb hb; replace HB := HB.s1 GE501 hb; (try clear hb); obtain ⟨hcz16_0, hcz16_1⟩ := cz2_ BK501.out; obtain ⟨hfz16_0, hfz16_1⟩ := fz2_ BK501.out) | (go_at_call 39; (with_reducible refine (spec_CountCells.calls a0_0 a0_1 t503 _ A7.out).mono ?_); rintro e w17 ⟨rfl, hb⟩; replace BK501 := BK501.bb hb; replace HB := HB.s1 GE501 hb; (try clear hb)))
    go_meet
    case rel => exact ⟨_, (true), (by first | rfl | (simp; done) | (simp [*]; done)), H', ⟨by first | omega | exact Nat.le_refl _⟩, ⟨bk_ BK501.out⟩, ⟨hb1_ HB.out GE501.out⟩⟩
  ·replace c6 := Bool.eq_false_iff.mpr c6
   subst c6
   have H1 : (spec_ArrowsOk.j0 k l1 true a0_0 a0_1) = some r := by rw [if_neg (show ¬ (false = true) by decide)] at H; exact H
   clear H
   have H := H1
   clear H1
   have H' := Aside0.mk H
   clear H
   obtain ⟨hcz18_0, hcz18_1⟩ := cz2_ BK501.out
   obtain ⟨hfz18_0, hfz18_1⟩ := fz2_ BK501.out
   go_wp2_with (first | (refine gl_ 8 Try.func38 #[.agg #[.int .i64 a0_0, .int .i64 a0_1]] ?_; (with_reducible refine (spec_GridOk.calls a0_0 a0_1 false _ A5.out).mono ?_); rintro e w19 ⟨rfl, hb⟩; refine ⟨_, rfl, ?_⟩; replace BK501 := BK501.bb hb; replace HB := HB.s1 GE501 hb; (try clear hb)))
   go_meet
   case rel => exact ⟨_, (true), (by first | rfl | (simp; done) | (simp [*]; done)), H', ⟨by first | omega | exact Nat.le_refl _⟩, ⟨bk_ BK501.out⟩, ⟨hb1_ HB.out GE501.out⟩⟩
 case rest =>
  clear HC3
  try clear c1
  try clear c2
  try clear p2
  try clear c3
  try clear c5
  try clear p5
  try clear q5
  try clear hx5
  try clear qi5
  try clear c6
  try clear c8
  try clear c8b0
  try clear c8b1
  try clear c9
  try clear c9b0
  try clear c9b1
  try clear hcz10_0
  try clear hcz10_1
  try clear hcz12_0
  try clear hcz12_1
  try clear hcz14_0
  try clear hcz14_1
  try clear hcz16_0
  try clear hcz16_1
  try clear hcz18_0
  try clear hcz18_1
  try clear hfz10_0
  try clear hfz10_1
  try clear hfz12_0
  try clear hfz12_1
  try clear hfz14_0
  try clear hfz14_1
  try clear hfz16_0
  try clear hfz16_1
  try clear hfz18_0
  try clear hfz18_1
  try clear hx504_0
  try clear p504
  try clear q504
  obtain ⟨kq, x23_2, rfl, HA, HJ2, BK501, HB⟩ := hcut
  cases kq with
  | zero => exact absurd HA.out (by simp [spec_ArrowsOk.j0])
  | succ kj2 =>
   have H := HA.out
   clear HA
   simp only [spec_ArrowsOk.j0] at H
   by_cases c20 : x23_2 = true
   ·subst c20
    have H1 : (some false) = some r := by rw [if_pos rfl] at H; exact H
    clear H
    have H := H1
    clear H1
    obtain rfl := Option.some.inj H
    go_wp2
    go_ret
    exact ⟨ex_, hb1_ HB.out GE501.out⟩
   ·replace c20 := Bool.eq_false_iff.mpr c20
    subst c20
    have H1 : (spec_ArrowsOk.l0 kj2 l1 0 a0_0 a0_1) = some r := by rw [if_neg (show ¬ (false = true) by decide)] at H; exact H
    clear H
    have H := H1
    clear H1
    have H' := Aside0.mk H
    clear H
    go_wp2
    go_loopg [5] kj2 (fun kq v5 w' => ∃ (x5_2 : Int), v5 = .int .i64 x5_2 ∧ Aside0 (spec_ArrowsOk.l0 kq l1 x5_2 a0_0 a0_1 = some r) ∧ Aside0 (kq ≤ kj2) ∧ Aside0 (w'.heap[gb501]? = some (.cells #[.int .i64 a0_0, .int .i64 a0_1] 28 (0, 0))) ∧ Aside0 (Below w.heap.size w w'))
    case atStart => exact ⟨(0), (by first | rfl | (simp; done) | (simp [*]; done)), H', ⟨Nat.le_refl _⟩, ⟨bk_ BK501.out⟩, ⟨hb1_ HB.out GE501.out⟩⟩
    case round =>
     clear H'
     try clear c1
     try clear c2
     try clear p2
     try clear c3
     try clear c5
     try clear p5
     try clear q5
     try clear hx5
     try clear qi5
     try clear c6
     try clear c8
     try clear c8b0
     try clear c8b1
     try clear c9
     try clear c9b0
     try clear c9b1
     try clear c20
     try clear hcz10_0
     try clear hcz10_1
     try clear hcz12_0
     try clear hcz12_1
     try clear hcz14_0
     try clear hcz14_1
     try clear hcz16_0
     try clear hcz16_1
     try clear hcz18_0
     try clear hcz18_1
     try clear hfz10_0
     try clear hfz10_1
     try clear hfz12_0
     try clear hfz12_1
     try clear hfz14_0
     try clear hfz14_1
     try clear hfz16_0
     try clear hfz16_1
     try clear hfz18_0
     try clear hfz18_1
     try clear hx504_0
     try clear p2
     try clear p5
     try clear p504
     try clear q5
     try clear q504
     obtain ⟨x5_2, rfl, HA, HK2, BK501, HB⟩ := hrel
     cases gk with
     | zero => exact absurd HA.out (by simp [spec_ArrowsOk.l0])
     | succ k2 =>
      have H := HA.out
      clear HA
      simp only [spec_ArrowsOk.l0] at H
      by_cases c21 : x5_2 < (l1.length : Int)
      ·rw [if_pos c21] at H
       have c21b0 : decide (x5_2 < (l1.length : Int)) = true := decide_eq_true c21
       clear c21
       have H' := Aside0.mk H
       clear H
       go_wp2
       go_loopg [6] k2 (fun kq v6 w' => ∃ (x6_3 : Int), v6 = .int .i64 x6_3 ∧ Aside0 (spec_ArrowsOk.l1 kq l1 x5_2 x6_3 a0_0 a0_1 = some r) ∧ Aside0 (kq ≤ k2) ∧ Aside0 (w'.heap[gb501]? = some (.cells #[.int .i64 a0_0, .int .i64 a0_1] 28 (0, 0))) ∧ Aside0 (Below w.heap.size w w'))
       case atStart => exact ⟨(0), (by first | rfl | (simp; done) | (simp [*]; done)), H', ⟨Nat.le_refl _⟩, ⟨bk_ BK501.out⟩, ⟨hb1_ HB.out GE501.out⟩⟩
       case round =>
        clear H'
        try clear c1
        try clear c2
        try clear p2
        try clear c3
        try clear c5
        try clear p5
        try clear q5
        try clear hx5
        try clear qi5
        try clear c6
        try clear c8
        try clear c8b0
        try clear c8b1
        try clear c9
        try clear c9b0
        try clear c9b1
        try clear c20
        try clear c21
        try clear c21b0
        try clear hcz10_0
        try clear hcz10_1
        try clear hcz12_0
        try clear hcz12_1
        try clear hcz14_0
        try clear hcz14_1
        try clear hcz16_0
        try clear hcz16_1
        try clear hcz18_0
        try clear hcz18_1
        try clear hfz10_0
        try clear hfz10_1
        try clear hfz12_0
        try clear hfz12_1
        try clear hfz14_0
        try clear hfz14_1
        try clear hfz16_0
        try clear hfz16_1
        try clear hfz18_0
        try clear hfz18_1
        try clear hx504_0
        try clear p2
        try clear p5
        try clear p504
        try clear q5
        try clear q504
        obtain ⟨x6_3, rfl, HA, HK3, BK501, HB⟩ := hrel
        cases gk with
        | zero => exact absurd HA.out (by simp [spec_ArrowsOk.l1])
        | succ k3 =>
         have H := HA.out
         clear HA
         simp only [spec_ArrowsOk.l1] at H
         by_cases c22 : 0 ≤ x5_2
         ·rw [if_pos c22] at H
          have c22b0 : decide (0 ≤ x5_2) = true := decide_eq_true c22
          clear c22
          by_cases c23 : x5_2 < (l1.length : Int)
          ·rw [if_pos c23] at H
           have c23b0 : decide (x5_2 < (l1.length : Int)) = true := decide_eq_true c23
           clear c23
           by_cases c24 : x6_3 < ((rd_L1 l1 x5_2).length : Int)
           ·rw [if_pos c24] at H
            have c24b0 : decide (x6_3 < ((rd_L1 l1 x5_2).length : Int)) = true := decide_eq_true c24
            clear c24
            by_cases c25 : 0 ≤ x6_3
            ·rw [if_pos c25] at H
             have c25b0 : decide (0 ≤ x6_3) = true := decide_eq_true c25
             clear c25
             replace H := Option.bind_eq_some_iff.mp H
             obtain ⟨t508, A260, H⟩ := H
             replace H : (if t508 < 0 then (some false) else (if ((rd_L1 l1 x5_2).length : Int) > 60 then (some false) else (spec_ArrowsOk.l1 k3 l1 x5_2 (wrap64 (x6_3 + 1)) a0_0 a0_1))) = some r := H
             have A26 := Aside0.mk A260
             clear A260
             by_cases c27 : t508 < 0
             ·rw [if_pos c27] at H
              have c27b0 : decide (t508 < 0) = true := decide_eq_true c27
              clear c27
              obtain rfl := Option.some.inj H
              have p505 : 0 ≤ (x5_2 : Int) := of_decide_eq_true (as_)
              have q505 : x5_2 < (l1.length : Int) := of_decide_eq_true (as_)
              obtain ⟨ad505, A505_0, c505_0, e505, hx505_0, hl505_0, hi505_0⟩ := at_L1 HR1.out x5_2 p505 q505
              cases e505
              replace hx505_0 := (HB.out.cell (World.block_lt_of_cell? w _ hx505_0)).trans hx505_0
              have HR505_0 := Aside0.mk hi505_0
              have HC505_0 := Aside0.mk hl505_0
              clear hi505_0 hl505_0
              replace p505 := eq_true p505
              replace q505 := eq_true q505
              try go_wp2
              replace BK501 := Aside0.mk (blk_drew BK501.out)
              replace HB := Aside0.mk (below_drew1 HB.out)
              have p506 : 0 ≤ (x5_2 : Int) := of_decide_eq_true (as_)
              have q506 : x5_2 < (l1.length : Int) := of_decide_eq_true (as_)
              obtain ⟨ad506, A506_0, c506_0, e506, hx506_0, hl506_0, hi506_0⟩ := at_L1 HR1.out x5_2 p506 q506
              have hw506_0 := hx506_0
              obtain rfl : ad505 = ad506 := (by injection e506)
              replace hx506_0 := (HB.out.cell (World.block_lt_of_cell? w _ hx506_0)).trans hx506_0
              have HR506_0 := Aside0.mk hi506_0
              have HC506_0 := Aside0.mk hl506_0
              clear hi506_0 hl506_0
              replace p506 := eq_true p506
              replace q506 := eq_true q506
              have p507 : 0 ≤ (x6_3 : Int) := of_decide_eq_true (as_)
              have q507 : x6_3 < ((rd_L1 l1 x5_2).length : Int) := of_decide_eq_true (as_)
              obtain ⟨ad507, e507, hx507_0⟩ := Kd.at_int HR506_0.out x6_3 p507 q507
              have hw507_0 := hx507_0
              cases e507
              replace hx507_0 := (HB.out.cell (World.block_lt_of_cell? w _ hx507_0)).trans hx507_0
              replace p507 := eq_true p507
              replace q507 := eq_true q507
              refine start_ (n := 19) (S := fun w' => w'.cell? ⟨gb501, 0, none⟩ = some (.int .i64 a0_0) ∧ w'.cell? ⟨gb501, 1, none⟩ = some (.int .i64 a0_1) ∧ w'.cell? (ad505.add (x5_2).toNat) = some (.slice (some ad507) (rd_L1 l1 x5_2).length c506_0) ∧ w'.cell? (ad507.add (x6_3).toNat) = some (.int .i64 (rd (rd_L1 l1 x5_2) x6_3))) (ds := []) #[false, false, false, false, false, false, false, false, false, false, false, false, false, false, false, false, false, false, false] (by kernel_rfl) rfl rfl ⟨BK501.c 0, BK501.c 1, ((HB.out.cell (World.block_lt_of_cell? w _ hw506_0)).trans hw506_0), ((HB.out.cell (World.block_lt_of_cell? w _ hw507_0)).trans hw507_0)⟩ (fun hHeld => ?_); refine with_tabW spec_ArrowsOk.tab9 spec_ArrowsOk.bits9 (fun HT_ HW_ => ?_)
              generalize wr.drew = w28 at BK501 HB HR506_0 hx506_0 hx507_0 hHeld ⊢
              refine pv_ (i := 1) (N := some 40) HT_.out ?_
              refine pv_ (i := 2) (N := some 41) HT_.out ?_
              refine pv_ (i := 3) (N := some 42) HT_.out ?_
              refine pv_ (i := 4) (N := some 43) HT_.out ?_
              refine pv_ (i := 6) (N := some 45) HT_.out ?_
              refine tv4_ (i := 0) (N := some 39) HT_.out HW_.out hHeld ?_
              refine tv4_ (i := 5) (N := some 44) HT_.out HW_.out hHeld ?_
              refine pv_ (i := 7) (N := some 46) HT_.out ?_
              refine tv4_ (i := 8) (N := some 47) HT_.out HW_.out hHeld ?_
              refine ov_ (i := 9) (N := some 48) HT_.out (fun K hK => ?_)
              refine gq_ Try.func40 #[.agg #[.int .i64 a0_0, .int .i64 a0_1], .int .i64 x5_2, .int .i64 (rd (rd_L1 l1 x5_2) x6_3)] ?_
              with_reducible refine (spec_Neighbor.calls k3 a0_0 a0_1 x5_2 (rd (rd_L1 l1 x5_2) x6_3) t508 _ A26.out).mono ?_
              rintro e w29 ⟨rfl, hb⟩
              refine ⟨_, rfl, ?_⟩
              replace BK501 := BK501.bb hb
              replace HB := HB.s1 GE501 hb
              skip
              (try clear hb2)
              (try clear hk)
              (try clear hi)
              refine hK.out _ _ ⟨BK501.c 0, BK501.c 1, ((HB.out.cell (World.block_lt_of_cell? w _ hw506_0)).trans hw506_0), ((HB.out.cell (World.block_lt_of_cell? w _ hw507_0)).trans hw507_0)⟩ (fun hHeld => ?_)
              clear hK K
              refine nm_ ?_
              refine pv_ (i := 10) (N := some 49) HT_.out ?_
              refine pv_ (i := 11) (N := some 50) HT_.out ?_
              refine pu_ (i := 12) (N := some 51) HT_.out ?_
              refine pu_ (i := 13) (N := some 52) HT_.out ?_
              refine pu_ (i := 14) (N := some 53) HT_.out ?_
              refine pu_ (i := 15) (N := some 54) HT_.out ?_
              refine pu_ (i := 16) (N := some 55) HT_.out ?_
              refine pu_ (i := 17) (N := some 56) HT_.out ?_
              refine pv_ (i := 18) (N := some 57) HT_.out ?_
              refine done_ (done_of HT_.out (by kernel_rfl)) ?_
              try go_wp2
              go_ret
              exact ⟨ex_, hb1_ HB.out GE501.out⟩
             ·rw [if_neg c27] at H
              have c27b0 : decide (t508 < 0) = false := decide_eq_false c27
              clear c27
              by_cases c30 : ((rd_L1 l1 x5_2).length : Int) > 60
              ·rw [if_pos c30] at H
               have c30b0 : decide (60 < ((rd_L1 l1 x5_2).length : Int)) = true := decide_eq_true c30
               have c30b1 : decide (60 < (rd_L1 l1 x5_2).length) = true := decide_eq_true (by omega)
               clear c30
               obtain rfl := Option.some.inj H
               have p505 : 0 ≤ (x5_2 : Int) := of_decide_eq_true (as_)
               have q505 : x5_2 < (l1.length : Int) := of_decide_eq_true (as_)
               obtain ⟨ad505, A505_0, c505_0, e505, hx505_0, hl505_0, hi505_0⟩ := at_L1 HR1.out x5_2 p505 q505
               cases e505
               replace hx505_0 := (HB.out.cell (World.block_lt_of_cell? w _ hx505_0)).trans hx505_0
               have HR505_0 := Aside0.mk hi505_0
               have HC505_0 := Aside0.mk hl505_0
               clear hi505_0 hl505_0
               replace p505 := eq_true p505
               replace q505 := eq_true q505
               try go_wp2
               replace BK501 := Aside0.mk (blk_drew BK501.out)
               replace HB := Aside0.mk (below_drew1 HB.out)
               have p506 : 0 ≤ (x5_2 : Int) := of_decide_eq_true (as_)
               have q506 : x5_2 < (l1.length : Int) := of_decide_eq_true (as_)
               obtain ⟨ad506, A506_0, c506_0, e506, hx506_0, hl506_0, hi506_0⟩ := at_L1 HR1.out x5_2 p506 q506
               have hw506_0 := hx506_0
               obtain rfl : ad505 = ad506 := (by injection e506)
               replace hx506_0 := (HB.out.cell (World.block_lt_of_cell? w _ hx506_0)).trans hx506_0
               have HR506_0 := Aside0.mk hi506_0
               have HC506_0 := Aside0.mk hl506_0
               clear hi506_0 hl506_0
               replace p506 := eq_true p506
               replace q506 := eq_true q506
               have p507 : 0 ≤ (x6_3 : Int) := of_decide_eq_true (as_)
               have q507 : x6_3 < ((rd_L1 l1 x5_2).length : Int) := of_decide_eq_true (as_)
               obtain ⟨ad507, e507, hx507_0⟩ := Kd.at_int HR506_0.out x6_3 p507 q507
               have hw507_0 := hx507_0
               cases e507
               replace hx507_0 := (HB.out.cell (World.block_lt_of_cell? w _ hx507_0)).trans hx507_0
               replace p507 := eq_true p507
               replace q507 := eq_true q507
               have p509 : 0 ≤ (x5_2 : Int) := of_decide_eq_true (as_)
               have q509 : x5_2 < (l1.length : Int) := of_decide_eq_true (as_)
               obtain ⟨ad509, A509_0, c509_0, e509, hx509_0, hl509_0, hi509_0⟩ := at_L1 HR1.out x5_2 p509 q509
               have hw509_0 := hx509_0
               obtain rfl : ad505 = ad509 := (by injection e509)
               replace hx509_0 := (HB.out.cell (World.block_lt_of_cell? w _ hx509_0)).trans hx509_0
               have HR509_0 := Aside0.mk hi509_0
               have HC509_0 := Aside0.mk hl509_0
               clear hi509_0 hl509_0
               replace p509 := eq_true p509
               replace q509 := eq_true q509
               refine start_ (n := 19) (S := fun w' => w'.cell? ⟨gb501, 0, none⟩ = some (.int .i64 a0_0) ∧ w'.cell? ⟨gb501, 1, none⟩ = some (.int .i64 a0_1) ∧ w'.cell? (ad505.add (x5_2).toNat) = some (.slice (some ad507) (rd_L1 l1 x5_2).length c506_0) ∧ w'.cell? (ad507.add (x6_3).toNat) = some (.int .i64 (rd (rd_L1 l1 x5_2) x6_3)) ∧ w'.cell? (ad505.add (x5_2).toNat) = some (.slice A509_0 (rd_L1 l1 x5_2).length c509_0)) (ds := []) #[false, false, false, false, false, false, false, false, false, false, false, false, false, false, false, false, false, false, false] (by kernel_rfl) rfl rfl ⟨BK501.c 0, BK501.c 1, ((HB.out.cell (World.block_lt_of_cell? w _ hw506_0)).trans hw506_0), ((HB.out.cell (World.block_lt_of_cell? w _ hw507_0)).trans hw507_0), ((HB.out.cell (World.block_lt_of_cell? w _ hw509_0)).trans hw509_0)⟩ (fun hHeld => ?_); refine with_tabW spec_ArrowsOk.tab9 spec_ArrowsOk.bits9 (fun HT_ HW_ => ?_)
               generalize wr.drew = w31 at BK501 HB HR506_0 HR509_0 hx506_0 hx507_0 hx509_0 hHeld ⊢
               refine pv_ (i := 1) (N := some 40) HT_.out ?_
               refine pv_ (i := 2) (N := some 41) HT_.out ?_
               refine pv_ (i := 3) (N := some 42) HT_.out ?_
               refine pv_ (i := 4) (N := some 43) HT_.out ?_
               refine pv_ (i := 6) (N := some 45) HT_.out ?_
               refine tv5_ (i := 0) (N := some 39) HT_.out HW_.out hHeld ?_
               refine tv5_ (i := 5) (N := some 44) HT_.out HW_.out hHeld ?_
               refine pv_ (i := 7) (N := some 46) HT_.out ?_
               refine tv5_ (i := 8) (N := some 47) HT_.out HW_.out hHeld ?_
               refine ov_ (i := 9) (N := some 48) HT_.out (fun K hK => ?_)
               refine gq_ Try.func40 #[.agg #[.int .i64 a0_0, .int .i64 a0_1], .int .i64 x5_2, .int .i64 (rd (rd_L1 l1 x5_2) x6_3)] ?_
               with_reducible refine (spec_Neighbor.calls k3 a0_0 a0_1 x5_2 (rd (rd_L1 l1 x5_2) x6_3) t508 _ A26.out).mono ?_
               rintro e w32 ⟨rfl, hb⟩
               refine ⟨_, rfl, ?_⟩
               replace BK501 := BK501.bb hb
               replace HB := HB.s1 GE501 hb
               skip
               (try clear hb2)
               (try clear hk)
               (try clear hi)
               refine hK.out _ _ ⟨BK501.c 0, BK501.c 1, ((HB.out.cell (World.block_lt_of_cell? w _ hw506_0)).trans hw506_0), ((HB.out.cell (World.block_lt_of_cell? w _ hw507_0)).trans hw507_0), ((HB.out.cell (World.block_lt_of_cell? w _ hw509_0)).trans hw509_0)⟩ (fun hHeld => ?_)
               clear hK K
               refine nm_ ?_
               refine pv_ (i := 10) (N := some 49) HT_.out ?_
               refine pv_ (i := 11) (N := some 50) HT_.out ?_
               refine pv_ (i := 12) (N := some 51) HT_.out ?_
               refine pv_ (i := 13) (N := some 52) HT_.out ?_
               refine pv_ (i := 14) (N := some 53) HT_.out ?_
               refine tv5_ (i := 15) (N := some 54) HT_.out HW_.out hHeld ?_
               refine pv_ (i := 16) (N := some 55) HT_.out ?_
               refine pv_ (i := 17) (N := some 56) HT_.out ?_
               refine pv_ (i := 18) (N := some 57) HT_.out ?_
               refine done_ (done_of HT_.out (by kernel_rfl)) ?_
               try go_wp2
               go_ret
               exact ⟨ex_, hb1_ HB.out GE501.out⟩
              ·rw [if_neg c30] at H
               have c30b0 : decide (60 < ((rd_L1 l1 x5_2).length : Int)) = false := decide_eq_false c30
               have c30b1 : decide (60 < (rd_L1 l1 x5_2).length) = false := decide_eq_false (by omega)
               clear c30
               have H' := Aside0.mk H
               clear H
               have p505 : 0 ≤ (x5_2 : Int) := of_decide_eq_true (as_)
               have q505 : x5_2 < (l1.length : Int) := of_decide_eq_true (as_)
               obtain ⟨ad505, A505_0, c505_0, e505, hx505_0, hl505_0, hi505_0⟩ := at_L1 HR1.out x5_2 p505 q505
               cases e505
               replace hx505_0 := (HB.out.cell (World.block_lt_of_cell? w _ hx505_0)).trans hx505_0
               have HR505_0 := Aside0.mk hi505_0
               have HC505_0 := Aside0.mk hl505_0
               clear hi505_0 hl505_0
               replace p505 := eq_true p505
               replace q505 := eq_true q505
               try go_wp2
               replace BK501 := Aside0.mk (blk_drew BK501.out)
               replace HB := Aside0.mk (below_drew1 HB.out)
               have p506 : 0 ≤ (x5_2 : Int) := of_decide_eq_true (as_)
               have q506 : x5_2 < (l1.length : Int) := of_decide_eq_true (as_)
               obtain ⟨ad506, A506_0, c506_0, e506, hx506_0, hl506_0, hi506_0⟩ := at_L1 HR1.out x5_2 p506 q506
               have hw506_0 := hx506_0
               obtain rfl : ad505 = ad506 := (by injection e506)
               replace hx506_0 := (HB.out.cell (World.block_lt_of_cell? w _ hx506_0)).trans hx506_0
               have HR506_0 := Aside0.mk hi506_0
               have HC506_0 := Aside0.mk hl506_0
               clear hi506_0 hl506_0
               replace p506 := eq_true p506
               replace q506 := eq_true q506
               have p507 : 0 ≤ (x6_3 : Int) := of_decide_eq_true (as_)
               have q507 : x6_3 < ((rd_L1 l1 x5_2).length : Int) := of_decide_eq_true (as_)
               obtain ⟨ad507, e507, hx507_0⟩ := Kd.at_int HR506_0.out x6_3 p507 q507
               have hw507_0 := hx507_0
               cases e507
               replace hx507_0 := (HB.out.cell (World.block_lt_of_cell? w _ hx507_0)).trans hx507_0
               replace p507 := eq_true p507
               replace q507 := eq_true q507
               have p509 : 0 ≤ (x5_2 : Int) := of_decide_eq_true (as_)
               have q509 : x5_2 < (l1.length : Int) := of_decide_eq_true (as_)
               obtain ⟨ad509, A509_0, c509_0, e509, hx509_0, hl509_0, hi509_0⟩ := at_L1 HR1.out x5_2 p509 q509
               have hw509_0 := hx509_0
               obtain rfl : ad505 = ad509 := (by injection e509)
               replace hx509_0 := (HB.out.cell (World.block_lt_of_cell? w _ hx509_0)).trans hx509_0
               have HR509_0 := Aside0.mk hi509_0
               have HC509_0 := Aside0.mk hl509_0
               clear hi509_0 hl509_0
               replace p509 := eq_true p509
               replace q509 := eq_true q509
               refine start_ (n := 19) (S := fun w' => w'.cell? ⟨gb501, 0, none⟩ = some (.int .i64 a0_0) ∧ w'.cell? ⟨gb501, 1, none⟩ = some (.int .i64 a0_1) ∧ w'.cell? (ad505.add (x5_2).toNat) = some (.slice (some ad507) (rd_L1 l1 x5_2).length c506_0) ∧ w'.cell? (ad507.add (x6_3).toNat) = some (.int .i64 (rd (rd_L1 l1 x5_2) x6_3)) ∧ w'.cell? (ad505.add (x5_2).toNat) = some (.slice A509_0 (rd_L1 l1 x5_2).length c509_0)) (ds := []) #[false, false, false, false, false, false, false, false, false, false, false, false, false, false, false, false, false, false, false] (by kernel_rfl) rfl rfl ⟨BK501.c 0, BK501.c 1, ((HB.out.cell (World.block_lt_of_cell? w _ hw506_0)).trans hw506_0), ((HB.out.cell (World.block_lt_of_cell? w _ hw507_0)).trans hw507_0), ((HB.out.cell (World.block_lt_of_cell? w _ hw509_0)).trans hw509_0)⟩ (fun hHeld => ?_); refine with_tabW spec_ArrowsOk.tab9 spec_ArrowsOk.bits9 (fun HT_ HW_ => ?_)
               generalize wr.drew = w33 at BK501 HB HR506_0 HR509_0 hx506_0 hx507_0 hx509_0 hHeld ⊢
               refine pv_ (i := 1) (N := some 40) HT_.out ?_
               refine pv_ (i := 2) (N := some 41) HT_.out ?_
               refine pv_ (i := 3) (N := some 42) HT_.out ?_
               refine pv_ (i := 4) (N := some 43) HT_.out ?_
               refine pv_ (i := 6) (N := some 45) HT_.out ?_
               refine tv5_ (i := 0) (N := some 39) HT_.out HW_.out hHeld ?_
               refine tv5_ (i := 5) (N := some 44) HT_.out HW_.out hHeld ?_
               refine pv_ (i := 7) (N := some 46) HT_.out ?_
               refine tv5_ (i := 8) (N := some 47) HT_.out HW_.out hHeld ?_
               refine ov_ (i := 9) (N := some 48) HT_.out (fun K hK => ?_)
               refine gq_ Try.func40 #[.agg #[.int .i64 a0_0, .int .i64 a0_1], .int .i64 x5_2, .int .i64 (rd (rd_L1 l1 x5_2) x6_3)] ?_
               with_reducible refine (spec_Neighbor.calls k3 a0_0 a0_1 x5_2 (rd (rd_L1 l1 x5_2) x6_3) t508 _ A26.out).mono ?_
               rintro e w34 ⟨rfl, hb⟩
               refine ⟨_, rfl, ?_⟩
               replace BK501 := BK501.bb hb
               replace HB := HB.s1 GE501 hb
               skip
               (try clear hb2)
               (try clear hk)
               (try clear hi)
               refine hK.out _ _ ⟨BK501.c 0, BK501.c 1, ((HB.out.cell (World.block_lt_of_cell? w _ hw506_0)).trans hw506_0), ((HB.out.cell (World.block_lt_of_cell? w _ hw507_0)).trans hw507_0), ((HB.out.cell (World.block_lt_of_cell? w _ hw509_0)).trans hw509_0)⟩ (fun hHeld => ?_)
               clear hK K
               refine nm_ ?_
               refine pv_ (i := 10) (N := some 49) HT_.out ?_
               refine pv_ (i := 11) (N := some 50) HT_.out ?_
               refine pv_ (i := 12) (N := some 51) HT_.out ?_
               refine pv_ (i := 13) (N := some 52) HT_.out ?_
               refine pv_ (i := 14) (N := some 53) HT_.out ?_
               refine tv5_ (i := 15) (N := some 54) HT_.out HW_.out hHeld ?_
               refine pv_ (i := 16) (N := some 55) HT_.out ?_
               refine pv_ (i := 17) (N := some 56) HT_.out ?_
               refine pv_ (i := 18) (N := some 57) HT_.out ?_
               refine done_ (done_of HT_.out (by kernel_rfl)) ?_
               try go_wp2
               go_roundg k3
               case measure => have := HJ2.out; have := HK2.out; have := HK3.out; omega
               case rel => exact ⟨(wrap64 (x6_3 + 1)), (by first | rfl | (simp; done) | (simp [*]; done)), H', ⟨by have := HJ2.out; have := HK2.out; have := HK3.out; omega⟩, ⟨bk_ BK501.out⟩, ⟨hb1_ HB.out GE501.out⟩⟩
            ·rw [if_neg c25] at H
             exact absurd H (by simp)
           ·rw [if_neg c24] at H
            have c24b0 : decide (x6_3 < ((rd_L1 l1 x5_2).length : Int)) = false := decide_eq_false c24
            clear c24
            have H' := Aside0.mk H
            clear H
            have p505 : 0 ≤ (x5_2 : Int) := of_decide_eq_true (as_)
            have q505 : x5_2 < (l1.length : Int) := of_decide_eq_true (as_)
            obtain ⟨ad505, A505_0, c505_0, e505, hx505_0, hl505_0, hi505_0⟩ := at_L1 HR1.out x5_2 p505 q505
            cases e505
            replace hx505_0 := (HB.out.cell (World.block_lt_of_cell? w _ hx505_0)).trans hx505_0
            have HR505_0 := Aside0.mk hi505_0
            have HC505_0 := Aside0.mk hl505_0
            clear hi505_0 hl505_0
            replace p505 := eq_true p505
            replace q505 := eq_true q505
            go_wp2
            go_roundg k3
            case measure => have := HJ2.out; have := HK2.out; have := HK3.out; omega
            case rel => exact ⟨(wrap64 (x5_2 + 1)), (by first | rfl | (simp; done) | (simp [*]; done)), H', ⟨by have := HJ2.out; have := HK2.out; have := HK3.out; omega⟩, ⟨bk_ BK501.out⟩, ⟨hb1_ HB.out GE501.out⟩⟩
          ·rw [if_neg c23] at H
           exact absurd H (by simp)
         ·rw [if_neg c22] at H
          exact absurd H (by simp)
      ·rw [if_neg c21] at H
       have c21b0 : decide (x5_2 < (l1.length : Int)) = false := decide_eq_false c21
       clear c21
       obtain rfl := Option.some.inj H
       go_wp2
       go_ret
       exact ⟨ex_, hb1_ HB.out GE501.out⟩

end Go.Proofs.Ytnipocpbpcaepaa.X
