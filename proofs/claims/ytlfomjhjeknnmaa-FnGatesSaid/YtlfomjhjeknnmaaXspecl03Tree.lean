-- Written by a program of this session (xprint.py), out of the translation and of hand-written contracts. Lean checks it.
import Derived.Test.YtlfomjhjeknnmaaX0
import Derived.Test.YtlfomjhjeknnmaaXcgaps
import Derived.Test.YtlfomjhjeknnmaaXcgrid
import Derived.Test.YtlfomjhjeknnmaaXcstrees
import Derived.Test.YtlfomjhjeknnmaaXspecl01Below
import Derived.Test.YtlfomjhjeknnmaaXspecl01New
import Derived.Test.YtlfomjhjeknnmaaXspecl03Common
namespace Go.Proofs.Ytlfomjhjeknnmaa.X
open Go.RowKit Go.Proofs.YtlfomjhjeknnmaaW.PrintWords Go.Proofs.YtlfomjhjeknnmaaW.PrintLast Go.Proofs.YtlfomjhjeknnmaaW.PrintMore
attribute [local go_sem] max2_int min2_int max_two min_two max_three min_three max_four min_four   -- for this text's walks alone
set_option linter.unusedVariables false
set_option linter.unusedSimpArgs false

/-! ### spec_l03Tree: function 71 -/
mutual
def spec_l03Tree.l0 : Nat → Int → List Int → Int → List Int → Int → Int → Int → Int → Int → Int → Int → Option (Int × Int × Int × Int × Int)
 | 0, _, _, _, _, _, _, _, _, _, _, _ => none
 | k + 1, x6, x7, x8, x1000, x1001, x1002, x502000, x502001, x504000, x504001, x504002 => if x8 < (x7.length : Int) then (if 0 ≤ x8 then (spec_l03Tree.l0 k x6 (x7.set (x8 : Int).toNat x8) (wrap64 (x8 + 1)) x1000 x1001 x1002 x502000 x502001 x504000 x504001 x504002) else (none)) else (if x6 = 0 then (some (x504000, x504001, x504002, x1001, x1002)) else ((spec_l01Below.f x1000 x1001 x1002 x6).bind fun bt510 => ((spec_l01Below.f x1000 bt510.2.1 bt510.2.2 x6).bind fun bt513 => (spec_l03Tree.l1 k x6 x7 bt510.1 (wrap64 (1 + bt513.1)) x1000 bt513.2.1 bt513.2.2 x502000 x502001 x504000 x504001 x504002))))
def spec_l03Tree.l1 : Nat → Int → List Int → Int → Int → List Int → Int → Int → Int → Int → Int → Int → Int → Option (Int × Int × Int × Int × Int)
 | 0, _, _, _, _, _, _, _, _, _, _, _, _ => none
 | k + 1, x6, x7, x9, x10, x1000, x1001, x1002, x502000, x502001, x504000, x504001, x504002 => (spec_l03Common.f k x10 x6).bind fun t516 => (if t516 = true then (spec_l03Tree.l1 k x6 x7 x9 (wrap64 (x10 + 1)) x1000 x1001 x1002 x502000 x502001 x504000 x504001 x504002) else (spec_l03Tree.l2 k x6 x7 x9 x10 0 x1000 x1001 x1002 x502000 x502001 x504000 x504001 x504002))
def spec_l03Tree.l2 : Nat → Int → List Int → Int → Int → Int → List Int → Int → Int → Int → Int → Int → Int → Int → Option (Int × Int × Int × Int × Int)
 | 0, _, _, _, _, _, _, _, _, _, _, _, _, _ => none
 | k + 1, x6, x7, x9, x10, x11, x1000, x1001, x1002, x502000, x502001, x504000, x504001, x504002 => if x11 < x6 then (if x6 = 0 then (none) else ((spec_EndsOf.f x502000 x502001 (Int.tmod (wrap64 (x9 + (wrap64 (x11 * x10)))) x6)).bind fun bt517 => (if 0 ≤ bt517.1 then (if bt517.1 < (x7.length : Int) then (if 0 ≤ bt517.2 then (if bt517.2 < (x7.length : Int) then (if (rd x7 bt517.1) = (rd x7 bt517.2) then (spec_l03Tree.l2 k x6 x7 x9 x10 (wrap64 (x11 + 1)) x1000 x1001 x1002 x502000 x502001 x504000 x504001 x504002) else (if 0 ≤ (Int.tmod (wrap64 (x9 + (wrap64 (x11 * x10)))) x6) then (spec_l03Tree.l3 k x6 x7 x9 x10 x11 bt517.1 (rd x7 bt517.2) 0 x1000 x1001 x1002 x502000 x502001 x504000 x504001 (Go.bits .or .i64 x504002 (shl .i64 1 (Int.tmod (wrap64 (x9 + (wrap64 (x11 * x10)))) x6)))) else (none))) else (none)) else (none)) else (none)) else (none)))) else (some (x504000, x504001, x504002, x1001, x1002))
def spec_l03Tree.l3 : Nat → Int → List Int → Int → Int → Int → Int → Int → Int → List Int → Int → Int → Int → Int → Int → Int → Int → Option (Int × Int × Int × Int × Int)
 | 0, _, _, _, _, _, _, _, _, _, _, _, _, _, _, _, _ => none
 | k + 1, x6, x7, x9, x10, x11, x13, x15, x16, x1000, x1001, x1002, x502000, x502001, x504000, x504001, x504002 => if x16 < (x7.length : Int) then (if 0 ≤ x16 then (if (rd x7 x16) = x15 then (if 0 ≤ x13 then (if x13 < (x7.length : Int) then (spec_l03Tree.l3 k x6 (x7.set (x16 : Int).toNat (rd x7 x13)) x9 x10 x11 x13 x15 (wrap64 (x16 + 1)) x1000 x1001 x1002 x502000 x502001 x504000 x504001 x504002) else (none)) else (none)) else (spec_l03Tree.l3 k x6 x7 x9 x10 x11 x13 x15 (wrap64 (x16 + 1)) x1000 x1001 x1002 x502000 x502001 x504000 x504001 x504002)) else (none)) else (spec_l03Tree.l2 k x6 x7 x9 x10 (wrap64 (x11 + 1)) x1000 x1001 x1002 x502000 x502001 x504000 x504001 x504002)
end
def spec_l03Tree.f (k : Nat) (s0_0 : List Int) (s0_1 : Int) (s0_2 : Int) (a1_0 : Int) (a1_1 : Int) : Option (Int × Int × Int × Int × Int) := (spec_CountGaps.f a1_0 a1_1).bind fun t504 => ((spec_CountCells.f a1_0 a1_1).bind fun t505 => (if 0 ≤ t505 then (if (t505 : Int).toNat ≤ 35184372088832 then (spec_l03Tree.l0 k t504 (List.replicate (t505 : Int).toNat 0) 0 s0_0 s0_1 s0_2 a1_0 a1_1 a1_0 a1_1 0) else (none)) else (none)))
theorem spec_l03Tree.mono_l : ∀ k, (∀ y0 y1 y2 y3 y4 y5 y6 y7 y8 y9 y10, LeO (spec_l03Tree.l0 k y0 y1 y2 y3 y4 y5 y6 y7 y8 y9 y10) (spec_l03Tree.l0 (k + 1) y0 y1 y2 y3 y4 y5 y6 y7 y8 y9 y10)) ∧ (∀ y0 y1 y2 y3 y4 y5 y6 y7 y8 y9 y10 y11, LeO (spec_l03Tree.l1 k y0 y1 y2 y3 y4 y5 y6 y7 y8 y9 y10 y11) (spec_l03Tree.l1 (k + 1) y0 y1 y2 y3 y4 y5 y6 y7 y8 y9 y10 y11)) ∧ (∀ y0 y1 y2 y3 y4 y5 y6 y7 y8 y9 y10 y11 y12, LeO (spec_l03Tree.l2 k y0 y1 y2 y3 y4 y5 y6 y7 y8 y9 y10 y11 y12) (spec_l03Tree.l2 (k + 1) y0 y1 y2 y3 y4 y5 y6 y7 y8 y9 y10 y11 y12)) ∧ (∀ y0 y1 y2 y3 y4 y5 y6 y7 y8 y9 y10 y11 y12 y13 y14 y15, LeO (spec_l03Tree.l3 k y0 y1 y2 y3 y4 y5 y6 y7 y8 y9 y10 y11 y12 y13 y14 y15) (spec_l03Tree.l3 (k + 1) y0 y1 y2 y3 y4 y5 y6 y7 y8 y9 y10 y11 y12 y13 y14 y15))
 | 0 => ⟨fun _ _ _ _ _ _ _ _ _ _ _ r h => by simp [spec_l03Tree.l0] at h, fun _ _ _ _ _ _ _ _ _ _ _ _ r h => by simp [spec_l03Tree.l1] at h, fun _ _ _ _ _ _ _ _ _ _ _ _ _ r h => by simp [spec_l03Tree.l2] at h, fun _ _ _ _ _ _ _ _ _ _ _ _ _ _ _ _ r h => by simp [spec_l03Tree.l3] at h⟩
 | k + 1 => by
  obtain ⟨ih0, ih1, ih2, ih3⟩ := spec_l03Tree.mono_l k
  refine ⟨?_, ?_, ?_, ?_⟩
  ·intro y0 y1 y2 y3 y4 y5 y6 y7 y8 y9 y10
   unfold spec_l03Tree.l0
   repeat' first
   | (with_reducible exact ih0 ..)
   | (with_reducible exact ih1 ..)
   | (with_reducible exact ih2 ..)
   | (with_reducible exact ih3 ..)
   | (with_reducible exact spec_l03Common.mono ..)
   | (with_reducible first | exact lr_ _ | exact ln_ _ | refine li_ ?_ ?_ | refine lb_ ?_ fun _ => ?_)
   | exact ih0 ..
   | exact ih1 ..
   | exact ih2 ..
   | exact ih3 ..
   | exact spec_l03Common.mono ..
   | exact ln_ _ | refine li_ ?_ ?_ | refine lb_ ?_ fun _ => ?_
  ·intro y0 y1 y2 y3 y4 y5 y6 y7 y8 y9 y10 y11
   unfold spec_l03Tree.l1
   repeat' first
   | (with_reducible exact ih0 ..)
   | (with_reducible exact ih1 ..)
   | (with_reducible exact ih2 ..)
   | (with_reducible exact ih3 ..)
   | (with_reducible exact spec_l03Common.mono ..)
   | (with_reducible first | exact lr_ _ | exact ln_ _ | refine li_ ?_ ?_ | refine lb_ ?_ fun _ => ?_)
   | exact ih0 ..
   | exact ih1 ..
   | exact ih2 ..
   | exact ih3 ..
   | exact spec_l03Common.mono ..
   | exact ln_ _ | refine li_ ?_ ?_ | refine lb_ ?_ fun _ => ?_
  ·intro y0 y1 y2 y3 y4 y5 y6 y7 y8 y9 y10 y11 y12
   unfold spec_l03Tree.l2
   repeat' first
   | (with_reducible exact ih0 ..)
   | (with_reducible exact ih1 ..)
   | (with_reducible exact ih2 ..)
   | (with_reducible exact ih3 ..)
   | (with_reducible exact spec_l03Common.mono ..)
   | (with_reducible first | exact lr_ _ | exact ln_ _ | refine li_ ?_ ?_ | refine lb_ ?_ fun _ => ?_)
   | exact ih0 ..
   | exact ih1 ..
   | exact ih2 ..
   | exact ih3 ..
   | exact spec_l03Common.mono ..
   | exact ln_ _ | refine li_ ?_ ?_ | refine lb_ ?_ fun _ => ?_
  ·intro y0 y1 y2 y3 y4 y5 y6 y7 y8 y9 y10 y11 y12 y13 y14 y15
   unfold spec_l03Tree.l3
   repeat' first
   | (with_reducible exact ih0 ..)
   | (with_reducible exact ih1 ..)
   | (with_reducible exact ih2 ..)
   | (with_reducible exact ih3 ..)
   | (with_reducible exact spec_l03Common.mono ..)
   | (with_reducible first | exact lr_ _ | exact ln_ _ | refine li_ ?_ ?_ | refine lb_ ?_ fun _ => ?_)
   | exact ih0 ..
   | exact ih1 ..
   | exact ih2 ..
   | exact ih3 ..
   | exact spec_l03Common.mono ..
   | exact ln_ _ | refine li_ ?_ ?_ | refine lb_ ?_ fun _ => ?_
theorem spec_l03Tree.mono : ∀ a0 a1 a2 a3 a4 k, LeO (spec_l03Tree.f k a0 a1 a2 a3 a4) (spec_l03Tree.f (k + 1) a0 a1 a2 a3 a4) := by
 intro a0 a1 a2 a3 a4 k
 obtain ⟨ih0, ih1, ih2, ih3⟩ := spec_l03Tree.mono_l k
 unfold spec_l03Tree.f
 repeat' first
   | (with_reducible exact ih0 ..)
   | (with_reducible exact ih1 ..)
   | (with_reducible exact ih2 ..)
   | (with_reducible exact ih3 ..)
   | (with_reducible exact spec_l03Common.mono ..)
   | (with_reducible first | exact lr_ _ | exact ln_ _ | refine li_ ?_ ?_ | refine lb_ ?_ fun _ => ?_)
   | exact ih0 ..
   | exact ih1 ..
   | exact ih2 ..
   | exact ih3 ..
   | exact spec_l03Common.mono ..
   | exact ln_ _ | refine li_ ?_ ?_ | refine lb_ ?_ fun _ => ?_
def spec_l03Tree.T19 : Bool × List (List Nat × List Nat) := (true, [([], []), ([], []), ([0, 1], [0, 1]), ([2], [2]), ([], []), ([], []), ([4, 5], [4, 5]), ([6], [6]), ([3, 7], [3, 7])])
def spec_l03Tree.B19 : List Nat := [0, 0, 3, 7, 0, 0, 48, 112, 255]
theorem spec_l03Tree.tab19 : rtab .any (opsOf Try.f71 19) = spec_l03Tree.T19 := by kernel_rfl
theorem spec_l03Tree.bits19 : waitsOk spec_l03Tree.T19.2 spec_l03Tree.B19 = true := by kernel_rfl
set_option maxHeartbeats 8000000 in
set_option maxRecDepth 100000 in
theorem spec_l03Tree.calls (k : Nat) (g : Nat) (s0_0 : List Int) (s0_1 : Int) (s0_2 : Int) (a1_0 : Int) (a1_1 : Int) (r1 : Int) (r2 : Int) (r3 : Int) (r4 : Int) (r5 : Int) (w0 w : World) (hI : IsS94 w0 w g s0_0 s0_1 s0_2) (hB : Below w0.heap.size w0 w) (h : spec_l03Tree.f k s0_0 s0_1 s0_2 a1_0 a1_1 = some (r1, r2, r3, r4, r5)) :
  Calls Try.prog 71 #[.pointer (some ⟨g, 0, none⟩), .agg #[.int .i64 a1_0, .int .i64 a1_1]] w fun e w' => e = .returned (.agg #[.int .i64 r1, .int .i64 r2, .int .i64 r3]) ∧ IsS94 w0 w' g s0_0 r4 r5 ∧ Below w0.heap.size w0 w' ∧ KeepBut w w' g none := by
 have hu31 := Try.underlying31
 have hu33 := Try.underlying33
 have HI0 := Aside0.mk hI
 have HK := Aside0.mk (KeepBut.refl w g none)
 have HL := Aside0.mk hB.size
 clear hI
 have HW0 := Aside0.mk hB.size
 have HB := Aside0.mk hB
 clear hB
 have H : ((spec_CountGaps.f a1_0 a1_1).bind fun t504 => ((spec_CountCells.f a1_0 a1_1).bind fun t505 => (if 0 ≤ t505 then (if (t505 : Int).toNat ≤ 35184372088832 then (spec_l03Tree.l0 k t504 (List.replicate (t505 : Int).toNat 0) 0 s0_0 s0_1 s0_2 a1_0 a1_1 a1_0 a1_1 0) else (none)) else (none)))) = some (r1, r2, r3, r4, r5) := h
 clear h
 replace H := Option.bind_eq_some_iff.mp H
 obtain ⟨t504, A30, H⟩ := H
 replace H : ((spec_CountCells.f a1_0 a1_1).bind fun t505 => (if 0 ≤ t505 then (if (t505 : Int).toNat ≤ 35184372088832 then (spec_l03Tree.l0 k t504 (List.replicate (t505 : Int).toNat 0) 0 s0_0 s0_1 s0_2 a1_0 a1_1 a1_0 a1_1 0) else (none)) else (none))) = some (r1, r2, r3, r4, r5) := H
 have A3 := Aside0.mk A30
 clear A30
 replace H := Option.bind_eq_some_iff.mp H
 obtain ⟨t505, A40, H⟩ := H
 replace H : (if 0 ≤ t505 then (if (t505 : Int).toNat ≤ 35184372088832 then (spec_l03Tree.l0 k t504 (List.replicate (t505 : Int).toNat 0) 0 s0_0 s0_1 s0_2 a1_0 a1_1 a1_0 a1_1 0) else (none)) else (none)) = some (r1, r2, r3, r4, r5) := H
 have A4 := Aside0.mk A40
 clear A40
 by_cases c5 : 0 ≤ t505
 ·rw [if_pos c5] at H
  have c5b0 := eq_true c5
  have c5b1 : decide (0 ≤ t505) = true := decide_eq_true c5
  clear c5
  by_cases c6 : (t505 : Int).toNat ≤ 35184372088832
  ·rw [if_pos c6] at H
   have c6b0 := eq_true c6
   have c6b1 : decide ((t505 : Int).toNat ≤ 35184372088832) = true := decide_eq_true c6
   clear c6
   obtain ⟨y506, hy506⟩ : ∃ y_ : List Int, y_ = (List.replicate (t505 : Int).toNat 0) := ⟨_, rfl⟩
   replace H : (spec_l03Tree.l0 k t504 y506 0 s0_0 s0_1 s0_2 a1_0 a1_1 a1_0 a1_1 0) = some (r1, r2, r3, r4, r5) := by first | (rw [hy506]; with_reducible exact H) | (have H2_ := (Option.bind_some _ _).symm.trans H; rw [hy506]; with_reducible exact H2_) | (have H2_ := (Option.bind_some _ _).symm.trans H; with_reducible exact H2_) | with_reducible exact H | (rw [hy506]; exact H) | exact H
   have Ny506 := Aside0.mk hy506
   clear hy506
   have H' := Aside0.mk H
   clear H
   go_enter Try.func71, Try.ntmps71
   go_wp2_with (first | (refine box_ (N := 3) (cs := #[.int .i64 a1_0, .int .i64 a1_1]) (t := 31) ?_; intro gb501 hg w7 hbox hb; have n0_ := Aside0.mk (IsS94.below (by repeat (first | (with_reducible first | exact HI0.out | apply IsS94.alloc | apply IsS94.drewN | apply IsS94.drew | apply IsS94.set_1 | apply IsS94.set_2) | exact HI0.out)) hb); have n1_ := Aside0.mk (KeepBut.trans (by repeat (first | (with_reducible first | exact HK.out | apply KeepBut.set_ | apply keep_drewN | apply keep_drew | apply keep_alloc) | exact HK.out)) (KeepBut.of_below hb g none) (.inl rfl)); have n2_ := Aside0.mk (below_step (by repeat (first | (with_reducible first | exact HB.out | apply below_alloc | apply pw_below_drewN | apply below_drew1 | refine below_set ?_ (IsS94.ge HI0.out)) | exact HB.out)) hb); have n3_ := Aside0.mk (hbox); have n4_ := Aside0.mk ((by rw [hg]; exact (keep_size (w := w) (g := g) (row := none) (by repeat (first | (with_reducible first | exact HK.out | apply KeepBut.set_ | apply keep_drewN | apply keep_drew | apply keep_alloc) | exact HK.out))) : w.heap.size ≤ gb501)); have n5_ := Aside0.mk ((Nat.le_trans HW0.out (by rw [hg]; exact (keep_size (w := w) (g := g) (row := none) (by repeat (first | (with_reducible first | exact HK.out | apply KeepBut.set_ | apply keep_drewN | apply keep_drew | apply keep_alloc) | exact HK.out))) : w.heap.size ≤ gb501) : w0.heap.size ≤ gb501)); have n6_ := Aside0.mk ((by rw [hg]; exact Nat.ne_of_lt (IsS94.lt (show IsS94 w0 _ g s0_0 s0_1 s0_2 from by repeat (first | (with_reducible first | exact HI0.out | apply IsS94.alloc | apply IsS94.drewN | apply IsS94.drew | apply IsS94.set_1 | apply IsS94.set_2) | exact HI0.out))) : g ≠ gb501)); have n7_ := Aside0.mk ((by rw [hg]; exact Nat.ne_of_gt (IsS94.lt (show IsS94 w0 _ g s0_0 s0_1 s0_2 from by repeat (first | (with_reducible first | exact HI0.out | apply IsS94.alloc | apply IsS94.drewN | apply IsS94.drew | apply IsS94.set_1 | apply IsS94.set_2) | exact HI0.out))) : gb501 ≠ g)); clear HI0; clear HK; clear HB; have HI0 := n0_; have HK := n1_; have HB := n2_; have BK501 := n3_; have GW501 := n4_; have GE501 := n5_; have NB0_501 := n6_; have NB501_0 := n7_; clear n0_ n1_ n2_ n3_ n4_ n5_ n6_ n7_; clear hb hbox hg) | (refine box_ (N := 4) (cs := #[.int .i64 0, .int .i64 0, .int .i64 0]) (t := 33) ?_; intro gb502 hg w8 hbox hb; have n0_ := Aside0.mk (IsS94.below (by repeat (first | (with_reducible first | exact HI0.out | apply IsS94.alloc | apply IsS94.drewN | apply IsS94.drew | apply IsS94.set_1 | apply IsS94.set_2 | refine IsS94.far ?_ NB0_501.out _) | exact HI0.out)) hb); have n1_ := BK501.bb hb; have n2_ := Aside0.mk (KeepBut.trans (by repeat (first | (with_reducible first | exact HK.out | apply KeepBut.set_ | apply keep_drewN | apply keep_drew | apply keep_alloc | refine keep_far ?_ GW501.out _) | exact HK.out)) (KeepBut.of_below hb g none) (.inl rfl)); have n3_ := Aside0.mk (below_step (by repeat (first | (with_reducible first | exact HB.out | apply below_alloc | apply pw_below_drewN | apply below_drew1 | refine below_set ?_ (IsS94.ge HI0.out) | refine below_set ?_ GE501.out) | exact HB.out)) hb); have n4_ := Aside0.mk (hbox); have n5_ := Aside0.mk ((by rw [hg]; exact (keep_size (w := w) (g := g) (row := none) (by repeat (first | (with_reducible first | exact HK.out | apply KeepBut.set_ | apply keep_drewN | apply keep_drew | apply keep_alloc | refine keep_far ?_ GW501.out _) | exact HK.out))) : w.heap.size ≤ gb502)); have n6_ := Aside0.mk ((Nat.le_trans HW0.out (by rw [hg]; exact (keep_size (w := w) (g := g) (row := none) (by repeat (first | (with_reducible first | exact HK.out | apply KeepBut.set_ | apply keep_drewN | apply keep_drew | apply keep_alloc | refine keep_far ?_ GW501.out _) | exact HK.out))) : w.heap.size ≤ gb502) : w0.heap.size ≤ gb502)); have n7_ := BK501.nl hg; have n8_ := BK501.nr hg; have n9_ := Aside0.mk ((by rw [hg]; exact Nat.ne_of_lt (IsS94.lt (show IsS94 w0 _ g s0_0 s0_1 s0_2 from by repeat (first | (with_reducible first | exact HI0.out | apply IsS94.alloc | apply IsS94.drewN | apply IsS94.drew | apply IsS94.set_1 | apply IsS94.set_2 | refine IsS94.far ?_ NB0_501.out _) | exact HI0.out))) : g ≠ gb502)); have n10_ := Aside0.mk ((by rw [hg]; exact Nat.ne_of_gt (IsS94.lt (show IsS94 w0 _ g s0_0 s0_1 s0_2 from by repeat (first | (with_reducible first | exact HI0.out | apply IsS94.alloc | apply IsS94.drewN | apply IsS94.drew | apply IsS94.set_1 | apply IsS94.set_2 | refine IsS94.far ?_ NB0_501.out _) | exact HI0.out))) : gb502 ≠ g)); clear HI0; clear BK501; clear HK; clear HB; have HI0 := n0_; have BK501 := n1_; have HK := n2_; have HB := n3_; have BK502 := n4_; have GW502 := n5_; have GE502 := n6_; have NB501_502 := n7_; have NB502_501 := n8_; have NB0_502 := n9_; have NB502_0 := n10_; clear n0_ n1_ n2_ n3_ n4_ n5_ n6_ n7_ n8_ n9_ n10_; clear hb hbox hg; have hnb9 := NB501_502.out; have hnc9 := NB502_501.out; have hnb10 := NB501_0.out; have hnc10 := NB0_501.out; obtain ⟨hcz11_0, hcz11_1⟩ := cz2_ BK501.out; obtain ⟨hfz11_0, hfz11_1⟩ := fz2_ BK501.out) | (refine box_ (N := 5) (cs := #[.int .i64 0, .int .i64 0, .int .i64 0]) (t := 33) ?_; intro gb503 hg w12 hbox hb; have n0_ := Aside0.mk (IsS94.below (by repeat (first | (with_reducible first | exact HI0.out | apply IsS94.alloc | apply IsS94.drewN | apply IsS94.drew | apply IsS94.set_1 | apply IsS94.set_2 | refine IsS94.far ?_ NB0_501.out _ | refine IsS94.far ?_ NB0_502.out _) | exact HI0.out)) hb); have n1_ := BK501.bb hb; have n2_ := BK502.bb hb; have n3_ := Aside0.mk (KeepBut.trans (by repeat (first | (with_reducible first | exact HK.out | apply KeepBut.set_ | apply keep_drewN | apply keep_drew | apply keep_alloc | refine keep_far ?_ GW501.out _ | refine keep_far ?_ GW502.out _) | exact HK.out)) (KeepBut.of_below hb g none) (.inl rfl)); have n4_ := Aside0.mk (below_step (by repeat (first | (with_reducible first | exact HB.out | apply below_alloc | apply pw_below_drewN | apply below_drew1 | refine below_set ?_ (IsS94.ge HI0.out) | refine below_set ?_ GE501.out | refine below_set ?_ GE502.out) | exact HB.out)) hb); have n5_ := Aside0.mk (hbox); have n6_ := Aside0.mk ((by rw [hg]; exact (keep_size (w := w) (g := g) (row := none) (by repeat (first | (with_reducible first | exact HK.out | apply KeepBut.set_ | apply keep_drewN | apply keep_drew | apply keep_alloc | refine keep_far ?_ GW501.out _ | refine keep_far ?_ GW502.out _) | exact HK.out))) : w.heap.size ≤ gb503)); have n7_ := Aside0.mk ((Nat.le_trans HW0.out (by rw [hg]; exact (keep_size (w := w) (g := g) (row := none) (by repeat (first | (with_reducible first | exact HK.out | apply KeepBut.set_ | apply keep_drewN | apply keep_drew | apply keep_alloc | refine keep_far ?_ GW501.out _ | refine keep_far ?_ GW502.out _) | exact HK.out))) : w.heap.size ≤ gb503) : w0.heap.size ≤ gb503)); have n8_ := BK501.nl hg; have n9_ := BK501.nr hg; have n10_ := BK502.nl hg; have n11_ := BK502.nr hg; have n12_ := Aside0.mk ((by rw [hg]; exact Nat.ne_of_lt (IsS94.lt (show IsS94 w0 _ g s0_0 s0_1 s0_2 from by repeat (first | (with_reducible first | exact HI0.out | apply IsS94.alloc | apply IsS94.drewN | apply IsS94.drew | apply IsS94.set_1 | apply IsS94.set_2 | refine IsS94.far ?_ NB0_501.out _ | refine IsS94.far ?_ NB0_502.out _) | exact HI0.out))) : g ≠ gb503)); have n13_ := Aside0.mk ((by rw [hg]; exact Nat.ne_of_gt (IsS94.lt (show IsS94 w0 _ g s0_0 s0_1 s0_2 from by repeat (first | (with_reducible first | exact HI0.out | apply IsS94.alloc | apply IsS94.drewN | apply IsS94.drew | apply IsS94.set_1 | apply IsS94.set_2 | refine IsS94.far ?_ NB0_501.out _ | refine IsS94.far ?_ NB0_502.out _) | exact HI0.out))) : gb503 ≠ g)); clear HI0; clear BK501; clear BK502; clear HK; clear HB; have HI0 := n0_; have BK501 := n1_; have BK502 := n2_; have HK := n3_; have HB := n4_; have BK503 := n5_; have GW503 := n6_; have GE503 := n7_; have NB501_503 := n8_; have NB503_501 := n9_; have NB502_503 := n10_; have NB503_502 := n11_; have NB0_503 := n12_; have NB503_0 := n13_; clear n0_ n1_ n2_ n3_ n4_ n5_ n6_ n7_ n8_ n9_ n10_ n11_ n12_ n13_; clear hb hbox hg; have hnb13 := NB503_501.out; have hnc13 := NB501_503.out; have hnb14 := NB503_502.out; have hnc14 := NB502_503.out; have hnb15 := NB503_0.out; have hnc15 := NB0_503.out; obtain ⟨hcz16_0, hcz16_1, hcz16_2⟩ := cz3_ BK503.out; obtain ⟨hfz16_0, hfz16_1, hfz16_2⟩ := fz3_ BK503.out; obtain ⟨hcz17_0, hcz17_1⟩ := cz2_ BK501.out; obtain ⟨hfz17_0, hfz17_1⟩ := fz2_ BK501.out) | (refine gl_ 20 Try.func72 #[.agg #[.int .i64 a1_0, .int .i64 a1_1]] ?_; (with_reducible refine (spec_CountGaps.calls a1_0 a1_1 t504 _ A3.out).mono ?_); rintro e w18 ⟨rfl, hb⟩; refine ⟨_, rfl, ?_⟩; have n0_ := Aside0.mk (IsS94.below (show IsS94 w0 (((w12.setCell ⟨gb503, 0, none⟩ (.int .i64 a1_0)).setCell ⟨gb503, 1, none⟩ (.int .i64 a1_1)).setCell ⟨gb503, 2, none⟩ (.int .i64 0)) g s0_0 s0_1 s0_2 from by repeat (first | (with_reducible first | exact HI0.out | apply IsS94.alloc | apply IsS94.drewN | apply IsS94.drew | apply IsS94.set_1 | apply IsS94.set_2 | refine IsS94.far ?_ NB0_501.out _ | refine IsS94.far ?_ NB0_502.out _ | refine IsS94.far ?_ NB0_503.out _) | exact HI0.out)) hb); have n1_ := Aside0.mk (blk_below (g := gb501) (o := .cells #[.int .i64 a1_0, .int .i64 a1_1] 31 (0, 0)) (by (with_reducible repeat (first | refine blk_drewN ?_ _ | refine blk_drew ?_ | refine blk_alloc ?_ _)); refine blk_far ?_ NB501_503.out _; (with_reducible repeat (first | refine blk_drewN ?_ _ | refine blk_drew ?_ | refine blk_alloc ?_ _)); refine blk_far ?_ NB501_503.out _; (with_reducible repeat (first | refine blk_drewN ?_ _ | refine blk_drew ?_ | refine blk_alloc ?_ _)); refine blk_far ?_ NB501_503.out _; (with_reducible repeat (first | refine blk_drewN ?_ _ | refine blk_drew ?_ | refine blk_alloc ?_ _)); exact BK501.out) hb); have n2_ := Aside0.mk (blk_below (g := gb502) (o := .cells #[.int .i64 0, .int .i64 0, .int .i64 0] 33 (0, 0)) (by (with_reducible repeat (first | refine blk_drewN ?_ _ | refine blk_drew ?_ | refine blk_alloc ?_ _)); refine blk_far ?_ NB502_503.out _; (with_reducible repeat (first | refine blk_drewN ?_ _ | refine blk_drew ?_ | refine blk_alloc ?_ _)); refine blk_far ?_ NB502_503.out _; (with_reducible repeat (first | refine blk_drewN ?_ _ | refine blk_drew ?_ | refine blk_alloc ?_ _)); refine blk_far ?_ NB502_503.out _; (with_reducible repeat (first | refine blk_drewN ?_ _ | refine blk_drew ?_ | refine blk_alloc ?_ _)); exact BK502.out) hb); have n3_ := Aside0.mk (blk_below (bq3_ BK503.out) hb); have n4_ := Aside0.mk (KeepBut.trans (by repeat (first | (with_reducible first | exact HK.out | apply KeepBut.set_ | apply keep_drewN | apply keep_drew | apply keep_alloc | refine keep_far ?_ GW501.out _ | refine keep_far ?_ GW502.out _ | refine keep_far ?_ GW503.out _) | exact HK.out)) (KeepBut.of_below hb g none) (.inl rfl)); have n5_ := Aside0.mk (below_step (by repeat (first | (with_reducible first | exact HB.out | apply below_alloc | apply pw_below_drewN | apply below_drew1 | refine below_set ?_ (IsS94.ge HI0.out) | refine below_set ?_ GE501.out | refine below_set ?_ GE502.out | refine below_set ?_ GE503.out) | exact HB.out)) hb); clear HI0; clear BK501; clear BK502; clear BK503; clear HK; clear HB; have HI0 := n0_; have BK501 := n1_; have BK502 := n2_; have BK503 := n3_; have HK := n4_; have HB := n5_; clear n0_ n1_ n2_ n3_ n4_ n5_; obtain ⟨hcz19_0, hcz19_1⟩ := cz2_ BK501.out; obtain ⟨hfz19_0, hfz19_1⟩ := fz2_ BK501.out) | (refine gl_ 22 Try.func43 #[.agg #[.int .i64 a1_0, .int .i64 a1_1]] ?_; (with_reducible refine (spec_CountCells.calls a1_0 a1_1 t505 _ A4.out).mono ?_); rintro e w20 ⟨rfl, hb⟩; refine ⟨_, rfl, ?_⟩; replace BK501 := BK501.bb hb; replace BK502 := BK502.bb hb; replace BK503 := BK503.bb hb; replace HK := Aside0.mk (KeepBut.trans (by repeat (first | (with_reducible first | exact HK.out | apply KeepBut.set_ | apply keep_drewN | apply keep_drew | apply keep_alloc | refine keep_far ?_ GW501.out _ | refine keep_far ?_ GW502.out _ | refine keep_far ?_ GW503.out _) | exact HK.out)) (KeepBut.of_below hb g none) (.inl rfl)); replace HB := Aside0.mk (below_step (by repeat (first | (with_reducible first | exact HB.out | apply below_alloc | apply pw_below_drewN | apply below_drew1 | refine below_set ?_ (IsS94.ge HI0.out) | refine below_set ?_ GE501.out | refine below_set ?_ GE502.out | refine below_set ?_ GE503.out) | exact HB.out)) hb); replace HI0 := Aside0.mk (IsS94.below (by repeat (first | (with_reducible first | exact HI0.out | apply IsS94.alloc | apply IsS94.drewN | apply IsS94.drew | apply IsS94.set_1 | apply IsS94.set_2 | refine IsS94.far ?_ NB0_501.out _ | refine IsS94.far ?_ NB0_502.out _ | refine IsS94.far ?_ NB0_503.out _) | exact HI0.out)) hb)) | ((with_reducible refine gate_dst (N := 23) rfl ?_); refine Kd.R_make (Kd.int .i64) _ 3 rfl (N := 23) rfl 42 _ _ rfl t505 rfl rfl Try.underlying42 (.int .i64 0) 8 info3 rfl (by decide) (by omega) 0 (ok := fun _ => True) (okp := fun _ => True) rfl (fun _ hk => hk) trivial (of_decide_eq_true (as_)) (Nat.le_trans (Nat.mul_le_mul_right _ (of_decide_eq_true (as_) : t505.toNat ≤ 35184372088832)) (by omega)) (Below.refl _ _) (Nat.le_refl _) ?_; intro v507 w21 ho22 hb hg_ hnew_; clear hg_ hnew_; (first | rw [← Ny506.out] at ho22 | (simp only [Int.reduceToNat] at ho22; rw [← Ny506.out] at ho22)); have HO508 := Aside0.mk (Kd.R_lower ho22 (keep_size (w := w) (g := g) (row := none) (by repeat (first | (with_reducible first | exact HK.out | apply KeepBut.set_ | apply keep_drewN | apply keep_drew | apply keep_alloc | refine keep_far ?_ GW501.out _ | refine keep_far ?_ GW502.out _ | refine keep_far ?_ GW503.out _) | exact HK.out)))); replace BK501 := BK501.bb hb; replace BK502 := BK502.bb hb; replace BK503 := BK503.bb hb; replace HK := Aside0.mk (KeepBut.trans (by repeat (first | (with_reducible first | exact HK.out | apply KeepBut.set_ | apply keep_drewN | apply keep_drew | apply keep_alloc | refine keep_far ?_ GW501.out _ | refine keep_far ?_ GW502.out _ | refine keep_far ?_ GW503.out _) | exact HK.out)) (KeepBut.of_below hb g none) (.inl rfl)); replace HB := Aside0.mk (below_step (by repeat (first | (with_reducible first | exact HB.out | apply below_alloc | apply pw_below_drewN | apply below_drew1 | refine below_set ?_ (IsS94.ge HI0.out) | refine below_set ?_ GE501.out | refine below_set ?_ GE502.out | refine below_set ?_ GE503.out) | exact HB.out)) hb); replace HI0 := Aside0.mk (IsS94.below (by repeat (first | (with_reducible first | exact HI0.out | apply IsS94.alloc | apply IsS94.drewN | apply IsS94.drew | apply IsS94.set_1 | apply IsS94.set_2 | refine IsS94.far ?_ NB0_501.out _ | refine IsS94.far ?_ NB0_502.out _ | refine IsS94.far ?_ NB0_503.out _) | exact HI0.out)) hb); clear hb ho22))
   go_loopg [8] k (fun kq v8 w' => ∃ (x7_1 : List Int) (x8_1 : Int), v8 = .int .i64 x8_1 ∧ Aside0 (spec_l03Tree.l0 kq t504 x7_1 x8_1 s0_0 s0_1 s0_2 a1_0 a1_1 a1_0 a1_1 0 = some (r1, r2, r3, r4, r5)) ∧ Aside0 (kq ≤ k) ∧ Aside0 (Kd.R (Kd.int .i64) 3 w' w.heap.size (fun _ => True) v507 x7_1) ∧ Aside0 (w'.heap[gb501]? = some (.cells #[.int .i64 a1_0, .int .i64 a1_1] 31 (0, 0))) ∧ Aside0 (w'.heap[gb502]? = some (.cells #[.int .i64 0, .int .i64 0, .int .i64 0] 33 (0, 0))) ∧ Aside0 (w'.heap[gb503]? = some (.cells #[.int .i64 a1_0, .int .i64 a1_1, .int .i64 0] 33 (0, 0))) ∧ Aside0 (IsS94 w0 w' g s0_0 s0_1 s0_2) ∧ Aside0 (KeepBut w w' g none) ∧ Aside0 (Below w0.heap.size w0 w'))
   case atStart => exact ⟨(y506), (0), (by first | rfl | (simp; done) | (simp [*]; done)), H', ⟨Nat.le_refl _⟩, ⟨kr_ HO508.out⟩, ⟨bk_ BK501.out⟩, ⟨bk_ BK502.out⟩, ⟨bk_ BK503.out⟩, ⟨by repeat (first | (with_reducible first | exact HI0.out | apply IsS94.alloc | apply IsS94.drewN | apply IsS94.drew | apply IsS94.set_1 | apply IsS94.set_2 | refine IsS94.far ?_ NB0_501.out _ | refine IsS94.far ?_ NB0_502.out _ | refine IsS94.far ?_ NB0_503.out _) | exact HI0.out)⟩, ⟨by repeat (first | (with_reducible first | exact HK.out | apply KeepBut.set_ | apply keep_drewN | apply keep_drew | apply keep_alloc | refine keep_far ?_ GW501.out _ | refine keep_far ?_ GW502.out _ | refine keep_far ?_ GW503.out _) | exact HK.out)⟩, ⟨by repeat (first | (with_reducible first | exact HB.out | apply below_alloc | apply pw_below_drewN | apply below_drew1 | refine below_set ?_ (IsS94.ge HI0.out) | refine below_set ?_ GE501.out | refine below_set ?_ GE502.out | refine below_set ?_ GE503.out) | exact HB.out)⟩⟩
   case round =>
    clear H'
    try clear c1
    try clear p2
    try clear c4
    try clear c5
    try clear c5b0
    try clear c5b1
    try clear c6
    try clear c6b0
    try clear c6b1
    try clear c7
    try clear c9
    try clear c10
    try clear c13
    try clear c14
    try clear c15
    try clear hcz11_0
    try clear hcz11_1
    try clear hcz16_0
    try clear hcz16_1
    try clear hcz16_2
    try clear hcz17_0
    try clear hcz17_1
    try clear hcz19_0
    try clear hcz19_1
    try clear hfz11_0
    try clear hfz11_1
    try clear hfz16_0
    try clear hfz16_1
    try clear hfz16_2
    try clear hfz17_0
    try clear hfz17_1
    try clear hfz19_0
    try clear hfz19_1
    obtain ⟨x7_1, x8_1, rfl, HA, HK1, HO_7, BK501, BK502, BK503, HI0, HK, HB⟩ := hrel
    cases gk with
    | zero => exact absurd HA.out (by simp [spec_l03Tree.l0])
    | succ k1 =>
     have H := HA.out
     clear HA
     simp only [spec_l03Tree.l0] at H
     by_cases c23 : x8_1 < (x7_1.length : Int)
     ·rw [if_pos c23] at H
      have c23b0 : decide (x8_1 < (x7_1.length : Int)) = true := decide_eq_true c23
      clear c23
      by_cases c24 : 0 ≤ x8_1
      ·rw [if_pos c24] at H
       have c24b0 : decide (0 ≤ x8_1) = true := decide_eq_true c24
       clear c24
       obtain ⟨y509, hy509⟩ : ∃ y_ : List Int, y_ = (x7_1.set (x8_1 : Int).toNat x8_1) := ⟨_, rfl⟩
       replace H : (spec_l03Tree.l0 k1 t504 y509 (wrap64 (x8_1 + 1)) s0_0 s0_1 s0_2 a1_0 a1_1 a1_0 a1_1 0) = some (r1, r2, r3, r4, r5) := by first | (rw [hy509]; with_reducible exact H) | (have H2_ := (Option.bind_some _ _).symm.trans H; rw [hy509]; with_reducible exact H2_) | (have H2_ := (Option.bind_some _ _).symm.trans H; with_reducible exact H2_) | with_reducible exact H | (rw [hy509]; exact H) | exact H
       have Ny509 := Aside0.mk hy509
       clear hy509
       have H' := Aside0.mk H
       clear H
       obtain ⟨Ao26, co26, eo26⟩ := Kd.R_slice HO_7.out
       subst eo26
       have p25 : 0 ≤ (x8_1 : Int) := of_decide_eq_true (as_)
       have q25 : (x8_1 : Int) < ((x7_1.length : Int) : Int) := of_decide_eq_true (as_)
       obtain ⟨go25, co25, eo25, gb25, gl25, cl25, HG25⟩ := Kd.R_form HO_7.out (by omega)
       (first | cases eo25 | (injection eo25 with ea_ en_ ec_; (first | subst ea_ | (injection ea_ with ea_; subst ea_)); subst ec_; clear en_))
       have GB25 := Aside0.mk gb25
       have GG25 := Aside0.mk HG25
       clear gb25 gl25 HG25
       obtain ⟨hx25_0, hf25_0⟩ := Kd.R_celln 0 HO_7.out (x8_1 : Int) p25 q25
       replace p25 := eq_true p25
       replace q25 := eq_true q25
       have HP27 := Kd.R_putg HO_7.out (x8_1 : Int) x8_1
       go_wp2_with (first | ((with_reducible refine gate_store (t := 3) (p := 33) rfl ?_); refine store_event (t := 3) (p := 33) (v := ?vo_w28) (w1 := (wr.setCell ⟨go25, (x8_1 : Int).toNat, none⟩ (.int .i64 x8_1))) ?hg ?ho ?hn ?hr ?_; (case ho => rfl); (case hg => rfl); (case hn => rfl); (case hr => first | (go_simp; done) | (go_simp; rfl)); intro w28 hw; have hg : wr.grownBy w28 (some go25) := (by rw [hw]; exact HP27.2); have hp_ : Kd.R (Kd.int .i64) 3 w28 w.heap.size (fun _ => True) (.slice (some ⟨go25, 0, none⟩) x7_1.length co26) y509 := (by rw [hw, Ny509.out]; exact HP27.1); clear HP27; have n0_ := Aside0.mk (hp_); have n1_ := Aside0.mk (blk_grown (g := gb501) (o := .cells #[.int .i64 a1_0, .int .i64 a1_1] 31 (0, 0)) (bk_ BK501.out) hg (Kd.R_ne HO_7.out BK501.out (by decide))); have n2_ := Aside0.mk (blk_grown (g := gb502) (o := .cells #[.int .i64 0, .int .i64 0, .int .i64 0] 33 (0, 0)) (bk_ BK502.out) hg (Kd.R_ne HO_7.out BK502.out (by decide))); have n3_ := Aside0.mk (blk_grown (g := gb503) (o := .cells #[.int .i64 a1_0, .int .i64 a1_1, .int .i64 0] 33 (0, 0)) (bk_ BK503.out) hg (Kd.R_ne HO_7.out BK503.out (by decide))); have n4_ := Aside0.mk (IsS94.grown (by repeat (first | (with_reducible first | exact HI0.out | apply IsS94.alloc | apply IsS94.drewN | apply IsS94.drew | apply IsS94.set_1 | apply IsS94.set_2 | refine IsS94.far ?_ NB0_501.out _ | refine IsS94.far ?_ NB0_502.out _ | refine IsS94.far ?_ NB0_503.out _) | exact HI0.out)) hg (IsS94.own_ne HI0.out HO_7.out (by decide))); have n5_ := Aside0.mk ((by rw [hw]; exact below_set (HB.out) (Nat.le_trans HL.out GB25.out) : Below w0.heap.size w0 w28)); have n6_ := Aside0.mk (KeepBut.trans (by repeat (first | (with_reducible first | exact HK.out | apply KeepBut.set_ | apply keep_drewN | apply keep_drew | apply keep_alloc | refine keep_far ?_ GW501.out _ | refine keep_far ?_ GW502.out _ | refine keep_far ?_ GW503.out _) | exact HK.out)) (KeepBut.of_grown hg g) (Kd.R_base2 HO_7.out)); clear HO_7; clear BK501; clear BK502; clear BK503; clear HI0; clear HB; clear HK; have HO_7 := n0_; have BK501 := n1_; have BK502 := n2_; have BK503 := n3_; have HI0 := n4_; have HB := n5_; have HK := n6_; clear n0_ n1_ n2_ n3_ n4_ n5_ n6_; clear hg hw hp_))
       go_roundg k1
       case measure => have := HK1.out; omega
       case rel => exact ⟨(y509), (wrap64 (x8_1 + 1)), (by first | rfl | (simp; done) | (simp [*]; done)), H', ⟨by have := HK1.out; omega⟩, ⟨kr_ HO_7.out⟩, ⟨bk_ BK501.out⟩, ⟨bk_ BK502.out⟩, ⟨bk_ BK503.out⟩, ⟨by repeat (first | (with_reducible first | exact HI0.out | apply IsS94.alloc | apply IsS94.drewN | apply IsS94.drew | apply IsS94.set_1 | apply IsS94.set_2 | refine IsS94.far ?_ NB0_501.out _ | refine IsS94.far ?_ NB0_502.out _ | refine IsS94.far ?_ NB0_503.out _) | exact HI0.out)⟩, ⟨by repeat (first | (with_reducible first | exact HK.out | apply KeepBut.set_ | apply keep_drewN | apply keep_drew | apply keep_alloc | refine keep_far ?_ GW501.out _ | refine keep_far ?_ GW502.out _ | refine keep_far ?_ GW503.out _) | exact HK.out)⟩, ⟨by repeat (first | (with_reducible first | exact HB.out | apply below_alloc | apply pw_below_drewN | apply below_drew1 | refine below_set ?_ (IsS94.ge HI0.out) | refine below_set ?_ GE501.out | refine below_set ?_ GE502.out | refine below_set ?_ GE503.out) | exact HB.out)⟩⟩
      ·rw [if_neg c24] at H
       exact absurd H (by simp)
     ·rw [if_neg c23] at H
      have c23b0 : decide (x8_1 < (x7_1.length : Int)) = false := decide_eq_false c23
      clear c23
      by_cases c29 : t504 = 0
      ·rw [if_pos c29] at H
       have c29b0 : (t504 == 0) = true := beq_iff_eq.mpr c29
       have c29b1 : (t504 != 0) = false := bne_eq_false_iff_eq.mpr c29
       clear c29
       simp only [Option.some.injEq, Prod.mk.injEq] at H
       obtain ⟨rfl, rfl, rfl, rfl, rfl⟩ := H
       obtain ⟨Ao30, co30, eo30⟩ := Kd.R_slice HO_7.out
       subst eo30
       have hnb31 := NB503_501.out
       have hnc31 := NB501_503.out
       have hnb32 := NB503_502.out
       have hnc32 := NB502_503.out
       have hnb33 := NB503_0.out
       have hnc33 := NB0_503.out
       obtain ⟨hcz34_0, hcz34_1, hcz34_2⟩ := cz3_ BK503.out
       obtain ⟨hfz34_0, hfz34_1, hfz34_2⟩ := fz3_ BK503.out
       have hnb35 := NB502_501.out
       have hnc35 := NB501_502.out
       have hnb36 := NB502_0.out
       have hnc36 := NB0_502.out
       obtain ⟨hcz37_0, hcz37_1, hcz37_2⟩ := cz3_ BK502.out
       obtain ⟨hfz37_0, hfz37_1, hfz37_2⟩ := fz3_ BK502.out
       go_wp2
       refine bodyPost_ret (results_cell_row rfl _ _ gb502 33 #[.int .i64 a1_0, .int .i64 a1_1, .int .i64 0] (0, 0) _ rfl (bq3_ BK502.out) Try.underlying33 rfl (by kernel_rfl)) rfl ?_
       exact ⟨ex_, by repeat (first | (with_reducible first | exact HI0.out | apply IsS94.alloc | apply IsS94.drewN | apply IsS94.drew | apply IsS94.set_1 | apply IsS94.set_2 | refine IsS94.far ?_ NB0_501.out _ | refine IsS94.far ?_ NB0_502.out _ | refine IsS94.far ?_ NB0_503.out _) | exact HI0.out), by repeat (first | (with_reducible first | exact HB.out | apply below_alloc | apply pw_below_drewN | apply below_drew1 | refine below_set ?_ (IsS94.ge HI0.out) | refine below_set ?_ GE501.out | refine below_set ?_ GE502.out | refine below_set ?_ GE503.out) | exact HB.out), by repeat (first | (with_reducible first | exact HK.out | apply KeepBut.set_ | apply keep_drewN | apply keep_drew | apply keep_alloc | refine keep_far ?_ GW501.out _ | refine keep_far ?_ GW502.out _ | refine keep_far ?_ GW503.out _) | exact HK.out)⟩
      ·rw [if_neg c29] at H
       have c29b0 : (t504 == 0) = false := beq_eq_false_iff_ne.mpr c29
       have c29b1 : (t504 != 0) = true := bne_iff_ne.mpr c29
       replace H := Option.bind_eq_some_iff.mp H
       obtain ⟨⟨t510, t511, t512⟩, A380, H⟩ := H
       replace H : ((spec_l01Below.f s0_0 t511 t512 t504).bind fun bt513 => (spec_l03Tree.l1 k1 t504 x7_1 t510 (wrap64 (1 + bt513.1)) s0_0 bt513.2.1 bt513.2.2 a1_0 a1_1 a1_0 a1_1 0)) = some (r1, r2, r3, r4, r5) := H
       have A38 := Aside0.mk A380
       clear A380
       replace H := Option.bind_eq_some_iff.mp H
       obtain ⟨⟨t513, t514, t515⟩, A390, H⟩ := H
       replace H : (spec_l03Tree.l1 k1 t504 x7_1 t510 (wrap64 (1 + t513)) s0_0 t514 t515 a1_0 a1_1 a1_0 a1_1 0) = some (r1, r2, r3, r4, r5) := H
       have A39 := Aside0.mk A390
       clear A390
       have H' := Aside0.mk H
       clear H
       obtain ⟨Ao40, co40, eo40⟩ := Kd.R_slice HO_7.out
       subst eo40
       go_wp2_with (first | (refine gl_ 39 Try.func49 #[.pointer (some ⟨g, 0, none⟩), .int .i64 t504] ?_; (with_reducible refine (spec_l01Below.calls g s0_0 s0_1 s0_2 t504 t510 t511 t512 w0 _ ?side1 ?side2 A38.out).mono ?_); (case side1 => repeat (first | (with_reducible first | exact HI0.out | apply IsS94.alloc | apply IsS94.drewN | apply IsS94.drew | apply IsS94.set_1 | apply IsS94.set_2 | refine IsS94.far ?_ NB0_501.out _ | refine IsS94.far ?_ NB0_502.out _ | refine IsS94.far ?_ NB0_503.out _) | exact HI0.out)); (case side2 => repeat (first | (with_reducible first | exact HB.out | apply below_alloc | apply pw_below_drewN | apply below_drew1 | refine below_set ?_ (IsS94.ge HI0.out) | refine below_set ?_ GE501.out | refine below_set ?_ GE502.out | refine below_set ?_ GE503.out) | exact HB.out)); rintro e w41 ⟨rfl, hi, hb, hk⟩; refine ⟨_, rfl, ?_⟩; replace HO_7 := Aside0.mk (Kd.R_mono (Kd.R_keep (IsS94.apart (show IsS94 w0 _ g s0_0 s0_1 s0_2 from by repeat (first | (with_reducible first | exact HI0.out | apply IsS94.alloc | apply IsS94.drewN | apply IsS94.drew | apply IsS94.set_1 | apply IsS94.set_2 | refine IsS94.far ?_ NB0_501.out _ | refine IsS94.far ?_ NB0_502.out _ | refine IsS94.far ?_ NB0_503.out _) | exact HI0.out)) (kr_ HO_7.out) (by decide)) hk (fun _ h => h.2)) (fun _ h => h.1)); replace BK501 := Aside0.mk (KeepBut.blk hk (g' := gb501) (o := .cells #[.int .i64 a1_0, .int .i64 a1_1] 31 (0, 0)) (bk_ BK501.out) NB501_0.out (by simp)); replace BK502 := Aside0.mk (KeepBut.blk hk (g' := gb502) (o := .cells #[.int .i64 0, .int .i64 0, .int .i64 0] 33 (0, 0)) (bk_ BK502.out) NB502_0.out (by simp)); replace BK503 := Aside0.mk (KeepBut.blk hk (g' := gb503) (o := .cells #[.int .i64 a1_0, .int .i64 a1_1, .int .i64 0] 33 (0, 0)) (bk_ BK503.out) NB503_0.out (by simp)); replace HK := Aside0.mk (KeepBut.trans (by repeat (first | (with_reducible first | exact HK.out | apply KeepBut.set_ | apply keep_drewN | apply keep_drew | apply keep_alloc | refine keep_far ?_ GW501.out _ | refine keep_far ?_ GW502.out _ | refine keep_far ?_ GW503.out _) | exact HK.out)) hk (.inl rfl)); replace HB := Aside0.mk (hb); replace HI0 := Aside0.mk (hi)) | (refine gl_ 42 Try.func49 #[.pointer (some ⟨g, 0, none⟩), .int .i64 t504] ?_; (with_reducible refine (spec_l01Below.calls g s0_0 t511 t512 t504 t513 t514 t515 w0 _ ?side1 ?side2 A39.out).mono ?_); (case side1 => repeat (first | (with_reducible first | exact HI0.out | apply IsS94.alloc | apply IsS94.drewN | apply IsS94.drew | apply IsS94.set_1 | apply IsS94.set_2 | refine IsS94.far ?_ NB0_501.out _ | refine IsS94.far ?_ NB0_502.out _ | refine IsS94.far ?_ NB0_503.out _) | exact HI0.out)); (case side2 => repeat (first | (with_reducible first | exact HB.out | apply below_alloc | apply pw_below_drewN | apply below_drew1 | refine below_set ?_ (IsS94.ge HI0.out) | refine below_set ?_ GE501.out | refine below_set ?_ GE502.out | refine below_set ?_ GE503.out) | exact HB.out)); rintro e w42 ⟨rfl, hi, hb, hk⟩; refine ⟨_, rfl, ?_⟩; replace HO_7 := Aside0.mk (Kd.R_mono (Kd.R_keep (IsS94.apart (show IsS94 w0 _ g s0_0 t511 t512 from by repeat (first | (with_reducible first | exact HI0.out | apply IsS94.alloc | apply IsS94.drewN | apply IsS94.drew | apply IsS94.set_1 | apply IsS94.set_2 | refine IsS94.far ?_ NB0_501.out _ | refine IsS94.far ?_ NB0_502.out _ | refine IsS94.far ?_ NB0_503.out _) | exact HI0.out)) (kr_ HO_7.out) (by decide)) hk (fun _ h => h.2)) (fun _ h => h.1)); replace BK501 := Aside0.mk (KeepBut.blk hk (g' := gb501) (o := .cells #[.int .i64 a1_0, .int .i64 a1_1] 31 (0, 0)) (bk_ BK501.out) NB501_0.out (by simp)); replace BK502 := Aside0.mk (KeepBut.blk hk (g' := gb502) (o := .cells #[.int .i64 0, .int .i64 0, .int .i64 0] 33 (0, 0)) (bk_ BK502.out) NB502_0.out (by simp)); replace BK503 := Aside0.mk (KeepBut.blk hk (g' := gb503) (o := .cells #[.int .i64 a1_0, .int .i64 a1_1, .int .i64 0] 33 (0, 0)) (bk_ BK503.out) NB503_0.out (by simp)); replace HK := Aside0.mk (KeepBut.trans (by repeat (first | (with_reducible first | exact HK.out | apply KeepBut.set_ | apply keep_drewN | apply keep_drew | apply keep_alloc | refine keep_far ?_ GW501.out _ | refine keep_far ?_ GW502.out _ | refine keep_far ?_ GW503.out _) | exact HK.out)) hk (.inl rfl)); replace HB := Aside0.mk (hb); replace HI0 := Aside0.mk (hi)))
       go_loopg [10] k1 (fun kq v10 w' => ∃ (x10_2 : Int), v10 = .int .i64 x10_2 ∧ Aside0 (spec_l03Tree.l1 kq t504 x7_1 t510 x10_2 s0_0 t514 t515 a1_0 a1_1 a1_0 a1_1 0 = some (r1, r2, r3, r4, r5)) ∧ Aside0 (kq ≤ k1) ∧ Aside0 (Kd.R (Kd.int .i64) 3 w' w.heap.size (fun _ => True) (.slice Ao40 x7_1.length co40) x7_1) ∧ Aside0 (w'.heap[gb501]? = some (.cells #[.int .i64 a1_0, .int .i64 a1_1] 31 (0, 0))) ∧ Aside0 (w'.heap[gb502]? = some (.cells #[.int .i64 0, .int .i64 0, .int .i64 0] 33 (0, 0))) ∧ Aside0 (w'.heap[gb503]? = some (.cells #[.int .i64 a1_0, .int .i64 a1_1, .int .i64 0] 33 (0, 0))) ∧ Aside0 (IsS94 w0 w' g s0_0 t514 t515) ∧ Aside0 (KeepBut w w' g none) ∧ Aside0 (Below w0.heap.size w0 w'))
       case atStart => exact ⟨(wrap64 (1 + t513)), (by first | rfl | (simp; done) | (simp [*]; done)), H', ⟨Nat.le_refl _⟩, ⟨kr_ HO_7.out⟩, ⟨bk_ BK501.out⟩, ⟨bk_ BK502.out⟩, ⟨bk_ BK503.out⟩, ⟨by repeat (first | (with_reducible first | exact HI0.out | apply IsS94.alloc | apply IsS94.drewN | apply IsS94.drew | apply IsS94.set_1 | apply IsS94.set_2 | refine IsS94.far ?_ NB0_501.out _ | refine IsS94.far ?_ NB0_502.out _ | refine IsS94.far ?_ NB0_503.out _) | exact HI0.out)⟩, ⟨by repeat (first | (with_reducible first | exact HK.out | apply KeepBut.set_ | apply keep_drewN | apply keep_drew | apply keep_alloc | refine keep_far ?_ GW501.out _ | refine keep_far ?_ GW502.out _ | refine keep_far ?_ GW503.out _) | exact HK.out)⟩, ⟨by repeat (first | (with_reducible first | exact HB.out | apply below_alloc | apply pw_below_drewN | apply below_drew1 | refine below_set ?_ (IsS94.ge HI0.out) | refine below_set ?_ GE501.out | refine below_set ?_ GE502.out | refine below_set ?_ GE503.out) | exact HB.out)⟩⟩
       case round =>
        clear H'
        try clear c1
        try clear c2
        try clear p2
        try clear q2
        try clear hx2
        try clear hf2
        try clear c3
        try clear c4
        try clear c5
        try clear c5b0
        try clear c5b1
        try clear c6
        try clear c6b0
        try clear c6b1
        try clear p6
        try clear c7
        try clear c9
        try clear c10
        try clear c13
        try clear c14
        try clear c15
        try clear c23
        try clear c23b0
        try clear c24
        try clear c24b0
        try clear p25
        try clear q25
        try clear hx25
        try clear hf25
        try clear c29
        try clear c29b0
        try clear c29b1
        try clear c31
        try clear c32
        try clear c33
        try clear c35
        try clear c36
        try clear hcz11_0
        try clear hcz11_1
        try clear hcz16_0
        try clear hcz16_1
        try clear hcz16_2
        try clear hcz17_0
        try clear hcz17_1
        try clear hcz19_0
        try clear hcz19_1
        try clear hcz34_0
        try clear hcz34_1
        try clear hcz34_2
        try clear hcz37_0
        try clear hcz37_1
        try clear hcz37_2
        try clear hfz11_0
        try clear hfz11_1
        try clear hfz16_0
        try clear hfz16_1
        try clear hfz16_2
        try clear hfz17_0
        try clear hfz17_1
        try clear hfz19_0
        try clear hfz19_1
        try clear hfz34_0
        try clear hfz34_1
        try clear hfz34_2
        try clear hfz37_0
        try clear hfz37_1
        try clear hfz37_2
        try clear hx25_0
        try clear p2
        try clear p25
        try clear q25
        obtain ⟨x10_2, rfl, HA, HK2, HO_7, BK501, BK502, BK503, HI0, HK, HB⟩ := hrel
        cases gk with
        | zero => exact absurd HA.out (by simp [spec_l03Tree.l1])
        | succ k2 =>
         have H := HA.out
         clear HA
         simp only [spec_l03Tree.l1] at H
         replace H := Option.bind_eq_some_iff.mp H
         obtain ⟨t516, A430, H⟩ := H
         replace H : (if t516 = true then (spec_l03Tree.l1 k2 t504 x7_1 t510 (wrap64 (x10_2 + 1)) s0_0 t514 t515 a1_0 a1_1 a1_0 a1_1 0) else (spec_l03Tree.l2 k2 t504 x7_1 t510 x10_2 0 s0_0 t514 t515 a1_0 a1_1 a1_0 a1_1 0)) = some (r1, r2, r3, r4, r5) := H
         have A43 := Aside0.mk A430
         clear A430
         by_cases c44 : t516 = true
         ·subst c44
          have H1 : (spec_l03Tree.l1 k2 t504 x7_1 t510 (wrap64 (x10_2 + 1)) s0_0 t514 t515 a1_0 a1_1 a1_0 a1_1 0) = some (r1, r2, r3, r4, r5) := by rw [if_pos rfl] at H; exact H
          clear H
          have H := H1
          clear H1
          have H' := Aside0.mk H
          clear H
          go_wp2_with (first | (refine gl_ 46 Try.func82 #[.int .i64 x10_2, .int .i64 t504] ?_; (with_reducible refine (spec_l03Common.calls k2 x10_2 t504 true _ A43.out).mono ?_); rintro e w' ⟨rfl, ⟨nd, rfl⟩⟩; refine ⟨_, rfl, ?_⟩))
          go_roundg k2
          case measure => have := HK1.out; have := HK2.out; omega
          case rel => exact ⟨(wrap64 (x10_2 + 1)), (by first | rfl | (simp; done) | (simp [*]; done)), H', ⟨by have := HK1.out; have := HK2.out; omega⟩, ⟨kr_ HO_7.out⟩, ⟨bk_ BK501.out⟩, ⟨bk_ BK502.out⟩, ⟨bk_ BK503.out⟩, ⟨by repeat (first | (with_reducible first | exact HI0.out | apply IsS94.alloc | apply IsS94.drewN | apply IsS94.drew | apply IsS94.set_1 | apply IsS94.set_2 | refine IsS94.far ?_ NB0_501.out _ | refine IsS94.far ?_ NB0_502.out _ | refine IsS94.far ?_ NB0_503.out _) | exact HI0.out)⟩, ⟨by repeat (first | (with_reducible first | exact HK.out | apply KeepBut.set_ | apply keep_drewN | apply keep_drew | apply keep_alloc | refine keep_far ?_ GW501.out _ | refine keep_far ?_ GW502.out _ | refine keep_far ?_ GW503.out _) | exact HK.out)⟩, ⟨by repeat (first | (with_reducible first | exact HB.out | apply below_alloc | apply pw_below_drewN | apply below_drew1 | refine below_set ?_ (IsS94.ge HI0.out) | refine below_set ?_ GE501.out | refine below_set ?_ GE502.out | refine below_set ?_ GE503.out) | exact HB.out)⟩⟩
         ·replace c44 := Bool.eq_false_iff.mpr c44
          subst c44
          have H1 : (spec_l03Tree.l2 k2 t504 x7_1 t510 x10_2 0 s0_0 t514 t515 a1_0 a1_1 a1_0 a1_1 0) = some (r1, r2, r3, r4, r5) := by rw [if_neg (show ¬ (false = true) by decide)] at H; exact H
          clear H
          have H := H1
          clear H1
          have H' := Aside0.mk H
          clear H
          go_wp2_with (first | (refine gl_ 46 Try.func82 #[.int .i64 x10_2, .int .i64 t504] ?_; (with_reducible refine (spec_l03Common.calls k2 x10_2 t504 false _ A43.out).mono ?_); rintro e w' ⟨rfl, ⟨nd, rfl⟩⟩; refine ⟨_, rfl, ?_⟩))
          go_loopg [11] k2 (fun kq v11 w' => ∃ (x7_3 : List Int) (x11_3 : Int) (x504002_3 : Int), v11 = .int .i64 x11_3 ∧ Aside0 (spec_l03Tree.l2 kq t504 x7_3 t510 x10_2 x11_3 s0_0 t514 t515 a1_0 a1_1 a1_0 a1_1 x504002_3 = some (r1, r2, r3, r4, r5)) ∧ Aside0 (kq ≤ k2) ∧ Aside0 (Kd.R (Kd.int .i64) 3 w' w.heap.size (fun _ => True) (.slice Ao40 x7_1.length co40) x7_3) ∧ Aside0 (w'.heap[gb501]? = some (.cells #[.int .i64 a1_0, .int .i64 a1_1] 31 (0, 0))) ∧ Aside0 (w'.heap[gb502]? = some (.cells #[.int .i64 0, .int .i64 0, .int .i64 0] 33 (0, 0))) ∧ Aside0 (w'.heap[gb503]? = some (.cells #[.int .i64 a1_0, .int .i64 a1_1, .int .i64 x504002_3] 33 (0, 0))) ∧ Aside0 (IsS94 w0 w' g s0_0 t514 t515) ∧ Aside0 (KeepBut w w' g none) ∧ Aside0 (Below w0.heap.size w0 w'))
          case atStart => exact ⟨(x7_1), (0), (0), (by first | rfl | (simp; done) | (simp [*]; done)), H', ⟨Nat.le_refl _⟩, ⟨kr_ HO_7.out⟩, ⟨bk_ BK501.out⟩, ⟨bk_ BK502.out⟩, ⟨bk_ BK503.out⟩, ⟨by repeat (first | (with_reducible first | exact HI0.out | apply IsS94.alloc | apply IsS94.drewN | apply IsS94.drew | apply IsS94.set_1 | apply IsS94.set_2 | refine IsS94.far ?_ NB0_501.out _ | refine IsS94.far ?_ NB0_502.out _ | refine IsS94.far ?_ NB0_503.out _) | exact HI0.out)⟩, ⟨by repeat (first | (with_reducible first | exact HK.out | apply KeepBut.set_ | apply keep_drewN | apply keep_drew | apply keep_alloc | refine keep_far ?_ GW501.out _ | refine keep_far ?_ GW502.out _ | refine keep_far ?_ GW503.out _) | exact HK.out)⟩, ⟨by repeat (first | (with_reducible first | exact HB.out | apply below_alloc | apply pw_below_drewN | apply below_drew1 | refine below_set ?_ (IsS94.ge HI0.out) | refine below_set ?_ GE501.out | refine below_set ?_ GE502.out | refine below_set ?_ GE503.out) | exact HB.out)⟩⟩
          case round =>
           clear H'
           try clear c1
           try clear c2
           try clear p2
           try clear q2
           try clear hx2
           try clear hf2
           try clear c3
           try clear c4
           try clear c5
           try clear c5b0
           try clear c5b1
           try clear c6
           try clear c6b0
           try clear c6b1
           try clear p6
           try clear c7
           try clear c8
           try clear c9
           try clear c10
           try clear c13
           try clear c14
           try clear c15
           try clear c23
           try clear c23b0
           try clear c24
           try clear c24b0
           try clear p25
           try clear q25
           try clear hx25
           try clear hf25
           try clear c29
           try clear c29b0
           try clear c29b1
           try clear c31
           try clear c32
           try clear c33
           try clear c35
           try clear c36
           try clear c43
           try clear c44
           try clear hcz11_0
           try clear hcz11_1
           try clear hcz16_0
           try clear hcz16_1
           try clear hcz16_2
           try clear hcz17_0
           try clear hcz17_1
           try clear hcz19_0
           try clear hcz19_1
           try clear hcz34_0
           try clear hcz34_1
           try clear hcz34_2
           try clear hcz37_0
           try clear hcz37_1
           try clear hcz37_2
           try clear hfz11_0
           try clear hfz11_1
           try clear hfz16_0
           try clear hfz16_1
           try clear hfz16_2
           try clear hfz17_0
           try clear hfz17_1
           try clear hfz19_0
           try clear hfz19_1
           try clear hfz34_0
           try clear hfz34_1
           try clear hfz34_2
           try clear hfz37_0
           try clear hfz37_1
           try clear hfz37_2
           try clear hx25_0
           try clear p2
           try clear p25
           try clear p6
           try clear q2
           try clear q25
           obtain ⟨x7_3, x11_3, x504002_3, rfl, HA, HK3, HO_7, BK501, BK502, BK503, HI0, HK, HB⟩ := hrel
           have hl7_3 := (Kd.R_reads' HO_7.out).1
           rw [hl7_3] at HO_7
           (try simp only [hl7_3])
           (try simp only [hl7_3] at BK501)
           (try simp only [hl7_3] at BK502)
           (try simp only [hl7_3] at BK503)
           cases gk with
           | zero => exact absurd HA.out (by simp [spec_l03Tree.l2])
           | succ k3 =>
            have H := HA.out
            clear HA
            simp only [spec_l03Tree.l2] at H
            by_cases c45 : x11_3 < t504
            ·rw [if_pos c45] at H
             have c45b0 : decide (x11_3 < t504) = true := decide_eq_true c45
             clear c45
             by_cases c46 : t504 = 0
             ·rw [if_pos c46] at H
              exact absurd H (by simp)
             ·rw [if_neg c46] at H
              have c46b0 : (t504 == 0) = false := beq_eq_false_iff_ne.mpr c46
              have c46b1 : (t504 != 0) = true := bne_iff_ne.mpr c46
              replace H := Option.bind_eq_some_iff.mp H
              obtain ⟨⟨t517, t518⟩, A470, H⟩ := H
              replace H : (if 0 ≤ t517 then (if t517 < (x7_3.length : Int) then (if 0 ≤ t518 then (if t518 < (x7_3.length : Int) then (if (rd x7_3 t517) = (rd x7_3 t518) then (spec_l03Tree.l2 k3 t504 x7_3 t510 x10_2 (wrap64 (x11_3 + 1)) s0_0 t514 t515 a1_0 a1_1 a1_0 a1_1 x504002_3) else (if 0 ≤ (Int.tmod (wrap64 (t510 + (wrap64 (x11_3 * x10_2)))) t504) then (spec_l03Tree.l3 k3 t504 x7_3 t510 x10_2 x11_3 t517 (rd x7_3 t518) 0 s0_0 t514 t515 a1_0 a1_1 a1_0 a1_1 (Go.bits .or .i64 x504002_3 (shl .i64 1 (Int.tmod (wrap64 (t510 + (wrap64 (x11_3 * x10_2)))) t504)))) else (none))) else (none)) else (none)) else (none)) else (none)) = some (r1, r2, r3, r4, r5) := H
              have A47 := Aside0.mk A470
              clear A470
              by_cases c48 : 0 ≤ t517
              ·rw [if_pos c48] at H
               have c48b0 : decide (0 ≤ t517) = true := decide_eq_true c48
               clear c48
               by_cases c49 : t517 < (x7_3.length : Int)
               ·rw [if_pos c49] at H
                have c49b0 : decide (t517 < (x7_3.length : Int)) = true := decide_eq_true c49
                clear c49
                by_cases c50 : 0 ≤ t518
                ·rw [if_pos c50] at H
                 have c50b0 : decide (0 ≤ t518) = true := decide_eq_true c50
                 clear c50
                 by_cases c51 : t518 < (x7_3.length : Int)
                 ·rw [if_pos c51] at H
                  have c51b0 : decide (t518 < (x7_3.length : Int)) = true := decide_eq_true c51
                  clear c51
                  by_cases c52 : (rd x7_3 t517) = (rd x7_3 t518)
                  ·rw [if_pos c52] at H
                   have c52b0 : ((rd x7_3 t517) == (rd x7_3 t518)) = true := beq_iff_eq.mpr c52
                   have c52b1 : ((rd x7_3 t517) != (rd x7_3 t518)) = false := bne_eq_false_iff_eq.mpr c52
                   clear c52
                   have H' := Aside0.mk H
                   clear H
                   have hnb53 := NB501_502.out
                   have hnc53 := NB502_501.out
                   have hnb54 := NB501_503.out
                   have hnc54 := NB503_501.out
                   have hnb55 := NB501_0.out
                   have hnc55 := NB0_501.out
                   obtain ⟨hcz56_0, hcz56_1⟩ := cz2_ BK501.out
                   obtain ⟨hfz56_0, hfz56_1⟩ := fz2_ BK501.out
                   try go_wp2_with (first | (refine gl_ 64 Try.func83 #[.agg #[.int .i64 a1_0, .int .i64 a1_1], .int .i64 (Int.tmod (wrap64 (t510 + (wrap64 (x11_3 * x10_2)))) t504)] ?_; (with_reducible refine (spec_EndsOf.calls a1_0 a1_1 (Int.tmod (wrap64 (t510 + (wrap64 (x11_3 * x10_2)))) t504) t517 t518 _ A47.out).mono ?_); rintro e w57 ⟨rfl, hb⟩; refine ⟨_, rfl, ?_⟩; replace HO_7 := HO_7.kb hb; replace BK501 := BK501.bb hb; replace BK502 := BK502.bb hb; replace BK503 := BK503.bb hb; replace HK := Aside0.mk (KeepBut.trans (by repeat (first | (with_reducible first | exact HK.out | apply KeepBut.set_ | apply keep_drewN | apply keep_drew | apply keep_alloc | refine keep_far ?_ GW501.out _ | refine keep_far ?_ GW502.out _ | refine keep_far ?_ GW503.out _) | exact HK.out)) (KeepBut.of_below hb g none) (.inl rfl)); replace HB := Aside0.mk (below_step (by repeat (first | (with_reducible first | exact HB.out | apply below_alloc | apply pw_below_drewN | apply below_drew1 | refine below_set ?_ (IsS94.ge HI0.out) | refine below_set ?_ GE501.out | refine below_set ?_ GE502.out | refine below_set ?_ GE503.out) | exact HB.out)) hb); replace HI0 := Aside0.mk (IsS94.below (by repeat (first | (with_reducible first | exact HI0.out | apply IsS94.alloc | apply IsS94.drewN | apply IsS94.drew | apply IsS94.set_1 | apply IsS94.set_2 | refine IsS94.far ?_ NB0_501.out _ | refine IsS94.far ?_ NB0_502.out _ | refine IsS94.far ?_ NB0_503.out _) | exact HI0.out)) hb)))
                   replace HO_7 := Aside0.mk (Kd.R_drew HO_7.out)
                   replace BK501 := Aside0.mk (blk_drew BK501.out)
                   replace BK502 := Aside0.mk (blk_drew BK502.out)
                   replace BK503 := Aside0.mk (blk_drew BK503.out)
                   replace HI0 := Aside0.mk (IsS94.drew HI0.out)
                   replace HK := Aside0.mk (keep_drew HK.out)
                   replace HB := Aside0.mk (below_drew1 HB.out)
                   have p519 : 0 ≤ (t517 : Int) := of_decide_eq_true (as_)
                   have q519 : t517 < (x7_3.length : Int) := of_decide_eq_true (as_)
                   obtain ⟨ad519, e519, hx519_0⟩ := Kd.at_int (Kd.R_reads' HO_7.out).2.2 t517 p519 q519
                   cases e519
                   replace p519 := eq_true p519
                   replace q519 := eq_true q519
                   have p520 : 0 ≤ (t518 : Int) := of_decide_eq_true (as_)
                   have q520 : t518 < (x7_3.length : Int) := of_decide_eq_true (as_)
                   obtain ⟨ad520, e520, hx520_0⟩ := Kd.at_int (Kd.R_reads' HO_7.out).2.2 t518 p520 q520
                   obtain rfl : ad519 = ad520 := (by injection e520)
                   replace p520 := eq_true p520
                   replace q520 := eq_true q520
                   refine start_ (n := 9) (S := fun w' => w'.cell? (ad519.add (t517).toNat) = some (.int .i64 (rd x7_3 t517)) ∧ w'.cell? (ad519.add (t518).toNat) = some (.int .i64 (rd x7_3 t518))) (ds := []) #[false, false, false, false, false, false, false, false, false] (by kernel_rfl) rfl rfl ⟨hx519_0, hx520_0⟩ (fun hHeld => ?_); refine with_tabW spec_l03Tree.tab19 spec_l03Tree.bits19 (fun HT_ HW_ => ?_)
                   generalize w57.drew = w58 at HO_7 BK501 BK502 BK503 HI0 HK HB hx519_0 hx520_0 hHeld ⊢
                   refine pv_ (i := 0) (N := some 67) HT_.out ?_
                   refine pv_ (i := 1) (N := some 68) HT_.out ?_
                   refine pv_ (i := 2) (N := some 69) HT_.out ?_
                   refine pv_ (i := 4) (N := some 71) HT_.out ?_
                   refine pv_ (i := 5) (N := some 72) HT_.out ?_
                   refine pv_ (i := 6) (N := some 73) HT_.out ?_
                   refine tv2_ (i := 3) (N := some 70) HT_.out HW_.out hHeld ?_
                   refine tv2_ (i := 7) (N := some 74) HT_.out HW_.out hHeld ?_
                   refine pv_ (i := 8) (N := some 75) HT_.out ?_
                   refine done_ (done_of HT_.out (by kernel_rfl)) ?_
                   try go_wp2
                   (try simp only [← hl7_3])
                   go_roundg k3
                   case measure => have := HK1.out; have := HK2.out; have := HK3.out; omega
                   case rel => exact ⟨(x7_3), (wrap64 (x11_3 + 1)), (x504002_3), (by first | rfl | (simp; done) | (simp [*]; done)), H', ⟨by have := HK1.out; have := HK2.out; have := HK3.out; omega⟩, ⟨by (try simp only [hl7_3]); (with_reducible repeat (first | apply Kd.R_alloc | apply Kd.R_drewN | apply Kd.R_drew)); exact HO_7.out⟩, ⟨by (try simp only [hl7_3]); (with_reducible repeat (first | refine blk_drewN ?_ _ | refine blk_drew ?_ | refine blk_alloc ?_ _)); exact BK501.out⟩, ⟨by (try simp only [hl7_3]); (with_reducible repeat (first | refine blk_drewN ?_ _ | refine blk_drew ?_ | refine blk_alloc ?_ _)); exact BK502.out⟩, ⟨by (try simp only [hl7_3]); (with_reducible repeat (first | refine blk_drewN ?_ _ | refine blk_drew ?_ | refine blk_alloc ?_ _)); exact BK503.out⟩, ⟨by repeat (first | (with_reducible first | exact HI0.out | apply IsS94.alloc | apply IsS94.drewN | apply IsS94.drew | apply IsS94.set_1 | apply IsS94.set_2 | refine IsS94.far ?_ NB0_501.out _ | refine IsS94.far ?_ NB0_502.out _ | refine IsS94.far ?_ NB0_503.out _) | exact HI0.out)⟩, ⟨by repeat (first | (with_reducible first | exact HK.out | apply KeepBut.set_ | apply keep_drewN | apply keep_drew | apply keep_alloc | refine keep_far ?_ GW501.out _ | refine keep_far ?_ GW502.out _ | refine keep_far ?_ GW503.out _) | exact HK.out)⟩, ⟨by repeat (first | (with_reducible first | exact HB.out | apply below_alloc | apply pw_below_drewN | apply below_drew1 | refine below_set ?_ (IsS94.ge HI0.out) | refine below_set ?_ GE501.out | refine below_set ?_ GE502.out | refine below_set ?_ GE503.out) | exact HB.out)⟩⟩
                  ·rw [if_neg c52] at H
                   have c52b0 : ((rd x7_3 t517) == (rd x7_3 t518)) = false := beq_eq_false_iff_ne.mpr c52
                   have c52b1 : ((rd x7_3 t517) != (rd x7_3 t518)) = true := bne_iff_ne.mpr c52
                   obtain ⟨ji59, hji59⟩ : ∃ j_ : Int, (Int.tmod (wrap64 (t510 + (wrap64 (x11_3 * x10_2)))) t504) = j_ := ⟨_, rfl⟩
                   replace H : (if 0 ≤ (ji59) then (spec_l03Tree.l3 k3 t504 x7_3 t510 x10_2 x11_3 t517 (rd x7_3 t518) 0 s0_0 t514 t515 a1_0 a1_1 a1_0 a1_1 (Go.bits .or .i64 x504002_3 (shl .i64 1 (ji59)))) else (none)) = some (r1, r2, r3, r4, r5) := by first | (rw [hji59] at H; exact H) | (simp only [hji59] at H ⊢; exact H)
                   (try rw [hji59] at A47)
                   by_cases c60 : 0 ≤ (ji59)
                   ·rw [if_pos c60] at H
                    have c60b0 := eq_true c60
                    have c60b1 : decide (0 ≤ (ji59)) = true := decide_eq_true c60
                    clear c60
                    obtain ⟨ji61, hji61⟩ : ∃ j_ : Int, (shl .i64 1 (ji59)) = j_ := ⟨_, rfl⟩
                    replace H : (spec_l03Tree.l3 k3 t504 x7_3 t510 x10_2 x11_3 t517 (rd x7_3 t518) 0 s0_0 t514 t515 a1_0 a1_1 a1_0 a1_1 (Go.bits .or .i64 x504002_3 (ji61))) = some (r1, r2, r3, r4, r5) := by first | (rw [hji61] at H; exact H) | (simp only [hji61] at H ⊢; exact H)
                    (try rw [hji61] at A47)
                    have hji61_ : (IntKind.i64.wrap (1 * 2 ^ min (ji59).toNat 64)) = ji61 := hji61
                    have hji61z : (ji59) ≤ 64 → (IntKind.i64.wrap (1 * 2 ^ (ji59).toNat)) = ji61 := shl_small hji61
                    have hji61u : (IntKind.i64.wrap (2 ^ min (ji59).toNat 64)) = ji61 := by have h_ := hji61_; rw [Int.one_mul] at h_; exact h_
                    have hji61v : (ji59) ≤ 64 → (IntKind.i64.wrap (2 ^ (ji59).toNat)) = ji61 := fun hle_ => by have h_ := hji61z hle_; rw [Int.one_mul] at h_; exact h_
                    have hji61y : (wrap64 (1 * 2 ^ min (ji59).toNat 64)) = ji61 := (i64_w _).symm.trans hji61_
                    have hji61x : (ji59) ≤ 64 → (wrap64 (1 * 2 ^ (ji59).toNat)) = ji61 := fun h_ => (i64_w _).symm.trans (hji61z h_)
                    have H' := Aside0.mk H
                    clear H
                    have hnb62 := NB501_502.out
                    have hnc62 := NB502_501.out
                    have hnb63 := NB501_503.out
                    have hnc63 := NB503_501.out
                    have hnb64 := NB501_0.out
                    have hnc64 := NB0_501.out
                    obtain ⟨hcz65_0, hcz65_1⟩ := cz2_ BK501.out
                    obtain ⟨hfz65_0, hfz65_1⟩ := fz2_ BK501.out
                    try go_wp2_with (first | ((with_reducible refine gate_callee (f := 83) rfl ?_); refine goesL_ (some 64) rfl rfl Try.func83 (by kernel_rfl) rfl #[.agg #[.int .i64 a1_0, .int .i64 a1_1], .int .i64 ji59] rfl (by (try simp only [List.map_toArray, List.map_cons, List.map_nil]); first | done | (simp only [hji59]; rfl) | rfl | (simp only [List.length_drop, List.length_take]; rfl)) ?_; (with_reducible refine (spec_EndsOf.calls a1_0 a1_1 ji59 t517 t518 _ A47.out).mono ?_); rintro e w66 ⟨rfl, hb⟩; refine ⟨_, rfl, ?_⟩; replace HO_7 := HO_7.kb hb; replace BK501 := BK501.bb hb; replace BK502 := BK502.bb hb; replace BK503 := BK503.bb hb; replace HK := Aside0.mk (KeepBut.trans (by repeat (first | (with_reducible first | exact HK.out | apply KeepBut.set_ | apply keep_drewN | apply keep_drew | apply keep_alloc | refine keep_far ?_ GW501.out _ | refine keep_far ?_ GW502.out _ | refine keep_far ?_ GW503.out _) | exact HK.out)) (KeepBut.of_below hb g none) (.inl rfl)); replace HB := Aside0.mk (below_step (by repeat (first | (with_reducible first | exact HB.out | apply below_alloc | apply pw_below_drewN | apply below_drew1 | refine below_set ?_ (IsS94.ge HI0.out) | refine below_set ?_ GE501.out | refine below_set ?_ GE502.out | refine below_set ?_ GE503.out) | exact HB.out)) hb); replace HI0 := Aside0.mk (IsS94.below (by repeat (first | (with_reducible first | exact HI0.out | apply IsS94.alloc | apply IsS94.drewN | apply IsS94.drew | apply IsS94.set_1 | apply IsS94.set_2 | refine IsS94.far ?_ NB0_501.out _ | refine IsS94.far ?_ NB0_502.out _ | refine IsS94.far ?_ NB0_503.out _) | exact HI0.out)) hb)))
                    replace HO_7 := Aside0.mk (Kd.R_drew HO_7.out)
                    replace BK501 := Aside0.mk (blk_drew BK501.out)
                    replace BK502 := Aside0.mk (blk_drew BK502.out)
                    replace BK503 := Aside0.mk (blk_drew BK503.out)
                    replace HI0 := Aside0.mk (IsS94.drew HI0.out)
                    replace HK := Aside0.mk (keep_drew HK.out)
                    replace HB := Aside0.mk (below_drew1 HB.out)
                    have p519 : 0 ≤ (t517 : Int) := of_decide_eq_true (as_)
                    have q519 : t517 < (x7_3.length : Int) := of_decide_eq_true (as_)
                    obtain ⟨ad519, e519, hx519_0⟩ := Kd.at_int (Kd.R_reads' HO_7.out).2.2 t517 p519 q519
                    cases e519
                    replace p519 := eq_true p519
                    replace q519 := eq_true q519
                    have p520 : 0 ≤ (t518 : Int) := of_decide_eq_true (as_)
                    have q520 : t518 < (x7_3.length : Int) := of_decide_eq_true (as_)
                    obtain ⟨ad520, e520, hx520_0⟩ := Kd.at_int (Kd.R_reads' HO_7.out).2.2 t518 p520 q520
                    obtain rfl : ad519 = ad520 := (by injection e520)
                    replace p520 := eq_true p520
                    replace q520 := eq_true q520
                    refine start_ (n := 9) (S := fun w' => w'.cell? (ad519.add (t517).toNat) = some (.int .i64 (rd x7_3 t517)) ∧ w'.cell? (ad519.add (t518).toNat) = some (.int .i64 (rd x7_3 t518))) (ds := []) #[false, false, false, false, false, false, false, false, false] (by kernel_rfl) rfl rfl ⟨hx519_0, hx520_0⟩ (fun hHeld => ?_); refine with_tabW spec_l03Tree.tab19 spec_l03Tree.bits19 (fun HT_ HW_ => ?_)
                    generalize w66.drew = w67 at HO_7 BK501 BK502 BK503 HI0 HK HB hx519_0 hx520_0 hHeld ⊢
                    refine pv_ (i := 0) (N := some 67) HT_.out ?_
                    refine pv_ (i := 1) (N := some 68) HT_.out ?_
                    refine pv_ (i := 2) (N := some 69) HT_.out ?_
                    refine pv_ (i := 4) (N := some 71) HT_.out ?_
                    refine pv_ (i := 5) (N := some 72) HT_.out ?_
                    refine pv_ (i := 6) (N := some 73) HT_.out ?_
                    refine tv2_ (i := 3) (N := some 70) HT_.out HW_.out hHeld ?_
                    refine tv2_ (i := 7) (N := some 74) HT_.out HW_.out hHeld ?_
                    refine pv_ (i := 8) (N := some 75) HT_.out ?_
                    refine done_ (done_of HT_.out (by kernel_rfl)) ?_
                    try go_wp2
                    replace HO_7 := Aside0.mk (Kd.R_drew HO_7.out)
                    replace BK501 := Aside0.mk (blk_drew BK501.out)
                    replace BK502 := Aside0.mk (blk_drew BK502.out)
                    replace BK503 := Aside0.mk (blk_drew BK503.out)
                    replace HI0 := Aside0.mk (IsS94.drew HI0.out)
                    replace HK := Aside0.mk (keep_drew HK.out)
                    replace HB := Aside0.mk (below_drew1 HB.out)
                    refine start_ (n := 7) (S := fun w' => w'.cell? ⟨gb503, 0, none⟩ = some (.int .i64 a1_0) ∧ w'.cell? ⟨gb503, 1, none⟩ = some (.int .i64 a1_1) ∧ w'.cell? ⟨gb503, 2, none⟩ = some (.int .i64 x504002_3)) (ds := [6]) #[false, false, false, false, false, false, false] (by kernel_rfl) rfl rfl ⟨BK503.c 0, BK503.c 1, BK503.c 2⟩ (fun hHeld => ?_)
                    generalize w67.drew = w68 at HO_7 BK501 BK502 BK503 HI0 HK HB hHeld ⊢
                    refine pure_ (i := 0) (N := some 76) (v := ?_) (a' := ?_) #[true, false, false, false, false, false, false] rfl rfl (by kernel_rfl) (fun _ _ _ h => h) (Or.inl ⟨by rfl, ?_⟩) ?_ ?_
                    rotate_left
                    ·intro w'
                     go_simp
                     with_reducible rfl
                    rotate_left
                    ·simp only [Act.put, List.setIfInBounds_toArray, List.set_cons_zero, List.set_cons_succ, i64_w, i32_w]
                     rfl
                    refine pure_ (i := 2) (N := some 78) (v := ?_) (a' := ?_) #[true, false, true, false, false, false, false] rfl rfl (by kernel_rfl) (fun _ _ _ h => h) (Or.inl ⟨by rfl, ?_⟩) ?_ ?_
                    rotate_left
                    ·intro w'
                     go_simp
                     with_reducible rfl
                    rotate_left
                    ·simp only [Act.put, List.setIfInBounds_toArray, List.set_cons_zero, List.set_cons_succ, i64_w, i32_w]
                     rfl
                    refine pure_ (i := 3) (N := some 79) (v := ?_) (a' := ?_) #[true, false, true, true, false, false, false] rfl rfl (by kernel_rfl) (fun _ _ _ h => h) (Or.inl ⟨by rfl, ?_⟩) ?_ ?_
                    rotate_left
                    ·intro w'
                     go_simp
                     with_reducible rfl
                    rotate_left
                    ·simp only [Act.put, List.setIfInBounds_toArray, List.set_cons_zero, List.set_cons_succ, i64_w, i32_w]
                     rfl
                    refine take_ (i := 1) (N := some 77) (v := ?_) (a' := ?_) #[true, true, true, true, false, false, false] rfl rfl (by kernel_rfl) (fun _ _ _ h => h) (Or.inl ⟨by rfl, ?_⟩) hHeld ?_ ?_
                    rotate_left
                    ·rintro w' ⟨s0, s1, s2⟩
                     go_simp
                     with_reducible rfl
                    rotate_left
                    ·simp only [Act.put, List.setIfInBounds_toArray, List.set_cons_zero, List.set_cons_succ, i64_w, i32_w]
                     rfl
                    refine pure_ (i := 4) (N := some 80) (v := ?_) (a' := ?_) #[true, true, true, true, true, false, false] rfl rfl (by kernel_rfl) (fun _ _ _ h => h) (Or.inl ⟨by rfl, ?_⟩) ?_ ?_
                    rotate_left
                    ·intro w'
                     go_simp
                     with_reducible rfl
                    rotate_left
                    ·simp only [Act.put, List.setIfInBounds_toArray, List.set_cons_zero, List.set_cons_succ, i64_w, i32_w]
                     rfl
                    refine pure_ (i := 5) (N := some 81) (v := ?_) (a' := ?_) #[true, true, true, true, true, true, false] rfl rfl (by kernel_rfl) (fun _ _ _ h => h) (Or.inl ⟨by rfl, ?_⟩) ?_ ?_
                    rotate_left
                    ·intro w'
                     go_simp
                     with_reducible rfl
                    rotate_left
                    ·simp only [Act.put, List.setIfInBounds_toArray, List.set_cons_zero, List.set_cons_succ, i64_w, i32_w]
                     rfl
                    refine last_ (i := 6) (N := none) #[true, true, true, true, true, true, true] rfl rfl (by kernel_rfl) (by decide) (fun K hK => ?_)
                    have hs69 : w68.cell? ⟨gb503, 2, none⟩ = some (.int .i64 x504002_3) := BK503.c 2
                    have hfs69 := blk_frozen BK503.out 2
                    have hns69_0 := NB501_503.out
                    have hns69_1 := NB502_503.out
                    have hms69_0 := NB503_501.out
                    have hms69_1 := NB503_502.out
                    refine skip_ (w1 := ?_) (by rfl) rfl ?_ ?_
                    rotate_left
                    ·go_simp
                     rfl
                    refine hK.out _ _ ?_
                    clear hK K
                    refine done_ (by kernel_rfl) ?_
                    have p521 : 0 ≤ (t518 : Int) := of_decide_eq_true (as_)
                    have q521 : t518 < (x7_3.length : Int) := of_decide_eq_true (as_)
                    obtain ⟨ad521, e521, hx521_0⟩ := Kd.at_int (Kd.R_reads' HO_7.out).2.2 t518 p521 q521
                    obtain rfl : ad519 = ad521 := (by injection e521)
                    have hn521_0 : ad519.block ≠ gb503 := Kd.own_blk (Kd.R_ne HO_7.out BK503.out (by decide))
                    replace hx521_0 := (cell_far (p := ⟨gb503, 2, none⟩) (by first | (rw [add_block]; exact hn521_0) | (show (Addr.add _ _).block ≠ _; rw [add_block]; exact hn521_0) | exact hn521_0) (.int .i64 (Go.bits .or .i64 x504002_3 (ji61)))).trans hx521_0
                    clear hn521_0
                    replace p521 := eq_true p521
                    replace q521 := eq_true q521
                    try go_wp2
                    go_loopg [16] k3 (fun kq v16 w' => ∃ (x7_4 : List Int) (x16_4 : Int), v16 = .int .i64 x16_4 ∧ Aside0 (spec_l03Tree.l3 kq t504 x7_4 t510 x10_2 x11_3 t517 (rd x7_3 t518) x16_4 s0_0 t514 t515 a1_0 a1_1 a1_0 a1_1 (Go.bits .or .i64 x504002_3 (ji61)) = some (r1, r2, r3, r4, r5)) ∧ Aside0 (kq ≤ k3) ∧ Aside0 (Kd.R (Kd.int .i64) 3 w' w.heap.size (fun _ => True) (.slice (some ad519) x7_3.length co40) x7_4) ∧ Aside0 (w'.heap[gb501]? = some (.cells #[.int .i64 a1_0, .int .i64 a1_1] 31 (0, 0))) ∧ Aside0 (w'.heap[gb502]? = some (.cells #[.int .i64 0, .int .i64 0, .int .i64 0] 33 (0, 0))) ∧ Aside0 (w'.heap[gb503]? = some (.cells #[.int .i64 a1_0, .int .i64 a1_1, .int .i64 (Go.bits .or .i64 x504002_3 (ji61))] 33 (0, 0))) ∧ Aside0 (IsS94 w0 w' g s0_0 t514 t515) ∧ Aside0 (KeepBut w w' g none) ∧ Aside0 (Below w0.heap.size w0 w'))
                    case atStart => exact ⟨(x7_3), (0), (by first | rfl | (simp; done) | (simp [*]; done)), H', ⟨Nat.le_refl _⟩, ⟨by (try simp only [hl7_3]); (with_reducible repeat (first | apply Kd.R_alloc | apply Kd.R_drewN | apply Kd.R_drew)); exact Kd.R_mono (Kd.R_far (p := ⟨gb503, 2, none⟩) (Kd.R_types HO_7.out BK503.out (by decide)) (fun _ hk => hk.2) (.int .i64 (Go.bits .or .i64 x504002_3 (ji61)))) (fun _ hk => trivial)⟩, ⟨by (try simp only [hl7_3]); (with_reducible repeat (first | refine blk_drewN ?_ _ | refine blk_drew ?_ | refine blk_alloc ?_ _)); refine blk_far ?_ NB501_503.out _; (with_reducible repeat (first | refine blk_drewN ?_ _ | refine blk_drew ?_ | refine blk_alloc ?_ _)); exact BK501.out⟩, ⟨by (try simp only [hl7_3]); (with_reducible repeat (first | refine blk_drewN ?_ _ | refine blk_drew ?_ | refine blk_alloc ?_ _)); refine blk_far ?_ NB502_503.out _; (with_reducible repeat (first | refine blk_drewN ?_ _ | refine blk_drew ?_ | refine blk_alloc ?_ _)); exact BK502.out⟩, ⟨by (try simp only [hl7_3]); (with_reducible repeat (first | refine blk_drewN ?_ _ | refine blk_drew ?_ | refine blk_alloc ?_ _)); refine blk_put (cs := #[.int .i64 a1_0, .int .i64 a1_1, .int .i64 x504002_3]) ?_ 2 _ rfl; (with_reducible repeat (first | refine blk_drewN ?_ _ | refine blk_drew ?_ | refine blk_alloc ?_ _)); exact BK503.out⟩, ⟨by repeat (first | (with_reducible first | exact HI0.out | apply IsS94.alloc | apply IsS94.drewN | apply IsS94.drew | apply IsS94.set_1 | apply IsS94.set_2 | refine IsS94.far ?_ NB0_501.out _ | refine IsS94.far ?_ NB0_502.out _ | refine IsS94.far ?_ NB0_503.out _) | exact HI0.out)⟩, ⟨by repeat (first | (with_reducible first | exact HK.out | apply KeepBut.set_ | apply keep_drewN | apply keep_drew | apply keep_alloc | refine keep_far ?_ GW501.out _ | refine keep_far ?_ GW502.out _ | refine keep_far ?_ GW503.out _) | exact HK.out)⟩, ⟨by repeat (first | (with_reducible first | exact HB.out | apply below_alloc | apply pw_below_drewN | apply below_drew1 | refine below_set ?_ (IsS94.ge HI0.out) | refine below_set ?_ GE501.out | refine below_set ?_ GE502.out | refine below_set ?_ GE503.out) | exact HB.out)⟩⟩
                    case round =>
                     clear H'
                     try clear c1
                     try clear c2
                     try clear p2
                     try clear q2
                     try clear hx2
                     try clear hf2
                     try clear c3
                     try clear c4
                     try clear c5
                     try clear c5b0
                     try clear c5b1
                     try clear p5
                     try clear q5
                     try clear hx5
                     try clear c6
                     try clear c6b0
                     try clear c6b1
                     try clear p6
                     try clear c7
                     try clear c8
                     try clear c9
                     try clear c10
                     try clear c13
                     try clear c14
                     try clear c15
                     try clear c23
                     try clear c23b0
                     try clear c24
                     try clear c24b0
                     try clear p25
                     try clear q25
                     try clear hx25
                     try clear hf25
                     try clear c29
                     try clear c29b0
                     try clear c29b1
                     try clear c31
                     try clear c32
                     try clear c33
                     try clear c35
                     try clear c36
                     try clear c43
                     try clear c44
                     try clear c45
                     try clear c45b0
                     try clear c46
                     try clear c46b0
                     try clear c46b1
                     try clear c48
                     try clear c48b0
                     try clear c49
                     try clear c49b0
                     try clear c50
                     try clear c50b0
                     try clear c51
                     try clear c51b0
                     try clear p51
                     try clear q51
                     try clear hx51
                     try clear c52
                     try clear c52b0
                     try clear c52b1
                     try clear p52
                     try clear q52
                     try clear hx52
                     try clear c53
                     try clear c54
                     try clear c55
                     try clear c60
                     try clear c60b0
                     try clear c60b1
                     try clear c62
                     try clear c63
                     try clear c64
                     try clear p64
                     try clear hcz11_0
                     try clear hcz11_1
                     try clear hcz16_0
                     try clear hcz16_1
                     try clear hcz16_2
                     try clear hcz17_0
                     try clear hcz17_1
                     try clear hcz19_0
                     try clear hcz19_1
                     try clear hcz34_0
                     try clear hcz34_1
                     try clear hcz34_2
                     try clear hcz37_0
                     try clear hcz37_1
                     try clear hcz37_2
                     try clear hcz56_0
                     try clear hcz56_1
                     try clear hcz65_0
                     try clear hcz65_1
                     try clear hfz11_0
                     try clear hfz11_1
                     try clear hfz16_0
                     try clear hfz16_1
                     try clear hfz16_2
                     try clear hfz17_0
                     try clear hfz17_1
                     try clear hfz19_0
                     try clear hfz19_1
                     try clear hfz34_0
                     try clear hfz34_1
                     try clear hfz34_2
                     try clear hfz37_0
                     try clear hfz37_1
                     try clear hfz37_2
                     try clear hfz56_0
                     try clear hfz56_1
                     try clear hfz65_0
                     try clear hfz65_1
                     try clear hx25_0
                     try clear hx519_0
                     try clear hx520_0
                     try clear hx521_0
                     try clear p2
                     try clear p25
                     try clear p519
                     try clear p520
                     try clear p521
                     try clear p6
                     try clear q2
                     try clear q25
                     try clear q519
                     try clear q520
                     try clear q521
                     obtain ⟨x7_4, x16_4, rfl, HA, HK4, HO_7, BK501, BK502, BK503, HI0, HK, HB⟩ := hrel
                     have hl7_4 := (Kd.R_reads' HO_7.out).1
                     rw [hl7_4] at HO_7
                     (try simp only [hl7_4])
                     (try simp only [hl7_4] at BK501)
                     (try simp only [hl7_4] at BK502)
                     (try simp only [hl7_4] at BK503)
                     cases gk with
                     | zero => exact absurd HA.out (by simp [spec_l03Tree.l3])
                     | succ k4 =>
                      have H := HA.out
                      clear HA
                      simp only [spec_l03Tree.l3] at H
                      by_cases c70 : x16_4 < (x7_4.length : Int)
                      ·rw [if_pos c70] at H
                       have c70b0 : decide (x16_4 < (x7_4.length : Int)) = true := decide_eq_true c70
                       clear c70
                       by_cases c71 : 0 ≤ x16_4
                       ·rw [if_pos c71] at H
                        have c71b0 : decide (0 ≤ x16_4) = true := decide_eq_true c71
                        clear c71
                        by_cases c72 : (rd x7_4 x16_4) = (rd x7_3 t518)
                        ·rw [if_pos c72] at H
                         have c72b0 : ((rd x7_4 x16_4) == (rd x7_3 t518)) = true := beq_iff_eq.mpr c72
                         have c72b1 : ((rd x7_4 x16_4) != (rd x7_3 t518)) = false := bne_eq_false_iff_eq.mpr c72
                         clear c72
                         by_cases c73 : 0 ≤ t517
                         ·rw [if_pos c73] at H
                          have c73b0 : decide (0 ≤ t517) = true := decide_eq_true c73
                          clear c73
                          by_cases c74 : t517 < (x7_4.length : Int)
                          ·rw [if_pos c74] at H
                           have c74b0 : decide (t517 < (x7_4.length : Int)) = true := decide_eq_true c74
                           clear c74
                           obtain ⟨y524, hy524⟩ : ∃ y_ : List Int, y_ = (x7_4.set (x16_4 : Int).toNat (rd x7_4 t517)) := ⟨_, rfl⟩
                           replace H : (spec_l03Tree.l3 k4 t504 y524 t510 x10_2 x11_3 t517 (rd x7_3 t518) (wrap64 (x16_4 + 1)) s0_0 t514 t515 a1_0 a1_1 a1_0 a1_1 (Go.bits .or .i64 x504002_3 (ji61))) = some (r1, r2, r3, r4, r5) := by first | (rw [hy524]; with_reducible exact H) | (have H2_ := (Option.bind_some _ _).symm.trans H; rw [hy524]; with_reducible exact H2_) | (have H2_ := (Option.bind_some _ _).symm.trans H; with_reducible exact H2_) | with_reducible exact H | (rw [hy524]; exact H) | exact H
                           have Ny524 := Aside0.mk hy524
                           clear hy524
                           have H' := Aside0.mk H
                           clear H
                           have p522 : 0 ≤ (x16_4 : Int) := of_decide_eq_true (as_)
                           have q522 : x16_4 < (x7_4.length : Int) := of_decide_eq_true (as_)
                           obtain ⟨ad522, e522, hx522_0⟩ := Kd.at_int (Kd.R_reads' HO_7.out).2.2 x16_4 p522 q522
                           obtain rfl : ad519 = ad522 := (by injection e522)
                           replace p522 := eq_true p522
                           replace q522 := eq_true q522
                           have p523 : 0 ≤ (t517 : Int) := of_decide_eq_true (as_)
                           have q523 : t517 < (x7_4.length : Int) := of_decide_eq_true (as_)
                           obtain ⟨ad523, e523, hx523_0⟩ := Kd.at_int (Kd.R_reads' HO_7.out).2.2 t517 p523 q523
                           obtain rfl : ad519 = ad523 := (by injection e523)
                           replace p523 := eq_true p523
                           replace q523 := eq_true q523
                           have p75 : 0 ≤ (x16_4 : Int) := of_decide_eq_true (as_)
                           have q75 : (x16_4 : Int) < ((x7_4.length : Int) : Int) := of_decide_eq_true (as_)
                           obtain ⟨go75, co75, eo75, gb75, gl75, cl75, HG75⟩ := Kd.R_form HO_7.out (by omega)
                           (first | cases eo75 | (injection eo75 with ea_ en_ ec_; (first | subst ea_ | (injection ea_ with ea_; subst ea_)); subst ec_; clear en_))
                           have GB75 := Aside0.mk gb75
                           have GG75 := Aside0.mk HG75
                           clear gb75 gl75 HG75
                           (first | simp only [add_plain] at hx519_0 | skip)
                           (first | simp only [add_plain] at hx520_0 | skip)
                           (first | simp only [add_plain] at hx521_0 | skip)
                           (first | simp only [add_plain] at hx522_0 | skip)
                           (first | simp only [add_plain] at hx523_0 | skip)
                           obtain ⟨hx75_0, hf75_0⟩ := Kd.R_celln 0 HO_7.out (x16_4 : Int) p75 q75
                           replace p75 := eq_true p75
                           replace q75 := eq_true q75
                           have HP76 := Kd.R_putg HO_7.out (x16_4 : Int) (rd x7_4 t517)
                           go_wp2_with (first | ((with_reducible refine gate_store (t := 3) (p := 104) rfl ?_); refine store_event (t := 3) (p := 104) (v := ?vo_w77) (w1 := (wr.setCell ⟨go75, (x16_4 : Int).toNat, none⟩ (.int .i64 (rd x7_4 t517)))) ?hg ?ho ?hn ?hr ?_; (case ho => rfl); (case hg => rfl); (case hn => rfl); (case hr => first | (go_simp; done) | (go_simp; rfl)); intro w77 hw; have hg : wr.grownBy w77 (some go75) := (by rw [hw]; exact HP76.2); have hp_ : Kd.R (Kd.int .i64) 3 w77 w.heap.size (fun _ => True) (.slice (some ⟨go75, 0, none⟩) x7_4.length co40) y524 := (by rw [hw, Ny524.out]; exact HP76.1); clear HP76; have n0_ := Aside0.mk (hp_); have n1_ := Aside0.mk (blk_grown (g := gb501) (o := .cells #[.int .i64 a1_0, .int .i64 a1_1] 31 (0, 0)) (bk_ BK501.out) hg (Kd.R_ne HO_7.out BK501.out (by decide))); have n2_ := Aside0.mk (blk_grown (g := gb502) (o := .cells #[.int .i64 0, .int .i64 0, .int .i64 0] 33 (0, 0)) (bk_ BK502.out) hg (Kd.R_ne HO_7.out BK502.out (by decide))); have n3_ := Aside0.mk (blk_grown (g := gb503) (o := .cells #[.int .i64 a1_0, .int .i64 a1_1, .int .i64 (Go.bits .or .i64 x504002_3 (ji61))] 33 (0, 0)) (bk_ BK503.out) hg (Kd.R_ne HO_7.out BK503.out (by decide))); have n4_ := Aside0.mk (IsS94.grown (by repeat (first | (with_reducible first | exact HI0.out | apply IsS94.alloc | apply IsS94.drewN | apply IsS94.drew | apply IsS94.set_1 | apply IsS94.set_2 | refine IsS94.far ?_ NB0_501.out _ | refine IsS94.far ?_ NB0_502.out _ | refine IsS94.far ?_ NB0_503.out _) | exact HI0.out)) hg (IsS94.own_ne HI0.out HO_7.out (by decide))); have n5_ := Aside0.mk ((by rw [hw]; exact below_set (HB.out) (Nat.le_trans HL.out GB75.out) : Below w0.heap.size w0 w77)); have n6_ := Aside0.mk (KeepBut.trans (by repeat (first | (with_reducible first | exact HK.out | apply KeepBut.set_ | apply keep_drewN | apply keep_drew | apply keep_alloc | refine keep_far ?_ GW501.out _ | refine keep_far ?_ GW502.out _ | refine keep_far ?_ GW503.out _) | exact HK.out)) (KeepBut.of_grown hg g) (Kd.R_base2 HO_7.out)); clear HO_7; clear BK501; clear BK502; clear BK503; clear HI0; clear HB; clear HK; have HO_7 := n0_; have BK501 := n1_; have BK502 := n2_; have BK503 := n3_; have HI0 := n4_; have HB := n5_; have HK := n6_; clear n0_ n1_ n2_ n3_ n4_ n5_ n6_; clear hg hw hp_))
                           (try simp only [← hl7_4])
                           (try simp only [show ({ block := go75, off := (t517 : Int).toNat } : Addr) = ({ block := go75, off := 0 } : Addr).add (t517 : Int).toNat from (add_plain _ _).symm, show ({ block := go75, off := (t518 : Int).toNat } : Addr) = ({ block := go75, off := 0 } : Addr).add (t518 : Int).toNat from (add_plain _ _).symm])
                           go_roundg k4
                           case measure => have := HK1.out; have := HK2.out; have := HK3.out; have := HK4.out; omega
                           case rel => exact ⟨(y524), (wrap64 (x16_4 + 1)), (by first | rfl | (simp; done) | (simp [*]; done)), H', ⟨by have := HK1.out; have := HK2.out; have := HK3.out; have := HK4.out; omega⟩, ⟨by (try simp only [hl7_3]); (try simp only [hl7_4]); (with_reducible repeat (first | apply Kd.R_alloc | apply Kd.R_drewN | apply Kd.R_drew)); exact HO_7.out⟩, ⟨by (try simp only [hl7_3]); (try simp only [hl7_4]); (with_reducible repeat (first | refine blk_drewN ?_ _ | refine blk_drew ?_ | refine blk_alloc ?_ _)); exact BK501.out⟩, ⟨by (try simp only [hl7_3]); (try simp only [hl7_4]); (with_reducible repeat (first | refine blk_drewN ?_ _ | refine blk_drew ?_ | refine blk_alloc ?_ _)); exact BK502.out⟩, ⟨by (try simp only [hl7_3]); (try simp only [hl7_4]); (with_reducible repeat (first | refine blk_drewN ?_ _ | refine blk_drew ?_ | refine blk_alloc ?_ _)); exact BK503.out⟩, ⟨by repeat (first | (with_reducible first | exact HI0.out | apply IsS94.alloc | apply IsS94.drewN | apply IsS94.drew | apply IsS94.set_1 | apply IsS94.set_2 | refine IsS94.far ?_ NB0_501.out _ | refine IsS94.far ?_ NB0_502.out _ | refine IsS94.far ?_ NB0_503.out _) | exact HI0.out)⟩, ⟨by repeat (first | (with_reducible first | exact HK.out | apply KeepBut.set_ | apply keep_drewN | apply keep_drew | apply keep_alloc | refine keep_far ?_ GW501.out _ | refine keep_far ?_ GW502.out _ | refine keep_far ?_ GW503.out _) | exact HK.out)⟩, ⟨by repeat (first | (with_reducible first | exact HB.out | apply below_alloc | apply pw_below_drewN | apply below_drew1 | refine below_set ?_ (IsS94.ge HI0.out) | refine below_set ?_ GE501.out | refine below_set ?_ GE502.out | refine below_set ?_ GE503.out) | exact HB.out)⟩⟩
                          ·rw [if_neg c74] at H
                           exact absurd H (by simp)
                         ·rw [if_neg c73] at H
                          exact absurd H (by simp)
                        ·rw [if_neg c72] at H
                         have c72b0 : ((rd x7_4 x16_4) == (rd x7_3 t518)) = false := beq_eq_false_iff_ne.mpr c72
                         have c72b1 : ((rd x7_4 x16_4) != (rd x7_3 t518)) = true := bne_iff_ne.mpr c72
                         have H' := Aside0.mk H
                         clear H
                         have p522 : 0 ≤ (x16_4 : Int) := of_decide_eq_true (as_)
                         have q522 : x16_4 < (x7_4.length : Int) := of_decide_eq_true (as_)
                         obtain ⟨ad522, e522, hx522_0⟩ := Kd.at_int (Kd.R_reads' HO_7.out).2.2 x16_4 p522 q522
                         obtain rfl : ad519 = ad522 := (by injection e522)
                         replace p522 := eq_true p522
                         replace q522 := eq_true q522
                         go_wp2
                         (try simp only [← hl7_4])
                         (try simp only [show ({ block := go75, off := (t517 : Int).toNat } : Addr) = ({ block := go75, off := 0 } : Addr).add (t517 : Int).toNat from (add_plain _ _).symm, show ({ block := go75, off := (t518 : Int).toNat } : Addr) = ({ block := go75, off := 0 } : Addr).add (t518 : Int).toNat from (add_plain _ _).symm])
                         go_roundg k4
                         case measure => have := HK1.out; have := HK2.out; have := HK3.out; have := HK4.out; omega
                         case rel => exact ⟨(x7_4), (wrap64 (x16_4 + 1)), (by first | rfl | (simp; done) | (simp [*]; done)), H', ⟨by have := HK1.out; have := HK2.out; have := HK3.out; have := HK4.out; omega⟩, ⟨by (try simp only [hl7_3]); (try simp only [hl7_4]); (with_reducible repeat (first | apply Kd.R_alloc | apply Kd.R_drewN | apply Kd.R_drew)); exact HO_7.out⟩, ⟨by (try simp only [hl7_3]); (try simp only [hl7_4]); (with_reducible repeat (first | refine blk_drewN ?_ _ | refine blk_drew ?_ | refine blk_alloc ?_ _)); exact BK501.out⟩, ⟨by (try simp only [hl7_3]); (try simp only [hl7_4]); (with_reducible repeat (first | refine blk_drewN ?_ _ | refine blk_drew ?_ | refine blk_alloc ?_ _)); exact BK502.out⟩, ⟨by (try simp only [hl7_3]); (try simp only [hl7_4]); (with_reducible repeat (first | refine blk_drewN ?_ _ | refine blk_drew ?_ | refine blk_alloc ?_ _)); exact BK503.out⟩, ⟨by repeat (first | (with_reducible first | exact HI0.out | apply IsS94.alloc | apply IsS94.drewN | apply IsS94.drew | apply IsS94.set_1 | apply IsS94.set_2 | refine IsS94.far ?_ NB0_501.out _ | refine IsS94.far ?_ NB0_502.out _ | refine IsS94.far ?_ NB0_503.out _) | exact HI0.out)⟩, ⟨by repeat (first | (with_reducible first | exact HK.out | apply KeepBut.set_ | apply keep_drewN | apply keep_drew | apply keep_alloc | refine keep_far ?_ GW501.out _ | refine keep_far ?_ GW502.out _ | refine keep_far ?_ GW503.out _) | exact HK.out)⟩, ⟨by repeat (first | (with_reducible first | exact HB.out | apply below_alloc | apply pw_below_drewN | apply below_drew1 | refine below_set ?_ (IsS94.ge HI0.out) | refine below_set ?_ GE501.out | refine below_set ?_ GE502.out | refine below_set ?_ GE503.out) | exact HB.out)⟩⟩
                       ·rw [if_neg c71] at H
                        exact absurd H (by simp)
                      ·rw [if_neg c70] at H
                       have c70b0 : decide (x16_4 < (x7_4.length : Int)) = false := decide_eq_false c70
                       clear c70
                       have H' := Aside0.mk H
                       clear H
                       go_wp2
                       (try simp only [← hl7_3, ← hl7_4])
                       (try simp only [show ({ block := go75, off := (t517 : Int).toNat } : Addr) = ({ block := go75, off := 0 } : Addr).add (t517 : Int).toNat from (add_plain _ _).symm, show ({ block := go75, off := (t518 : Int).toNat } : Addr) = ({ block := go75, off := 0 } : Addr).add (t518 : Int).toNat from (add_plain _ _).symm])
                       go_roundg k4
                       case measure => have := HK1.out; have := HK2.out; have := HK3.out; have := HK4.out; omega
                       case rel => exact ⟨(x7_4), (wrap64 (x11_3 + 1)), ((Go.bits .or .i64 x504002_3 (ji61))), (by first | rfl | (simp; done) | (simp [*]; done)), H', ⟨by have := HK1.out; have := HK2.out; have := HK3.out; have := HK4.out; omega⟩, ⟨by (try simp only [hl7_3]); (try simp only [hl7_4]); (with_reducible repeat (first | apply Kd.R_alloc | apply Kd.R_drewN | apply Kd.R_drew)); exact HO_7.out⟩, ⟨by (try simp only [hl7_3]); (try simp only [hl7_4]); (with_reducible repeat (first | refine blk_drewN ?_ _ | refine blk_drew ?_ | refine blk_alloc ?_ _)); exact BK501.out⟩, ⟨by (try simp only [hl7_3]); (try simp only [hl7_4]); (with_reducible repeat (first | refine blk_drewN ?_ _ | refine blk_drew ?_ | refine blk_alloc ?_ _)); exact BK502.out⟩, ⟨by (try simp only [hl7_3]); (try simp only [hl7_4]); (with_reducible repeat (first | refine blk_drewN ?_ _ | refine blk_drew ?_ | refine blk_alloc ?_ _)); exact BK503.out⟩, ⟨by repeat (first | (with_reducible first | exact HI0.out | apply IsS94.alloc | apply IsS94.drewN | apply IsS94.drew | apply IsS94.set_1 | apply IsS94.set_2 | refine IsS94.far ?_ NB0_501.out _ | refine IsS94.far ?_ NB0_502.out _ | refine IsS94.far ?_ NB0_503.out _) | exact HI0.out)⟩, ⟨by repeat (first | (with_reducible first | exact HK.out | apply KeepBut.set_ | apply keep_drewN | apply keep_drew | apply keep_alloc | refine keep_far ?_ GW501.out _ | refine keep_far ?_ GW502.out _ | refine keep_far ?_ GW503.out _) | exact HK.out)⟩, ⟨by repeat (first | (with_reducible first | exact HB.out | apply below_alloc | apply pw_below_drewN | apply below_drew1 | refine below_set ?_ (IsS94.ge HI0.out) | refine below_set ?_ GE501.out | refine below_set ?_ GE502.out | refine below_set ?_ GE503.out) | exact HB.out)⟩⟩
                   ·rw [if_neg c60] at H
                    exact absurd H (by simp)
                 ·rw [if_neg c51] at H
                  exact absurd H (by simp)
                ·rw [if_neg c50] at H
                 exact absurd H (by simp)
               ·rw [if_neg c49] at H
                exact absurd H (by simp)
              ·rw [if_neg c48] at H
               exact absurd H (by simp)
            ·rw [if_neg c45] at H
             have c45b0 : decide (x11_3 < t504) = false := decide_eq_false c45
             clear c45
             simp only [Option.some.injEq, Prod.mk.injEq] at H
             obtain ⟨rfl, rfl, rfl, rfl, rfl⟩ := H
             have hnb78 := NB503_501.out
             have hnc78 := NB501_503.out
             have hnb79 := NB503_502.out
             have hnc79 := NB502_503.out
             have hnb80 := NB503_0.out
             have hnc80 := NB0_503.out
             obtain ⟨hcz81_0, hcz81_1, hcz81_2⟩ := cz3_ BK503.out
             obtain ⟨hfz81_0, hfz81_1, hfz81_2⟩ := fz3_ BK503.out
             have hnb82 := NB502_501.out
             have hnc82 := NB501_502.out
             have hnb83 := NB502_0.out
             have hnc83 := NB0_502.out
             obtain ⟨hcz84_0, hcz84_1, hcz84_2⟩ := cz3_ BK502.out
             obtain ⟨hfz84_0, hfz84_1, hfz84_2⟩ := fz3_ BK502.out
             go_wp2
             refine bodyPost_ret (results_cell_row rfl _ _ gb502 33 #[.int .i64 a1_0, .int .i64 a1_1, .int .i64 x504002_3] (0, 0) _ rfl (bq3_ BK502.out) Try.underlying33 rfl (by kernel_rfl)) rfl ?_
             exact ⟨ex_, by repeat (first | (with_reducible first | exact HI0.out | apply IsS94.alloc | apply IsS94.drewN | apply IsS94.drew | apply IsS94.set_1 | apply IsS94.set_2 | refine IsS94.far ?_ NB0_501.out _ | refine IsS94.far ?_ NB0_502.out _ | refine IsS94.far ?_ NB0_503.out _) | exact HI0.out), by repeat (first | (with_reducible first | exact HB.out | apply below_alloc | apply pw_below_drewN | apply below_drew1 | refine below_set ?_ (IsS94.ge HI0.out) | refine below_set ?_ GE501.out | refine below_set ?_ GE502.out | refine below_set ?_ GE503.out) | exact HB.out), by repeat (first | (with_reducible first | exact HK.out | apply KeepBut.set_ | apply keep_drewN | apply keep_drew | apply keep_alloc | refine keep_far ?_ GW501.out _ | refine keep_far ?_ GW502.out _ | refine keep_far ?_ GW503.out _) | exact HK.out)⟩
  ·rw [if_neg c6] at H
   exact absurd H (by simp)
 ·rw [if_neg c5] at H
  exact absurd H (by simp)

end Go.Proofs.Ytlfomjhjeknnmaa.X
