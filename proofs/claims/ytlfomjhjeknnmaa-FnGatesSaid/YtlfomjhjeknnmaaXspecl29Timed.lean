-- Written by a program of this session (xprint.py), out of the translation and of hand-written contracts. Lean checks it.
import Derived.Test.YtlfomjhjeknnmaaX0
import Derived.Test.YtlfomjhjeknnmaaXcgaps
import Derived.Test.YtlfomjhjeknnmaaXcmaze
import Derived.Test.YtlfomjhjeknnmaaXspecSetGap
import Derived.Test.YtlfomjhjeknnmaaXspecl01Below
import Derived.Test.YtlfomjhjeknnmaaXspecl01New
import Derived.Test.YtlfomjhjeknnmaaXspecl01Once
import Derived.Test.YtlfomjhjeknnmaaXspecl03Tree
namespace Go.Proofs.Ytlfomjhjeknnmaa.X
open Go.RowKit Go.Proofs.YtlfomjhjeknnmaaW.PrintWords Go.Proofs.YtlfomjhjeknnmaaW.PrintLast Go.Proofs.YtlfomjhjeknnmaaW.PrintMore
attribute [local go_sem] max2_int min2_int max_two min_two max_three min_three max_four min_four   -- for this text's walks alone
set_option linter.unusedVariables false
set_option linter.unusedSimpArgs false

/-! ### spec_l29Timed: function 48 -/
mutual
def spec_l29Timed.j0 : Nat → Int → Bool → List Int → Int → Int → Int → Int → Int → Option (Int × Int × Int × Int × (List (S56)) × Int × Int)
 | 0, _, _, _, _, _, _, _, _ => none
 | k + 1, x5, x25, x1000, x1001, x1002, x515000, x515001, x515002 => if x25 = true then ((spec_l01Below.f x1000 x1001 x1002 x5).bind fun bt519 => ((spec_SetGap.f k x515000 x515001 x515002 bt519.1 true).bind fun bt522 => (spec_l29Timed.j1 k x5 x1000 bt519.2.1 bt519.2.2 bt522.1 bt522.2.1 bt522.2.2.1))) else (spec_l29Timed.j1 k x5 x1000 x1001 x1002 x515000 x515001 x515002)
def spec_l29Timed.j1 : Nat → Int → List Int → Int → Int → Int → Int → Int → Option (Int × Int × Int × Int × (List (S56)) × Int × Int)
 | 0, _, _, _, _, _, _, _ => none
 | k + 1, x5, x1000, x1001, x1002, x515000, x515001, x515002 => (spec_l01Below.f x1000 x1001 x1002 6).bind fun bt526 => (spec_l29Timed.l0 k x5 0 x1000 bt526.2.1 bt526.2.2 x515000 x515001 x515002 x515000 x515001 x515002 (wrap64 (1 + bt526.1)) ([] : List (S56)))
def spec_l29Timed.l0 : Nat → Int → Int → List Int → Int → Int → Int → Int → Int → Int → Int → Int → Int → List (S56) → Option (Int × Int × Int × Int × (List (S56)) × Int × Int)
 | 0, _, _, _, _, _, _, _, _, _, _, _, _, _ => none
 | k + 1, x5, x7, x1000, x1001, x1002, x515000, x515001, x515002, x530000, x530001, x530002, x530003, x530004 => if x7 < x5 then (spec_l29Timed.j3 k x5 x7 (decide ((x530004.length : Int) < 5)) x1000 x1001 x1002 x515000 x515001 x515002 x530000 x530001 x530002 x530003 x530004) else (spec_l29Timed.j3 k x5 x7 false x1000 x1001 x1002 x515000 x515001 x515002 x530000 x530001 x530002 x530003 x530004)
def spec_l29Timed.j3 : Nat → Int → Int → Bool → List Int → Int → Int → Int → Int → Int → Int → Int → Int → Int → List (S56) → Option (Int × Int × Int × Int × (List (S56)) × Int × Int)
 | 0, _, _, _, _, _, _, _, _, _, _, _, _, _, _ => none
 | k + 1, x5, x7, x47, x1000, x1001, x1002, x515000, x515001, x515002, x530000, x530001, x530002, x530003, x530004 => if x47 = true then ((spec_l03Bit.f x515002 x7).bind fun t530 => (if t530 = true then ((spec_l01Once.f x1000 x1001 x1002 3).bind fun bt531 => (if bt531.1 = true then (if 0 ≤ x530003 then ((spec_l01Below.f x1000 bt531.2.1 bt531.2.2 (shl .i64 1 x530003)).bind fun bt534 => (if x530004.length < 8796093022208 then (spec_l29Timed.l0 k x5 (wrap64 (x7 + 1)) x1000 bt534.2.1 bt534.2.2 x515000 x515001 x515002 x530000 x530001 x530002 x530003 (x530004 ++ [(⟨x7, bt534.1⟩ : S56)])) else (none))) else (none)) else (spec_l29Timed.l0 k x5 (wrap64 (x7 + 1)) x1000 bt531.2.1 bt531.2.2 x515000 x515001 x515002 x530000 x530001 x530002 x530003 x530004))) else (spec_l29Timed.l0 k x5 (wrap64 (x7 + 1)) x1000 x1001 x1002 x515000 x515001 x515002 x530000 x530001 x530002 x530003 x530004))) else (some (x530000, x530001, x530002, x530003, x530004, x1001, x1002))
end
def spec_l29Timed.f (k : Nat) (s0_0 : List Int) (s0_1 : Int) (s0_2 : Int) : Option (Int × Int × Int × Int × (List (S56)) × Int × Int) := (spec_l01Below.f s0_0 s0_1 s0_2 3).bind fun bt502 => ((spec_l01Below.f s0_0 bt502.2.1 bt502.2.2 3).bind fun bt505 => ((spec_l03Tree.f k s0_0 bt505.2.1 bt505.2.2 (wrap64 (1 + bt502.1)) (wrap64 (1 + bt505.1))).bind fun bt509 => ((spec_CountGaps.f (wrap64 (1 + bt502.1)) (wrap64 (1 + bt505.1))).bind fun t515 => (if t515 > 0 then ((spec_l01Once.f s0_0 bt509.2.2.2.1 bt509.2.2.2.2 2).bind fun bt516 => (spec_l29Timed.j0 k t515 bt516.1 s0_0 bt516.2.1 bt516.2.2 bt509.1 bt509.2.1 bt509.2.2.1)) else (spec_l29Timed.j0 k t515 false s0_0 bt509.2.2.2.1 bt509.2.2.2.2 bt509.1 bt509.2.1 bt509.2.2.1)))))
theorem spec_l29Timed.mono_l : ∀ k, (∀ y0 y1 y2 y3 y4 y5 y6 y7, LeO (spec_l29Timed.j0 k y0 y1 y2 y3 y4 y5 y6 y7) (spec_l29Timed.j0 (k + 1) y0 y1 y2 y3 y4 y5 y6 y7)) ∧ (∀ y0 y1 y2 y3 y4 y5 y6, LeO (spec_l29Timed.j1 k y0 y1 y2 y3 y4 y5 y6) (spec_l29Timed.j1 (k + 1) y0 y1 y2 y3 y4 y5 y6)) ∧ (∀ y0 y1 y2 y3 y4 y5 y6 y7 y8 y9 y10 y11 y12, LeO (spec_l29Timed.l0 k y0 y1 y2 y3 y4 y5 y6 y7 y8 y9 y10 y11 y12) (spec_l29Timed.l0 (k + 1) y0 y1 y2 y3 y4 y5 y6 y7 y8 y9 y10 y11 y12)) ∧ (∀ y0 y1 y2 y3 y4 y5 y6 y7 y8 y9 y10 y11 y12 y13, LeO (spec_l29Timed.j3 k y0 y1 y2 y3 y4 y5 y6 y7 y8 y9 y10 y11 y12 y13) (spec_l29Timed.j3 (k + 1) y0 y1 y2 y3 y4 y5 y6 y7 y8 y9 y10 y11 y12 y13))
 | 0 => ⟨fun _ _ _ _ _ _ _ _ r h => by simp [spec_l29Timed.j0] at h, fun _ _ _ _ _ _ _ r h => by simp [spec_l29Timed.j1] at h, fun _ _ _ _ _ _ _ _ _ _ _ _ _ r h => by simp [spec_l29Timed.l0] at h, fun _ _ _ _ _ _ _ _ _ _ _ _ _ _ r h => by simp [spec_l29Timed.j3] at h⟩
 | k + 1 => by
  obtain ⟨ih0, ih1, ih2, ih3⟩ := spec_l29Timed.mono_l k
  refine ⟨?_, ?_, ?_, ?_⟩
  ·intro y0 y1 y2 y3 y4 y5 y6 y7
   unfold spec_l29Timed.j0
   repeat' first
   | (with_reducible exact ih0 ..)
   | (with_reducible exact ih1 ..)
   | (with_reducible exact ih2 ..)
   | (with_reducible exact ih3 ..)
   | (with_reducible exact spec_SetGap.mono ..)
   | (with_reducible exact spec_l03Tree.mono ..)
   | (with_reducible first | exact lr_ _ | exact ln_ _ | refine li_ ?_ ?_ | refine lb_ ?_ fun _ => ?_)
   | exact ih0 ..
   | exact ih1 ..
   | exact ih2 ..
   | exact ih3 ..
   | exact spec_SetGap.mono ..
   | exact spec_l03Tree.mono ..
   | exact ln_ _ | refine li_ ?_ ?_ | refine lb_ ?_ fun _ => ?_
  ·intro y0 y1 y2 y3 y4 y5 y6
   unfold spec_l29Timed.j1
   repeat' first
   | (with_reducible exact ih0 ..)
   | (with_reducible exact ih1 ..)
   | (with_reducible exact ih2 ..)
   | (with_reducible exact ih3 ..)
   | (with_reducible exact spec_SetGap.mono ..)
   | (with_reducible exact spec_l03Tree.mono ..)
   | (with_reducible first | exact lr_ _ | exact ln_ _ | refine li_ ?_ ?_ | refine lb_ ?_ fun _ => ?_)
   | exact ih0 ..
   | exact ih1 ..
   | exact ih2 ..
   | exact ih3 ..
   | exact spec_SetGap.mono ..
   | exact spec_l03Tree.mono ..
   | exact ln_ _ | refine li_ ?_ ?_ | refine lb_ ?_ fun _ => ?_
  ·intro y0 y1 y2 y3 y4 y5 y6 y7 y8 y9 y10 y11 y12
   unfold spec_l29Timed.l0
   repeat' first
   | (with_reducible exact ih0 ..)
   | (with_reducible exact ih1 ..)
   | (with_reducible exact ih2 ..)
   | (with_reducible exact ih3 ..)
   | (with_reducible exact spec_SetGap.mono ..)
   | (with_reducible exact spec_l03Tree.mono ..)
   | (with_reducible first | exact lr_ _ | exact ln_ _ | refine li_ ?_ ?_ | refine lb_ ?_ fun _ => ?_)
   | exact ih0 ..
   | exact ih1 ..
   | exact ih2 ..
   | exact ih3 ..
   | exact spec_SetGap.mono ..
   | exact spec_l03Tree.mono ..
   | exact ln_ _ | refine li_ ?_ ?_ | refine lb_ ?_ fun _ => ?_
  ·intro y0 y1 y2 y3 y4 y5 y6 y7 y8 y9 y10 y11 y12 y13
   unfold spec_l29Timed.j3
   repeat' first
   | (with_reducible exact ih0 ..)
   | (with_reducible exact ih1 ..)
   | (with_reducible exact ih2 ..)
   | (with_reducible exact ih3 ..)
   | (with_reducible exact spec_SetGap.mono ..)
   | (with_reducible exact spec_l03Tree.mono ..)
   | (with_reducible first | exact lr_ _ | exact ln_ _ | refine li_ ?_ ?_ | refine lb_ ?_ fun _ => ?_)
   | exact ih0 ..
   | exact ih1 ..
   | exact ih2 ..
   | exact ih3 ..
   | exact spec_SetGap.mono ..
   | exact spec_l03Tree.mono ..
   | exact ln_ _ | refine li_ ?_ ?_ | refine lb_ ?_ fun _ => ?_
theorem spec_l29Timed.mono : ∀ a0 a1 a2 k, LeO (spec_l29Timed.f k a0 a1 a2) (spec_l29Timed.f (k + 1) a0 a1 a2) := by
 intro a0 a1 a2 k
 obtain ⟨ih0, ih1, ih2, ih3⟩ := spec_l29Timed.mono_l k
 unfold spec_l29Timed.f
 repeat' first
   | (with_reducible exact ih0 ..)
   | (with_reducible exact ih1 ..)
   | (with_reducible exact ih2 ..)
   | (with_reducible exact ih3 ..)
   | (with_reducible exact spec_SetGap.mono ..)
   | (with_reducible exact spec_l03Tree.mono ..)
   | (with_reducible first | exact lr_ _ | exact ln_ _ | refine li_ ?_ ?_ | refine lb_ ?_ fun _ => ?_)
   | exact ih0 ..
   | exact ih1 ..
   | exact ih2 ..
   | exact ih3 ..
   | exact spec_SetGap.mono ..
   | exact spec_l03Tree.mono ..
   | exact ln_ _ | refine li_ ?_ ?_ | refine lb_ ?_ fun _ => ?_
def spec_l29Timed.T5 : Bool × List (List Nat × List Nat) := (true, [([], []), ([], []), ([], []), ([1, 2], [1, 2]), ([0, 3, 3], [0, 3]), ([4], [4]), ([5], [5]), ([5], [5]), ([6, 4, 0, 1, 2, 3, 4, 5, 6], [6])])
def spec_l29Timed.B5 : List Nat := [0, 0, 0, 6, 15, 31, 63, 63, 127]
theorem spec_l29Timed.tab5 : rtab .any (opsOf Try.f48 5) = spec_l29Timed.T5 := by kernel_rfl
theorem spec_l29Timed.bits5 : waitsOk spec_l29Timed.T5.2 spec_l29Timed.B5 = true := by kernel_rfl
def spec_l29Timed.T11 : Bool × List (List Nat × List Nat) := (true, [([], []), ([0], [0]), ([], []), ([], []), ([], []), ([4], [4]), ([5], [5]), ([3, 6], [3, 6]), ([2, 7], [2, 7]), ([8], [8]), ([1, 9, 7], [1, 9]), ([0, 1, 2, 3, 4, 5, 6, 7, 8, 9, 10], []), ([11, 10, 10, 0, 1, 2, 3, 4, 5, 6, 7, 8, 9, 10], [10, 11])])
def spec_l29Timed.B11 : List Nat := [0, 1, 0, 0, 0, 16, 48, 120, 252, 508, 1023, 2047, 4095]
theorem spec_l29Timed.tab11 : rtab .any (opsOf Try.f48 11) = spec_l29Timed.T11 := by kernel_rfl
theorem spec_l29Timed.bits11 : waitsOk spec_l29Timed.T11.2 spec_l29Timed.B11 = true := by kernel_rfl
set_option maxHeartbeats 8000000 in
set_option maxRecDepth 100000 in
theorem spec_l29Timed.calls (k : Nat) (g : Nat) (s0_0 : List Int) (s0_1 : Int) (s0_2 : Int) (r1 : Int) (r2 : Int) (r3 : Int) (r4 : Int) (r5 : List (S56)) (r6 : Int) (r7 : Int) (w0 w : World) (hI : IsS94 w0 w g s0_0 s0_1 s0_2) (hB : Below w0.heap.size w0 w) (h : spec_l29Timed.f k s0_0 s0_1 s0_2 = some (r1, r2, r3, r4, r5, r6, r7)) :
  Calls Try.prog 48 #[.pointer (some ⟨g, 0, none⟩)] w fun e w' => ∃ v4_ : Value, e = .returned (.agg #[.int .i64 r1, .int .i64 r2, .int .i64 r3, .int .i64 r4, v4_]) ∧ Kd.R k56 56 w' w.heap.size (fun _ => True) v4_ r5 ∧ IsS94 w0 w' g s0_0 r6 r7 ∧ Below w0.heap.size w0 w' ∧ KeepBut w w' g none := by
 have hu36 := Try.underlying36
 have hu31 := Try.underlying31
 have hu33 := Try.underlying33
 have hu56 := Try.underlying56
 have HI0 := Aside0.mk hI
 have HK := Aside0.mk (KeepBut.refl w g none)
 have HL := Aside0.mk hB.size
 clear hI
 have HW0 := Aside0.mk hB.size
 have HB := Aside0.mk hB
 clear hB
 have H : ((spec_l01Below.f s0_0 s0_1 s0_2 3).bind fun bt502 => ((spec_l01Below.f s0_0 bt502.2.1 bt502.2.2 3).bind fun bt505 => ((spec_l03Tree.f k s0_0 bt505.2.1 bt505.2.2 (wrap64 (1 + bt502.1)) (wrap64 (1 + bt505.1))).bind fun bt509 => ((spec_CountGaps.f (wrap64 (1 + bt502.1)) (wrap64 (1 + bt505.1))).bind fun t515 => (if t515 > 0 then ((spec_l01Once.f s0_0 bt509.2.2.2.1 bt509.2.2.2.2 2).bind fun bt516 => (spec_l29Timed.j0 k t515 bt516.1 s0_0 bt516.2.1 bt516.2.2 bt509.1 bt509.2.1 bt509.2.2.1)) else (spec_l29Timed.j0 k t515 false s0_0 bt509.2.2.2.1 bt509.2.2.2.2 bt509.1 bt509.2.1 bt509.2.2.1)))))) = some (r1, r2, r3, r4, r5, r6, r7) := h
 clear h
 replace H := Option.bind_eq_some_iff.mp H
 obtain ⟨⟨t502, t503, t504⟩, A20, H⟩ := H
 replace H : ((spec_l01Below.f s0_0 t503 t504 3).bind fun bt505 => ((spec_l03Tree.f k s0_0 bt505.2.1 bt505.2.2 (wrap64 (1 + t502)) (wrap64 (1 + bt505.1))).bind fun bt509 => ((spec_CountGaps.f (wrap64 (1 + t502)) (wrap64 (1 + bt505.1))).bind fun t515 => (if t515 > 0 then ((spec_l01Once.f s0_0 bt509.2.2.2.1 bt509.2.2.2.2 2).bind fun bt516 => (spec_l29Timed.j0 k t515 bt516.1 s0_0 bt516.2.1 bt516.2.2 bt509.1 bt509.2.1 bt509.2.2.1)) else (spec_l29Timed.j0 k t515 false s0_0 bt509.2.2.2.1 bt509.2.2.2.2 bt509.1 bt509.2.1 bt509.2.2.1))))) = some (r1, r2, r3, r4, r5, r6, r7) := H
 have A2 := Aside0.mk A20
 clear A20
 replace H := Option.bind_eq_some_iff.mp H
 obtain ⟨⟨t505, t506, t507⟩, A30, H⟩ := H
 replace H : ((spec_l03Tree.f k s0_0 t506 t507 (wrap64 (1 + t502)) (wrap64 (1 + t505))).bind fun bt509 => ((spec_CountGaps.f (wrap64 (1 + t502)) (wrap64 (1 + t505))).bind fun t515 => (if t515 > 0 then ((spec_l01Once.f s0_0 bt509.2.2.2.1 bt509.2.2.2.2 2).bind fun bt516 => (spec_l29Timed.j0 k t515 bt516.1 s0_0 bt516.2.1 bt516.2.2 bt509.1 bt509.2.1 bt509.2.2.1)) else (spec_l29Timed.j0 k t515 false s0_0 bt509.2.2.2.1 bt509.2.2.2.2 bt509.1 bt509.2.1 bt509.2.2.1)))) = some (r1, r2, r3, r4, r5, r6, r7) := H
 have A3 := Aside0.mk A30
 clear A30
 replace H := Option.bind_eq_some_iff.mp H
 obtain ⟨⟨t509, t510, t511, t512, t513⟩, A40, H⟩ := H
 replace H : ((spec_CountGaps.f (wrap64 (1 + t502)) (wrap64 (1 + t505))).bind fun t515 => (if t515 > 0 then ((spec_l01Once.f s0_0 t512 t513 2).bind fun bt516 => (spec_l29Timed.j0 k t515 bt516.1 s0_0 bt516.2.1 bt516.2.2 t509 t510 t511)) else (spec_l29Timed.j0 k t515 false s0_0 t512 t513 t509 t510 t511))) = some (r1, r2, r3, r4, r5, r6, r7) := H
 have A4 := Aside0.mk A40
 clear A40
 replace H := Option.bind_eq_some_iff.mp H
 obtain ⟨t515, A50, H⟩ := H
 replace H : (if t515 > 0 then ((spec_l01Once.f s0_0 t512 t513 2).bind fun bt516 => (spec_l29Timed.j0 k t515 bt516.1 s0_0 bt516.2.1 bt516.2.2 t509 t510 t511)) else (spec_l29Timed.j0 k t515 false s0_0 t512 t513 t509 t510 t511)) = some (r1, r2, r3, r4, r5, r6, r7) := H
 have A5 := Aside0.mk A50
 clear A50
 have HC6 := Aside0.mk H
 clear H
 go_enter Try.func48, Try.ntmps48
 go_upto_region 4 with (first | ((with_reducible refine gate_dst (N := 2) rfl ?_); (try (refine gate_guard (by rfl) ?_; dsimp only)); refine box_event ?hg (N := 2) ?hd (cs := #[.int .i64 0, .int .i64 0, .int .i64 0, .int .i64 0, .slice none 0 0]) (t := 36) ?hr ?_; (case hd => rfl); (case hg => rfl); (case hr => first | (go_simp; done) | (go_simp; rfl)); intro gb501 hg w7 hbox hb; have n0_ := Aside0.mk (IsS94.below (by repeat (first | (with_reducible first | exact HI0.out | apply IsS94.alloc | apply IsS94.drewN | apply IsS94.drew | apply IsS94.set_1 | apply IsS94.set_2) | exact HI0.out)) hb); have n1_ := Aside0.mk (KeepBut.trans (by repeat (first | (with_reducible first | exact HK.out | apply KeepBut.set_ | apply keep_drewN | apply keep_drew | apply keep_alloc) | exact HK.out)) (KeepBut.of_below hb g none) (.inl rfl)); have n2_ := Aside0.mk (below_step (by repeat (first | (with_reducible first | exact HB.out | apply below_alloc | apply pw_below_drewN | apply below_drew1 | refine below_set ?_ (IsS94.ge HI0.out)) | exact HB.out)) hb); have n3_ := Aside0.mk (hbox); have n4_ := Aside0.mk ((by rw [hg]; exact (keep_size (w := w) (g := g) (row := none) (by repeat (first | (with_reducible first | exact HK.out | apply KeepBut.set_ | apply keep_drewN | apply keep_drew | apply keep_alloc) | exact HK.out))) : w.heap.size ≤ gb501)); have n5_ := Aside0.mk ((Nat.le_trans HW0.out (by rw [hg]; exact (keep_size (w := w) (g := g) (row := none) (by repeat (first | (with_reducible first | exact HK.out | apply KeepBut.set_ | apply keep_drewN | apply keep_drew | apply keep_alloc) | exact HK.out))) : w.heap.size ≤ gb501) : w0.heap.size ≤ gb501)); have n6_ := Aside0.mk ((by rw [hg]; exact Nat.ne_of_lt (IsS94.lt (show IsS94 w0 _ g s0_0 s0_1 s0_2 from by repeat (first | (with_reducible first | exact HI0.out | apply IsS94.alloc | apply IsS94.drewN | apply IsS94.drew | apply IsS94.set_1 | apply IsS94.set_2) | exact HI0.out))) : g ≠ gb501)); have n7_ := Aside0.mk ((by rw [hg]; exact Nat.ne_of_gt (IsS94.lt (show IsS94 w0 _ g s0_0 s0_1 s0_2 from by repeat (first | (with_reducible first | exact HI0.out | apply IsS94.alloc | apply IsS94.drewN | apply IsS94.drew | apply IsS94.set_1 | apply IsS94.set_2) | exact HI0.out))) : gb501 ≠ g)); clear HI0; clear HK; clear HB; have HI0 := n0_; have HK := n1_; have HB := n2_; have BK501 := n3_; have GW501 := n4_; have GE501 := n5_; have NB0_501 := n6_; have NB501_0 := n7_; clear n0_ n1_ n2_ n3_ n4_ n5_ n6_ n7_; clear hb hbox hg) | (refine gl_ 9 Try.func49 #[.pointer (some ⟨g, 0, none⟩), .int .i64 3] ?_; (with_reducible refine (spec_l01Below.calls g s0_0 s0_1 s0_2 3 t502 t503 t504 w0 _ ?side1 ?side2 A2.out).mono ?_); (case side1 => repeat (first | (with_reducible first | exact HI0.out | apply IsS94.alloc | apply IsS94.drewN | apply IsS94.drew | apply IsS94.set_1 | apply IsS94.set_2 | refine IsS94.far ?_ NB0_501.out _) | exact HI0.out)); (case side2 => repeat (first | (with_reducible first | exact HB.out | apply below_alloc | apply pw_below_drewN | apply below_drew1 | refine below_set ?_ (IsS94.ge HI0.out) | refine below_set ?_ GE501.out) | exact HB.out)); rintro e w8 ⟨rfl, hi, hb, hk⟩; refine ⟨_, rfl, ?_⟩; replace BK501 := Aside0.mk (KeepBut.blk hk (g' := gb501) (o := .cells #[.int .i64 0, .int .i64 0, .int .i64 0, .int .i64 0, .slice none 0 0] 36 (0, 0)) (bk_ BK501.out) NB501_0.out (by simp)); replace HK := Aside0.mk (KeepBut.trans (by repeat (first | (with_reducible first | exact HK.out | apply KeepBut.set_ | apply keep_drewN | apply keep_drew | apply keep_alloc | refine keep_far ?_ GW501.out _) | exact HK.out)) hk (.inl rfl)); replace HB := Aside0.mk (hb); replace HI0 := Aside0.mk (hi)) | (refine gl_ 12 Try.func49 #[.pointer (some ⟨g, 0, none⟩), .int .i64 3] ?_; (with_reducible refine (spec_l01Below.calls g s0_0 t503 t504 3 t505 t506 t507 w0 _ ?side1 ?side2 A3.out).mono ?_); (case side1 => repeat (first | (with_reducible first | exact HI0.out | apply IsS94.alloc | apply IsS94.drewN | apply IsS94.drew | apply IsS94.set_1 | apply IsS94.set_2 | refine IsS94.far ?_ NB0_501.out _) | exact HI0.out)); (case side2 => repeat (first | (with_reducible first | exact HB.out | apply below_alloc | apply pw_below_drewN | apply below_drew1 | refine below_set ?_ (IsS94.ge HI0.out) | refine below_set ?_ GE501.out) | exact HB.out)); rintro e w9 ⟨rfl, hi, hb, hk⟩; refine ⟨_, rfl, ?_⟩; replace BK501 := Aside0.mk (KeepBut.blk hk (g' := gb501) (o := .cells #[.int .i64 0, .int .i64 0, .int .i64 0, .int .i64 0, .slice none 0 0] 36 (0, 0)) (bk_ BK501.out) NB501_0.out (by simp)); replace HK := Aside0.mk (KeepBut.trans (by repeat (first | (with_reducible first | exact HK.out | apply KeepBut.set_ | apply keep_drewN | apply keep_drew | apply keep_alloc | refine keep_far ?_ GW501.out _) | exact HK.out)) hk (.inl rfl)); replace HB := Aside0.mk (hb); replace HI0 := Aside0.mk (hi)) | ((with_reducible refine gate_dst (N := 3) rfl ?_); (try (refine gate_guard (by rfl) ?_; dsimp only)); refine box_event ?hg (N := 3) ?hd (cs := #[.int .i64 0, .int .i64 0]) (t := 31) ?hr ?_; (case hd => rfl); (case hg => rfl); (case hr => first | (go_simp; done) | (go_simp; rfl)); intro gb508 hg w10 hbox hb; have n0_ := Aside0.mk (IsS94.below (by repeat (first | (with_reducible first | exact HI0.out | apply IsS94.alloc | apply IsS94.drewN | apply IsS94.drew | apply IsS94.set_1 | apply IsS94.set_2 | refine IsS94.far ?_ NB0_501.out _) | exact HI0.out)) hb); have n1_ := BK501.bb hb; have n2_ := Aside0.mk (KeepBut.trans (by repeat (first | (with_reducible first | exact HK.out | apply KeepBut.set_ | apply keep_drewN | apply keep_drew | apply keep_alloc | refine keep_far ?_ GW501.out _) | exact HK.out)) (KeepBut.of_below hb g none) (.inl rfl)); have n3_ := Aside0.mk (below_step (by repeat (first | (with_reducible first | exact HB.out | apply below_alloc | apply pw_below_drewN | apply below_drew1 | refine below_set ?_ (IsS94.ge HI0.out) | refine below_set ?_ GE501.out) | exact HB.out)) hb); have n4_ := Aside0.mk (hbox); have n5_ := Aside0.mk ((by rw [hg]; exact (keep_size (w := w) (g := g) (row := none) (by repeat (first | (with_reducible first | exact HK.out | apply KeepBut.set_ | apply keep_drewN | apply keep_drew | apply keep_alloc | refine keep_far ?_ GW501.out _) | exact HK.out))) : w.heap.size ≤ gb508)); have n6_ := Aside0.mk ((Nat.le_trans HW0.out (by rw [hg]; exact (keep_size (w := w) (g := g) (row := none) (by repeat (first | (with_reducible first | exact HK.out | apply KeepBut.set_ | apply keep_drewN | apply keep_drew | apply keep_alloc | refine keep_far ?_ GW501.out _) | exact HK.out))) : w.heap.size ≤ gb508) : w0.heap.size ≤ gb508)); have n7_ := BK501.nl hg; have n8_ := BK501.nr hg; have n9_ := Aside0.mk ((by rw [hg]; exact Nat.ne_of_lt (IsS94.lt (show IsS94 w0 _ g s0_0 t506 t507 from by repeat (first | (with_reducible first | exact HI0.out | apply IsS94.alloc | apply IsS94.drewN | apply IsS94.drew | apply IsS94.set_1 | apply IsS94.set_2 | refine IsS94.far ?_ NB0_501.out _) | exact HI0.out))) : g ≠ gb508)); have n10_ := Aside0.mk ((by rw [hg]; exact Nat.ne_of_gt (IsS94.lt (show IsS94 w0 _ g s0_0 t506 t507 from by repeat (first | (with_reducible first | exact HI0.out | apply IsS94.alloc | apply IsS94.drewN | apply IsS94.drew | apply IsS94.set_1 | apply IsS94.set_2 | refine IsS94.far ?_ NB0_501.out _) | exact HI0.out))) : gb508 ≠ g)); clear HI0; clear BK501; clear HK; clear HB; have HI0 := n0_; have BK501 := n1_; have HK := n2_; have HB := n3_; have BK508 := n4_; have GW508 := n5_; have GE508 := n6_; have NB501_508 := n7_; have NB508_501 := n8_; have NB0_508 := n9_; have NB508_0 := n10_; clear n0_ n1_ n2_ n3_ n4_ n5_ n6_ n7_ n8_ n9_ n10_; clear hb hbox hg; have hnb11 := NB508_501.out; have hnc11 := NB501_508.out; have hnb12 := NB508_0.out; have hnc12 := NB0_508.out; obtain ⟨hcz13_0, hcz13_1⟩ := cz2_ BK508.out; obtain ⟨hfz13_0, hfz13_1⟩ := fz2_ BK508.out) | (refine gl_ 17 Try.func71 #[.pointer (some ⟨g, 0, none⟩), .agg #[.int .i64 (wrap64 (1 + t502)), .int .i64 (wrap64 (1 + t505))]] ?_; (with_reducible refine (spec_l03Tree.calls k g s0_0 t506 t507 (wrap64 (1 + t502)) (wrap64 (1 + t505)) t509 t510 t511 t512 t513 w0 _ ?side1 ?side2 A4.out).mono ?_); (case side1 => repeat (first | (with_reducible first | exact HI0.out | apply IsS94.alloc | apply IsS94.drewN | apply IsS94.drew | apply IsS94.set_1 | apply IsS94.set_2 | refine IsS94.far ?_ NB0_501.out _ | refine IsS94.far ?_ NB0_508.out _) | exact HI0.out)); (case side2 => repeat (first | (with_reducible first | exact HB.out | apply below_alloc | apply pw_below_drewN | apply below_drew1 | refine below_set ?_ (IsS94.ge HI0.out) | refine below_set ?_ GE501.out | refine below_set ?_ GE508.out) | exact HB.out)); rintro e w14 ⟨rfl, hi, hb, hk⟩; refine ⟨_, rfl, ?_⟩; replace BK501 := Aside0.mk (KeepBut.blk hk (g' := gb501) (o := .cells #[.int .i64 0, .int .i64 0, .int .i64 0, .int .i64 0, .slice none 0 0] 36 (0, 0)) (by (with_reducible repeat (first | refine blk_drewN ?_ _ | refine blk_drew ?_ | refine blk_alloc ?_ _)); refine blk_far ?_ NB501_508.out _; (with_reducible repeat (first | refine blk_drewN ?_ _ | refine blk_drew ?_ | refine blk_alloc ?_ _)); refine blk_far ?_ NB501_508.out _; (with_reducible repeat (first | refine blk_drewN ?_ _ | refine blk_drew ?_ | refine blk_alloc ?_ _)); exact BK501.out) NB501_0.out (by simp)); replace BK508 := Aside0.mk (KeepBut.blk hk (g' := gb508) (o := .cells #[.int .i64 (wrap64 (1 + t502)), .int .i64 (wrap64 (1 + t505))] 31 (0, 0)) (bq2_ BK508.out) NB508_0.out (by simp)); replace HK := Aside0.mk (KeepBut.trans (by repeat (first | (with_reducible first | exact HK.out | apply KeepBut.set_ | apply keep_drewN | apply keep_drew | apply keep_alloc | refine keep_far ?_ GW501.out _ | refine keep_far ?_ GW508.out _) | exact HK.out)) hk (.inl rfl)); replace HB := Aside0.mk (hb); replace HI0 := Aside0.mk (hi)) | ((with_reducible refine gate_dst (N := 4) rfl ?_); (try (refine gate_guard (by rfl) ?_; dsimp only)); refine box_event ?hg (N := 4) ?hd (cs := #[.int .i64 0, .int .i64 0, .int .i64 0]) (t := 33) ?hr ?_; (case hd => rfl); (case hg => rfl); (case hr => first | (go_simp; done) | (go_simp; rfl)); intro gb514 hg w15 hbox hb; have n0_ := Aside0.mk (IsS94.below (by repeat (first | (with_reducible first | exact HI0.out | apply IsS94.alloc | apply IsS94.drewN | apply IsS94.drew | apply IsS94.set_1 | apply IsS94.set_2 | refine IsS94.far ?_ NB0_501.out _ | refine IsS94.far ?_ NB0_508.out _) | exact HI0.out)) hb); have n1_ := BK501.bb hb; have n2_ := BK508.bb hb; have n3_ := Aside0.mk (KeepBut.trans (by repeat (first | (with_reducible first | exact HK.out | apply KeepBut.set_ | apply keep_drewN | apply keep_drew | apply keep_alloc | refine keep_far ?_ GW501.out _ | refine keep_far ?_ GW508.out _) | exact HK.out)) (KeepBut.of_below hb g none) (.inl rfl)); have n4_ := Aside0.mk (below_step (by repeat (first | (with_reducible first | exact HB.out | apply below_alloc | apply pw_below_drewN | apply below_drew1 | refine below_set ?_ (IsS94.ge HI0.out) | refine below_set ?_ GE501.out | refine below_set ?_ GE508.out) | exact HB.out)) hb); have n5_ := Aside0.mk (hbox); have n6_ := Aside0.mk ((by rw [hg]; exact (keep_size (w := w) (g := g) (row := none) (by repeat (first | (with_reducible first | exact HK.out | apply KeepBut.set_ | apply keep_drewN | apply keep_drew | apply keep_alloc | refine keep_far ?_ GW501.out _ | refine keep_far ?_ GW508.out _) | exact HK.out))) : w.heap.size ≤ gb514)); have n7_ := Aside0.mk ((Nat.le_trans HW0.out (by rw [hg]; exact (keep_size (w := w) (g := g) (row := none) (by repeat (first | (with_reducible first | exact HK.out | apply KeepBut.set_ | apply keep_drewN | apply keep_drew | apply keep_alloc | refine keep_far ?_ GW501.out _ | refine keep_far ?_ GW508.out _) | exact HK.out))) : w.heap.size ≤ gb514) : w0.heap.size ≤ gb514)); have n8_ := BK501.nl hg; have n9_ := BK501.nr hg; have n10_ := BK508.nl hg; have n11_ := BK508.nr hg; have n12_ := Aside0.mk ((by rw [hg]; exact Nat.ne_of_lt (IsS94.lt (show IsS94 w0 _ g s0_0 t512 t513 from by repeat (first | (with_reducible first | exact HI0.out | apply IsS94.alloc | apply IsS94.drewN | apply IsS94.drew | apply IsS94.set_1 | apply IsS94.set_2 | refine IsS94.far ?_ NB0_501.out _ | refine IsS94.far ?_ NB0_508.out _) | exact HI0.out))) : g ≠ gb514)); have n13_ := Aside0.mk ((by rw [hg]; exact Nat.ne_of_gt (IsS94.lt (show IsS94 w0 _ g s0_0 t512 t513 from by repeat (first | (with_reducible first | exact HI0.out | apply IsS94.alloc | apply IsS94.drewN | apply IsS94.drew | apply IsS94.set_1 | apply IsS94.set_2 | refine IsS94.far ?_ NB0_501.out _ | refine IsS94.far ?_ NB0_508.out _) | exact HI0.out))) : gb514 ≠ g)); clear HI0; clear BK501; clear BK508; clear HK; clear HB; have HI0 := n0_; have BK501 := n1_; have BK508 := n2_; have HK := n3_; have HB := n4_; have BK514 := n5_; have GW514 := n6_; have GE514 := n7_; have NB501_514 := n8_; have NB514_501 := n9_; have NB508_514 := n10_; have NB514_508 := n11_; have NB0_514 := n12_; have NB514_0 := n13_; clear n0_ n1_ n2_ n3_ n4_ n5_ n6_ n7_ n8_ n9_ n10_ n11_ n12_ n13_; clear hb hbox hg; have hnb16 := NB514_501.out; have hnc16 := NB501_514.out; have hnb17 := NB514_508.out; have hnc17 := NB508_514.out; have hnb18 := NB514_0.out; have hnc18 := NB0_514.out; obtain ⟨hcz19_0, hcz19_1, hcz19_2⟩ := cz3_ BK514.out; obtain ⟨hfz19_0, hfz19_1, hfz19_2⟩ := fz3_ BK514.out; obtain ⟨hcz20_0, hcz20_1⟩ := cz2_ BK508.out; obtain ⟨hfz20_0, hfz20_1⟩ := fz2_ BK508.out) | (refine gl_ 19 Try.func72 #[.agg #[.int .i64 (wrap64 (1 + t502)), .int .i64 (wrap64 (1 + t505))]] ?_; (with_reducible refine (spec_CountGaps.calls (wrap64 (1 + t502)) (wrap64 (1 + t505)) t515 _ A5.out).mono ?_); rintro e w21 ⟨rfl, hb⟩; refine ⟨_, rfl, ?_⟩; have n0_ := Aside0.mk (IsS94.below (show IsS94 w0 (((w15.setCell ⟨gb514, 0, none⟩ (.int .i64 t509)).setCell ⟨gb514, 1, none⟩ (.int .i64 t510)).setCell ⟨gb514, 2, none⟩ (.int .i64 t511)) g s0_0 t512 t513 from by repeat (first | (with_reducible first | exact HI0.out | apply IsS94.alloc | apply IsS94.drewN | apply IsS94.drew | apply IsS94.set_1 | apply IsS94.set_2 | refine IsS94.far ?_ NB0_501.out _ | refine IsS94.far ?_ NB0_508.out _ | refine IsS94.far ?_ NB0_514.out _) | exact HI0.out)) hb); have n1_ := Aside0.mk (blk_below (g := gb501) (o := .cells #[.int .i64 0, .int .i64 0, .int .i64 0, .int .i64 0, .slice none 0 0] 36 (0, 0)) (by (with_reducible repeat (first | refine blk_drewN ?_ _ | refine blk_drew ?_ | refine blk_alloc ?_ _)); refine blk_far ?_ NB501_514.out _; (with_reducible repeat (first | refine blk_drewN ?_ _ | refine blk_drew ?_ | refine blk_alloc ?_ _)); refine blk_far ?_ NB501_514.out _; (with_reducible repeat (first | refine blk_drewN ?_ _ | refine blk_drew ?_ | refine blk_alloc ?_ _)); refine blk_far ?_ NB501_514.out _; (with_reducible repeat (first | refine blk_drewN ?_ _ | refine blk_drew ?_ | refine blk_alloc ?_ _)); exact BK501.out) hb); have n2_ := Aside0.mk (blk_below (g := gb508) (o := .cells #[.int .i64 (wrap64 (1 + t502)), .int .i64 (wrap64 (1 + t505))] 31 (0, 0)) (by (with_reducible repeat (first | refine blk_drewN ?_ _ | refine blk_drew ?_ | refine blk_alloc ?_ _)); refine blk_far ?_ NB508_514.out _; (with_reducible repeat (first | refine blk_drewN ?_ _ | refine blk_drew ?_ | refine blk_alloc ?_ _)); refine blk_far ?_ NB508_514.out _; (with_reducible repeat (first | refine blk_drewN ?_ _ | refine blk_drew ?_ | refine blk_alloc ?_ _)); refine blk_far ?_ NB508_514.out _; (with_reducible repeat (first | refine blk_drewN ?_ _ | refine blk_drew ?_ | refine blk_alloc ?_ _)); exact BK508.out) hb); have n3_ := Aside0.mk (blk_below (bq3_ BK514.out) hb); have n4_ := Aside0.mk (KeepBut.trans (by repeat (first | (with_reducible first | exact HK.out | apply KeepBut.set_ | apply keep_drewN | apply keep_drew | apply keep_alloc | refine keep_far ?_ GW501.out _ | refine keep_far ?_ GW508.out _ | refine keep_far ?_ GW514.out _) | exact HK.out)) (KeepBut.of_below hb g none) (.inl rfl)); have n5_ := Aside0.mk (below_step (by repeat (first | (with_reducible first | exact HB.out | apply below_alloc | apply pw_below_drewN | apply below_drew1 | refine below_set ?_ (IsS94.ge HI0.out) | refine below_set ?_ GE501.out | refine below_set ?_ GE508.out | refine below_set ?_ GE514.out) | exact HB.out)) hb); clear HI0; clear BK501; clear BK508; clear BK514; clear HK; clear HB; have HI0 := n0_; have BK501 := n1_; have BK508 := n2_; have BK514 := n3_; have HK := n4_; have HB := n5_; clear n0_ n1_ n2_ n3_ n4_ n5_))
 (try simp only [Act.put, List.setIfInBounds_toArray, List.set_cons_zero, List.set_cons_succ])
 go_cut [25] (fun v25 wc => ∃ (kq : Nat) (x25_5 : Bool) (x1001_5 : Int) (x1002_5 : Int), v25 = .bool x25_5 ∧ Aside0 (spec_l29Timed.j0 kq t515 x25_5 s0_0 x1001_5 x1002_5 t509 t510 t511 = some (r1, r2, r3, r4, r5, r6, r7)) ∧ Aside0 (kq ≤ k) ∧ Aside0 (wc.heap[gb501]? = some (.cells #[.int .i64 0, .int .i64 0, .int .i64 0, .int .i64 0, (.slice none 0 0)] 36 (0, 0))) ∧ Aside0 (wc.heap[gb508]? = some (.cells #[.int .i64 (wrap64 (1 + t502)), .int .i64 (wrap64 (1 + t505))] 31 (0, 0))) ∧ Aside0 (wc.heap[gb514]? = some (.cells #[.int .i64 t509, .int .i64 t510, .int .i64 t511] 33 (0, 0))) ∧ Aside0 (IsS94 w0 wc g s0_0 x1001_5 x1002_5) ∧ Aside0 (KeepBut w wc g none) ∧ Aside0 (Below w0.heap.size w0 wc))
 case first =>
  have H := HC6.out
  clear HC6
  by_cases c22 : t515 > 0
  ·rw [if_pos c22] at H
   have c22b0 : decide (0 < t515) = true := decide_eq_true c22
   clear c22
   (first | rw [c22b0] | (simp only [i64_w, i32_w]; rw [c22b0]) | skip)
   replace H := Option.bind_eq_some_iff.mp H
   obtain ⟨⟨t516, t517, t518⟩, A230, H⟩ := H
   replace H : (spec_l29Timed.j0 k t515 t516 s0_0 t517 t518 t509 t510 t511) = some (r1, r2, r3, r4, r5, r6, r7) := H
   have A23 := Aside0.mk A230
   clear A230
   have H' := Aside0.mk H
   clear H
   go_wp2_with (first | (go_at_call 73; (with_reducible refine (spec_l01Once.calls g s0_0 t512 t513 2 t516 t517 t518 w0 _ ?side1 ?side2 A23.out).mono ?_); (case side1 => repeat (first | (with_reducible first | exact HI0.out | apply IsS94.alloc | apply IsS94.drewN | apply IsS94.drew | apply IsS94.set_1 | apply IsS94.set_2 | refine IsS94.far ?_ NB0_501.out _ | refine IsS94.far ?_ NB0_508.out _ | refine IsS94.far ?_ NB0_514.out _) | exact HI0.out)); (case side2 => repeat (first | (with_reducible first | exact HB.out | apply below_alloc | apply pw_below_drewN | apply below_drew1 | refine below_set ?_ (IsS94.ge HI0.out) | refine below_set ?_ GE501.out | refine below_set ?_ GE508.out | refine below_set ?_ GE514.out) | exact HB.out)); rintro e w24 ⟨rfl, hi, hb, hk⟩; replace BK501 := Aside0.mk (KeepBut.blk hk (g' := gb501) (o := .cells #[.int .i64 0, .int .i64 0, .int .i64 0, .int .i64 0, .slice none 0 0] 36 (0, 0)) (bk_ BK501.out) NB501_0.out (by simp)); replace BK508 := Aside0.mk (KeepBut.blk hk (g' := gb508) (o := .cells #[.int .i64 (wrap64 (1 + t502)), .int .i64 (wrap64 (1 + t505))] 31 (0, 0)) (bk_ BK508.out) NB508_0.out (by simp)); replace BK514 := Aside0.mk (KeepBut.blk hk (g' := gb514) (o := .cells #[.int .i64 t509, .int .i64 t510, .int .i64 t511] 33 (0, 0)) (bk_ BK514.out) NB514_0.out (by simp)); replace HK := Aside0.mk (KeepBut.trans (by repeat (first | (with_reducible first | exact HK.out | apply KeepBut.set_ | apply keep_drewN | apply keep_drew | apply keep_alloc | refine keep_far ?_ GW501.out _ | refine keep_far ?_ GW508.out _ | refine keep_far ?_ GW514.out _) | exact HK.out)) hk (.inl rfl)); replace HB := Aside0.mk (hb); replace HI0 := Aside0.mk (hi)))
   go_meet
   case rel => exact ⟨_, (t516), (t517), (t518), (by first | rfl | (simp; done) | (simp [*]; done)), H', ⟨by first | omega | exact Nat.le_refl _⟩, ⟨bk_ BK501.out⟩, ⟨bk_ BK508.out⟩, ⟨bk_ BK514.out⟩, ⟨by repeat (first | (with_reducible first | exact HI0.out | apply IsS94.alloc | apply IsS94.drewN | apply IsS94.drew | apply IsS94.set_1 | apply IsS94.set_2 | refine IsS94.far ?_ NB0_501.out _ | refine IsS94.far ?_ NB0_508.out _ | refine IsS94.far ?_ NB0_514.out _) | exact HI0.out)⟩, ⟨by repeat (first | (with_reducible first | exact HK.out | apply KeepBut.set_ | apply keep_drewN | apply keep_drew | apply keep_alloc | refine keep_far ?_ GW501.out _ | refine keep_far ?_ GW508.out _ | refine keep_far ?_ GW514.out _) | exact HK.out)⟩, ⟨by repeat (first | (with_reducible first | exact HB.out | apply below_alloc | apply pw_below_drewN | apply below_drew1 | refine below_set ?_ (IsS94.ge HI0.out) | refine below_set ?_ GE501.out | refine below_set ?_ GE508.out | refine below_set ?_ GE514.out) | exact HB.out)⟩⟩
  ·rw [if_neg c22] at H
   have c22b0 : decide (0 < t515) = false := decide_eq_false c22
   clear c22
   (first | rw [c22b0] | (simp only [i64_w, i32_w]; rw [c22b0]) | skip)
   have H' := Aside0.mk H
   clear H
   go_wp2
   go_meet
   case rel => exact ⟨_, (false), (t512), (t513), (by first | rfl | (simp; done) | (simp [*]; done)), H', ⟨by first | omega | exact Nat.le_refl _⟩, ⟨bk_ BK501.out⟩, ⟨bk_ BK508.out⟩, ⟨bk_ BK514.out⟩, ⟨by repeat (first | (with_reducible first | exact HI0.out | apply IsS94.alloc | apply IsS94.drewN | apply IsS94.drew | apply IsS94.set_1 | apply IsS94.set_2 | refine IsS94.far ?_ NB0_501.out _ | refine IsS94.far ?_ NB0_508.out _ | refine IsS94.far ?_ NB0_514.out _) | exact HI0.out)⟩, ⟨by repeat (first | (with_reducible first | exact HK.out | apply KeepBut.set_ | apply keep_drewN | apply keep_drew | apply keep_alloc | refine keep_far ?_ GW501.out _ | refine keep_far ?_ GW508.out _ | refine keep_far ?_ GW514.out _) | exact HK.out)⟩, ⟨by repeat (first | (with_reducible first | exact HB.out | apply below_alloc | apply pw_below_drewN | apply below_drew1 | refine below_set ?_ (IsS94.ge HI0.out) | refine below_set ?_ GE501.out | refine below_set ?_ GE508.out | refine below_set ?_ GE514.out) | exact HB.out)⟩⟩
 case rest =>
  clear HC6
  try clear c1
  try clear c2
  try clear p2
  try clear c4
  try clear p6
  try clear c7
  try clear c11
  try clear c12
  try clear c16
  try clear c17
  try clear c18
  try clear c22
  try clear c22b0
  try clear hcz13_0
  try clear hcz13_1
  try clear hcz19_0
  try clear hcz19_1
  try clear hcz19_2
  try clear hcz20_0
  try clear hcz20_1
  try clear hfz13_0
  try clear hfz13_1
  try clear hfz19_0
  try clear hfz19_1
  try clear hfz19_2
  try clear hfz20_0
  try clear hfz20_1
  obtain ⟨kq, x25_5, x1001_5, x1002_5, rfl, HA, HJ5, BK501, BK508, BK514, HI0, HK, HB⟩ := hcut
  cases kq with
  | zero => exact absurd HA.out (by simp [spec_l29Timed.j0])
  | succ kj5 =>
   have H := HA.out
   clear HA
   simp only [spec_l29Timed.j0] at H
   have HC25 := Aside0.mk H
   clear H
   go_upto_if 25 with (fail)
   go_cut [] (fun wc => ∃ (kq : Nat) (x1001_24 : Int) (x1002_24 : Int) (x515000_24 : Int) (x515001_24 : Int) (x515002_24 : Int), Aside0 (spec_l29Timed.j1 kq t515 s0_0 x1001_24 x1002_24 x515000_24 x515001_24 x515002_24 = some (r1, r2, r3, r4, r5, r6, r7)) ∧ Aside0 (kq ≤ kj5) ∧ Aside0 (wc.heap[gb501]? = some (.cells #[.int .i64 0, .int .i64 0, .int .i64 0, .int .i64 0, (.slice none 0 0)] 36 (0, 0))) ∧ Aside0 (wc.heap[gb508]? = some (.cells #[.int .i64 (wrap64 (1 + t502)), .int .i64 (wrap64 (1 + t505))] 31 (0, 0))) ∧ Aside0 (wc.heap[gb514]? = some (.cells #[.int .i64 x515000_24, .int .i64 x515001_24, .int .i64 x515002_24] 33 (0, 0))) ∧ Aside0 (IsS94 w0 wc g s0_0 x1001_24 x1002_24) ∧ Aside0 (KeepBut w wc g none) ∧ Aside0 (Below w0.heap.size w0 wc))
   case first =>
    have H := HC25.out
    clear HC25
    by_cases c26 : x25_5 = true
    ·subst c26
     have H1 : ((spec_l01Below.f s0_0 x1001_5 x1002_5 t515).bind fun bt519 => ((spec_SetGap.f kj5 t509 t510 t511 bt519.1 true).bind fun bt522 => (spec_l29Timed.j1 kj5 t515 s0_0 bt519.2.1 bt519.2.2 bt522.1 bt522.2.1 bt522.2.2.1))) = some (r1, r2, r3, r4, r5, r6, r7) := by rw [if_pos rfl] at H; exact H
     clear H
     have H := H1
     clear H1
     replace H := Option.bind_eq_some_iff.mp H
     obtain ⟨⟨t519, t520, t521⟩, A270, H⟩ := H
     replace H : ((spec_SetGap.f kj5 t509 t510 t511 t519 true).bind fun bt522 => (spec_l29Timed.j1 kj5 t515 s0_0 t520 t521 bt522.1 bt522.2.1 bt522.2.2.1)) = some (r1, r2, r3, r4, r5, r6, r7) := H
     have A27 := Aside0.mk A270
     clear A270
     replace H := Option.bind_eq_some_iff.mp H
     obtain ⟨⟨t522, t523, t524, t525⟩, A280, H⟩ := H
     replace H : (spec_l29Timed.j1 kj5 t515 s0_0 t520 t521 t522 t523 t524) = some (r1, r2, r3, r4, r5, r6, r7) := H
     have A28 := Aside0.mk A280
     clear A280
     have H' := Aside0.mk H
     clear H
     try go_wp2
     replace BK501 := Aside0.mk (blk_drew BK501.out)
     replace BK508 := Aside0.mk (blk_drew BK508.out)
     replace BK514 := Aside0.mk (blk_drew BK514.out)
     replace HI0 := Aside0.mk (IsS94.drew HI0.out)
     replace HK := Aside0.mk (keep_drew HK.out)
     replace HB := Aside0.mk (below_drew1 HB.out)
     refine start_ (n := 9) (S := fun w' => w'.cell? ⟨gb514, 0, none⟩ = some (.int .i64 t509) ∧ w'.cell? ⟨gb514, 1, none⟩ = some (.int .i64 t510) ∧ w'.cell? ⟨gb514, 2, none⟩ = some (.int .i64 t511)) (ds := [8]) #[false, false, false, false, false, false, false, false, false] (by kernel_rfl) rfl rfl ⟨BK514.c 0, BK514.c 1, BK514.c 2⟩ (fun hHeld => ?_); refine with_tabW spec_l29Timed.tab5 spec_l29Timed.bits5 (fun HT_ HW_ => ?_)
     generalize wc.drew = w29 at BK501 BK508 BK514 HI0 HK HB hHeld ⊢
     refine pv_ (i := 1) (N := some 28) HT_.out ?_
     refine pv_ (i := 2) (N := some 29) HT_.out ?_
     refine tv3_ (i := 0) (N := some 27) HT_.out HW_.out hHeld ?_
     refine ov_ (i := 3) (N := some 30) HT_.out (fun K hK => ?_)
     refine gq_ Try.func49 #[.pointer (some ⟨g, 0, none⟩), .int .i64 t515] ?_
     with_reducible refine (spec_l01Below.calls g s0_0 x1001_5 x1002_5 t515 t519 t520 t521 w0 _ ?side1 ?side2 A27.out).mono ?_
     (case side1 => repeat (first | (with_reducible first | exact HI0.out | apply IsS94.alloc | apply IsS94.drewN | apply IsS94.drew | apply IsS94.set_1 | apply IsS94.set_2 | refine IsS94.far ?_ NB0_501.out _ | refine IsS94.far ?_ NB0_508.out _ | refine IsS94.far ?_ NB0_514.out _) | exact HI0.out))
     (case side2 => repeat (first | (with_reducible first | exact HB.out | apply below_alloc | apply pw_below_drewN | apply below_drew1 | refine below_set ?_ (IsS94.ge HI0.out) | refine below_set ?_ GE501.out | refine below_set ?_ GE508.out | refine below_set ?_ GE514.out) | exact HB.out))
     rintro e w30 ⟨rfl, hi, hb, hk⟩
     refine ⟨_, rfl, ?_⟩
     replace BK501 := Aside0.mk (KeepBut.blk hk (g' := gb501) (o := .cells #[.int .i64 0, .int .i64 0, .int .i64 0, .int .i64 0, .slice none 0 0] 36 (0, 0)) (bk_ BK501.out) NB501_0.out (by simp))
     replace BK508 := Aside0.mk (KeepBut.blk hk (g' := gb508) (o := .cells #[.int .i64 (wrap64 (1 + t502)), .int .i64 (wrap64 (1 + t505))] 31 (0, 0)) (bk_ BK508.out) NB508_0.out (by simp))
     replace BK514 := Aside0.mk (KeepBut.blk hk (g' := gb514) (o := .cells #[.int .i64 t509, .int .i64 t510, .int .i64 t511] 33 (0, 0)) (bk_ BK514.out) NB514_0.out (by simp))
     replace HK := Aside0.mk (KeepBut.trans (by repeat (first | (with_reducible first | exact HK.out | apply KeepBut.set_ | apply keep_drewN | apply keep_drew | apply keep_alloc | refine keep_far ?_ GW501.out _ | refine keep_far ?_ GW508.out _ | refine keep_far ?_ GW514.out _) | exact HK.out)) hk (.inl rfl))
     replace HB := Aside0.mk (hb)
     replace HI0 := Aside0.mk (hi)
     skip
     (try clear hb2)
     (try clear hk)
     (try clear hi)
     refine hK.out _ _ ⟨BK514.c 0, BK514.c 1, BK514.c 2⟩ (fun hHeld => ?_)
     clear hK K
     refine nm_ ?_
     refine ov_ (i := 4) (N := some 31) HT_.out (fun K hK => ?_)
     refine gq_ Try.func56 #[.agg #[.int .i64 t509, .int .i64 t510, .int .i64 t511], .int .i64 t519, .bool true] ?_
     with_reducible refine (spec_SetGap.calls kj5 t509 t510 t511 t519 true t522 t523 t524 t525 _ A28.out).mono ?_
     rintro e w31 ⟨rfl, hb⟩
     refine ⟨_, rfl, ?_⟩
     have n0_ := BK501.bb hb
     have n1_ := BK508.bb hb
     have n2_ := BK514.bb hb
     have n3_ := Aside0.mk (IsS94.below (by repeat (first | (with_reducible first | exact HI0.out | apply IsS94.alloc | apply IsS94.drewN | apply IsS94.drew | apply IsS94.set_1 | apply IsS94.set_2 | refine IsS94.far ?_ NB0_501.out _ | refine IsS94.far ?_ NB0_508.out _ | refine IsS94.far ?_ NB0_514.out _) | exact HI0.out)) hb)
     have n4_ := Aside0.mk (KeepBut.trans (by repeat (first | (with_reducible first | exact HK.out | apply KeepBut.set_ | apply keep_drewN | apply keep_drew | apply keep_alloc | refine keep_far ?_ GW501.out _ | refine keep_far ?_ GW508.out _ | refine keep_far ?_ GW514.out _) | exact HK.out)) (KeepBut.of_below hb g none) (.inl rfl))
     have n5_ := Aside0.mk (below_step (by repeat (first | (with_reducible first | exact HB.out | apply below_alloc | apply pw_below_drewN | apply below_drew1 | refine below_set ?_ (IsS94.ge HI0.out) | refine below_set ?_ GE501.out | refine below_set ?_ GE508.out | refine below_set ?_ GE514.out) | exact HB.out)) hb)
     clear BK501
     clear BK508
     clear BK514
     clear HI0
     clear HK
     clear HB
     have BK501 := n0_
     have BK508 := n1_
     have BK514 := n2_
     have HI0 := n3_
     have HK := n4_
     have HB := n5_
     clear n0_ n1_ n2_ n3_ n4_ n5_
     skip
     (try clear hb2)
     (try clear hk)
     (try clear hi)
     refine hK.out _ _ ⟨BK514.c 0, BK514.c 1, BK514.c 2⟩ (fun hHeld => ?_)
     clear hK K
     refine nm_ ?_
     refine pv_ (i := 5) (N := some 26) HT_.out ?_
     refine pv_ (i := 6) (N := some 32) HT_.out ?_
     refine pv_ (i := 7) (N := some 33) HT_.out ?_
     refine last_ (i := 8) (N := none) #[true, true, true, true, true, true, true, true, true] rfl rfl (one_of HT_.out (by kernel_rfl)) (by decide) (fun K hK => ?_)
     have hs32 : w31.cell? ⟨gb514, 0, none⟩ = some (.int .i64 t509) := BK514.c 0
     have hfs32 := blk_frozen BK514.out 0
     have hns32_0 := NB501_514.out
     have hns32_1 := NB508_514.out
     have hms32_0 := NB514_501.out
     have hms32_1 := NB514_508.out
     have hs33 : w31.cell? ⟨gb514, 1, none⟩ = some (.int .i64 t510) := BK514.c 1
     have hfs33 := blk_frozen BK514.out 1
     have hns33_0 := NB501_514.out
     have hns33_1 := NB508_514.out
     have hms33_0 := NB514_501.out
     have hms33_1 := NB514_508.out
     have hs34 : w31.cell? ⟨gb514, 2, none⟩ = some (.int .i64 t511) := BK514.c 2
     have hfs34 := blk_frozen BK514.out 2
     have hns34_0 := NB501_514.out
     have hns34_1 := NB508_514.out
     have hms34_0 := NB514_501.out
     have hms34_1 := NB514_508.out
     refine skip_ (w1 := ?_) (by rfl) rfl ?_ ?_
     rotate_left
     ·go_simp
      rfl
     refine hK.out _ _ ?_
     clear hK K
     refine done_ (done_of HT_.out (by kernel_rfl)) ?_
     try go_wp2
     go_meet
     case rel => exact ⟨_, (t520), (t521), (t522), (t523), (t524), H', ⟨by have := HJ5.out; first | omega | exact Nat.le_refl _⟩, ⟨by (with_reducible repeat (first | refine blk_drewN ?_ _ | refine blk_drew ?_ | refine blk_alloc ?_ _)); refine blk_far ?_ NB501_514.out _; (with_reducible repeat (first | refine blk_drewN ?_ _ | refine blk_drew ?_ | refine blk_alloc ?_ _)); refine blk_far ?_ NB501_514.out _; (with_reducible repeat (first | refine blk_drewN ?_ _ | refine blk_drew ?_ | refine blk_alloc ?_ _)); refine blk_far ?_ NB501_514.out _; (with_reducible repeat (first | refine blk_drewN ?_ _ | refine blk_drew ?_ | refine blk_alloc ?_ _)); exact BK501.out⟩, ⟨by (with_reducible repeat (first | refine blk_drewN ?_ _ | refine blk_drew ?_ | refine blk_alloc ?_ _)); refine blk_far ?_ NB508_514.out _; (with_reducible repeat (first | refine blk_drewN ?_ _ | refine blk_drew ?_ | refine blk_alloc ?_ _)); refine blk_far ?_ NB508_514.out _; (with_reducible repeat (first | refine blk_drewN ?_ _ | refine blk_drew ?_ | refine blk_alloc ?_ _)); refine blk_far ?_ NB508_514.out _; (with_reducible repeat (first | refine blk_drewN ?_ _ | refine blk_drew ?_ | refine blk_alloc ?_ _)); exact BK508.out⟩, ⟨bq3_ BK514.out⟩, ⟨by repeat (first | (with_reducible first | exact HI0.out | apply IsS94.alloc | apply IsS94.drewN | apply IsS94.drew | apply IsS94.set_1 | apply IsS94.set_2 | refine IsS94.far ?_ NB0_501.out _ | refine IsS94.far ?_ NB0_508.out _ | refine IsS94.far ?_ NB0_514.out _) | exact HI0.out)⟩, ⟨by repeat (first | (with_reducible first | exact HK.out | apply KeepBut.set_ | apply keep_drewN | apply keep_drew | apply keep_alloc | refine keep_far ?_ GW501.out _ | refine keep_far ?_ GW508.out _ | refine keep_far ?_ GW514.out _) | exact HK.out)⟩, ⟨by repeat (first | (with_reducible first | exact HB.out | apply below_alloc | apply pw_below_drewN | apply below_drew1 | refine below_set ?_ (IsS94.ge HI0.out) | refine below_set ?_ GE501.out | refine below_set ?_ GE508.out | refine below_set ?_ GE514.out) | exact HB.out)⟩⟩
    ·replace c26 := Bool.eq_false_iff.mpr c26
     subst c26
     have H1 : (spec_l29Timed.j1 kj5 t515 s0_0 x1001_5 x1002_5 t509 t510 t511) = some (r1, r2, r3, r4, r5, r6, r7) := by rw [if_neg (show ¬ (false = true) by decide)] at H; exact H
     clear H
     have H := H1
     clear H1
     have H' := Aside0.mk H
     clear H
     go_wp2
     go_meet
     case rel => exact ⟨_, (x1001_5), (x1002_5), (t509), (t510), (t511), H', ⟨by have := HJ5.out; first | omega | exact Nat.le_refl _⟩, ⟨bk_ BK501.out⟩, ⟨bk_ BK508.out⟩, ⟨bk_ BK514.out⟩, ⟨by repeat (first | (with_reducible first | exact HI0.out | apply IsS94.alloc | apply IsS94.drewN | apply IsS94.drew | apply IsS94.set_1 | apply IsS94.set_2 | refine IsS94.far ?_ NB0_501.out _ | refine IsS94.far ?_ NB0_508.out _ | refine IsS94.far ?_ NB0_514.out _) | exact HI0.out)⟩, ⟨by repeat (first | (with_reducible first | exact HK.out | apply KeepBut.set_ | apply keep_drewN | apply keep_drew | apply keep_alloc | refine keep_far ?_ GW501.out _ | refine keep_far ?_ GW508.out _ | refine keep_far ?_ GW514.out _) | exact HK.out)⟩, ⟨by repeat (first | (with_reducible first | exact HB.out | apply below_alloc | apply pw_below_drewN | apply below_drew1 | refine below_set ?_ (IsS94.ge HI0.out) | refine below_set ?_ GE501.out | refine below_set ?_ GE508.out | refine below_set ?_ GE514.out) | exact HB.out)⟩⟩
   case rest =>
    clear HC25
    try clear c1
    try clear c2
    try clear p2
    try clear c4
    try clear c5
    try clear p6
    try clear c7
    try clear c11
    try clear c12
    try clear c16
    try clear c17
    try clear c18
    try clear c22
    try clear c22b0
    try clear c26
    try clear hcz13_0
    try clear hcz13_1
    try clear hcz19_0
    try clear hcz19_1
    try clear hcz19_2
    try clear hcz20_0
    try clear hcz20_1
    try clear hfz13_0
    try clear hfz13_1
    try clear hfz19_0
    try clear hfz19_1
    try clear hfz19_2
    try clear hfz20_0
    try clear hfz20_1
    try clear p2
    try clear p6
    obtain ⟨kq, x1001_24, x1002_24, x515000_24, x515001_24, x515002_24, HA, HJ24, BK501, BK508, BK514, HI0, HK, HB⟩ := hcut
    cases kq with
    | zero => exact absurd HA.out (by simp [spec_l29Timed.j1])
    | succ kj24 =>
     have H := HA.out
     clear HA
     simp only [spec_l29Timed.j1] at H
     replace H := Option.bind_eq_some_iff.mp H
     obtain ⟨⟨t526, t527, t528⟩, A350, H⟩ := H
     replace H : (spec_l29Timed.l0 kj24 t515 0 s0_0 t527 t528 x515000_24 x515001_24 x515002_24 x515000_24 x515001_24 x515002_24 (wrap64 (1 + t526)) ([] : List (S56))) = some (r1, r2, r3, r4, r5, r6, r7) := H
     have A35 := Aside0.mk A350
     clear A350
     have H' := Aside0.mk H
     clear H
     try go_wp2
     replace BK501 := Aside0.mk (blk_drew BK501.out)
     replace BK508 := Aside0.mk (blk_drew BK508.out)
     replace BK514 := Aside0.mk (blk_drew BK514.out)
     replace HI0 := Aside0.mk (IsS94.drew HI0.out)
     replace HK := Aside0.mk (keep_drew HK.out)
     replace HB := Aside0.mk (below_drew1 HB.out)
     refine start_ (n := 7) (S := fun w' => w'.cell? ⟨gb514, 0, none⟩ = some (.int .i64 x515000_24) ∧ w'.cell? ⟨gb514, 1, none⟩ = some (.int .i64 x515001_24) ∧ w'.cell? ⟨gb514, 2, none⟩ = some (.int .i64 x515002_24)) (ds := []) #[false, false, false, false, false, false, false] (by kernel_rfl) rfl rfl ⟨BK514.c 0, BK514.c 1, BK514.c 2⟩ (fun hHeld => ?_)
     generalize wc.drew = w36 at BK501 BK508 BK514 HI0 HK HB hHeld ⊢
     refine pure_ (i := 1) (N := some 35) (v := ?_) (a' := ?_) #[false, true, false, false, false, false, false] rfl rfl (by kernel_rfl) (fun _ _ _ h => h) (Or.inl ⟨by rfl, ?_⟩) ?_ ?_
     rotate_left
     ·intro w'
      go_simp
      with_reducible rfl
     rotate_left
     ·simp only [Act.put, List.setIfInBounds_toArray, List.set_cons_zero, List.set_cons_succ, i64_w, i32_w]
      rfl
     refine take_ (i := 0) (N := some 34) (v := ?_) (a' := ?_) #[true, true, false, false, false, false, false] rfl rfl (by kernel_rfl) (fun _ _ _ h => h) (Or.inl ⟨by rfl, ?_⟩) hHeld ?_ ?_
     rotate_left
     ·rintro w' ⟨s0, s1, s2⟩
      go_simp
      with_reducible rfl
     rotate_left
     ·simp only [Act.put, List.setIfInBounds_toArray, List.set_cons_zero, List.set_cons_succ, i64_w, i32_w]
      rfl
     refine join_ (σ := Nat) 1 #[true, true, true, true, true, true, false] (fun s_ => [(36, .int .i64 t526), (6, .pointer (some ⟨s_, 0, none⟩)), (37, .int .i64 (wrap64 (1 + t526))), (38, .agg #[.int .i64 x515000_24, .int .i64 x515001_24, .int .i64 x515002_24, .int .i64 (wrap64 (1 + t526)), .slice none 0 0])]) (fun s_ w' => (w'.cell? ⟨gb514, 0, none⟩ = some (.int .i64 x515000_24) ∧ w'.cell? ⟨gb514, 1, none⟩ = some (.int .i64 x515001_24) ∧ w'.cell? ⟨gb514, 2, none⟩ = some (.int .i64 x515002_24)) ∧ (w'.heap[gb501]? = some (.cells #[.int .i64 0, .int .i64 0, .int .i64 0, .int .i64 0, .slice none 0 0] 36 (0, 0))) ∧ (w'.heap[gb508]? = some (.cells #[.int .i64 (wrap64 (1 + t502)), .int .i64 (wrap64 (1 + t505))] 31 (0, 0))) ∧ (w'.heap[gb514]? = some (.cells #[.int .i64 x515000_24, .int .i64 x515001_24, .int .i64 x515002_24] 33 (0, 0))) ∧ (w'.heap[s_]? = some (.cells #[.int .i64 0, .int .i64 0, .int .i64 0, .int .i64 0, .slice none 0 0] 36 (0, 0))) ∧ (w.heap.size ≤ s_) ∧ (w0.heap.size ≤ s_) ∧ (g ≠ s_) ∧ (s_ ≠ g) ∧ (gb501 ≠ s_) ∧ (s_ ≠ gb501) ∧ (gb508 ≠ s_) ∧ (s_ ≠ gb508) ∧ (gb514 ≠ s_) ∧ (s_ ≠ gb514) ∧ (IsS94 w0 w' g s0_0 t527 t528) ∧ (KeepBut w w' g none) ∧ (Below w0.heap.size w0 w')) ?_ ?_
     rotate_left
     ·intro hCont
      refine two_ (i := 2) (j := 5) (Ni := some 36) (Nj := some 6) #[true, true, true, false, false, false, false] #[true, true, false, false, false, true, false] rfl rfl rfl rfl (by kernel_rfl) (by decide) (by decide) (fun K hK => ?_) (fun K hK => ?_)
      ·skip
       refine gq_ Try.func49 #[.pointer (some ⟨g, 0, none⟩), .int .i64 6] ?_
       with_reducible refine (spec_l01Below.calls g s0_0 x1001_24 x1002_24 6 t526 t527 t528 w0 _ ?side1 ?side2 A35.out).mono ?_
       (case side1 => repeat (first | (with_reducible first | exact HI0.out | apply IsS94.alloc | apply IsS94.drewN | apply IsS94.drew | apply IsS94.set_1 | apply IsS94.set_2 | refine IsS94.far ?_ NB0_501.out _ | refine IsS94.far ?_ NB0_508.out _ | refine IsS94.far ?_ NB0_514.out _) | exact HI0.out))
       (case side2 => repeat (first | (with_reducible first | exact HB.out | apply below_alloc | apply pw_below_drewN | apply below_drew1 | refine below_set ?_ (IsS94.ge HI0.out) | refine below_set ?_ GE501.out | refine below_set ?_ GE508.out | refine below_set ?_ GE514.out) | exact HB.out))
       rintro e w37 ⟨rfl, hi, hb, hk⟩
       refine ⟨_, rfl, ?_⟩
       replace BK501 := Aside0.mk (KeepBut.blk hk (g' := gb501) (o := .cells #[.int .i64 0, .int .i64 0, .int .i64 0, .int .i64 0, .slice none 0 0] 36 (0, 0)) (bk_ BK501.out) NB501_0.out (by simp))
       replace BK508 := Aside0.mk (KeepBut.blk hk (g' := gb508) (o := .cells #[.int .i64 (wrap64 (1 + t502)), .int .i64 (wrap64 (1 + t505))] 31 (0, 0)) (bk_ BK508.out) NB508_0.out (by simp))
       replace BK514 := Aside0.mk (KeepBut.blk hk (g' := gb514) (o := .cells #[.int .i64 x515000_24, .int .i64 x515001_24, .int .i64 x515002_24] 33 (0, 0)) (bk_ BK514.out) NB514_0.out (by simp))
       replace HK := Aside0.mk (KeepBut.trans (by repeat (first | (with_reducible first | exact HK.out | apply KeepBut.set_ | apply keep_drewN | apply keep_drew | apply keep_alloc | refine keep_far ?_ GW501.out _ | refine keep_far ?_ GW508.out _ | refine keep_far ?_ GW514.out _) | exact HK.out)) hk (.inl rfl))
       replace HB := Aside0.mk (hb)
       replace HI0 := Aside0.mk (hi)
       skip
       (try clear hb2)
       (try clear hk)
       (try clear hi)
       refine hK.out _ _ ⟨BK514.c 0, BK514.c 1, BK514.c 2⟩ (fun hHeld => ?_)
       clear hK K
       refine nm_ ?_
       refine pure_ (i := 3) (N := some 37) (v := ?_) (a' := ?_) #[true, true, true, true, false, false, false] rfl rfl (by kernel_rfl) (fun _ _ _ h => h) (Or.inl ⟨by rfl, ?_⟩) ?_ ?_
       rotate_left
       ·intro w'
        go_simp
        with_reducible rfl
       rotate_left
       ·simp only [Act.put, List.setIfInBounds_toArray, List.set_cons_zero, List.set_cons_succ, i64_w, i32_w]
        rfl
       refine pure_ (i := 4) (N := some 38) (v := ?_) (a' := ?_) #[true, true, true, true, true, false, false] rfl rfl (by kernel_rfl) (fun _ _ _ h => h) (Or.inl ⟨by rfl, ?_⟩) ?_ ?_
       rotate_left
       ·intro w'
        go_simp
        with_reducible rfl
       rotate_left
       ·simp only [Act.put, List.setIfInBounds_toArray, List.set_cons_zero, List.set_cons_succ, i64_w, i32_w]
        rfl
       refine one_ (i := 5) (N := some 6) #[true, true, true, true, true, true, false] rfl rfl (by kernel_rfl) (by decide) (fun K hK => ?_)
       refine box_step ?hg (N := 6) ?hd (cs := #[.int .i64 0, .int .i64 0, .int .i64 0, .int .i64 0, .slice none 0 0]) (t := 36) ?hr ?_; (case hd => rfl); (case hg => rfl); (case hr => first | (go_simp; done) | (go_simp; rfl))
       intro gb529 hg w38 hbox hb
       have n0_ := BK501.bb hb
       have n1_ := BK508.bb hb
       have n2_ := BK514.bb hb
       have n3_ := Aside0.mk (IsS94.below (by repeat (first | (with_reducible first | exact HI0.out | apply IsS94.alloc | apply IsS94.drewN | apply IsS94.drew | apply IsS94.set_1 | apply IsS94.set_2 | refine IsS94.far ?_ NB0_501.out _ | refine IsS94.far ?_ NB0_508.out _ | refine IsS94.far ?_ NB0_514.out _) | exact HI0.out)) hb)
       have n4_ := Aside0.mk (KeepBut.trans (by repeat (first | (with_reducible first | exact HK.out | apply KeepBut.set_ | apply keep_drewN | apply keep_drew | apply keep_alloc | refine keep_far ?_ GW501.out _ | refine keep_far ?_ GW508.out _ | refine keep_far ?_ GW514.out _) | exact HK.out)) (KeepBut.of_below hb g none) (.inl rfl))
       have n5_ := Aside0.mk (below_step (by repeat (first | (with_reducible first | exact HB.out | apply below_alloc | apply pw_below_drewN | apply below_drew1 | refine below_set ?_ (IsS94.ge HI0.out) | refine below_set ?_ GE501.out | refine below_set ?_ GE508.out | refine below_set ?_ GE514.out) | exact HB.out)) hb)
       have n6_ := Aside0.mk (hbox)
       have n7_ := Aside0.mk ((by rw [hg]; exact (keep_size (w := w) (g := g) (row := none) (by repeat (first | (with_reducible first | exact HK.out | apply KeepBut.set_ | apply keep_drewN | apply keep_drew | apply keep_alloc | refine keep_far ?_ GW501.out _ | refine keep_far ?_ GW508.out _ | refine keep_far ?_ GW514.out _) | exact HK.out))) : w.heap.size ≤ gb529))
       have n8_ := Aside0.mk ((Nat.le_trans HW0.out (by rw [hg]; exact (keep_size (w := w) (g := g) (row := none) (by repeat (first | (with_reducible first | exact HK.out | apply KeepBut.set_ | apply keep_drewN | apply keep_drew | apply keep_alloc | refine keep_far ?_ GW501.out _ | refine keep_far ?_ GW508.out _ | refine keep_far ?_ GW514.out _) | exact HK.out))) : w.heap.size ≤ gb529) : w0.heap.size ≤ gb529))
       have n9_ := BK501.nl hg
       have n10_ := BK501.nr hg
       have n11_ := BK508.nl hg
       have n12_ := BK508.nr hg
       have n13_ := BK514.nl hg
       have n14_ := BK514.nr hg
       have n15_ := Aside0.mk ((by rw [hg]; exact Nat.ne_of_lt (IsS94.lt (show IsS94 w0 _ g s0_0 t527 t528 from by repeat (first | (with_reducible first | exact HI0.out | apply IsS94.alloc | apply IsS94.drewN | apply IsS94.drew | apply IsS94.set_1 | apply IsS94.set_2 | refine IsS94.far ?_ NB0_501.out _ | refine IsS94.far ?_ NB0_508.out _ | refine IsS94.far ?_ NB0_514.out _) | exact HI0.out))) : g ≠ gb529))
       have n16_ := Aside0.mk ((by rw [hg]; exact Nat.ne_of_gt (IsS94.lt (show IsS94 w0 _ g s0_0 t527 t528 from by repeat (first | (with_reducible first | exact HI0.out | apply IsS94.alloc | apply IsS94.drewN | apply IsS94.drew | apply IsS94.set_1 | apply IsS94.set_2 | refine IsS94.far ?_ NB0_501.out _ | refine IsS94.far ?_ NB0_508.out _ | refine IsS94.far ?_ NB0_514.out _) | exact HI0.out))) : gb529 ≠ g))
       clear BK501
       clear BK508
       clear BK514
       clear HI0
       clear HK
       clear HB
       have BK501 := n0_
       have BK508 := n1_
       have BK514 := n2_
       have HI0 := n3_
       have HK := n4_
       have HB := n5_
       have BK529 := n6_
       have GW529 := n7_
       have GE529 := n8_
       have NB501_529 := n9_
       have NB529_501 := n10_
       have NB508_529 := n11_
       have NB529_508 := n12_
       have NB514_529 := n13_
       have NB529_514 := n14_
       have NB0_529 := n15_
       have NB529_0 := n16_
       clear n0_ n1_ n2_ n3_ n4_ n5_ n6_ n7_ n8_ n9_ n10_ n11_ n12_ n13_ n14_ n15_ n16_
       clear hb hbox hg
       refine hK.out _ _ ⟨BK514.c 0, BK514.c 1, BK514.c 2⟩ (fun hHeld => ?_)
       clear hK K
       refine norm_ (a' := ?_) ?_ ?_
       rotate_left
       ·show Act.put _ (some 6) _ = _
        simp only [Act.put, List.setIfInBounds_toArray, List.set_cons_zero, List.set_cons_succ, i64_w, i32_w]
        rfl
       exact norm_ (by simp only [putAll, Act.put, List.setIfInBounds_toArray, List.set_cons_zero, List.set_cons_succ]) (hCont (gb529) _ ⟨hHeld, (bk_ BK501.out), (bk_ BK508.out), (bk_ BK514.out), (bk_ BK529.out), GW529.out, GE529.out, NB0_529.out, NB529_0.out, NB501_529.out, NB529_501.out, NB508_529.out, NB529_508.out, NB514_529.out, NB529_514.out, (by repeat (first | (with_reducible first | exact HI0.out | apply IsS94.alloc | apply IsS94.drewN | apply IsS94.drew | apply IsS94.set_1 | apply IsS94.set_2 | refine IsS94.far ?_ NB0_501.out _ | refine IsS94.far ?_ NB0_508.out _ | refine IsS94.far ?_ NB0_514.out _ | refine IsS94.far ?_ NB0_529.out _) | exact HI0.out)), (by repeat (first | (with_reducible first | exact HK.out | apply KeepBut.set_ | apply keep_drewN | apply keep_drew | apply keep_alloc | refine keep_far ?_ GW501.out _ | refine keep_far ?_ GW508.out _ | refine keep_far ?_ GW514.out _ | refine keep_far ?_ GW529.out _) | exact HK.out)), (by repeat (first | (with_reducible first | exact HB.out | apply below_alloc | apply pw_below_drewN | apply below_drew1 | refine below_set ?_ (IsS94.ge HI0.out) | refine below_set ?_ GE501.out | refine below_set ?_ GE508.out | refine below_set ?_ GE514.out | refine below_set ?_ GE529.out) | exact HB.out))⟩)
      ·skip
       refine box_step ?hg (N := 6) ?hd (cs := #[.int .i64 0, .int .i64 0, .int .i64 0, .int .i64 0, .slice none 0 0]) (t := 36) ?hr ?_; (case hd => rfl); (case hg => rfl); (case hr => first | (go_simp; done) | (go_simp; rfl))
       intro gb529 hg w37 hbox hb
       have n0_ := BK501.bb hb
       have n1_ := BK508.bb hb
       have n2_ := BK514.bb hb
       have n3_ := Aside0.mk (IsS94.below (by repeat (first | (with_reducible first | exact HI0.out | apply IsS94.alloc | apply IsS94.drewN | apply IsS94.drew | apply IsS94.set_1 | apply IsS94.set_2 | refine IsS94.far ?_ NB0_501.out _ | refine IsS94.far ?_ NB0_508.out _ | refine IsS94.far ?_ NB0_514.out _) | exact HI0.out)) hb)
       have n4_ := Aside0.mk (KeepBut.trans (by repeat (first | (with_reducible first | exact HK.out | apply KeepBut.set_ | apply keep_drewN | apply keep_drew | apply keep_alloc | refine keep_far ?_ GW501.out _ | refine keep_far ?_ GW508.out _ | refine keep_far ?_ GW514.out _) | exact HK.out)) (KeepBut.of_below hb g none) (.inl rfl))
       have n5_ := Aside0.mk (below_step (by repeat (first | (with_reducible first | exact HB.out | apply below_alloc | apply pw_below_drewN | apply below_drew1 | refine below_set ?_ (IsS94.ge HI0.out) | refine below_set ?_ GE501.out | refine below_set ?_ GE508.out | refine below_set ?_ GE514.out) | exact HB.out)) hb)
       have n6_ := Aside0.mk (hbox)
       have n7_ := Aside0.mk ((by rw [hg]; exact (keep_size (w := w) (g := g) (row := none) (by repeat (first | (with_reducible first | exact HK.out | apply KeepBut.set_ | apply keep_drewN | apply keep_drew | apply keep_alloc | refine keep_far ?_ GW501.out _ | refine keep_far ?_ GW508.out _ | refine keep_far ?_ GW514.out _) | exact HK.out))) : w.heap.size ≤ gb529))
       have n8_ := Aside0.mk ((Nat.le_trans HW0.out (by rw [hg]; exact (keep_size (w := w) (g := g) (row := none) (by repeat (first | (with_reducible first | exact HK.out | apply KeepBut.set_ | apply keep_drewN | apply keep_drew | apply keep_alloc | refine keep_far ?_ GW501.out _ | refine keep_far ?_ GW508.out _ | refine keep_far ?_ GW514.out _) | exact HK.out))) : w.heap.size ≤ gb529) : w0.heap.size ≤ gb529))
       have n9_ := BK501.nl hg
       have n10_ := BK501.nr hg
       have n11_ := BK508.nl hg
       have n12_ := BK508.nr hg
       have n13_ := BK514.nl hg
       have n14_ := BK514.nr hg
       have n15_ := Aside0.mk ((by rw [hg]; exact Nat.ne_of_lt (IsS94.lt (show IsS94 w0 _ g s0_0 x1001_24 x1002_24 from by repeat (first | (with_reducible first | exact HI0.out | apply IsS94.alloc | apply IsS94.drewN | apply IsS94.drew | apply IsS94.set_1 | apply IsS94.set_2 | refine IsS94.far ?_ NB0_501.out _ | refine IsS94.far ?_ NB0_508.out _ | refine IsS94.far ?_ NB0_514.out _) | exact HI0.out))) : g ≠ gb529))
       have n16_ := Aside0.mk ((by rw [hg]; exact Nat.ne_of_gt (IsS94.lt (show IsS94 w0 _ g s0_0 x1001_24 x1002_24 from by repeat (first | (with_reducible first | exact HI0.out | apply IsS94.alloc | apply IsS94.drewN | apply IsS94.drew | apply IsS94.set_1 | apply IsS94.set_2 | refine IsS94.far ?_ NB0_501.out _ | refine IsS94.far ?_ NB0_508.out _ | refine IsS94.far ?_ NB0_514.out _) | exact HI0.out))) : gb529 ≠ g))
       clear BK501
       clear BK508
       clear BK514
       clear HI0
       clear HK
       clear HB
       have BK501 := n0_
       have BK508 := n1_
       have BK514 := n2_
       have HI0 := n3_
       have HK := n4_
       have HB := n5_
       have BK529 := n6_
       have GW529 := n7_
       have GE529 := n8_
       have NB501_529 := n9_
       have NB529_501 := n10_
       have NB508_529 := n11_
       have NB529_508 := n12_
       have NB514_529 := n13_
       have NB529_514 := n14_
       have NB0_529 := n15_
       have NB529_0 := n16_
       clear n0_ n1_ n2_ n3_ n4_ n5_ n6_ n7_ n8_ n9_ n10_ n11_ n12_ n13_ n14_ n15_ n16_
       clear hb hbox hg
       refine hK.out _ _ ⟨BK514.c 0, BK514.c 1, BK514.c 2⟩ (fun hHeld => ?_)
       clear hK K
       refine norm_ (a' := ?_) ?_ ?_
       rotate_left
       ·show Act.put _ (some 6) _ = _
        simp only [Act.put, List.setIfInBounds_toArray, List.set_cons_zero, List.set_cons_succ, i64_w, i32_w]
        rfl
       refine one_ (i := 2) (N := some 36) #[true, true, true, false, false, true, false] rfl rfl (by kernel_rfl) (by decide) (fun K hK => ?_)
       refine gq_ Try.func49 #[.pointer (some ⟨g, 0, none⟩), .int .i64 6] ?_
       with_reducible refine (spec_l01Below.calls g s0_0 x1001_24 x1002_24 6 t526 t527 t528 w0 _ ?side1 ?side2 A35.out).mono ?_
       (case side1 => repeat (first | (with_reducible first | exact HI0.out | apply IsS94.alloc | apply IsS94.drewN | apply IsS94.drew | apply IsS94.set_1 | apply IsS94.set_2 | refine IsS94.far ?_ NB0_501.out _ | refine IsS94.far ?_ NB0_508.out _ | refine IsS94.far ?_ NB0_514.out _ | refine IsS94.far ?_ NB0_529.out _) | exact HI0.out))
       (case side2 => repeat (first | (with_reducible first | exact HB.out | apply below_alloc | apply pw_below_drewN | apply below_drew1 | refine below_set ?_ (IsS94.ge HI0.out) | refine below_set ?_ GE501.out | refine below_set ?_ GE508.out | refine below_set ?_ GE514.out | refine below_set ?_ GE529.out) | exact HB.out))
       rintro e w38 ⟨rfl, hi, hb, hk⟩
       refine ⟨_, rfl, ?_⟩
       replace BK501 := Aside0.mk (KeepBut.blk hk (g' := gb501) (o := .cells #[.int .i64 0, .int .i64 0, .int .i64 0, .int .i64 0, .slice none 0 0] 36 (0, 0)) (bk_ BK501.out) NB501_0.out (by simp))
       replace BK508 := Aside0.mk (KeepBut.blk hk (g' := gb508) (o := .cells #[.int .i64 (wrap64 (1 + t502)), .int .i64 (wrap64 (1 + t505))] 31 (0, 0)) (bk_ BK508.out) NB508_0.out (by simp))
       replace BK514 := Aside0.mk (KeepBut.blk hk (g' := gb514) (o := .cells #[.int .i64 x515000_24, .int .i64 x515001_24, .int .i64 x515002_24] 33 (0, 0)) (bk_ BK514.out) NB514_0.out (by simp))
       replace BK529 := Aside0.mk (KeepBut.blk hk (g' := gb529) (o := .cells #[.int .i64 0, .int .i64 0, .int .i64 0, .int .i64 0, .slice none 0 0] 36 (0, 0)) (bk_ BK529.out) NB529_0.out (by simp))
       replace HK := Aside0.mk (KeepBut.trans (by repeat (first | (with_reducible first | exact HK.out | apply KeepBut.set_ | apply keep_drewN | apply keep_drew | apply keep_alloc | refine keep_far ?_ GW501.out _ | refine keep_far ?_ GW508.out _ | refine keep_far ?_ GW514.out _ | refine keep_far ?_ GW529.out _) | exact HK.out)) hk (.inl rfl))
       replace HB := Aside0.mk (hb)
       replace HI0 := Aside0.mk (hi)
       skip
       (try clear hb2)
       (try clear hk)
       (try clear hi)
       refine hK.out _ _ ⟨BK514.c 0, BK514.c 1, BK514.c 2⟩ (fun hHeld => ?_)
       clear hK K
       refine nm_ ?_
       refine pure_ (i := 3) (N := some 37) (v := ?_) (a' := ?_) #[true, true, true, true, false, true, false] rfl rfl (by kernel_rfl) (fun _ _ _ h => h) (Or.inl ⟨by rfl, ?_⟩) ?_ ?_
       rotate_left
       ·intro w'
        go_simp
        with_reducible rfl
       rotate_left
       ·simp only [Act.put, List.setIfInBounds_toArray, List.set_cons_zero, List.set_cons_succ, i64_w, i32_w]
        rfl
       refine pure_ (i := 4) (N := some 38) (v := ?_) (a' := ?_) #[true, true, true, true, true, true, false] rfl rfl (by kernel_rfl) (fun _ _ _ h => h) (Or.inl ⟨by rfl, ?_⟩) ?_ ?_
       rotate_left
       ·intro w'
        go_simp
        with_reducible rfl
       rotate_left
       ·simp only [Act.put, List.setIfInBounds_toArray, List.set_cons_zero, List.set_cons_succ, i64_w, i32_w]
        rfl
       exact norm_ (by simp only [putAll, Act.put, List.setIfInBounds_toArray, List.set_cons_zero, List.set_cons_succ]) (hCont (gb529) _ ⟨hHeld, (bk_ BK501.out), (bk_ BK508.out), (bk_ BK514.out), (bk_ BK529.out), GW529.out, GE529.out, NB0_529.out, NB529_0.out, NB501_529.out, NB529_501.out, NB508_529.out, NB529_508.out, NB514_529.out, NB529_514.out, (by repeat (first | (with_reducible first | exact HI0.out | apply IsS94.alloc | apply IsS94.drewN | apply IsS94.drew | apply IsS94.set_1 | apply IsS94.set_2 | refine IsS94.far ?_ NB0_501.out _ | refine IsS94.far ?_ NB0_508.out _ | refine IsS94.far ?_ NB0_514.out _ | refine IsS94.far ?_ NB0_529.out _) | exact HI0.out)), (by repeat (first | (with_reducible first | exact HK.out | apply KeepBut.set_ | apply keep_drewN | apply keep_drew | apply keep_alloc | refine keep_far ?_ GW501.out _ | refine keep_far ?_ GW508.out _ | refine keep_far ?_ GW514.out _ | refine keep_far ?_ GW529.out _) | exact HK.out)), (by repeat (first | (with_reducible first | exact HB.out | apply below_alloc | apply pw_below_drewN | apply below_drew1 | refine below_set ?_ (IsS94.ge HI0.out) | refine below_set ?_ GE501.out | refine below_set ?_ GE508.out | refine below_set ?_ GE514.out | refine below_set ?_ GE529.out) | exact HB.out))⟩)
     rintro gb529 w39 ⟨hS_, h0_, h1_, h2_, h3_, h4_, h5_, h6_, h7_, h8_, h9_, h10_, h11_, h12_, h13_, h14_, h15_, h16_⟩
     have n0_ : Aside0 (w39.heap[gb501]? = some (.cells #[.int .i64 0, .int .i64 0, .int .i64 0, .int .i64 0, .slice none 0 0] 36 (0, 0))) := ⟨h0_⟩
     have n1_ : Aside0 (w39.heap[gb508]? = some (.cells #[.int .i64 (wrap64 (1 + t502)), .int .i64 (wrap64 (1 + t505))] 31 (0, 0))) := ⟨h1_⟩
     have n2_ : Aside0 (w39.heap[gb514]? = some (.cells #[.int .i64 x515000_24, .int .i64 x515001_24, .int .i64 x515002_24] 33 (0, 0))) := ⟨h2_⟩
     have n3_ : Aside0 (w39.heap[gb529]? = some (.cells #[.int .i64 0, .int .i64 0, .int .i64 0, .int .i64 0, .slice none 0 0] 36 (0, 0))) := ⟨h3_⟩
     have n4_ : Aside0 (w.heap.size ≤ gb529) := ⟨h4_⟩
     have n5_ : Aside0 (w0.heap.size ≤ gb529) := ⟨h5_⟩
     have n6_ : Aside0 (g ≠ gb529) := ⟨h6_⟩
     have n7_ : Aside0 (gb529 ≠ g) := ⟨h7_⟩
     have n8_ : Aside0 (gb501 ≠ gb529) := ⟨h8_⟩
     have n9_ : Aside0 (gb529 ≠ gb501) := ⟨h9_⟩
     have n10_ : Aside0 (gb508 ≠ gb529) := ⟨h10_⟩
     have n11_ : Aside0 (gb529 ≠ gb508) := ⟨h11_⟩
     have n12_ : Aside0 (gb514 ≠ gb529) := ⟨h12_⟩
     have n13_ : Aside0 (gb529 ≠ gb514) := ⟨h13_⟩
     have n14_ : Aside0 (IsS94 w0 w39 g s0_0 t527 t528) := ⟨h14_⟩
     have n15_ : Aside0 (KeepBut w w39 g none) := ⟨h15_⟩
     have n16_ : Aside0 (Below w0.heap.size w0 w39) := ⟨h16_⟩
     clear BK501
     clear BK508
     clear BK514
     clear HI0
     clear HK
     clear HB
     clear h0_ h1_ h2_ h3_ h4_ h5_ h6_ h7_ h8_ h9_ h10_ h11_ h12_ h13_ h14_ h15_ h16_
     have BK501 := n0_
     have BK508 := n1_
     have BK514 := n2_
     have BK529 := n3_
     have GW529 := n4_
     have GE529 := n5_
     have NB0_529 := n6_
     have NB529_0 := n7_
     have NB501_529 := n8_
     have NB529_501 := n9_
     have NB508_529 := n10_
     have NB529_508 := n11_
     have NB514_529 := n12_
     have NB529_514 := n13_
     have HI0 := n14_
     have HK := n15_
     have HB := n16_
     clear n0_ n1_ n2_ n3_ n4_ n5_ n6_ n7_ n8_ n9_ n10_ n11_ n12_ n13_ n14_ n15_ n16_
     have hHeld : w39.cell? ⟨gb514, 0, none⟩ = some (.int .i64 x515000_24) ∧ w39.cell? ⟨gb514, 1, none⟩ = some (.int .i64 x515001_24) ∧ w39.cell? ⟨gb514, 2, none⟩ = some (.int .i64 x515002_24) := hS_
     refine norm_ (a' := ?_) ?_ ?_
     rotate_left
     ·simp only [putAll, Act.put, List.setIfInBounds_toArray, List.set_cons_zero, List.set_cons_succ]
      rfl
     refine one_ (i := 6) (N := none) #[true, true, true, true, true, true, true] rfl rfl (by kernel_rfl) (by decide) (fun K hK => ?_)
     have hs40 : w39.cell? ⟨gb529, 0, none⟩ = some (.int .i64 0) := BK529.c 0
     have hfs40 := blk_frozen BK529.out 0
     have hns40_0 := NB501_529.out
     have hns40_1 := NB508_529.out
     have hns40_2 := NB514_529.out
     have hms40_0 := NB529_501.out
     have hms40_1 := NB529_508.out
     have hms40_2 := NB529_514.out
     have hs41 : w39.cell? ⟨gb529, 1, none⟩ = some (.int .i64 0) := BK529.c 1
     have hfs41 := blk_frozen BK529.out 1
     have hns41_0 := NB501_529.out
     have hns41_1 := NB508_529.out
     have hns41_2 := NB514_529.out
     have hms41_0 := NB529_501.out
     have hms41_1 := NB529_508.out
     have hms41_2 := NB529_514.out
     have hs42 : w39.cell? ⟨gb529, 2, none⟩ = some (.int .i64 0) := BK529.c 2
     have hfs42 := blk_frozen BK529.out 2
     have hns42_0 := NB501_529.out
     have hns42_1 := NB508_529.out
     have hns42_2 := NB514_529.out
     have hms42_0 := NB529_501.out
     have hms42_1 := NB529_508.out
     have hms42_2 := NB529_514.out
     have hs43 : w39.cell? ⟨gb529, 3, none⟩ = some (.int .i64 0) := BK529.c 3
     have hfs43 := blk_frozen BK529.out 3
     have hns43_0 := NB501_529.out
     have hns43_1 := NB508_529.out
     have hns43_2 := NB514_529.out
     have hms43_0 := NB529_501.out
     have hms43_1 := NB529_508.out
     have hms43_2 := NB529_514.out
     have hs44 : w39.cell? ⟨gb529, 4, none⟩ = some (.slice none 0 0) := BK529.c 4
     have hfs44 := blk_frozen BK529.out 4
     have hns44_0 := NB501_529.out
     have hns44_1 := NB508_529.out
     have hns44_2 := NB514_529.out
     have hms44_0 := NB529_501.out
     have hms44_1 := NB529_508.out
     have hms44_2 := NB529_514.out
     refine skip_ (w1 := ?_) (by rfl) rfl ?_ ?_
     rotate_left
     ·go_simp
      rfl
     refine hK.out _ _ ⟨((cell_far (p := ⟨gb529, _, none⟩) NB514_529.out _).trans (((cell_far (p := ⟨gb529, _, none⟩) NB514_529.out _).trans (((cell_far (p := ⟨gb529, _, none⟩) NB514_529.out _).trans (((cell_far (p := ⟨gb529, _, none⟩) NB514_529.out _).trans (((cell_far (p := ⟨gb529, _, none⟩) NB514_529.out _).trans (hHeld.1)))))))))), ((cell_far (p := ⟨gb529, _, none⟩) NB514_529.out _).trans (((cell_far (p := ⟨gb529, _, none⟩) NB514_529.out _).trans (((cell_far (p := ⟨gb529, _, none⟩) NB514_529.out _).trans (((cell_far (p := ⟨gb529, _, none⟩) NB514_529.out _).trans (((cell_far (p := ⟨gb529, _, none⟩) NB514_529.out _).trans (hHeld.2.1)))))))))), ((cell_far (p := ⟨gb529, _, none⟩) NB514_529.out _).trans (((cell_far (p := ⟨gb529, _, none⟩) NB514_529.out _).trans (((cell_far (p := ⟨gb529, _, none⟩) NB514_529.out _).trans (((cell_far (p := ⟨gb529, _, none⟩) NB514_529.out _).trans (((cell_far (p := ⟨gb529, _, none⟩) NB514_529.out _).trans (hHeld.2.2))))))))))⟩ (fun hHeld => ?_)
     clear hK K
     refine done_ (by kernel_rfl) ?_
     try go_wp2
     go_loopg [7] kj24 (fun kq v7 w' => ∃ (x7_3 : Int) (x1001_3 : Int) (x1002_3 : Int) (x530004_3 : List (S56)) (u530004 : Value), v7 = .int .i64 x7_3 ∧ Aside0 (spec_l29Timed.l0 kq t515 x7_3 s0_0 x1001_3 x1002_3 x515000_24 x515001_24 x515002_24 x515000_24 x515001_24 x515002_24 (wrap64 (1 + t526)) x530004_3 = some (r1, r2, r3, r4, r5, r6, r7)) ∧ Aside0 (kq ≤ kj24) ∧ Aside0 (Kd.R k56 56 w' w.heap.size (fun _ => True) u530004 x530004_3) ∧ Aside0 (w'.heap[gb501]? = some (.cells #[.int .i64 0, .int .i64 0, .int .i64 0, .int .i64 0, (.slice none 0 0)] 36 (0, 0))) ∧ Aside0 (w'.heap[gb508]? = some (.cells #[.int .i64 (wrap64 (1 + t502)), .int .i64 (wrap64 (1 + t505))] 31 (0, 0))) ∧ Aside0 (w'.heap[gb514]? = some (.cells #[.int .i64 x515000_24, .int .i64 x515001_24, .int .i64 x515002_24] 33 (0, 0))) ∧ Aside0 (w'.heap[gb529]? = some (.cells #[.int .i64 x515000_24, .int .i64 x515001_24, .int .i64 x515002_24, .int .i64 (wrap64 (1 + t526)), u530004] 36 (0, 0))) ∧ Aside0 (IsS94 w0 w' g s0_0 x1001_3 x1002_3) ∧ Aside0 (KeepBut w w' g none) ∧ Aside0 (Below w0.heap.size w0 w'))
     case atStart => exact ⟨(0), (t527), (t528), (([] : List (S56))), (.slice none 0 0), (by first | rfl | (simp; done) | (simp [*]; done)), H', ⟨Nat.le_refl _⟩, ⟨by first | exact Kd.R_nil _ _ _ _ _ | exact Kd.N_nil _ _ _ _ _ | exact Kd.V_nil _ _ _ _ _ | exact Kd.Q_nil _ _ _ _ _ | exact Kd.S_nil _ _ _ _ _⟩, ⟨by (with_reducible repeat (first | refine blk_drewN ?_ _ | refine blk_drew ?_ | refine blk_alloc ?_ _)); refine blk_far ?_ NB501_529.out _; (with_reducible repeat (first | refine blk_drewN ?_ _ | refine blk_drew ?_ | refine blk_alloc ?_ _)); refine blk_far ?_ NB501_529.out _; (with_reducible repeat (first | refine blk_drewN ?_ _ | refine blk_drew ?_ | refine blk_alloc ?_ _)); refine blk_far ?_ NB501_529.out _; (with_reducible repeat (first | refine blk_drewN ?_ _ | refine blk_drew ?_ | refine blk_alloc ?_ _)); refine blk_far ?_ NB501_529.out _; (with_reducible repeat (first | refine blk_drewN ?_ _ | refine blk_drew ?_ | refine blk_alloc ?_ _)); refine blk_far ?_ NB501_529.out _; (with_reducible repeat (first | refine blk_drewN ?_ _ | refine blk_drew ?_ | refine blk_alloc ?_ _)); exact BK501.out⟩, ⟨by (with_reducible repeat (first | refine blk_drewN ?_ _ | refine blk_drew ?_ | refine blk_alloc ?_ _)); refine blk_far ?_ NB508_529.out _; (with_reducible repeat (first | refine blk_drewN ?_ _ | refine blk_drew ?_ | refine blk_alloc ?_ _)); refine blk_far ?_ NB508_529.out _; (with_reducible repeat (first | refine blk_drewN ?_ _ | refine blk_drew ?_ | refine blk_alloc ?_ _)); refine blk_far ?_ NB508_529.out _; (with_reducible repeat (first | refine blk_drewN ?_ _ | refine blk_drew ?_ | refine blk_alloc ?_ _)); refine blk_far ?_ NB508_529.out _; (with_reducible repeat (first | refine blk_drewN ?_ _ | refine blk_drew ?_ | refine blk_alloc ?_ _)); refine blk_far ?_ NB508_529.out _; (with_reducible repeat (first | refine blk_drewN ?_ _ | refine blk_drew ?_ | refine blk_alloc ?_ _)); exact BK508.out⟩, ⟨by (with_reducible repeat (first | refine blk_drewN ?_ _ | refine blk_drew ?_ | refine blk_alloc ?_ _)); refine blk_far ?_ NB514_529.out _; (with_reducible repeat (first | refine blk_drewN ?_ _ | refine blk_drew ?_ | refine blk_alloc ?_ _)); refine blk_far ?_ NB514_529.out _; (with_reducible repeat (first | refine blk_drewN ?_ _ | refine blk_drew ?_ | refine blk_alloc ?_ _)); refine blk_far ?_ NB514_529.out _; (with_reducible repeat (first | refine blk_drewN ?_ _ | refine blk_drew ?_ | refine blk_alloc ?_ _)); refine blk_far ?_ NB514_529.out _; (with_reducible repeat (first | refine blk_drewN ?_ _ | refine blk_drew ?_ | refine blk_alloc ?_ _)); refine blk_far ?_ NB514_529.out _; (with_reducible repeat (first | refine blk_drewN ?_ _ | refine blk_drew ?_ | refine blk_alloc ?_ _)); exact BK514.out⟩, ⟨bq5_ BK529.out⟩, ⟨by repeat (first | (with_reducible first | exact HI0.out | apply IsS94.alloc | apply IsS94.drewN | apply IsS94.drew | apply IsS94.set_1 | apply IsS94.set_2 | refine IsS94.far ?_ NB0_501.out _ | refine IsS94.far ?_ NB0_508.out _ | refine IsS94.far ?_ NB0_514.out _ | refine IsS94.far ?_ NB0_529.out _) | exact HI0.out)⟩, ⟨by repeat (first | (with_reducible first | exact HK.out | apply KeepBut.set_ | apply keep_drewN | apply keep_drew | apply keep_alloc | refine keep_far ?_ GW501.out _ | refine keep_far ?_ GW508.out _ | refine keep_far ?_ GW514.out _ | refine keep_far ?_ GW529.out _) | exact HK.out)⟩, ⟨by repeat (first | (with_reducible first | exact HB.out | apply below_alloc | apply pw_below_drewN | apply below_drew1 | refine below_set ?_ (IsS94.ge HI0.out) | refine below_set ?_ GE501.out | refine below_set ?_ GE508.out | refine below_set ?_ GE514.out | refine below_set ?_ GE529.out) | exact HB.out)⟩⟩
     case round =>
      clear H'
      try clear c1
      try clear c2
      try clear p2
      try clear c4
      try clear c5
      try clear p6
      try clear c7
      try clear c11
      try clear c12
      try clear c16
      try clear c17
      try clear c18
      try clear c22
      try clear c22b0
      try clear c26
      try clear hcz13_0
      try clear hcz13_1
      try clear hcz19_0
      try clear hcz19_1
      try clear hcz19_2
      try clear hcz20_0
      try clear hcz20_1
      try clear hfz13_0
      try clear hfz13_1
      try clear hfz19_0
      try clear hfz19_1
      try clear hfz19_2
      try clear hfz20_0
      try clear hfz20_1
      try clear p2
      try clear p6
      obtain ⟨x7_3, x1001_3, x1002_3, x530004_3, u530004, rfl, HA, HK3, HO_530004, BK501, BK508, BK514, BK529, HI0, HK, HB⟩ := hrel
      cases gk with
      | zero => exact absurd HA.out (by simp [spec_l29Timed.l0])
      | succ k3 =>
       have H := HA.out
       clear HA
       simp only [spec_l29Timed.l0] at H
       have HC45 := Aside0.mk H
       clear H
       go_upto_region 8 with (fail)
       go_cut [47] (fun v47 wc => ∃ (kq : Nat) (x47_44 : Bool), v47 = .bool x47_44 ∧ Aside0 (spec_l29Timed.j3 kq t515 x7_3 x47_44 s0_0 x1001_3 x1002_3 x515000_24 x515001_24 x515002_24 x515000_24 x515001_24 x515002_24 (wrap64 (1 + t526)) x530004_3 = some (r1, r2, r3, r4, r5, r6, r7)) ∧ Aside0 (kq ≤ k3) ∧ Aside0 (Kd.R k56 56 wc w.heap.size (fun _ => True) u530004 x530004_3) ∧ Aside0 (wc.heap[gb501]? = some (.cells #[.int .i64 0, .int .i64 0, .int .i64 0, .int .i64 0, (.slice none 0 0)] 36 (0, 0))) ∧ Aside0 (wc.heap[gb508]? = some (.cells #[.int .i64 (wrap64 (1 + t502)), .int .i64 (wrap64 (1 + t505))] 31 (0, 0))) ∧ Aside0 (wc.heap[gb514]? = some (.cells #[.int .i64 x515000_24, .int .i64 x515001_24, .int .i64 x515002_24] 33 (0, 0))) ∧ Aside0 (wc.heap[gb529]? = some (.cells #[.int .i64 x515000_24, .int .i64 x515001_24, .int .i64 x515002_24, .int .i64 (wrap64 (1 + t526)), u530004] 36 (0, 0))) ∧ Aside0 (IsS94 w0 wc g s0_0 x1001_3 x1002_3) ∧ Aside0 (KeepBut w wc g none) ∧ Aside0 (Below w0.heap.size w0 wc))
       case first =>
        have H := HC45.out
        clear HC45
        by_cases c46 : x7_3 < t515
        ·rw [if_pos c46] at H
         have c46b0 : decide (x7_3 < t515) = true := decide_eq_true c46
         clear c46
         (first | rw [c46b0] | (simp only [i64_w, i32_w]; rw [c46b0]) | skip)
         have H' := Aside0.mk H
         clear H
         have hnb47 := NB529_501.out
         have hnc47 := NB501_529.out
         have hnb48 := NB529_508.out
         have hnc48 := NB508_529.out
         have hnb49 := NB529_514.out
         have hnc49 := NB514_529.out
         have hnb50 := NB529_0.out
         have hnc50 := NB0_529.out
         obtain ⟨hcz51_0, hcz51_1, hcz51_2, hcz51_3, hcz51_4⟩ := cz5_ BK529.out
         obtain ⟨hfz51_0, hfz51_1, hfz51_2, hfz51_3, hfz51_4⟩ := fz5_ BK529.out
         obtain ⟨Ao52, co52, eo52⟩ := Kd.R_slice HO_530004.out
         subst eo52
         go_wp2
         go_meet
         case rel => exact ⟨_, (decide ((x530004_3.length : Int) < 5)), (by first | rfl | (simp; done) | (simp [*]; done)), H', ⟨by have := HJ5.out; have := HJ24.out; have := HK3.out; first | omega | exact Nat.le_refl _⟩, ⟨kr_ HO_530004.out⟩, ⟨bk_ BK501.out⟩, ⟨bk_ BK508.out⟩, ⟨bk_ BK514.out⟩, ⟨bk_ BK529.out⟩, ⟨by repeat (first | (with_reducible first | exact HI0.out | apply IsS94.alloc | apply IsS94.drewN | apply IsS94.drew | apply IsS94.set_1 | apply IsS94.set_2 | refine IsS94.far ?_ NB0_501.out _ | refine IsS94.far ?_ NB0_508.out _ | refine IsS94.far ?_ NB0_514.out _ | refine IsS94.far ?_ NB0_529.out _) | exact HI0.out)⟩, ⟨by repeat (first | (with_reducible first | exact HK.out | apply KeepBut.set_ | apply keep_drewN | apply keep_drew | apply keep_alloc | refine keep_far ?_ GW501.out _ | refine keep_far ?_ GW508.out _ | refine keep_far ?_ GW514.out _ | refine keep_far ?_ GW529.out _) | exact HK.out)⟩, ⟨by repeat (first | (with_reducible first | exact HB.out | apply below_alloc | apply pw_below_drewN | apply below_drew1 | refine below_set ?_ (IsS94.ge HI0.out) | refine below_set ?_ GE501.out | refine below_set ?_ GE508.out | refine below_set ?_ GE514.out | refine below_set ?_ GE529.out) | exact HB.out)⟩⟩
        ·rw [if_neg c46] at H
         have c46b0 : decide (x7_3 < t515) = false := decide_eq_false c46
         clear c46
         (first | rw [c46b0] | (simp only [i64_w, i32_w]; rw [c46b0]) | skip)
         have H' := Aside0.mk H
         clear H
         go_wp2
         go_meet
         case rel => exact ⟨_, (false), (by first | rfl | (simp; done) | (simp [*]; done)), H', ⟨by have := HJ5.out; have := HJ24.out; have := HK3.out; first | omega | exact Nat.le_refl _⟩, ⟨kr_ HO_530004.out⟩, ⟨bk_ BK501.out⟩, ⟨bk_ BK508.out⟩, ⟨bk_ BK514.out⟩, ⟨bk_ BK529.out⟩, ⟨by repeat (first | (with_reducible first | exact HI0.out | apply IsS94.alloc | apply IsS94.drewN | apply IsS94.drew | apply IsS94.set_1 | apply IsS94.set_2 | refine IsS94.far ?_ NB0_501.out _ | refine IsS94.far ?_ NB0_508.out _ | refine IsS94.far ?_ NB0_514.out _ | refine IsS94.far ?_ NB0_529.out _) | exact HI0.out)⟩, ⟨by repeat (first | (with_reducible first | exact HK.out | apply KeepBut.set_ | apply keep_drewN | apply keep_drew | apply keep_alloc | refine keep_far ?_ GW501.out _ | refine keep_far ?_ GW508.out _ | refine keep_far ?_ GW514.out _ | refine keep_far ?_ GW529.out _) | exact HK.out)⟩, ⟨by repeat (first | (with_reducible first | exact HB.out | apply below_alloc | apply pw_below_drewN | apply below_drew1 | refine below_set ?_ (IsS94.ge HI0.out) | refine below_set ?_ GE501.out | refine below_set ?_ GE508.out | refine below_set ?_ GE514.out | refine below_set ?_ GE529.out) | exact HB.out)⟩⟩
       case rest =>
        clear HC45
        try clear c1
        try clear c2
        try clear p2
        try clear c4
        try clear c5
        try clear p6
        try clear c7
        try clear c11
        try clear c12
        try clear c16
        try clear c17
        try clear c18
        try clear c22
        try clear c22b0
        try clear c26
        try clear c46
        try clear c46b0
        try clear c47
        try clear c48
        try clear c49
        try clear c50
        try clear hcz13_0
        try clear hcz13_1
        try clear hcz19_0
        try clear hcz19_1
        try clear hcz19_2
        try clear hcz20_0
        try clear hcz20_1
        try clear hcz51_0
        try clear hcz51_1
        try clear hcz51_2
        try clear hcz51_3
        try clear hcz51_4
        try clear hfz13_0
        try clear hfz13_1
        try clear hfz19_0
        try clear hfz19_1
        try clear hfz19_2
        try clear hfz20_0
        try clear hfz20_1
        try clear hfz51_0
        try clear hfz51_1
        try clear hfz51_2
        try clear hfz51_3
        try clear hfz51_4
        try clear p2
        try clear p6
        obtain ⟨kq, x47_44, rfl, HA, HJ44, HO_530004, BK501, BK508, BK514, BK529, HI0, HK, HB⟩ := hcut
        cases kq with
        | zero => exact absurd HA.out (by simp [spec_l29Timed.j3])
        | succ kj44 =>
         have H := HA.out
         clear HA
         simp only [spec_l29Timed.j3] at H
         by_cases c53 : x47_44 = true
         ·subst c53
          have H1 : ((spec_l03Bit.f x515002_24 x7_3).bind fun t530 => (if t530 = true then ((spec_l01Once.f s0_0 x1001_3 x1002_3 3).bind fun bt531 => (if bt531.1 = true then (if 0 ≤ (wrap64 (1 + t526)) then ((spec_l01Below.f s0_0 bt531.2.1 bt531.2.2 (shl .i64 1 (wrap64 (1 + t526)))).bind fun bt534 => (if x530004_3.length < 8796093022208 then (spec_l29Timed.l0 kj44 t515 (wrap64 (x7_3 + 1)) s0_0 bt534.2.1 bt534.2.2 x515000_24 x515001_24 x515002_24 x515000_24 x515001_24 x515002_24 (wrap64 (1 + t526)) (x530004_3 ++ [(⟨x7_3, bt534.1⟩ : S56)])) else (none))) else (none)) else (spec_l29Timed.l0 kj44 t515 (wrap64 (x7_3 + 1)) s0_0 bt531.2.1 bt531.2.2 x515000_24 x515001_24 x515002_24 x515000_24 x515001_24 x515002_24 (wrap64 (1 + t526)) x530004_3))) else (spec_l29Timed.l0 kj44 t515 (wrap64 (x7_3 + 1)) s0_0 x1001_3 x1002_3 x515000_24 x515001_24 x515002_24 x515000_24 x515001_24 x515002_24 (wrap64 (1 + t526)) x530004_3))) = some (r1, r2, r3, r4, r5, r6, r7) := by rw [if_pos rfl] at H; exact H
          clear H
          have H := H1
          clear H1
          replace H := Option.bind_eq_some_iff.mp H
          obtain ⟨t530, A540, H⟩ := H
          replace H : (if t530 = true then ((spec_l01Once.f s0_0 x1001_3 x1002_3 3).bind fun bt531 => (if bt531.1 = true then (if 0 ≤ (wrap64 (1 + t526)) then ((spec_l01Below.f s0_0 bt531.2.1 bt531.2.2 (shl .i64 1 (wrap64 (1 + t526)))).bind fun bt534 => (if x530004_3.length < 8796093022208 then (spec_l29Timed.l0 kj44 t515 (wrap64 (x7_3 + 1)) s0_0 bt534.2.1 bt534.2.2 x515000_24 x515001_24 x515002_24 x515000_24 x515001_24 x515002_24 (wrap64 (1 + t526)) (x530004_3 ++ [(⟨x7_3, bt534.1⟩ : S56)])) else (none))) else (none)) else (spec_l29Timed.l0 kj44 t515 (wrap64 (x7_3 + 1)) s0_0 bt531.2.1 bt531.2.2 x515000_24 x515001_24 x515002_24 x515000_24 x515001_24 x515002_24 (wrap64 (1 + t526)) x530004_3))) else (spec_l29Timed.l0 kj44 t515 (wrap64 (x7_3 + 1)) s0_0 x1001_3 x1002_3 x515000_24 x515001_24 x515002_24 x515000_24 x515001_24 x515002_24 (wrap64 (1 + t526)) x530004_3)) = some (r1, r2, r3, r4, r5, r6, r7) := H
          have A54 := Aside0.mk A540
          clear A540
          by_cases c55 : t530 = true
          ·subst c55
           have H1 : ((spec_l01Once.f s0_0 x1001_3 x1002_3 3).bind fun bt531 => (if bt531.1 = true then (if 0 ≤ (wrap64 (1 + t526)) then ((spec_l01Below.f s0_0 bt531.2.1 bt531.2.2 (shl .i64 1 (wrap64 (1 + t526)))).bind fun bt534 => (if x530004_3.length < 8796093022208 then (spec_l29Timed.l0 kj44 t515 (wrap64 (x7_3 + 1)) s0_0 bt534.2.1 bt534.2.2 x515000_24 x515001_24 x515002_24 x515000_24 x515001_24 x515002_24 (wrap64 (1 + t526)) (x530004_3 ++ [(⟨x7_3, bt534.1⟩ : S56)])) else (none))) else (none)) else (spec_l29Timed.l0 kj44 t515 (wrap64 (x7_3 + 1)) s0_0 bt531.2.1 bt531.2.2 x515000_24 x515001_24 x515002_24 x515000_24 x515001_24 x515002_24 (wrap64 (1 + t526)) x530004_3))) = some (r1, r2, r3, r4, r5, r6, r7) := by rw [if_pos rfl] at H; exact H
           clear H
           have H := H1
           clear H1
           replace H := Option.bind_eq_some_iff.mp H
           obtain ⟨⟨t531, t532, t533⟩, A560, H⟩ := H
           replace H : (if t531 = true then (if 0 ≤ (wrap64 (1 + t526)) then ((spec_l01Below.f s0_0 t532 t533 (shl .i64 1 (wrap64 (1 + t526)))).bind fun bt534 => (if x530004_3.length < 8796093022208 then (spec_l29Timed.l0 kj44 t515 (wrap64 (x7_3 + 1)) s0_0 bt534.2.1 bt534.2.2 x515000_24 x515001_24 x515002_24 x515000_24 x515001_24 x515002_24 (wrap64 (1 + t526)) (x530004_3 ++ [(⟨x7_3, bt534.1⟩ : S56)])) else (none))) else (none)) else (spec_l29Timed.l0 kj44 t515 (wrap64 (x7_3 + 1)) s0_0 t532 t533 x515000_24 x515001_24 x515002_24 x515000_24 x515001_24 x515002_24 (wrap64 (1 + t526)) x530004_3)) = some (r1, r2, r3, r4, r5, r6, r7) := H
           have A56 := Aside0.mk A560
           clear A560
           by_cases c57 : t531 = true
           ·subst c57
            have H1 : (if 0 ≤ (wrap64 (1 + t526)) then ((spec_l01Below.f s0_0 t532 t533 (shl .i64 1 (wrap64 (1 + t526)))).bind fun bt534 => (if x530004_3.length < 8796093022208 then (spec_l29Timed.l0 kj44 t515 (wrap64 (x7_3 + 1)) s0_0 bt534.2.1 bt534.2.2 x515000_24 x515001_24 x515002_24 x515000_24 x515001_24 x515002_24 (wrap64 (1 + t526)) (x530004_3 ++ [(⟨x7_3, bt534.1⟩ : S56)])) else (none))) else (none)) = some (r1, r2, r3, r4, r5, r6, r7) := by rw [if_pos rfl] at H; exact H
            clear H
            have H := H1
            clear H1
            obtain ⟨ji58, hji58⟩ : ∃ j_ : Int, (wrap64 (1 + t526)) = j_ := ⟨_, rfl⟩
            replace H : (if 0 ≤ (ji58) then ((spec_l01Below.f s0_0 t532 t533 (shl .i64 1 (ji58))).bind fun bt534 => (if x530004_3.length < 8796093022208 then (spec_l29Timed.l0 kj44 t515 (wrap64 (x7_3 + 1)) s0_0 bt534.2.1 bt534.2.2 x515000_24 x515001_24 x515002_24 x515000_24 x515001_24 x515002_24 (ji58) (x530004_3 ++ [(⟨x7_3, bt534.1⟩ : S56)])) else (none))) else (none)) = some (r1, r2, r3, r4, r5, r6, r7) := by first | (rw [hji58] at H; exact H) | (simp only [hji58] at H ⊢; exact H)
            (try rw [hji58] at A54)
            (try rw [hji58] at A56)
            have hji58w : (IntKind.i64.wrap (1 + t526)) = ji58 := (i64_w _).trans hji58
            (try rw [hji58] at BK501)
            (try rw [hji58] at BK529)
            by_cases c59 : 0 ≤ (ji58)
            ·rw [if_pos c59] at H
             have c59b0 := eq_true c59
             have c59b1 : decide (0 ≤ (ji58)) = true := decide_eq_true c59
             clear c59
             obtain ⟨ji60, hji60⟩ : ∃ j_ : Int, (shl .i64 1 (ji58)) = j_ := ⟨_, rfl⟩
             replace H : ((spec_l01Below.f s0_0 t532 t533 (ji60)).bind fun bt534 => (if x530004_3.length < 8796093022208 then (spec_l29Timed.l0 kj44 t515 (wrap64 (x7_3 + 1)) s0_0 bt534.2.1 bt534.2.2 x515000_24 x515001_24 x515002_24 x515000_24 x515001_24 x515002_24 (ji58) (x530004_3 ++ [(⟨x7_3, bt534.1⟩ : S56)])) else (none))) = some (r1, r2, r3, r4, r5, r6, r7) := by first | (rw [hji60] at H; exact H) | (simp only [hji60] at H ⊢; exact H)
             (try rw [hji60] at A54)
             (try rw [hji60] at A56)
             have hji60_ : (IntKind.i64.wrap (1 * 2 ^ min (ji58).toNat 64)) = ji60 := hji60
             have hji60z : (ji58) ≤ 64 → (IntKind.i64.wrap (1 * 2 ^ (ji58).toNat)) = ji60 := shl_small hji60
             have hji60u : (IntKind.i64.wrap (2 ^ min (ji58).toNat 64)) = ji60 := by have h_ := hji60_; rw [Int.one_mul] at h_; exact h_
             have hji60v : (ji58) ≤ 64 → (IntKind.i64.wrap (2 ^ (ji58).toNat)) = ji60 := fun hle_ => by have h_ := hji60z hle_; rw [Int.one_mul] at h_; exact h_
             have hji60y : (wrap64 (1 * 2 ^ min (ji58).toNat 64)) = ji60 := (i64_w _).symm.trans hji60_
             have hji60x : (ji58) ≤ 64 → (wrap64 (1 * 2 ^ (ji58).toNat)) = ji60 := fun h_ => (i64_w _).symm.trans (hji60z h_)
             replace H := Option.bind_eq_some_iff.mp H
             obtain ⟨⟨t534, t535, t536⟩, A610, H⟩ := H
             replace H : (if x530004_3.length < 8796093022208 then (spec_l29Timed.l0 kj44 t515 (wrap64 (x7_3 + 1)) s0_0 t535 t536 x515000_24 x515001_24 x515002_24 x515000_24 x515001_24 x515002_24 (ji58) (x530004_3 ++ [(⟨x7_3, t534⟩ : S56)])) else (none)) = some (r1, r2, r3, r4, r5, r6, r7) := H
             have A61 := Aside0.mk A610
             clear A610
             by_cases c62 : x530004_3.length < 8796093022208
             ·rw [if_pos c62] at H
              have LMc62 := Aside0.mk c62
              clear c62
              obtain ⟨y537, hy537⟩ : ∃ y_ : List (S56), y_ = (x530004_3 ++ [(⟨x7_3, t534⟩ : S56)]) := ⟨_, rfl⟩
              replace H : (spec_l29Timed.l0 kj44 t515 (wrap64 (x7_3 + 1)) s0_0 t535 t536 x515000_24 x515001_24 x515002_24 x515000_24 x515001_24 x515002_24 (ji58) y537) = some (r1, r2, r3, r4, r5, r6, r7) := by first | (rw [hy537]; with_reducible exact H) | (have H2_ := (Option.bind_some _ _).symm.trans H; rw [hy537]; with_reducible exact H2_) | (have H2_ := (Option.bind_some _ _).symm.trans H; with_reducible exact H2_) | with_reducible exact H | (rw [hy537]; exact H) | exact H
              have Ny537 := Aside0.mk hy537
              clear hy537
              have H' := Aside0.mk H
              clear H
              have hnb63 := NB514_501.out
              have hnc63 := NB501_514.out
              have hnb64 := NB514_508.out
              have hnc64 := NB508_514.out
              have hnb65 := NB514_529.out
              have hnc65 := NB529_514.out
              have hnb66 := NB514_0.out
              have hnc66 := NB0_514.out
              obtain ⟨hcz67_0, hcz67_1, hcz67_2⟩ := cz3_ BK514.out
              obtain ⟨hfz67_0, hfz67_1, hfz67_2⟩ := fz3_ BK514.out
              try go_wp2_with (first | (refine gl_ 53 Try.func32 #[.int .i64 x515002_24, .int .i64 x7_3] ?_; (with_reducible refine (spec_l03Bit.calls x515002_24 x7_3 true _ A54.out).mono ?_); rintro e w' ⟨rfl, ⟨nd, rfl⟩⟩; refine ⟨_, rfl, ?_⟩; (try (rw [drewN_self wc]; generalize hq_ : World.drewN wc _ = wc; have n0_ : Aside0 (Kd.R k56 56 wc w.heap.size (fun _ => True) u530004 x530004_3) := ⟨by rw [← hq_]; exact (kr_ HO_530004.out)⟩; have n1_ : Aside0 (wc.heap[gb501]? = some (.cells #[.int .i64 0, .int .i64 0, .int .i64 0, .int .i64 0, .slice none 0 0] 36 (0, 0))) := ⟨by rw [← hq_]; exact (bk_ BK501.out)⟩; have n2_ : Aside0 (wc.heap[gb508]? = some (.cells #[.int .i64 (wrap64 (1 + t502)), .int .i64 (wrap64 (1 + t505))] 31 (0, 0))) := ⟨by rw [← hq_]; exact (bk_ BK508.out)⟩; have n3_ : Aside0 (wc.heap[gb514]? = some (.cells #[.int .i64 x515000_24, .int .i64 x515001_24, .int .i64 x515002_24] 33 (0, 0))) := ⟨by rw [← hq_]; exact (bk_ BK514.out)⟩; have n4_ : Aside0 (wc.heap[gb529]? = some (.cells #[.int .i64 x515000_24, .int .i64 x515001_24, .int .i64 x515002_24, .int .i64 (ji58), u530004] 36 (0, 0))) := ⟨by rw [← hq_]; exact (bk_ BK529.out)⟩; have n5_ : Aside0 (IsS94 w0 wc g s0_0 x1001_3 x1002_3) := ⟨by rw [← hq_]; exact (by repeat (first | (with_reducible first | exact HI0.out | apply IsS94.alloc | apply IsS94.drewN | apply IsS94.drew | apply IsS94.set_1 | apply IsS94.set_2 | refine IsS94.far ?_ NB0_501.out _ | refine IsS94.far ?_ NB0_508.out _ | refine IsS94.far ?_ NB0_514.out _ | refine IsS94.far ?_ NB0_529.out _) | exact HI0.out))⟩; have n6_ : Aside0 (KeepBut w wc g none) := ⟨by rw [← hq_]; exact (by repeat (first | (with_reducible first | exact HK.out | apply KeepBut.set_ | apply keep_drewN | apply keep_drew | apply keep_alloc | refine keep_far ?_ GW501.out _ | refine keep_far ?_ GW508.out _ | refine keep_far ?_ GW514.out _ | refine keep_far ?_ GW529.out _) | exact HK.out))⟩; have n7_ : Aside0 (Below w0.heap.size w0 wc) := ⟨by rw [← hq_]; exact (by repeat (first | (with_reducible first | exact HB.out | apply below_alloc | apply pw_below_drewN | apply below_drew1 | refine below_set ?_ (IsS94.ge HI0.out) | refine below_set ?_ GE501.out | refine below_set ?_ GE508.out | refine below_set ?_ GE514.out | refine below_set ?_ GE529.out) | exact HB.out))⟩; clear HO_530004 BK501 BK508 BK514 BK529 HI0 HK HB hq_; have HO_530004 := n0_; have BK501 := n1_; have BK508 := n2_; have BK514 := n3_; have BK529 := n4_; have HI0 := n5_; have HK := n6_; have HB := n7_; clear n0_ n1_ n2_ n3_ n4_ n5_ n6_ n7_))) | (go_at_call 73; (with_reducible refine (spec_l01Once.calls g s0_0 x1001_3 x1002_3 3 true t532 t533 w0 _ ?side1 ?side2 A56.out).mono ?_); (case side1 => repeat (first | (with_reducible first | exact HI0.out | apply IsS94.alloc | apply IsS94.drewN | apply IsS94.drew | apply IsS94.set_1 | apply IsS94.set_2 | refine IsS94.far ?_ NB0_501.out _ | refine IsS94.far ?_ NB0_508.out _ | refine IsS94.far ?_ NB0_514.out _ | refine IsS94.far ?_ NB0_529.out _) | exact HI0.out)); (case side2 => repeat (first | (with_reducible first | exact HB.out | apply below_alloc | apply pw_below_drewN | apply below_drew1 | refine below_set ?_ (IsS94.ge HI0.out) | refine below_set ?_ GE501.out | refine below_set ?_ GE508.out | refine below_set ?_ GE514.out | refine below_set ?_ GE529.out) | exact HB.out)); rintro e w68 ⟨rfl, hi, hb, hk⟩; replace HO_530004 := Aside0.mk (Kd.R_mono (Kd.R_keep (IsS94.apart (show IsS94 w0 _ g s0_0 x1001_3 x1002_3 from by repeat (first | (with_reducible first | exact HI0.out | apply IsS94.alloc | apply IsS94.drewN | apply IsS94.drew | apply IsS94.set_1 | apply IsS94.set_2 | refine IsS94.far ?_ NB0_501.out _ | refine IsS94.far ?_ NB0_508.out _ | refine IsS94.far ?_ NB0_514.out _ | refine IsS94.far ?_ NB0_529.out _) | exact HI0.out)) (kr_ HO_530004.out) (by decide)) hk (fun _ h => h.2)) (fun _ h => h.1)); replace BK501 := Aside0.mk (KeepBut.blk hk (g' := gb501) (o := .cells #[.int .i64 0, .int .i64 0, .int .i64 0, .int .i64 0, .slice none 0 0] 36 (0, 0)) (bk_ BK501.out) NB501_0.out (by simp)); replace BK508 := Aside0.mk (KeepBut.blk hk (g' := gb508) (o := .cells #[.int .i64 (wrap64 (1 + t502)), .int .i64 (wrap64 (1 + t505))] 31 (0, 0)) (bk_ BK508.out) NB508_0.out (by simp)); replace BK514 := Aside0.mk (KeepBut.blk hk (g' := gb514) (o := .cells #[.int .i64 x515000_24, .int .i64 x515001_24, .int .i64 x515002_24] 33 (0, 0)) (bk_ BK514.out) NB514_0.out (by simp)); replace BK529 := Aside0.mk (KeepBut.blk hk (g' := gb529) (o := .cells #[.int .i64 x515000_24, .int .i64 x515001_24, .int .i64 x515002_24, .int .i64 (ji58), u530004] 36 (0, 0)) (bk_ BK529.out) NB529_0.out (by simp)); replace HK := Aside0.mk (KeepBut.trans (by repeat (first | (with_reducible first | exact HK.out | apply KeepBut.set_ | apply keep_drewN | apply keep_drew | apply keep_alloc | refine keep_far ?_ GW501.out _ | refine keep_far ?_ GW508.out _ | refine keep_far ?_ GW514.out _ | refine keep_far ?_ GW529.out _) | exact HK.out)) hk (.inl rfl)); replace HB := Aside0.mk (hb); replace HI0 := Aside0.mk (hi)))
              replace HO_530004 := Aside0.mk (Kd.R_drew HO_530004.out)
              replace BK501 := Aside0.mk (blk_drew BK501.out)
              replace BK508 := Aside0.mk (blk_drew BK508.out)
              replace BK514 := Aside0.mk (blk_drew BK514.out)
              replace BK529 := Aside0.mk (blk_drew BK529.out)
              replace HI0 := Aside0.mk (IsS94.drew HI0.out)
              replace HK := Aside0.mk (keep_drew HK.out)
              replace HB := Aside0.mk (below_drew1 HB.out)
              refine start_ (n := 13) (S := fun w' => w'.cell? ⟨gb529, 0, none⟩ = some (.int .i64 x515000_24) ∧ w'.cell? ⟨gb529, 1, none⟩ = some (.int .i64 x515001_24) ∧ w'.cell? ⟨gb529, 2, none⟩ = some (.int .i64 x515002_24) ∧ w'.cell? ⟨gb529, 3, none⟩ = some (.int .i64 (ji58)) ∧ w'.cell? ⟨gb529, 4, none⟩ = some (u530004)) (ds := [12]) #[false, false, false, false, false, false, false, false, false, false, false, false, false] (by kernel_rfl) rfl rfl ⟨BK529.c 0, BK529.c 1, BK529.c 2, BK529.c 3, BK529.c 4⟩ (fun hHeld => ?_); refine with_tabW spec_l29Timed.tab11 spec_l29Timed.bits11 (fun HT_ HW_ => ?_)
              generalize w68.drew = w69 at HO_530004 BK501 BK508 BK514 BK529 HI0 HK HB hHeld ⊢
              refine pv_ (i := 0) (N := some 58) HT_.out ?_
              refine pv_ (i := 2) (N := some 60) HT_.out ?_
              refine pv_ (i := 3) (N := some 61) HT_.out ?_
              refine pv_ (i := 4) (N := some 62) HT_.out ?_
              refine tv5_ (i := 1) (N := some 59) HT_.out HW_.out hHeld ?_
              refine tv5_ (i := 5) (N := some 63) HT_.out HW_.out hHeld ?_
              refine pv_ (i := 6) (N := some 64) HT_.out ?_
              refine ov_ (i := 7) (N := some 65) HT_.out (fun K hK => ?_)
              refine goes_ Try.func49 (by kernel_rfl) rfl #[.pointer (some ⟨g, 0, none⟩), .int .i64 ji60] (by rfl) rfl rfl (by (try simp only [List.map_toArray, List.map_cons, List.map_nil]); first | done | (simp only [hji60]; rfl) | rfl | (simp only [List.length_drop, List.length_take]; rfl)) ?_
              with_reducible refine (spec_l01Below.calls g s0_0 t532 t533 ji60 t534 t535 t536 w0 _ ?side1 ?side2 A61.out).mono ?_
              (case side1 => repeat (first | (with_reducible first | exact HI0.out | apply IsS94.alloc | apply IsS94.drewN | apply IsS94.drew | apply IsS94.set_1 | apply IsS94.set_2 | refine IsS94.far ?_ NB0_501.out _ | refine IsS94.far ?_ NB0_508.out _ | refine IsS94.far ?_ NB0_514.out _ | refine IsS94.far ?_ NB0_529.out _) | exact HI0.out))
              (case side2 => repeat (first | (with_reducible first | exact HB.out | apply below_alloc | apply pw_below_drewN | apply below_drew1 | refine below_set ?_ (IsS94.ge HI0.out) | refine below_set ?_ GE501.out | refine below_set ?_ GE508.out | refine below_set ?_ GE514.out | refine below_set ?_ GE529.out) | exact HB.out))
              rintro e w70 ⟨rfl, hi, hb, hk⟩
              refine ⟨_, rfl, ?_⟩
              replace HO_530004 := Aside0.mk (Kd.R_mono (Kd.R_keep (IsS94.apart (show IsS94 w0 _ g s0_0 t532 t533 from by repeat (first | (with_reducible first | exact HI0.out | apply IsS94.alloc | apply IsS94.drewN | apply IsS94.drew | apply IsS94.set_1 | apply IsS94.set_2 | refine IsS94.far ?_ NB0_501.out _ | refine IsS94.far ?_ NB0_508.out _ | refine IsS94.far ?_ NB0_514.out _ | refine IsS94.far ?_ NB0_529.out _) | exact HI0.out)) (kr_ HO_530004.out) (by decide)) hk (fun _ h => h.2)) (fun _ h => h.1))
              replace BK501 := Aside0.mk (KeepBut.blk hk (g' := gb501) (o := .cells #[.int .i64 0, .int .i64 0, .int .i64 0, .int .i64 0, .slice none 0 0] 36 (0, 0)) (bk_ BK501.out) NB501_0.out (by simp))
              replace BK508 := Aside0.mk (KeepBut.blk hk (g' := gb508) (o := .cells #[.int .i64 (wrap64 (1 + t502)), .int .i64 (wrap64 (1 + t505))] 31 (0, 0)) (bk_ BK508.out) NB508_0.out (by simp))
              replace BK514 := Aside0.mk (KeepBut.blk hk (g' := gb514) (o := .cells #[.int .i64 x515000_24, .int .i64 x515001_24, .int .i64 x515002_24] 33 (0, 0)) (bk_ BK514.out) NB514_0.out (by simp))
              replace BK529 := Aside0.mk (KeepBut.blk hk (g' := gb529) (o := .cells #[.int .i64 x515000_24, .int .i64 x515001_24, .int .i64 x515002_24, .int .i64 (ji58), u530004] 36 (0, 0)) (bk_ BK529.out) NB529_0.out (by simp))
              replace HK := Aside0.mk (KeepBut.trans (by repeat (first | (with_reducible first | exact HK.out | apply KeepBut.set_ | apply keep_drewN | apply keep_drew | apply keep_alloc | refine keep_far ?_ GW501.out _ | refine keep_far ?_ GW508.out _ | refine keep_far ?_ GW514.out _ | refine keep_far ?_ GW529.out _) | exact HK.out)) hk (.inl rfl))
              replace HB := Aside0.mk (hb)
              replace HI0 := Aside0.mk (hi)
              skip
              (try clear hb2)
              (try clear hk)
              (try clear hi)
              refine hK.out _ _ ⟨BK529.c 0, BK529.c 1, BK529.c 2, BK529.c 3, BK529.c 4⟩ (fun hHeld => ?_)
              clear hK K
              refine nm_ ?_
              refine pv_ (i := 8) (N := some 66) HT_.out ?_
              refine ov_ (i := 9) (N := some 67) HT_.out (fun K hK => ?_)
              refine value_ (w1 := ?_) (v := ?_) (by rfl) rfl ?_ ?_
              rotate_left 2
              ·go_simp
               constructor
               ·rfl
               ·rfl
              refine hK.out _ _ ⟨(blk_cell (blk_alloc BK529.out _) 0).trans rfl, (blk_cell (blk_alloc BK529.out _) 1).trans rfl, (blk_cell (blk_alloc BK529.out _) 2).trans rfl, (blk_cell (blk_alloc BK529.out _) 3).trans rfl, (blk_cell (blk_alloc BK529.out _) 4).trans rfl⟩ (fun hHeld => ?_)
              clear hK K
              refine nm_ ?_
              refine ov_ (i := 10) (N := some 68) HT_.out (fun K hK => ?_)
              refine Kd.R_append_step k56 w.heap.size (by rfl) (.tmp 59) (.tmp 67) 34 56 (.agg #[(.int .i64 0), (.int .i64 0)]) 16 rfl Try.underlying34 info56 rfl (by decide) (by omega) u530004 x530004_3 (⟨x7_3, t534⟩ : S56) [.int .i64 x7_3, .int .i64 t534] (fun _ => True) (fun _ => False) rfl rfl ?aP (fun _ hk => hk.elim) ?aF ?aO (Below.refl _ _) ?aS ?aL ?_
              (case aP => exact k56_mkM _ _ _ (⟨x7_3, t534⟩ : S56))
              (case aF => exact (fun _ _ => trivial))
              (case aO => exact (kr_ HO_530004.out))
              (case aS => exact (keep_size (w := w) (g := g) (row := none) (by repeat (first | (with_reducible first | exact HK.out | apply KeepBut.set_ | apply keep_drewN | apply keep_drew | apply keep_alloc | refine keep_far ?_ GW501.out _ | refine keep_far ?_ GW508.out _ | refine keep_far ?_ GW514.out _ | refine keep_far ?_ GW529.out _) | exact HK.out))))
              (case aL => have := LMc62.out; omega)
              intro v538 w71 ho hb hg hat
              rw [← Ny537.out] at ho
              have n0_ := Aside0.mk (blk_grown (g := gb501) (o := .cells #[.int .i64 0, .int .i64 0, .int .i64 0, .int .i64 0, .slice none 0 0] 36 (0, 0)) (bk_ BK501.out) hg (Kd.R_ne HO_530004.out BK501.out (by decide)))
              have n1_ := Aside0.mk (blk_grown (g := gb508) (o := .cells #[.int .i64 (wrap64 (1 + t502)), .int .i64 (wrap64 (1 + t505))] 31 (0, 0)) (bk_ BK508.out) hg (Kd.R_ne HO_530004.out BK508.out (by decide)))
              have n2_ := Aside0.mk (blk_grown (g := gb514) (o := .cells #[.int .i64 x515000_24, .int .i64 x515001_24, .int .i64 x515002_24] 33 (0, 0)) (bk_ BK514.out) hg (Kd.R_ne HO_530004.out BK514.out (by decide)))
              have n3_ := Aside0.mk (blk_grown (g := gb529) (o := .cells #[.int .i64 x515000_24, .int .i64 x515001_24, .int .i64 x515002_24, .int .i64 (ji58), u530004] 36 (0, 0)) (bk_ BK529.out) hg (Kd.R_ne HO_530004.out BK529.out (by decide)))
              have n4_ := Aside0.mk (IsS94.grown (by repeat (first | (with_reducible first | exact HI0.out | apply IsS94.alloc | apply IsS94.drewN | apply IsS94.drew | apply IsS94.set_1 | apply IsS94.set_2 | refine IsS94.far ?_ NB0_501.out _ | refine IsS94.far ?_ NB0_508.out _ | refine IsS94.far ?_ NB0_514.out _ | refine IsS94.far ?_ NB0_529.out _) | exact HI0.out)) hg (IsS94.own_ne HI0.out HO_530004.out (by decide)))
              have n5_ := Aside0.mk (below_weaken (by repeat (first | (with_reducible first | exact HB.out | apply below_alloc | apply pw_below_drewN | apply below_drew1 | refine below_set ?_ (IsS94.ge HI0.out) | refine below_set ?_ GE501.out | refine below_set ?_ GE508.out | refine below_set ?_ GE514.out | refine below_set ?_ GE529.out) | exact HB.out)) HL.out hb)
              have n6_ := Aside0.mk (KeepBut.trans (by repeat (first | (with_reducible first | exact HK.out | apply KeepBut.set_ | apply keep_drewN | apply keep_drew | apply keep_alloc | refine keep_far ?_ GW501.out _ | refine keep_far ?_ GW508.out _ | refine keep_far ?_ GW514.out _ | refine keep_far ?_ GW529.out _) | exact HK.out)) (KeepBut.of_grown hg g) (Kd.R_base2 HO_530004.out))
              have n7_ := Aside0.mk (ho)
              clear BK501
              clear BK508
              clear BK514
              clear BK529
              clear HI0
              clear HB
              clear HK
              clear HO_530004
              have BK501 := n0_
              have BK508 := n1_
              have BK514 := n2_
              have BK529 := n3_
              have HI0 := n4_
              have HB := n5_
              have HK := n6_
              have HO539 := n7_
              clear n0_ n1_ n2_ n3_ n4_ n5_ n6_ n7_
              clear ho hb hg hat
              obtain ⟨Ao72, co72, eo72⟩ := Kd.R_slice HO539.out
              (first | subst eo72 | (injection eo72 with f1_ f2_ f3_; have f4_ := f1_.symm; have f5_ := f3_.symm; clear f1_ f2_ f3_; subst f4_; subst f5_))
              refine hK.out _ _ ⟨BK529.c 0, BK529.c 1, BK529.c 2, BK529.c 3, BK529.c 4⟩ (fun hHeld => ?_)
              clear hK K
              refine nm_ ?_
              refine pv_ (i := 11) (N := some 69) HT_.out ?_
              refine last_ (i := 12) (N := none) #[true, true, true, true, true, true, true, true, true, true, true, true, true] rfl rfl (one_of HT_.out (by kernel_rfl)) (by decide) (fun K hK => ?_)
              have hs73 : w71.cell? ⟨gb529, 4, none⟩ = some (u530004) := BK529.c 4
              have hfs73 := blk_frozen BK529.out 4
              have hns73_0 := NB501_529.out
              have hns73_1 := NB508_529.out
              have hns73_2 := NB514_529.out
              have hms73_0 := NB529_501.out
              have hms73_1 := NB529_508.out
              have hms73_2 := NB529_514.out
              refine skip_ (w1 := ?_) (by rfl) rfl ?_ ?_
              rotate_left
              ·go_simp
               rfl
              refine hK.out _ _ ?_
              clear hK K
              refine done_ (done_of HT_.out (by kernel_rfl)) ?_
              try go_wp2
              (try simp only [← hji58])
              go_roundg kj44
              case measure => have := HJ5.out; have := HJ24.out; have := HK3.out; have := HJ44.out; omega
              case rel => (try subst hji58); exact ⟨(wrap64 (x7_3 + 1)), (t535), (t536), (y537), (.slice Ao72 y537.length co72), (by first | rfl | (simp; done) | (simp [*]; done)), H', ⟨by have := HJ5.out; have := HJ24.out; have := HK3.out; have := HJ44.out; omega⟩, ⟨by (with_reducible repeat (first | apply Kd.R_alloc | apply Kd.R_drewN | apply Kd.R_drew)); exact Kd.R_mono (Kd.R_far (p := ⟨gb529, 4, none⟩) (Kd.R_types HO539.out BK529.out (by decide)) (fun _ hk => hk.2) (.slice Ao72 y537.length co72)) (fun _ hk => trivial)⟩, ⟨by (with_reducible repeat (first | refine blk_drewN ?_ _ | refine blk_drew ?_ | refine blk_alloc ?_ _)); refine blk_far ?_ NB501_529.out _; (with_reducible repeat (first | refine blk_drewN ?_ _ | refine blk_drew ?_ | refine blk_alloc ?_ _)); exact BK501.out⟩, ⟨by (with_reducible repeat (first | refine blk_drewN ?_ _ | refine blk_drew ?_ | refine blk_alloc ?_ _)); refine blk_far ?_ NB508_529.out _; (with_reducible repeat (first | refine blk_drewN ?_ _ | refine blk_drew ?_ | refine blk_alloc ?_ _)); exact BK508.out⟩, ⟨by (with_reducible repeat (first | refine blk_drewN ?_ _ | refine blk_drew ?_ | refine blk_alloc ?_ _)); refine blk_far ?_ NB514_529.out _; (with_reducible repeat (first | refine blk_drewN ?_ _ | refine blk_drew ?_ | refine blk_alloc ?_ _)); exact BK514.out⟩, ⟨by (with_reducible repeat (first | refine blk_drewN ?_ _ | refine blk_drew ?_ | refine blk_alloc ?_ _)); refine blk_put (cs := #[.int .i64 x515000_24, .int .i64 x515001_24, .int .i64 x515002_24, .int .i64 (_), u530004]) ?_ 4 _ rfl; (with_reducible repeat (first | refine blk_drewN ?_ _ | refine blk_drew ?_ | refine blk_alloc ?_ _)); exact BK529.out⟩, ⟨by repeat (first | (with_reducible first | exact HI0.out | apply IsS94.alloc | apply IsS94.drewN | apply IsS94.drew | apply IsS94.set_1 | apply IsS94.set_2 | refine IsS94.far ?_ NB0_501.out _ | refine IsS94.far ?_ NB0_508.out _ | refine IsS94.far ?_ NB0_514.out _ | refine IsS94.far ?_ NB0_529.out _) | exact HI0.out)⟩, ⟨by repeat (first | (with_reducible first | exact HK.out | apply KeepBut.set_ | apply keep_drewN | apply keep_drew | apply keep_alloc | refine keep_far ?_ GW501.out _ | refine keep_far ?_ GW508.out _ | refine keep_far ?_ GW514.out _ | refine keep_far ?_ GW529.out _) | exact HK.out)⟩, ⟨by repeat (first | (with_reducible first | exact HB.out | apply below_alloc | apply pw_below_drewN | apply below_drew1 | refine below_set ?_ (IsS94.ge HI0.out) | refine below_set ?_ GE501.out | refine below_set ?_ GE508.out | refine below_set ?_ GE514.out | refine below_set ?_ GE529.out) | exact HB.out)⟩⟩
             ·rw [if_neg c62] at H
              exact absurd H (by simp)
            ·rw [if_neg c59] at H
             exact absurd H (by simp)
           ·replace c57 := Bool.eq_false_iff.mpr c57
            subst c57
            have H1 : (spec_l29Timed.l0 kj44 t515 (wrap64 (x7_3 + 1)) s0_0 t532 t533 x515000_24 x515001_24 x515002_24 x515000_24 x515001_24 x515002_24 (wrap64 (1 + t526)) x530004_3) = some (r1, r2, r3, r4, r5, r6, r7) := by rw [if_neg (show ¬ (false = true) by decide)] at H; exact H
            clear H
            have H := H1
            clear H1
            have H' := Aside0.mk H
            clear H
            have hnb74 := NB514_501.out
            have hnc74 := NB501_514.out
            have hnb75 := NB514_508.out
            have hnc75 := NB508_514.out
            have hnb76 := NB514_529.out
            have hnc76 := NB529_514.out
            have hnb77 := NB514_0.out
            have hnc77 := NB0_514.out
            obtain ⟨hcz78_0, hcz78_1, hcz78_2⟩ := cz3_ BK514.out
            obtain ⟨hfz78_0, hfz78_1, hfz78_2⟩ := fz3_ BK514.out
            go_wp2_with (first | (refine gl_ 53 Try.func32 #[.int .i64 x515002_24, .int .i64 x7_3] ?_; (with_reducible refine (spec_l03Bit.calls x515002_24 x7_3 true _ A54.out).mono ?_); rintro e w' ⟨rfl, ⟨nd, rfl⟩⟩; refine ⟨_, rfl, ?_⟩) | (go_at_call 73; (with_reducible refine (spec_l01Once.calls g s0_0 x1001_3 x1002_3 3 false t532 t533 w0 _ ?side1 ?side2 A56.out).mono ?_); (case side1 => repeat (first | (with_reducible first | exact HI0.out | apply IsS94.alloc | apply IsS94.drewN | apply IsS94.drew | apply IsS94.set_1 | apply IsS94.set_2 | refine IsS94.far ?_ NB0_501.out _ | refine IsS94.far ?_ NB0_508.out _ | refine IsS94.far ?_ NB0_514.out _ | refine IsS94.far ?_ NB0_529.out _) | exact HI0.out)); (case side2 => repeat (first | (with_reducible first | exact HB.out | apply below_alloc | apply pw_below_drewN | apply below_drew1 | refine below_set ?_ (IsS94.ge HI0.out) | refine below_set ?_ GE501.out | refine below_set ?_ GE508.out | refine below_set ?_ GE514.out | refine below_set ?_ GE529.out) | exact HB.out)); rintro e w79 ⟨rfl, hi, hb, hk⟩; replace HO_530004 := Aside0.mk (Kd.R_mono (Kd.R_keep (IsS94.apart (show IsS94 w0 _ g s0_0 x1001_3 x1002_3 from by repeat (first | (with_reducible first | exact HI0.out | apply IsS94.alloc | apply IsS94.drewN | apply IsS94.drew | apply IsS94.set_1 | apply IsS94.set_2 | refine IsS94.far ?_ NB0_501.out _ | refine IsS94.far ?_ NB0_508.out _ | refine IsS94.far ?_ NB0_514.out _ | refine IsS94.far ?_ NB0_529.out _) | exact HI0.out)) (kr_ HO_530004.out) (by decide)) hk (fun _ h => h.2)) (fun _ h => h.1)); replace BK501 := Aside0.mk (KeepBut.blk hk (g' := gb501) (o := .cells #[.int .i64 0, .int .i64 0, .int .i64 0, .int .i64 0, .slice none 0 0] 36 (0, 0)) (bk_ BK501.out) NB501_0.out (by simp)); replace BK508 := Aside0.mk (KeepBut.blk hk (g' := gb508) (o := .cells #[.int .i64 (wrap64 (1 + t502)), .int .i64 (wrap64 (1 + t505))] 31 (0, 0)) (bk_ BK508.out) NB508_0.out (by simp)); replace BK514 := Aside0.mk (KeepBut.blk hk (g' := gb514) (o := .cells #[.int .i64 x515000_24, .int .i64 x515001_24, .int .i64 x515002_24] 33 (0, 0)) (bk_ BK514.out) NB514_0.out (by simp)); replace BK529 := Aside0.mk (KeepBut.blk hk (g' := gb529) (o := .cells #[.int .i64 x515000_24, .int .i64 x515001_24, .int .i64 x515002_24, .int .i64 (wrap64 (1 + t526)), u530004] 36 (0, 0)) (bk_ BK529.out) NB529_0.out (by simp)); replace HK := Aside0.mk (KeepBut.trans (by repeat (first | (with_reducible first | exact HK.out | apply KeepBut.set_ | apply keep_drewN | apply keep_drew | apply keep_alloc | refine keep_far ?_ GW501.out _ | refine keep_far ?_ GW508.out _ | refine keep_far ?_ GW514.out _ | refine keep_far ?_ GW529.out _) | exact HK.out)) hk (.inl rfl)); replace HB := Aside0.mk (hb); replace HI0 := Aside0.mk (hi)))
            (try simp only [← hji58])
            go_roundg kj44
            case measure => have := HJ5.out; have := HJ24.out; have := HK3.out; have := HJ44.out; omega
            case rel => (try subst hji58); exact ⟨(wrap64 (x7_3 + 1)), (t532), (t533), (x530004_3), (u530004), (by first | rfl | (simp; done) | (simp [*]; done)), H', ⟨by have := HJ5.out; have := HJ24.out; have := HK3.out; have := HJ44.out; omega⟩, ⟨kr_ HO_530004.out⟩, ⟨bk_ BK501.out⟩, ⟨bk_ BK508.out⟩, ⟨bk_ BK514.out⟩, ⟨bk_ BK529.out⟩, ⟨by repeat (first | (with_reducible first | exact HI0.out | apply IsS94.alloc | apply IsS94.drewN | apply IsS94.drew | apply IsS94.set_1 | apply IsS94.set_2 | refine IsS94.far ?_ NB0_501.out _ | refine IsS94.far ?_ NB0_508.out _ | refine IsS94.far ?_ NB0_514.out _ | refine IsS94.far ?_ NB0_529.out _) | exact HI0.out)⟩, ⟨by repeat (first | (with_reducible first | exact HK.out | apply KeepBut.set_ | apply keep_drewN | apply keep_drew | apply keep_alloc | refine keep_far ?_ GW501.out _ | refine keep_far ?_ GW508.out _ | refine keep_far ?_ GW514.out _ | refine keep_far ?_ GW529.out _) | exact HK.out)⟩, ⟨by repeat (first | (with_reducible first | exact HB.out | apply below_alloc | apply pw_below_drewN | apply below_drew1 | refine below_set ?_ (IsS94.ge HI0.out) | refine below_set ?_ GE501.out | refine below_set ?_ GE508.out | refine below_set ?_ GE514.out | refine below_set ?_ GE529.out) | exact HB.out)⟩⟩
          ·replace c55 := Bool.eq_false_iff.mpr c55
           subst c55
           have H1 : (spec_l29Timed.l0 kj44 t515 (wrap64 (x7_3 + 1)) s0_0 x1001_3 x1002_3 x515000_24 x515001_24 x515002_24 x515000_24 x515001_24 x515002_24 (wrap64 (1 + t526)) x530004_3) = some (r1, r2, r3, r4, r5, r6, r7) := by rw [if_neg (show ¬ (false = true) by decide)] at H; exact H
           clear H
           have H := H1
           clear H1
           have H' := Aside0.mk H
           clear H
           have hnb80 := NB514_501.out
           have hnc80 := NB501_514.out
           have hnb81 := NB514_508.out
           have hnc81 := NB508_514.out
           have hnb82 := NB514_529.out
           have hnc82 := NB529_514.out
           have hnb83 := NB514_0.out
           have hnc83 := NB0_514.out
           obtain ⟨hcz84_0, hcz84_1, hcz84_2⟩ := cz3_ BK514.out
           obtain ⟨hfz84_0, hfz84_1, hfz84_2⟩ := fz3_ BK514.out
           go_wp2_with (first | (refine gl_ 53 Try.func32 #[.int .i64 x515002_24, .int .i64 x7_3] ?_; (with_reducible refine (spec_l03Bit.calls x515002_24 x7_3 false _ A54.out).mono ?_); rintro e w' ⟨rfl, ⟨nd, rfl⟩⟩; refine ⟨_, rfl, ?_⟩))
           (try simp only [← hji58])
           go_roundg kj44
           case measure => have := HJ5.out; have := HJ24.out; have := HK3.out; have := HJ44.out; omega
           case rel => (try subst hji58); exact ⟨(wrap64 (x7_3 + 1)), (x1001_3), (x1002_3), (x530004_3), (u530004), (by first | rfl | (simp; done) | (simp [*]; done)), H', ⟨by have := HJ5.out; have := HJ24.out; have := HK3.out; have := HJ44.out; omega⟩, ⟨kr_ HO_530004.out⟩, ⟨bk_ BK501.out⟩, ⟨bk_ BK508.out⟩, ⟨bk_ BK514.out⟩, ⟨bk_ BK529.out⟩, ⟨by repeat (first | (with_reducible first | exact HI0.out | apply IsS94.alloc | apply IsS94.drewN | apply IsS94.drew | apply IsS94.set_1 | apply IsS94.set_2 | refine IsS94.far ?_ NB0_501.out _ | refine IsS94.far ?_ NB0_508.out _ | refine IsS94.far ?_ NB0_514.out _ | refine IsS94.far ?_ NB0_529.out _) | exact HI0.out)⟩, ⟨by repeat (first | (with_reducible first | exact HK.out | apply KeepBut.set_ | apply keep_drewN | apply keep_drew | apply keep_alloc | refine keep_far ?_ GW501.out _ | refine keep_far ?_ GW508.out _ | refine keep_far ?_ GW514.out _ | refine keep_far ?_ GW529.out _) | exact HK.out)⟩, ⟨by repeat (first | (with_reducible first | exact HB.out | apply below_alloc | apply pw_below_drewN | apply below_drew1 | refine below_set ?_ (IsS94.ge HI0.out) | refine below_set ?_ GE501.out | refine below_set ?_ GE508.out | refine below_set ?_ GE514.out | refine below_set ?_ GE529.out) | exact HB.out)⟩⟩
         ·replace c53 := Bool.eq_false_iff.mpr c53
          subst c53
          have H1 : (some (x515000_24, x515001_24, x515002_24, (wrap64 (1 + t526)), x530004_3, x1001_3, x1002_3)) = some (r1, r2, r3, r4, r5, r6, r7) := by rw [if_neg (show ¬ (false = true) by decide)] at H; exact H
          clear H
          have H := H1
          clear H1
          simp only [Option.some.injEq, Prod.mk.injEq] at H
          obtain ⟨rfl, rfl, rfl, rfl, rfl, rfl, rfl⟩ := H
          have hnb85 := NB529_501.out
          have hnc85 := NB501_529.out
          have hnb86 := NB529_508.out
          have hnc86 := NB508_529.out
          have hnb87 := NB529_514.out
          have hnc87 := NB514_529.out
          have hnb88 := NB529_0.out
          have hnc88 := NB0_529.out
          obtain ⟨hcz89_0, hcz89_1, hcz89_2, hcz89_3, hcz89_4⟩ := cz5_ BK529.out
          obtain ⟨hfz89_0, hfz89_1, hfz89_2, hfz89_3, hfz89_4⟩ := fz5_ BK529.out
          have hnb90 := NB501_508.out
          have hnc90 := NB508_501.out
          have hnb91 := NB501_514.out
          have hnc91 := NB514_501.out
          have hnb92 := NB501_0.out
          have hnc92 := NB0_501.out
          obtain ⟨hcz93_0, hcz93_1, hcz93_2, hcz93_3, hcz93_4⟩ := cz5_ BK501.out
          obtain ⟨hfz93_0, hfz93_1, hfz93_2, hfz93_3, hfz93_4⟩ := fz5_ BK501.out
          obtain ⟨Ao94, co94, eo94⟩ := Kd.R_slice HO_530004.out
          subst eo94
          go_wp2
          refine bodyPost_ret (results_cell_row rfl _ _ gb501 36 #[.int .i64 x515000_24, .int .i64 x515001_24, .int .i64 x515002_24, .int .i64 (wrap64 (1 + t526)), .slice Ao94 x530004_3.length co94] (0, 0) _ rfl (bq5_ BK501.out) Try.underlying36 rfl (by kernel_rfl)) rfl ?_
          exact ⟨_, ex_, by (with_reducible repeat (first | apply Kd.R_alloc | apply Kd.R_drewN | apply Kd.R_drew)); exact Kd.R_mono (Kd.R_far (p := ⟨gb501, 4, none⟩) (Kd.R_far (p := ⟨gb501, 3, none⟩) (Kd.R_far (p := ⟨gb501, 2, none⟩) (Kd.R_far (p := ⟨gb501, 1, none⟩) (Kd.R_far (p := ⟨gb501, 0, none⟩) (Kd.R_types HO_530004.out BK501.out (by decide)) (fun _ hk => hk.2) (.int .i64 x515000_24)) (fun _ hk => hk.2) (.int .i64 x515001_24)) (fun _ hk => hk.2) (.int .i64 x515002_24)) (fun _ hk => hk.2) (.int .i64 (wrap64 (1 + t526)))) (fun _ hk => hk.2) (.slice Ao94 x530004_3.length co94)) (fun _ hk => trivial), by repeat (first | (with_reducible first | exact HI0.out | apply IsS94.alloc | apply IsS94.drewN | apply IsS94.drew | apply IsS94.set_1 | apply IsS94.set_2 | refine IsS94.far ?_ NB0_501.out _ | refine IsS94.far ?_ NB0_508.out _ | refine IsS94.far ?_ NB0_514.out _ | refine IsS94.far ?_ NB0_529.out _) | exact HI0.out), by repeat (first | (with_reducible first | exact HB.out | apply below_alloc | apply pw_below_drewN | apply below_drew1 | refine below_set ?_ (IsS94.ge HI0.out) | refine below_set ?_ GE501.out | refine below_set ?_ GE508.out | refine below_set ?_ GE514.out | refine below_set ?_ GE529.out) | exact HB.out), by repeat (first | (with_reducible first | exact HK.out | apply KeepBut.set_ | apply keep_drewN | apply keep_drew | apply keep_alloc | refine keep_far ?_ GW501.out _ | refine keep_far ?_ GW508.out _ | refine keep_far ?_ GW514.out _ | refine keep_far ?_ GW529.out _) | exact HK.out)⟩

end Go.Proofs.Ytlfomjhjeknnmaa.X
