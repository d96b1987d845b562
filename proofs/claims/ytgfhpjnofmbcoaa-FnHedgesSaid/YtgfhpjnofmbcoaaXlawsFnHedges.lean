-- Written by a program of this session (xprint.py), out of the translation and of hand-written contracts. Lean checks it.
import Derived.Test.YtgfhpjnofmbcoaaX0
import Derived.Test.YtgfhpjnofmbcoaaXchedge
import Derived.Test.YtgfhpjnofmbcoaaXcmaze
import Derived.Test.YtgfhpjnofmbcoaaXcsmall
import Derived.Test.YtgfhpjnofmbcoaaXcsreach
import Derived.Test.YtgfhpjnofmbcoaaXimplCutHedge
import Derived.Test.YtgfhpjnofmbcoaaXimplDaysOpen
import Derived.Test.YtgfhpjnofmbcoaaXimplNextToCut
import Derived.Test.YtgfhpjnofmbcoaaXimplOpenNow
import Derived.Test.YtgfhpjnofmbcoaaXspecCountPassages
import Derived.Test.YtgfhpjnofmbcoaaXspecDrawHedge
namespace Go.Proofs.Ytgfhpjnofmbcoaa.X
open Go.RowKit Go.Proofs.YtgfhpjnofmbcoaaW.PrintWords Go.Proofs.YtgfhpjnofmbcoaaW.PrintLast Go.Proofs.YtgfhpjnofmbcoaaW.PrintMore
attribute [local go_sem] max2_int min2_int max_two min_two max_three min_three max_four min_four   -- for this text's walks alone
set_option linter.unusedVariables false
set_option linter.unusedSimpArgs false

/-! ### laws_FnHedges: function 3 -/
def laws_FnHedges.j0 : Nat → Int → Int → Bool → Int → Int → Int → List Int → Int → Int → Int → Int → List Int → Int → Int → Int → Int → Option (Bool)
 | 0, _, _, _, _, _, _, _, _, _, _, _, _, _, _, _, _ => none
 | k + 1, x5, x13, x95, x510000, x510001, x510002, x510003, x510004, x530000, x530001, x530002, x530003, x530004, x543000, x543001, x543002 => if x95 = true then (some false) else ((impl_DaysOpen.f k x510000 x510001 x510002 x510003 x510004 (wrap64 (1 + x5))).bind fun t549 => (if x13 < 0 then (some (decide (t549 ≥ 0))) else ((impl_CutHedge.f x530000 x530001 x530002 x530003 x530004 x13).bind fun bt550 => (if bt550.2.2.2.2.2 = true then ((impl_OpenNow.f k bt550.1 bt550.2.1 bt550.2.2.1 bt550.2.2.2.1 bt550.2.2.2.2.1).bind fun bt559 => ((impl_IsPassage.f bt559.1 bt559.2.1 bt559.2.2 x13).bind fun t562 => (if t562 = true then (if t549 ≥ 0 then (if t549 ≤ 20 then (if t549 = 0 then (some true) else ((spec_IsConnected.f k x543000 x543001 x543002).bind fun t563 => (some t563))) else (some false)) else (some false)) else (some false)))) else (some false)))))
def laws_FnHedges.f (k : Nat) (l0 : List Int) : Option (Bool) := (laws_big.f l0).bind fun t501 => (if t501 = true then (some true) else ((spec_DrawHedge.f k l0).bind fun bt502 => ((laws_at.f l0 0).bind fun t510 => ((laws_at.f l0 1).bind fun t511 => ((impl_GrowHedge.f k bt502.1 bt502.2.1 bt502.2.2.1 bt502.2.2.2.1 bt502.2.2.2.2 (Int.tmod t510 11)).bind fun bt512 => ((impl_GrowHedge.f k bt512.1 bt512.2.1 bt512.2.2.1 bt512.2.2.2.1 bt512.2.2.2.2.1 (Int.tmod t511 10)).bind fun bt521 => ((impl_GrowHedge.f k bt502.1 bt502.2.1 bt502.2.2.1 bt502.2.2.2.1 bt502.2.2.2.2 (wrap64 ((Int.tmod t510 11) + (Int.tmod t511 10)))).bind fun bt530 => ((impl_OpenNow.f k bt502.1 bt502.2.1 bt502.2.2.1 bt502.2.2.2.1 bt502.2.2.2.2).bind fun bt539 => ((impl_NextToCut.f k bt502.1 bt502.2.1 bt502.2.2.1 bt502.2.2.2.1 bt502.2.2.2.2).bind fun t543 => (if bt512.2.2.2.2.2 = true then (if bt521.2.2.2.2.2 = true then (if bt530.2.2.2.2.2 = true then ((laws_sameInts.f k bt521.2.2.2.1 bt530.2.2.2.1).bind fun t544 => (if t544 = true then (if (Go.bits .andNot .i64 bt539.2.2 bt502.2.2.1) = 0 then ((impl_OpenNow.f k bt521.1 bt521.2.1 bt521.2.2.1 bt521.2.2.2.1 bt521.2.2.2.2.1).bind fun bt545 => (if (Go.bits .andNot .i64 bt545.2.2 bt539.2.2) = 0 then ((spec_CountPassages.f k bt502.1 bt502.2.1 bt502.2.2.1).bind fun t548 => (laws_FnHedges.j0 k (Int.tmod t511 10) t543 ((decide (t543 < 0)) != (t548 == 0)) bt502.1 bt502.2.1 bt502.2.2.1 bt502.2.2.2.1 bt502.2.2.2.2 bt521.1 bt521.2.1 bt521.2.2.1 bt521.2.2.2.1 bt521.2.2.2.2.1 bt539.1 bt539.2.1 bt539.2.2)) else (laws_FnHedges.j0 k (Int.tmod t511 10) t543 true bt502.1 bt502.2.1 bt502.2.2.1 bt502.2.2.2.1 bt502.2.2.2.2 bt521.1 bt521.2.1 bt521.2.2.1 bt521.2.2.2.1 bt521.2.2.2.2.1 bt539.1 bt539.2.1 bt539.2.2))) else (laws_FnHedges.j0 k (Int.tmod t511 10) t543 true bt502.1 bt502.2.1 bt502.2.2.1 bt502.2.2.2.1 bt502.2.2.2.2 bt521.1 bt521.2.1 bt521.2.2.1 bt521.2.2.2.1 bt521.2.2.2.2.1 bt539.1 bt539.2.1 bt539.2.2)) else (laws_FnHedges.j0 k (Int.tmod t511 10) t543 true bt502.1 bt502.2.1 bt502.2.2.1 bt502.2.2.2.1 bt502.2.2.2.2 bt521.1 bt521.2.1 bt521.2.2.1 bt521.2.2.2.1 bt521.2.2.2.2.1 bt539.1 bt539.2.1 bt539.2.2))) else (laws_FnHedges.j0 k (Int.tmod t511 10) t543 true bt502.1 bt502.2.1 bt502.2.2.1 bt502.2.2.2.1 bt502.2.2.2.2 bt521.1 bt521.2.1 bt521.2.2.1 bt521.2.2.2.1 bt521.2.2.2.2.1 bt539.1 bt539.2.1 bt539.2.2)) else (laws_FnHedges.j0 k (Int.tmod t511 10) t543 true bt502.1 bt502.2.1 bt502.2.2.1 bt502.2.2.2.1 bt502.2.2.2.2 bt521.1 bt521.2.1 bt521.2.2.1 bt521.2.2.2.1 bt521.2.2.2.2.1 bt539.1 bt539.2.1 bt539.2.2)) else (laws_FnHedges.j0 k (Int.tmod t511 10) t543 true bt502.1 bt502.2.1 bt502.2.2.1 bt502.2.2.2.1 bt502.2.2.2.2 bt521.1 bt521.2.1 bt521.2.2.1 bt521.2.2.2.1 bt521.2.2.2.2.1 bt539.1 bt539.2.1 bt539.2.2)))))))))))
theorem laws_FnHedges.mono_l : ∀ k, (∀ y0 y1 y2 y3 y4 y5 y6 y7 y8 y9 y10 y11 y12 y13 y14 y15, LeO (laws_FnHedges.j0 k y0 y1 y2 y3 y4 y5 y6 y7 y8 y9 y10 y11 y12 y13 y14 y15) (laws_FnHedges.j0 (k + 1) y0 y1 y2 y3 y4 y5 y6 y7 y8 y9 y10 y11 y12 y13 y14 y15))
 | 0 => fun _ _ _ _ _ _ _ _ _ _ _ _ _ _ _ _ r h => by simp [laws_FnHedges.j0] at h
 | k + 1 => by
  have ih0 := laws_FnHedges.mono_l k
  ·intro y0 y1 y2 y3 y4 y5 y6 y7 y8 y9 y10 y11 y12 y13 y14 y15
   unfold laws_FnHedges.j0
   repeat' first
   | (with_reducible exact ih0 ..)
   | (with_reducible exact impl_DaysOpen.mono ..)
   | (with_reducible exact impl_GrowHedge.mono ..)
   | (with_reducible exact impl_NextToCut.mono ..)
   | (with_reducible exact impl_OpenNow.mono ..)
   | (with_reducible exact laws_sameInts.mono ..)
   | (with_reducible exact spec_CountPassages.mono ..)
   | (with_reducible exact spec_DrawHedge.mono ..)
   | (with_reducible exact spec_IsConnected.mono ..)
   | (with_reducible first | exact LeO.refl _ | exact LeO.none _ | refine LeO.ite ?_ ?_ | refine LeO.bind ?_ (fun _ => ?_))
   | exact ih0 ..
   | exact impl_DaysOpen.mono ..
   | exact impl_GrowHedge.mono ..
   | exact impl_NextToCut.mono ..
   | exact impl_OpenNow.mono ..
   | exact laws_sameInts.mono ..
   | exact spec_CountPassages.mono ..
   | exact spec_DrawHedge.mono ..
   | exact spec_IsConnected.mono ..
   | exact LeO.none _ | refine LeO.ite ?_ ?_ | refine LeO.bind ?_ (fun _ => ?_)
theorem laws_FnHedges.mono : ∀ a0 k, LeO (laws_FnHedges.f k a0) (laws_FnHedges.f (k + 1) a0) := by
 intro a0 k
 have ih0 := laws_FnHedges.mono_l k
 unfold laws_FnHedges.f
 repeat' first
   | (with_reducible exact ih0 ..)
   | (with_reducible exact impl_DaysOpen.mono ..)
   | (with_reducible exact impl_GrowHedge.mono ..)
   | (with_reducible exact impl_NextToCut.mono ..)
   | (with_reducible exact impl_OpenNow.mono ..)
   | (with_reducible exact laws_sameInts.mono ..)
   | (with_reducible exact spec_CountPassages.mono ..)
   | (with_reducible exact spec_DrawHedge.mono ..)
   | (with_reducible exact spec_IsConnected.mono ..)
   | (with_reducible first | exact LeO.refl _ | exact LeO.none _ | refine LeO.ite ?_ ?_ | refine LeO.bind ?_ (fun _ => ?_))
   | exact ih0 ..
   | exact impl_DaysOpen.mono ..
   | exact impl_GrowHedge.mono ..
   | exact impl_NextToCut.mono ..
   | exact impl_OpenNow.mono ..
   | exact laws_sameInts.mono ..
   | exact spec_CountPassages.mono ..
   | exact spec_DrawHedge.mono ..
   | exact spec_IsConnected.mono ..
   | exact LeO.none _ | refine LeO.ite ?_ ?_ | refine LeO.bind ?_ (fun _ => ?_)
def laws_FnHedges.T11 : Bool × List (List Nat × List Nat) := (true, [([], []), ([0], [0]), ([1], [1]), ([2], [2]), ([3, 2], [2, 3]), ([2, 4], [2, 4]), ([5, 2], [5]), ([6], [6]), ([7, 6], [6, 7]), ([6, 8], [6, 8]), ([9, 6], [9]), ([10], [10]), ([11, 10], [10, 11]), ([10], [10]), ([13, 10], [10, 13]), ([12, 14, 10, 10], [10, 12, 14]), ([15, 10], [10, 15]), ([10, 16], [10, 16]), ([17, 15], [17]), ([18], [18]), ([19, 18], [18, 19]), ([18], [18]), ([21, 18], [18, 21]), ([22, 18], [18, 22]), ([20, 23, 18], [18, 20, 23]), ([24, 18], [18, 24]), ([18, 25], [18, 25]), ([26, 18], [26]), ([27], [27]), ([28, 27, 27], [27, 28]), ([29, 27], [27, 29]), ([27], [27]), ([31, 27], [27, 31]), ([30, 32, 27], [27, 30, 32]), ([33, 27], [27, 33]), ([27, 34], [27, 34]), ([35, 29], [35]), ([36], [36]), ([37, 36], [36, 37]), ([36], [36]), ([39, 36], [36, 39]), ([40, 36, 36], [36, 40]), ([41, 36], [36, 41]), ([38, 42, 36], [36, 38, 42]), ([36, 43], [36, 43])])
def laws_FnHedges.B11 : List Nat := [0, 1, 3, 7, 15, 31, 63, 127, 255, 511, 1023, 2047, 4095, 2047, 10239, 32767, 65535, 131071, 262143, 524287, 1048575, 524287, 2621439, 6815743, 16777215, 33554431, 67108863, 134217727, 268435455, 536870911, 1073741823, 268435455, 2415919103, 8589934591, 17179869183, 34359738367, 68719476735, 137438953471, 274877906943, 137438953471, 687194767359, 1786706395135, 3985729650687, 8796093022207, 17592186044415]
theorem laws_FnHedges.tab11 : rtab .any (opsOf Try.f3 11) = laws_FnHedges.T11 := by kernel_rfl
theorem laws_FnHedges.bits11 : waitsOk laws_FnHedges.T11.2 laws_FnHedges.B11 = true := by kernel_rfl
set_option maxHeartbeats 40000000 in
set_option maxRecDepth 100000 in
theorem laws_FnHedges.calls (k : Nat) (A0 : Option Addr) (c0 : Nat) (l0 : List Int) (r : Bool) (w : World) (hr0 : Kd.C (Kd.int .u8) w A0 l0.length l0) (hc0 : l0.length ≤ c0) (h : laws_FnHedges.f k l0 = some r) :
  Calls Try.prog 3 #[.slice A0 l0.length c0] w fun e w' => e = .returned (.bool r) ∧ Below w.heap.size w w' := by
 have hu30 := Try.underlying30
 have hu27 := Try.underlying27
 have hfld : ∀ (x y z : Int) (w_ : World), (Instr.field 27 (.agg #[.int .i64 x, .int .i64 y, .int .i64 z]) 1).run Try.prog w_ = .ok (.int .i64 z) w_ := fun _ _ _ _ => by kernel_rfl
 have HR0 := Aside0.mk hr0
 have HC0 := Aside0.mk hc0
 clear hr0 hc0
 have HB := Aside0.mk (Below.refl w.heap.size w)
 have H : ((laws_big.f l0).bind fun t501 => (if t501 = true then (some true) else ((spec_DrawHedge.f k l0).bind fun bt502 => ((laws_at.f l0 0).bind fun t510 => ((laws_at.f l0 1).bind fun t511 => ((impl_GrowHedge.f k bt502.1 bt502.2.1 bt502.2.2.1 bt502.2.2.2.1 bt502.2.2.2.2 (Int.tmod t510 11)).bind fun bt512 => ((impl_GrowHedge.f k bt512.1 bt512.2.1 bt512.2.2.1 bt512.2.2.2.1 bt512.2.2.2.2.1 (Int.tmod t511 10)).bind fun bt521 => ((impl_GrowHedge.f k bt502.1 bt502.2.1 bt502.2.2.1 bt502.2.2.2.1 bt502.2.2.2.2 (wrap64 ((Int.tmod t510 11) + (Int.tmod t511 10)))).bind fun bt530 => ((impl_OpenNow.f k bt502.1 bt502.2.1 bt502.2.2.1 bt502.2.2.2.1 bt502.2.2.2.2).bind fun bt539 => ((impl_NextToCut.f k bt502.1 bt502.2.1 bt502.2.2.1 bt502.2.2.2.1 bt502.2.2.2.2).bind fun t543 => (if bt512.2.2.2.2.2 = true then (if bt521.2.2.2.2.2 = true then (if bt530.2.2.2.2.2 = true then ((laws_sameInts.f k bt521.2.2.2.1 bt530.2.2.2.1).bind fun t544 => (if t544 = true then (if (Go.bits .andNot .i64 bt539.2.2 bt502.2.2.1) = 0 then ((impl_OpenNow.f k bt521.1 bt521.2.1 bt521.2.2.1 bt521.2.2.2.1 bt521.2.2.2.2.1).bind fun bt545 => (if (Go.bits .andNot .i64 bt545.2.2 bt539.2.2) = 0 then ((spec_CountPassages.f k bt502.1 bt502.2.1 bt502.2.2.1).bind fun t548 => (laws_FnHedges.j0 k (Int.tmod t511 10) t543 ((decide (t543 < 0)) != (t548 == 0)) bt502.1 bt502.2.1 bt502.2.2.1 bt502.2.2.2.1 bt502.2.2.2.2 bt521.1 bt521.2.1 bt521.2.2.1 bt521.2.2.2.1 bt521.2.2.2.2.1 bt539.1 bt539.2.1 bt539.2.2)) else (laws_FnHedges.j0 k (Int.tmod t511 10) t543 true bt502.1 bt502.2.1 bt502.2.2.1 bt502.2.2.2.1 bt502.2.2.2.2 bt521.1 bt521.2.1 bt521.2.2.1 bt521.2.2.2.1 bt521.2.2.2.2.1 bt539.1 bt539.2.1 bt539.2.2))) else (laws_FnHedges.j0 k (Int.tmod t511 10) t543 true bt502.1 bt502.2.1 bt502.2.2.1 bt502.2.2.2.1 bt502.2.2.2.2 bt521.1 bt521.2.1 bt521.2.2.1 bt521.2.2.2.1 bt521.2.2.2.2.1 bt539.1 bt539.2.1 bt539.2.2)) else (laws_FnHedges.j0 k (Int.tmod t511 10) t543 true bt502.1 bt502.2.1 bt502.2.2.1 bt502.2.2.2.1 bt502.2.2.2.2 bt521.1 bt521.2.1 bt521.2.2.1 bt521.2.2.2.1 bt521.2.2.2.2.1 bt539.1 bt539.2.1 bt539.2.2))) else (laws_FnHedges.j0 k (Int.tmod t511 10) t543 true bt502.1 bt502.2.1 bt502.2.2.1 bt502.2.2.2.1 bt502.2.2.2.2 bt521.1 bt521.2.1 bt521.2.2.1 bt521.2.2.2.1 bt521.2.2.2.2.1 bt539.1 bt539.2.1 bt539.2.2)) else (laws_FnHedges.j0 k (Int.tmod t511 10) t543 true bt502.1 bt502.2.1 bt502.2.2.1 bt502.2.2.2.1 bt502.2.2.2.2 bt521.1 bt521.2.1 bt521.2.2.1 bt521.2.2.2.1 bt521.2.2.2.2.1 bt539.1 bt539.2.1 bt539.2.2)) else (laws_FnHedges.j0 k (Int.tmod t511 10) t543 true bt502.1 bt502.2.1 bt502.2.2.1 bt502.2.2.2.1 bt502.2.2.2.2 bt521.1 bt521.2.1 bt521.2.2.1 bt521.2.2.2.1 bt521.2.2.2.2.1 bt539.1 bt539.2.1 bt539.2.2)))))))))))) = some r := h
 clear h
 replace H := Option.bind_eq_some_iff.mp H
 obtain ⟨t501, A20, H⟩ := H
 replace H : (if t501 = true then (some true) else ((spec_DrawHedge.f k l0).bind fun bt502 => ((laws_at.f l0 0).bind fun t510 => ((laws_at.f l0 1).bind fun t511 => ((impl_GrowHedge.f k bt502.1 bt502.2.1 bt502.2.2.1 bt502.2.2.2.1 bt502.2.2.2.2 (Int.tmod t510 11)).bind fun bt512 => ((impl_GrowHedge.f k bt512.1 bt512.2.1 bt512.2.2.1 bt512.2.2.2.1 bt512.2.2.2.2.1 (Int.tmod t511 10)).bind fun bt521 => ((impl_GrowHedge.f k bt502.1 bt502.2.1 bt502.2.2.1 bt502.2.2.2.1 bt502.2.2.2.2 (wrap64 ((Int.tmod t510 11) + (Int.tmod t511 10)))).bind fun bt530 => ((impl_OpenNow.f k bt502.1 bt502.2.1 bt502.2.2.1 bt502.2.2.2.1 bt502.2.2.2.2).bind fun bt539 => ((impl_NextToCut.f k bt502.1 bt502.2.1 bt502.2.2.1 bt502.2.2.2.1 bt502.2.2.2.2).bind fun t543 => (if bt512.2.2.2.2.2 = true then (if bt521.2.2.2.2.2 = true then (if bt530.2.2.2.2.2 = true then ((laws_sameInts.f k bt521.2.2.2.1 bt530.2.2.2.1).bind fun t544 => (if t544 = true then (if (Go.bits .andNot .i64 bt539.2.2 bt502.2.2.1) = 0 then ((impl_OpenNow.f k bt521.1 bt521.2.1 bt521.2.2.1 bt521.2.2.2.1 bt521.2.2.2.2.1).bind fun bt545 => (if (Go.bits .andNot .i64 bt545.2.2 bt539.2.2) = 0 then ((spec_CountPassages.f k bt502.1 bt502.2.1 bt502.2.2.1).bind fun t548 => (laws_FnHedges.j0 k (Int.tmod t511 10) t543 ((decide (t543 < 0)) != (t548 == 0)) bt502.1 bt502.2.1 bt502.2.2.1 bt502.2.2.2.1 bt502.2.2.2.2 bt521.1 bt521.2.1 bt521.2.2.1 bt521.2.2.2.1 bt521.2.2.2.2.1 bt539.1 bt539.2.1 bt539.2.2)) else (laws_FnHedges.j0 k (Int.tmod t511 10) t543 true bt502.1 bt502.2.1 bt502.2.2.1 bt502.2.2.2.1 bt502.2.2.2.2 bt521.1 bt521.2.1 bt521.2.2.1 bt521.2.2.2.1 bt521.2.2.2.2.1 bt539.1 bt539.2.1 bt539.2.2))) else (laws_FnHedges.j0 k (Int.tmod t511 10) t543 true bt502.1 bt502.2.1 bt502.2.2.1 bt502.2.2.2.1 bt502.2.2.2.2 bt521.1 bt521.2.1 bt521.2.2.1 bt521.2.2.2.1 bt521.2.2.2.2.1 bt539.1 bt539.2.1 bt539.2.2)) else (laws_FnHedges.j0 k (Int.tmod t511 10) t543 true bt502.1 bt502.2.1 bt502.2.2.1 bt502.2.2.2.1 bt502.2.2.2.2 bt521.1 bt521.2.1 bt521.2.2.1 bt521.2.2.2.1 bt521.2.2.2.2.1 bt539.1 bt539.2.1 bt539.2.2))) else (laws_FnHedges.j0 k (Int.tmod t511 10) t543 true bt502.1 bt502.2.1 bt502.2.2.1 bt502.2.2.2.1 bt502.2.2.2.2 bt521.1 bt521.2.1 bt521.2.2.1 bt521.2.2.2.1 bt521.2.2.2.2.1 bt539.1 bt539.2.1 bt539.2.2)) else (laws_FnHedges.j0 k (Int.tmod t511 10) t543 true bt502.1 bt502.2.1 bt502.2.2.1 bt502.2.2.2.1 bt502.2.2.2.2 bt521.1 bt521.2.1 bt521.2.2.1 bt521.2.2.2.1 bt521.2.2.2.2.1 bt539.1 bt539.2.1 bt539.2.2)) else (laws_FnHedges.j0 k (Int.tmod t511 10) t543 true bt502.1 bt502.2.1 bt502.2.2.1 bt502.2.2.2.1 bt502.2.2.2.2 bt521.1 bt521.2.1 bt521.2.2.1 bt521.2.2.2.1 bt521.2.2.2.2.1 bt539.1 bt539.2.1 bt539.2.2))))))))))) = some r := H
 have A2 := Aside0.mk A20
 clear A20
 by_cases c3 : t501 = true
 ·subst c3
  have H1 : (some true) = some r := by rw [if_pos rfl] at H; exact H
  clear H
  have H := H1
  clear H1
  obtain rfl := Option.some.inj H
  go_enter Try.func3, Try.ntmps3
  go_wp2_with ((with_reducible refine gw_ ?_); first | (refine gl_ 18 Try.func4 #[.slice A0 l0.length c0] ?_; (with_reducible refine (laws_big.calls _ _ l0 true _ ?side1 ?side2 A2.out).mono ?_); (case side1 => exact kc_ HR0.out); (case side2 => exact HC0.out); rintro e w' ⟨rfl, ⟨nd, rfl⟩⟩; refine ⟨_, rfl, ?_⟩))
  go_ret
  exact ⟨ex_, hb0_ HB.out⟩
 ·replace c3 := Bool.eq_false_iff.mpr c3
  subst c3
  have H1 : ((spec_DrawHedge.f k l0).bind fun bt502 => ((laws_at.f l0 0).bind fun t510 => ((laws_at.f l0 1).bind fun t511 => ((impl_GrowHedge.f k bt502.1 bt502.2.1 bt502.2.2.1 bt502.2.2.2.1 bt502.2.2.2.2 (Int.tmod t510 11)).bind fun bt512 => ((impl_GrowHedge.f k bt512.1 bt512.2.1 bt512.2.2.1 bt512.2.2.2.1 bt512.2.2.2.2.1 (Int.tmod t511 10)).bind fun bt521 => ((impl_GrowHedge.f k bt502.1 bt502.2.1 bt502.2.2.1 bt502.2.2.2.1 bt502.2.2.2.2 (wrap64 ((Int.tmod t510 11) + (Int.tmod t511 10)))).bind fun bt530 => ((impl_OpenNow.f k bt502.1 bt502.2.1 bt502.2.2.1 bt502.2.2.2.1 bt502.2.2.2.2).bind fun bt539 => ((impl_NextToCut.f k bt502.1 bt502.2.1 bt502.2.2.1 bt502.2.2.2.1 bt502.2.2.2.2).bind fun t543 => (if bt512.2.2.2.2.2 = true then (if bt521.2.2.2.2.2 = true then (if bt530.2.2.2.2.2 = true then ((laws_sameInts.f k bt521.2.2.2.1 bt530.2.2.2.1).bind fun t544 => (if t544 = true then (if (Go.bits .andNot .i64 bt539.2.2 bt502.2.2.1) = 0 then ((impl_OpenNow.f k bt521.1 bt521.2.1 bt521.2.2.1 bt521.2.2.2.1 bt521.2.2.2.2.1).bind fun bt545 => (if (Go.bits .andNot .i64 bt545.2.2 bt539.2.2) = 0 then ((spec_CountPassages.f k bt502.1 bt502.2.1 bt502.2.2.1).bind fun t548 => (laws_FnHedges.j0 k (Int.tmod t511 10) t543 ((decide (t543 < 0)) != (t548 == 0)) bt502.1 bt502.2.1 bt502.2.2.1 bt502.2.2.2.1 bt502.2.2.2.2 bt521.1 bt521.2.1 bt521.2.2.1 bt521.2.2.2.1 bt521.2.2.2.2.1 bt539.1 bt539.2.1 bt539.2.2)) else (laws_FnHedges.j0 k (Int.tmod t511 10) t543 true bt502.1 bt502.2.1 bt502.2.2.1 bt502.2.2.2.1 bt502.2.2.2.2 bt521.1 bt521.2.1 bt521.2.2.1 bt521.2.2.2.1 bt521.2.2.2.2.1 bt539.1 bt539.2.1 bt539.2.2))) else (laws_FnHedges.j0 k (Int.tmod t511 10) t543 true bt502.1 bt502.2.1 bt502.2.2.1 bt502.2.2.2.1 bt502.2.2.2.2 bt521.1 bt521.2.1 bt521.2.2.1 bt521.2.2.2.1 bt521.2.2.2.2.1 bt539.1 bt539.2.1 bt539.2.2)) else (laws_FnHedges.j0 k (Int.tmod t511 10) t543 true bt502.1 bt502.2.1 bt502.2.2.1 bt502.2.2.2.1 bt502.2.2.2.2 bt521.1 bt521.2.1 bt521.2.2.1 bt521.2.2.2.1 bt521.2.2.2.2.1 bt539.1 bt539.2.1 bt539.2.2))) else (laws_FnHedges.j0 k (Int.tmod t511 10) t543 true bt502.1 bt502.2.1 bt502.2.2.1 bt502.2.2.2.1 bt502.2.2.2.2 bt521.1 bt521.2.1 bt521.2.2.1 bt521.2.2.2.1 bt521.2.2.2.2.1 bt539.1 bt539.2.1 bt539.2.2)) else (laws_FnHedges.j0 k (Int.tmod t511 10) t543 true bt502.1 bt502.2.1 bt502.2.2.1 bt502.2.2.2.1 bt502.2.2.2.2 bt521.1 bt521.2.1 bt521.2.2.1 bt521.2.2.2.1 bt521.2.2.2.2.1 bt539.1 bt539.2.1 bt539.2.2)) else (laws_FnHedges.j0 k (Int.tmod t511 10) t543 true bt502.1 bt502.2.1 bt502.2.2.1 bt502.2.2.2.1 bt502.2.2.2.2 bt521.1 bt521.2.1 bt521.2.2.1 bt521.2.2.2.1 bt521.2.2.2.2.1 bt539.1 bt539.2.1 bt539.2.2)))))))))) = some r := by rw [if_neg (show ¬ (false = true) by decide)] at H; exact H
  clear H
  have H := H1
  clear H1
  replace H := Option.bind_eq_some_iff.mp H
  obtain ⟨⟨t502, t503, t504, t505, t508⟩, A40, H⟩ := H
  replace H : ((laws_at.f l0 0).bind fun t510 => ((laws_at.f l0 1).bind fun t511 => ((impl_GrowHedge.f k t502 t503 t504 t505 t508 (Int.tmod t510 11)).bind fun bt512 => ((impl_GrowHedge.f k bt512.1 bt512.2.1 bt512.2.2.1 bt512.2.2.2.1 bt512.2.2.2.2.1 (Int.tmod t511 10)).bind fun bt521 => ((impl_GrowHedge.f k t502 t503 t504 t505 t508 (wrap64 ((Int.tmod t510 11) + (Int.tmod t511 10)))).bind fun bt530 => ((impl_OpenNow.f k t502 t503 t504 t505 t508).bind fun bt539 => ((impl_NextToCut.f k t502 t503 t504 t505 t508).bind fun t543 => (if bt512.2.2.2.2.2 = true then (if bt521.2.2.2.2.2 = true then (if bt530.2.2.2.2.2 = true then ((laws_sameInts.f k bt521.2.2.2.1 bt530.2.2.2.1).bind fun t544 => (if t544 = true then (if (Go.bits .andNot .i64 bt539.2.2 t504) = 0 then ((impl_OpenNow.f k bt521.1 bt521.2.1 bt521.2.2.1 bt521.2.2.2.1 bt521.2.2.2.2.1).bind fun bt545 => (if (Go.bits .andNot .i64 bt545.2.2 bt539.2.2) = 0 then ((spec_CountPassages.f k t502 t503 t504).bind fun t548 => (laws_FnHedges.j0 k (Int.tmod t511 10) t543 ((decide (t543 < 0)) != (t548 == 0)) t502 t503 t504 t505 t508 bt521.1 bt521.2.1 bt521.2.2.1 bt521.2.2.2.1 bt521.2.2.2.2.1 bt539.1 bt539.2.1 bt539.2.2)) else (laws_FnHedges.j0 k (Int.tmod t511 10) t543 true t502 t503 t504 t505 t508 bt521.1 bt521.2.1 bt521.2.2.1 bt521.2.2.2.1 bt521.2.2.2.2.1 bt539.1 bt539.2.1 bt539.2.2))) else (laws_FnHedges.j0 k (Int.tmod t511 10) t543 true t502 t503 t504 t505 t508 bt521.1 bt521.2.1 bt521.2.2.1 bt521.2.2.2.1 bt521.2.2.2.2.1 bt539.1 bt539.2.1 bt539.2.2)) else (laws_FnHedges.j0 k (Int.tmod t511 10) t543 true t502 t503 t504 t505 t508 bt521.1 bt521.2.1 bt521.2.2.1 bt521.2.2.2.1 bt521.2.2.2.2.1 bt539.1 bt539.2.1 bt539.2.2))) else (laws_FnHedges.j0 k (Int.tmod t511 10) t543 true t502 t503 t504 t505 t508 bt521.1 bt521.2.1 bt521.2.2.1 bt521.2.2.2.1 bt521.2.2.2.2.1 bt539.1 bt539.2.1 bt539.2.2)) else (laws_FnHedges.j0 k (Int.tmod t511 10) t543 true t502 t503 t504 t505 t508 bt521.1 bt521.2.1 bt521.2.2.1 bt521.2.2.2.1 bt521.2.2.2.2.1 bt539.1 bt539.2.1 bt539.2.2)) else (laws_FnHedges.j0 k (Int.tmod t511 10) t543 true t502 t503 t504 t505 t508 bt521.1 bt521.2.1 bt521.2.2.1 bt521.2.2.2.1 bt521.2.2.2.2.1 bt539.1 bt539.2.1 bt539.2.2))))))))) = some r := H
  have A4 := Aside0.mk A40
  clear A40
  replace H := Option.bind_eq_some_iff.mp H
  obtain ⟨t510, A50, H⟩ := H
  replace H : ((laws_at.f l0 1).bind fun t511 => ((impl_GrowHedge.f k t502 t503 t504 t505 t508 (Int.tmod t510 11)).bind fun bt512 => ((impl_GrowHedge.f k bt512.1 bt512.2.1 bt512.2.2.1 bt512.2.2.2.1 bt512.2.2.2.2.1 (Int.tmod t511 10)).bind fun bt521 => ((impl_GrowHedge.f k t502 t503 t504 t505 t508 (wrap64 ((Int.tmod t510 11) + (Int.tmod t511 10)))).bind fun bt530 => ((impl_OpenNow.f k t502 t503 t504 t505 t508).bind fun bt539 => ((impl_NextToCut.f k t502 t503 t504 t505 t508).bind fun t543 => (if bt512.2.2.2.2.2 = true then (if bt521.2.2.2.2.2 = true then (if bt530.2.2.2.2.2 = true then ((laws_sameInts.f k bt521.2.2.2.1 bt530.2.2.2.1).bind fun t544 => (if t544 = true then (if (Go.bits .andNot .i64 bt539.2.2 t504) = 0 then ((impl_OpenNow.f k bt521.1 bt521.2.1 bt521.2.2.1 bt521.2.2.2.1 bt521.2.2.2.2.1).bind fun bt545 => (if (Go.bits .andNot .i64 bt545.2.2 bt539.2.2) = 0 then ((spec_CountPassages.f k t502 t503 t504).bind fun t548 => (laws_FnHedges.j0 k (Int.tmod t511 10) t543 ((decide (t543 < 0)) != (t548 == 0)) t502 t503 t504 t505 t508 bt521.1 bt521.2.1 bt521.2.2.1 bt521.2.2.2.1 bt521.2.2.2.2.1 bt539.1 bt539.2.1 bt539.2.2)) else (laws_FnHedges.j0 k (Int.tmod t511 10) t543 true t502 t503 t504 t505 t508 bt521.1 bt521.2.1 bt521.2.2.1 bt521.2.2.2.1 bt521.2.2.2.2.1 bt539.1 bt539.2.1 bt539.2.2))) else (laws_FnHedges.j0 k (Int.tmod t511 10) t543 true t502 t503 t504 t505 t508 bt521.1 bt521.2.1 bt521.2.2.1 bt521.2.2.2.1 bt521.2.2.2.2.1 bt539.1 bt539.2.1 bt539.2.2)) else (laws_FnHedges.j0 k (Int.tmod t511 10) t543 true t502 t503 t504 t505 t508 bt521.1 bt521.2.1 bt521.2.2.1 bt521.2.2.2.1 bt521.2.2.2.2.1 bt539.1 bt539.2.1 bt539.2.2))) else (laws_FnHedges.j0 k (Int.tmod t511 10) t543 true t502 t503 t504 t505 t508 bt521.1 bt521.2.1 bt521.2.2.1 bt521.2.2.2.1 bt521.2.2.2.2.1 bt539.1 bt539.2.1 bt539.2.2)) else (laws_FnHedges.j0 k (Int.tmod t511 10) t543 true t502 t503 t504 t505 t508 bt521.1 bt521.2.1 bt521.2.2.1 bt521.2.2.2.1 bt521.2.2.2.2.1 bt539.1 bt539.2.1 bt539.2.2)) else (laws_FnHedges.j0 k (Int.tmod t511 10) t543 true t502 t503 t504 t505 t508 bt521.1 bt521.2.1 bt521.2.2.1 bt521.2.2.2.1 bt521.2.2.2.2.1 bt539.1 bt539.2.1 bt539.2.2)))))))) = some r := H
  have A5 := Aside0.mk A50
  clear A50
  replace H := Option.bind_eq_some_iff.mp H
  obtain ⟨t511, A60, H⟩ := H
  replace H : ((impl_GrowHedge.f k t502 t503 t504 t505 t508 (Int.tmod t510 11)).bind fun bt512 => ((impl_GrowHedge.f k bt512.1 bt512.2.1 bt512.2.2.1 bt512.2.2.2.1 bt512.2.2.2.2.1 (Int.tmod t511 10)).bind fun bt521 => ((impl_GrowHedge.f k t502 t503 t504 t505 t508 (wrap64 ((Int.tmod t510 11) + (Int.tmod t511 10)))).bind fun bt530 => ((impl_OpenNow.f k t502 t503 t504 t505 t508).bind fun bt539 => ((impl_NextToCut.f k t502 t503 t504 t505 t508).bind fun t543 => (if bt512.2.2.2.2.2 = true then (if bt521.2.2.2.2.2 = true then (if bt530.2.2.2.2.2 = true then ((laws_sameInts.f k bt521.2.2.2.1 bt530.2.2.2.1).bind fun t544 => (if t544 = true then (if (Go.bits .andNot .i64 bt539.2.2 t504) = 0 then ((impl_OpenNow.f k bt521.1 bt521.2.1 bt521.2.2.1 bt521.2.2.2.1 bt521.2.2.2.2.1).bind fun bt545 => (if (Go.bits .andNot .i64 bt545.2.2 bt539.2.2) = 0 then ((spec_CountPassages.f k t502 t503 t504).bind fun t548 => (laws_FnHedges.j0 k (Int.tmod t511 10) t543 ((decide (t543 < 0)) != (t548 == 0)) t502 t503 t504 t505 t508 bt521.1 bt521.2.1 bt521.2.2.1 bt521.2.2.2.1 bt521.2.2.2.2.1 bt539.1 bt539.2.1 bt539.2.2)) else (laws_FnHedges.j0 k (Int.tmod t511 10) t543 true t502 t503 t504 t505 t508 bt521.1 bt521.2.1 bt521.2.2.1 bt521.2.2.2.1 bt521.2.2.2.2.1 bt539.1 bt539.2.1 bt539.2.2))) else (laws_FnHedges.j0 k (Int.tmod t511 10) t543 true t502 t503 t504 t505 t508 bt521.1 bt521.2.1 bt521.2.2.1 bt521.2.2.2.1 bt521.2.2.2.2.1 bt539.1 bt539.2.1 bt539.2.2)) else (laws_FnHedges.j0 k (Int.tmod t511 10) t543 true t502 t503 t504 t505 t508 bt521.1 bt521.2.1 bt521.2.2.1 bt521.2.2.2.1 bt521.2.2.2.2.1 bt539.1 bt539.2.1 bt539.2.2))) else (laws_FnHedges.j0 k (Int.tmod t511 10) t543 true t502 t503 t504 t505 t508 bt521.1 bt521.2.1 bt521.2.2.1 bt521.2.2.2.1 bt521.2.2.2.2.1 bt539.1 bt539.2.1 bt539.2.2)) else (laws_FnHedges.j0 k (Int.tmod t511 10) t543 true t502 t503 t504 t505 t508 bt521.1 bt521.2.1 bt521.2.2.1 bt521.2.2.2.1 bt521.2.2.2.2.1 bt539.1 bt539.2.1 bt539.2.2)) else (laws_FnHedges.j0 k (Int.tmod t511 10) t543 true t502 t503 t504 t505 t508 bt521.1 bt521.2.1 bt521.2.2.1 bt521.2.2.2.1 bt521.2.2.2.2.1 bt539.1 bt539.2.1 bt539.2.2))))))) = some r := H
  have A6 := Aside0.mk A60
  clear A60
  replace H := Option.bind_eq_some_iff.mp H
  obtain ⟨⟨t512, t513, t514, t515, t518, t519⟩, A70, H⟩ := H
  replace H : ((impl_GrowHedge.f k t512 t513 t514 t515 t518 (Int.tmod t511 10)).bind fun bt521 => ((impl_GrowHedge.f k t502 t503 t504 t505 t508 (wrap64 ((Int.tmod t510 11) + (Int.tmod t511 10)))).bind fun bt530 => ((impl_OpenNow.f k t502 t503 t504 t505 t508).bind fun bt539 => ((impl_NextToCut.f k t502 t503 t504 t505 t508).bind fun t543 => (if t519 = true then (if bt521.2.2.2.2.2 = true then (if bt530.2.2.2.2.2 = true then ((laws_sameInts.f k bt521.2.2.2.1 bt530.2.2.2.1).bind fun t544 => (if t544 = true then (if (Go.bits .andNot .i64 bt539.2.2 t504) = 0 then ((impl_OpenNow.f k bt521.1 bt521.2.1 bt521.2.2.1 bt521.2.2.2.1 bt521.2.2.2.2.1).bind fun bt545 => (if (Go.bits .andNot .i64 bt545.2.2 bt539.2.2) = 0 then ((spec_CountPassages.f k t502 t503 t504).bind fun t548 => (laws_FnHedges.j0 k (Int.tmod t511 10) t543 ((decide (t543 < 0)) != (t548 == 0)) t502 t503 t504 t505 t508 bt521.1 bt521.2.1 bt521.2.2.1 bt521.2.2.2.1 bt521.2.2.2.2.1 bt539.1 bt539.2.1 bt539.2.2)) else (laws_FnHedges.j0 k (Int.tmod t511 10) t543 true t502 t503 t504 t505 t508 bt521.1 bt521.2.1 bt521.2.2.1 bt521.2.2.2.1 bt521.2.2.2.2.1 bt539.1 bt539.2.1 bt539.2.2))) else (laws_FnHedges.j0 k (Int.tmod t511 10) t543 true t502 t503 t504 t505 t508 bt521.1 bt521.2.1 bt521.2.2.1 bt521.2.2.2.1 bt521.2.2.2.2.1 bt539.1 bt539.2.1 bt539.2.2)) else (laws_FnHedges.j0 k (Int.tmod t511 10) t543 true t502 t503 t504 t505 t508 bt521.1 bt521.2.1 bt521.2.2.1 bt521.2.2.2.1 bt521.2.2.2.2.1 bt539.1 bt539.2.1 bt539.2.2))) else (laws_FnHedges.j0 k (Int.tmod t511 10) t543 true t502 t503 t504 t505 t508 bt521.1 bt521.2.1 bt521.2.2.1 bt521.2.2.2.1 bt521.2.2.2.2.1 bt539.1 bt539.2.1 bt539.2.2)) else (laws_FnHedges.j0 k (Int.tmod t511 10) t543 true t502 t503 t504 t505 t508 bt521.1 bt521.2.1 bt521.2.2.1 bt521.2.2.2.1 bt521.2.2.2.2.1 bt539.1 bt539.2.1 bt539.2.2)) else (laws_FnHedges.j0 k (Int.tmod t511 10) t543 true t502 t503 t504 t505 t508 bt521.1 bt521.2.1 bt521.2.2.1 bt521.2.2.2.1 bt521.2.2.2.2.1 bt539.1 bt539.2.1 bt539.2.2)))))) = some r := H
  have A7 := Aside0.mk A70
  clear A70
  replace H := Option.bind_eq_some_iff.mp H
  obtain ⟨⟨t521, t522, t523, t524, t527, t528⟩, A80, H⟩ := H
  replace H : ((impl_GrowHedge.f k t502 t503 t504 t505 t508 (wrap64 ((Int.tmod t510 11) + (Int.tmod t511 10)))).bind fun bt530 => ((impl_OpenNow.f k t502 t503 t504 t505 t508).bind fun bt539 => ((impl_NextToCut.f k t502 t503 t504 t505 t508).bind fun t543 => (if t519 = true then (if t528 = true then (if bt530.2.2.2.2.2 = true then ((laws_sameInts.f k t524 bt530.2.2.2.1).bind fun t544 => (if t544 = true then (if (Go.bits .andNot .i64 bt539.2.2 t504) = 0 then ((impl_OpenNow.f k t521 t522 t523 t524 t527).bind fun bt545 => (if (Go.bits .andNot .i64 bt545.2.2 bt539.2.2) = 0 then ((spec_CountPassages.f k t502 t503 t504).bind fun t548 => (laws_FnHedges.j0 k (Int.tmod t511 10) t543 ((decide (t543 < 0)) != (t548 == 0)) t502 t503 t504 t505 t508 t521 t522 t523 t524 t527 bt539.1 bt539.2.1 bt539.2.2)) else (laws_FnHedges.j0 k (Int.tmod t511 10) t543 true t502 t503 t504 t505 t508 t521 t522 t523 t524 t527 bt539.1 bt539.2.1 bt539.2.2))) else (laws_FnHedges.j0 k (Int.tmod t511 10) t543 true t502 t503 t504 t505 t508 t521 t522 t523 t524 t527 bt539.1 bt539.2.1 bt539.2.2)) else (laws_FnHedges.j0 k (Int.tmod t511 10) t543 true t502 t503 t504 t505 t508 t521 t522 t523 t524 t527 bt539.1 bt539.2.1 bt539.2.2))) else (laws_FnHedges.j0 k (Int.tmod t511 10) t543 true t502 t503 t504 t505 t508 t521 t522 t523 t524 t527 bt539.1 bt539.2.1 bt539.2.2)) else (laws_FnHedges.j0 k (Int.tmod t511 10) t543 true t502 t503 t504 t505 t508 t521 t522 t523 t524 t527 bt539.1 bt539.2.1 bt539.2.2)) else (laws_FnHedges.j0 k (Int.tmod t511 10) t543 true t502 t503 t504 t505 t508 t521 t522 t523 t524 t527 bt539.1 bt539.2.1 bt539.2.2))))) = some r := H
  have A8 := Aside0.mk A80
  clear A80
  replace H := Option.bind_eq_some_iff.mp H
  obtain ⟨⟨t530, t531, t532, t533, t536, t537⟩, A90, H⟩ := H
  replace H : ((impl_OpenNow.f k t502 t503 t504 t505 t508).bind fun bt539 => ((impl_NextToCut.f k t502 t503 t504 t505 t508).bind fun t543 => (if t519 = true then (if t528 = true then (if t537 = true then ((laws_sameInts.f k t524 t533).bind fun t544 => (if t544 = true then (if (Go.bits .andNot .i64 bt539.2.2 t504) = 0 then ((impl_OpenNow.f k t521 t522 t523 t524 t527).bind fun bt545 => (if (Go.bits .andNot .i64 bt545.2.2 bt539.2.2) = 0 then ((spec_CountPassages.f k t502 t503 t504).bind fun t548 => (laws_FnHedges.j0 k (Int.tmod t511 10) t543 ((decide (t543 < 0)) != (t548 == 0)) t502 t503 t504 t505 t508 t521 t522 t523 t524 t527 bt539.1 bt539.2.1 bt539.2.2)) else (laws_FnHedges.j0 k (Int.tmod t511 10) t543 true t502 t503 t504 t505 t508 t521 t522 t523 t524 t527 bt539.1 bt539.2.1 bt539.2.2))) else (laws_FnHedges.j0 k (Int.tmod t511 10) t543 true t502 t503 t504 t505 t508 t521 t522 t523 t524 t527 bt539.1 bt539.2.1 bt539.2.2)) else (laws_FnHedges.j0 k (Int.tmod t511 10) t543 true t502 t503 t504 t505 t508 t521 t522 t523 t524 t527 bt539.1 bt539.2.1 bt539.2.2))) else (laws_FnHedges.j0 k (Int.tmod t511 10) t543 true t502 t503 t504 t505 t508 t521 t522 t523 t524 t527 bt539.1 bt539.2.1 bt539.2.2)) else (laws_FnHedges.j0 k (Int.tmod t511 10) t543 true t502 t503 t504 t505 t508 t521 t522 t523 t524 t527 bt539.1 bt539.2.1 bt539.2.2)) else (laws_FnHedges.j0 k (Int.tmod t511 10) t543 true t502 t503 t504 t505 t508 t521 t522 t523 t524 t527 bt539.1 bt539.2.1 bt539.2.2)))) = some r := H
  have A9 := Aside0.mk A90
  clear A90
  replace H := Option.bind_eq_some_iff.mp H
  obtain ⟨⟨t539, t540, t541⟩, A100, H⟩ := H
  replace H : ((impl_NextToCut.f k t502 t503 t504 t505 t508).bind fun t543 => (if t519 = true then (if t528 = true then (if t537 = true then ((laws_sameInts.f k t524 t533).bind fun t544 => (if t544 = true then (if (Go.bits .andNot .i64 t541 t504) = 0 then ((impl_OpenNow.f k t521 t522 t523 t524 t527).bind fun bt545 => (if (Go.bits .andNot .i64 bt545.2.2 t541) = 0 then ((spec_CountPassages.f k t502 t503 t504).bind fun t548 => (laws_FnHedges.j0 k (Int.tmod t511 10) t543 ((decide (t543 < 0)) != (t548 == 0)) t502 t503 t504 t505 t508 t521 t522 t523 t524 t527 t539 t540 t541)) else (laws_FnHedges.j0 k (Int.tmod t511 10) t543 true t502 t503 t504 t505 t508 t521 t522 t523 t524 t527 t539 t540 t541))) else (laws_FnHedges.j0 k (Int.tmod t511 10) t543 true t502 t503 t504 t505 t508 t521 t522 t523 t524 t527 t539 t540 t541)) else (laws_FnHedges.j0 k (Int.tmod t511 10) t543 true t502 t503 t504 t505 t508 t521 t522 t523 t524 t527 t539 t540 t541))) else (laws_FnHedges.j0 k (Int.tmod t511 10) t543 true t502 t503 t504 t505 t508 t521 t522 t523 t524 t527 t539 t540 t541)) else (laws_FnHedges.j0 k (Int.tmod t511 10) t543 true t502 t503 t504 t505 t508 t521 t522 t523 t524 t527 t539 t540 t541)) else (laws_FnHedges.j0 k (Int.tmod t511 10) t543 true t502 t503 t504 t505 t508 t521 t522 t523 t524 t527 t539 t540 t541))) = some r := H
  have A10 := Aside0.mk A100
  clear A100
  replace H := Option.bind_eq_some_iff.mp H
  obtain ⟨t543, A110, H⟩ := H
  replace H : (if t519 = true then (if t528 = true then (if t537 = true then ((laws_sameInts.f k t524 t533).bind fun t544 => (if t544 = true then (if (Go.bits .andNot .i64 t541 t504) = 0 then ((impl_OpenNow.f k t521 t522 t523 t524 t527).bind fun bt545 => (if (Go.bits .andNot .i64 bt545.2.2 t541) = 0 then ((spec_CountPassages.f k t502 t503 t504).bind fun t548 => (laws_FnHedges.j0 k (Int.tmod t511 10) t543 ((decide (t543 < 0)) != (t548 == 0)) t502 t503 t504 t505 t508 t521 t522 t523 t524 t527 t539 t540 t541)) else (laws_FnHedges.j0 k (Int.tmod t511 10) t543 true t502 t503 t504 t505 t508 t521 t522 t523 t524 t527 t539 t540 t541))) else (laws_FnHedges.j0 k (Int.tmod t511 10) t543 true t502 t503 t504 t505 t508 t521 t522 t523 t524 t527 t539 t540 t541)) else (laws_FnHedges.j0 k (Int.tmod t511 10) t543 true t502 t503 t504 t505 t508 t521 t522 t523 t524 t527 t539 t540 t541))) else (laws_FnHedges.j0 k (Int.tmod t511 10) t543 true t502 t503 t504 t505 t508 t521 t522 t523 t524 t527 t539 t540 t541)) else (laws_FnHedges.j0 k (Int.tmod t511 10) t543 true t502 t503 t504 t505 t508 t521 t522 t523 t524 t527 t539 t540 t541)) else (laws_FnHedges.j0 k (Int.tmod t511 10) t543 true t502 t503 t504 t505 t508 t521 t522 t523 t524 t527 t539 t540 t541)) = some r := H
  have A11 := Aside0.mk A110
  clear A110
  have HC12 := Aside0.mk H
  clear H
  go_enter Try.func3, Try.ntmps3
  go_upto_region 11 with ((with_reducible refine gw_ ?_); first | (refine gl_ 18 Try.func4 #[.slice A0 l0.length c0] ?_; (with_reducible refine (laws_big.calls _ _ l0 false _ ?side1 ?side2 A2.out).mono ?_); (case side1 => exact kc_ HR0.out); (case side2 => exact HC0.out); rintro e w' ⟨rfl, ⟨nd, rfl⟩⟩; refine ⟨_, rfl, ?_⟩) | (refine gl_ 20 Try.func5 #[.slice A0 l0.length c0] ?_; (with_reducible refine (spec_DrawHedge.calls k _ _ l0 t502 t503 t504 t505 t508 _ ?side1 ?side2 A4.out).mono ?_); (case side1 => exact kc_ HR0.out); (case side2 => exact HC0.out); rintro e w13 ⟨v506, rfl, ho0, hb⟩; refine ⟨_, rfl, ?_⟩; have HO507 := Aside0.mk (Kd.R_lower ho0 (below_size (hb0_ HB.out))); replace HB := HB.s0 hb; (try clear hb); (try clear ho0)) | (refine box_ (N := 3) (cs := #[.int .i64 0, .int .i64 0, .int .i64 0, .slice none 0 0, .int .i64 0]) (t := 30) ?_; intro gb509 hg w14 hbox hb; replace HO507 := HO507.kb hb; have BK509 := Aside0.mk (hbox); have GW509 := HB.g0 hg; have GE509 := HB.g0 hg; replace HB := HB.s0 hb; clear hb hbox hg; obtain ⟨hcz15_0, hcz15_1, hcz15_2, hcz15_3, hcz15_4⟩ := cz5_ BK509.out; obtain ⟨hfz15_0, hfz15_1, hfz15_2, hfz15_3, hfz15_4⟩ := fz5_ BK509.out; obtain ⟨Ao16, co16, eo16⟩ := Kd.R_slice HO507.out; subst eo16) | (refine gl_ 22 Try.func6 #[.slice A0 l0.length c0, .int .i64 0] ?_; (with_reducible refine (laws_at.calls _ _ l0 0 t510 _ ?side1 ?side2 A5.out).mono ?_); (case side1 => exact Kd.C_below HR0.out (hb1_ HB.out GE509.out)); (case side2 => exact HC0.out); rintro e w' ⟨rfl, ⟨nd, rfl⟩⟩; refine ⟨_, rfl, ?_⟩) | (refine gl_ 25 Try.func6 #[.slice A0 l0.length c0, .int .i64 1] ?_; (with_reducible refine (laws_at.calls _ _ l0 1 t511 _ ?side1 ?side2 A6.out).mono ?_); (case side1 => exact Kd.C_below HR0.out (hb1_ HB.out GE509.out)); (case side2 => exact HC0.out); rintro e w' ⟨rfl, ⟨nd, rfl⟩⟩; refine ⟨_, rfl, ?_⟩) | (refine gl_ 30 Try.func7 #[.agg #[.int .i64 t502, .int .i64 t503, .int .i64 t504, .slice Ao16 t505.length co16, .int .i64 t508], .int .i64 (Int.tmod t510 11)] ?_; (with_reducible refine (impl_GrowHedge.calls k t502 t503 t504 _ _ t505 t508 (Int.tmod t510 11) t512 t513 t514 t515 t518 t519 _ ?side1 ?side2 A7.out).mono ?_); (case side1 => refine (Kd.R_reads' (e := 3) (base := w.heap.size) (ok := fun k_ => True) (n := t505.length) (c := co16) ?_).2.2; exact (rq5_ HO507.out BK509.out)); (case side2 => exact (Kd.R_reads' HO507.out).2.1); rintro e w17 ⟨v516, rfl, ho0, hb⟩; refine ⟨_, rfl, ?_⟩; have n0_ := Aside0.mk (Kd.R_elder' (rq5_ HO507.out BK509.out) (Kd.R_base ho0) hb); have n1_ := Aside0.mk (Kd.R_lower (Kd.R_new' ho0 (Kd.R_lt (rq5_ HO507.out BK509.out))) (below_size (hb1_ HB.out GE509.out))); have n2_ := Aside0.mk (blk_below (bq5_ BK509.out) hb); have n3_ := HB.s1 GE509 hb; clear HO507; clear BK509; clear HB; have HO507 := n0_; have HO517 := n1_; have BK509 := n2_; have HB := n3_; clear n0_ n1_ n2_ n3_; (try clear hb); (try clear ho0)) | (refine box_ (N := 6) (cs := #[.int .i64 0, .int .i64 0, .int .i64 0, .slice none 0 0, .int .i64 0]) (t := 30) ?_; intro gb520 hg w18 hbox hb; replace HO507 := HO507.kb hb; replace HO517 := HO517.kb hb; have BK520 := Aside0.mk (hbox); have GW520 := HB.g1 GE509 hg; have GE520 := HB.g1 GE509 hg; replace HB := HB.s1 GE509 hb; have NB509_520 := BK509.nl hg; have NB520_509 := BK509.nr hg; replace BK509 := BK509.bb hb; clear hb hbox hg; have hnb19 := NB520_509.out; have hnc19 := NB509_520.out; obtain ⟨hcz20_0, hcz20_1, hcz20_2, hcz20_3, hcz20_4⟩ := cz5_ BK520.out; obtain ⟨hfz20_0, hfz20_1, hfz20_2, hfz20_3, hfz20_4⟩ := fz5_ BK520.out; obtain ⟨Ao21, co21, eo21⟩ := Kd.R_slice HO517.out; subst eo21) | (refine gl_ 36 Try.func7 #[.agg #[.int .i64 t512, .int .i64 t513, .int .i64 t514, .slice Ao21 t515.length co21, .int .i64 t518], .int .i64 (Int.tmod t511 10)] ?_; (with_reducible refine (impl_GrowHedge.calls k t512 t513 t514 _ _ t515 t518 (Int.tmod t511 10) t521 t522 t523 t524 t527 t528 _ ?side1 ?side2 A8.out).mono ?_); (case side1 => refine (Kd.R_reads' (e := 3) (base := w.heap.size) (ok := fun k_ => (True ∧ some k_ ≠ (.slice Ao16 t505.length co16 : Value).ownBlock)) (n := t515.length) (c := co21) ?_).2.2; exact (rq5_ HO517.out BK520.out)); (case side2 => exact (Kd.R_reads' HO517.out).2.1); rintro e w22 ⟨v525, rfl, ho0, hb⟩; refine ⟨_, rfl, ?_⟩; have n0_ := Aside0.mk (Kd.R_elder' (rq5_ HO507.out BK520.out) (Kd.R_base ho0) hb); have n1_ := Aside0.mk (Kd.R_elder' (rq5_ HO517.out BK520.out) (Kd.R_base ho0) hb); have n2_ := Aside0.mk (Kd.R_lower (Kd.R_new' (Kd.R_new' ho0 (Kd.R_lt (rq5_ HO507.out BK520.out))) (Kd.R_lt (rq5_ HO517.out BK520.out))) (below_size (hb2_ HB.out GE509.out GE520.out))); have n3_ := Aside0.mk (blk_below (g := gb509) (o := .cells #[.int .i64 t502, .int .i64 t503, .int .i64 t504, .slice Ao16 t505.length co16, .int .i64 t508] 30 (0, 0)) (by (with_reducible repeat (first | refine blk_drewN ?_ _ | refine blk_drew ?_ | refine blk_alloc ?_ _)); refine blk_far ?_ NB509_520.out _; (with_reducible repeat (first | refine blk_drewN ?_ _ | refine blk_drew ?_ | refine blk_alloc ?_ _)); refine blk_far ?_ NB509_520.out _; (with_reducible repeat (first | refine blk_drewN ?_ _ | refine blk_drew ?_ | refine blk_alloc ?_ _)); refine blk_far ?_ NB509_520.out _; (with_reducible repeat (first | refine blk_drewN ?_ _ | refine blk_drew ?_ | refine blk_alloc ?_ _)); refine blk_far ?_ NB509_520.out _; (with_reducible repeat (first | refine blk_drewN ?_ _ | refine blk_drew ?_ | refine blk_alloc ?_ _)); refine blk_far ?_ NB509_520.out _; (with_reducible repeat (first | refine blk_drewN ?_ _ | refine blk_drew ?_ | refine blk_alloc ?_ _)); exact BK509.out) hb); have n4_ := Aside0.mk (blk_below (bq5_ BK520.out) hb); have n5_ := HB.s2 GE509 GE520 hb; clear HO507; clear HO517; clear BK509; clear BK520; clear HB; have HO507 := n0_; have HO517 := n1_; have HO526 := n2_; have BK509 := n3_; have BK520 := n4_; have HB := n5_; clear n0_ n1_ n2_ n3_ n4_ n5_; (try clear hb); (try clear ho0)) | (refine box_ (N := 8) (cs := #[.int .i64 0, .int .i64 0, .int .i64 0, .slice none 0 0, .int .i64 0]) (t := 30) ?_; intro gb529 hg w23 hbox hb; replace HO507 := HO507.kb hb; replace HO517 := HO517.kb hb; replace HO526 := HO526.kb hb; have BK529 := Aside0.mk (hbox); have GW529 := HB.g2 GE509 GE520 hg; have GE529 := HB.g2 GE509 GE520 hg; replace HB := HB.s2 GE509 GE520 hb; have NB509_529 := BK509.nl hg; have NB529_509 := BK509.nr hg; replace BK509 := BK509.bb hb; have NB520_529 := BK520.nl hg; have NB529_520 := BK520.nr hg; replace BK520 := BK520.bb hb; clear hb hbox hg; have hnb24 := NB529_509.out; have hnc24 := NB509_529.out; have hnb25 := NB529_520.out; have hnc25 := NB520_529.out; obtain ⟨hcz26_0, hcz26_1, hcz26_2, hcz26_3, hcz26_4⟩ := cz5_ BK529.out; obtain ⟨hfz26_0, hfz26_1, hfz26_2, hfz26_3, hfz26_4⟩ := fz5_ BK529.out; obtain ⟨Ao27, co27, eo27⟩ := Kd.R_slice HO526.out; subst eo27; obtain ⟨hcz28_0, hcz28_1, hcz28_2, hcz28_3, hcz28_4⟩ := cz5_ BK509.out; obtain ⟨hfz28_0, hfz28_1, hfz28_2, hfz28_3, hfz28_4⟩ := fz5_ BK509.out) | (refine gl_ 44 Try.func7 #[.agg #[.int .i64 t502, .int .i64 t503, .int .i64 t504, .slice Ao16 t505.length co16, .int .i64 t508], .int .i64 (wrap64 ((Int.tmod t510 11) + (Int.tmod t511 10)))] ?_; (with_reducible refine (impl_GrowHedge.calls k t502 t503 t504 _ _ t505 t508 (wrap64 ((Int.tmod t510 11) + (Int.tmod t511 10))) t530 t531 t532 t533 t536 t537 _ ?side1 ?side2 A9.out).mono ?_); (case side1 => refine (Kd.R_reads' (e := 3) (base := w.heap.size) (ok := fun k_ => ((True ∧ some k_ ≠ (.slice Ao21 t515.length co21 : Value).ownBlock) ∧ some k_ ≠ (.slice Ao27 t524.length co27 : Value).ownBlock)) (n := t505.length) (c := co16) ?_).2.2; exact (rq5_ HO507.out BK529.out)); (case side2 => exact (Kd.R_reads' HO507.out).2.1); rintro e w29 ⟨v534, rfl, ho0, hb⟩; refine ⟨_, rfl, ?_⟩; have n0_ := Aside0.mk (Kd.R_elder' (rq5_ HO507.out BK529.out) (Kd.R_base ho0) hb); have n1_ := Aside0.mk (Kd.R_elder' (rq5_ HO517.out BK529.out) (Kd.R_base ho0) hb); have n2_ := Aside0.mk (Kd.R_elder' (rq5_ HO526.out BK529.out) (Kd.R_base ho0) hb); have n3_ := Aside0.mk (Kd.R_lower (Kd.R_new' (Kd.R_new' (Kd.R_new' ho0 (Kd.R_lt (rq5_ HO507.out BK529.out))) (Kd.R_lt (rq5_ HO517.out BK529.out))) (Kd.R_lt (rq5_ HO526.out BK529.out))) (below_size (hb3_ HB.out GE509.out GE520.out GE529.out))); have n4_ := Aside0.mk (blk_below (g := gb509) (o := .cells #[.int .i64 t502, .int .i64 t503, .int .i64 t504, .slice Ao16 t505.length co16, .int .i64 t508] 30 (0, 0)) (by (with_reducible repeat (first | refine blk_drewN ?_ _ | refine blk_drew ?_ | refine blk_alloc ?_ _)); refine blk_far ?_ NB509_529.out _; (with_reducible repeat (first | refine blk_drewN ?_ _ | refine blk_drew ?_ | refine blk_alloc ?_ _)); refine blk_far ?_ NB509_529.out _; (with_reducible repeat (first | refine blk_drewN ?_ _ | refine blk_drew ?_ | refine blk_alloc ?_ _)); refine blk_far ?_ NB509_529.out _; (with_reducible repeat (first | refine blk_drewN ?_ _ | refine blk_drew ?_ | refine blk_alloc ?_ _)); refine blk_far ?_ NB509_529.out _; (with_reducible repeat (first | refine blk_drewN ?_ _ | refine blk_drew ?_ | refine blk_alloc ?_ _)); refine blk_far ?_ NB509_529.out _; (with_reducible repeat (first | refine blk_drewN ?_ _ | refine blk_drew ?_ | refine blk_alloc ?_ _)); exact BK509.out) hb); have n5_ := Aside0.mk (blk_below (g := gb520) (o := .cells #[.int .i64 t512, .int .i64 t513, .int .i64 t514, .slice Ao21 t515.length co21, .int .i64 t518] 30 (0, 0)) (by (with_reducible repeat (first | refine blk_drewN ?_ _ | refine blk_drew ?_ | refine blk_alloc ?_ _)); refine blk_far ?_ NB520_529.out _; (with_reducible repeat (first | refine blk_drewN ?_ _ | refine blk_drew ?_ | refine blk_alloc ?_ _)); refine blk_far ?_ NB520_529.out _; (with_reducible repeat (first | refine blk_drewN ?_ _ | refine blk_drew ?_ | refine blk_alloc ?_ _)); refine blk_far ?_ NB520_529.out _; (with_reducible repeat (first | refine blk_drewN ?_ _ | refine blk_drew ?_ | refine blk_alloc ?_ _)); refine blk_far ?_ NB520_529.out _; (with_reducible repeat (first | refine blk_drewN ?_ _ | refine blk_drew ?_ | refine blk_alloc ?_ _)); refine blk_far ?_ NB520_529.out _; (with_reducible repeat (first | refine blk_drewN ?_ _ | refine blk_drew ?_ | refine blk_alloc ?_ _)); exact BK520.out) hb); have n6_ := Aside0.mk (blk_below (bq5_ BK529.out) hb); have n7_ := HB.s3 GE509 GE520 GE529 hb; clear HO507; clear HO517; clear HO526; clear BK509; clear BK520; clear BK529; clear HB; have HO507 := n0_; have HO517 := n1_; have HO526 := n2_; have HO535 := n3_; have BK509 := n4_; have BK520 := n5_; have BK529 := n6_; have HB := n7_; clear n0_ n1_ n2_ n3_ n4_ n5_ n6_ n7_; (try clear hb); (try clear ho0)) | (refine box_ (N := 10) (cs := #[.int .i64 0, .int .i64 0, .int .i64 0, .slice none 0 0, .int .i64 0]) (t := 30) ?_; intro gb538 hg w30 hbox hb; replace HO507 := HO507.kb hb; replace HO517 := HO517.kb hb; replace HO526 := HO526.kb hb; replace HO535 := HO535.kb hb; have BK538 := Aside0.mk (hbox); have GW538 := HB.g3 GE509 GE520 GE529 hg; have GE538 := HB.g3 GE509 GE520 GE529 hg; replace HB := HB.s3 GE509 GE520 GE529 hb; have NB509_538 := BK509.nl hg; have NB538_509 := BK509.nr hg; replace BK509 := BK509.bb hb; have NB520_538 := BK520.nl hg; have NB538_520 := BK520.nr hg; replace BK520 := BK520.bb hb; have NB529_538 := BK529.nl hg; have NB538_529 := BK529.nr hg; replace BK529 := BK529.bb hb; clear hb hbox hg; have hnb31 := NB538_509.out; have hnc31 := NB509_538.out; have hnb32 := NB538_520.out; have hnc32 := NB520_538.out; have hnb33 := NB538_529.out; have hnc33 := NB529_538.out; obtain ⟨hcz34_0, hcz34_1, hcz34_2, hcz34_3, hcz34_4⟩ := cz5_ BK538.out; obtain ⟨hfz34_0, hfz34_1, hfz34_2, hfz34_3, hfz34_4⟩ := fz5_ BK538.out; obtain ⟨Ao35, co35, eo35⟩ := Kd.R_slice HO535.out; subst eo35; obtain ⟨hcz36_0, hcz36_1, hcz36_2, hcz36_3, hcz36_4⟩ := cz5_ BK509.out; obtain ⟨hfz36_0, hfz36_1, hfz36_2, hfz36_3, hfz36_4⟩ := fz5_ BK509.out) | (refine gl_ 48 Try.func8 #[.agg #[.int .i64 t502, .int .i64 t503, .int .i64 t504, .slice Ao16 t505.length co16, .int .i64 t508]] ?_; (with_reducible refine (impl_OpenNow.calls k t502 t503 t504 _ _ t505 t508 t539 t540 t541 _ ?side1 ?side2 A10.out).mono ?_); (case side1 => refine (Kd.R_reads' (e := 3) (base := w.heap.size) (ok := fun k_ => (((True ∧ some k_ ≠ (.slice Ao21 t515.length co21 : Value).ownBlock) ∧ some k_ ≠ (.slice Ao27 t524.length co27 : Value).ownBlock) ∧ some k_ ≠ (.slice Ao35 t533.length co35 : Value).ownBlock)) (n := t505.length) (c := co16) ?_).2.2; exact (rq5_ HO507.out BK538.out)); (case side2 => exact (Kd.R_reads' HO507.out).2.1); rintro e w37 ⟨rfl, hb⟩; refine ⟨_, rfl, ?_⟩; replace HO507 := Aside0.mk (Kd.R_below (rq5_ HO507.out BK538.out) hb); replace HO517 := Aside0.mk (Kd.R_below (rq5_ HO517.out BK538.out) hb); replace HO526 := Aside0.mk (Kd.R_below (rq5_ HO526.out BK538.out) hb); replace HO535 := Aside0.mk (Kd.R_below (rq5_ HO535.out BK538.out) hb); replace BK509 := Aside0.mk (blk_below (g := gb509) (o := .cells #[.int .i64 t502, .int .i64 t503, .int .i64 t504, .slice Ao16 t505.length co16, .int .i64 t508] 30 (0, 0)) (by (with_reducible repeat (first | refine blk_drewN ?_ _ | refine blk_drew ?_ | refine blk_alloc ?_ _)); refine blk_far ?_ NB509_538.out _; (with_reducible repeat (first | refine blk_drewN ?_ _ | refine blk_drew ?_ | refine blk_alloc ?_ _)); refine blk_far ?_ NB509_538.out _; (with_reducible repeat (first | refine blk_drewN ?_ _ | refine blk_drew ?_ | refine blk_alloc ?_ _)); refine blk_far ?_ NB509_538.out _; (with_reducible repeat (first | refine blk_drewN ?_ _ | refine blk_drew ?_ | refine blk_alloc ?_ _)); refine blk_far ?_ NB509_538.out _; (with_reducible repeat (first | refine blk_drewN ?_ _ | refine blk_drew ?_ | refine blk_alloc ?_ _)); refine blk_far ?_ NB509_538.out _; (with_reducible repeat (first | refine blk_drewN ?_ _ | refine blk_drew ?_ | refine blk_alloc ?_ _)); exact BK509.out) hb); replace BK520 := Aside0.mk (blk_below (g := gb520) (o := .cells #[.int .i64 t512, .int .i64 t513, .int .i64 t514, .slice Ao21 t515.length co21, .int .i64 t518] 30 (0, 0)) (by (with_reducible repeat (first | refine blk_drewN ?_ _ | refine blk_drew ?_ | refine blk_alloc ?_ _)); refine blk_far ?_ NB520_538.out _; (with_reducible repeat (first | refine blk_drewN ?_ _ | refine blk_drew ?_ | refine blk_alloc ?_ _)); refine blk_far ?_ NB520_538.out _; (with_reducible repeat (first | refine blk_drewN ?_ _ | refine blk_drew ?_ | refine blk_alloc ?_ _)); refine blk_far ?_ NB520_538.out _; (with_reducible repeat (first | refine blk_drewN ?_ _ | refine blk_drew ?_ | refine blk_alloc ?_ _)); refine blk_far ?_ NB520_538.out _; (with_reducible repeat (first | refine blk_drewN ?_ _ | refine blk_drew ?_ | refine blk_alloc ?_ _)); refine blk_far ?_ NB520_538.out _; (with_reducible repeat (first | refine blk_drewN ?_ _ | refine blk_drew ?_ | refine blk_alloc ?_ _)); exact BK520.out) hb); replace BK529 := Aside0.mk (blk_below (g := gb529) (o := .cells #[.int .i64 t521, .int .i64 t522, .int .i64 t523, .slice Ao27 t524.length co27, .int .i64 t527] 30 (0, 0)) (by (with_reducible repeat (first | refine blk_drewN ?_ _ | refine blk_drew ?_ | refine blk_alloc ?_ _)); refine blk_far ?_ NB529_538.out _; (with_reducible repeat (first | refine blk_drewN ?_ _ | refine blk_drew ?_ | refine blk_alloc ?_ _)); refine blk_far ?_ NB529_538.out _; (with_reducible repeat (first | refine blk_drewN ?_ _ | refine blk_drew ?_ | refine blk_alloc ?_ _)); refine blk_far ?_ NB529_538.out _; (with_reducible repeat (first | refine blk_drewN ?_ _ | refine blk_drew ?_ | refine blk_alloc ?_ _)); refine blk_far ?_ NB529_538.out _; (with_reducible repeat (first | refine blk_drewN ?_ _ | refine blk_drew ?_ | refine blk_alloc ?_ _)); refine blk_far ?_ NB529_538.out _; (with_reducible repeat (first | refine blk_drewN ?_ _ | refine blk_drew ?_ | refine blk_alloc ?_ _)); exact BK529.out) hb); replace BK538 := Aside0.mk (blk_below (bq5_ BK538.out) hb); replace HB := HB.s4 GE509 GE520 GE529 GE538 hb; (try clear hb)) | (refine box_ (N := 12) (cs := #[.int .i64 0, .int .i64 0, .int .i64 0]) (t := 27) ?_; intro gb542 hg w38 hbox hb; replace HO507 := HO507.kb hb; replace HO517 := HO517.kb hb; replace HO526 := HO526.kb hb; replace HO535 := HO535.kb hb; have BK542 := Aside0.mk (hbox); have GW542 := HB.g4 GE509 GE520 GE529 GE538 hg; have GE542 := HB.g4 GE509 GE520 GE529 GE538 hg; replace HB := HB.s4 GE509 GE520 GE529 GE538 hb; have NB509_542 := BK509.nl hg; have NB542_509 := BK509.nr hg; replace BK509 := BK509.bb hb; have NB520_542 := BK520.nl hg; have NB542_520 := BK520.nr hg; replace BK520 := BK520.bb hb; have NB529_542 := BK529.nl hg; have NB542_529 := BK529.nr hg; replace BK529 := BK529.bb hb; have NB538_542 := BK538.nl hg; have NB542_538 := BK538.nr hg; replace BK538 := BK538.bb hb; clear hb hbox hg; have hnb39 := NB542_509.out; have hnc39 := NB509_542.out; have hnb40 := NB542_520.out; have hnc40 := NB520_542.out; have hnb41 := NB542_529.out; have hnc41 := NB529_542.out; have hnb42 := NB542_538.out; have hnc42 := NB538_542.out; obtain ⟨hcz43_0, hcz43_1, hcz43_2⟩ := cz3_ BK542.out; obtain ⟨hfz43_0, hfz43_1, hfz43_2⟩ := fz3_ BK542.out; obtain ⟨hcz44_0, hcz44_1, hcz44_2, hcz44_3, hcz44_4⟩ := cz5_ BK509.out; obtain ⟨hfz44_0, hfz44_1, hfz44_2, hfz44_3, hfz44_4⟩ := fz5_ BK509.out) | (refine gl_ 50 Try.func9 #[.agg #[.int .i64 t502, .int .i64 t503, .int .i64 t504, .slice Ao16 t505.length co16, .int .i64 t508]] ?_; (with_reducible refine (impl_NextToCut.calls k t502 t503 t504 _ _ t505 t508 t543 _ ?side1 ?side2 A11.out).mono ?_); (case side1 => refine (Kd.R_reads' (e := 3) (base := w.heap.size) (ok := fun k_ => (((True ∧ some k_ ≠ (.slice Ao21 t515.length co21 : Value).ownBlock) ∧ some k_ ≠ (.slice Ao27 t524.length co27 : Value).ownBlock) ∧ some k_ ≠ (.slice Ao35 t533.length co35 : Value).ownBlock)) (n := t505.length) (c := co16) ?_).2.2; exact (rq3_ HO507.out BK542.out)); (case side2 => exact (Kd.R_reads' HO507.out).2.1); rintro e w45 ⟨rfl, hb⟩; refine ⟨_, rfl, ?_⟩; replace HO507 := Aside0.mk (Kd.R_below (rq3_ HO507.out BK542.out) hb); replace HO517 := Aside0.mk (Kd.R_below (rq3_ HO517.out BK542.out) hb); replace HO526 := Aside0.mk (Kd.R_below (rq3_ HO526.out BK542.out) hb); replace HO535 := Aside0.mk (Kd.R_below (rq3_ HO535.out BK542.out) hb); replace BK509 := Aside0.mk (blk_below (g := gb509) (o := .cells #[.int .i64 t502, .int .i64 t503, .int .i64 t504, .slice Ao16 t505.length co16, .int .i64 t508] 30 (0, 0)) (by (with_reducible repeat (first | refine blk_drewN ?_ _ | refine blk_drew ?_ | refine blk_alloc ?_ _)); refine blk_far ?_ NB509_542.out _; (with_reducible repeat (first | refine blk_drewN ?_ _ | refine blk_drew ?_ | refine blk_alloc ?_ _)); refine blk_far ?_ NB509_542.out _; (with_reducible repeat (first | refine blk_drewN ?_ _ | refine blk_drew ?_ | refine blk_alloc ?_ _)); refine blk_far ?_ NB509_542.out _; (with_reducible repeat (first | refine blk_drewN ?_ _ | refine blk_drew ?_ | refine blk_alloc ?_ _)); exact BK509.out) hb); replace BK520 := Aside0.mk (blk_below (g := gb520) (o := .cells #[.int .i64 t512, .int .i64 t513, .int .i64 t514, .slice Ao21 t515.length co21, .int .i64 t518] 30 (0, 0)) (by (with_reducible repeat (first | refine blk_drewN ?_ _ | refine blk_drew ?_ | refine blk_alloc ?_ _)); refine blk_far ?_ NB520_542.out _; (with_reducible repeat (first | refine blk_drewN ?_ _ | refine blk_drew ?_ | refine blk_alloc ?_ _)); refine blk_far ?_ NB520_542.out _; (with_reducible repeat (first | refine blk_drewN ?_ _ | refine blk_drew ?_ | refine blk_alloc ?_ _)); refine blk_far ?_ NB520_542.out _; (with_reducible repeat (first | refine blk_drewN ?_ _ | refine blk_drew ?_ | refine blk_alloc ?_ _)); exact BK520.out) hb); replace BK529 := Aside0.mk (blk_below (g := gb529) (o := .cells #[.int .i64 t521, .int .i64 t522, .int .i64 t523, .slice Ao27 t524.length co27, .int .i64 t527] 30 (0, 0)) (by (with_reducible repeat (first | refine blk_drewN ?_ _ | refine blk_drew ?_ | refine blk_alloc ?_ _)); refine blk_far ?_ NB529_542.out _; (with_reducible repeat (first | refine blk_drewN ?_ _ | refine blk_drew ?_ | refine blk_alloc ?_ _)); refine blk_far ?_ NB529_542.out _; (with_reducible repeat (first | refine blk_drewN ?_ _ | refine blk_drew ?_ | refine blk_alloc ?_ _)); refine blk_far ?_ NB529_542.out _; (with_reducible repeat (first | refine blk_drewN ?_ _ | refine blk_drew ?_ | refine blk_alloc ?_ _)); exact BK529.out) hb); replace BK538 := Aside0.mk (blk_below (g := gb538) (o := .cells #[.int .i64 t530, .int .i64 t531, .int .i64 t532, .slice Ao35 t533.length co35, .int .i64 t536] 30 (0, 0)) (by (with_reducible repeat (first | refine blk_drewN ?_ _ | refine blk_drew ?_ | refine blk_alloc ?_ _)); refine blk_far ?_ NB538_542.out _; (with_reducible repeat (first | refine blk_drewN ?_ _ | refine blk_drew ?_ | refine blk_alloc ?_ _)); refine blk_far ?_ NB538_542.out _; (with_reducible repeat (first | refine blk_drewN ?_ _ | refine blk_drew ?_ | refine blk_alloc ?_ _)); refine blk_far ?_ NB538_542.out _; (with_reducible repeat (first | refine blk_drewN ?_ _ | refine blk_drew ?_ | refine blk_alloc ?_ _)); exact BK538.out) hb); replace BK542 := Aside0.mk (blk_below (bq3_ BK542.out) hb); replace HB := HB.s5 GE509 GE520 GE529 GE538 GE542 hb; (try clear hb)))
  (try simp only [Act.put, List.setIfInBounds_toArray, List.set_cons_zero, List.set_cons_succ])
  go_cut [95] (fun v95 wc => ∃ (kq : Nat) (x95_11 : Bool), v95 = .bool x95_11 ∧ Aside0 (laws_FnHedges.j0 kq (Int.tmod t511 10) t543 x95_11 t502 t503 t504 t505 t508 t521 t522 t523 t524 t527 t539 t540 t541 = some r) ∧ Aside0 (kq ≤ k) ∧ Aside0 (Kd.R (Kd.int .i64) 3 wc w.heap.size (fun k_ => some k_ ≠ ((.slice Ao21 t515.length co21) : Value).ownBlock ∧ some k_ ≠ ((.slice Ao27 t524.length co27) : Value).ownBlock ∧ some k_ ≠ ((.slice Ao35 t533.length co35) : Value).ownBlock) (.slice Ao16 t505.length co16) t505) ∧ Aside0 (Kd.R (Kd.int .i64) 3 wc w.heap.size (fun k_ => some k_ ≠ ((.slice Ao16 t505.length co16) : Value).ownBlock ∧ some k_ ≠ ((.slice Ao27 t524.length co27) : Value).ownBlock ∧ some k_ ≠ ((.slice Ao35 t533.length co35) : Value).ownBlock) (.slice Ao21 t515.length co21) t515) ∧ Aside0 (Kd.R (Kd.int .i64) 3 wc w.heap.size (fun k_ => some k_ ≠ ((.slice Ao16 t505.length co16) : Value).ownBlock ∧ some k_ ≠ ((.slice Ao21 t515.length co21) : Value).ownBlock ∧ some k_ ≠ ((.slice Ao35 t533.length co35) : Value).ownBlock) (.slice Ao27 t524.length co27) t524) ∧ Aside0 (Kd.R (Kd.int .i64) 3 wc w.heap.size (fun k_ => some k_ ≠ ((.slice Ao16 t505.length co16) : Value).ownBlock ∧ some k_ ≠ ((.slice Ao21 t515.length co21) : Value).ownBlock ∧ some k_ ≠ ((.slice Ao27 t524.length co27) : Value).ownBlock) (.slice Ao35 t533.length co35) t533) ∧ Aside0 (wc.heap[gb509]? = some (.cells #[.int .i64 t502, .int .i64 t503, .int .i64 t504, (.slice Ao16 t505.length co16), .int .i64 t508] 30 (0, 0))) ∧ Aside0 (wc.heap[gb520]? = some (.cells #[.int .i64 t512, .int .i64 t513, .int .i64 t514, (.slice Ao21 t515.length co21), .int .i64 t518] 30 (0, 0))) ∧ Aside0 (wc.heap[gb529]? = some (.cells #[.int .i64 t521, .int .i64 t522, .int .i64 t523, (.slice Ao27 t524.length co27), .int .i64 t527] 30 (0, 0))) ∧ Aside0 (wc.heap[gb538]? = some (.cells #[.int .i64 t530, .int .i64 t531, .int .i64 t532, (.slice Ao35 t533.length co35), .int .i64 t536] 30 (0, 0))) ∧ Aside0 (wc.heap[gb542]? = some (.cells #[.int .i64 t539, .int .i64 t540, .int .i64 t541] 27 (0, 0))) ∧ Aside0 (Below w.heap.size w wc))
  case first =>
   have H := HC12.out
   clear HC12
   by_cases c46 : t519 = true
   ·subst c46
    have H1 : (if t528 = true then (if t537 = true then ((laws_sameInts.f k t524 t533).bind fun t544 => (if t544 = true then (if (Go.bits .andNot .i64 t541 t504) = 0 then ((impl_OpenNow.f k t521 t522 t523 t524 t527).bind fun bt545 => (if (Go.bits .andNot .i64 bt545.2.2 t541) = 0 then ((spec_CountPassages.f k t502 t503 t504).bind fun t548 => (laws_FnHedges.j0 k (Int.tmod t511 10) t543 ((decide (t543 < 0)) != (t548 == 0)) t502 t503 t504 t505 t508 t521 t522 t523 t524 t527 t539 t540 t541)) else (laws_FnHedges.j0 k (Int.tmod t511 10) t543 true t502 t503 t504 t505 t508 t521 t522 t523 t524 t527 t539 t540 t541))) else (laws_FnHedges.j0 k (Int.tmod t511 10) t543 true t502 t503 t504 t505 t508 t521 t522 t523 t524 t527 t539 t540 t541)) else (laws_FnHedges.j0 k (Int.tmod t511 10) t543 true t502 t503 t504 t505 t508 t521 t522 t523 t524 t527 t539 t540 t541))) else (laws_FnHedges.j0 k (Int.tmod t511 10) t543 true t502 t503 t504 t505 t508 t521 t522 t523 t524 t527 t539 t540 t541)) else (laws_FnHedges.j0 k (Int.tmod t511 10) t543 true t502 t503 t504 t505 t508 t521 t522 t523 t524 t527 t539 t540 t541)) = some r := by rw [if_pos rfl] at H; exact H
    clear H
    have H := H1
    clear H1
    by_cases c47 : t528 = true
    ·subst c47
     have H1 : (if t537 = true then ((laws_sameInts.f k t524 t533).bind fun t544 => (if t544 = true then (if (Go.bits .andNot .i64 t541 t504) = 0 then ((impl_OpenNow.f k t521 t522 t523 t524 t527).bind fun bt545 => (if (Go.bits .andNot .i64 bt545.2.2 t541) = 0 then ((spec_CountPassages.f k t502 t503 t504).bind fun t548 => (laws_FnHedges.j0 k (Int.tmod t511 10) t543 ((decide (t543 < 0)) != (t548 == 0)) t502 t503 t504 t505 t508 t521 t522 t523 t524 t527 t539 t540 t541)) else (laws_FnHedges.j0 k (Int.tmod t511 10) t543 true t502 t503 t504 t505 t508 t521 t522 t523 t524 t527 t539 t540 t541))) else (laws_FnHedges.j0 k (Int.tmod t511 10) t543 true t502 t503 t504 t505 t508 t521 t522 t523 t524 t527 t539 t540 t541)) else (laws_FnHedges.j0 k (Int.tmod t511 10) t543 true t502 t503 t504 t505 t508 t521 t522 t523 t524 t527 t539 t540 t541))) else (laws_FnHedges.j0 k (Int.tmod t511 10) t543 true t502 t503 t504 t505 t508 t521 t522 t523 t524 t527 t539 t540 t541)) = some r := by rw [if_pos rfl] at H; exact H
     clear H
     have H := H1
     clear H1
     by_cases c48 : t537 = true
     ·subst c48
      have H1 : ((laws_sameInts.f k t524 t533).bind fun t544 => (if t544 = true then (if (Go.bits .andNot .i64 t541 t504) = 0 then ((impl_OpenNow.f k t521 t522 t523 t524 t527).bind fun bt545 => (if (Go.bits .andNot .i64 bt545.2.2 t541) = 0 then ((spec_CountPassages.f k t502 t503 t504).bind fun t548 => (laws_FnHedges.j0 k (Int.tmod t511 10) t543 ((decide (t543 < 0)) != (t548 == 0)) t502 t503 t504 t505 t508 t521 t522 t523 t524 t527 t539 t540 t541)) else (laws_FnHedges.j0 k (Int.tmod t511 10) t543 true t502 t503 t504 t505 t508 t521 t522 t523 t524 t527 t539 t540 t541))) else (laws_FnHedges.j0 k (Int.tmod t511 10) t543 true t502 t503 t504 t505 t508 t521 t522 t523 t524 t527 t539 t540 t541)) else (laws_FnHedges.j0 k (Int.tmod t511 10) t543 true t502 t503 t504 t505 t508 t521 t522 t523 t524 t527 t539 t540 t541))) = some r := by rw [if_pos rfl] at H; exact H
      clear H
      have H := H1
      clear H1
      replace H := Option.bind_eq_some_iff.mp H
      obtain ⟨t544, A490, H⟩ := H
      replace H : (if t544 = true then (if (Go.bits .andNot .i64 t541 t504) = 0 then ((impl_OpenNow.f k t521 t522 t523 t524 t527).bind fun bt545 => (if (Go.bits .andNot .i64 bt545.2.2 t541) = 0 then ((spec_CountPassages.f k t502 t503 t504).bind fun t548 => (laws_FnHedges.j0 k (Int.tmod t511 10) t543 ((decide (t543 < 0)) != (t548 == 0)) t502 t503 t504 t505 t508 t521 t522 t523 t524 t527 t539 t540 t541)) else (laws_FnHedges.j0 k (Int.tmod t511 10) t543 true t502 t503 t504 t505 t508 t521 t522 t523 t524 t527 t539 t540 t541))) else (laws_FnHedges.j0 k (Int.tmod t511 10) t543 true t502 t503 t504 t505 t508 t521 t522 t523 t524 t527 t539 t540 t541)) else (laws_FnHedges.j0 k (Int.tmod t511 10) t543 true t502 t503 t504 t505 t508 t521 t522 t523 t524 t527 t539 t540 t541)) = some r := H
      have A49 := Aside0.mk A490
      clear A490
      by_cases c50 : t544 = true
      ·subst c50
       have H1 : (if (Go.bits .andNot .i64 t541 t504) = 0 then ((impl_OpenNow.f k t521 t522 t523 t524 t527).bind fun bt545 => (if (Go.bits .andNot .i64 bt545.2.2 t541) = 0 then ((spec_CountPassages.f k t502 t503 t504).bind fun t548 => (laws_FnHedges.j0 k (Int.tmod t511 10) t543 ((decide (t543 < 0)) != (t548 == 0)) t502 t503 t504 t505 t508 t521 t522 t523 t524 t527 t539 t540 t541)) else (laws_FnHedges.j0 k (Int.tmod t511 10) t543 true t502 t503 t504 t505 t508 t521 t522 t523 t524 t527 t539 t540 t541))) else (laws_FnHedges.j0 k (Int.tmod t511 10) t543 true t502 t503 t504 t505 t508 t521 t522 t523 t524 t527 t539 t540 t541)) = some r := by rw [if_pos rfl] at H; exact H
       clear H
       have H := H1
       clear H1
       by_cases c51 : (Go.bits .andNot .i64 t541 t504) = 0
       ·rw [if_pos c51] at H
        have c51b0 : ((Go.bits .andNot .i64 t541 t504) == 0) = true := beq_iff_eq.mpr c51
        have c51b1 : ((Go.bits .andNot .i64 t541 t504) != 0) = false := bne_eq_false_iff_eq.mpr c51
        clear c51
        (first | rw [c51b0] | (simp only [i64_w, i32_w]; rw [c51b0]) | skip)
        replace H := Option.bind_eq_some_iff.mp H
        obtain ⟨⟨t545, t546, t547⟩, A520, H⟩ := H
        replace H : (if (Go.bits .andNot .i64 t547 t541) = 0 then ((spec_CountPassages.f k t502 t503 t504).bind fun t548 => (laws_FnHedges.j0 k (Int.tmod t511 10) t543 ((decide (t543 < 0)) != (t548 == 0)) t502 t503 t504 t505 t508 t521 t522 t523 t524 t527 t539 t540 t541)) else (laws_FnHedges.j0 k (Int.tmod t511 10) t543 true t502 t503 t504 t505 t508 t521 t522 t523 t524 t527 t539 t540 t541)) = some r := H
        have A52 := Aside0.mk A520
        clear A520
        by_cases c53 : (Go.bits .andNot .i64 t547 t541) = 0
        ·rw [if_pos c53] at H
         have c53b0 : ((Go.bits .andNot .i64 t547 t541) == 0) = true := beq_iff_eq.mpr c53
         have c53b1 : ((Go.bits .andNot .i64 t547 t541) != 0) = false := bne_eq_false_iff_eq.mpr c53
         clear c53
         replace H := Option.bind_eq_some_iff.mp H
         obtain ⟨t548, A540, H⟩ := H
         replace H : (laws_FnHedges.j0 k (Int.tmod t511 10) t543 ((decide (t543 < 0)) != (t548 == 0)) t502 t503 t504 t505 t508 t521 t522 t523 t524 t527 t539 t540 t541) = some r := H
         have A54 := Aside0.mk A540
         clear A540
         have H' := Aside0.mk H
         clear H
         try go_wp2
         replace HO507 := Aside0.mk (Kd.R_drew HO507.out)
         replace HO517 := Aside0.mk (Kd.R_drew HO517.out)
         replace HO526 := Aside0.mk (Kd.R_drew HO526.out)
         replace HO535 := Aside0.mk (Kd.R_drew HO535.out)
         replace BK509 := Aside0.mk (blk_drew BK509.out)
         replace BK520 := Aside0.mk (blk_drew BK520.out)
         replace BK529 := Aside0.mk (blk_drew BK529.out)
         replace BK538 := Aside0.mk (blk_drew BK538.out)
         replace BK542 := Aside0.mk (blk_drew BK542.out)
         replace HB := Aside0.mk (below_drew1 HB.out)
         refine start_ (n := 45) (S := fun w' => w'.cell? ⟨gb529, 0, none⟩ = some (.int .i64 t521) ∧ w'.cell? ⟨gb529, 1, none⟩ = some (.int .i64 t522) ∧ w'.cell? ⟨gb529, 2, none⟩ = some (.int .i64 t523) ∧ w'.cell? ⟨gb529, 3, none⟩ = some (.slice Ao27 t524.length co27) ∧ w'.cell? ⟨gb529, 4, none⟩ = some (.int .i64 t527) ∧ w'.cell? ⟨gb538, 0, none⟩ = some (.int .i64 t530) ∧ w'.cell? ⟨gb538, 1, none⟩ = some (.int .i64 t531) ∧ w'.cell? ⟨gb538, 2, none⟩ = some (.int .i64 t532) ∧ w'.cell? ⟨gb538, 3, none⟩ = some (.slice Ao35 t533.length co35) ∧ w'.cell? ⟨gb538, 4, none⟩ = some (.int .i64 t536) ∧ w'.cell? ⟨gb542, 0, none⟩ = some (.int .i64 t539) ∧ w'.cell? ⟨gb542, 1, none⟩ = some (.int .i64 t540) ∧ w'.cell? ⟨gb542, 2, none⟩ = some (.int .i64 t541) ∧ w'.cell? ⟨gb509, 0, none⟩ = some (.int .i64 t502) ∧ w'.cell? ⟨gb509, 1, none⟩ = some (.int .i64 t503) ∧ w'.cell? ⟨gb509, 2, none⟩ = some (.int .i64 t504) ∧ w'.cell? ⟨gb509, 3, none⟩ = some (.slice Ao16 t505.length co16) ∧ w'.cell? ⟨gb509, 4, none⟩ = some (.int .i64 t508)) (ds := []) #[false, false, false, false, false, false, false, false, false, false, false, false, false, false, false, false, false, false, false, false, false, false, false, false, false, false, false, false, false, false, false, false, false, false, false, false, false, false, false, false, false, false, false, false, false] (by kernel_rfl) rfl rfl ⟨BK529.c 0, BK529.c 1, BK529.c 2, BK529.c 3, BK529.c 4, BK538.c 0, BK538.c 1, BK538.c 2, BK538.c 3, BK538.c 4, BK542.c 0, BK542.c 1, BK542.c 2, BK509.c 0, BK509.c 1, BK509.c 2, BK509.c 3, BK509.c 4⟩ (fun hHeld => ?_); refine with_tabW laws_FnHedges.tab11 laws_FnHedges.bits11 (fun HT_ HW_ => ?_)
         generalize w45.drew = w55 at HO507 HO517 HO526 HO535 BK509 BK520 BK529 BK538 BK542 HB hHeld ⊢
         refine pv_ (i := 0) (N := some 51) HT_.out ?_
         refine pv_ (i := 1) (N := some 52) HT_.out ?_
         refine pv_ (i := 2) (N := some 53) HT_.out ?_
         refine pv_ (i := 3) (N := some 54) HT_.out ?_
         refine pv_ (i := 4) (N := some 55) HT_.out ?_
         refine pv_ (i := 5) (N := some 56) HT_.out ?_
         refine pv_ (i := 6) (N := some 57) HT_.out ?_
         refine pv_ (i := 7) (N := some 58) HT_.out ?_
         refine pv_ (i := 8) (N := some 59) HT_.out ?_
         refine pv_ (i := 9) (N := some 60) HT_.out ?_
         refine pv_ (i := 10) (N := some 61) HT_.out ?_
         refine pv_ (i := 11) (N := some 62) HT_.out ?_
         refine pv_ (i := 13) (N := some 64) HT_.out ?_
         refine take_ (i := 12) (N := some 63) (v := ?_) (a' := ?_) #[true, true, true, true, true, true, true, true, true, true, true, true, true, true, false, false, false, false, false, false, false, false, false, false, false, false, false, false, false, false, false, false, false, false, false, false, false, false, false, false, false, false, false, false, false] rfl rfl (take_ofW HT_.out HW_.out (by kernel_rfl)) (fun _ _ _ h => h) (Or.inl ⟨by rfl, ?_⟩) hHeld ?_ ?_
         rotate_left
         ·rintro w' ⟨s0, s1, s2, s3, s4, s5, s6, s7, s8, s9, s10, s11, s12, s13, s14, s15, s16, s17⟩
          go_simp
          with_reducible rfl
         rotate_left
         ·simp only [Act.put, List.setIfInBounds_toArray, List.set_cons_zero, List.set_cons_succ, i64_w, i32_w]
          rfl
         refine take_ (i := 14) (N := some 65) (v := ?_) (a' := ?_) #[true, true, true, true, true, true, true, true, true, true, true, true, true, true, true, false, false, false, false, false, false, false, false, false, false, false, false, false, false, false, false, false, false, false, false, false, false, false, false, false, false, false, false, false, false] rfl rfl (take_ofW HT_.out HW_.out (by kernel_rfl)) (fun _ _ _ h => h) (Or.inl ⟨by rfl, ?_⟩) hHeld ?_ ?_
         rotate_left
         ·rintro w' ⟨s0, s1, s2, s3, s4, s5, s6, s7, s8, s9, s10, s11, s12, s13, s14, s15, s16, s17⟩
          go_simp
          with_reducible rfl
         rotate_left
         ·simp only [Act.put, List.setIfInBounds_toArray, List.set_cons_zero, List.set_cons_succ, i64_w, i32_w]
          rfl
         refine ov_ (i := 15) (N := some 66) HT_.out (fun K hK => ?_)
         refine gq_ Try.func10 #[.slice Ao27 t524.length co27, .slice Ao35 t533.length co35] ?_
         with_reducible refine (laws_sameInts.calls k _ _ t524 _ _ t533 true _ ?side1 ?side2 ?side3 ?side4 A49.out).mono ?_
         (case side1 => repeat (first | exact (Kd.R_reads' HO526.out).2.2 | (with_reducible refine Kd.C_alloc ?_ _) | (with_reducible refine Kd.C_drewN ?_ _) | (with_reducible refine Kd.C_drew ?_)))
         (case side2 => exact (Kd.R_reads' HO526.out).2.1)
         (case side3 => repeat (first | exact (Kd.R_reads' HO535.out).2.2 | (with_reducible refine Kd.C_alloc ?_ _) | (with_reducible refine Kd.C_drewN ?_ _) | (with_reducible refine Kd.C_drew ?_)))
         (case side4 => exact (Kd.R_reads' HO535.out).2.1)
         rintro e w' ⟨rfl, ⟨nd, rfl⟩⟩
         refine ⟨_, rfl, ?_⟩
         refine hK.out _ _ ⟨BK529.c 0, BK529.c 1, BK529.c 2, BK529.c 3, BK529.c 4, BK538.c 0, BK538.c 1, BK538.c 2, BK538.c 3, BK538.c 4, BK542.c 0, BK542.c 1, BK542.c 2, BK509.c 0, BK509.c 1, BK509.c 2, BK509.c 3, BK509.c 4⟩ (fun hHeld => ?_)
         clear hK K
         refine nm_ ?_
         refine pv_ (i := 16) (N := some 67) HT_.out ?_
         refine pv_ (i := 17) (N := some 68) HT_.out ?_
         refine pv_ (i := 18) (N := some 69) HT_.out ?_
         refine pv_ (i := 19) (N := some 70) HT_.out ?_
         refine pv_ (i := 21) (N := some 72) HT_.out ?_
         refine pv_ (i := 22) (N := some 73) HT_.out ?_
         refine take_ (i := 20) (N := some 71) (v := ?_) (a' := ?_) #[true, true, true, true, true, true, true, true, true, true, true, true, true, true, true, true, true, true, true, true, true, true, true, false, false, false, false, false, false, false, false, false, false, false, false, false, false, false, false, false, false, false, false, false, false] rfl rfl (take_ofW HT_.out HW_.out (by kernel_rfl)) (fun _ _ _ h => h) (Or.inl ⟨by rfl, ?_⟩) hHeld ?_ ?_
         rotate_left
         ·rintro w' ⟨s0, s1, s2, s3, s4, s5, s6, s7, s8, s9, s10, s11, s12, s13, s14, s15, s16, s17⟩
          go_simp
          with_reducible rfl
         rotate_left
         ·simp only [Act.put, List.setIfInBounds_toArray, List.set_cons_zero, List.set_cons_succ, i64_w, i32_w]
          rfl
         refine take_ (i := 23) (N := some 74) (v := ?_) (a' := ?_) #[true, true, true, true, true, true, true, true, true, true, true, true, true, true, true, true, true, true, true, true, true, true, true, true, false, false, false, false, false, false, false, false, false, false, false, false, false, false, false, false, false, false, false, false, false] rfl rfl (take_ofW HT_.out HW_.out (by kernel_rfl)) (fun _ _ _ h => h) (Or.inl ⟨by rfl, ?_⟩) hHeld ?_ ?_
         rotate_left
         ·rintro w' ⟨s0, s1, s2, s3, s4, s5, s6, s7, s8, s9, s10, s11, s12, s13, s14, s15, s16, s17⟩
          go_simp
          with_reducible rfl
         rotate_left
         ·simp only [Act.put, List.setIfInBounds_toArray, List.set_cons_zero, List.set_cons_succ, i64_w, i32_w]
          rfl
         refine pv_ (i := 24) (N := some 75) HT_.out ?_
         refine pv_ (i := 25) (N := some 76) HT_.out ?_
         refine pv_ (i := 26) (N := some 77) HT_.out ?_
         refine pv_ (i := 27) (N := some 78) HT_.out ?_
         refine pv_ (i := 31) (N := some 82) HT_.out ?_
         refine take_ (i := 28) (N := some 79) (v := ?_) (a' := ?_) #[true, true, true, true, true, true, true, true, true, true, true, true, true, true, true, true, true, true, true, true, true, true, true, true, true, true, true, true, true, false, false, true, false, false, false, false, false, false, false, false, false, false, false, false, false] rfl rfl (take_ofW HT_.out HW_.out (by kernel_rfl)) (fun _ _ _ h => h) (Or.inl ⟨by rfl, ?_⟩) hHeld ?_ ?_
         rotate_left
         ·rintro w' ⟨s0, s1, s2, s3, s4, s5, s6, s7, s8, s9, s10, s11, s12, s13, s14, s15, s16, s17⟩
          go_simp
          with_reducible rfl
         rotate_left
         ·simp only [Act.put, List.setIfInBounds_toArray, List.set_cons_zero, List.set_cons_succ, i64_w, i32_w]
          rfl
         refine take_ (i := 32) (N := some 83) (v := ?_) (a' := ?_) #[true, true, true, true, true, true, true, true, true, true, true, true, true, true, true, true, true, true, true, true, true, true, true, true, true, true, true, true, true, false, false, true, true, false, false, false, false, false, false, false, false, false, false, false, false] rfl rfl (take_ofW HT_.out HW_.out (by kernel_rfl)) (fun _ _ _ h => h) (Or.inl ⟨by rfl, ?_⟩) hHeld ?_ ?_
         rotate_left
         ·rintro w' ⟨s0, s1, s2, s3, s4, s5, s6, s7, s8, s9, s10, s11, s12, s13, s14, s15, s16, s17⟩
          go_simp
          with_reducible rfl
         rotate_left
         ·simp only [Act.put, List.setIfInBounds_toArray, List.set_cons_zero, List.set_cons_succ, i64_w, i32_w]
          rfl
         refine ov_ (i := 29) (N := some 80) HT_.out (fun K hK => ?_)
         refine gq_ Try.func8 #[.agg #[.int .i64 t521, .int .i64 t522, .int .i64 t523, .slice Ao27 t524.length co27, .int .i64 t527]] ?_
         with_reducible refine (impl_OpenNow.calls k t521 t522 t523 _ _ t524 t527 t545 t546 t547 _ ?side1 ?side2 A52.out).mono ?_
         (case side1 => repeat (first | exact (Kd.R_reads' HO526.out).2.2 | (with_reducible refine Kd.C_alloc ?_ _) | (with_reducible refine Kd.C_drewN ?_ _) | (with_reducible refine Kd.C_drew ?_)))
         (case side2 => exact (Kd.R_reads' HO526.out).2.1)
         rintro e w56 ⟨rfl, hb⟩
         refine ⟨_, rfl, ?_⟩
         replace HO507 := HO507.kb hb
         replace HO517 := HO517.kb hb
         replace HO526 := HO526.kb hb
         replace HO535 := HO535.kb hb
         replace BK509 := BK509.bb hb
         replace BK520 := BK520.bb hb
         replace BK529 := BK529.bb hb
         replace BK538 := BK538.bb hb
         replace BK542 := BK542.bb hb
         replace HB := HB.s5 GE509 GE520 GE529 GE538 GE542 hb
         skip
         (try clear hb2)
         (try clear hk)
         (try clear hi)
         refine hK.out _ _ ⟨BK529.c 0, BK529.c 1, BK529.c 2, BK529.c 3, BK529.c 4, BK538.c 0, BK538.c 1, BK538.c 2, BK538.c 3, BK538.c 4, BK542.c 0, BK542.c 1, BK542.c 2, BK509.c 0, BK509.c 1, BK509.c 2, BK509.c 3, BK509.c 4⟩ (fun hHeld => ?_)
         clear hK K
         refine nm_ ?_
         refine pv_ (i := 30) (N := some 81) HT_.out ?_
         refine pv_ (i := 33) (N := some 84) HT_.out ?_
         refine pv_ (i := 34) (N := some 85) HT_.out ?_
         refine pv_ (i := 35) (N := some 86) HT_.out ?_
         refine pv_ (i := 36) (N := some 87) HT_.out ?_
         refine pv_ (i := 37) (N := some 88) HT_.out ?_
         refine pv_ (i := 38) (N := some 89) HT_.out ?_
         refine pv_ (i := 39) (N := some 90) HT_.out ?_
         refine take_ (i := 40) (N := some 91) (v := ?_) (a' := ?_) #[true, true, true, true, true, true, true, true, true, true, true, true, true, true, true, true, true, true, true, true, true, true, true, true, true, true, true, true, true, true, true, true, true, true, true, true, true, true, true, true, true, false, false, false, false] rfl rfl (take_ofW HT_.out HW_.out (by kernel_rfl)) (fun _ _ _ h => h) (Or.inl ⟨by rfl, ?_⟩) hHeld ?_ ?_
         rotate_left
         ·rintro w' ⟨s0, s1, s2, s3, s4, s5, s6, s7, s8, s9, s10, s11, s12, s13, s14, s15, s16, s17⟩
          go_simp
          with_reducible rfl
         rotate_left
         ·simp only [Act.put, List.setIfInBounds_toArray, List.set_cons_zero, List.set_cons_succ, i64_w, i32_w]
          rfl
         refine ov_ (i := 41) (N := some 92) HT_.out (fun K hK => ?_)
         refine gq_ Try.func11 #[.agg #[.int .i64 t502, .int .i64 t503, .int .i64 t504]] ?_
         with_reducible refine (spec_CountPassages.calls k t502 t503 t504 t548 _ A54.out).mono ?_
         rintro e w57 ⟨rfl, hb⟩
         refine ⟨_, rfl, ?_⟩
         replace HO507 := HO507.kb hb
         replace HO517 := HO517.kb hb
         replace HO526 := HO526.kb hb
         replace HO535 := HO535.kb hb
         replace BK509 := BK509.bb hb
         replace BK520 := BK520.bb hb
         replace BK529 := BK529.bb hb
         replace BK538 := BK538.bb hb
         replace BK542 := BK542.bb hb
         replace HB := HB.s5 GE509 GE520 GE529 GE538 GE542 hb
         skip
         (try clear hb2)
         (try clear hk)
         (try clear hi)
         refine hK.out _ _ ⟨BK529.c 0, BK529.c 1, BK529.c 2, BK529.c 3, BK529.c 4, BK538.c 0, BK538.c 1, BK538.c 2, BK538.c 3, BK538.c 4, BK542.c 0, BK542.c 1, BK542.c 2, BK509.c 0, BK509.c 1, BK509.c 2, BK509.c 3, BK509.c 4⟩ (fun hHeld => ?_)
         clear hK K
         refine nm_ ?_
         refine pv_ (i := 42) (N := some 93) HT_.out ?_
         refine pv_ (i := 43) (N := some 94) HT_.out ?_
         refine pv_ (i := 44) (N := some 95) HT_.out ?_
         refine done_ (done_of HT_.out (by kernel_rfl)) ?_
         try go_wp2
         go_meet
         case rel => exact ⟨_, (((decide (t543 < 0)) != (t548 == 0))), (by first | rfl | (simp; done) | (simp [*]; done)), H', ⟨by first | omega | exact Nat.le_refl _⟩, ⟨by (with_reducible repeat (first | apply Kd.R_alloc | apply Kd.R_drewN | apply Kd.R_drew)); exact Kd.R_mono HO507.out (fun _ hk => ⟨hk.1.1.2, ⟨hk.1.2, hk.2⟩⟩)⟩, ⟨by (with_reducible repeat (first | apply Kd.R_alloc | apply Kd.R_drewN | apply Kd.R_drew)); exact Kd.R_mono HO517.out (fun _ hk => ⟨hk.1.1.2, ⟨hk.1.2, hk.2⟩⟩)⟩, ⟨by (with_reducible repeat (first | apply Kd.R_alloc | apply Kd.R_drewN | apply Kd.R_drew)); exact Kd.R_mono HO526.out (fun _ hk => ⟨hk.1.1.2, ⟨hk.1.2, hk.2⟩⟩)⟩, ⟨by (with_reducible repeat (first | apply Kd.R_alloc | apply Kd.R_drewN | apply Kd.R_drew)); exact Kd.R_mono HO535.out (fun _ hk => ⟨hk.1.1.2, ⟨hk.1.2, hk.2⟩⟩)⟩, ⟨bk_ BK509.out⟩, ⟨bk_ BK520.out⟩, ⟨bk_ BK529.out⟩, ⟨bk_ BK538.out⟩, ⟨bk_ BK542.out⟩, ⟨hb5_ HB.out GE509.out GE520.out GE529.out GE538.out GE542.out⟩⟩
        ·rw [if_neg c53] at H
         have c53b0 : ((Go.bits .andNot .i64 t547 t541) == 0) = false := beq_eq_false_iff_ne.mpr c53
         have c53b1 : ((Go.bits .andNot .i64 t547 t541) != 0) = true := bne_iff_ne.mpr c53
         have H' := Aside0.mk H
         clear H
         try go_wp2
         replace HO507 := Aside0.mk (Kd.R_drew HO507.out)
         replace HO517 := Aside0.mk (Kd.R_drew HO517.out)
         replace HO526 := Aside0.mk (Kd.R_drew HO526.out)
         replace HO535 := Aside0.mk (Kd.R_drew HO535.out)
         replace BK509 := Aside0.mk (blk_drew BK509.out)
         replace BK520 := Aside0.mk (blk_drew BK520.out)
         replace BK529 := Aside0.mk (blk_drew BK529.out)
         replace BK538 := Aside0.mk (blk_drew BK538.out)
         replace BK542 := Aside0.mk (blk_drew BK542.out)
         replace HB := Aside0.mk (below_drew1 HB.out)
         refine start_ (n := 45) (S := fun w' => w'.cell? ⟨gb529, 0, none⟩ = some (.int .i64 t521) ∧ w'.cell? ⟨gb529, 1, none⟩ = some (.int .i64 t522) ∧ w'.cell? ⟨gb529, 2, none⟩ = some (.int .i64 t523) ∧ w'.cell? ⟨gb529, 3, none⟩ = some (.slice Ao27 t524.length co27) ∧ w'.cell? ⟨gb529, 4, none⟩ = some (.int .i64 t527) ∧ w'.cell? ⟨gb538, 0, none⟩ = some (.int .i64 t530) ∧ w'.cell? ⟨gb538, 1, none⟩ = some (.int .i64 t531) ∧ w'.cell? ⟨gb538, 2, none⟩ = some (.int .i64 t532) ∧ w'.cell? ⟨gb538, 3, none⟩ = some (.slice Ao35 t533.length co35) ∧ w'.cell? ⟨gb538, 4, none⟩ = some (.int .i64 t536) ∧ w'.cell? ⟨gb542, 0, none⟩ = some (.int .i64 t539) ∧ w'.cell? ⟨gb542, 1, none⟩ = some (.int .i64 t540) ∧ w'.cell? ⟨gb542, 2, none⟩ = some (.int .i64 t541) ∧ w'.cell? ⟨gb509, 0, none⟩ = some (.int .i64 t502) ∧ w'.cell? ⟨gb509, 1, none⟩ = some (.int .i64 t503) ∧ w'.cell? ⟨gb509, 2, none⟩ = some (.int .i64 t504) ∧ w'.cell? ⟨gb509, 3, none⟩ = some (.slice Ao16 t505.length co16) ∧ w'.cell? ⟨gb509, 4, none⟩ = some (.int .i64 t508)) (ds := []) #[false, false, false, false, false, false, false, false, false, false, false, false, false, false, false, false, false, false, false, false, false, false, false, false, false, false, false, false, false, false, false, false, false, false, false, false, false, false, false, false, false, false, false, false, false] (by kernel_rfl) rfl rfl ⟨BK529.c 0, BK529.c 1, BK529.c 2, BK529.c 3, BK529.c 4, BK538.c 0, BK538.c 1, BK538.c 2, BK538.c 3, BK538.c 4, BK542.c 0, BK542.c 1, BK542.c 2, BK509.c 0, BK509.c 1, BK509.c 2, BK509.c 3, BK509.c 4⟩ (fun hHeld => ?_); refine with_tabW laws_FnHedges.tab11 laws_FnHedges.bits11 (fun HT_ HW_ => ?_)
         generalize w45.drew = w58 at HO507 HO517 HO526 HO535 BK509 BK520 BK529 BK538 BK542 HB hHeld ⊢
         refine pv_ (i := 0) (N := some 51) HT_.out ?_
         refine pv_ (i := 1) (N := some 52) HT_.out ?_
         refine pv_ (i := 2) (N := some 53) HT_.out ?_
         refine pv_ (i := 3) (N := some 54) HT_.out ?_
         refine pv_ (i := 4) (N := some 55) HT_.out ?_
         refine pv_ (i := 5) (N := some 56) HT_.out ?_
         refine pv_ (i := 6) (N := some 57) HT_.out ?_
         refine pv_ (i := 7) (N := some 58) HT_.out ?_
         refine pv_ (i := 8) (N := some 59) HT_.out ?_
         refine pv_ (i := 9) (N := some 60) HT_.out ?_
         refine pv_ (i := 10) (N := some 61) HT_.out ?_
         refine pv_ (i := 11) (N := some 62) HT_.out ?_
         refine pv_ (i := 13) (N := some 64) HT_.out ?_
         refine take_ (i := 12) (N := some 63) (v := ?_) (a' := ?_) #[true, true, true, true, true, true, true, true, true, true, true, true, true, true, false, false, false, false, false, false, false, false, false, false, false, false, false, false, false, false, false, false, false, false, false, false, false, false, false, false, false, false, false, false, false] rfl rfl (take_ofW HT_.out HW_.out (by kernel_rfl)) (fun _ _ _ h => h) (Or.inl ⟨by rfl, ?_⟩) hHeld ?_ ?_
         rotate_left
         ·rintro w' ⟨s0, s1, s2, s3, s4, s5, s6, s7, s8, s9, s10, s11, s12, s13, s14, s15, s16, s17⟩
          go_simp
          with_reducible rfl
         rotate_left
         ·simp only [Act.put, List.setIfInBounds_toArray, List.set_cons_zero, List.set_cons_succ, i64_w, i32_w]
          rfl
         refine take_ (i := 14) (N := some 65) (v := ?_) (a' := ?_) #[true, true, true, true, true, true, true, true, true, true, true, true, true, true, true, false, false, false, false, false, false, false, false, false, false, false, false, false, false, false, false, false, false, false, false, false, false, false, false, false, false, false, false, false, false] rfl rfl (take_ofW HT_.out HW_.out (by kernel_rfl)) (fun _ _ _ h => h) (Or.inl ⟨by rfl, ?_⟩) hHeld ?_ ?_
         rotate_left
         ·rintro w' ⟨s0, s1, s2, s3, s4, s5, s6, s7, s8, s9, s10, s11, s12, s13, s14, s15, s16, s17⟩
          go_simp
          with_reducible rfl
         rotate_left
         ·simp only [Act.put, List.setIfInBounds_toArray, List.set_cons_zero, List.set_cons_succ, i64_w, i32_w]
          rfl
         refine ov_ (i := 15) (N := some 66) HT_.out (fun K hK => ?_)
         refine gq_ Try.func10 #[.slice Ao27 t524.length co27, .slice Ao35 t533.length co35] ?_
         with_reducible refine (laws_sameInts.calls k _ _ t524 _ _ t533 true _ ?side1 ?side2 ?side3 ?side4 A49.out).mono ?_
         (case side1 => repeat (first | exact (Kd.R_reads' HO526.out).2.2 | (with_reducible refine Kd.C_alloc ?_ _) | (with_reducible refine Kd.C_drewN ?_ _) | (with_reducible refine Kd.C_drew ?_)))
         (case side2 => exact (Kd.R_reads' HO526.out).2.1)
         (case side3 => repeat (first | exact (Kd.R_reads' HO535.out).2.2 | (with_reducible refine Kd.C_alloc ?_ _) | (with_reducible refine Kd.C_drewN ?_ _) | (with_reducible refine Kd.C_drew ?_)))
         (case side4 => exact (Kd.R_reads' HO535.out).2.1)
         rintro e w' ⟨rfl, ⟨nd, rfl⟩⟩
         refine ⟨_, rfl, ?_⟩
         refine hK.out _ _ ⟨BK529.c 0, BK529.c 1, BK529.c 2, BK529.c 3, BK529.c 4, BK538.c 0, BK538.c 1, BK538.c 2, BK538.c 3, BK538.c 4, BK542.c 0, BK542.c 1, BK542.c 2, BK509.c 0, BK509.c 1, BK509.c 2, BK509.c 3, BK509.c 4⟩ (fun hHeld => ?_)
         clear hK K
         refine nm_ ?_
         refine pv_ (i := 16) (N := some 67) HT_.out ?_
         refine pv_ (i := 17) (N := some 68) HT_.out ?_
         refine pv_ (i := 18) (N := some 69) HT_.out ?_
         refine pv_ (i := 19) (N := some 70) HT_.out ?_
         refine pv_ (i := 21) (N := some 72) HT_.out ?_
         refine pv_ (i := 22) (N := some 73) HT_.out ?_
         refine take_ (i := 20) (N := some 71) (v := ?_) (a' := ?_) #[true, true, true, true, true, true, true, true, true, true, true, true, true, true, true, true, true, true, true, true, true, true, true, false, false, false, false, false, false, false, false, false, false, false, false, false, false, false, false, false, false, false, false, false, false] rfl rfl (take_ofW HT_.out HW_.out (by kernel_rfl)) (fun _ _ _ h => h) (Or.inl ⟨by rfl, ?_⟩) hHeld ?_ ?_
         rotate_left
         ·rintro w' ⟨s0, s1, s2, s3, s4, s5, s6, s7, s8, s9, s10, s11, s12, s13, s14, s15, s16, s17⟩
          go_simp
          with_reducible rfl
         rotate_left
         ·simp only [Act.put, List.setIfInBounds_toArray, List.set_cons_zero, List.set_cons_succ, i64_w, i32_w]
          rfl
         refine take_ (i := 23) (N := some 74) (v := ?_) (a' := ?_) #[true, true, true, true, true, true, true, true, true, true, true, true, true, true, true, true, true, true, true, true, true, true, true, true, false, false, false, false, false, false, false, false, false, false, false, false, false, false, false, false, false, false, false, false, false] rfl rfl (take_ofW HT_.out HW_.out (by kernel_rfl)) (fun _ _ _ h => h) (Or.inl ⟨by rfl, ?_⟩) hHeld ?_ ?_
         rotate_left
         ·rintro w' ⟨s0, s1, s2, s3, s4, s5, s6, s7, s8, s9, s10, s11, s12, s13, s14, s15, s16, s17⟩
          go_simp
          with_reducible rfl
         rotate_left
         ·simp only [Act.put, List.setIfInBounds_toArray, List.set_cons_zero, List.set_cons_succ, i64_w, i32_w]
          rfl
         refine pv_ (i := 24) (N := some 75) HT_.out ?_
         refine pv_ (i := 25) (N := some 76) HT_.out ?_
         refine pv_ (i := 26) (N := some 77) HT_.out ?_
         refine pv_ (i := 27) (N := some 78) HT_.out ?_
         refine pv_ (i := 31) (N := some 82) HT_.out ?_
         refine take_ (i := 28) (N := some 79) (v := ?_) (a' := ?_) #[true, true, true, true, true, true, true, true, true, true, true, true, true, true, true, true, true, true, true, true, true, true, true, true, true, true, true, true, true, false, false, true, false, false, false, false, false, false, false, false, false, false, false, false, false] rfl rfl (take_ofW HT_.out HW_.out (by kernel_rfl)) (fun _ _ _ h => h) (Or.inl ⟨by rfl, ?_⟩) hHeld ?_ ?_
         rotate_left
         ·rintro w' ⟨s0, s1, s2, s3, s4, s5, s6, s7, s8, s9, s10, s11, s12, s13, s14, s15, s16, s17⟩
          go_simp
          with_reducible rfl
         rotate_left
         ·simp only [Act.put, List.setIfInBounds_toArray, List.set_cons_zero, List.set_cons_succ, i64_w, i32_w]
          rfl
         refine take_ (i := 32) (N := some 83) (v := ?_) (a' := ?_) #[true, true, true, true, true, true, true, true, true, true, true, true, true, true, true, true, true, true, true, true, true, true, true, true, true, true, true, true, true, false, false, true, true, false, false, false, false, false, false, false, false, false, false, false, false] rfl rfl (take_ofW HT_.out HW_.out (by kernel_rfl)) (fun _ _ _ h => h) (Or.inl ⟨by rfl, ?_⟩) hHeld ?_ ?_
         rotate_left
         ·rintro w' ⟨s0, s1, s2, s3, s4, s5, s6, s7, s8, s9, s10, s11, s12, s13, s14, s15, s16, s17⟩
          go_simp
          with_reducible rfl
         rotate_left
         ·simp only [Act.put, List.setIfInBounds_toArray, List.set_cons_zero, List.set_cons_succ, i64_w, i32_w]
          rfl
         refine ov_ (i := 29) (N := some 80) HT_.out (fun K hK => ?_)
         refine gq_ Try.func8 #[.agg #[.int .i64 t521, .int .i64 t522, .int .i64 t523, .slice Ao27 t524.length co27, .int .i64 t527]] ?_
         with_reducible refine (impl_OpenNow.calls k t521 t522 t523 _ _ t524 t527 t545 t546 t547 _ ?side1 ?side2 A52.out).mono ?_
         (case side1 => repeat (first | exact (Kd.R_reads' HO526.out).2.2 | (with_reducible refine Kd.C_alloc ?_ _) | (with_reducible refine Kd.C_drewN ?_ _) | (with_reducible refine Kd.C_drew ?_)))
         (case side2 => exact (Kd.R_reads' HO526.out).2.1)
         rintro e w59 ⟨rfl, hb⟩
         refine ⟨_, rfl, ?_⟩
         replace HO507 := HO507.kb hb
         replace HO517 := HO517.kb hb
         replace HO526 := HO526.kb hb
         replace HO535 := HO535.kb hb
         replace BK509 := BK509.bb hb
         replace BK520 := BK520.bb hb
         replace BK529 := BK529.bb hb
         replace BK538 := BK538.bb hb
         replace BK542 := BK542.bb hb
         replace HB := HB.s5 GE509 GE520 GE529 GE538 GE542 hb
         skip
         (try clear hb2)
         (try clear hk)
         (try clear hi)
         refine hK.out _ _ ⟨BK529.c 0, BK529.c 1, BK529.c 2, BK529.c 3, BK529.c 4, BK538.c 0, BK538.c 1, BK538.c 2, BK538.c 3, BK538.c 4, BK542.c 0, BK542.c 1, BK542.c 2, BK509.c 0, BK509.c 1, BK509.c 2, BK509.c 3, BK509.c 4⟩ (fun hHeld => ?_)
         clear hK K
         refine nm_ ?_
         refine pv_ (i := 30) (N := some 81) HT_.out ?_
         refine pv_ (i := 33) (N := some 84) HT_.out ?_
         refine pv_ (i := 34) (N := some 85) HT_.out ?_
         refine pv_ (i := 35) (N := some 86) HT_.out ?_
         refine pv_ (i := 36) (N := some 87) HT_.out ?_
         refine pu_ (i := 37) (N := some 88) HT_.out ?_
         refine pu_ (i := 38) (N := some 89) HT_.out ?_
         refine pu_ (i := 39) (N := some 90) HT_.out ?_
         refine pu_ (i := 40) (N := some 91) HT_.out ?_
         refine pu_ (i := 41) (N := some 92) HT_.out ?_
         refine pu_ (i := 42) (N := some 93) HT_.out ?_
         refine pu_ (i := 43) (N := some 94) HT_.out ?_
         refine pv_ (i := 44) (N := some 95) HT_.out ?_
         refine done_ (done_of HT_.out (by kernel_rfl)) ?_
         try go_wp2
         go_meet
         case rel => exact ⟨_, (true), (by first | rfl | (simp; done) | (simp [*]; done)), H', ⟨by first | omega | exact Nat.le_refl _⟩, ⟨by (with_reducible repeat (first | apply Kd.R_alloc | apply Kd.R_drewN | apply Kd.R_drew)); exact Kd.R_mono HO507.out (fun _ hk => ⟨hk.1.1.2, ⟨hk.1.2, hk.2⟩⟩)⟩, ⟨by (with_reducible repeat (first | apply Kd.R_alloc | apply Kd.R_drewN | apply Kd.R_drew)); exact Kd.R_mono HO517.out (fun _ hk => ⟨hk.1.1.2, ⟨hk.1.2, hk.2⟩⟩)⟩, ⟨by (with_reducible repeat (first | apply Kd.R_alloc | apply Kd.R_drewN | apply Kd.R_drew)); exact Kd.R_mono HO526.out (fun _ hk => ⟨hk.1.1.2, ⟨hk.1.2, hk.2⟩⟩)⟩, ⟨by (with_reducible repeat (first | apply Kd.R_alloc | apply Kd.R_drewN | apply Kd.R_drew)); exact Kd.R_mono HO535.out (fun _ hk => ⟨hk.1.1.2, ⟨hk.1.2, hk.2⟩⟩)⟩, ⟨bk_ BK509.out⟩, ⟨bk_ BK520.out⟩, ⟨bk_ BK529.out⟩, ⟨bk_ BK538.out⟩, ⟨bk_ BK542.out⟩, ⟨hb5_ HB.out GE509.out GE520.out GE529.out GE538.out GE542.out⟩⟩
       ·rw [if_neg c51] at H
        have c51b0 : ((Go.bits .andNot .i64 t541 t504) == 0) = false := beq_eq_false_iff_ne.mpr c51
        have c51b1 : ((Go.bits .andNot .i64 t541 t504) != 0) = true := bne_iff_ne.mpr c51
        (first | rw [c51b0] | (simp only [i64_w, i32_w]; rw [c51b0]) | skip)
        have H' := Aside0.mk H
        clear H
        try go_wp2
        replace HO507 := Aside0.mk (Kd.R_drew HO507.out)
        replace HO517 := Aside0.mk (Kd.R_drew HO517.out)
        replace HO526 := Aside0.mk (Kd.R_drew HO526.out)
        replace HO535 := Aside0.mk (Kd.R_drew HO535.out)
        replace BK509 := Aside0.mk (blk_drew BK509.out)
        replace BK520 := Aside0.mk (blk_drew BK520.out)
        replace BK529 := Aside0.mk (blk_drew BK529.out)
        replace BK538 := Aside0.mk (blk_drew BK538.out)
        replace BK542 := Aside0.mk (blk_drew BK542.out)
        replace HB := Aside0.mk (below_drew1 HB.out)
        refine start_ (n := 45) (S := fun w' => w'.cell? ⟨gb529, 0, none⟩ = some (.int .i64 t521) ∧ w'.cell? ⟨gb529, 1, none⟩ = some (.int .i64 t522) ∧ w'.cell? ⟨gb529, 2, none⟩ = some (.int .i64 t523) ∧ w'.cell? ⟨gb529, 3, none⟩ = some (.slice Ao27 t524.length co27) ∧ w'.cell? ⟨gb529, 4, none⟩ = some (.int .i64 t527) ∧ w'.cell? ⟨gb538, 0, none⟩ = some (.int .i64 t530) ∧ w'.cell? ⟨gb538, 1, none⟩ = some (.int .i64 t531) ∧ w'.cell? ⟨gb538, 2, none⟩ = some (.int .i64 t532) ∧ w'.cell? ⟨gb538, 3, none⟩ = some (.slice Ao35 t533.length co35) ∧ w'.cell? ⟨gb538, 4, none⟩ = some (.int .i64 t536) ∧ w'.cell? ⟨gb542, 0, none⟩ = some (.int .i64 t539) ∧ w'.cell? ⟨gb542, 1, none⟩ = some (.int .i64 t540) ∧ w'.cell? ⟨gb542, 2, none⟩ = some (.int .i64 t541) ∧ w'.cell? ⟨gb509, 0, none⟩ = some (.int .i64 t502) ∧ w'.cell? ⟨gb509, 1, none⟩ = some (.int .i64 t503) ∧ w'.cell? ⟨gb509, 2, none⟩ = some (.int .i64 t504) ∧ w'.cell? ⟨gb509, 3, none⟩ = some (.slice Ao16 t505.length co16) ∧ w'.cell? ⟨gb509, 4, none⟩ = some (.int .i64 t508)) (ds := []) #[false, false, false, false, false, false, false, false, false, false, false, false, false, false, false, false, false, false, false, false, false, false, false, false, false, false, false, false, false, false, false, false, false, false, false, false, false, false, false, false, false, false, false, false, false] (by kernel_rfl) rfl rfl ⟨BK529.c 0, BK529.c 1, BK529.c 2, BK529.c 3, BK529.c 4, BK538.c 0, BK538.c 1, BK538.c 2, BK538.c 3, BK538.c 4, BK542.c 0, BK542.c 1, BK542.c 2, BK509.c 0, BK509.c 1, BK509.c 2, BK509.c 3, BK509.c 4⟩ (fun hHeld => ?_); refine with_tabW laws_FnHedges.tab11 laws_FnHedges.bits11 (fun HT_ HW_ => ?_)
        generalize w45.drew = w60 at HO507 HO517 HO526 HO535 BK509 BK520 BK529 BK538 BK542 HB hHeld ⊢
        refine pv_ (i := 0) (N := some 51) HT_.out ?_
        refine pv_ (i := 1) (N := some 52) HT_.out ?_
        refine pv_ (i := 2) (N := some 53) HT_.out ?_
        refine pv_ (i := 3) (N := some 54) HT_.out ?_
        refine pv_ (i := 4) (N := some 55) HT_.out ?_
        refine pv_ (i := 5) (N := some 56) HT_.out ?_
        refine pv_ (i := 6) (N := some 57) HT_.out ?_
        refine pv_ (i := 7) (N := some 58) HT_.out ?_
        refine pv_ (i := 8) (N := some 59) HT_.out ?_
        refine pv_ (i := 9) (N := some 60) HT_.out ?_
        refine pv_ (i := 10) (N := some 61) HT_.out ?_
        refine pv_ (i := 11) (N := some 62) HT_.out ?_
        refine pv_ (i := 13) (N := some 64) HT_.out ?_
        refine take_ (i := 12) (N := some 63) (v := ?_) (a' := ?_) #[true, true, true, true, true, true, true, true, true, true, true, true, true, true, false, false, false, false, false, false, false, false, false, false, false, false, false, false, false, false, false, false, false, false, false, false, false, false, false, false, false, false, false, false, false] rfl rfl (take_ofW HT_.out HW_.out (by kernel_rfl)) (fun _ _ _ h => h) (Or.inl ⟨by rfl, ?_⟩) hHeld ?_ ?_
        rotate_left
        ·rintro w' ⟨s0, s1, s2, s3, s4, s5, s6, s7, s8, s9, s10, s11, s12, s13, s14, s15, s16, s17⟩
         go_simp
         with_reducible rfl
        rotate_left
        ·simp only [Act.put, List.setIfInBounds_toArray, List.set_cons_zero, List.set_cons_succ, i64_w, i32_w]
         rfl
        refine take_ (i := 14) (N := some 65) (v := ?_) (a' := ?_) #[true, true, true, true, true, true, true, true, true, true, true, true, true, true, true, false, false, false, false, false, false, false, false, false, false, false, false, false, false, false, false, false, false, false, false, false, false, false, false, false, false, false, false, false, false] rfl rfl (take_ofW HT_.out HW_.out (by kernel_rfl)) (fun _ _ _ h => h) (Or.inl ⟨by rfl, ?_⟩) hHeld ?_ ?_
        rotate_left
        ·rintro w' ⟨s0, s1, s2, s3, s4, s5, s6, s7, s8, s9, s10, s11, s12, s13, s14, s15, s16, s17⟩
         go_simp
         with_reducible rfl
        rotate_left
        ·simp only [Act.put, List.setIfInBounds_toArray, List.set_cons_zero, List.set_cons_succ, i64_w, i32_w]
         rfl
        refine ov_ (i := 15) (N := some 66) HT_.out (fun K hK => ?_)
        refine gq_ Try.func10 #[.slice Ao27 t524.length co27, .slice Ao35 t533.length co35] ?_
        with_reducible refine (laws_sameInts.calls k _ _ t524 _ _ t533 true _ ?side1 ?side2 ?side3 ?side4 A49.out).mono ?_
        (case side1 => repeat (first | exact (Kd.R_reads' HO526.out).2.2 | (with_reducible refine Kd.C_alloc ?_ _) | (with_reducible refine Kd.C_drewN ?_ _) | (with_reducible refine Kd.C_drew ?_)))
        (case side2 => exact (Kd.R_reads' HO526.out).2.1)
        (case side3 => repeat (first | exact (Kd.R_reads' HO535.out).2.2 | (with_reducible refine Kd.C_alloc ?_ _) | (with_reducible refine Kd.C_drewN ?_ _) | (with_reducible refine Kd.C_drew ?_)))
        (case side4 => exact (Kd.R_reads' HO535.out).2.1)
        rintro e w' ⟨rfl, ⟨nd, rfl⟩⟩
        refine ⟨_, rfl, ?_⟩
        refine hK.out _ _ ⟨BK529.c 0, BK529.c 1, BK529.c 2, BK529.c 3, BK529.c 4, BK538.c 0, BK538.c 1, BK538.c 2, BK538.c 3, BK538.c 4, BK542.c 0, BK542.c 1, BK542.c 2, BK509.c 0, BK509.c 1, BK509.c 2, BK509.c 3, BK509.c 4⟩ (fun hHeld => ?_)
        clear hK K
        refine nm_ ?_
        refine pv_ (i := 16) (N := some 67) HT_.out ?_
        refine pv_ (i := 17) (N := some 68) HT_.out ?_
        refine pv_ (i := 18) (N := some 69) HT_.out ?_
        refine pv_ (i := 19) (N := some 70) HT_.out ?_
        refine pv_ (i := 21) (N := some 72) HT_.out ?_
        refine pv_ (i := 22) (N := some 73) HT_.out ?_
        refine take_ (i := 20) (N := some 71) (v := ?_) (a' := ?_) #[true, true, true, true, true, true, true, true, true, true, true, true, true, true, true, true, true, true, true, true, true, true, true, false, false, false, false, false, false, false, false, false, false, false, false, false, false, false, false, false, false, false, false, false, false] rfl rfl (take_ofW HT_.out HW_.out (by kernel_rfl)) (fun _ _ _ h => h) (Or.inl ⟨by rfl, ?_⟩) hHeld ?_ ?_
        rotate_left
        ·rintro w' ⟨s0, s1, s2, s3, s4, s5, s6, s7, s8, s9, s10, s11, s12, s13, s14, s15, s16, s17⟩
         go_simp
         with_reducible rfl
        rotate_left
        ·simp only [Act.put, List.setIfInBounds_toArray, List.set_cons_zero, List.set_cons_succ, i64_w, i32_w]
         rfl
        refine take_ (i := 23) (N := some 74) (v := ?_) (a' := ?_) #[true, true, true, true, true, true, true, true, true, true, true, true, true, true, true, true, true, true, true, true, true, true, true, true, false, false, false, false, false, false, false, false, false, false, false, false, false, false, false, false, false, false, false, false, false] rfl rfl (take_ofW HT_.out HW_.out (by kernel_rfl)) (fun _ _ _ h => h) (Or.inl ⟨by rfl, ?_⟩) hHeld ?_ ?_
        rotate_left
        ·rintro w' ⟨s0, s1, s2, s3, s4, s5, s6, s7, s8, s9, s10, s11, s12, s13, s14, s15, s16, s17⟩
         go_simp
         with_reducible rfl
        rotate_left
        ·simp only [Act.put, List.setIfInBounds_toArray, List.set_cons_zero, List.set_cons_succ, i64_w, i32_w]
         rfl
        refine pv_ (i := 24) (N := some 75) HT_.out ?_
        refine pv_ (i := 25) (N := some 76) HT_.out ?_
        refine pv_ (i := 26) (N := some 77) HT_.out ?_
        refine pv_ (i := 27) (N := some 78) HT_.out ?_
        refine pu_ (i := 28) (N := some 79) HT_.out ?_
        refine pu_ (i := 29) (N := some 80) HT_.out ?_
        refine pu_ (i := 30) (N := some 81) HT_.out ?_
        refine pu_ (i := 31) (N := some 82) HT_.out ?_
        refine pu_ (i := 32) (N := some 83) HT_.out ?_
        refine pu_ (i := 33) (N := some 84) HT_.out ?_
        refine pu_ (i := 34) (N := some 85) HT_.out ?_
        refine pv_ (i := 35) (N := some 86) HT_.out ?_
        refine pv_ (i := 36) (N := some 87) HT_.out ?_
        refine pu_ (i := 37) (N := some 88) HT_.out ?_
        refine pu_ (i := 38) (N := some 89) HT_.out ?_
        refine pu_ (i := 39) (N := some 90) HT_.out ?_
        refine pu_ (i := 40) (N := some 91) HT_.out ?_
        refine pu_ (i := 41) (N := some 92) HT_.out ?_
        refine pu_ (i := 42) (N := some 93) HT_.out ?_
        refine pu_ (i := 43) (N := some 94) HT_.out ?_
        refine pv_ (i := 44) (N := some 95) HT_.out ?_
        refine done_ (done_of HT_.out (by kernel_rfl)) ?_
        try go_wp2
        go_meet
        case rel => exact ⟨_, (true), (by first | rfl | (simp; done) | (simp [*]; done)), H', ⟨by first | omega | exact Nat.le_refl _⟩, ⟨by (with_reducible repeat (first | apply Kd.R_alloc | apply Kd.R_drewN | apply Kd.R_drew)); exact Kd.R_mono HO507.out (fun _ hk => ⟨hk.1.1.2, ⟨hk.1.2, hk.2⟩⟩)⟩, ⟨by (with_reducible repeat (first | apply Kd.R_alloc | apply Kd.R_drewN | apply Kd.R_drew)); exact Kd.R_mono HO517.out (fun _ hk => ⟨hk.1.1.2, ⟨hk.1.2, hk.2⟩⟩)⟩, ⟨by (with_reducible repeat (first | apply Kd.R_alloc | apply Kd.R_drewN | apply Kd.R_drew)); exact Kd.R_mono HO526.out (fun _ hk => ⟨hk.1.1.2, ⟨hk.1.2, hk.2⟩⟩)⟩, ⟨by (with_reducible repeat (first | apply Kd.R_alloc | apply Kd.R_drewN | apply Kd.R_drew)); exact Kd.R_mono HO535.out (fun _ hk => ⟨hk.1.1.2, ⟨hk.1.2, hk.2⟩⟩)⟩, ⟨bk_ BK509.out⟩, ⟨bk_ BK520.out⟩, ⟨bk_ BK529.out⟩, ⟨bk_ BK538.out⟩, ⟨bk_ BK542.out⟩, ⟨hb5_ HB.out GE509.out GE520.out GE529.out GE538.out GE542.out⟩⟩
      ·replace c50 := Bool.eq_false_iff.mpr c50
       subst c50
       have H1 : (laws_FnHedges.j0 k (Int.tmod t511 10) t543 true t502 t503 t504 t505 t508 t521 t522 t523 t524 t527 t539 t540 t541) = some r := by rw [if_neg (show ¬ (false = true) by decide)] at H; exact H
       clear H
       have H := H1
       clear H1
       have H' := Aside0.mk H
       clear H
       try go_wp2
       replace HO507 := Aside0.mk (Kd.R_drew HO507.out)
       replace HO517 := Aside0.mk (Kd.R_drew HO517.out)
       replace HO526 := Aside0.mk (Kd.R_drew HO526.out)
       replace HO535 := Aside0.mk (Kd.R_drew HO535.out)
       replace BK509 := Aside0.mk (blk_drew BK509.out)
       replace BK520 := Aside0.mk (blk_drew BK520.out)
       replace BK529 := Aside0.mk (blk_drew BK529.out)
       replace BK538 := Aside0.mk (blk_drew BK538.out)
       replace BK542 := Aside0.mk (blk_drew BK542.out)
       replace HB := Aside0.mk (below_drew1 HB.out)
       refine start_ (n := 45) (S := fun w' => w'.cell? ⟨gb529, 0, none⟩ = some (.int .i64 t521) ∧ w'.cell? ⟨gb529, 1, none⟩ = some (.int .i64 t522) ∧ w'.cell? ⟨gb529, 2, none⟩ = some (.int .i64 t523) ∧ w'.cell? ⟨gb529, 3, none⟩ = some (.slice Ao27 t524.length co27) ∧ w'.cell? ⟨gb529, 4, none⟩ = some (.int .i64 t527) ∧ w'.cell? ⟨gb538, 0, none⟩ = some (.int .i64 t530) ∧ w'.cell? ⟨gb538, 1, none⟩ = some (.int .i64 t531) ∧ w'.cell? ⟨gb538, 2, none⟩ = some (.int .i64 t532) ∧ w'.cell? ⟨gb538, 3, none⟩ = some (.slice Ao35 t533.length co35) ∧ w'.cell? ⟨gb538, 4, none⟩ = some (.int .i64 t536)) (ds := []) #[false, false, false, false, false, false, false, false, false, false, false, false, false, false, false, false, false, false, false, false, false, false, false, false, false, false, false, false, false, false, false, false, false, false, false, false, false, false, false, false, false, false, false, false, false] (by kernel_rfl) rfl rfl ⟨BK529.c 0, BK529.c 1, BK529.c 2, BK529.c 3, BK529.c 4, BK538.c 0, BK538.c 1, BK538.c 2, BK538.c 3, BK538.c 4⟩ (fun hHeld => ?_); refine with_tabW laws_FnHedges.tab11 laws_FnHedges.bits11 (fun HT_ HW_ => ?_)
       generalize w45.drew = w61 at HO507 HO517 HO526 HO535 BK509 BK520 BK529 BK538 BK542 HB hHeld ⊢
       refine pv_ (i := 0) (N := some 51) HT_.out ?_
       refine pv_ (i := 1) (N := some 52) HT_.out ?_
       refine pv_ (i := 2) (N := some 53) HT_.out ?_
       refine pv_ (i := 3) (N := some 54) HT_.out ?_
       refine pv_ (i := 4) (N := some 55) HT_.out ?_
       refine pv_ (i := 5) (N := some 56) HT_.out ?_
       refine pv_ (i := 6) (N := some 57) HT_.out ?_
       refine pv_ (i := 7) (N := some 58) HT_.out ?_
       refine pv_ (i := 8) (N := some 59) HT_.out ?_
       refine pv_ (i := 9) (N := some 60) HT_.out ?_
       refine pv_ (i := 10) (N := some 61) HT_.out ?_
       refine pv_ (i := 11) (N := some 62) HT_.out ?_
       refine pv_ (i := 13) (N := some 64) HT_.out ?_
       refine tv10_ (i := 12) (N := some 63) HT_.out HW_.out hHeld ?_
       refine tv10_ (i := 14) (N := some 65) HT_.out HW_.out hHeld ?_
       refine ov_ (i := 15) (N := some 66) HT_.out (fun K hK => ?_)
       refine gq_ Try.func10 #[.slice Ao27 t524.length co27, .slice Ao35 t533.length co35] ?_
       with_reducible refine (laws_sameInts.calls k _ _ t524 _ _ t533 false _ ?side1 ?side2 ?side3 ?side4 A49.out).mono ?_
       (case side1 => repeat (first | exact (Kd.R_reads' HO526.out).2.2 | (with_reducible refine Kd.C_alloc ?_ _) | (with_reducible refine Kd.C_drewN ?_ _) | (with_reducible refine Kd.C_drew ?_)))
       (case side2 => exact (Kd.R_reads' HO526.out).2.1)
       (case side3 => repeat (first | exact (Kd.R_reads' HO535.out).2.2 | (with_reducible refine Kd.C_alloc ?_ _) | (with_reducible refine Kd.C_drewN ?_ _) | (with_reducible refine Kd.C_drew ?_)))
       (case side4 => exact (Kd.R_reads' HO535.out).2.1)
       rintro e w' ⟨rfl, ⟨nd, rfl⟩⟩
       refine ⟨_, rfl, ?_⟩
       refine hK.out _ _ ⟨BK529.c 0, BK529.c 1, BK529.c 2, BK529.c 3, BK529.c 4, BK538.c 0, BK538.c 1, BK538.c 2, BK538.c 3, BK538.c 4⟩ (fun hHeld => ?_)
       clear hK K
       refine nm_ ?_
       refine pv_ (i := 16) (N := some 67) HT_.out ?_
       refine pv_ (i := 17) (N := some 68) HT_.out ?_
       refine pv_ (i := 18) (N := some 69) HT_.out ?_
       refine pu_ (i := 19) (N := some 70) HT_.out ?_
       refine pu_ (i := 20) (N := some 71) HT_.out ?_
       refine pu_ (i := 21) (N := some 72) HT_.out ?_
       refine pu_ (i := 22) (N := some 73) HT_.out ?_
       refine pu_ (i := 23) (N := some 74) HT_.out ?_
       refine pu_ (i := 24) (N := some 75) HT_.out ?_
       refine pu_ (i := 25) (N := some 76) HT_.out ?_
       refine pv_ (i := 26) (N := some 77) HT_.out ?_
       refine pv_ (i := 27) (N := some 78) HT_.out ?_
       refine pu_ (i := 28) (N := some 79) HT_.out ?_
       refine pu_ (i := 29) (N := some 80) HT_.out ?_
       refine pu_ (i := 30) (N := some 81) HT_.out ?_
       refine pu_ (i := 31) (N := some 82) HT_.out ?_
       refine pu_ (i := 32) (N := some 83) HT_.out ?_
       refine pu_ (i := 33) (N := some 84) HT_.out ?_
       refine pu_ (i := 34) (N := some 85) HT_.out ?_
       refine pv_ (i := 35) (N := some 86) HT_.out ?_
       refine pv_ (i := 36) (N := some 87) HT_.out ?_
       refine pu_ (i := 37) (N := some 88) HT_.out ?_
       refine pu_ (i := 38) (N := some 89) HT_.out ?_
       refine pu_ (i := 39) (N := some 90) HT_.out ?_
       refine pu_ (i := 40) (N := some 91) HT_.out ?_
       refine pu_ (i := 41) (N := some 92) HT_.out ?_
       refine pu_ (i := 42) (N := some 93) HT_.out ?_
       refine pu_ (i := 43) (N := some 94) HT_.out ?_
       refine pv_ (i := 44) (N := some 95) HT_.out ?_
       refine done_ (done_of HT_.out (by kernel_rfl)) ?_
       try go_wp2
       go_meet
       case rel => exact ⟨_, (true), (by first | rfl | (simp; done) | (simp [*]; done)), H', ⟨by first | omega | exact Nat.le_refl _⟩, ⟨by (with_reducible repeat (first | apply Kd.R_alloc | apply Kd.R_drewN | apply Kd.R_drew)); exact Kd.R_mono HO507.out (fun _ hk => ⟨hk.1.1.2, ⟨hk.1.2, hk.2⟩⟩)⟩, ⟨by (with_reducible repeat (first | apply Kd.R_alloc | apply Kd.R_drewN | apply Kd.R_drew)); exact Kd.R_mono HO517.out (fun _ hk => ⟨hk.1.1.2, ⟨hk.1.2, hk.2⟩⟩)⟩, ⟨by (with_reducible repeat (first | apply Kd.R_alloc | apply Kd.R_drewN | apply Kd.R_drew)); exact Kd.R_mono HO526.out (fun _ hk => ⟨hk.1.1.2, ⟨hk.1.2, hk.2⟩⟩)⟩, ⟨by (with_reducible repeat (first | apply Kd.R_alloc | apply Kd.R_drewN | apply Kd.R_drew)); exact Kd.R_mono HO535.out (fun _ hk => ⟨hk.1.1.2, ⟨hk.1.2, hk.2⟩⟩)⟩, ⟨bk_ BK509.out⟩, ⟨bk_ BK520.out⟩, ⟨bk_ BK529.out⟩, ⟨bk_ BK538.out⟩, ⟨bk_ BK542.out⟩, ⟨hb5_ HB.out GE509.out GE520.out GE529.out GE538.out GE542.out⟩⟩
     ·replace c48 := Bool.eq_false_iff.mpr c48
      subst c48
      have H1 : (laws_FnHedges.j0 k (Int.tmod t511 10) t543 true t502 t503 t504 t505 t508 t521 t522 t523 t524 t527 t539 t540 t541) = some r := by rw [if_neg (show ¬ (false = true) by decide)] at H; exact H
      clear H
      have H := H1
      clear H1
      have H' := Aside0.mk H
      clear H
      try go_wp2
      replace HO507 := Aside0.mk (Kd.R_drew HO507.out)
      replace HO517 := Aside0.mk (Kd.R_drew HO517.out)
      replace HO526 := Aside0.mk (Kd.R_drew HO526.out)
      replace HO535 := Aside0.mk (Kd.R_drew HO535.out)
      replace BK509 := Aside0.mk (blk_drew BK509.out)
      replace BK520 := Aside0.mk (blk_drew BK520.out)
      replace BK529 := Aside0.mk (blk_drew BK529.out)
      replace BK538 := Aside0.mk (blk_drew BK538.out)
      replace BK542 := Aside0.mk (blk_drew BK542.out)
      replace HB := Aside0.mk (below_drew1 HB.out)
      refine start_ (n := 45) (S := fun w' => True) (ds := []) #[false, false, false, false, false, false, false, false, false, false, false, false, false, false, false, false, false, false, false, false, false, false, false, false, false, false, false, false, false, false, false, false, false, false, false, false, false, false, false, false, false, false, false, false, false] (by kernel_rfl) rfl rfl trivial (fun hHeld => ?_); refine with_tabW laws_FnHedges.tab11 laws_FnHedges.bits11 (fun HT_ HW_ => ?_)
      generalize w45.drew = w62 at HO507 HO517 HO526 HO535 BK509 BK520 BK529 BK538 BK542 HB hHeld ⊢
      refine pv_ (i := 0) (N := some 51) HT_.out ?_
      refine pv_ (i := 1) (N := some 52) HT_.out ?_
      refine pv_ (i := 2) (N := some 53) HT_.out ?_
      refine pv_ (i := 3) (N := some 54) HT_.out ?_
      refine pv_ (i := 4) (N := some 55) HT_.out ?_
      refine pv_ (i := 5) (N := some 56) HT_.out ?_
      refine pv_ (i := 6) (N := some 57) HT_.out ?_
      refine pv_ (i := 7) (N := some 58) HT_.out ?_
      refine pv_ (i := 8) (N := some 59) HT_.out ?_
      refine pv_ (i := 9) (N := some 60) HT_.out ?_
      refine pv_ (i := 10) (N := some 61) HT_.out ?_
      refine pu_ (i := 11) (N := some 62) HT_.out ?_
      refine pu_ (i := 12) (N := some 63) HT_.out ?_
      refine pu_ (i := 13) (N := some 64) HT_.out ?_
      refine pu_ (i := 14) (N := some 65) HT_.out ?_
      refine pu_ (i := 15) (N := some 66) HT_.out ?_
      refine pu_ (i := 16) (N := some 67) HT_.out ?_
      refine pv_ (i := 17) (N := some 68) HT_.out ?_
      refine pv_ (i := 18) (N := some 69) HT_.out ?_
      refine pu_ (i := 19) (N := some 70) HT_.out ?_
      refine pu_ (i := 20) (N := some 71) HT_.out ?_
      refine pu_ (i := 21) (N := some 72) HT_.out ?_
      refine pu_ (i := 22) (N := some 73) HT_.out ?_
      refine pu_ (i := 23) (N := some 74) HT_.out ?_
      refine pu_ (i := 24) (N := some 75) HT_.out ?_
      refine pu_ (i := 25) (N := some 76) HT_.out ?_
      refine pv_ (i := 26) (N := some 77) HT_.out ?_
      refine pv_ (i := 27) (N := some 78) HT_.out ?_
      refine pu_ (i := 28) (N := some 79) HT_.out ?_
      refine pu_ (i := 29) (N := some 80) HT_.out ?_
      refine pu_ (i := 30) (N := some 81) HT_.out ?_
      refine pu_ (i := 31) (N := some 82) HT_.out ?_
      refine pu_ (i := 32) (N := some 83) HT_.out ?_
      refine pu_ (i := 33) (N := some 84) HT_.out ?_
      refine pu_ (i := 34) (N := some 85) HT_.out ?_
      refine pv_ (i := 35) (N := some 86) HT_.out ?_
      refine pv_ (i := 36) (N := some 87) HT_.out ?_
      refine pu_ (i := 37) (N := some 88) HT_.out ?_
      refine pu_ (i := 38) (N := some 89) HT_.out ?_
      refine pu_ (i := 39) (N := some 90) HT_.out ?_
      refine pu_ (i := 40) (N := some 91) HT_.out ?_
      refine pu_ (i := 41) (N := some 92) HT_.out ?_
      refine pu_ (i := 42) (N := some 93) HT_.out ?_
      refine pu_ (i := 43) (N := some 94) HT_.out ?_
      refine pv_ (i := 44) (N := some 95) HT_.out ?_
      refine done_ (done_of HT_.out (by kernel_rfl)) ?_
      try go_wp2
      go_meet
      case rel => exact ⟨_, (true), (by first | rfl | (simp; done) | (simp [*]; done)), H', ⟨by first | omega | exact Nat.le_refl _⟩, ⟨by (with_reducible repeat (first | apply Kd.R_alloc | apply Kd.R_drewN | apply Kd.R_drew)); exact Kd.R_mono HO507.out (fun _ hk => ⟨hk.1.1.2, ⟨hk.1.2, hk.2⟩⟩)⟩, ⟨by (with_reducible repeat (first | apply Kd.R_alloc | apply Kd.R_drewN | apply Kd.R_drew)); exact Kd.R_mono HO517.out (fun _ hk => ⟨hk.1.1.2, ⟨hk.1.2, hk.2⟩⟩)⟩, ⟨by (with_reducible repeat (first | apply Kd.R_alloc | apply Kd.R_drewN | apply Kd.R_drew)); exact Kd.R_mono HO526.out (fun _ hk => ⟨hk.1.1.2, ⟨hk.1.2, hk.2⟩⟩)⟩, ⟨by (with_reducible repeat (first | apply Kd.R_alloc | apply Kd.R_drewN | apply Kd.R_drew)); exact Kd.R_mono HO535.out (fun _ hk => ⟨hk.1.1.2, ⟨hk.1.2, hk.2⟩⟩)⟩, ⟨bk_ BK509.out⟩, ⟨bk_ BK520.out⟩, ⟨bk_ BK529.out⟩, ⟨bk_ BK538.out⟩, ⟨bk_ BK542.out⟩, ⟨hb5_ HB.out GE509.out GE520.out GE529.out GE538.out GE542.out⟩⟩
    ·replace c47 := Bool.eq_false_iff.mpr c47
     subst c47
     have H1 : (laws_FnHedges.j0 k (Int.tmod t511 10) t543 true t502 t503 t504 t505 t508 t521 t522 t523 t524 t527 t539 t540 t541) = some r := by rw [if_neg (show ¬ (false = true) by decide)] at H; exact H
     clear H
     have H := H1
     clear H1
     have H' := Aside0.mk H
     clear H
     try go_wp2
     replace HO507 := Aside0.mk (Kd.R_drew HO507.out)
     replace HO517 := Aside0.mk (Kd.R_drew HO517.out)
     replace HO526 := Aside0.mk (Kd.R_drew HO526.out)
     replace HO535 := Aside0.mk (Kd.R_drew HO535.out)
     replace BK509 := Aside0.mk (blk_drew BK509.out)
     replace BK520 := Aside0.mk (blk_drew BK520.out)
     replace BK529 := Aside0.mk (blk_drew BK529.out)
     replace BK538 := Aside0.mk (blk_drew BK538.out)
     replace BK542 := Aside0.mk (blk_drew BK542.out)
     replace HB := Aside0.mk (below_drew1 HB.out)
     refine start_ (n := 45) (S := fun w' => True) (ds := []) #[false, false, false, false, false, false, false, false, false, false, false, false, false, false, false, false, false, false, false, false, false, false, false, false, false, false, false, false, false, false, false, false, false, false, false, false, false, false, false, false, false, false, false, false, false] (by kernel_rfl) rfl rfl trivial (fun hHeld => ?_); refine with_tabW laws_FnHedges.tab11 laws_FnHedges.bits11 (fun HT_ HW_ => ?_)
     generalize w45.drew = w63 at HO507 HO517 HO526 HO535 BK509 BK520 BK529 BK538 BK542 HB hHeld ⊢
     refine pv_ (i := 0) (N := some 51) HT_.out ?_
     refine pv_ (i := 1) (N := some 52) HT_.out ?_
     refine pv_ (i := 2) (N := some 53) HT_.out ?_
     refine pv_ (i := 3) (N := some 54) HT_.out ?_
     refine pv_ (i := 4) (N := some 55) HT_.out ?_
     refine pv_ (i := 5) (N := some 56) HT_.out ?_
     refine pv_ (i := 6) (N := some 57) HT_.out ?_
     refine pu_ (i := 7) (N := some 58) HT_.out ?_
     refine pu_ (i := 8) (N := some 59) HT_.out ?_
     refine pv_ (i := 9) (N := some 60) HT_.out ?_
     refine pv_ (i := 10) (N := some 61) HT_.out ?_
     refine pu_ (i := 11) (N := some 62) HT_.out ?_
     refine pu_ (i := 12) (N := some 63) HT_.out ?_
     refine pu_ (i := 13) (N := some 64) HT_.out ?_
     refine pu_ (i := 14) (N := some 65) HT_.out ?_
     refine pu_ (i := 15) (N := some 66) HT_.out ?_
     refine pu_ (i := 16) (N := some 67) HT_.out ?_
     refine pv_ (i := 17) (N := some 68) HT_.out ?_
     refine pv_ (i := 18) (N := some 69) HT_.out ?_
     refine pu_ (i := 19) (N := some 70) HT_.out ?_
     refine pu_ (i := 20) (N := some 71) HT_.out ?_
     refine pu_ (i := 21) (N := some 72) HT_.out ?_
     refine pu_ (i := 22) (N := some 73) HT_.out ?_
     refine pu_ (i := 23) (N := some 74) HT_.out ?_
     refine pu_ (i := 24) (N := some 75) HT_.out ?_
     refine pu_ (i := 25) (N := some 76) HT_.out ?_
     refine pv_ (i := 26) (N := some 77) HT_.out ?_
     refine pv_ (i := 27) (N := some 78) HT_.out ?_
     refine pu_ (i := 28) (N := some 79) HT_.out ?_
     refine pu_ (i := 29) (N := some 80) HT_.out ?_
     refine pu_ (i := 30) (N := some 81) HT_.out ?_
     refine pu_ (i := 31) (N := some 82) HT_.out ?_
     refine pu_ (i := 32) (N := some 83) HT_.out ?_
     refine pu_ (i := 33) (N := some 84) HT_.out ?_
     refine pu_ (i := 34) (N := some 85) HT_.out ?_
     refine pv_ (i := 35) (N := some 86) HT_.out ?_
     refine pv_ (i := 36) (N := some 87) HT_.out ?_
     refine pu_ (i := 37) (N := some 88) HT_.out ?_
     refine pu_ (i := 38) (N := some 89) HT_.out ?_
     refine pu_ (i := 39) (N := some 90) HT_.out ?_
     refine pu_ (i := 40) (N := some 91) HT_.out ?_
     refine pu_ (i := 41) (N := some 92) HT_.out ?_
     refine pu_ (i := 42) (N := some 93) HT_.out ?_
     refine pu_ (i := 43) (N := some 94) HT_.out ?_
     refine pv_ (i := 44) (N := some 95) HT_.out ?_
     refine done_ (done_of HT_.out (by kernel_rfl)) ?_
     try go_wp2
     go_meet
     case rel => exact ⟨_, (true), (by first | rfl | (simp; done) | (simp [*]; done)), H', ⟨by first | omega | exact Nat.le_refl _⟩, ⟨by (with_reducible repeat (first | apply Kd.R_alloc | apply Kd.R_drewN | apply Kd.R_drew)); exact Kd.R_mono HO507.out (fun _ hk => ⟨hk.1.1.2, ⟨hk.1.2, hk.2⟩⟩)⟩, ⟨by (with_reducible repeat (first | apply Kd.R_alloc | apply Kd.R_drewN | apply Kd.R_drew)); exact Kd.R_mono HO517.out (fun _ hk => ⟨hk.1.1.2, ⟨hk.1.2, hk.2⟩⟩)⟩, ⟨by (with_reducible repeat (first | apply Kd.R_alloc | apply Kd.R_drewN | apply Kd.R_drew)); exact Kd.R_mono HO526.out (fun _ hk => ⟨hk.1.1.2, ⟨hk.1.2, hk.2⟩⟩)⟩, ⟨by (with_reducible repeat (first | apply Kd.R_alloc | apply Kd.R_drewN | apply Kd.R_drew)); exact Kd.R_mono HO535.out (fun _ hk => ⟨hk.1.1.2, ⟨hk.1.2, hk.2⟩⟩)⟩, ⟨bk_ BK509.out⟩, ⟨bk_ BK520.out⟩, ⟨bk_ BK529.out⟩, ⟨bk_ BK538.out⟩, ⟨bk_ BK542.out⟩, ⟨hb5_ HB.out GE509.out GE520.out GE529.out GE538.out GE542.out⟩⟩
   ·replace c46 := Bool.eq_false_iff.mpr c46
    subst c46
    have H1 : (laws_FnHedges.j0 k (Int.tmod t511 10) t543 true t502 t503 t504 t505 t508 t521 t522 t523 t524 t527 t539 t540 t541) = some r := by rw [if_neg (show ¬ (false = true) by decide)] at H; exact H
    clear H
    have H := H1
    clear H1
    have H' := Aside0.mk H
    clear H
    try go_wp2
    replace HO507 := Aside0.mk (Kd.R_drew HO507.out)
    replace HO517 := Aside0.mk (Kd.R_drew HO517.out)
    replace HO526 := Aside0.mk (Kd.R_drew HO526.out)
    replace HO535 := Aside0.mk (Kd.R_drew HO535.out)
    replace BK509 := Aside0.mk (blk_drew BK509.out)
    replace BK520 := Aside0.mk (blk_drew BK520.out)
    replace BK529 := Aside0.mk (blk_drew BK529.out)
    replace BK538 := Aside0.mk (blk_drew BK538.out)
    replace BK542 := Aside0.mk (blk_drew BK542.out)
    replace HB := Aside0.mk (below_drew1 HB.out)
    refine start_ (n := 45) (S := fun w' => True) (ds := []) #[false, false, false, false, false, false, false, false, false, false, false, false, false, false, false, false, false, false, false, false, false, false, false, false, false, false, false, false, false, false, false, false, false, false, false, false, false, false, false, false, false, false, false, false, false] (by kernel_rfl) rfl rfl trivial (fun hHeld => ?_); refine with_tabW laws_FnHedges.tab11 laws_FnHedges.bits11 (fun HT_ HW_ => ?_)
    generalize w45.drew = w64 at HO507 HO517 HO526 HO535 BK509 BK520 BK529 BK538 BK542 HB hHeld ⊢
    refine pv_ (i := 0) (N := some 51) HT_.out ?_
    refine pv_ (i := 1) (N := some 52) HT_.out ?_
    refine pv_ (i := 2) (N := some 53) HT_.out ?_
    refine pu_ (i := 3) (N := some 54) HT_.out ?_
    refine pu_ (i := 4) (N := some 55) HT_.out ?_
    refine pv_ (i := 5) (N := some 56) HT_.out ?_
    refine pv_ (i := 6) (N := some 57) HT_.out ?_
    refine pu_ (i := 7) (N := some 58) HT_.out ?_
    refine pu_ (i := 8) (N := some 59) HT_.out ?_
    refine pv_ (i := 9) (N := some 60) HT_.out ?_
    refine pv_ (i := 10) (N := some 61) HT_.out ?_
    refine pu_ (i := 11) (N := some 62) HT_.out ?_
    refine pu_ (i := 12) (N := some 63) HT_.out ?_
    refine pu_ (i := 13) (N := some 64) HT_.out ?_
    refine pu_ (i := 14) (N := some 65) HT_.out ?_
    refine pu_ (i := 15) (N := some 66) HT_.out ?_
    refine pu_ (i := 16) (N := some 67) HT_.out ?_
    refine pv_ (i := 17) (N := some 68) HT_.out ?_
    refine pv_ (i := 18) (N := some 69) HT_.out ?_
    refine pu_ (i := 19) (N := some 70) HT_.out ?_
    refine pu_ (i := 20) (N := some 71) HT_.out ?_
    refine pu_ (i := 21) (N := some 72) HT_.out ?_
    refine pu_ (i := 22) (N := some 73) HT_.out ?_
    refine pu_ (i := 23) (N := some 74) HT_.out ?_
    refine pu_ (i := 24) (N := some 75) HT_.out ?_
    refine pu_ (i := 25) (N := some 76) HT_.out ?_
    refine pv_ (i := 26) (N := some 77) HT_.out ?_
    refine pv_ (i := 27) (N := some 78) HT_.out ?_
    refine pu_ (i := 28) (N := some 79) HT_.out ?_
    refine pu_ (i := 29) (N := some 80) HT_.out ?_
    refine pu_ (i := 30) (N := some 81) HT_.out ?_
    refine pu_ (i := 31) (N := some 82) HT_.out ?_
    refine pu_ (i := 32) (N := some 83) HT_.out ?_
    refine pu_ (i := 33) (N := some 84) HT_.out ?_
    refine pu_ (i := 34) (N := some 85) HT_.out ?_
    refine pv_ (i := 35) (N := some 86) HT_.out ?_
    refine pv_ (i := 36) (N := some 87) HT_.out ?_
    refine pu_ (i := 37) (N := some 88) HT_.out ?_
    refine pu_ (i := 38) (N := some 89) HT_.out ?_
    refine pu_ (i := 39) (N := some 90) HT_.out ?_
    refine pu_ (i := 40) (N := some 91) HT_.out ?_
    refine pu_ (i := 41) (N := some 92) HT_.out ?_
    refine pu_ (i := 42) (N := some 93) HT_.out ?_
    refine pu_ (i := 43) (N := some 94) HT_.out ?_
    refine pv_ (i := 44) (N := some 95) HT_.out ?_
    refine done_ (done_of HT_.out (by kernel_rfl)) ?_
    try go_wp2
    go_meet
    case rel => exact ⟨_, (true), (by first | rfl | (simp; done) | (simp [*]; done)), H', ⟨by first | omega | exact Nat.le_refl _⟩, ⟨by (with_reducible repeat (first | apply Kd.R_alloc | apply Kd.R_drewN | apply Kd.R_drew)); exact Kd.R_mono HO507.out (fun _ hk => ⟨hk.1.1.2, ⟨hk.1.2, hk.2⟩⟩)⟩, ⟨by (with_reducible repeat (first | apply Kd.R_alloc | apply Kd.R_drewN | apply Kd.R_drew)); exact Kd.R_mono HO517.out (fun _ hk => ⟨hk.1.1.2, ⟨hk.1.2, hk.2⟩⟩)⟩, ⟨by (with_reducible repeat (first | apply Kd.R_alloc | apply Kd.R_drewN | apply Kd.R_drew)); exact Kd.R_mono HO526.out (fun _ hk => ⟨hk.1.1.2, ⟨hk.1.2, hk.2⟩⟩)⟩, ⟨by (with_reducible repeat (first | apply Kd.R_alloc | apply Kd.R_drewN | apply Kd.R_drew)); exact Kd.R_mono HO535.out (fun _ hk => ⟨hk.1.1.2, ⟨hk.1.2, hk.2⟩⟩)⟩, ⟨bk_ BK509.out⟩, ⟨bk_ BK520.out⟩, ⟨bk_ BK529.out⟩, ⟨bk_ BK538.out⟩, ⟨bk_ BK542.out⟩, ⟨hb5_ HB.out GE509.out GE520.out GE529.out GE538.out GE542.out⟩⟩
  case rest =>
   clear HC12
   try clear p2
   try clear c4
   try clear c46
   try clear c47
   obtain ⟨kq, x95_11, rfl, HA, HJ11, HO_510003, HO_521003, HO_530003, HO_539003, BK509, BK520, BK529, BK538, BK542, HB⟩ := hcut
   cases kq with
   | zero => exact absurd HA.out (by simp [laws_FnHedges.j0])
   | succ kj11 =>
    have H := HA.out
    clear HA
    simp only [laws_FnHedges.j0] at H
    by_cases c65 : x95_11 = true
    ·subst c65
     have H1 : (some false) = some r := by rw [if_pos rfl] at H; exact H
     clear H
     have H := H1
     clear H1
     obtain rfl := Option.some.inj H
     go_wp2
     go_ret
     exact ⟨ex_, hb5_ HB.out GE509.out GE520.out GE529.out GE538.out GE542.out⟩
    ·replace c65 := Bool.eq_false_iff.mpr c65
     subst c65
     have H1 : ((impl_DaysOpen.f kj11 t502 t503 t504 t505 t508 (wrap64 (1 + (Int.tmod t511 10)))).bind fun t549 => (if t543 < 0 then (some (decide (t549 ≥ 0))) else ((impl_CutHedge.f t521 t522 t523 t524 t527 t543).bind fun bt550 => (if bt550.2.2.2.2.2 = true then ((impl_OpenNow.f kj11 bt550.1 bt550.2.1 bt550.2.2.1 bt550.2.2.2.1 bt550.2.2.2.2.1).bind fun bt559 => ((impl_IsPassage.f bt559.1 bt559.2.1 bt559.2.2 t543).bind fun t562 => (if t562 = true then (if t549 ≥ 0 then (if t549 ≤ 20 then (if t549 = 0 then (some true) else ((spec_IsConnected.f kj11 t539 t540 t541).bind fun t563 => (some t563))) else (some false)) else (some false)) else (some false)))) else (some false))))) = some r := by rw [if_neg (show ¬ (false = true) by decide)] at H; exact H
     clear H
     have H := H1
     clear H1
     replace H := Option.bind_eq_some_iff.mp H
     obtain ⟨t549, A660, H⟩ := H
     replace H : (if t543 < 0 then (some (decide (t549 ≥ 0))) else ((impl_CutHedge.f t521 t522 t523 t524 t527 t543).bind fun bt550 => (if bt550.2.2.2.2.2 = true then ((impl_OpenNow.f kj11 bt550.1 bt550.2.1 bt550.2.2.1 bt550.2.2.2.1 bt550.2.2.2.2.1).bind fun bt559 => ((impl_IsPassage.f bt559.1 bt559.2.1 bt559.2.2 t543).bind fun t562 => (if t562 = true then (if t549 ≥ 0 then (if t549 ≤ 20 then (if t549 = 0 then (some true) else ((spec_IsConnected.f kj11 t539 t540 t541).bind fun t563 => (some t563))) else (some false)) else (some false)) else (some false)))) else (some false)))) = some r := H
     have A66 := Aside0.mk A660
     clear A660
     by_cases c67 : t543 < 0
     ·rw [if_pos c67] at H
      have c67b0 : decide (t543 < 0) = true := decide_eq_true c67
      clear c67
      obtain rfl := Option.some.inj H
      have hnb68 := NB509_520.out
      have hnc68 := NB520_509.out
      have hnb69 := NB509_529.out
      have hnc69 := NB529_509.out
      have hnb70 := NB509_538.out
      have hnc70 := NB538_509.out
      have hnb71 := NB509_542.out
      have hnc71 := NB542_509.out
      obtain ⟨hcz72_0, hcz72_1, hcz72_2, hcz72_3, hcz72_4⟩ := cz5_ BK509.out
      obtain ⟨hfz72_0, hfz72_1, hfz72_2, hfz72_3, hfz72_4⟩ := fz5_ BK509.out
      go_wp2_with ((with_reducible refine gw_ ?_); first | (refine gl_ 99 Try.func12 #[.agg #[.int .i64 t502, .int .i64 t503, .int .i64 t504, .slice Ao16 t505.length co16, .int .i64 t508], .int .i64 (wrap64 (1 + (Int.tmod t511 10)))] ?_; (with_reducible refine (impl_DaysOpen.calls kj11 t502 t503 t504 (fun k_ => some k_ = (.slice Ao16 t505.length co16 : Value).ownBlock) _ _ t505 t508 (wrap64 (1 + (Int.tmod t511 10))) t549 _ ?side1 A66.out).mono ?_); (case side1 => exact Kd.R_V (Kd.R_tight rfl (Kd.R_types (Kd.R_types (Kd.R_types (Kd.R_types (Kd.R_types (HO_510003.out) BK509.out (by decide)) BK520.out (by decide)) BK529.out (by decide)) BK538.out (by decide)) BK542.out (by decide)))); rintro e w73 ⟨rfl, hb⟩; refine ⟨_, rfl, ?_⟩; replace HO_510003 := HO_510003.kb hb; replace HO_521003 := HO_521003.kb hb; replace HO_530003 := HO_530003.kb hb; replace HO_539003 := HO_539003.kb hb; replace BK509 := BK509.bb hb; replace BK520 := BK520.bb hb; replace BK529 := BK529.bb hb; replace BK538 := BK538.bb hb; replace BK542 := BK542.bb hb; replace HB := HB.s5 GE509 GE520 GE529 GE538 GE542 hb; (try clear hb)))
      go_ret
      exact ⟨ex_, hb5_ HB.out GE509.out GE520.out GE529.out GE538.out GE542.out⟩
     ·rw [if_neg c67] at H
      have c67b0 : decide (t543 < 0) = false := decide_eq_false c67
      clear c67
      replace H := Option.bind_eq_some_iff.mp H
      obtain ⟨⟨t550, t551, t552, t553, t556, t557⟩, A740, H⟩ := H
      replace H : (if t557 = true then ((impl_OpenNow.f kj11 t550 t551 t552 t553 t556).bind fun bt559 => ((impl_IsPassage.f bt559.1 bt559.2.1 bt559.2.2 t543).bind fun t562 => (if t562 = true then (if t549 ≥ 0 then (if t549 ≤ 20 then (if t549 = 0 then (some true) else ((spec_IsConnected.f kj11 t539 t540 t541).bind fun t563 => (some t563))) else (some false)) else (some false)) else (some false)))) else (some false)) = some r := H
      have A74 := Aside0.mk A740
      clear A740
      by_cases c75 : t557 = true
      ·subst c75
       have H1 : ((impl_OpenNow.f kj11 t550 t551 t552 t553 t556).bind fun bt559 => ((impl_IsPassage.f bt559.1 bt559.2.1 bt559.2.2 t543).bind fun t562 => (if t562 = true then (if t549 ≥ 0 then (if t549 ≤ 20 then (if t549 = 0 then (some true) else ((spec_IsConnected.f kj11 t539 t540 t541).bind fun t563 => (some t563))) else (some false)) else (some false)) else (some false)))) = some r := by rw [if_pos rfl] at H; exact H
       clear H
       have H := H1
       clear H1
       replace H := Option.bind_eq_some_iff.mp H
       obtain ⟨⟨t559, t560, t561⟩, A760, H⟩ := H
       replace H : ((impl_IsPassage.f t559 t560 t561 t543).bind fun t562 => (if t562 = true then (if t549 ≥ 0 then (if t549 ≤ 20 then (if t549 = 0 then (some true) else ((spec_IsConnected.f kj11 t539 t540 t541).bind fun t563 => (some t563))) else (some false)) else (some false)) else (some false))) = some r := H
       have A76 := Aside0.mk A760
       clear A760
       replace H := Option.bind_eq_some_iff.mp H
       obtain ⟨t562, A770, H⟩ := H
       replace H : (if t562 = true then (if t549 ≥ 0 then (if t549 ≤ 20 then (if t549 = 0 then (some true) else ((spec_IsConnected.f kj11 t539 t540 t541).bind fun t563 => (some t563))) else (some false)) else (some false)) else (some false)) = some r := H
       have A77 := Aside0.mk A770
       clear A770
       by_cases c78 : t562 = true
       ·subst c78
        have H1 : (if t549 ≥ 0 then (if t549 ≤ 20 then (if t549 = 0 then (some true) else ((spec_IsConnected.f kj11 t539 t540 t541).bind fun t563 => (some t563))) else (some false)) else (some false)) = some r := by rw [if_pos rfl] at H; exact H
        clear H
        have H := H1
        clear H1
        by_cases c79 : t549 ≥ 0
        ·rw [if_pos c79] at H
         have c79b0 : decide (0 ≤ t549) = true := decide_eq_true c79
         clear c79
         by_cases c80 : t549 ≤ 20
         ·rw [if_pos c80] at H
          have c80b0 : decide (t549 ≤ 20) = true := decide_eq_true c80
          clear c80
          by_cases c81 : t549 = 0
          ·rw [if_pos c81] at H
           have c81b0 : (t549 == 0) = true := beq_iff_eq.mpr c81
           have c81b1 : (t549 != 0) = false := bne_eq_false_iff_eq.mpr c81
           clear c81
           obtain rfl := Option.some.inj H
           have hnb82 := NB509_520.out
           have hnc82 := NB520_509.out
           have hnb83 := NB509_529.out
           have hnc83 := NB529_509.out
           have hnb84 := NB509_538.out
           have hnc84 := NB538_509.out
           have hnb85 := NB509_542.out
           have hnc85 := NB542_509.out
           obtain ⟨hcz86_0, hcz86_1, hcz86_2, hcz86_3, hcz86_4⟩ := cz5_ BK509.out
           obtain ⟨hfz86_0, hfz86_1, hfz86_2, hfz86_3, hfz86_4⟩ := fz5_ BK509.out
           go_wp2_with (first | (refine gl_ 99 Try.func12 #[.agg #[.int .i64 t502, .int .i64 t503, .int .i64 t504, .slice Ao16 t505.length co16, .int .i64 t508], .int .i64 (wrap64 (1 + (Int.tmod t511 10)))] ?_; (with_reducible refine (impl_DaysOpen.calls kj11 t502 t503 t504 (fun k_ => some k_ = (.slice Ao16 t505.length co16 : Value).ownBlock) _ _ t505 t508 (wrap64 (1 + (Int.tmod t511 10))) t549 _ ?side1 A66.out).mono ?_); (case side1 => exact Kd.R_V (Kd.R_tight rfl (Kd.R_types (Kd.R_types (Kd.R_types (Kd.R_types (Kd.R_types (HO_510003.out) BK509.out (by decide)) BK520.out (by decide)) BK529.out (by decide)) BK538.out (by decide)) BK542.out (by decide)))); rintro e w87 ⟨rfl, hb⟩; refine ⟨_, rfl, ?_⟩; replace HO_510003 := HO_510003.kb hb; replace HO_521003 := HO_521003.kb hb; replace HO_530003 := HO_530003.kb hb; replace HO_539003 := HO_539003.kb hb; replace BK509 := BK509.bb hb; replace BK520 := BK520.bb hb; replace BK529 := BK529.bb hb; replace BK538 := BK538.bb hb; replace BK542 := BK542.bb hb; replace HB := HB.s5 GE509 GE520 GE529 GE538 GE542 hb; (try clear hb); have hnb88 := NB529_520.out; have hnc88 := NB520_529.out; have hnb89 := NB529_538.out; have hnc89 := NB538_529.out; have hnb90 := NB529_542.out; have hnc90 := NB542_529.out; obtain ⟨hcz91_0, hcz91_1, hcz91_2, hcz91_3, hcz91_4⟩ := cz5_ BK529.out; obtain ⟨hfz91_0, hfz91_1, hfz91_2, hfz91_3, hfz91_4⟩ := fz5_ BK529.out) | (refine gl_ 107 Try.func13 #[.agg #[.int .i64 t521, .int .i64 t522, .int .i64 t523, .slice Ao27 t524.length co27, .int .i64 t527], .int .i64 t543] ?_; (with_reducible refine (impl_CutHedge.calls t521 t522 t523 _ _ t524 t527 t543 t550 t551 t552 t553 t556 true _ ?side1 ?side2 A74.out).mono ?_); (case side1 => repeat (first | exact (Kd.R_reads' HO_530003.out).2.2 | (with_reducible refine Kd.C_alloc ?_ _) | (with_reducible refine Kd.C_drewN ?_ _) | (with_reducible refine Kd.C_drew ?_))); (case side2 => exact (Kd.R_reads' HO_530003.out).2.1); rintro e w92 ⟨v554, rfl, ho0, hb⟩; refine ⟨_, rfl, ?_⟩; have HO555 := Aside0.mk (Kd.R_lower (Kd.R_new' (Kd.R_new' (Kd.R_new' (Kd.R_new' ho0 (Kd.R_lt (kr_ HO_510003.out))) (Kd.R_lt (kr_ HO_521003.out))) (Kd.R_lt (kr_ HO_530003.out))) (Kd.R_lt (kr_ HO_539003.out))) (below_size (hb5_ HB.out GE509.out GE520.out GE529.out GE538.out GE542.out))); replace HO_510003 := Aside0.mk (Kd.R_elder' (kr_ HO_510003.out) (Kd.R_base ho0) hb); replace HO_521003 := Aside0.mk (Kd.R_elder' (kr_ HO_521003.out) (Kd.R_base ho0) hb); replace HO_530003 := Aside0.mk (Kd.R_elder' (kr_ HO_530003.out) (Kd.R_base ho0) hb); replace HO_539003 := Aside0.mk (Kd.R_elder' (kr_ HO_539003.out) (Kd.R_base ho0) hb); replace BK509 := BK509.bb hb; replace BK520 := BK520.bb hb; replace BK529 := BK529.bb hb; replace BK538 := BK538.bb hb; replace BK542 := BK542.bb hb; replace HB := HB.s5 GE509 GE520 GE529 GE538 GE542 hb; (try clear hb); (try clear ho0)) | (refine box_ (N := 15) (cs := #[.int .i64 0, .int .i64 0, .int .i64 0, .slice none 0 0, .int .i64 0]) (t := 30) ?_; intro gb558 hg w93 hbox hb; replace HO_510003 := HO_510003.kb hb; replace HO_521003 := HO_521003.kb hb; replace HO_530003 := HO_530003.kb hb; replace HO_539003 := HO_539003.kb hb; replace HO555 := HO555.kb hb; have BK558 := Aside0.mk (hbox); have GW558 := HB.g5 GE509 GE520 GE529 GE538 GE542 hg; have GE558 := HB.g5 GE509 GE520 GE529 GE538 GE542 hg; replace HB := HB.s5 GE509 GE520 GE529 GE538 GE542 hb; have NB509_558 := BK509.nl hg; have NB558_509 := BK509.nr hg; replace BK509 := BK509.bb hb; have NB520_558 := BK520.nl hg; have NB558_520 := BK520.nr hg; replace BK520 := BK520.bb hb; have NB529_558 := BK529.nl hg; have NB558_529 := BK529.nr hg; replace BK529 := BK529.bb hb; have NB538_558 := BK538.nl hg; have NB558_538 := BK538.nr hg; replace BK538 := BK538.bb hb; have NB542_558 := BK542.nl hg; have NB558_542 := BK542.nr hg; replace BK542 := BK542.bb hb; clear hb hbox hg; have hnb94 := NB558_509.out; have hnc94 := NB509_558.out; have hnb95 := NB558_520.out; have hnc95 := NB520_558.out; have hnb96 := NB558_529.out; have hnc96 := NB529_558.out; have hnb97 := NB558_538.out; have hnc97 := NB538_558.out; have hnb98 := NB558_542.out; have hnc98 := NB542_558.out; obtain ⟨hcz99_0, hcz99_1, hcz99_2, hcz99_3, hcz99_4⟩ := cz5_ BK558.out; obtain ⟨hfz99_0, hfz99_1, hfz99_2, hfz99_3, hfz99_4⟩ := fz5_ BK558.out; obtain ⟨Ao100, co100, eo100⟩ := Kd.R_slice HO555.out; subst eo100) | (go_at_call 8; (with_reducible refine (impl_OpenNow.calls kj11 t550 t551 t552 _ _ t553 t556 t559 t560 t561 _ ?side1 ?side2 A76.out).mono ?_); (case side1 => refine (Kd.R_reads' (e := 3) (base := w.heap.size) (ok := fun k_ => ((((True ∧ some k_ ≠ (.slice Ao16 t505.length co16 : Value).ownBlock) ∧ some k_ ≠ (.slice Ao21 t515.length co21 : Value).ownBlock) ∧ some k_ ≠ (.slice Ao27 t524.length co27 : Value).ownBlock) ∧ some k_ ≠ (.slice Ao35 t533.length co35 : Value).ownBlock)) (n := t553.length) (c := co100) ?_).2.2; exact (rq5_ HO555.out BK558.out)); (case side2 => exact (Kd.R_reads' HO555.out).2.1); rintro e w101 ⟨rfl, hb⟩; replace HO_510003 := Aside0.mk (Kd.R_below (rq5_ HO_510003.out BK558.out) hb); replace HO_521003 := Aside0.mk (Kd.R_below (rq5_ HO_521003.out BK558.out) hb); replace HO_530003 := Aside0.mk (Kd.R_below (rq5_ HO_530003.out BK558.out) hb); replace HO_539003 := Aside0.mk (Kd.R_below (rq5_ HO_539003.out BK558.out) hb); replace HO555 := Aside0.mk (Kd.R_below (rq5_ HO555.out BK558.out) hb); replace BK509 := Aside0.mk (blk_below (g := gb509) (o := .cells #[.int .i64 t502, .int .i64 t503, .int .i64 t504, .slice Ao16 t505.length co16, .int .i64 t508] 30 (0, 0)) (by (with_reducible repeat (first | refine blk_drewN ?_ _ | refine blk_drew ?_ | refine blk_alloc ?_ _)); refine blk_far ?_ NB509_558.out _; (with_reducible repeat (first | refine blk_drewN ?_ _ | refine blk_drew ?_ | refine blk_alloc ?_ _)); refine blk_far ?_ NB509_558.out _; (with_reducible repeat (first | refine blk_drewN ?_ _ | refine blk_drew ?_ | refine blk_alloc ?_ _)); refine blk_far ?_ NB509_558.out _; (with_reducible repeat (first | refine blk_drewN ?_ _ | refine blk_drew ?_ | refine blk_alloc ?_ _)); refine blk_far ?_ NB509_558.out _; (with_reducible repeat (first | refine blk_drewN ?_ _ | refine blk_drew ?_ | refine blk_alloc ?_ _)); refine blk_far ?_ NB509_558.out _; (with_reducible repeat (first | refine blk_drewN ?_ _ | refine blk_drew ?_ | refine blk_alloc ?_ _)); exact BK509.out) hb); replace BK520 := Aside0.mk (blk_below (g := gb520) (o := .cells #[.int .i64 t512, .int .i64 t513, .int .i64 t514, .slice Ao21 t515.length co21, .int .i64 t518] 30 (0, 0)) (by (with_reducible repeat (first | refine blk_drewN ?_ _ | refine blk_drew ?_ | refine blk_alloc ?_ _)); refine blk_far ?_ NB520_558.out _; (with_reducible repeat (first | refine blk_drewN ?_ _ | refine blk_drew ?_ | refine blk_alloc ?_ _)); refine blk_far ?_ NB520_558.out _; (with_reducible repeat (first | refine blk_drewN ?_ _ | refine blk_drew ?_ | refine blk_alloc ?_ _)); refine blk_far ?_ NB520_558.out _; (with_reducible repeat (first | refine blk_drewN ?_ _ | refine blk_drew ?_ | refine blk_alloc ?_ _)); refine blk_far ?_ NB520_558.out _; (with_reducible repeat (first | refine blk_drewN ?_ _ | refine blk_drew ?_ | refine blk_alloc ?_ _)); refine blk_far ?_ NB520_558.out _; (with_reducible repeat (first | refine blk_drewN ?_ _ | refine blk_drew ?_ | refine blk_alloc ?_ _)); exact BK520.out) hb); replace BK529 := Aside0.mk (blk_below (g := gb529) (o := .cells #[.int .i64 t521, .int .i64 t522, .int .i64 t523, .slice Ao27 t524.length co27, .int .i64 t527] 30 (0, 0)) (by (with_reducible repeat (first | refine blk_drewN ?_ _ | refine blk_drew ?_ | refine blk_alloc ?_ _)); refine blk_far ?_ NB529_558.out _; (with_reducible repeat (first | refine blk_drewN ?_ _ | refine blk_drew ?_ | refine blk_alloc ?_ _)); refine blk_far ?_ NB529_558.out _; (with_reducible repeat (first | refine blk_drewN ?_ _ | refine blk_drew ?_ | refine blk_alloc ?_ _)); refine blk_far ?_ NB529_558.out _; (with_reducible repeat (first | refine blk_drewN ?_ _ | refine blk_drew ?_ | refine blk_alloc ?_ _)); refine blk_far ?_ NB529_558.out _; (with_reducible repeat (first | refine blk_drewN ?_ _ | refine blk_drew ?_ | refine blk_alloc ?_ _)); refine blk_far ?_ NB529_558.out _; (with_reducible repeat (first | refine blk_drewN ?_ _ | refine blk_drew ?_ | refine blk_alloc ?_ _)); exact BK529.out) hb); replace BK538 := Aside0.mk (blk_below (g := gb538) (o := .cells #[.int .i64 t530, .int .i64 t531, .int .i64 t532, .slice Ao35 t533.length co35, .int .i64 t536] 30 (0, 0)) (by (with_reducible repeat (first | refine blk_drewN ?_ _ | refine blk_drew ?_ | refine blk_alloc ?_ _)); refine blk_far ?_ NB538_558.out _; (with_reducible repeat (first | refine blk_drewN ?_ _ | refine blk_drew ?_ | refine blk_alloc ?_ _)); refine blk_far ?_ NB538_558.out _; (with_reducible repeat (first | refine blk_drewN ?_ _ | refine blk_drew ?_ | refine blk_alloc ?_ _)); refine blk_far ?_ NB538_558.out _; (with_reducible repeat (first | refine blk_drewN ?_ _ | refine blk_drew ?_ | refine blk_alloc ?_ _)); refine blk_far ?_ NB538_558.out _; (with_reducible repeat (first | refine blk_drewN ?_ _ | refine blk_drew ?_ | refine blk_alloc ?_ _)); refine blk_far ?_ NB538_558.out _; (with_reducible repeat (first | refine blk_drewN ?_ _ | refine blk_drew ?_ | refine blk_alloc ?_ _)); exact BK538.out) hb); replace BK542 := Aside0.mk (blk_below (g := gb542) (o := .cells #[.int .i64 t539, .int .i64 t540, .int .i64 t541] 27 (0, 0)) (by (with_reducible repeat (first | refine blk_drewN ?_ _ | refine blk_drew ?_ | refine blk_alloc ?_ _)); refine blk_far ?_ NB542_558.out _; (with_reducible repeat (first | refine blk_drewN ?_ _ | refine blk_drew ?_ | refine blk_alloc ?_ _)); refine blk_far ?_ NB542_558.out _; (with_reducible repeat (first | refine blk_drewN ?_ _ | refine blk_drew ?_ | refine blk_alloc ?_ _)); refine blk_far ?_ NB542_558.out _; (with_reducible repeat (first | refine blk_drewN ?_ _ | refine blk_drew ?_ | refine blk_alloc ?_ _)); refine blk_far ?_ NB542_558.out _; (with_reducible repeat (first | refine blk_drewN ?_ _ | refine blk_drew ?_ | refine blk_alloc ?_ _)); refine blk_far ?_ NB542_558.out _; (with_reducible repeat (first | refine blk_drewN ?_ _ | refine blk_drew ?_ | refine blk_alloc ?_ _)); exact BK542.out) hb); replace BK558 := Aside0.mk (blk_below (bq5_ BK558.out) hb); replace HB := HB.s6 GE509 GE520 GE529 GE538 GE542 GE558 hb; (try clear hb)) | (go_at_call 14; (with_reducible refine (impl_IsPassage.calls t559 t560 t561 t543 true _ A77.out).mono ?_); rintro e w102 ⟨rfl, hb⟩; replace HO_510003 := HO_510003.kb hb; replace HO_521003 := HO_521003.kb hb; replace HO_530003 := HO_530003.kb hb; replace HO_539003 := HO_539003.kb hb; replace HO555 := HO555.kb hb; replace BK509 := BK509.bb hb; replace BK520 := BK520.bb hb; replace BK529 := BK529.bb hb; replace BK538 := BK538.bb hb; replace BK542 := BK542.bb hb; replace BK558 := BK558.bb hb; replace HB := HB.s6 GE509 GE520 GE529 GE538 GE542 GE558 hb; (try clear hb)))
           go_ret
           exact ⟨ex_, hb6_ HB.out GE509.out GE520.out GE529.out GE538.out GE542.out GE558.out⟩
          ·rw [if_neg c81] at H
           have c81b0 : (t549 == 0) = false := beq_eq_false_iff_ne.mpr c81
           have c81b1 : (t549 != 0) = true := bne_iff_ne.mpr c81
           replace H := Option.bind_eq_some_iff.mp H
           obtain ⟨t563, A1030, H⟩ := H
           replace H : (some t563) = some r := H
           have A103 := Aside0.mk A1030
           clear A1030
           obtain rfl := Option.some.inj H
           have hnb104 := NB509_520.out
           have hnc104 := NB520_509.out
           have hnb105 := NB509_529.out
           have hnc105 := NB529_509.out
           have hnb106 := NB509_538.out
           have hnc106 := NB538_509.out
           have hnb107 := NB509_542.out
           have hnc107 := NB542_509.out
           obtain ⟨hcz108_0, hcz108_1, hcz108_2, hcz108_3, hcz108_4⟩ := cz5_ BK509.out
           obtain ⟨hfz108_0, hfz108_1, hfz108_2, hfz108_3, hfz108_4⟩ := fz5_ BK509.out
           go_wp2_with (first | (refine gl_ 99 Try.func12 #[.agg #[.int .i64 t502, .int .i64 t503, .int .i64 t504, .slice Ao16 t505.length co16, .int .i64 t508], .int .i64 (wrap64 (1 + (Int.tmod t511 10)))] ?_; (with_reducible refine (impl_DaysOpen.calls kj11 t502 t503 t504 (fun k_ => some k_ = (.slice Ao16 t505.length co16 : Value).ownBlock) _ _ t505 t508 (wrap64 (1 + (Int.tmod t511 10))) t549 _ ?side1 A66.out).mono ?_); (case side1 => exact Kd.R_V (Kd.R_tight rfl (Kd.R_types (Kd.R_types (Kd.R_types (Kd.R_types (Kd.R_types (HO_510003.out) BK509.out (by decide)) BK520.out (by decide)) BK529.out (by decide)) BK538.out (by decide)) BK542.out (by decide)))); rintro e w109 ⟨rfl, hb⟩; refine ⟨_, rfl, ?_⟩; replace HO_510003 := HO_510003.kb hb; replace HO_521003 := HO_521003.kb hb; replace HO_530003 := HO_530003.kb hb; replace HO_539003 := HO_539003.kb hb; replace BK509 := BK509.bb hb; replace BK520 := BK520.bb hb; replace BK529 := BK529.bb hb; replace BK538 := BK538.bb hb; replace BK542 := BK542.bb hb; replace HB := HB.s5 GE509 GE520 GE529 GE538 GE542 hb; (try clear hb); have hnb110 := NB529_520.out; have hnc110 := NB520_529.out; have hnb111 := NB529_538.out; have hnc111 := NB538_529.out; have hnb112 := NB529_542.out; have hnc112 := NB542_529.out; obtain ⟨hcz113_0, hcz113_1, hcz113_2, hcz113_3, hcz113_4⟩ := cz5_ BK529.out; obtain ⟨hfz113_0, hfz113_1, hfz113_2, hfz113_3, hfz113_4⟩ := fz5_ BK529.out) | (refine gl_ 107 Try.func13 #[.agg #[.int .i64 t521, .int .i64 t522, .int .i64 t523, .slice Ao27 t524.length co27, .int .i64 t527], .int .i64 t543] ?_; (with_reducible refine (impl_CutHedge.calls t521 t522 t523 _ _ t524 t527 t543 t550 t551 t552 t553 t556 true _ ?side1 ?side2 A74.out).mono ?_); (case side1 => repeat (first | exact (Kd.R_reads' HO_530003.out).2.2 | (with_reducible refine Kd.C_alloc ?_ _) | (with_reducible refine Kd.C_drewN ?_ _) | (with_reducible refine Kd.C_drew ?_))); (case side2 => exact (Kd.R_reads' HO_530003.out).2.1); rintro e w114 ⟨v554, rfl, ho0, hb⟩; refine ⟨_, rfl, ?_⟩; have HO555 := Aside0.mk (Kd.R_lower (Kd.R_new' (Kd.R_new' (Kd.R_new' (Kd.R_new' ho0 (Kd.R_lt (kr_ HO_510003.out))) (Kd.R_lt (kr_ HO_521003.out))) (Kd.R_lt (kr_ HO_530003.out))) (Kd.R_lt (kr_ HO_539003.out))) (below_size (hb5_ HB.out GE509.out GE520.out GE529.out GE538.out GE542.out))); replace HO_510003 := Aside0.mk (Kd.R_elder' (kr_ HO_510003.out) (Kd.R_base ho0) hb); replace HO_521003 := Aside0.mk (Kd.R_elder' (kr_ HO_521003.out) (Kd.R_base ho0) hb); replace HO_530003 := Aside0.mk (Kd.R_elder' (kr_ HO_530003.out) (Kd.R_base ho0) hb); replace HO_539003 := Aside0.mk (Kd.R_elder' (kr_ HO_539003.out) (Kd.R_base ho0) hb); replace BK509 := BK509.bb hb; replace BK520 := BK520.bb hb; replace BK529 := BK529.bb hb; replace BK538 := BK538.bb hb; replace BK542 := BK542.bb hb; replace HB := HB.s5 GE509 GE520 GE529 GE538 GE542 hb; (try clear hb); (try clear ho0)) | (refine box_ (N := 15) (cs := #[.int .i64 0, .int .i64 0, .int .i64 0, .slice none 0 0, .int .i64 0]) (t := 30) ?_; intro gb558 hg w115 hbox hb; replace HO_510003 := HO_510003.kb hb; replace HO_521003 := HO_521003.kb hb; replace HO_530003 := HO_530003.kb hb; replace HO_539003 := HO_539003.kb hb; replace HO555 := HO555.kb hb; have BK558 := Aside0.mk (hbox); have GW558 := HB.g5 GE509 GE520 GE529 GE538 GE542 hg; have GE558 := HB.g5 GE509 GE520 GE529 GE538 GE542 hg; replace HB := HB.s5 GE509 GE520 GE529 GE538 GE542 hb; have NB509_558 := BK509.nl hg; have NB558_509 := BK509.nr hg; replace BK509 := BK509.bb hb; have NB520_558 := BK520.nl hg; have NB558_520 := BK520.nr hg; replace BK520 := BK520.bb hb; have NB529_558 := BK529.nl hg; have NB558_529 := BK529.nr hg; replace BK529 := BK529.bb hb; have NB538_558 := BK538.nl hg; have NB558_538 := BK538.nr hg; replace BK538 := BK538.bb hb; have NB542_558 := BK542.nl hg; have NB558_542 := BK542.nr hg; replace BK542 := BK542.bb hb; clear hb hbox hg; have hnb116 := NB558_509.out; have hnc116 := NB509_558.out; have hnb117 := NB558_520.out; have hnc117 := NB520_558.out; have hnb118 := NB558_529.out; have hnc118 := NB529_558.out; have hnb119 := NB558_538.out; have hnc119 := NB538_558.out; have hnb120 := NB558_542.out; have hnc120 := NB542_558.out; obtain ⟨hcz121_0, hcz121_1, hcz121_2, hcz121_3, hcz121_4⟩ := cz5_ BK558.out; obtain ⟨hfz121_0, hfz121_1, hfz121_2, hfz121_3, hfz121_4⟩ := fz5_ BK558.out; obtain ⟨Ao122, co122, eo122⟩ := Kd.R_slice HO555.out; subst eo122) | (go_at_call 8; (with_reducible refine (impl_OpenNow.calls kj11 t550 t551 t552 _ _ t553 t556 t559 t560 t561 _ ?side1 ?side2 A76.out).mono ?_); (case side1 => refine (Kd.R_reads' (e := 3) (base := w.heap.size) (ok := fun k_ => ((((True ∧ some k_ ≠ (.slice Ao16 t505.length co16 : Value).ownBlock) ∧ some k_ ≠ (.slice Ao21 t515.length co21 : Value).ownBlock) ∧ some k_ ≠ (.slice Ao27 t524.length co27 : Value).ownBlock) ∧ some k_ ≠ (.slice Ao35 t533.length co35 : Value).ownBlock)) (n := t553.length) (c := co122) ?_).2.2; exact (rq5_ HO555.out BK558.out)); (case side2 => exact (Kd.R_reads' HO555.out).2.1); rintro e w123 ⟨rfl, hb⟩; replace HO_510003 := Aside0.mk (Kd.R_below (rq5_ HO_510003.out BK558.out) hb); replace HO_521003 := Aside0.mk (Kd.R_below (rq5_ HO_521003.out BK558.out) hb); replace HO_530003 := Aside0.mk (Kd.R_below (rq5_ HO_530003.out BK558.out) hb); replace HO_539003 := Aside0.mk (Kd.R_below (rq5_ HO_539003.out BK558.out) hb); replace HO555 := Aside0.mk (Kd.R_below (rq5_ HO555.out BK558.out) hb); replace BK509 := Aside0.mk (blk_below (g := gb509) (o := .cells #[.int .i64 t502, .int .i64 t503, .int .i64 t504, .slice Ao16 t505.length co16, .int .i64 t508] 30 (0, 0)) (by (with_reducible repeat (first | refine blk_drewN ?_ _ | refine blk_drew ?_ | refine blk_alloc ?_ _)); refine blk_far ?_ NB509_558.out _; (with_reducible repeat (first | refine blk_drewN ?_ _ | refine blk_drew ?_ | refine blk_alloc ?_ _)); refine blk_far ?_ NB509_558.out _; (with_reducible repeat (first | refine blk_drewN ?_ _ | refine blk_drew ?_ | refine blk_alloc ?_ _)); refine blk_far ?_ NB509_558.out _; (with_reducible repeat (first | refine blk_drewN ?_ _ | refine blk_drew ?_ | refine blk_alloc ?_ _)); refine blk_far ?_ NB509_558.out _; (with_reducible repeat (first | refine blk_drewN ?_ _ | refine blk_drew ?_ | refine blk_alloc ?_ _)); refine blk_far ?_ NB509_558.out _; (with_reducible repeat (first | refine blk_drewN ?_ _ | refine blk_drew ?_ | refine blk_alloc ?_ _)); exact BK509.out) hb); replace BK520 := Aside0.mk (blk_below (g := gb520) (o := .cells #[.int .i64 t512, .int .i64 t513, .int .i64 t514, .slice Ao21 t515.length co21, .int .i64 t518] 30 (0, 0)) (by (with_reducible repeat (first | refine blk_drewN ?_ _ | refine blk_drew ?_ | refine blk_alloc ?_ _)); refine blk_far ?_ NB520_558.out _; (with_reducible repeat (first | refine blk_drewN ?_ _ | refine blk_drew ?_ | refine blk_alloc ?_ _)); refine blk_far ?_ NB520_558.out _; (with_reducible repeat (first | refine blk_drewN ?_ _ | refine blk_drew ?_ | refine blk_alloc ?_ _)); refine blk_far ?_ NB520_558.out _; (with_reducible repeat (first | refine blk_drewN ?_ _ | refine blk_drew ?_ | refine blk_alloc ?_ _)); refine blk_far ?_ NB520_558.out _; (with_reducible repeat (first | refine blk_drewN ?_ _ | refine blk_drew ?_ | refine blk_alloc ?_ _)); refine blk_far ?_ NB520_558.out _; (with_reducible repeat (first | refine blk_drewN ?_ _ | refine blk_drew ?_ | refine blk_alloc ?_ _)); exact BK520.out) hb); replace BK529 := Aside0.mk (blk_below (g := gb529) (o := .cells #[.int .i64 t521, .int .i64 t522, .int .i64 t523, .slice Ao27 t524.length co27, .int .i64 t527] 30 (0, 0)) (by (with_reducible repeat (first | refine blk_drewN ?_ _ | refine blk_drew ?_ | refine blk_alloc ?_ _)); refine blk_far ?_ NB529_558.out _; (with_reducible repeat (first | refine blk_drewN ?_ _ | refine blk_drew ?_ | refine blk_alloc ?_ _)); refine blk_far ?_ NB529_558.out _; (with_reducible repeat (first | refine blk_drewN ?_ _ | refine blk_drew ?_ | refine blk_alloc ?_ _)); refine blk_far ?_ NB529_558.out _; (with_reducible repeat (first | refine blk_drewN ?_ _ | refine blk_drew ?_ | refine blk_alloc ?_ _)); refine blk_far ?_ NB529_558.out _; (with_reducible repeat (first | refine blk_drewN ?_ _ | refine blk_drew ?_ | refine blk_alloc ?_ _)); refine blk_far ?_ NB529_558.out _; (with_reducible repeat (first | refine blk_drewN ?_ _ | refine blk_drew ?_ | refine blk_alloc ?_ _)); exact BK529.out) hb); replace BK538 := Aside0.mk (blk_below (g := gb538) (o := .cells #[.int .i64 t530, .int .i64 t531, .int .i64 t532, .slice Ao35 t533.length co35, .int .i64 t536] 30 (0, 0)) (by (with_reducible repeat (first | refine blk_drewN ?_ _ | refine blk_drew ?_ | refine blk_alloc ?_ _)); refine blk_far ?_ NB538_558.out _; (with_reducible repeat (first | refine blk_drewN ?_ _ | refine blk_drew ?_ | refine blk_alloc ?_ _)); refine blk_far ?_ NB538_558.out _; (with_reducible repeat (first | refine blk_drewN ?_ _ | refine blk_drew ?_ | refine blk_alloc ?_ _)); refine blk_far ?_ NB538_558.out _; (with_reducible repeat (first | refine blk_drewN ?_ _ | refine blk_drew ?_ | refine blk_alloc ?_ _)); refine blk_far ?_ NB538_558.out _; (with_reducible repeat (first | refine blk_drewN ?_ _ | refine blk_drew ?_ | refine blk_alloc ?_ _)); refine blk_far ?_ NB538_558.out _; (with_reducible repeat (first | refine blk_drewN ?_ _ | refine blk_drew ?_ | refine blk_alloc ?_ _)); exact BK538.out) hb); replace BK542 := Aside0.mk (blk_below (g := gb542) (o := .cells #[.int .i64 t539, .int .i64 t540, .int .i64 t541] 27 (0, 0)) (by (with_reducible repeat (first | refine blk_drewN ?_ _ | refine blk_drew ?_ | refine blk_alloc ?_ _)); refine blk_far ?_ NB542_558.out _; (with_reducible repeat (first | refine blk_drewN ?_ _ | refine blk_drew ?_ | refine blk_alloc ?_ _)); refine blk_far ?_ NB542_558.out _; (with_reducible repeat (first | refine blk_drewN ?_ _ | refine blk_drew ?_ | refine blk_alloc ?_ _)); refine blk_far ?_ NB542_558.out _; (with_reducible repeat (first | refine blk_drewN ?_ _ | refine blk_drew ?_ | refine blk_alloc ?_ _)); refine blk_far ?_ NB542_558.out _; (with_reducible repeat (first | refine blk_drewN ?_ _ | refine blk_drew ?_ | refine blk_alloc ?_ _)); refine blk_far ?_ NB542_558.out _; (with_reducible repeat (first | refine blk_drewN ?_ _ | refine blk_drew ?_ | refine blk_alloc ?_ _)); exact BK542.out) hb); replace BK558 := Aside0.mk (blk_below (bq5_ BK558.out) hb); replace HB := HB.s6 GE509 GE520 GE529 GE538 GE542 GE558 hb; (try clear hb)) | (go_at_call 14; (with_reducible refine (impl_IsPassage.calls t559 t560 t561 t543 true _ A77.out).mono ?_); rintro e w124 ⟨rfl, hb⟩; replace HO_510003 := HO_510003.kb hb; replace HO_521003 := HO_521003.kb hb; replace HO_530003 := HO_530003.kb hb; replace HO_539003 := HO_539003.kb hb; replace HO555 := HO555.kb hb; replace BK509 := BK509.bb hb; replace BK520 := BK520.bb hb; replace BK529 := BK529.bb hb; replace BK538 := BK538.bb hb; replace BK542 := BK542.bb hb; replace BK558 := BK558.bb hb; replace HB := HB.s6 GE509 GE520 GE529 GE538 GE542 GE558 hb; (try clear hb); have hnb125 := NB542_520.out; have hnc125 := NB520_542.out; have hnb126 := NB542_538.out; have hnc126 := NB538_542.out; obtain ⟨hcz127_0, hcz127_1, hcz127_2⟩ := cz3_ BK542.out; obtain ⟨hfz127_0, hfz127_1, hfz127_2⟩ := fz3_ BK542.out) | (go_at_call 15; (with_reducible refine (spec_IsConnected.calls kj11 t539 t540 t541 t563 _ A103.out).mono ?_); rintro e w128 ⟨rfl, hb⟩; replace HO_510003 := HO_510003.kb hb; replace HO_521003 := HO_521003.kb hb; replace HO_530003 := HO_530003.kb hb; replace HO_539003 := HO_539003.kb hb; replace HO555 := HO555.kb hb; replace BK509 := BK509.bb hb; replace BK520 := BK520.bb hb; replace BK529 := BK529.bb hb; replace BK538 := BK538.bb hb; replace BK542 := BK542.bb hb; replace BK558 := BK558.bb hb; replace HB := HB.s6 GE509 GE520 GE529 GE538 GE542 GE558 hb; (try clear hb)))
           go_ret
           exact ⟨ex_, hb6_ HB.out GE509.out GE520.out GE529.out GE538.out GE542.out GE558.out⟩
         ·rw [if_neg c80] at H
          have c80b0 : decide (t549 ≤ 20) = false := decide_eq_false c80
          clear c80
          obtain rfl := Option.some.inj H
          have hnb129 := NB509_520.out
          have hnc129 := NB520_509.out
          have hnb130 := NB509_529.out
          have hnc130 := NB529_509.out
          have hnb131 := NB509_538.out
          have hnc131 := NB538_509.out
          have hnb132 := NB509_542.out
          have hnc132 := NB542_509.out
          obtain ⟨hcz133_0, hcz133_1, hcz133_2, hcz133_3, hcz133_4⟩ := cz5_ BK509.out
          obtain ⟨hfz133_0, hfz133_1, hfz133_2, hfz133_3, hfz133_4⟩ := fz5_ BK509.out
          go_wp2_with (first | (refine gl_ 99 Try.func12 #[.agg #[.int .i64 t502, .int .i64 t503, .int .i64 t504, .slice Ao16 t505.length co16, .int .i64 t508], .int .i64 (wrap64 (1 + (Int.tmod t511 10)))] ?_; (with_reducible refine (impl_DaysOpen.calls kj11 t502 t503 t504 (fun k_ => some k_ = (.slice Ao16 t505.length co16 : Value).ownBlock) _ _ t505 t508 (wrap64 (1 + (Int.tmod t511 10))) t549 _ ?side1 A66.out).mono ?_); (case side1 => exact Kd.R_V (Kd.R_tight rfl (Kd.R_types (Kd.R_types (Kd.R_types (Kd.R_types (Kd.R_types (HO_510003.out) BK509.out (by decide)) BK520.out (by decide)) BK529.out (by decide)) BK538.out (by decide)) BK542.out (by decide)))); rintro e w134 ⟨rfl, hb⟩; refine ⟨_, rfl, ?_⟩; replace HO_510003 := HO_510003.kb hb; replace HO_521003 := HO_521003.kb hb; replace HO_530003 := HO_530003.kb hb; replace HO_539003 := HO_539003.kb hb; replace BK509 := BK509.bb hb; replace BK520 := BK520.bb hb; replace BK529 := BK529.bb hb; replace BK538 := BK538.bb hb; replace BK542 := BK542.bb hb; replace HB := HB.s5 GE509 GE520 GE529 GE538 GE542 hb; (try clear hb); have hnb135 := NB529_520.out; have hnc135 := NB520_529.out; have hnb136 := NB529_538.out; have hnc136 := NB538_529.out; have hnb137 := NB529_542.out; have hnc137 := NB542_529.out; obtain ⟨hcz138_0, hcz138_1, hcz138_2, hcz138_3, hcz138_4⟩ := cz5_ BK529.out; obtain ⟨hfz138_0, hfz138_1, hfz138_2, hfz138_3, hfz138_4⟩ := fz5_ BK529.out) | (refine gl_ 107 Try.func13 #[.agg #[.int .i64 t521, .int .i64 t522, .int .i64 t523, .slice Ao27 t524.length co27, .int .i64 t527], .int .i64 t543] ?_; (with_reducible refine (impl_CutHedge.calls t521 t522 t523 _ _ t524 t527 t543 t550 t551 t552 t553 t556 true _ ?side1 ?side2 A74.out).mono ?_); (case side1 => repeat (first | exact (Kd.R_reads' HO_530003.out).2.2 | (with_reducible refine Kd.C_alloc ?_ _) | (with_reducible refine Kd.C_drewN ?_ _) | (with_reducible refine Kd.C_drew ?_))); (case side2 => exact (Kd.R_reads' HO_530003.out).2.1); rintro e w139 ⟨v554, rfl, ho0, hb⟩; refine ⟨_, rfl, ?_⟩; have HO555 := Aside0.mk (Kd.R_lower (Kd.R_new' (Kd.R_new' (Kd.R_new' (Kd.R_new' ho0 (Kd.R_lt (kr_ HO_510003.out))) (Kd.R_lt (kr_ HO_521003.out))) (Kd.R_lt (kr_ HO_530003.out))) (Kd.R_lt (kr_ HO_539003.out))) (below_size (hb5_ HB.out GE509.out GE520.out GE529.out GE538.out GE542.out))); replace HO_510003 := Aside0.mk (Kd.R_elder' (kr_ HO_510003.out) (Kd.R_base ho0) hb); replace HO_521003 := Aside0.mk (Kd.R_elder' (kr_ HO_521003.out) (Kd.R_base ho0) hb); replace HO_530003 := Aside0.mk (Kd.R_elder' (kr_ HO_530003.out) (Kd.R_base ho0) hb); replace HO_539003 := Aside0.mk (Kd.R_elder' (kr_ HO_539003.out) (Kd.R_base ho0) hb); replace BK509 := BK509.bb hb; replace BK520 := BK520.bb hb; replace BK529 := BK529.bb hb; replace BK538 := BK538.bb hb; replace BK542 := BK542.bb hb; replace HB := HB.s5 GE509 GE520 GE529 GE538 GE542 hb; (try clear hb); (try clear ho0)) | (refine box_ (N := 15) (cs := #[.int .i64 0, .int .i64 0, .int .i64 0, .slice none 0 0, .int .i64 0]) (t := 30) ?_; intro gb558 hg w140 hbox hb; replace HO_510003 := HO_510003.kb hb; replace HO_521003 := HO_521003.kb hb; replace HO_530003 := HO_530003.kb hb; replace HO_539003 := HO_539003.kb hb; replace HO555 := HO555.kb hb; have BK558 := Aside0.mk (hbox); have GW558 := HB.g5 GE509 GE520 GE529 GE538 GE542 hg; have GE558 := HB.g5 GE509 GE520 GE529 GE538 GE542 hg; replace HB := HB.s5 GE509 GE520 GE529 GE538 GE542 hb; have NB509_558 := BK509.nl hg; have NB558_509 := BK509.nr hg; replace BK509 := BK509.bb hb; have NB520_558 := BK520.nl hg; have NB558_520 := BK520.nr hg; replace BK520 := BK520.bb hb; have NB529_558 := BK529.nl hg; have NB558_529 := BK529.nr hg; replace BK529 := BK529.bb hb; have NB538_558 := BK538.nl hg; have NB558_538 := BK538.nr hg; replace BK538 := BK538.bb hb; have NB542_558 := BK542.nl hg; have NB558_542 := BK542.nr hg; replace BK542 := BK542.bb hb; clear hb hbox hg; have hnb141 := NB558_509.out; have hnc141 := NB509_558.out; have hnb142 := NB558_520.out; have hnc142 := NB520_558.out; have hnb143 := NB558_529.out; have hnc143 := NB529_558.out; have hnb144 := NB558_538.out; have hnc144 := NB538_558.out; have hnb145 := NB558_542.out; have hnc145 := NB542_558.out; obtain ⟨hcz146_0, hcz146_1, hcz146_2, hcz146_3, hcz146_4⟩ := cz5_ BK558.out; obtain ⟨hfz146_0, hfz146_1, hfz146_2, hfz146_3, hfz146_4⟩ := fz5_ BK558.out; obtain ⟨Ao147, co147, eo147⟩ := Kd.R_slice HO555.out; subst eo147) | (go_at_call 8; (with_reducible refine (impl_OpenNow.calls kj11 t550 t551 t552 _ _ t553 t556 t559 t560 t561 _ ?side1 ?side2 A76.out).mono ?_); (case side1 => refine (Kd.R_reads' (e := 3) (base := w.heap.size) (ok := fun k_ => ((((True ∧ some k_ ≠ (.slice Ao16 t505.length co16 : Value).ownBlock) ∧ some k_ ≠ (.slice Ao21 t515.length co21 : Value).ownBlock) ∧ some k_ ≠ (.slice Ao27 t524.length co27 : Value).ownBlock) ∧ some k_ ≠ (.slice Ao35 t533.length co35 : Value).ownBlock)) (n := t553.length) (c := co147) ?_).2.2; exact (rq5_ HO555.out BK558.out)); (case side2 => exact (Kd.R_reads' HO555.out).2.1); rintro e w148 ⟨rfl, hb⟩; replace HO_510003 := Aside0.mk (Kd.R_below (rq5_ HO_510003.out BK558.out) hb); replace HO_521003 := Aside0.mk (Kd.R_below (rq5_ HO_521003.out BK558.out) hb); replace HO_530003 := Aside0.mk (Kd.R_below (rq5_ HO_530003.out BK558.out) hb); replace HO_539003 := Aside0.mk (Kd.R_below (rq5_ HO_539003.out BK558.out) hb); replace HO555 := Aside0.mk (Kd.R_below (rq5_ HO555.out BK558.out) hb); replace BK509 := Aside0.mk (blk_below (g := gb509) (o := .cells #[.int .i64 t502, .int .i64 t503, .int .i64 t504, .slice Ao16 t505.length co16, .int .i64 t508] 30 (0, 0)) (by (with_reducible repeat (first | refine blk_drewN ?_ _ | refine blk_drew ?_ | refine blk_alloc ?_ _)); refine blk_far ?_ NB509_558.out _; (with_reducible repeat (first | refine blk_drewN ?_ _ | refine blk_drew ?_ | refine blk_alloc ?_ _)); refine blk_far ?_ NB509_558.out _; (with_reducible repeat (first | refine blk_drewN ?_ _ | refine blk_drew ?_ | refine blk_alloc ?_ _)); refine blk_far ?_ NB509_558.out _; (with_reducible repeat (first | refine blk_drewN ?_ _ | refine blk_drew ?_ | refine blk_alloc ?_ _)); refine blk_far ?_ NB509_558.out _; (with_reducible repeat (first | refine blk_drewN ?_ _ | refine blk_drew ?_ | refine blk_alloc ?_ _)); refine blk_far ?_ NB509_558.out _; (with_reducible repeat (first | refine blk_drewN ?_ _ | refine blk_drew ?_ | refine blk_alloc ?_ _)); exact BK509.out) hb); replace BK520 := Aside0.mk (blk_below (g := gb520) (o := .cells #[.int .i64 t512, .int .i64 t513, .int .i64 t514, .slice Ao21 t515.length co21, .int .i64 t518] 30 (0, 0)) (by (with_reducible repeat (first | refine blk_drewN ?_ _ | refine blk_drew ?_ | refine blk_alloc ?_ _)); refine blk_far ?_ NB520_558.out _; (with_reducible repeat (first | refine blk_drewN ?_ _ | refine blk_drew ?_ | refine blk_alloc ?_ _)); refine blk_far ?_ NB520_558.out _; (with_reducible repeat (first | refine blk_drewN ?_ _ | refine blk_drew ?_ | refine blk_alloc ?_ _)); refine blk_far ?_ NB520_558.out _; (with_reducible repeat (first | refine blk_drewN ?_ _ | refine blk_drew ?_ | refine blk_alloc ?_ _)); refine blk_far ?_ NB520_558.out _; (with_reducible repeat (first | refine blk_drewN ?_ _ | refine blk_drew ?_ | refine blk_alloc ?_ _)); refine blk_far ?_ NB520_558.out _; (with_reducible repeat (first | refine blk_drewN ?_ _ | refine blk_drew ?_ | refine blk_alloc ?_ _)); exact BK520.out) hb); replace BK529 := Aside0.mk (blk_below (g := gb529) (o := .cells #[.int .i64 t521, .int .i64 t522, .int .i64 t523, .slice Ao27 t524.length co27, .int .i64 t527] 30 (0, 0)) (by (with_reducible repeat (first | refine blk_drewN ?_ _ | refine blk_drew ?_ | refine blk_alloc ?_ _)); refine blk_far ?_ NB529_558.out _; (with_reducible repeat (first | refine blk_drewN ?_ _ | refine blk_drew ?_ | refine blk_alloc ?_ _)); refine blk_far ?_ NB529_558.out _; (with_reducible repeat (first | refine blk_drewN ?_ _ | refine blk_drew ?_ | refine blk_alloc ?_ _)); refine blk_far ?_ NB529_558.out _; (with_reducible repeat (first | refine blk_drewN ?_ _ | refine blk_drew ?_ | refine blk_alloc ?_ _)); refine blk_far ?_ NB529_558.out _; (with_reducible repeat (first | refine blk_drewN ?_ _ | refine blk_drew ?_ | refine blk_alloc ?_ _)); refine blk_far ?_ NB529_558.out _; (with_reducible repeat (first | refine blk_drewN ?_ _ | refine blk_drew ?_ | refine blk_alloc ?_ _)); exact BK529.out) hb); replace BK538 := Aside0.mk (blk_below (g := gb538) (o := .cells #[.int .i64 t530, .int .i64 t531, .int .i64 t532, .slice Ao35 t533.length co35, .int .i64 t536] 30 (0, 0)) (by (with_reducible repeat (first | refine blk_drewN ?_ _ | refine blk_drew ?_ | refine blk_alloc ?_ _)); refine blk_far ?_ NB538_558.out _; (with_reducible repeat (first | refine blk_drewN ?_ _ | refine blk_drew ?_ | refine blk_alloc ?_ _)); refine blk_far ?_ NB538_558.out _; (with_reducible repeat (first | refine blk_drewN ?_ _ | refine blk_drew ?_ | refine blk_alloc ?_ _)); refine blk_far ?_ NB538_558.out _; (with_reducible repeat (first | refine blk_drewN ?_ _ | refine blk_drew ?_ | refine blk_alloc ?_ _)); refine blk_far ?_ NB538_558.out _; (with_reducible repeat (first | refine blk_drewN ?_ _ | refine blk_drew ?_ | refine blk_alloc ?_ _)); refine blk_far ?_ NB538_558.out _; (with_reducible repeat (first | refine blk_drewN ?_ _ | refine blk_drew ?_ | refine blk_alloc ?_ _)); exact BK538.out) hb); replace BK542 := Aside0.mk (blk_below (g := gb542) (o := .cells #[.int .i64 t539, .int .i64 t540, .int .i64 t541] 27 (0, 0)) (by (with_reducible repeat (first | refine blk_drewN ?_ _ | refine blk_drew ?_ | refine blk_alloc ?_ _)); refine blk_far ?_ NB542_558.out _; (with_reducible repeat (first | refine blk_drewN ?_ _ | refine blk_drew ?_ | refine blk_alloc ?_ _)); refine blk_far ?_ NB542_558.out _; (with_reducible repeat (first | refine blk_drewN ?_ _ | refine blk_drew ?_ | refine blk_alloc ?_ _)); refine blk_far ?_ NB542_558.out _; (with_reducible repeat (first | refine blk_drewN ?_ _ | refine blk_drew ?_ | refine blk_alloc ?_ _)); refine blk_far ?_ NB542_558.out _; (with_reducible repeat (first | refine blk_drewN ?_ _ | refine blk_drew ?_ | refine blk_alloc ?_ _)); refine blk_far ?_ NB542_558.out _; (with_reducible repeat (first | refine blk_drewN ?_ _ | refine blk_drew ?_ | refine blk_alloc ?_ _)); exact BK542.out) hb); replace BK558 := Aside0.mk (blk_below (bq5_ BK558.out) hb); replace HB := HB.s6 GE509 GE520 GE529 GE538 GE542 GE558 hb; (try clear hb)) | (go_at_call 14; (with_reducible refine (impl_IsPassage.calls t559 t560 t561 t543 true _ A77.out).mono ?_); rintro e w149 ⟨rfl, hb⟩; replace HO_510003 := HO_510003.kb hb; replace HO_521003 := HO_521003.kb hb; replace HO_530003 := HO_530003.kb hb; replace HO_539003 := HO_539003.kb hb; replace HO555 := HO555.kb hb; replace BK509 := BK509.bb hb; replace BK520 := BK520.bb hb; replace BK529 := BK529.bb hb; replace BK538 := BK538.bb hb; replace BK542 := BK542.bb hb; replace BK558 := BK558.bb hb; replace HB := HB.s6 GE509 GE520 GE529 GE538 GE542 GE558 hb; (try clear hb)))
          go_ret
          exact ⟨ex_, hb6_ HB.out GE509.out GE520.out GE529.out GE538.out GE542.out GE558.out⟩
        ·rw [if_neg c79] at H
         have c79b0 : decide (0 ≤ t549) = false := decide_eq_false c79
         clear c79
         obtain rfl := Option.some.inj H
         have hnb150 := NB509_520.out
         have hnc150 := NB520_509.out
         have hnb151 := NB509_529.out
         have hnc151 := NB529_509.out
         have hnb152 := NB509_538.out
         have hnc152 := NB538_509.out
         have hnb153 := NB509_542.out
         have hnc153 := NB542_509.out
         obtain ⟨hcz154_0, hcz154_1, hcz154_2, hcz154_3, hcz154_4⟩ := cz5_ BK509.out
         obtain ⟨hfz154_0, hfz154_1, hfz154_2, hfz154_3, hfz154_4⟩ := fz5_ BK509.out
         go_wp2_with (first | (refine gl_ 99 Try.func12 #[.agg #[.int .i64 t502, .int .i64 t503, .int .i64 t504, .slice Ao16 t505.length co16, .int .i64 t508], .int .i64 (wrap64 (1 + (Int.tmod t511 10)))] ?_; (with_reducible refine (impl_DaysOpen.calls kj11 t502 t503 t504 (fun k_ => some k_ = (.slice Ao16 t505.length co16 : Value).ownBlock) _ _ t505 t508 (wrap64 (1 + (Int.tmod t511 10))) t549 _ ?side1 A66.out).mono ?_); (case side1 => exact Kd.R_V (Kd.R_tight rfl (Kd.R_types (Kd.R_types (Kd.R_types (Kd.R_types (Kd.R_types (HO_510003.out) BK509.out (by decide)) BK520.out (by decide)) BK529.out (by decide)) BK538.out (by decide)) BK542.out (by decide)))); rintro e w155 ⟨rfl, hb⟩; refine ⟨_, rfl, ?_⟩; replace HO_510003 := HO_510003.kb hb; replace HO_521003 := HO_521003.kb hb; replace HO_530003 := HO_530003.kb hb; replace HO_539003 := HO_539003.kb hb; replace BK509 := BK509.bb hb; replace BK520 := BK520.bb hb; replace BK529 := BK529.bb hb; replace BK538 := BK538.bb hb; replace BK542 := BK542.bb hb; replace HB := HB.s5 GE509 GE520 GE529 GE538 GE542 hb; (try clear hb); have hnb156 := NB529_520.out; have hnc156 := NB520_529.out; have hnb157 := NB529_538.out; have hnc157 := NB538_529.out; have hnb158 := NB529_542.out; have hnc158 := NB542_529.out; obtain ⟨hcz159_0, hcz159_1, hcz159_2, hcz159_3, hcz159_4⟩ := cz5_ BK529.out; obtain ⟨hfz159_0, hfz159_1, hfz159_2, hfz159_3, hfz159_4⟩ := fz5_ BK529.out) | (refine gl_ 107 Try.func13 #[.agg #[.int .i64 t521, .int .i64 t522, .int .i64 t523, .slice Ao27 t524.length co27, .int .i64 t527], .int .i64 t543] ?_; (with_reducible refine (impl_CutHedge.calls t521 t522 t523 _ _ t524 t527 t543 t550 t551 t552 t553 t556 true _ ?side1 ?side2 A74.out).mono ?_); (case side1 => repeat (first | exact (Kd.R_reads' HO_530003.out).2.2 | (with_reducible refine Kd.C_alloc ?_ _) | (with_reducible refine Kd.C_drewN ?_ _) | (with_reducible refine Kd.C_drew ?_))); (case side2 => exact (Kd.R_reads' HO_530003.out).2.1); rintro e w160 ⟨v554, rfl, ho0, hb⟩; refine ⟨_, rfl, ?_⟩; have HO555 := Aside0.mk (Kd.R_lower (Kd.R_new' (Kd.R_new' (Kd.R_new' (Kd.R_new' ho0 (Kd.R_lt (kr_ HO_510003.out))) (Kd.R_lt (kr_ HO_521003.out))) (Kd.R_lt (kr_ HO_530003.out))) (Kd.R_lt (kr_ HO_539003.out))) (below_size (hb5_ HB.out GE509.out GE520.out GE529.out GE538.out GE542.out))); replace HO_510003 := Aside0.mk (Kd.R_elder' (kr_ HO_510003.out) (Kd.R_base ho0) hb); replace HO_521003 := Aside0.mk (Kd.R_elder' (kr_ HO_521003.out) (Kd.R_base ho0) hb); replace HO_530003 := Aside0.mk (Kd.R_elder' (kr_ HO_530003.out) (Kd.R_base ho0) hb); replace HO_539003 := Aside0.mk (Kd.R_elder' (kr_ HO_539003.out) (Kd.R_base ho0) hb); replace BK509 := BK509.bb hb; replace BK520 := BK520.bb hb; replace BK529 := BK529.bb hb; replace BK538 := BK538.bb hb; replace BK542 := BK542.bb hb; replace HB := HB.s5 GE509 GE520 GE529 GE538 GE542 hb; (try clear hb); (try clear ho0)) | (refine box_ (N := 15) (cs := #[.int .i64 0, .int .i64 0, .int .i64 0, .slice none 0 0, .int .i64 0]) (t := 30) ?_; intro gb558 hg w161 hbox hb; replace HO_510003 := HO_510003.kb hb; replace HO_521003 := HO_521003.kb hb; replace HO_530003 := HO_530003.kb hb; replace HO_539003 := HO_539003.kb hb; replace HO555 := HO555.kb hb; have BK558 := Aside0.mk (hbox); have GW558 := HB.g5 GE509 GE520 GE529 GE538 GE542 hg; have GE558 := HB.g5 GE509 GE520 GE529 GE538 GE542 hg; replace HB := HB.s5 GE509 GE520 GE529 GE538 GE542 hb; have NB509_558 := BK509.nl hg; have NB558_509 := BK509.nr hg; replace BK509 := BK509.bb hb; have NB520_558 := BK520.nl hg; have NB558_520 := BK520.nr hg; replace BK520 := BK520.bb hb; have NB529_558 := BK529.nl hg; have NB558_529 := BK529.nr hg; replace BK529 := BK529.bb hb; have NB538_558 := BK538.nl hg; have NB558_538 := BK538.nr hg; replace BK538 := BK538.bb hb; have NB542_558 := BK542.nl hg; have NB558_542 := BK542.nr hg; replace BK542 := BK542.bb hb; clear hb hbox hg; have hnb162 := NB558_509.out; have hnc162 := NB509_558.out; have hnb163 := NB558_520.out; have hnc163 := NB520_558.out; have hnb164 := NB558_529.out; have hnc164 := NB529_558.out; have hnb165 := NB558_538.out; have hnc165 := NB538_558.out; have hnb166 := NB558_542.out; have hnc166 := NB542_558.out; obtain ⟨hcz167_0, hcz167_1, hcz167_2, hcz167_3, hcz167_4⟩ := cz5_ BK558.out; obtain ⟨hfz167_0, hfz167_1, hfz167_2, hfz167_3, hfz167_4⟩ := fz5_ BK558.out; obtain ⟨Ao168, co168, eo168⟩ := Kd.R_slice HO555.out; subst eo168) | (go_at_call 8; (with_reducible refine (impl_OpenNow.calls kj11 t550 t551 t552 _ _ t553 t556 t559 t560 t561 _ ?side1 ?side2 A76.out).mono ?_); (case side1 => refine (Kd.R_reads' (e := 3) (base := w.heap.size) (ok := fun k_ => ((((True ∧ some k_ ≠ (.slice Ao16 t505.length co16 : Value).ownBlock) ∧ some k_ ≠ (.slice Ao21 t515.length co21 : Value).ownBlock) ∧ some k_ ≠ (.slice Ao27 t524.length co27 : Value).ownBlock) ∧ some k_ ≠ (.slice Ao35 t533.length co35 : Value).ownBlock)) (n := t553.length) (c := co168) ?_).2.2; exact (rq5_ HO555.out BK558.out)); (case side2 => exact (Kd.R_reads' HO555.out).2.1); rintro e w169 ⟨rfl, hb⟩; replace HO_510003 := Aside0.mk (Kd.R_below (rq5_ HO_510003.out BK558.out) hb); replace HO_521003 := Aside0.mk (Kd.R_below (rq5_ HO_521003.out BK558.out) hb); replace HO_530003 := Aside0.mk (Kd.R_below (rq5_ HO_530003.out BK558.out) hb); replace HO_539003 := Aside0.mk (Kd.R_below (rq5_ HO_539003.out BK558.out) hb); replace HO555 := Aside0.mk (Kd.R_below (rq5_ HO555.out BK558.out) hb); replace BK509 := Aside0.mk (blk_below (g := gb509) (o := .cells #[.int .i64 t502, .int .i64 t503, .int .i64 t504, .slice Ao16 t505.length co16, .int .i64 t508] 30 (0, 0)) (by (with_reducible repeat (first | refine blk_drewN ?_ _ | refine blk_drew ?_ | refine blk_alloc ?_ _)); refine blk_far ?_ NB509_558.out _; (with_reducible repeat (first | refine blk_drewN ?_ _ | refine blk_drew ?_ | refine blk_alloc ?_ _)); refine blk_far ?_ NB509_558.out _; (with_reducible repeat (first | refine blk_drewN ?_ _ | refine blk_drew ?_ | refine blk_alloc ?_ _)); refine blk_far ?_ NB509_558.out _; (with_reducible repeat (first | refine blk_drewN ?_ _ | refine blk_drew ?_ | refine blk_alloc ?_ _)); refine blk_far ?_ NB509_558.out _; (with_reducible repeat (first | refine blk_drewN ?_ _ | refine blk_drew ?_ | refine blk_alloc ?_ _)); refine blk_far ?_ NB509_558.out _; (with_reducible repeat (first | refine blk_drewN ?_ _ | refine blk_drew ?_ | refine blk_alloc ?_ _)); exact BK509.out) hb); replace BK520 := Aside0.mk (blk_below (g := gb520) (o := .cells #[.int .i64 t512, .int .i64 t513, .int .i64 t514, .slice Ao21 t515.length co21, .int .i64 t518] 30 (0, 0)) (by (with_reducible repeat (first | refine blk_drewN ?_ _ | refine blk_drew ?_ | refine blk_alloc ?_ _)); refine blk_far ?_ NB520_558.out _; (with_reducible repeat (first | refine blk_drewN ?_ _ | refine blk_drew ?_ | refine blk_alloc ?_ _)); refine blk_far ?_ NB520_558.out _; (with_reducible repeat (first | refine blk_drewN ?_ _ | refine blk_drew ?_ | refine blk_alloc ?_ _)); refine blk_far ?_ NB520_558.out _; (with_reducible repeat (first | refine blk_drewN ?_ _ | refine blk_drew ?_ | refine blk_alloc ?_ _)); refine blk_far ?_ NB520_558.out _; (with_reducible repeat (first | refine blk_drewN ?_ _ | refine blk_drew ?_ | refine blk_alloc ?_ _)); refine blk_far ?_ NB520_558.out _; (with_reducible repeat (first | refine blk_drewN ?_ _ | refine blk_drew ?_ | refine blk_alloc ?_ _)); exact BK520.out) hb); replace BK529 := Aside0.mk (blk_below (g := gb529) (o := .cells #[.int .i64 t521, .int .i64 t522, .int .i64 t523, .slice Ao27 t524.length co27, .int .i64 t527] 30 (0, 0)) (by (with_reducible repeat (first | refine blk_drewN ?_ _ | refine blk_drew ?_ | refine blk_alloc ?_ _)); refine blk_far ?_ NB529_558.out _; (with_reducible repeat (first | refine blk_drewN ?_ _ | refine blk_drew ?_ | refine blk_alloc ?_ _)); refine blk_far ?_ NB529_558.out _; (with_reducible repeat (first | refine blk_drewN ?_ _ | refine blk_drew ?_ | refine blk_alloc ?_ _)); refine blk_far ?_ NB529_558.out _; (with_reducible repeat (first | refine blk_drewN ?_ _ | refine blk_drew ?_ | refine blk_alloc ?_ _)); refine blk_far ?_ NB529_558.out _; (with_reducible repeat (first | refine blk_drewN ?_ _ | refine blk_drew ?_ | refine blk_alloc ?_ _)); refine blk_far ?_ NB529_558.out _; (with_reducible repeat (first | refine blk_drewN ?_ _ | refine blk_drew ?_ | refine blk_alloc ?_ _)); exact BK529.out) hb); replace BK538 := Aside0.mk (blk_below (g := gb538) (o := .cells #[.int .i64 t530, .int .i64 t531, .int .i64 t532, .slice Ao35 t533.length co35, .int .i64 t536] 30 (0, 0)) (by (with_reducible repeat (first | refine blk_drewN ?_ _ | refine blk_drew ?_ | refine blk_alloc ?_ _)); refine blk_far ?_ NB538_558.out _; (with_reducible repeat (first | refine blk_drewN ?_ _ | refine blk_drew ?_ | refine blk_alloc ?_ _)); refine blk_far ?_ NB538_558.out _; (with_reducible repeat (first | refine blk_drewN ?_ _ | refine blk_drew ?_ | refine blk_alloc ?_ _)); refine blk_far ?_ NB538_558.out _; (with_reducible repeat (first | refine blk_drewN ?_ _ | refine blk_drew ?_ | refine blk_alloc ?_ _)); refine blk_far ?_ NB538_558.out _; (with_reducible repeat (first | refine blk_drewN ?_ _ | refine blk_drew ?_ | refine blk_alloc ?_ _)); refine blk_far ?_ NB538_558.out _; (with_reducible repeat (first | refine blk_drewN ?_ _ | refine blk_drew ?_ | refine blk_alloc ?_ _)); exact BK538.out) hb); replace BK542 := Aside0.mk (blk_below (g := gb542) (o := .cells #[.int .i64 t539, .int .i64 t540, .int .i64 t541] 27 (0, 0)) (by (with_reducible repeat (first | refine blk_drewN ?_ _ | refine blk_drew ?_ | refine blk_alloc ?_ _)); refine blk_far ?_ NB542_558.out _; (with_reducible repeat (first | refine blk_drewN ?_ _ | refine blk_drew ?_ | refine blk_alloc ?_ _)); refine blk_far ?_ NB542_558.out _; (with_reducible repeat (first | refine blk_drewN ?_ _ | refine blk_drew ?_ | refine blk_alloc ?_ _)); refine blk_far ?_ NB542_558.out _; (with_reducible repeat (first | refine blk_drewN ?_ _ | refine blk_drew ?_ | refine blk_alloc ?_ _)); refine blk_far ?_ NB542_558.out _; (with_reducible repeat (first | refine blk_drewN ?_ _ | refine blk_drew ?_ | refine blk_alloc ?_ _)); refine blk_far ?_ NB542_558.out _; (with_reducible repeat (first | refine blk_drewN ?_ _ | refine blk_drew ?_ | refine blk_alloc ?_ _)); exact BK542.out) hb); replace BK558 := Aside0.mk (blk_below (bq5_ BK558.out) hb); replace HB := HB.s6 GE509 GE520 GE529 GE538 GE542 GE558 hb; (try clear hb)) | (go_at_call 14; (with_reducible refine (impl_IsPassage.calls t559 t560 t561 t543 true _ A77.out).mono ?_); rintro e w170 ⟨rfl, hb⟩; replace HO_510003 := HO_510003.kb hb; replace HO_521003 := HO_521003.kb hb; replace HO_530003 := HO_530003.kb hb; replace HO_539003 := HO_539003.kb hb; replace HO555 := HO555.kb hb; replace BK509 := BK509.bb hb; replace BK520 := BK520.bb hb; replace BK529 := BK529.bb hb; replace BK538 := BK538.bb hb; replace BK542 := BK542.bb hb; replace BK558 := BK558.bb hb; replace HB := HB.s6 GE509 GE520 GE529 GE538 GE542 GE558 hb; (try clear hb)))
         go_ret
         exact ⟨ex_, hb6_ HB.out GE509.out GE520.out GE529.out GE538.out GE542.out GE558.out⟩
       ·replace c78 := Bool.eq_false_iff.mpr c78
        subst c78
        have H1 : (some false) = some r := by rw [if_neg (show ¬ (false = true) by decide)] at H; exact H
        clear H
        have H := H1
        clear H1
        obtain rfl := Option.some.inj H
        have hnb171 := NB509_520.out
        have hnc171 := NB520_509.out
        have hnb172 := NB509_529.out
        have hnc172 := NB529_509.out
        have hnb173 := NB509_538.out
        have hnc173 := NB538_509.out
        have hnb174 := NB509_542.out
        have hnc174 := NB542_509.out
        obtain ⟨hcz175_0, hcz175_1, hcz175_2, hcz175_3, hcz175_4⟩ := cz5_ BK509.out
        obtain ⟨hfz175_0, hfz175_1, hfz175_2, hfz175_3, hfz175_4⟩ := fz5_ BK509.out
        go_wp2_with (first | (refine gl_ 99 Try.func12 #[.agg #[.int .i64 t502, .int .i64 t503, .int .i64 t504, .slice Ao16 t505.length co16, .int .i64 t508], .int .i64 (wrap64 (1 + (Int.tmod t511 10)))] ?_; (with_reducible refine (impl_DaysOpen.calls kj11 t502 t503 t504 (fun k_ => some k_ = (.slice Ao16 t505.length co16 : Value).ownBlock) _ _ t505 t508 (wrap64 (1 + (Int.tmod t511 10))) t549 _ ?side1 A66.out).mono ?_); (case side1 => exact Kd.R_V (Kd.R_tight rfl (Kd.R_types (Kd.R_types (Kd.R_types (Kd.R_types (Kd.R_types (HO_510003.out) BK509.out (by decide)) BK520.out (by decide)) BK529.out (by decide)) BK538.out (by decide)) BK542.out (by decide)))); rintro e w176 ⟨rfl, hb⟩; refine ⟨_, rfl, ?_⟩; replace HO_510003 := HO_510003.kb hb; replace HO_521003 := HO_521003.kb hb; replace HO_530003 := HO_530003.kb hb; replace HO_539003 := HO_539003.kb hb; replace BK509 := BK509.bb hb; replace BK520 := BK520.bb hb; replace BK529 := BK529.bb hb; replace BK538 := BK538.bb hb; replace BK542 := BK542.bb hb; replace HB := HB.s5 GE509 GE520 GE529 GE538 GE542 hb; (try clear hb); have hnb177 := NB529_520.out; have hnc177 := NB520_529.out; have hnb178 := NB529_538.out; have hnc178 := NB538_529.out; have hnb179 := NB529_542.out; have hnc179 := NB542_529.out; obtain ⟨hcz180_0, hcz180_1, hcz180_2, hcz180_3, hcz180_4⟩ := cz5_ BK529.out; obtain ⟨hfz180_0, hfz180_1, hfz180_2, hfz180_3, hfz180_4⟩ := fz5_ BK529.out) | (refine gl_ 107 Try.func13 #[.agg #[.int .i64 t521, .int .i64 t522, .int .i64 t523, .slice Ao27 t524.length co27, .int .i64 t527], .int .i64 t543] ?_; (with_reducible refine (impl_CutHedge.calls t521 t522 t523 _ _ t524 t527 t543 t550 t551 t552 t553 t556 true _ ?side1 ?side2 A74.out).mono ?_); (case side1 => repeat (first | exact (Kd.R_reads' HO_530003.out).2.2 | (with_reducible refine Kd.C_alloc ?_ _) | (with_reducible refine Kd.C_drewN ?_ _) | (with_reducible refine Kd.C_drew ?_))); (case side2 => exact (Kd.R_reads' HO_530003.out).2.1); rintro e w181 ⟨v554, rfl, ho0, hb⟩; refine ⟨_, rfl, ?_⟩; have HO555 := Aside0.mk (Kd.R_lower (Kd.R_new' (Kd.R_new' (Kd.R_new' (Kd.R_new' ho0 (Kd.R_lt (kr_ HO_510003.out))) (Kd.R_lt (kr_ HO_521003.out))) (Kd.R_lt (kr_ HO_530003.out))) (Kd.R_lt (kr_ HO_539003.out))) (below_size (hb5_ HB.out GE509.out GE520.out GE529.out GE538.out GE542.out))); replace HO_510003 := Aside0.mk (Kd.R_elder' (kr_ HO_510003.out) (Kd.R_base ho0) hb); replace HO_521003 := Aside0.mk (Kd.R_elder' (kr_ HO_521003.out) (Kd.R_base ho0) hb); replace HO_530003 := Aside0.mk (Kd.R_elder' (kr_ HO_530003.out) (Kd.R_base ho0) hb); replace HO_539003 := Aside0.mk (Kd.R_elder' (kr_ HO_539003.out) (Kd.R_base ho0) hb); replace BK509 := BK509.bb hb; replace BK520 := BK520.bb hb; replace BK529 := BK529.bb hb; replace BK538 := BK538.bb hb; replace BK542 := BK542.bb hb; replace HB := HB.s5 GE509 GE520 GE529 GE538 GE542 hb; (try clear hb); (try clear ho0)) | (refine box_ (N := 15) (cs := #[.int .i64 0, .int .i64 0, .int .i64 0, .slice none 0 0, .int .i64 0]) (t := 30) ?_; intro gb558 hg w182 hbox hb; replace HO_510003 := HO_510003.kb hb; replace HO_521003 := HO_521003.kb hb; replace HO_530003 := HO_530003.kb hb; replace HO_539003 := HO_539003.kb hb; replace HO555 := HO555.kb hb; have BK558 := Aside0.mk (hbox); have GW558 := HB.g5 GE509 GE520 GE529 GE538 GE542 hg; have GE558 := HB.g5 GE509 GE520 GE529 GE538 GE542 hg; replace HB := HB.s5 GE509 GE520 GE529 GE538 GE542 hb; have NB509_558 := BK509.nl hg; have NB558_509 := BK509.nr hg; replace BK509 := BK509.bb hb; have NB520_558 := BK520.nl hg; have NB558_520 := BK520.nr hg; replace BK520 := BK520.bb hb; have NB529_558 := BK529.nl hg; have NB558_529 := BK529.nr hg; replace BK529 := BK529.bb hb; have NB538_558 := BK538.nl hg; have NB558_538 := BK538.nr hg; replace BK538 := BK538.bb hb; have NB542_558 := BK542.nl hg; have NB558_542 := BK542.nr hg; replace BK542 := BK542.bb hb; clear hb hbox hg; have hnb183 := NB558_509.out; have hnc183 := NB509_558.out; have hnb184 := NB558_520.out; have hnc184 := NB520_558.out; have hnb185 := NB558_529.out; have hnc185 := NB529_558.out; have hnb186 := NB558_538.out; have hnc186 := NB538_558.out; have hnb187 := NB558_542.out; have hnc187 := NB542_558.out; obtain ⟨hcz188_0, hcz188_1, hcz188_2, hcz188_3, hcz188_4⟩ := cz5_ BK558.out; obtain ⟨hfz188_0, hfz188_1, hfz188_2, hfz188_3, hfz188_4⟩ := fz5_ BK558.out; obtain ⟨Ao189, co189, eo189⟩ := Kd.R_slice HO555.out; subst eo189) | (go_at_call 8; (with_reducible refine (impl_OpenNow.calls kj11 t550 t551 t552 _ _ t553 t556 t559 t560 t561 _ ?side1 ?side2 A76.out).mono ?_); (case side1 => refine (Kd.R_reads' (e := 3) (base := w.heap.size) (ok := fun k_ => ((((True ∧ some k_ ≠ (.slice Ao16 t505.length co16 : Value).ownBlock) ∧ some k_ ≠ (.slice Ao21 t515.length co21 : Value).ownBlock) ∧ some k_ ≠ (.slice Ao27 t524.length co27 : Value).ownBlock) ∧ some k_ ≠ (.slice Ao35 t533.length co35 : Value).ownBlock)) (n := t553.length) (c := co189) ?_).2.2; exact (rq5_ HO555.out BK558.out)); (case side2 => exact (Kd.R_reads' HO555.out).2.1); rintro e w190 ⟨rfl, hb⟩; replace HO_510003 := Aside0.mk (Kd.R_below (rq5_ HO_510003.out BK558.out) hb); replace HO_521003 := Aside0.mk (Kd.R_below (rq5_ HO_521003.out BK558.out) hb); replace HO_530003 := Aside0.mk (Kd.R_below (rq5_ HO_530003.out BK558.out) hb); replace HO_539003 := Aside0.mk (Kd.R_below (rq5_ HO_539003.out BK558.out) hb); replace HO555 := Aside0.mk (Kd.R_below (rq5_ HO555.out BK558.out) hb); replace BK509 := Aside0.mk (blk_below (g := gb509) (o := .cells #[.int .i64 t502, .int .i64 t503, .int .i64 t504, .slice Ao16 t505.length co16, .int .i64 t508] 30 (0, 0)) (by (with_reducible repeat (first | refine blk_drewN ?_ _ | refine blk_drew ?_ | refine blk_alloc ?_ _)); refine blk_far ?_ NB509_558.out _; (with_reducible repeat (first | refine blk_drewN ?_ _ | refine blk_drew ?_ | refine blk_alloc ?_ _)); refine blk_far ?_ NB509_558.out _; (with_reducible repeat (first | refine blk_drewN ?_ _ | refine blk_drew ?_ | refine blk_alloc ?_ _)); refine blk_far ?_ NB509_558.out _; (with_reducible repeat (first | refine blk_drewN ?_ _ | refine blk_drew ?_ | refine blk_alloc ?_ _)); refine blk_far ?_ NB509_558.out _; (with_reducible repeat (first | refine blk_drewN ?_ _ | refine blk_drew ?_ | refine blk_alloc ?_ _)); refine blk_far ?_ NB509_558.out _; (with_reducible repeat (first | refine blk_drewN ?_ _ | refine blk_drew ?_ | refine blk_alloc ?_ _)); exact BK509.out) hb); replace BK520 := Aside0.mk (blk_below (g := gb520) (o := .cells #[.int .i64 t512, .int .i64 t513, .int .i64 t514, .slice Ao21 t515.length co21, .int .i64 t518] 30 (0, 0)) (by (with_reducible repeat (first | refine blk_drewN ?_ _ | refine blk_drew ?_ | refine blk_alloc ?_ _)); refine blk_far ?_ NB520_558.out _; (with_reducible repeat (first | refine blk_drewN ?_ _ | refine blk_drew ?_ | refine blk_alloc ?_ _)); refine blk_far ?_ NB520_558.out _; (with_reducible repeat (first | refine blk_drewN ?_ _ | refine blk_drew ?_ | refine blk_alloc ?_ _)); refine blk_far ?_ NB520_558.out _; (with_reducible repeat (first | refine blk_drewN ?_ _ | refine blk_drew ?_ | refine blk_alloc ?_ _)); refine blk_far ?_ NB520_558.out _; (with_reducible repeat (first | refine blk_drewN ?_ _ | refine blk_drew ?_ | refine blk_alloc ?_ _)); refine blk_far ?_ NB520_558.out _; (with_reducible repeat (first | refine blk_drewN ?_ _ | refine blk_drew ?_ | refine blk_alloc ?_ _)); exact BK520.out) hb); replace BK529 := Aside0.mk (blk_below (g := gb529) (o := .cells #[.int .i64 t521, .int .i64 t522, .int .i64 t523, .slice Ao27 t524.length co27, .int .i64 t527] 30 (0, 0)) (by (with_reducible repeat (first | refine blk_drewN ?_ _ | refine blk_drew ?_ | refine blk_alloc ?_ _)); refine blk_far ?_ NB529_558.out _; (with_reducible repeat (first | refine blk_drewN ?_ _ | refine blk_drew ?_ | refine blk_alloc ?_ _)); refine blk_far ?_ NB529_558.out _; (with_reducible repeat (first | refine blk_drewN ?_ _ | refine blk_drew ?_ | refine blk_alloc ?_ _)); refine blk_far ?_ NB529_558.out _; (with_reducible repeat (first | refine blk_drewN ?_ _ | refine blk_drew ?_ | refine blk_alloc ?_ _)); refine blk_far ?_ NB529_558.out _; (with_reducible repeat (first | refine blk_drewN ?_ _ | refine blk_drew ?_ | refine blk_alloc ?_ _)); refine blk_far ?_ NB529_558.out _; (with_reducible repeat (first | refine blk_drewN ?_ _ | refine blk_drew ?_ | refine blk_alloc ?_ _)); exact BK529.out) hb); replace BK538 := Aside0.mk (blk_below (g := gb538) (o := .cells #[.int .i64 t530, .int .i64 t531, .int .i64 t532, .slice Ao35 t533.length co35, .int .i64 t536] 30 (0, 0)) (by (with_reducible repeat (first | refine blk_drewN ?_ _ | refine blk_drew ?_ | refine blk_alloc ?_ _)); refine blk_far ?_ NB538_558.out _; (with_reducible repeat (first | refine blk_drewN ?_ _ | refine blk_drew ?_ | refine blk_alloc ?_ _)); refine blk_far ?_ NB538_558.out _; (with_reducible repeat (first | refine blk_drewN ?_ _ | refine blk_drew ?_ | refine blk_alloc ?_ _)); refine blk_far ?_ NB538_558.out _; (with_reducible repeat (first | refine blk_drewN ?_ _ | refine blk_drew ?_ | refine blk_alloc ?_ _)); refine blk_far ?_ NB538_558.out _; (with_reducible repeat (first | refine blk_drewN ?_ _ | refine blk_drew ?_ | refine blk_alloc ?_ _)); refine blk_far ?_ NB538_558.out _; (with_reducible repeat (first | refine blk_drewN ?_ _ | refine blk_drew ?_ | refine blk_alloc ?_ _)); exact BK538.out) hb); replace BK542 := Aside0.mk (blk_below (g := gb542) (o := .cells #[.int .i64 t539, .int .i64 t540, .int .i64 t541] 27 (0, 0)) (by (with_reducible repeat (first | refine blk_drewN ?_ _ | refine blk_drew ?_ | refine blk_alloc ?_ _)); refine blk_far ?_ NB542_558.out _; (with_reducible repeat (first | refine blk_drewN ?_ _ | refine blk_drew ?_ | refine blk_alloc ?_ _)); refine blk_far ?_ NB542_558.out _; (with_reducible repeat (first | refine blk_drewN ?_ _ | refine blk_drew ?_ | refine blk_alloc ?_ _)); refine blk_far ?_ NB542_558.out _; (with_reducible repeat (first | refine blk_drewN ?_ _ | refine blk_drew ?_ | refine blk_alloc ?_ _)); refine blk_far ?_ NB542_558.out _; (with_reducible repeat (first | refine blk_drewN ?_ _ | refine blk_drew ?_ | refine blk_alloc ?_ _)); refine blk_far ?_ NB542_558.out _; (with_reducible repeat (first | refine blk_drewN ?_ _ | refine blk_drew ?_ | refine blk_alloc ?_ _)); exact BK542.out) hb); replace BK558 := Aside0.mk (blk_below (bq5_ BK558.out) hb); replace HB := HB.s6 GE509 GE520 GE529 GE538 GE542 GE558 hb; (try clear hb)) | (go_at_call 14; (with_reducible refine (impl_IsPassage.calls t559 t560 t561 t543 false _ A77.out).mono ?_); rintro e w191 ⟨rfl, hb⟩; replace HO_510003 := HO_510003.kb hb; replace HO_521003 := HO_521003.kb hb; replace HO_530003 := HO_530003.kb hb; replace HO_539003 := HO_539003.kb hb; replace HO555 := HO555.kb hb; replace BK509 := BK509.bb hb; replace BK520 := BK520.bb hb; replace BK529 := BK529.bb hb; replace BK538 := BK538.bb hb; replace BK542 := BK542.bb hb; replace BK558 := BK558.bb hb; replace HB := HB.s6 GE509 GE520 GE529 GE538 GE542 GE558 hb; (try clear hb)))
        go_ret
        exact ⟨ex_, hb6_ HB.out GE509.out GE520.out GE529.out GE538.out GE542.out GE558.out⟩
      ·replace c75 := Bool.eq_false_iff.mpr c75
       subst c75
       have H1 : (some false) = some r := by rw [if_neg (show ¬ (false = true) by decide)] at H; exact H
       clear H
       have H := H1
       clear H1
       obtain rfl := Option.some.inj H
       have hnb192 := NB509_520.out
       have hnc192 := NB520_509.out
       have hnb193 := NB509_529.out
       have hnc193 := NB529_509.out
       have hnb194 := NB509_538.out
       have hnc194 := NB538_509.out
       have hnb195 := NB509_542.out
       have hnc195 := NB542_509.out
       obtain ⟨hcz196_0, hcz196_1, hcz196_2, hcz196_3, hcz196_4⟩ := cz5_ BK509.out
       obtain ⟨hfz196_0, hfz196_1, hfz196_2, hfz196_3, hfz196_4⟩ := fz5_ BK509.out
       go_wp2_with ((with_reducible refine gw_ ?_); first | (refine gl_ 99 Try.func12 #[.agg #[.int .i64 t502, .int .i64 t503, .int .i64 t504, .slice Ao16 t505.length co16, .int .i64 t508], .int .i64 (wrap64 (1 + (Int.tmod t511 10)))] ?_; (with_reducible refine (impl_DaysOpen.calls kj11 t502 t503 t504 (fun k_ => some k_ = (.slice Ao16 t505.length co16 : Value).ownBlock) _ _ t505 t508 (wrap64 (1 + (Int.tmod t511 10))) t549 _ ?side1 A66.out).mono ?_); (case side1 => exact Kd.R_V (Kd.R_tight rfl (Kd.R_types (Kd.R_types (Kd.R_types (Kd.R_types (Kd.R_types (HO_510003.out) BK509.out (by decide)) BK520.out (by decide)) BK529.out (by decide)) BK538.out (by decide)) BK542.out (by decide)))); rintro e w197 ⟨rfl, hb⟩; refine ⟨_, rfl, ?_⟩; replace HO_510003 := HO_510003.kb hb; replace HO_521003 := HO_521003.kb hb; replace HO_530003 := HO_530003.kb hb; replace HO_539003 := HO_539003.kb hb; replace BK509 := BK509.bb hb; replace BK520 := BK520.bb hb; replace BK529 := BK529.bb hb; replace BK538 := BK538.bb hb; replace BK542 := BK542.bb hb; replace HB := HB.s5 GE509 GE520 GE529 GE538 GE542 hb; (try clear hb); have hnb198 := NB529_520.out; have hnc198 := NB520_529.out; have hnb199 := NB529_538.out; have hnc199 := NB538_529.out; have hnb200 := NB529_542.out; have hnc200 := NB542_529.out; obtain ⟨hcz201_0, hcz201_1, hcz201_2, hcz201_3, hcz201_4⟩ := cz5_ BK529.out; obtain ⟨hfz201_0, hfz201_1, hfz201_2, hfz201_3, hfz201_4⟩ := fz5_ BK529.out) | (refine gl_ 107 Try.func13 #[.agg #[.int .i64 t521, .int .i64 t522, .int .i64 t523, .slice Ao27 t524.length co27, .int .i64 t527], .int .i64 t543] ?_; (with_reducible refine (impl_CutHedge.calls t521 t522 t523 _ _ t524 t527 t543 t550 t551 t552 t553 t556 false _ ?side1 ?side2 A74.out).mono ?_); (case side1 => repeat (first | exact (Kd.R_reads' HO_530003.out).2.2 | (with_reducible refine Kd.C_alloc ?_ _) | (with_reducible refine Kd.C_drewN ?_ _) | (with_reducible refine Kd.C_drew ?_))); (case side2 => exact (Kd.R_reads' HO_530003.out).2.1); rintro e w202 ⟨v554, rfl, ho0, hb⟩; refine ⟨_, rfl, ?_⟩; have HO555 := Aside0.mk (Kd.R_lower (Kd.R_new' (Kd.R_new' (Kd.R_new' (Kd.R_new' ho0 (Kd.R_lt (kr_ HO_510003.out))) (Kd.R_lt (kr_ HO_521003.out))) (Kd.R_lt (kr_ HO_530003.out))) (Kd.R_lt (kr_ HO_539003.out))) (below_size (hb5_ HB.out GE509.out GE520.out GE529.out GE538.out GE542.out))); replace HO_510003 := Aside0.mk (Kd.R_elder' (kr_ HO_510003.out) (Kd.R_base ho0) hb); replace HO_521003 := Aside0.mk (Kd.R_elder' (kr_ HO_521003.out) (Kd.R_base ho0) hb); replace HO_530003 := Aside0.mk (Kd.R_elder' (kr_ HO_530003.out) (Kd.R_base ho0) hb); replace HO_539003 := Aside0.mk (Kd.R_elder' (kr_ HO_539003.out) (Kd.R_base ho0) hb); replace BK509 := BK509.bb hb; replace BK520 := BK520.bb hb; replace BK529 := BK529.bb hb; replace BK538 := BK538.bb hb; replace BK542 := BK542.bb hb; replace HB := HB.s5 GE509 GE520 GE529 GE538 GE542 hb; (try clear hb); (try clear ho0)) | (refine box_ (N := 15) (cs := #[.int .i64 0, .int .i64 0, .int .i64 0, .slice none 0 0, .int .i64 0]) (t := 30) ?_; intro gb558 hg w203 hbox hb; replace HO_510003 := HO_510003.kb hb; replace HO_521003 := HO_521003.kb hb; replace HO_530003 := HO_530003.kb hb; replace HO_539003 := HO_539003.kb hb; replace HO555 := HO555.kb hb; have BK558 := Aside0.mk (hbox); have GW558 := HB.g5 GE509 GE520 GE529 GE538 GE542 hg; have GE558 := HB.g5 GE509 GE520 GE529 GE538 GE542 hg; replace HB := HB.s5 GE509 GE520 GE529 GE538 GE542 hb; have NB509_558 := BK509.nl hg; have NB558_509 := BK509.nr hg; replace BK509 := BK509.bb hb; have NB520_558 := BK520.nl hg; have NB558_520 := BK520.nr hg; replace BK520 := BK520.bb hb; have NB529_558 := BK529.nl hg; have NB558_529 := BK529.nr hg; replace BK529 := BK529.bb hb; have NB538_558 := BK538.nl hg; have NB558_538 := BK538.nr hg; replace BK538 := BK538.bb hb; have NB542_558 := BK542.nl hg; have NB558_542 := BK542.nr hg; replace BK542 := BK542.bb hb; clear hb hbox hg; have hnb204 := NB558_509.out; have hnc204 := NB509_558.out; have hnb205 := NB558_520.out; have hnc205 := NB520_558.out; have hnb206 := NB558_529.out; have hnc206 := NB529_558.out; have hnb207 := NB558_538.out; have hnc207 := NB538_558.out; have hnb208 := NB558_542.out; have hnc208 := NB542_558.out; obtain ⟨hcz209_0, hcz209_1, hcz209_2, hcz209_3, hcz209_4⟩ := cz5_ BK558.out; obtain ⟨hfz209_0, hfz209_1, hfz209_2, hfz209_3, hfz209_4⟩ := fz5_ BK558.out; obtain ⟨Ao210, co210, eo210⟩ := Kd.R_slice HO555.out; subst eo210))
       go_ret
       exact ⟨ex_, hb6_ HB.out GE509.out GE520.out GE529.out GE538.out GE542.out GE558.out⟩

/-- THE ONE PURE STATEMENT of laws_FnHedges: yours. -/
def laws_FnHedges.Pure : Prop := ∀ (l0 : List Int), l0.length ≤ maxLen → l0.length * 1 ≤ 140737488351232 → (∀ x ∈ l0, (Lit.int .u8 x).wf = true) → ∃ k, laws_FnHedges.f k l0 = some true
theorem laws_FnHedges.walk (P : laws_FnHedges.Pure) (a0 : Option Addr) (len0 cap0 : Nat) (z0 : List Int) (w : World) (w0 : (a0 = none ∧ len0 = 0 ∧ cap0 = 0 ∧ z0 = []) ∨ ∃ x, a0 = some x ∧ len0 ≤ cap0 ∧ cap0 ≤ maxLen ∧ z0.length = cap0 ∧ (∀ i, i < z0.length → w.cell? (x.add i) = some (.int .u8 (z0.getD i 0))) ∧ ∀ n ∈ z0, (Lit.int .u8 n).wf = true) (y0 : len0 * 1 ≤ 140737488351232) :
  Calls Try.prog 3 #[.slice a0 len0 cap0] w fun e w' => e = .returned (.bool true) ∧ Below w.heap.size w w' := by
 obtain ⟨l0, rfl, hr0, hm0, hw0, hc0⟩ := ReadsInt.ofRowC w0
 obtain ⟨k, h⟩ := P l0 hm0 y0 hw0
 refine (laws_FnHedges.calls k _ _ l0 true w (Kd.C_of_reads (d := (0 : Int)) (h1 := fun _ => rfl) hr0) hc0 h).mono ?_
 rintro e w' ⟨rfl, hd⟩
 exact ⟨rfl, hd⟩

end Go.Proofs.Ytgfhpjnofmbcoaa.X
