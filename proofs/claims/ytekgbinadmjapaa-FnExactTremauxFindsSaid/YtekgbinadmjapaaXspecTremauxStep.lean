-- Written by a program of this session (xprint.py), out of the translation and of hand-written contracts. Lean checks it.
import Derived.Test.YtekgbinadmjapaaX0
import Derived.Test.YtekgbinadmjapaaXcin
import Derived.Test.YtekgbinadmjapaaXcmaze
import Derived.Test.YtekgbinadmjapaaXcnbr
import Derived.Test.YtekgbinadmjapaaXcstep
import Derived.Test.YtekgbinadmjapaaXspecl23Marks
namespace Go.Proofs.Ytekgbinadmjapaa.X
open Go.RowKit Go.Proofs.YtekgbinadmjapaaW.PrintWords Go.Proofs.YtekgbinadmjapaaW.PrintLast Go.Proofs.YtekgbinadmjapaaW.PrintMore
attribute [local go_sem] max2_int min2_int max_two min_two max_three min_three max_four min_four   -- for this text's walks alone
set_option linter.unusedVariables false
set_option linter.unusedSimpArgs false

/-! ### spec_TremauxStep: function 44 -/
mutual
def spec_TremauxStep.j0 : Nat → List Int → Bool → Int → Int → Int → Int → Int → Option (Int × Int × Bool)
 | 0, _, _, _, _, _, _, _ => none
 | k + 1, x1, x31, x502000, x502001, x502002, x503000, x503001 => if x31 = true then (some (x503000, x503001, false)) else ((spec_GapAt.f k x502000 x502001 x503000 (Int.tmod (wrap64 (x503001 + 2)) 4)).bind fun t506 => ((spec_IsPassage.f x502000 x502001 x502002 t506).bind fun t507 => (spec_TremauxStep.l0 k x1 (Int.tmod (wrap64 (x503001 + 2)) 4) t506 t507 false 0 x502000 x502001 x502002 x503000 x503001)))
def spec_TremauxStep.l0 : Nat → List Int → Int → Int → Bool → Bool → Int → Int → Int → Int → Int → Int → Option (Int × Int × Bool)
 | 0, _, _, _, _, _, _, _, _, _, _, _ => none
 | k + 1, x1, x8, x9, x10, x11, x12, x502000, x502001, x502002, x503000, x503001 => if x12 ≤ 3 then ((spec_GapAt.f k x502000 x502001 x503000 x12).bind fun t508 => (if x12 = x8 then (spec_TremauxStep.j2 k x1 x8 x9 x10 x11 x12 false x502000 x502001 x502002 x503000 x503001) else ((spec_IsPassage.f x502000 x502001 x502002 t508).bind fun t509 => (if t509 = true then (if 0 ≤ t508 then (if t508 < (x1.length : Int) then (spec_TremauxStep.j2 k x1 x8 x9 x10 x11 x12 (decide ((rd x1 t508) > 0)) x502000 x502001 x502002 x503000 x503001) else (none)) else (none)) else (spec_TremauxStep.j2 k x1 x8 x9 x10 x11 x12 false x502000 x502001 x502002 x503000 x503001))))) else (if x10 = true then (if 0 ≤ x9 then (if x9 < (x1.length : Int) then (if (rd x1 x9) = 1 then (spec_TremauxStep.j3 k x1 x8 (-1) x11 x502000 x502001 x502002 x503000 x503001) else (spec_TremauxStep.j3 k x1 x8 (-1) false x502000 x502001 x502002 x503000 x503001)) else (none)) else (none)) else (spec_TremauxStep.j3 k x1 x8 (-1) false x502000 x502001 x502002 x503000 x503001))
def spec_TremauxStep.j2 : Nat → List Int → Int → Int → Bool → Bool → Int → Bool → Int → Int → Int → Int → Int → Option (Int × Int × Bool)
 | 0, _, _, _, _, _, _, _, _, _, _, _, _ => none
 | k + 1, x1, x8, x9, x10, x11, x12, x70, x502000, x502001, x502002, x503000, x503001 => if x70 = true then (spec_TremauxStep.l0 k x1 x8 x9 x10 true (wrap64 (x12 + 1)) x502000 x502001 x502002 x503000 x503001) else (spec_TremauxStep.l0 k x1 x8 x9 x10 x11 (wrap64 (x12 + 1)) x502000 x502001 x502002 x503000 x503001)
def spec_TremauxStep.j3 : Nat → List Int → Int → Int → Bool → Int → Int → Int → Int → Int → Option (Int × Int × Bool)
 | 0, _, _, _, _, _, _, _, _, _ => none
 | k + 1, x1, x8, x14, x81, x502000, x502001, x502002, x503000, x503001 => if x81 = true then (spec_TremauxStep.j4 k x1 x8 x502000 x502001 x502002 x503000 x503001) else (spec_TremauxStep.j4 k x1 x14 x502000 x502001 x502002 x503000 x503001)
def spec_TremauxStep.j4 : Nat → List Int → Int → Int → Int → Int → Int → Int → Option (Int × Int × Bool)
 | 0, _, _, _, _, _, _, _ => none
 | k + 1, x1, x14, x502000, x502001, x502002, x503000, x503001 => spec_TremauxStep.l1 k x1 x14 (([1, 0, 3] : List Int)) 0 x502000 x502001 x502002 x503000 x503001
def spec_TremauxStep.l1 : Nat → List Int → Int → List Int → Int → Int → Int → Int → Int → Int → Option (Int × Int × Bool)
 | 0, _, _, _, _, _, _, _, _, _ => none
 | k + 1, x1, x14, x15, x16, x502000, x502001, x502002, x503000, x503001 => if x16 < 3 then (spec_TremauxStep.j6 k x1 x14 x15 x16 (decide (x14 < 0)) x502000 x502001 x502002 x503000 x503001) else (spec_TremauxStep.j6 k x1 x14 x15 x16 false x502000 x502001 x502002 x503000 x503001)
def spec_TremauxStep.j6 : Nat → List Int → Int → List Int → Int → Bool → Int → Int → Int → Int → Int → Option (Int × Int × Bool)
 | 0, _, _, _, _, _, _, _, _, _, _ => none
 | k + 1, x1, x14, x15, x16, x89, x502000, x502001, x502002, x503000, x503001 => if x89 = true then (if 0 ≤ x16 then (if x16 < (x15.length : Int) then ((spec_GapAt.f k x502000 x502001 x503000 (Int.tmod (wrap64 (x503001 + (rd x15 x16))) 4)).bind fun t516 => ((spec_IsPassage.f x502000 x502001 x502002 t516).bind fun t517 => (if t517 = true then (if 0 ≤ t516 then (if t516 < (x1.length : Int) then (if (rd x1 t516) = 0 then (spec_TremauxStep.l1 k x1 (Int.tmod (wrap64 (x503001 + (rd x15 x16))) 4) x15 (wrap64 (x16 + 1)) x502000 x502001 x502002 x503000 x503001) else (spec_TremauxStep.l1 k x1 x14 x15 (wrap64 (x16 + 1)) x502000 x502001 x502002 x503000 x503001)) else (none)) else (none)) else (spec_TremauxStep.l1 k x1 x14 x15 (wrap64 (x16 + 1)) x502000 x502001 x502002 x503000 x503001)))) else (none)) else (none)) else (spec_TremauxStep.l2 k x1 x14 (([1, 0, 3, 2] : List Int)) 0 x502000 x502001 x502002 x503000 x503001)
def spec_TremauxStep.l2 : Nat → List Int → Int → List Int → Int → Int → Int → Int → Int → Int → Option (Int × Int × Bool)
 | 0, _, _, _, _, _, _, _, _, _ => none
 | k + 1, x1, x14, x15, x19, x502000, x502001, x502002, x503000, x503001 => if x19 < 4 then (spec_TremauxStep.j8 k x1 x14 x15 x19 (decide (x14 < 0)) x502000 x502001 x502002 x503000 x503001) else (spec_TremauxStep.j8 k x1 x14 x15 x19 false x502000 x502001 x502002 x503000 x503001)
def spec_TremauxStep.j8 : Nat → List Int → Int → List Int → Int → Bool → Int → Int → Int → Int → Int → Option (Int × Int × Bool)
 | 0, _, _, _, _, _, _, _, _, _, _ => none
 | k + 1, x1, x14, x15, x19, x123, x502000, x502001, x502002, x503000, x503001 => if x123 = true then (if 0 ≤ x19 then (if x19 < (x15.length : Int) then ((spec_GapAt.f k x502000 x502001 x503000 (Int.tmod (wrap64 (x503001 + (rd x15 x19))) 4)).bind fun t523 => ((spec_IsPassage.f x502000 x502001 x502002 t523).bind fun t524 => (if t524 = true then (if 0 ≤ t523 then (if t523 < (x1.length : Int) then (if (rd x1 t523) = 1 then (spec_TremauxStep.l2 k x1 (Int.tmod (wrap64 (x503001 + (rd x15 x19))) 4) x15 (wrap64 (x19 + 1)) x502000 x502001 x502002 x503000 x503001) else (spec_TremauxStep.l2 k x1 x14 x15 (wrap64 (x19 + 1)) x502000 x502001 x502002 x503000 x503001)) else (none)) else (none)) else (spec_TremauxStep.l2 k x1 x14 x15 (wrap64 (x19 + 1)) x502000 x502001 x502002 x503000 x503001)))) else (none)) else (none)) else (if x14 < 0 then (some (x503000, x503001, false)) else ((spec_Step.f k x502000 x502001 x502002 x503000 x14).bind fun t526 => (some (t526, x14, true))))
end
def spec_TremauxStep.f (k : Nat) (a0_0 : Int) (a0_1 : Int) (a0_2 : Int) (l1 : List Int) (a2_0 : Int) (a2_1 : Int) : Option (Int × Int × Bool) := (spec_WalkerOk.f a0_0 a0_1 a0_2 a2_0 a2_1).bind fun t504 => (if t504 = true then ((spec_l23Marks.f k a0_0 a0_1 a0_2 l1).bind fun t505 => (spec_TremauxStep.j0 k l1 (!t505) a0_0 a0_1 a0_2 a2_0 a2_1)) else (spec_TremauxStep.j0 k l1 true a0_0 a0_1 a0_2 a2_0 a2_1))
theorem spec_TremauxStep.mono_l : ∀ k, (∀ y0 y1 y2 y3 y4 y5 y6, LeO (spec_TremauxStep.j0 k y0 y1 y2 y3 y4 y5 y6) (spec_TremauxStep.j0 (k + 1) y0 y1 y2 y3 y4 y5 y6)) ∧ (∀ y0 y1 y2 y3 y4 y5 y6 y7 y8 y9 y10, LeO (spec_TremauxStep.l0 k y0 y1 y2 y3 y4 y5 y6 y7 y8 y9 y10) (spec_TremauxStep.l0 (k + 1) y0 y1 y2 y3 y4 y5 y6 y7 y8 y9 y10)) ∧ (∀ y0 y1 y2 y3 y4 y5 y6 y7 y8 y9 y10 y11, LeO (spec_TremauxStep.j2 k y0 y1 y2 y3 y4 y5 y6 y7 y8 y9 y10 y11) (spec_TremauxStep.j2 (k + 1) y0 y1 y2 y3 y4 y5 y6 y7 y8 y9 y10 y11)) ∧ (∀ y0 y1 y2 y3 y4 y5 y6 y7 y8, LeO (spec_TremauxStep.j3 k y0 y1 y2 y3 y4 y5 y6 y7 y8) (spec_TremauxStep.j3 (k + 1) y0 y1 y2 y3 y4 y5 y6 y7 y8)) ∧ (∀ y0 y1 y2 y3 y4 y5 y6, LeO (spec_TremauxStep.j4 k y0 y1 y2 y3 y4 y5 y6) (spec_TremauxStep.j4 (k + 1) y0 y1 y2 y3 y4 y5 y6)) ∧ (∀ y0 y1 y2 y3 y4 y5 y6 y7 y8, LeO (spec_TremauxStep.l1 k y0 y1 y2 y3 y4 y5 y6 y7 y8) (spec_TremauxStep.l1 (k + 1) y0 y1 y2 y3 y4 y5 y6 y7 y8)) ∧ (∀ y0 y1 y2 y3 y4 y5 y6 y7 y8 y9, LeO (spec_TremauxStep.j6 k y0 y1 y2 y3 y4 y5 y6 y7 y8 y9) (spec_TremauxStep.j6 (k + 1) y0 y1 y2 y3 y4 y5 y6 y7 y8 y9)) ∧ (∀ y0 y1 y2 y3 y4 y5 y6 y7 y8, LeO (spec_TremauxStep.l2 k y0 y1 y2 y3 y4 y5 y6 y7 y8) (spec_TremauxStep.l2 (k + 1) y0 y1 y2 y3 y4 y5 y6 y7 y8)) ∧ (∀ y0 y1 y2 y3 y4 y5 y6 y7 y8 y9, LeO (spec_TremauxStep.j8 k y0 y1 y2 y3 y4 y5 y6 y7 y8 y9) (spec_TremauxStep.j8 (k + 1) y0 y1 y2 y3 y4 y5 y6 y7 y8 y9))
 | 0 => ⟨fun _ _ _ _ _ _ _ r h => by simp [spec_TremauxStep.j0] at h, fun _ _ _ _ _ _ _ _ _ _ _ r h => by simp [spec_TremauxStep.l0] at h, fun _ _ _ _ _ _ _ _ _ _ _ _ r h => by simp [spec_TremauxStep.j2] at h, fun _ _ _ _ _ _ _ _ _ r h => by simp [spec_TremauxStep.j3] at h, fun _ _ _ _ _ _ _ r h => by simp [spec_TremauxStep.j4] at h, fun _ _ _ _ _ _ _ _ _ r h => by simp [spec_TremauxStep.l1] at h, fun _ _ _ _ _ _ _ _ _ _ r h => by simp [spec_TremauxStep.j6] at h, fun _ _ _ _ _ _ _ _ _ r h => by simp [spec_TremauxStep.l2] at h, fun _ _ _ _ _ _ _ _ _ _ r h => by simp [spec_TremauxStep.j8] at h⟩
 | k + 1 => by
  obtain ⟨ih0, ih1, ih2, ih3, ih4, ih5, ih6, ih7, ih8⟩ := spec_TremauxStep.mono_l k
  refine ⟨?_, ?_, ?_, ?_, ?_, ?_, ?_, ?_, ?_⟩
  ·intro y0 y1 y2 y3 y4 y5 y6
   unfold spec_TremauxStep.j0
   repeat' first
   | (with_reducible exact ih0 _ _ _ _ _ _ _)
   | (with_reducible exact ih1 _ _ _ _ _ _ _ _ _ _ _)
   | (with_reducible exact ih2 _ _ _ _ _ _ _ _ _ _ _ _)
   | (with_reducible exact ih3 _ _ _ _ _ _ _ _ _)
   | (with_reducible exact ih4 _ _ _ _ _ _ _)
   | (with_reducible exact ih5 _ _ _ _ _ _ _ _ _)
   | (with_reducible exact ih6 _ _ _ _ _ _ _ _ _ _)
   | (with_reducible exact ih7 _ _ _ _ _ _ _ _ _)
   | (with_reducible exact ih8 _ _ _ _ _ _ _ _ _ _)
   | (with_reducible exact spec_GapAt.mono _ _ _ _ _)
   | (with_reducible exact spec_Step.mono _ _ _ _ _ _)
   | (with_reducible exact spec_l23Marks.mono _ _ _ _ _)
   | (with_reducible exact LeO.refl _)
   | (with_reducible exact LeO.none _)
   | (with_reducible refine LeO.ite ?_ ?_)
   | (with_reducible refine LeO.bind ?_ (fun _ => ?_))
   | exact ih0 _ _ _ _ _ _ _
   | exact ih1 _ _ _ _ _ _ _ _ _ _ _
   | exact ih2 _ _ _ _ _ _ _ _ _ _ _ _
   | exact ih3 _ _ _ _ _ _ _ _ _
   | exact ih4 _ _ _ _ _ _ _
   | exact ih5 _ _ _ _ _ _ _ _ _
   | exact ih6 _ _ _ _ _ _ _ _ _ _
   | exact ih7 _ _ _ _ _ _ _ _ _
   | exact ih8 _ _ _ _ _ _ _ _ _ _
   | exact spec_GapAt.mono _ _ _ _ _
   | exact spec_Step.mono _ _ _ _ _ _
   | exact spec_l23Marks.mono _ _ _ _ _
   | exact LeO.none _
   | refine LeO.ite ?_ ?_
   | refine LeO.bind ?_ (fun _ => ?_)
  ·intro y0 y1 y2 y3 y4 y5 y6 y7 y8 y9 y10
   unfold spec_TremauxStep.l0
   repeat' first
   | (with_reducible exact ih0 _ _ _ _ _ _ _)
   | (with_reducible exact ih1 _ _ _ _ _ _ _ _ _ _ _)
   | (with_reducible exact ih2 _ _ _ _ _ _ _ _ _ _ _ _)
   | (with_reducible exact ih3 _ _ _ _ _ _ _ _ _)
   | (with_reducible exact ih4 _ _ _ _ _ _ _)
   | (with_reducible exact ih5 _ _ _ _ _ _ _ _ _)
   | (with_reducible exact ih6 _ _ _ _ _ _ _ _ _ _)
   | (with_reducible exact ih7 _ _ _ _ _ _ _ _ _)
   | (with_reducible exact ih8 _ _ _ _ _ _ _ _ _ _)
   | (with_reducible exact spec_GapAt.mono _ _ _ _ _)
   | (with_reducible exact spec_Step.mono _ _ _ _ _ _)
   | (with_reducible exact spec_l23Marks.mono _ _ _ _ _)
   | (with_reducible exact LeO.refl _)
   | (with_reducible exact LeO.none _)
   | (with_reducible refine LeO.ite ?_ ?_)
   | (with_reducible refine LeO.bind ?_ (fun _ => ?_))
   | exact ih0 _ _ _ _ _ _ _
   | exact ih1 _ _ _ _ _ _ _ _ _ _ _
   | exact ih2 _ _ _ _ _ _ _ _ _ _ _ _
   | exact ih3 _ _ _ _ _ _ _ _ _
   | exact ih4 _ _ _ _ _ _ _
   | exact ih5 _ _ _ _ _ _ _ _ _
   | exact ih6 _ _ _ _ _ _ _ _ _ _
   | exact ih7 _ _ _ _ _ _ _ _ _
   | exact ih8 _ _ _ _ _ _ _ _ _ _
   | exact spec_GapAt.mono _ _ _ _ _
   | exact spec_Step.mono _ _ _ _ _ _
   | exact spec_l23Marks.mono _ _ _ _ _
   | exact LeO.none _
   | refine LeO.ite ?_ ?_
   | refine LeO.bind ?_ (fun _ => ?_)
  ·intro y0 y1 y2 y3 y4 y5 y6 y7 y8 y9 y10 y11
   unfold spec_TremauxStep.j2
   repeat' first
   | (with_reducible exact ih0 _ _ _ _ _ _ _)
   | (with_reducible exact ih1 _ _ _ _ _ _ _ _ _ _ _)
   | (with_reducible exact ih2 _ _ _ _ _ _ _ _ _ _ _ _)
   | (with_reducible exact ih3 _ _ _ _ _ _ _ _ _)
   | (with_reducible exact ih4 _ _ _ _ _ _ _)
   | (with_reducible exact ih5 _ _ _ _ _ _ _ _ _)
   | (with_reducible exact ih6 _ _ _ _ _ _ _ _ _ _)
   | (with_reducible exact ih7 _ _ _ _ _ _ _ _ _)
   | (with_reducible exact ih8 _ _ _ _ _ _ _ _ _ _)
   | (with_reducible exact spec_GapAt.mono _ _ _ _ _)
   | (with_reducible exact spec_Step.mono _ _ _ _ _ _)
   | (with_reducible exact spec_l23Marks.mono _ _ _ _ _)
   | (with_reducible exact LeO.refl _)
   | (with_reducible exact LeO.none _)
   | (with_reducible refine LeO.ite ?_ ?_)
   | (with_reducible refine LeO.bind ?_ (fun _ => ?_))
   | exact ih0 _ _ _ _ _ _ _
   | exact ih1 _ _ _ _ _ _ _ _ _ _ _
   | exact ih2 _ _ _ _ _ _ _ _ _ _ _ _
   | exact ih3 _ _ _ _ _ _ _ _ _
   | exact ih4 _ _ _ _ _ _ _
   | exact ih5 _ _ _ _ _ _ _ _ _
   | exact ih6 _ _ _ _ _ _ _ _ _ _
   | exact ih7 _ _ _ _ _ _ _ _ _
   | exact ih8 _ _ _ _ _ _ _ _ _ _
   | exact spec_GapAt.mono _ _ _ _ _
   | exact spec_Step.mono _ _ _ _ _ _
   | exact spec_l23Marks.mono _ _ _ _ _
   | exact LeO.none _
   | refine LeO.ite ?_ ?_
   | refine LeO.bind ?_ (fun _ => ?_)
  ·intro y0 y1 y2 y3 y4 y5 y6 y7 y8
   unfold spec_TremauxStep.j3
   repeat' first
   | (with_reducible exact ih0 _ _ _ _ _ _ _)
   | (with_reducible exact ih1 _ _ _ _ _ _ _ _ _ _ _)
   | (with_reducible exact ih2 _ _ _ _ _ _ _ _ _ _ _ _)
   | (with_reducible exact ih3 _ _ _ _ _ _ _ _ _)
   | (with_reducible exact ih4 _ _ _ _ _ _ _)
   | (with_reducible exact ih5 _ _ _ _ _ _ _ _ _)
   | (with_reducible exact ih6 _ _ _ _ _ _ _ _ _ _)
   | (with_reducible exact ih7 _ _ _ _ _ _ _ _ _)
   | (with_reducible exact ih8 _ _ _ _ _ _ _ _ _ _)
   | (with_reducible exact spec_GapAt.mono _ _ _ _ _)
   | (with_reducible exact spec_Step.mono _ _ _ _ _ _)
   | (with_reducible exact spec_l23Marks.mono _ _ _ _ _)
   | (with_reducible exact LeO.refl _)
   | (with_reducible exact LeO.none _)
   | (with_reducible refine LeO.ite ?_ ?_)
   | (with_reducible refine LeO.bind ?_ (fun _ => ?_))
   | exact ih0 _ _ _ _ _ _ _
   | exact ih1 _ _ _ _ _ _ _ _ _ _ _
   | exact ih2 _ _ _ _ _ _ _ _ _ _ _ _
   | exact ih3 _ _ _ _ _ _ _ _ _
   | exact ih4 _ _ _ _ _ _ _
   | exact ih5 _ _ _ _ _ _ _ _ _
   | exact ih6 _ _ _ _ _ _ _ _ _ _
   | exact ih7 _ _ _ _ _ _ _ _ _
   | exact ih8 _ _ _ _ _ _ _ _ _ _
   | exact spec_GapAt.mono _ _ _ _ _
   | exact spec_Step.mono _ _ _ _ _ _
   | exact spec_l23Marks.mono _ _ _ _ _
   | exact LeO.none _
   | refine LeO.ite ?_ ?_
   | refine LeO.bind ?_ (fun _ => ?_)
  ·intro y0 y1 y2 y3 y4 y5 y6
   unfold spec_TremauxStep.j4
   repeat' first
   | (with_reducible exact ih0 _ _ _ _ _ _ _)
   | (with_reducible exact ih1 _ _ _ _ _ _ _ _ _ _ _)
   | (with_reducible exact ih2 _ _ _ _ _ _ _ _ _ _ _ _)
   | (with_reducible exact ih3 _ _ _ _ _ _ _ _ _)
   | (with_reducible exact ih4 _ _ _ _ _ _ _)
   | (with_reducible exact ih5 _ _ _ _ _ _ _ _ _)
   | (with_reducible exact ih6 _ _ _ _ _ _ _ _ _ _)
   | (with_reducible exact ih7 _ _ _ _ _ _ _ _ _)
   | (with_reducible exact ih8 _ _ _ _ _ _ _ _ _ _)
   | (with_reducible exact spec_GapAt.mono _ _ _ _ _)
   | (with_reducible exact spec_Step.mono _ _ _ _ _ _)
   | (with_reducible exact spec_l23Marks.mono _ _ _ _ _)
   | (with_reducible exact LeO.refl _)
   | (with_reducible exact LeO.none _)
   | (with_reducible refine LeO.ite ?_ ?_)
   | (with_reducible refine LeO.bind ?_ (fun _ => ?_))
   | exact ih0 _ _ _ _ _ _ _
   | exact ih1 _ _ _ _ _ _ _ _ _ _ _
   | exact ih2 _ _ _ _ _ _ _ _ _ _ _ _
   | exact ih3 _ _ _ _ _ _ _ _ _
   | exact ih4 _ _ _ _ _ _ _
   | exact ih5 _ _ _ _ _ _ _ _ _
   | exact ih6 _ _ _ _ _ _ _ _ _ _
   | exact ih7 _ _ _ _ _ _ _ _ _
   | exact ih8 _ _ _ _ _ _ _ _ _ _
   | exact spec_GapAt.mono _ _ _ _ _
   | exact spec_Step.mono _ _ _ _ _ _
   | exact spec_l23Marks.mono _ _ _ _ _
   | exact LeO.none _
   | refine LeO.ite ?_ ?_
   | refine LeO.bind ?_ (fun _ => ?_)
  ·intro y0 y1 y2 y3 y4 y5 y6 y7 y8
   unfold spec_TremauxStep.l1
   repeat' first
   | (with_reducible exact ih0 _ _ _ _ _ _ _)
   | (with_reducible exact ih1 _ _ _ _ _ _ _ _ _ _ _)
   | (with_reducible exact ih2 _ _ _ _ _ _ _ _ _ _ _ _)
   | (with_reducible exact ih3 _ _ _ _ _ _ _ _ _)
   | (with_reducible exact ih4 _ _ _ _ _ _ _)
   | (with_reducible exact ih5 _ _ _ _ _ _ _ _ _)
   | (with_reducible exact ih6 _ _ _ _ _ _ _ _ _ _)
   | (with_reducible exact ih7 _ _ _ _ _ _ _ _ _)
   | (with_reducible exact ih8 _ _ _ _ _ _ _ _ _ _)
   | (with_reducible exact spec_GapAt.mono _ _ _ _ _)
   | (with_reducible exact spec_Step.mono _ _ _ _ _ _)
   | (with_reducible exact spec_l23Marks.mono _ _ _ _ _)
   | (with_reducible exact LeO.refl _)
   | (with_reducible exact LeO.none _)
   | (with_reducible refine LeO.ite ?_ ?_)
   | (with_reducible refine LeO.bind ?_ (fun _ => ?_))
   | exact ih0 _ _ _ _ _ _ _
   | exact ih1 _ _ _ _ _ _ _ _ _ _ _
   | exact ih2 _ _ _ _ _ _ _ _ _ _ _ _
   | exact ih3 _ _ _ _ _ _ _ _ _
   | exact ih4 _ _ _ _ _ _ _
   | exact ih5 _ _ _ _ _ _ _ _ _
   | exact ih6 _ _ _ _ _ _ _ _ _ _
   | exact ih7 _ _ _ _ _ _ _ _ _
   | exact ih8 _ _ _ _ _ _ _ _ _ _
   | exact spec_GapAt.mono _ _ _ _ _
   | exact spec_Step.mono _ _ _ _ _ _
   | exact spec_l23Marks.mono _ _ _ _ _
   | exact LeO.none _
   | refine LeO.ite ?_ ?_
   | refine LeO.bind ?_ (fun _ => ?_)
  ·intro y0 y1 y2 y3 y4 y5 y6 y7 y8 y9
   unfold spec_TremauxStep.j6
   repeat' first
   | (with_reducible exact ih0 _ _ _ _ _ _ _)
   | (with_reducible exact ih1 _ _ _ _ _ _ _ _ _ _ _)
   | (with_reducible exact ih2 _ _ _ _ _ _ _ _ _ _ _ _)
   | (with_reducible exact ih3 _ _ _ _ _ _ _ _ _)
   | (with_reducible exact ih4 _ _ _ _ _ _ _)
   | (with_reducible exact ih5 _ _ _ _ _ _ _ _ _)
   | (with_reducible exact ih6 _ _ _ _ _ _ _ _ _ _)
   | (with_reducible exact ih7 _ _ _ _ _ _ _ _ _)
   | (with_reducible exact ih8 _ _ _ _ _ _ _ _ _ _)
   | (with_reducible exact spec_GapAt.mono _ _ _ _ _)
   | (with_reducible exact spec_Step.mono _ _ _ _ _ _)
   | (with_reducible exact spec_l23Marks.mono _ _ _ _ _)
   | (with_reducible exact LeO.refl _)
   | (with_reducible exact LeO.none _)
   | (with_reducible refine LeO.ite ?_ ?_)
   | (with_reducible refine LeO.bind ?_ (fun _ => ?_))
   | exact ih0 _ _ _ _ _ _ _
   | exact ih1 _ _ _ _ _ _ _ _ _ _ _
   | exact ih2 _ _ _ _ _ _ _ _ _ _ _ _
   | exact ih3 _ _ _ _ _ _ _ _ _
   | exact ih4 _ _ _ _ _ _ _
   | exact ih5 _ _ _ _ _ _ _ _ _
   | exact ih6 _ _ _ _ _ _ _ _ _ _
   | exact ih7 _ _ _ _ _ _ _ _ _
   | exact ih8 _ _ _ _ _ _ _ _ _ _
   | exact spec_GapAt.mono _ _ _ _ _
   | exact spec_Step.mono _ _ _ _ _ _
   | exact spec_l23Marks.mono _ _ _ _ _
   | exact LeO.none _
   | refine LeO.ite ?_ ?_
   | refine LeO.bind ?_ (fun _ => ?_)
  ·intro y0 y1 y2 y3 y4 y5 y6 y7 y8
   unfold spec_TremauxStep.l2
   repeat' first
   | (with_reducible exact ih0 _ _ _ _ _ _ _)
   | (with_reducible exact ih1 _ _ _ _ _ _ _ _ _ _ _)
   | (with_reducible exact ih2 _ _ _ _ _ _ _ _ _ _ _ _)
   | (with_reducible exact ih3 _ _ _ _ _ _ _ _ _)
   | (with_reducible exact ih4 _ _ _ _ _ _ _)
   | (with_reducible exact ih5 _ _ _ _ _ _ _ _ _)
   | (with_reducible exact ih6 _ _ _ _ _ _ _ _ _ _)
   | (with_reducible exact ih7 _ _ _ _ _ _ _ _ _)
   | (with_reducible exact ih8 _ _ _ _ _ _ _ _ _ _)
   | (with_reducible exact spec_GapAt.mono _ _ _ _ _)
   | (with_reducible exact spec_Step.mono _ _ _ _ _ _)
   | (with_reducible exact spec_l23Marks.mono _ _ _ _ _)
   | (with_reducible exact LeO.refl _)
   | (with_reducible exact LeO.none _)
   | (with_reducible refine LeO.ite ?_ ?_)
   | (with_reducible refine LeO.bind ?_ (fun _ => ?_))
   | exact ih0 _ _ _ _ _ _ _
   | exact ih1 _ _ _ _ _ _ _ _ _ _ _
   | exact ih2 _ _ _ _ _ _ _ _ _ _ _ _
   | exact ih3 _ _ _ _ _ _ _ _ _
   | exact ih4 _ _ _ _ _ _ _
   | exact ih5 _ _ _ _ _ _ _ _ _
   | exact ih6 _ _ _ _ _ _ _ _ _ _
   | exact ih7 _ _ _ _ _ _ _ _ _
   | exact ih8 _ _ _ _ _ _ _ _ _ _
   | exact spec_GapAt.mono _ _ _ _ _
   | exact spec_Step.mono _ _ _ _ _ _
   | exact spec_l23Marks.mono _ _ _ _ _
   | exact LeO.none _
   | refine LeO.ite ?_ ?_
   | refine LeO.bind ?_ (fun _ => ?_)
  ·intro y0 y1 y2 y3 y4 y5 y6 y7 y8 y9
   unfold spec_TremauxStep.j8
   repeat' first
   | (with_reducible exact ih0 _ _ _ _ _ _ _)
   | (with_reducible exact ih1 _ _ _ _ _ _ _ _ _ _ _)
   | (with_reducible exact ih2 _ _ _ _ _ _ _ _ _ _ _ _)
   | (with_reducible exact ih3 _ _ _ _ _ _ _ _ _)
   | (with_reducible exact ih4 _ _ _ _ _ _ _)
   | (with_reducible exact ih5 _ _ _ _ _ _ _ _ _)
   | (with_reducible exact ih6 _ _ _ _ _ _ _ _ _ _)
   | (with_reducible exact ih7 _ _ _ _ _ _ _ _ _)
   | (with_reducible exact ih8 _ _ _ _ _ _ _ _ _ _)
   | (with_reducible exact spec_GapAt.mono _ _ _ _ _)
   | (with_reducible exact spec_Step.mono _ _ _ _ _ _)
   | (with_reducible exact spec_l23Marks.mono _ _ _ _ _)
   | (with_reducible exact LeO.refl _)
   | (with_reducible exact LeO.none _)
   | (with_reducible refine LeO.ite ?_ ?_)
   | (with_reducible refine LeO.bind ?_ (fun _ => ?_))
   | exact ih0 _ _ _ _ _ _ _
   | exact ih1 _ _ _ _ _ _ _ _ _ _ _
   | exact ih2 _ _ _ _ _ _ _ _ _ _ _ _
   | exact ih3 _ _ _ _ _ _ _ _ _
   | exact ih4 _ _ _ _ _ _ _
   | exact ih5 _ _ _ _ _ _ _ _ _
   | exact ih6 _ _ _ _ _ _ _ _ _ _
   | exact ih7 _ _ _ _ _ _ _ _ _
   | exact ih8 _ _ _ _ _ _ _ _ _ _
   | exact spec_GapAt.mono _ _ _ _ _
   | exact spec_Step.mono _ _ _ _ _ _
   | exact spec_l23Marks.mono _ _ _ _ _
   | exact LeO.none _
   | refine LeO.ite ?_ ?_
   | refine LeO.bind ?_ (fun _ => ?_)
theorem spec_TremauxStep.mono : ∀ a0 a1 a2 a3 a4 a5 k, LeO (spec_TremauxStep.f k a0 a1 a2 a3 a4 a5) (spec_TremauxStep.f (k + 1) a0 a1 a2 a3 a4 a5) := by
 intro a0 a1 a2 a3 a4 a5 k
 obtain ⟨ih0, ih1, ih2, ih3, ih4, ih5, ih6, ih7, ih8⟩ := spec_TremauxStep.mono_l k
 unfold spec_TremauxStep.f
 repeat' first
   | (with_reducible exact ih0 _ _ _ _ _ _ _)
   | (with_reducible exact ih1 _ _ _ _ _ _ _ _ _ _ _)
   | (with_reducible exact ih2 _ _ _ _ _ _ _ _ _ _ _ _)
   | (with_reducible exact ih3 _ _ _ _ _ _ _ _ _)
   | (with_reducible exact ih4 _ _ _ _ _ _ _)
   | (with_reducible exact ih5 _ _ _ _ _ _ _ _ _)
   | (with_reducible exact ih6 _ _ _ _ _ _ _ _ _ _)
   | (with_reducible exact ih7 _ _ _ _ _ _ _ _ _)
   | (with_reducible exact ih8 _ _ _ _ _ _ _ _ _ _)
   | (with_reducible exact spec_GapAt.mono _ _ _ _ _)
   | (with_reducible exact spec_Step.mono _ _ _ _ _ _)
   | (with_reducible exact spec_l23Marks.mono _ _ _ _ _)
   | (with_reducible exact LeO.refl _)
   | (with_reducible exact LeO.none _)
   | (with_reducible refine LeO.ite ?_ ?_)
   | (with_reducible refine LeO.bind ?_ (fun _ => ?_))
   | exact ih0 _ _ _ _ _ _ _
   | exact ih1 _ _ _ _ _ _ _ _ _ _ _
   | exact ih2 _ _ _ _ _ _ _ _ _ _ _ _
   | exact ih3 _ _ _ _ _ _ _ _ _
   | exact ih4 _ _ _ _ _ _ _
   | exact ih5 _ _ _ _ _ _ _ _ _
   | exact ih6 _ _ _ _ _ _ _ _ _ _
   | exact ih7 _ _ _ _ _ _ _ _ _
   | exact ih8 _ _ _ _ _ _ _ _ _ _
   | exact spec_GapAt.mono _ _ _ _ _
   | exact spec_Step.mono _ _ _ _ _ _
   | exact spec_l23Marks.mono _ _ _ _ _
   | exact LeO.none _
   | refine LeO.ite ?_ ?_
   | refine LeO.bind ?_ (fun _ => ?_)
set_option maxHeartbeats 8000000 in
set_option maxRecDepth 100000 in
theorem spec_TremauxStep.calls (k : Nat) (a0_0 : Int) (a0_1 : Int) (a0_2 : Int) (A1 : Option Addr) (c1 : Nat) (l1 : List Int) (a2_0 : Int) (a2_1 : Int) (r1 : Int) (r2 : Int) (r3 : Bool) (w : World) (hr1 : Kd.C (Kd.int .i64) w A1 l1.length l1) (hc1 : l1.length ≤ c1) (h : spec_TremauxStep.f k a0_0 a0_1 a0_2 l1 a2_0 a2_1 = some (r1, r2, r3)) :
  Calls Try.prog 44 #[.agg #[.int .i64 a0_0, .int .i64 a0_1, .int .i64 a0_2], .slice A1 l1.length c1, .agg #[.int .i64 a2_0, .int .i64 a2_1]] w fun e w' => e = .returned (.tuple #[.agg #[.int .i64 r1, .int .i64 r2], .bool r3]) ∧ Below w.heap.size w w' := by
 have hu33 := Try.underlying33
 have hu65 := Try.underlying65
 have hu31 := Try.underlying31
 have HR1 := Aside0.mk hr1
 have HC1 := Aside0.mk hc1
 clear hr1 hc1
 have HB := Aside0.mk (Below.refl w.heap.size w)
 have H : ((spec_WalkerOk.f a0_0 a0_1 a0_2 a2_0 a2_1).bind fun t504 => (if t504 = true then ((spec_l23Marks.f k a0_0 a0_1 a0_2 l1).bind fun t505 => (spec_TremauxStep.j0 k l1 (!t505) a0_0 a0_1 a0_2 a2_0 a2_1)) else (spec_TremauxStep.j0 k l1 true a0_0 a0_1 a0_2 a2_0 a2_1))) = some (r1, r2, r3) := h
 clear h
 have HC4 := Aside0.mk H
 clear H
 go_enter Try.func44, Try.ntmps44
 go_upto_region 1 with (first | ((with_reducible refine gate_dst (N := 3) rfl ?_); refine box_event ?hg (N := 3) ?hd (cs := #[.int .i64 a0_0, .int .i64 a0_1, .int .i64 a0_2]) (t := 33) ?hr ?_; (case hd => rfl); (case hg => rfl); (case hr => first | (go_simp; done) | (go_simp; rfl)); intro gb501 hg w5 hbox hb; have n0_ := Aside0.mk (below_step (hb0_ HB.out) hb); have n1_ := Aside0.mk (hbox); have n2_ := Aside0.mk ((gs_ hg (hb0_ HB.out))); have n3_ := Aside0.mk ((gs_ hg (hb0_ HB.out))); clear HB; have HB := n0_; have BK501 := n1_; have GW501 := n2_; have GE501 := n3_; clear n0_ n1_ n2_ n3_; clear hb hbox hg) | ((with_reducible refine gate_dst (N := 5) rfl ?_); refine box_event ?hg (N := 5) ?hd (cs := #[.int .i64 a2_0, .int .i64 a2_1]) (t := 65) ?hr ?_; (case hd => rfl); (case hg => rfl); (case hr => first | (go_simp; done) | (go_simp; rfl)); intro gb502 hg w6 hbox hb; have n0_ := Aside0.mk (bb_ BK501.out hb); have n1_ := Aside0.mk (below_step (hb1_ HB.out GE501.out) hb); have n2_ := Aside0.mk (hbox); have n3_ := Aside0.mk ((gs_ hg (hb1_ HB.out GE501.out))); have n4_ := Aside0.mk ((gs_ hg (hb1_ HB.out GE501.out))); have n5_ := Aside0.mk (nl_ hg BK501.out); have n6_ := Aside0.mk (nr_ hg BK501.out); clear BK501; clear HB; have BK501 := n0_; have HB := n1_; have BK502 := n2_; have GW502 := n3_; have GE502 := n4_; have NB501_502 := n5_; have NB502_501 := n6_; clear n0_ n1_ n2_ n3_ n4_ n5_ n6_; clear hb hbox hg) | ((with_reducible refine gate_dst (N := 6) rfl ?_); refine box_event ?hg (N := 6) ?hd (cs := #[.int .i64 0, .int .i64 0]) (t := 65) ?hr ?_; (case hd => rfl); (case hg => rfl); (case hr => first | (go_simp; done) | (go_simp; rfl)); intro gb503 hg w7 hbox hb; have n0_ := Aside0.mk (bb_ BK501.out hb); have n1_ := Aside0.mk (bb_ BK502.out hb); have n2_ := Aside0.mk (below_step (hb2_ HB.out GE501.out GE502.out) hb); have n3_ := Aside0.mk (hbox); have n4_ := Aside0.mk ((gs_ hg (hb2_ HB.out GE501.out GE502.out))); have n5_ := Aside0.mk ((gs_ hg (hb2_ HB.out GE501.out GE502.out))); have n6_ := Aside0.mk (nl_ hg BK501.out); have n7_ := Aside0.mk (nr_ hg BK501.out); have n8_ := Aside0.mk (nl_ hg BK502.out); have n9_ := Aside0.mk (nr_ hg BK502.out); clear BK501; clear BK502; clear HB; have BK501 := n0_; have BK502 := n1_; have HB := n2_; have BK503 := n3_; have GW503 := n4_; have GE503 := n5_; have NB501_503 := n6_; have NB503_501 := n7_; have NB502_503 := n8_; have NB503_502 := n9_; clear n0_ n1_ n2_ n3_ n4_ n5_ n6_ n7_ n8_ n9_; clear hb hbox hg))
 repeat (go_quiet (first | ((with_reducible refine gate_dst (N := 3) rfl ?_); refine box_event ?hg (N := 3) ?hd (cs := #[.int .i64 a0_0, .int .i64 a0_1, .int .i64 a0_2]) (t := 33) ?hr ?_; (case hd => rfl); (case hg => rfl); (case hr => first | (go_simp; done) | (go_simp; rfl)); intro gb501 hg w5 hbox hb; have n0_ := Aside0.mk (below_step (hb0_ HB.out) hb); have n1_ := Aside0.mk (hbox); have n2_ := Aside0.mk ((gs_ hg (hb0_ HB.out))); have n3_ := Aside0.mk ((gs_ hg (hb0_ HB.out))); clear HB; have HB := n0_; have BK501 := n1_; have GW501 := n2_; have GE501 := n3_; clear n0_ n1_ n2_ n3_; clear hb hbox hg) | ((with_reducible refine gate_dst (N := 5) rfl ?_); refine box_event ?hg (N := 5) ?hd (cs := #[.int .i64 a2_0, .int .i64 a2_1]) (t := 65) ?hr ?_; (case hd => rfl); (case hg => rfl); (case hr => first | (go_simp; done) | (go_simp; rfl)); intro gb502 hg w6 hbox hb; have n0_ := Aside0.mk (bb_ BK501.out hb); have n1_ := Aside0.mk (below_step (hb1_ HB.out GE501.out) hb); have n2_ := Aside0.mk (hbox); have n3_ := Aside0.mk ((gs_ hg (hb1_ HB.out GE501.out))); have n4_ := Aside0.mk ((gs_ hg (hb1_ HB.out GE501.out))); have n5_ := Aside0.mk (nl_ hg BK501.out); have n6_ := Aside0.mk (nr_ hg BK501.out); clear BK501; clear HB; have BK501 := n0_; have HB := n1_; have BK502 := n2_; have GW502 := n3_; have GE502 := n4_; have NB501_502 := n5_; have NB502_501 := n6_; clear n0_ n1_ n2_ n3_ n4_ n5_ n6_; clear hb hbox hg) | ((with_reducible refine gate_dst (N := 6) rfl ?_); refine box_event ?hg (N := 6) ?hd (cs := #[.int .i64 0, .int .i64 0]) (t := 65) ?hr ?_; (case hd => rfl); (case hg => rfl); (case hr => first | (go_simp; done) | (go_simp; rfl)); intro gb503 hg w7 hbox hb; have n0_ := Aside0.mk (bb_ BK501.out hb); have n1_ := Aside0.mk (bb_ BK502.out hb); have n2_ := Aside0.mk (below_step (hb2_ HB.out GE501.out GE502.out) hb); have n3_ := Aside0.mk (hbox); have n4_ := Aside0.mk ((gs_ hg (hb2_ HB.out GE501.out GE502.out))); have n5_ := Aside0.mk ((gs_ hg (hb2_ HB.out GE501.out GE502.out))); have n6_ := Aside0.mk (nl_ hg BK501.out); have n7_ := Aside0.mk (nr_ hg BK501.out); have n8_ := Aside0.mk (nl_ hg BK502.out); have n9_ := Aside0.mk (nr_ hg BK502.out); clear BK501; clear BK502; clear HB; have BK501 := n0_; have BK502 := n1_; have HB := n2_; have BK503 := n3_; have GW503 := n4_; have GE503 := n5_; have NB501_503 := n6_; have NB503_501 := n7_; have NB502_503 := n8_; have NB503_502 := n9_; clear n0_ n1_ n2_ n3_ n4_ n5_ n6_ n7_ n8_ n9_; clear hb hbox hg)); go_upto_region 1 with (first | ((with_reducible refine gate_dst (N := 3) rfl ?_); refine box_event ?hg (N := 3) ?hd (cs := #[.int .i64 a0_0, .int .i64 a0_1, .int .i64 a0_2]) (t := 33) ?hr ?_; (case hd => rfl); (case hg => rfl); (case hr => first | (go_simp; done) | (go_simp; rfl)); intro gb501 hg w5 hbox hb; have n0_ := Aside0.mk (below_step (hb0_ HB.out) hb); have n1_ := Aside0.mk (hbox); have n2_ := Aside0.mk ((gs_ hg (hb0_ HB.out))); have n3_ := Aside0.mk ((gs_ hg (hb0_ HB.out))); clear HB; have HB := n0_; have BK501 := n1_; have GW501 := n2_; have GE501 := n3_; clear n0_ n1_ n2_ n3_; clear hb hbox hg) | ((with_reducible refine gate_dst (N := 5) rfl ?_); refine box_event ?hg (N := 5) ?hd (cs := #[.int .i64 a2_0, .int .i64 a2_1]) (t := 65) ?hr ?_; (case hd => rfl); (case hg => rfl); (case hr => first | (go_simp; done) | (go_simp; rfl)); intro gb502 hg w6 hbox hb; have n0_ := Aside0.mk (bb_ BK501.out hb); have n1_ := Aside0.mk (below_step (hb1_ HB.out GE501.out) hb); have n2_ := Aside0.mk (hbox); have n3_ := Aside0.mk ((gs_ hg (hb1_ HB.out GE501.out))); have n4_ := Aside0.mk ((gs_ hg (hb1_ HB.out GE501.out))); have n5_ := Aside0.mk (nl_ hg BK501.out); have n6_ := Aside0.mk (nr_ hg BK501.out); clear BK501; clear HB; have BK501 := n0_; have HB := n1_; have BK502 := n2_; have GW502 := n3_; have GE502 := n4_; have NB501_502 := n5_; have NB502_501 := n6_; clear n0_ n1_ n2_ n3_ n4_ n5_ n6_; clear hb hbox hg) | ((with_reducible refine gate_dst (N := 6) rfl ?_); refine box_event ?hg (N := 6) ?hd (cs := #[.int .i64 0, .int .i64 0]) (t := 65) ?hr ?_; (case hd => rfl); (case hg => rfl); (case hr => first | (go_simp; done) | (go_simp; rfl)); intro gb503 hg w7 hbox hb; have n0_ := Aside0.mk (bb_ BK501.out hb); have n1_ := Aside0.mk (bb_ BK502.out hb); have n2_ := Aside0.mk (below_step (hb2_ HB.out GE501.out GE502.out) hb); have n3_ := Aside0.mk (hbox); have n4_ := Aside0.mk ((gs_ hg (hb2_ HB.out GE501.out GE502.out))); have n5_ := Aside0.mk ((gs_ hg (hb2_ HB.out GE501.out GE502.out))); have n6_ := Aside0.mk (nl_ hg BK501.out); have n7_ := Aside0.mk (nr_ hg BK501.out); have n8_ := Aside0.mk (nl_ hg BK502.out); have n9_ := Aside0.mk (nr_ hg BK502.out); clear BK501; clear BK502; clear HB; have BK501 := n0_; have BK502 := n1_; have HB := n2_; have BK503 := n3_; have GW503 := n4_; have GE503 := n5_; have NB501_503 := n6_; have NB503_501 := n7_; have NB502_503 := n8_; have NB503_502 := n9_; clear n0_ n1_ n2_ n3_ n4_ n5_ n6_ n7_ n8_ n9_; clear hb hbox hg)))
 (try simp only [Act.put, List.setIfInBounds_toArray, List.set_cons_zero, List.set_cons_succ])
 go_cut [31] (fun v31 wc => ∃ (kq : Nat) (x31_3 : Bool), v31 = .bool x31_3 ∧ Aside0 (spec_TremauxStep.j0 kq l1 x31_3 a0_0 a0_1 a0_2 a2_0 a2_1 = some (r1, r2, r3)) ∧ Aside0 (kq ≤ k) ∧ Aside0 (wc.heap[gb501]? = some (.cells #[.int .i64 a0_0, .int .i64 a0_1, .int .i64 a0_2] 33 (0, 0))) ∧ Aside0 (wc.heap[gb502]? = some (.cells #[.int .i64 a2_0, .int .i64 a2_1] 65 (0, 0))) ∧ Aside0 (wc.heap[gb503]? = some (.cells #[.int .i64 0, .int .i64 0] 65 (0, 0))) ∧ Aside0 (Below w.heap.size w wc))
 case first =>
  have H := HC4.out
  clear HC4
  replace H := Option.bind_eq_some_iff.mp H
  obtain ⟨t504, A80, H⟩ := H
  replace H : (if t504 = true then ((spec_l23Marks.f k a0_0 a0_1 a0_2 l1).bind fun t505 => (spec_TremauxStep.j0 k l1 (!t505) a0_0 a0_1 a0_2 a2_0 a2_1)) else (spec_TremauxStep.j0 k l1 true a0_0 a0_1 a0_2 a2_0 a2_1)) = some (r1, r2, r3) := H
  have A8 := Aside0.mk A80
  clear A80
  by_cases c9 : t504 = true
  ·subst c9
   have H1 : ((spec_l23Marks.f k a0_0 a0_1 a0_2 l1).bind fun t505 => (spec_TremauxStep.j0 k l1 (!t505) a0_0 a0_1 a0_2 a2_0 a2_1)) = some (r1, r2, r3) := by rw [if_pos rfl] at H; exact H
   clear H
   have H := H1
   clear H1
   replace H := Option.bind_eq_some_iff.mp H
   obtain ⟨t505, A100, H⟩ := H
   replace H : (spec_TremauxStep.j0 k l1 (!t505) a0_0 a0_1 a0_2 a2_0 a2_1) = some (r1, r2, r3) := H
   have A10 := Aside0.mk A100
   clear A100
   have H' := Aside0.mk H
   clear H
   have hnb11 := NB501_502.out
   have hnc11 := NB502_501.out
   have hnb12 := NB501_503.out
   have hnc12 := NB503_501.out
   obtain ⟨hcz13_0, hcz13_1, hcz13_2⟩ := cz3_ BK501.out
   obtain ⟨hfz13_0, hfz13_1, hfz13_2⟩ := fz3_ BK501.out
   have hnb14 := NB502_503.out
   have hnc14 := NB503_502.out
   obtain ⟨hcz15_0, hcz15_1⟩ := cz2_ BK502.out
   obtain ⟨hfz15_0, hfz15_1⟩ := fz2_ BK502.out
   go_wp2_with (first | (go_at_call 83; (with_reducible refine (spec_WalkerOk.calls a0_0 a0_1 a0_2 a2_0 a2_1 true _ A8.out).mono ?_); rintro e w16 ⟨rfl, hb⟩; replace BK501 := Aside0.mk (bb_ BK501.out hb); replace BK502 := Aside0.mk (bb_ BK502.out hb); replace BK503 := Aside0.mk (bb_ BK503.out hb); replace HB := Aside0.mk (below_step (hb3_ HB.out GE501.out GE502.out GE503.out) hb); (try clear hb); (try clear hb2); (try clear hk); (try clear hi); obtain ⟨hcz17_0, hcz17_1, hcz17_2⟩ := cz3_ BK501.out; obtain ⟨hfz17_0, hfz17_1, hfz17_2⟩ := fz3_ BK501.out) | (go_at_call 87; (with_reducible refine (spec_l23Marks.calls k a0_0 a0_1 a0_2 _ _ l1 t505 _ ?side1 ?side2 A10.out).mono ?_); (case side1 => repeat (first | exact (Kd.C_below HR1.out HB.out) | (with_reducible refine Kd.C_alloc ?_ _) | (with_reducible refine Kd.C_drewN ?_ _) | (with_reducible refine Kd.C_drew ?_))); (case side2 => exact HC1.out); rintro e w18 ⟨rfl, hb⟩; replace BK501 := Aside0.mk (bb_ BK501.out hb); replace BK502 := Aside0.mk (bb_ BK502.out hb); replace BK503 := Aside0.mk (bb_ BK503.out hb); replace HB := Aside0.mk (below_step (hb3_ HB.out GE501.out GE502.out GE503.out) hb); (try clear hb); (try clear hb2); (try clear hk); (try clear hi)))
   repeat (go_quiet (first | (go_at_call 83; (with_reducible refine (spec_WalkerOk.calls a0_0 a0_1 a0_2 a2_0 a2_1 true _ A8.out).mono ?_); rintro e w16 ⟨rfl, hb⟩; replace BK501 := Aside0.mk (bb_ BK501.out hb); replace BK502 := Aside0.mk (bb_ BK502.out hb); replace BK503 := Aside0.mk (bb_ BK503.out hb); replace HB := Aside0.mk (below_step (hb3_ HB.out GE501.out GE502.out GE503.out) hb); (try clear hb); (try clear hb2); (try clear hk); (try clear hi); obtain ⟨hcz17_0, hcz17_1, hcz17_2⟩ := cz3_ BK501.out; obtain ⟨hfz17_0, hfz17_1, hfz17_2⟩ := fz3_ BK501.out) | (go_at_call 87; (with_reducible refine (spec_l23Marks.calls k a0_0 a0_1 a0_2 _ _ l1 t505 _ ?side1 ?side2 A10.out).mono ?_); (case side1 => repeat (first | exact (Kd.C_below HR1.out HB.out) | (with_reducible refine Kd.C_alloc ?_ _) | (with_reducible refine Kd.C_drewN ?_ _) | (with_reducible refine Kd.C_drew ?_))); (case side2 => exact HC1.out); rintro e w18 ⟨rfl, hb⟩; replace BK501 := Aside0.mk (bb_ BK501.out hb); replace BK502 := Aside0.mk (bb_ BK502.out hb); replace BK503 := Aside0.mk (bb_ BK503.out hb); replace HB := Aside0.mk (below_step (hb3_ HB.out GE501.out GE502.out GE503.out) hb); (try clear hb); (try clear hb2); (try clear hk); (try clear hi))); try go_wp2_with (first | (go_at_call 83; (with_reducible refine (spec_WalkerOk.calls a0_0 a0_1 a0_2 a2_0 a2_1 true _ A8.out).mono ?_); rintro e w16 ⟨rfl, hb⟩; replace BK501 := Aside0.mk (bb_ BK501.out hb); replace BK502 := Aside0.mk (bb_ BK502.out hb); replace BK503 := Aside0.mk (bb_ BK503.out hb); replace HB := Aside0.mk (below_step (hb3_ HB.out GE501.out GE502.out GE503.out) hb); (try clear hb); (try clear hb2); (try clear hk); (try clear hi); obtain ⟨hcz17_0, hcz17_1, hcz17_2⟩ := cz3_ BK501.out; obtain ⟨hfz17_0, hfz17_1, hfz17_2⟩ := fz3_ BK501.out) | (go_at_call 87; (with_reducible refine (spec_l23Marks.calls k a0_0 a0_1 a0_2 _ _ l1 t505 _ ?side1 ?side2 A10.out).mono ?_); (case side1 => repeat (first | exact (Kd.C_below HR1.out HB.out) | (with_reducible refine Kd.C_alloc ?_ _) | (with_reducible refine Kd.C_drewN ?_ _) | (with_reducible refine Kd.C_drew ?_))); (case side2 => exact HC1.out); rintro e w18 ⟨rfl, hb⟩; replace BK501 := Aside0.mk (bb_ BK501.out hb); replace BK502 := Aside0.mk (bb_ BK502.out hb); replace BK503 := Aside0.mk (bb_ BK503.out hb); replace HB := Aside0.mk (below_step (hb3_ HB.out GE501.out GE502.out GE503.out) hb); (try clear hb); (try clear hb2); (try clear hk); (try clear hi))))
   go_meet
   case rel => exact ⟨_, (!t505), (by first | rfl | (simp; done) | (simp [*]; done)), H', ⟨by first | omega | exact Nat.le_refl _⟩, ⟨bk_ BK501.out⟩, ⟨bk_ BK502.out⟩, ⟨bk_ BK503.out⟩, ⟨hb3_ HB.out GE501.out GE502.out GE503.out⟩⟩
  ·replace c9 := Bool.eq_false_iff.mpr c9
   subst c9
   have H1 : (spec_TremauxStep.j0 k l1 true a0_0 a0_1 a0_2 a2_0 a2_1) = some (r1, r2, r3) := by rw [if_neg (show ¬ (false = true) by decide)] at H; exact H
   clear H
   have H := H1
   clear H1
   have H' := Aside0.mk H
   clear H
   have hnb19 := NB501_502.out
   have hnc19 := NB502_501.out
   have hnb20 := NB501_503.out
   have hnc20 := NB503_501.out
   obtain ⟨hcz21_0, hcz21_1, hcz21_2⟩ := cz3_ BK501.out
   obtain ⟨hfz21_0, hfz21_1, hfz21_2⟩ := fz3_ BK501.out
   have hnb22 := NB502_503.out
   have hnc22 := NB503_502.out
   obtain ⟨hcz23_0, hcz23_1⟩ := cz2_ BK502.out
   obtain ⟨hfz23_0, hfz23_1⟩ := fz2_ BK502.out
   go_wp2_with (first | (go_at_call 83; (with_reducible refine (spec_WalkerOk.calls a0_0 a0_1 a0_2 a2_0 a2_1 false _ A8.out).mono ?_); rintro e w24 ⟨rfl, hb⟩; replace BK501 := Aside0.mk (bb_ BK501.out hb); replace BK502 := Aside0.mk (bb_ BK502.out hb); replace BK503 := Aside0.mk (bb_ BK503.out hb); replace HB := Aside0.mk (below_step (hb3_ HB.out GE501.out GE502.out GE503.out) hb); (try clear hb); (try clear hb2); (try clear hk); (try clear hi)))
   repeat (go_quiet (first | (go_at_call 83; (with_reducible refine (spec_WalkerOk.calls a0_0 a0_1 a0_2 a2_0 a2_1 false _ A8.out).mono ?_); rintro e w24 ⟨rfl, hb⟩; replace BK501 := Aside0.mk (bb_ BK501.out hb); replace BK502 := Aside0.mk (bb_ BK502.out hb); replace BK503 := Aside0.mk (bb_ BK503.out hb); replace HB := Aside0.mk (below_step (hb3_ HB.out GE501.out GE502.out GE503.out) hb); (try clear hb); (try clear hb2); (try clear hk); (try clear hi))); try go_wp2_with (first | (go_at_call 83; (with_reducible refine (spec_WalkerOk.calls a0_0 a0_1 a0_2 a2_0 a2_1 false _ A8.out).mono ?_); rintro e w24 ⟨rfl, hb⟩; replace BK501 := Aside0.mk (bb_ BK501.out hb); replace BK502 := Aside0.mk (bb_ BK502.out hb); replace BK503 := Aside0.mk (bb_ BK503.out hb); replace HB := Aside0.mk (below_step (hb3_ HB.out GE501.out GE502.out GE503.out) hb); (try clear hb); (try clear hb2); (try clear hk); (try clear hi))))
   go_meet
   case rel => exact ⟨_, (true), (by first | rfl | (simp; done) | (simp [*]; done)), H', ⟨by first | omega | exact Nat.le_refl _⟩, ⟨bk_ BK501.out⟩, ⟨bk_ BK502.out⟩, ⟨bk_ BK503.out⟩, ⟨hb3_ HB.out GE501.out GE502.out GE503.out⟩⟩
 case rest =>
  clear HC4
  try clear c1
  try clear c2
  try clear p2
  try clear c4
  try clear c9
  try clear c11
  try clear c12
  try clear c14
  try clear c19
  try clear c20
  try clear c22
  try clear hcz13_0
  try clear hcz13_1
  try clear hcz13_2
  try clear hcz15_0
  try clear hcz15_1
  try clear hcz17_0
  try clear hcz17_1
  try clear hcz17_2
  try clear hcz21_0
  try clear hcz21_1
  try clear hcz21_2
  try clear hcz23_0
  try clear hcz23_1
  try clear hfz13_0
  try clear hfz13_1
  try clear hfz13_2
  try clear hfz15_0
  try clear hfz15_1
  try clear hfz17_0
  try clear hfz17_1
  try clear hfz17_2
  try clear hfz21_0
  try clear hfz21_1
  try clear hfz21_2
  try clear hfz23_0
  try clear hfz23_1
  obtain ⟨kq, x31_3, rfl, HA, HJ3, BK501, BK502, BK503, HB⟩ := hcut
  cases kq with
  | zero => exact absurd HA.out (by simp [spec_TremauxStep.j0])
  | succ kj3 =>
   have H := HA.out
   clear HA
   simp only [spec_TremauxStep.j0] at H
   by_cases c25 : x31_3 = true
   ·subst c25
    have H1 : (some (a2_0, a2_1, false)) = some (r1, r2, r3) := by rw [if_pos rfl] at H; exact H
    clear H
    have H := H1
    clear H1
    simp only [Option.some.injEq, Prod.mk.injEq] at H
    obtain ⟨rfl, rfl, rfl⟩ := H
    have hnb26 := NB502_501.out
    have hnc26 := NB501_502.out
    have hnb27 := NB502_503.out
    have hnc27 := NB503_502.out
    obtain ⟨hcz28_0, hcz28_1⟩ := cz2_ BK502.out
    obtain ⟨hfz28_0, hfz28_1⟩ := fz2_ BK502.out
    have hnb29 := NB503_501.out
    have hnc29 := NB501_503.out
    obtain ⟨hcz30_0, hcz30_1⟩ := cz2_ BK503.out
    obtain ⟨hfz30_0, hfz30_1⟩ := fz2_ BK503.out
    go_wp2
    repeat (go_quiet (fail); try go_wp2)
    refine bodyPost_ret (results_ct rfl _ _ gb503 65 #[.int .i64 a2_0, .int .i64 a2_1] (0, 0) _ rfl (by (with_reducible repeat (first | refine blk_drewN ?_ _ | refine blk_drew ?_ | refine blk_alloc ?_ _)); refine blk_put (cs := #[.int .i64 a2_0, .int .i64 0]) ?_ 1 _ rfl; (with_reducible repeat (first | refine blk_drewN ?_ _ | refine blk_drew ?_ | refine blk_alloc ?_ _)); refine blk_put (cs := #[.int .i64 0, .int .i64 0]) ?_ 0 _ rfl; (with_reducible repeat (first | refine blk_drewN ?_ _ | refine blk_drew ?_ | refine blk_alloc ?_ _)); exact BK503.out) Try.underlying65 rfl (by kernel_rfl)) rfl ?_
    exact ⟨by first | rfl | (simp [errW_none, errW_some] <;> rfl) | (simp [*, errW_none, errW_some] <;> rfl), hb3_ HB.out GE501.out GE502.out GE503.out⟩
   ·replace c25 := Bool.eq_false_iff.mpr c25
    subst c25
    have H1 : ((spec_GapAt.f kj3 a0_0 a0_1 a2_0 (Int.tmod (wrap64 (a2_1 + 2)) 4)).bind fun t506 => ((spec_IsPassage.f a0_0 a0_1 a0_2 t506).bind fun t507 => (spec_TremauxStep.l0 kj3 l1 (Int.tmod (wrap64 (a2_1 + 2)) 4) t506 t507 false 0 a0_0 a0_1 a0_2 a2_0 a2_1))) = some (r1, r2, r3) := by rw [if_neg (show ¬ (false = true) by decide)] at H; exact H
    clear H
    have H := H1
    clear H1
    replace H := Option.bind_eq_some_iff.mp H
    obtain ⟨t506, A310, H⟩ := H
    replace H : ((spec_IsPassage.f a0_0 a0_1 a0_2 t506).bind fun t507 => (spec_TremauxStep.l0 kj3 l1 (Int.tmod (wrap64 (a2_1 + 2)) 4) t506 t507 false 0 a0_0 a0_1 a0_2 a2_0 a2_1)) = some (r1, r2, r3) := H
    have A31 := Aside0.mk A310
    clear A310
    replace H := Option.bind_eq_some_iff.mp H
    obtain ⟨t507, A320, H⟩ := H
    replace H : (spec_TremauxStep.l0 kj3 l1 (Int.tmod (wrap64 (a2_1 + 2)) 4) t506 t507 false 0 a0_0 a0_1 a0_2 a2_0 a2_1) = some (r1, r2, r3) := H
    have A32 := Aside0.mk A320
    clear A320
    have H' := Aside0.mk H
    clear H
    have hnb33 := NB502_501.out
    have hnc33 := NB501_502.out
    have hnb34 := NB502_503.out
    have hnc34 := NB503_502.out
    obtain ⟨hcz35_0, hcz35_1⟩ := cz2_ BK502.out
    obtain ⟨hfz35_0, hfz35_1⟩ := fz2_ BK502.out
    have hnb36 := NB501_503.out
    have hnc36 := NB503_501.out
    obtain ⟨hcz37_0, hcz37_1, hcz37_2⟩ := cz3_ BK501.out
    obtain ⟨hfz37_0, hfz37_1, hfz37_2⟩ := fz3_ BK501.out
    go_wp2_with (first | (go_at_call 88; (with_reducible refine (spec_GapAt.calls kj3 a0_0 a0_1 a2_0 (Int.tmod (wrap64 (a2_1 + 2)) 4) t506 _ A31.out).mono ?_); rintro e w38 ⟨rfl, hb⟩; replace BK501 := Aside0.mk (bb_ BK501.out hb); replace BK502 := Aside0.mk (bb_ BK502.out hb); replace BK503 := Aside0.mk (bb_ BK503.out hb); replace HB := Aside0.mk (below_step (hb3_ HB.out GE501.out GE502.out GE503.out) hb); (try clear hb); (try clear hb2); (try clear hk); (try clear hi); obtain ⟨hcz39_0, hcz39_1, hcz39_2⟩ := cz3_ BK501.out; obtain ⟨hfz39_0, hfz39_1, hfz39_2⟩ := fz3_ BK501.out) | (go_at_call 89; (with_reducible refine (spec_IsPassage.calls a0_0 a0_1 a0_2 t506 t507 _ A32.out).mono ?_); rintro e w40 ⟨rfl, hb⟩; replace BK501 := Aside0.mk (bb_ BK501.out hb); replace BK502 := Aside0.mk (bb_ BK502.out hb); replace BK503 := Aside0.mk (bb_ BK503.out hb); replace HB := Aside0.mk (below_step (hb3_ HB.out GE501.out GE502.out GE503.out) hb); (try clear hb); (try clear hb2); (try clear hk); (try clear hi)))
    repeat (go_quiet (first | (go_at_call 88; (with_reducible refine (spec_GapAt.calls kj3 a0_0 a0_1 a2_0 (Int.tmod (wrap64 (a2_1 + 2)) 4) t506 _ A31.out).mono ?_); rintro e w38 ⟨rfl, hb⟩; replace BK501 := Aside0.mk (bb_ BK501.out hb); replace BK502 := Aside0.mk (bb_ BK502.out hb); replace BK503 := Aside0.mk (bb_ BK503.out hb); replace HB := Aside0.mk (below_step (hb3_ HB.out GE501.out GE502.out GE503.out) hb); (try clear hb); (try clear hb2); (try clear hk); (try clear hi); obtain ⟨hcz39_0, hcz39_1, hcz39_2⟩ := cz3_ BK501.out; obtain ⟨hfz39_0, hfz39_1, hfz39_2⟩ := fz3_ BK501.out) | (go_at_call 89; (with_reducible refine (spec_IsPassage.calls a0_0 a0_1 a0_2 t506 t507 _ A32.out).mono ?_); rintro e w40 ⟨rfl, hb⟩; replace BK501 := Aside0.mk (bb_ BK501.out hb); replace BK502 := Aside0.mk (bb_ BK502.out hb); replace BK503 := Aside0.mk (bb_ BK503.out hb); replace HB := Aside0.mk (below_step (hb3_ HB.out GE501.out GE502.out GE503.out) hb); (try clear hb); (try clear hb2); (try clear hk); (try clear hi))); try go_wp2_with (first | (go_at_call 88; (with_reducible refine (spec_GapAt.calls kj3 a0_0 a0_1 a2_0 (Int.tmod (wrap64 (a2_1 + 2)) 4) t506 _ A31.out).mono ?_); rintro e w38 ⟨rfl, hb⟩; replace BK501 := Aside0.mk (bb_ BK501.out hb); replace BK502 := Aside0.mk (bb_ BK502.out hb); replace BK503 := Aside0.mk (bb_ BK503.out hb); replace HB := Aside0.mk (below_step (hb3_ HB.out GE501.out GE502.out GE503.out) hb); (try clear hb); (try clear hb2); (try clear hk); (try clear hi); obtain ⟨hcz39_0, hcz39_1, hcz39_2⟩ := cz3_ BK501.out; obtain ⟨hfz39_0, hfz39_1, hfz39_2⟩ := fz3_ BK501.out) | (go_at_call 89; (with_reducible refine (spec_IsPassage.calls a0_0 a0_1 a0_2 t506 t507 _ A32.out).mono ?_); rintro e w40 ⟨rfl, hb⟩; replace BK501 := Aside0.mk (bb_ BK501.out hb); replace BK502 := Aside0.mk (bb_ BK502.out hb); replace BK503 := Aside0.mk (bb_ BK503.out hb); replace HB := Aside0.mk (below_step (hb3_ HB.out GE501.out GE502.out GE503.out) hb); (try clear hb); (try clear hb2); (try clear hk); (try clear hi))))
    go_loopg [11, 12] kj3 (fun kq v11 v12 w' => ∃ (x11_2 : Bool) (x12_2 : Int), v11 = .bool x11_2 ∧ v12 = .int .i64 x12_2 ∧ Aside0 (spec_TremauxStep.l0 kq l1 (Int.tmod (wrap64 (a2_1 + 2)) 4) t506 t507 x11_2 x12_2 a0_0 a0_1 a0_2 a2_0 a2_1 = some (r1, r2, r3)) ∧ Aside0 (kq ≤ kj3) ∧ Aside0 (w'.heap[gb501]? = some (.cells #[.int .i64 a0_0, .int .i64 a0_1, .int .i64 a0_2] 33 (0, 0))) ∧ Aside0 (w'.heap[gb502]? = some (.cells #[.int .i64 a2_0, .int .i64 a2_1] 65 (0, 0))) ∧ Aside0 (w'.heap[gb503]? = some (.cells #[.int .i64 0, .int .i64 0] 65 (0, 0))) ∧ Aside0 (Below w.heap.size w w'))
    case atStart => exact ⟨(false), (0), (by first | rfl | (simp; done) | (simp [*]; done)), (by first | rfl | (simp; done) | (simp [*]; done)), H', ⟨Nat.le_refl _⟩, ⟨bk_ BK501.out⟩, ⟨bk_ BK502.out⟩, ⟨bk_ BK503.out⟩, ⟨hb3_ HB.out GE501.out GE502.out GE503.out⟩⟩
    case round =>
     clear H'
     try clear c1
     try clear c2
     try clear p2
     try clear c3
     try clear c4
     try clear p6
     try clear c9
     try clear c11
     try clear c12
     try clear c14
     try clear c19
     try clear c20
     try clear c22
     try clear c25
     try clear c26
     try clear c27
     try clear c29
     try clear c33
     try clear c34
     try clear c36
     try clear hcz13_0
     try clear hcz13_1
     try clear hcz13_2
     try clear hcz15_0
     try clear hcz15_1
     try clear hcz17_0
     try clear hcz17_1
     try clear hcz17_2
     try clear hcz21_0
     try clear hcz21_1
     try clear hcz21_2
     try clear hcz23_0
     try clear hcz23_1
     try clear hcz28_0
     try clear hcz28_1
     try clear hcz30_0
     try clear hcz30_1
     try clear hcz35_0
     try clear hcz35_1
     try clear hcz37_0
     try clear hcz37_1
     try clear hcz37_2
     try clear hcz39_0
     try clear hcz39_1
     try clear hcz39_2
     try clear hfz13_0
     try clear hfz13_1
     try clear hfz13_2
     try clear hfz15_0
     try clear hfz15_1
     try clear hfz17_0
     try clear hfz17_1
     try clear hfz17_2
     try clear hfz21_0
     try clear hfz21_1
     try clear hfz21_2
     try clear hfz23_0
     try clear hfz23_1
     try clear hfz28_0
     try clear hfz28_1
     try clear hfz30_0
     try clear hfz30_1
     try clear hfz35_0
     try clear hfz35_1
     try clear hfz37_0
     try clear hfz37_1
     try clear hfz37_2
     try clear hfz39_0
     try clear hfz39_1
     try clear hfz39_2
     try clear p2
     obtain ⟨x11_2, x12_2, rfl, rfl, HA, HK2, BK501, BK502, BK503, HB⟩ := hrel
     cases gk with
     | zero => exact absurd HA.out (by simp [spec_TremauxStep.l0])
     | succ k2 =>
      have H := HA.out
      clear HA
      simp only [spec_TremauxStep.l0] at H
      by_cases c41 : x12_2 ≤ 3
      ·rw [if_pos c41] at H
       have c41b0 : decide (x12_2 ≤ 3) = true := decide_eq_true c41
       clear c41
       replace H := Option.bind_eq_some_iff.mp H
       obtain ⟨t508, A420, H⟩ := H
       replace H : (if x12_2 = (Int.tmod (wrap64 (a2_1 + 2)) 4) then (spec_TremauxStep.j2 k2 l1 (Int.tmod (wrap64 (a2_1 + 2)) 4) t506 t507 x11_2 x12_2 false a0_0 a0_1 a0_2 a2_0 a2_1) else ((spec_IsPassage.f a0_0 a0_1 a0_2 t508).bind fun t509 => (if t509 = true then (if 0 ≤ t508 then (if t508 < (l1.length : Int) then (spec_TremauxStep.j2 k2 l1 (Int.tmod (wrap64 (a2_1 + 2)) 4) t506 t507 x11_2 x12_2 (decide ((rd l1 t508) > 0)) a0_0 a0_1 a0_2 a2_0 a2_1) else (none)) else (none)) else (spec_TremauxStep.j2 k2 l1 (Int.tmod (wrap64 (a2_1 + 2)) 4) t506 t507 x11_2 x12_2 false a0_0 a0_1 a0_2 a2_0 a2_1)))) = some (r1, r2, r3) := H
       have A42 := Aside0.mk A420
       clear A420
       have HC43 := Aside0.mk H
       clear H
       have hnb44 := NB501_502.out
       have hnc44 := NB502_501.out
       have hnb45 := NB501_503.out
       have hnc45 := NB503_501.out
       obtain ⟨hcz46_0, hcz46_1, hcz46_2⟩ := cz3_ BK501.out
       obtain ⟨hfz46_0, hfz46_1, hfz46_2⟩ := fz3_ BK501.out
       have hnb47 := NB502_503.out
       have hnc47 := NB503_502.out
       obtain ⟨hcz48_0, hcz48_1⟩ := cz2_ BK502.out
       obtain ⟨hfz48_0, hfz48_1⟩ := fz2_ BK502.out
       go_upto_region 11 with (first | (go_at_call 88; (with_reducible refine (spec_GapAt.calls k2 a0_0 a0_1 a2_0 x12_2 t508 _ A42.out).mono ?_); rintro e w49 ⟨rfl, hb⟩; replace BK501 := Aside0.mk (bb_ BK501.out hb); replace BK502 := Aside0.mk (bb_ BK502.out hb); replace BK503 := Aside0.mk (bb_ BK503.out hb); replace HB := Aside0.mk (below_step (hb3_ HB.out GE501.out GE502.out GE503.out) hb); (try clear hb); (try clear hb2); (try clear hk); (try clear hi)))
       repeat (go_quiet (first | (go_at_call 88; (with_reducible refine (spec_GapAt.calls k2 a0_0 a0_1 a2_0 x12_2 t508 _ A42.out).mono ?_); rintro e w49 ⟨rfl, hb⟩; replace BK501 := Aside0.mk (bb_ BK501.out hb); replace BK502 := Aside0.mk (bb_ BK502.out hb); replace BK503 := Aside0.mk (bb_ BK503.out hb); replace HB := Aside0.mk (below_step (hb3_ HB.out GE501.out GE502.out GE503.out) hb); (try clear hb); (try clear hb2); (try clear hk); (try clear hi))); go_upto_region 11 with (first | (go_at_call 88; (with_reducible refine (spec_GapAt.calls k2 a0_0 a0_1 a2_0 x12_2 t508 _ A42.out).mono ?_); rintro e w49 ⟨rfl, hb⟩; replace BK501 := Aside0.mk (bb_ BK501.out hb); replace BK502 := Aside0.mk (bb_ BK502.out hb); replace BK503 := Aside0.mk (bb_ BK503.out hb); replace HB := Aside0.mk (below_step (hb3_ HB.out GE501.out GE502.out GE503.out) hb); (try clear hb); (try clear hb2); (try clear hk); (try clear hi))))
       (try simp only [Act.put, List.setIfInBounds_toArray, List.set_cons_zero, List.set_cons_succ])
       go_cut [70] (fun v70 wc => ∃ (kq : Nat) (x70_42 : Bool), v70 = .bool x70_42 ∧ Aside0 (spec_TremauxStep.j2 kq l1 (Int.tmod (wrap64 (a2_1 + 2)) 4) t506 t507 x11_2 x12_2 x70_42 a0_0 a0_1 a0_2 a2_0 a2_1 = some (r1, r2, r3)) ∧ Aside0 (kq ≤ k2) ∧ Aside0 (wc.heap[gb501]? = some (.cells #[.int .i64 a0_0, .int .i64 a0_1, .int .i64 a0_2] 33 (0, 0))) ∧ Aside0 (wc.heap[gb502]? = some (.cells #[.int .i64 a2_0, .int .i64 a2_1] 65 (0, 0))) ∧ Aside0 (wc.heap[gb503]? = some (.cells #[.int .i64 0, .int .i64 0] 65 (0, 0))) ∧ Aside0 (Below w.heap.size w wc))
       case first =>
        have H := HC43.out
        clear HC43
        by_cases c50 : x12_2 = (Int.tmod (wrap64 (a2_1 + 2)) 4)
        ·rw [if_pos c50] at H
         have c50b0 : (x12_2 == (Int.tmod (wrap64 (a2_1 + 2)) 4)) = true := beq_iff_eq.mpr c50
         have c50b1 : (x12_2 != (Int.tmod (wrap64 (a2_1 + 2)) 4)) = false := bne_eq_false_iff_eq.mpr c50
         clear c50
         (first | rw [c50b0] | (simp only [i64_w, i32_w]; rw [c50b0]) | skip)
         have H' := Aside0.mk H
         clear H
         go_wp2
         repeat (go_quiet (fail); try go_wp2)
         go_meet
         case rel => exact ⟨_, (false), (by first | rfl | (simp; done) | (simp [*]; done)), H', ⟨by have := HJ3.out; have := HK2.out; first | omega | exact Nat.le_refl _⟩, ⟨bk_ BK501.out⟩, ⟨bk_ BK502.out⟩, ⟨bk_ BK503.out⟩, ⟨hb3_ HB.out GE501.out GE502.out GE503.out⟩⟩
        ·rw [if_neg c50] at H
         have c50b0 : (x12_2 == (Int.tmod (wrap64 (a2_1 + 2)) 4)) = false := beq_eq_false_iff_ne.mpr c50
         have c50b1 : (x12_2 != (Int.tmod (wrap64 (a2_1 + 2)) 4)) = true := bne_iff_ne.mpr c50
         (first | rw [c50b0] | (simp only [i64_w, i32_w]; rw [c50b0]) | skip)
         replace H := Option.bind_eq_some_iff.mp H
         obtain ⟨t509, A510, H⟩ := H
         replace H : (if t509 = true then (if 0 ≤ t508 then (if t508 < (l1.length : Int) then (spec_TremauxStep.j2 k2 l1 (Int.tmod (wrap64 (a2_1 + 2)) 4) t506 t507 x11_2 x12_2 (decide ((rd l1 t508) > 0)) a0_0 a0_1 a0_2 a2_0 a2_1) else (none)) else (none)) else (spec_TremauxStep.j2 k2 l1 (Int.tmod (wrap64 (a2_1 + 2)) 4) t506 t507 x11_2 x12_2 false a0_0 a0_1 a0_2 a2_0 a2_1)) = some (r1, r2, r3) := H
         have A51 := Aside0.mk A510
         clear A510
         by_cases c52 : t509 = true
         ·subst c52
          have H1 : (if 0 ≤ t508 then (if t508 < (l1.length : Int) then (spec_TremauxStep.j2 k2 l1 (Int.tmod (wrap64 (a2_1 + 2)) 4) t506 t507 x11_2 x12_2 (decide ((rd l1 t508) > 0)) a0_0 a0_1 a0_2 a2_0 a2_1) else (none)) else (none)) = some (r1, r2, r3) := by rw [if_pos rfl] at H; exact H
          clear H
          have H := H1
          clear H1
          by_cases c53 : 0 ≤ t508
          ·rw [if_pos c53] at H
           have c53b0 : decide (0 ≤ t508) = true := decide_eq_true c53
           clear c53
           by_cases c54 : t508 < (l1.length : Int)
           ·rw [if_pos c54] at H
            have c54b0 : decide (t508 < (l1.length : Int)) = true := decide_eq_true c54
            clear c54
            have H' := Aside0.mk H
            clear H
            have hnb55 := NB501_502.out
            have hnc55 := NB502_501.out
            have hnb56 := NB501_503.out
            have hnc56 := NB503_501.out
            obtain ⟨hcz57_0, hcz57_1, hcz57_2⟩ := cz3_ BK501.out
            obtain ⟨hfz57_0, hfz57_1, hfz57_2⟩ := fz3_ BK501.out
            go_wp2_with (first | (go_at_call 89; (with_reducible refine (spec_IsPassage.calls a0_0 a0_1 a0_2 t508 true _ A51.out).mono ?_); rintro e w58 ⟨rfl, hb⟩; replace BK501 := Aside0.mk (bb_ BK501.out hb); replace BK502 := Aside0.mk (bb_ BK502.out hb); replace BK503 := Aside0.mk (bb_ BK503.out hb); replace HB := Aside0.mk (below_step (hb3_ HB.out GE501.out GE502.out GE503.out) hb); (try clear hb); (try clear hb2); (try clear hk); (try clear hi); have p510 : 0 ≤ (t508 : Int) := of_decide_eq_true (as_); have q510 : t508 < (l1.length : Int) := of_decide_eq_true (as_); obtain ⟨ad510, e510, hx510_0⟩ := Kd.at_int HR1.out t508 p510 q510; cases e510; replace hx510_0 := (HB.out.cell (World.block_lt_of_cell? w _ hx510_0)).trans hx510_0; replace p510 := eq_true p510; replace q510 := eq_true q510))
            repeat (go_quiet (first | (go_at_call 89; (with_reducible refine (spec_IsPassage.calls a0_0 a0_1 a0_2 t508 true _ A51.out).mono ?_); rintro e w58 ⟨rfl, hb⟩; replace BK501 := Aside0.mk (bb_ BK501.out hb); replace BK502 := Aside0.mk (bb_ BK502.out hb); replace BK503 := Aside0.mk (bb_ BK503.out hb); replace HB := Aside0.mk (below_step (hb3_ HB.out GE501.out GE502.out GE503.out) hb); (try clear hb); (try clear hb2); (try clear hk); (try clear hi); have p510 : 0 ≤ (t508 : Int) := of_decide_eq_true (as_); have q510 : t508 < (l1.length : Int) := of_decide_eq_true (as_); obtain ⟨ad510, e510, hx510_0⟩ := Kd.at_int HR1.out t508 p510 q510; cases e510; replace hx510_0 := (HB.out.cell (World.block_lt_of_cell? w _ hx510_0)).trans hx510_0; replace p510 := eq_true p510; replace q510 := eq_true q510)); try go_wp2_with (first | (go_at_call 89; (with_reducible refine (spec_IsPassage.calls a0_0 a0_1 a0_2 t508 true _ A51.out).mono ?_); rintro e w58 ⟨rfl, hb⟩; replace BK501 := Aside0.mk (bb_ BK501.out hb); replace BK502 := Aside0.mk (bb_ BK502.out hb); replace BK503 := Aside0.mk (bb_ BK503.out hb); replace HB := Aside0.mk (below_step (hb3_ HB.out GE501.out GE502.out GE503.out) hb); (try clear hb); (try clear hb2); (try clear hk); (try clear hi); have p510 : 0 ≤ (t508 : Int) := of_decide_eq_true (as_); have q510 : t508 < (l1.length : Int) := of_decide_eq_true (as_); obtain ⟨ad510, e510, hx510_0⟩ := Kd.at_int HR1.out t508 p510 q510; cases e510; replace hx510_0 := (HB.out.cell (World.block_lt_of_cell? w _ hx510_0)).trans hx510_0; replace p510 := eq_true p510; replace q510 := eq_true q510)))
            go_meet
            case rel => exact ⟨_, (decide ((rd l1 t508) > 0)), (by first | rfl | (simp; done) | (simp [*]; done)), H', ⟨by have := HJ3.out; have := HK2.out; first | omega | exact Nat.le_refl _⟩, ⟨bk_ BK501.out⟩, ⟨bk_ BK502.out⟩, ⟨bk_ BK503.out⟩, ⟨hb3_ HB.out GE501.out GE502.out GE503.out⟩⟩
           ·rw [if_neg c54] at H
            exact absurd H (by simp)
          ·rw [if_neg c53] at H
           exact absurd H (by simp)
         ·replace c52 := Bool.eq_false_iff.mpr c52
          subst c52
          have H1 : (spec_TremauxStep.j2 k2 l1 (Int.tmod (wrap64 (a2_1 + 2)) 4) t506 t507 x11_2 x12_2 false a0_0 a0_1 a0_2 a2_0 a2_1) = some (r1, r2, r3) := by rw [if_neg (show ¬ (false = true) by decide)] at H; exact H
          clear H
          have H := H1
          clear H1
          have H' := Aside0.mk H
          clear H
          have hnb59 := NB501_502.out
          have hnc59 := NB502_501.out
          have hnb60 := NB501_503.out
          have hnc60 := NB503_501.out
          obtain ⟨hcz61_0, hcz61_1, hcz61_2⟩ := cz3_ BK501.out
          obtain ⟨hfz61_0, hfz61_1, hfz61_2⟩ := fz3_ BK501.out
          go_wp2_with (first | (go_at_call 89; (with_reducible refine (spec_IsPassage.calls a0_0 a0_1 a0_2 t508 false _ A51.out).mono ?_); rintro e w62 ⟨rfl, hb⟩; replace BK501 := Aside0.mk (bb_ BK501.out hb); replace BK502 := Aside0.mk (bb_ BK502.out hb); replace BK503 := Aside0.mk (bb_ BK503.out hb); replace HB := Aside0.mk (below_step (hb3_ HB.out GE501.out GE502.out GE503.out) hb); (try clear hb); (try clear hb2); (try clear hk); (try clear hi)))
          repeat (go_quiet (first | (go_at_call 89; (with_reducible refine (spec_IsPassage.calls a0_0 a0_1 a0_2 t508 false _ A51.out).mono ?_); rintro e w62 ⟨rfl, hb⟩; replace BK501 := Aside0.mk (bb_ BK501.out hb); replace BK502 := Aside0.mk (bb_ BK502.out hb); replace BK503 := Aside0.mk (bb_ BK503.out hb); replace HB := Aside0.mk (below_step (hb3_ HB.out GE501.out GE502.out GE503.out) hb); (try clear hb); (try clear hb2); (try clear hk); (try clear hi))); try go_wp2_with (first | (go_at_call 89; (with_reducible refine (spec_IsPassage.calls a0_0 a0_1 a0_2 t508 false _ A51.out).mono ?_); rintro e w62 ⟨rfl, hb⟩; replace BK501 := Aside0.mk (bb_ BK501.out hb); replace BK502 := Aside0.mk (bb_ BK502.out hb); replace BK503 := Aside0.mk (bb_ BK503.out hb); replace HB := Aside0.mk (below_step (hb3_ HB.out GE501.out GE502.out GE503.out) hb); (try clear hb); (try clear hb2); (try clear hk); (try clear hi))))
          go_meet
          case rel => exact ⟨_, (false), (by first | rfl | (simp; done) | (simp [*]; done)), H', ⟨by have := HJ3.out; have := HK2.out; first | omega | exact Nat.le_refl _⟩, ⟨bk_ BK501.out⟩, ⟨bk_ BK502.out⟩, ⟨bk_ BK503.out⟩, ⟨hb3_ HB.out GE501.out GE502.out GE503.out⟩⟩
       case rest =>
        clear HC43
        try clear c1
        try clear c2
        try clear p2
        try clear c3
        try clear c4
        try clear c5
        try clear p5
        try clear q5
        try clear hx5
        try clear c6
        try clear p6
        try clear c9
        try clear c11
        try clear c12
        try clear c14
        try clear c19
        try clear c20
        try clear c22
        try clear c25
        try clear c26
        try clear c27
        try clear c29
        try clear c33
        try clear c34
        try clear c36
        try clear c41
        try clear c41b0
        try clear c44
        try clear c45
        try clear c47
        try clear c50
        try clear c50b0
        try clear c50b1
        try clear p51
        try clear q51
        try clear hx51
        try clear c52
        try clear c53
        try clear c53b0
        try clear c54
        try clear c54b0
        try clear c55
        try clear c56
        try clear c59
        try clear c60
        try clear hcz13_0
        try clear hcz13_1
        try clear hcz13_2
        try clear hcz15_0
        try clear hcz15_1
        try clear hcz17_0
        try clear hcz17_1
        try clear hcz17_2
        try clear hcz21_0
        try clear hcz21_1
        try clear hcz21_2
        try clear hcz23_0
        try clear hcz23_1
        try clear hcz28_0
        try clear hcz28_1
        try clear hcz30_0
        try clear hcz30_1
        try clear hcz35_0
        try clear hcz35_1
        try clear hcz37_0
        try clear hcz37_1
        try clear hcz37_2
        try clear hcz39_0
        try clear hcz39_1
        try clear hcz39_2
        try clear hcz46_0
        try clear hcz46_1
        try clear hcz46_2
        try clear hcz48_0
        try clear hcz48_1
        try clear hcz57_0
        try clear hcz57_1
        try clear hcz57_2
        try clear hcz61_0
        try clear hcz61_1
        try clear hcz61_2
        try clear hfz13_0
        try clear hfz13_1
        try clear hfz13_2
        try clear hfz15_0
        try clear hfz15_1
        try clear hfz17_0
        try clear hfz17_1
        try clear hfz17_2
        try clear hfz21_0
        try clear hfz21_1
        try clear hfz21_2
        try clear hfz23_0
        try clear hfz23_1
        try clear hfz28_0
        try clear hfz28_1
        try clear hfz30_0
        try clear hfz30_1
        try clear hfz35_0
        try clear hfz35_1
        try clear hfz37_0
        try clear hfz37_1
        try clear hfz37_2
        try clear hfz39_0
        try clear hfz39_1
        try clear hfz39_2
        try clear hfz46_0
        try clear hfz46_1
        try clear hfz46_2
        try clear hfz48_0
        try clear hfz48_1
        try clear hfz57_0
        try clear hfz57_1
        try clear hfz57_2
        try clear hfz61_0
        try clear hfz61_1
        try clear hfz61_2
        try clear hx510_0
        try clear p2
        try clear p510
        try clear p6
        try clear q510
        obtain ⟨kq, x70_42, rfl, HA, HJ42, BK501, BK502, BK503, HB⟩ := hcut
        cases kq with
        | zero => exact absurd HA.out (by simp [spec_TremauxStep.j2])
        | succ kj42 =>
         have H := HA.out
         clear HA
         simp only [spec_TremauxStep.j2] at H
         by_cases c63 : x70_42 = true
         ·subst c63
          have H1 : (spec_TremauxStep.l0 kj42 l1 (Int.tmod (wrap64 (a2_1 + 2)) 4) t506 t507 true (wrap64 (x12_2 + 1)) a0_0 a0_1 a0_2 a2_0 a2_1) = some (r1, r2, r3) := by rw [if_pos rfl] at H; exact H
          clear H
          have H := H1
          clear H1
          have H' := Aside0.mk H
          clear H
          go_wp2
          repeat (go_quiet (fail); try go_wp2)
          go_roundg kj42
          case measure => have := HJ3.out; have := HK2.out; have := HJ42.out; omega
          case rel => exact ⟨(true), (wrap64 (x12_2 + 1)), (by first | rfl | (simp; done) | (simp [*]; done)), (by first | rfl | (simp; done) | (simp [*]; done)), H', ⟨by have := HJ3.out; have := HK2.out; have := HJ42.out; omega⟩, ⟨bk_ BK501.out⟩, ⟨bk_ BK502.out⟩, ⟨bk_ BK503.out⟩, ⟨hb3_ HB.out GE501.out GE502.out GE503.out⟩⟩
         ·replace c63 := Bool.eq_false_iff.mpr c63
          subst c63
          have H1 : (spec_TremauxStep.l0 kj42 l1 (Int.tmod (wrap64 (a2_1 + 2)) 4) t506 t507 x11_2 (wrap64 (x12_2 + 1)) a0_0 a0_1 a0_2 a2_0 a2_1) = some (r1, r2, r3) := by rw [if_neg (show ¬ (false = true) by decide)] at H; exact H
          clear H
          have H := H1
          clear H1
          have H' := Aside0.mk H
          clear H
          go_wp2
          repeat (go_quiet (fail); try go_wp2)
          go_roundg kj42
          case measure => have := HJ3.out; have := HK2.out; have := HJ42.out; omega
          case rel => exact ⟨(x11_2), (wrap64 (x12_2 + 1)), (by first | rfl | (simp; done) | (simp [*]; done)), (by first | rfl | (simp; done) | (simp [*]; done)), H', ⟨by have := HJ3.out; have := HK2.out; have := HJ42.out; omega⟩, ⟨bk_ BK501.out⟩, ⟨bk_ BK502.out⟩, ⟨bk_ BK503.out⟩, ⟨hb3_ HB.out GE501.out GE502.out GE503.out⟩⟩
      ·rw [if_neg c41] at H
       have c41b0 : decide (x12_2 ≤ 3) = false := decide_eq_false c41
       clear c41
       have HC64 := Aside0.mk H
       clear H
       go_upto_region 14 with (fail)
       repeat (go_quiet (fail); go_upto_region 14 with (fail))
       go_cut [81] (fun v81 wc => ∃ (kq : Nat) (x81_63 : Bool), v81 = .bool x81_63 ∧ Aside0 (spec_TremauxStep.j3 kq l1 (Int.tmod (wrap64 (a2_1 + 2)) 4) (-1) x81_63 a0_0 a0_1 a0_2 a2_0 a2_1 = some (r1, r2, r3)) ∧ Aside0 (kq ≤ k2) ∧ Aside0 (wc.heap[gb501]? = some (.cells #[.int .i64 a0_0, .int .i64 a0_1, .int .i64 a0_2] 33 (0, 0))) ∧ Aside0 (wc.heap[gb502]? = some (.cells #[.int .i64 a2_0, .int .i64 a2_1] 65 (0, 0))) ∧ Aside0 (wc.heap[gb503]? = some (.cells #[.int .i64 0, .int .i64 0] 65 (0, 0))) ∧ Aside0 (Below w.heap.size w wc))
       case first =>
        have H := HC64.out
        clear HC64
        by_cases c65 : t507 = true
        ·subst c65
         have H1 : (if 0 ≤ t506 then (if t506 < (l1.length : Int) then (if (rd l1 t506) = 1 then (spec_TremauxStep.j3 k2 l1 (Int.tmod (wrap64 (a2_1 + 2)) 4) (-1) x11_2 a0_0 a0_1 a0_2 a2_0 a2_1) else (spec_TremauxStep.j3 k2 l1 (Int.tmod (wrap64 (a2_1 + 2)) 4) (-1) false a0_0 a0_1 a0_2 a2_0 a2_1)) else (none)) else (none)) = some (r1, r2, r3) := by rw [if_pos rfl] at H; exact H
         clear H
         have H := H1
         clear H1
         by_cases c66 : 0 ≤ t506
         ·rw [if_pos c66] at H
          have c66b0 : decide (0 ≤ t506) = true := decide_eq_true c66
          clear c66
          (first | rw [c66b0] | (simp only [i64_w, i32_w]; rw [c66b0]) | skip)
          by_cases c67 : t506 < (l1.length : Int)
          ·rw [if_pos c67] at H
           have c67b0 : decide (t506 < (l1.length : Int)) = true := decide_eq_true c67
           clear c67
           by_cases c68 : (rd l1 t506) = 1
           ·rw [if_pos c68] at H
            have c68b0 : ((rd l1 t506) == 1) = true := beq_iff_eq.mpr c68
            have c68b1 : ((rd l1 t506) != 1) = false := bne_eq_false_iff_eq.mpr c68
            clear c68
            have H' := Aside0.mk H
            clear H
            have p511 : 0 ≤ (t506 : Int) := of_decide_eq_true (as_)
            have q511 : t506 < (l1.length : Int) := of_decide_eq_true (as_)
            obtain ⟨ad511, e511, hx511_0⟩ := Kd.at_int HR1.out t506 p511 q511
            cases e511
            replace hx511_0 := (HB.out.cell (World.block_lt_of_cell? w _ hx511_0)).trans hx511_0
            replace p511 := eq_true p511
            replace q511 := eq_true q511
            go_wp2
            repeat (go_quiet (fail); try go_wp2)
            go_meet
            case rel => exact ⟨_, (x11_2), (by first | rfl | (simp; done) | (simp [*]; done)), H', ⟨by have := HJ3.out; have := HK2.out; first | omega | exact Nat.le_refl _⟩, ⟨bk_ BK501.out⟩, ⟨bk_ BK502.out⟩, ⟨bk_ BK503.out⟩, ⟨hb3_ HB.out GE501.out GE502.out GE503.out⟩⟩
           ·rw [if_neg c68] at H
            have c68b0 : ((rd l1 t506) == 1) = false := beq_eq_false_iff_ne.mpr c68
            have c68b1 : ((rd l1 t506) != 1) = true := bne_iff_ne.mpr c68
            have H' := Aside0.mk H
            clear H
            have p511 : 0 ≤ (t506 : Int) := of_decide_eq_true (as_)
            have q511 : t506 < (l1.length : Int) := of_decide_eq_true (as_)
            obtain ⟨ad511, e511, hx511_0⟩ := Kd.at_int HR1.out t506 p511 q511
            cases e511
            replace hx511_0 := (HB.out.cell (World.block_lt_of_cell? w _ hx511_0)).trans hx511_0
            replace p511 := eq_true p511
            replace q511 := eq_true q511
            go_wp2
            repeat (go_quiet (fail); try go_wp2)
            go_meet
            case rel => exact ⟨_, (false), (by first | rfl | (simp; done) | (simp [*]; done)), H', ⟨by have := HJ3.out; have := HK2.out; first | omega | exact Nat.le_refl _⟩, ⟨bk_ BK501.out⟩, ⟨bk_ BK502.out⟩, ⟨bk_ BK503.out⟩, ⟨hb3_ HB.out GE501.out GE502.out GE503.out⟩⟩
          ·rw [if_neg c67] at H
           exact absurd H (by simp)
         ·rw [if_neg c66] at H
          exact absurd H (by simp)
        ·replace c65 := Bool.eq_false_iff.mpr c65
         subst c65
         have H1 : (spec_TremauxStep.j3 k2 l1 (Int.tmod (wrap64 (a2_1 + 2)) 4) (-1) false a0_0 a0_1 a0_2 a2_0 a2_1) = some (r1, r2, r3) := by rw [if_neg (show ¬ (false = true) by decide)] at H; exact H
         clear H
         have H := H1
         clear H1
         have H' := Aside0.mk H
         clear H
         go_wp2
         repeat (go_quiet (fail); try go_wp2)
         go_meet
         case rel => exact ⟨_, (false), (by first | rfl | (simp; done) | (simp [*]; done)), H', ⟨by have := HJ3.out; have := HK2.out; first | omega | exact Nat.le_refl _⟩, ⟨bk_ BK501.out⟩, ⟨bk_ BK502.out⟩, ⟨bk_ BK503.out⟩, ⟨hb3_ HB.out GE501.out GE502.out GE503.out⟩⟩
       case rest =>
        clear HC64
        try clear c1
        try clear c2
        try clear p2
        try clear c3
        try clear c4
        try clear c5
        try clear p5
        try clear q5
        try clear hx5
        try clear c6
        try clear p6
        try clear c9
        try clear c11
        try clear c12
        try clear c14
        try clear c19
        try clear c20
        try clear c22
        try clear c25
        try clear c26
        try clear c27
        try clear c29
        try clear c33
        try clear c34
        try clear c36
        try clear c41
        try clear c41b0
        try clear c44
        try clear c45
        try clear c47
        try clear c50
        try clear c50b0
        try clear c50b1
        try clear p51
        try clear q51
        try clear hx51
        try clear c52
        try clear c53
        try clear c53b0
        try clear c54
        try clear c54b0
        try clear c55
        try clear c56
        try clear c59
        try clear c60
        try clear c63
        try clear p64
        try clear c65
        try clear c66
        try clear c66b0
        try clear c67
        try clear c67b0
        try clear c68
        try clear c68b0
        try clear c68b1
        try clear hcz13_0
        try clear hcz13_1
        try clear hcz13_2
        try clear hcz15_0
        try clear hcz15_1
        try clear hcz17_0
        try clear hcz17_1
        try clear hcz17_2
        try clear hcz21_0
        try clear hcz21_1
        try clear hcz21_2
        try clear hcz23_0
        try clear hcz23_1
        try clear hcz28_0
        try clear hcz28_1
        try clear hcz30_0
        try clear hcz30_1
        try clear hcz35_0
        try clear hcz35_1
        try clear hcz37_0
        try clear hcz37_1
        try clear hcz37_2
        try clear hcz39_0
        try clear hcz39_1
        try clear hcz39_2
        try clear hcz46_0
        try clear hcz46_1
        try clear hcz46_2
        try clear hcz48_0
        try clear hcz48_1
        try clear hcz57_0
        try clear hcz57_1
        try clear hcz57_2
        try clear hcz61_0
        try clear hcz61_1
        try clear hcz61_2
        try clear hfz13_0
        try clear hfz13_1
        try clear hfz13_2
        try clear hfz15_0
        try clear hfz15_1
        try clear hfz17_0
        try clear hfz17_1
        try clear hfz17_2
        try clear hfz21_0
        try clear hfz21_1
        try clear hfz21_2
        try clear hfz23_0
        try clear hfz23_1
        try clear hfz28_0
        try clear hfz28_1
        try clear hfz30_0
        try clear hfz30_1
        try clear hfz35_0
        try clear hfz35_1
        try clear hfz37_0
        try clear hfz37_1
        try clear hfz37_2
        try clear hfz39_0
        try clear hfz39_1
        try clear hfz39_2
        try clear hfz46_0
        try clear hfz46_1
        try clear hfz46_2
        try clear hfz48_0
        try clear hfz48_1
        try clear hfz57_0
        try clear hfz57_1
        try clear hfz57_2
        try clear hfz61_0
        try clear hfz61_1
        try clear hfz61_2
        try clear hx510_0
        try clear hx511_0
        try clear p2
        try clear p5
        try clear p51
        try clear p510
        try clear p511
        try clear p6
        try clear q5
        try clear q51
        try clear q510
        try clear q511
        obtain ⟨kq, x81_63, rfl, HA, HJ63, BK501, BK502, BK503, HB⟩ := hcut
        cases kq with
        | zero => exact absurd HA.out (by simp [spec_TremauxStep.j3])
        | succ kj63 =>
         have H := HA.out
         clear HA
         simp only [spec_TremauxStep.j3] at H
         have HC69 := Aside0.mk H
         clear H
         go_upto_if 81 with (fail)
         repeat (go_quiet (fail); go_upto_if 81 with (fail))
         go_cut [14] (fun v14 wc => ∃ (kq : Nat) (x14_68 : Int), v14 = .int .i64 x14_68 ∧ Aside0 (spec_TremauxStep.j4 kq l1 x14_68 a0_0 a0_1 a0_2 a2_0 a2_1 = some (r1, r2, r3)) ∧ Aside0 (kq ≤ kj63) ∧ Aside0 (wc.heap[gb501]? = some (.cells #[.int .i64 a0_0, .int .i64 a0_1, .int .i64 a0_2] 33 (0, 0))) ∧ Aside0 (wc.heap[gb502]? = some (.cells #[.int .i64 a2_0, .int .i64 a2_1] 65 (0, 0))) ∧ Aside0 (wc.heap[gb503]? = some (.cells #[.int .i64 0, .int .i64 0] 65 (0, 0))) ∧ Aside0 (Below w.heap.size w wc))
         case first =>
          have H := HC69.out
          clear HC69
          by_cases c70 : x81_63 = true
          ·subst c70
           have H1 : (spec_TremauxStep.j4 kj63 l1 (Int.tmod (wrap64 (a2_1 + 2)) 4) a0_0 a0_1 a0_2 a2_0 a2_1) = some (r1, r2, r3) := by rw [if_pos rfl] at H; exact H
           clear H
           have H := H1
           clear H1
           have H' := Aside0.mk H
           clear H
           go_wp2
           repeat (go_quiet (fail); try go_wp2)
           go_meet
           case rel => exact ⟨_, ((Int.tmod (wrap64 (a2_1 + 2)) 4)), (by first | rfl | (simp; done) | (simp [*]; done)), H', ⟨by have := HJ3.out; have := HK2.out; have := HJ63.out; first | omega | exact Nat.le_refl _⟩, ⟨bk_ BK501.out⟩, ⟨bk_ BK502.out⟩, ⟨bk_ BK503.out⟩, ⟨hb3_ HB.out GE501.out GE502.out GE503.out⟩⟩
          ·replace c70 := Bool.eq_false_iff.mpr c70
           subst c70
           have H1 : (spec_TremauxStep.j4 kj63 l1 (-1) a0_0 a0_1 a0_2 a2_0 a2_1) = some (r1, r2, r3) := by rw [if_neg (show ¬ (false = true) by decide)] at H; exact H
           clear H
           have H := H1
           clear H1
           have H' := Aside0.mk H
           clear H
           go_wp2
           repeat (go_quiet (fail); try go_wp2)
           go_meet
           case rel => exact ⟨_, ((-1)), (by first | rfl | (simp; done) | (simp [*]; done)), H', ⟨by have := HJ3.out; have := HK2.out; have := HJ63.out; first | omega | exact Nat.le_refl _⟩, ⟨bk_ BK501.out⟩, ⟨bk_ BK502.out⟩, ⟨bk_ BK503.out⟩, ⟨hb3_ HB.out GE501.out GE502.out GE503.out⟩⟩
         case rest =>
          clear HC69
          try clear c1
          try clear c2
          try clear p2
          try clear c3
          try clear c4
          try clear c5
          try clear p5
          try clear q5
          try clear hx5
          try clear c6
          try clear p6
          try clear c7
          try clear c9
          try clear c11
          try clear c12
          try clear c14
          try clear c19
          try clear c20
          try clear c22
          try clear c25
          try clear c26
          try clear c27
          try clear c29
          try clear c33
          try clear c34
          try clear c36
          try clear c41
          try clear c41b0
          try clear c44
          try clear c45
          try clear c47
          try clear c50
          try clear c50b0
          try clear c50b1
          try clear p51
          try clear q51
          try clear hx51
          try clear c52
          try clear c53
          try clear c53b0
          try clear c54
          try clear c54b0
          try clear c55
          try clear c56
          try clear c59
          try clear c60
          try clear c63
          try clear p64
          try clear c65
          try clear c66
          try clear c66b0
          try clear c67
          try clear c67b0
          try clear c68
          try clear c68b0
          try clear c68b1
          try clear c70
          try clear hcz13_0
          try clear hcz13_1
          try clear hcz13_2
          try clear hcz15_0
          try clear hcz15_1
          try clear hcz17_0
          try clear hcz17_1
          try clear hcz17_2
          try clear hcz21_0
          try clear hcz21_1
          try clear hcz21_2
          try clear hcz23_0
          try clear hcz23_1
          try clear hcz28_0
          try clear hcz28_1
          try clear hcz30_0
          try clear hcz30_1
          try clear hcz35_0
          try clear hcz35_1
          try clear hcz37_0
          try clear hcz37_1
          try clear hcz37_2
          try clear hcz39_0
          try clear hcz39_1
          try clear hcz39_2
          try clear hcz46_0
          try clear hcz46_1
          try clear hcz46_2
          try clear hcz48_0
          try clear hcz48_1
          try clear hcz57_0
          try clear hcz57_1
          try clear hcz57_2
          try clear hcz61_0
          try clear hcz61_1
          try clear hcz61_2
          try clear hfz13_0
          try clear hfz13_1
          try clear hfz13_2
          try clear hfz15_0
          try clear hfz15_1
          try clear hfz17_0
          try clear hfz17_1
          try clear hfz17_2
          try clear hfz21_0
          try clear hfz21_1
          try clear hfz21_2
          try clear hfz23_0
          try clear hfz23_1
          try clear hfz28_0
          try clear hfz28_1
          try clear hfz30_0
          try clear hfz30_1
          try clear hfz35_0
          try clear hfz35_1
          try clear hfz37_0
          try clear hfz37_1
          try clear hfz37_2
          try clear hfz39_0
          try clear hfz39_1
          try clear hfz39_2
          try clear hfz46_0
          try clear hfz46_1
          try clear hfz46_2
          try clear hfz48_0
          try clear hfz48_1
          try clear hfz57_0
          try clear hfz57_1
          try clear hfz57_2
          try clear hfz61_0
          try clear hfz61_1
          try clear hfz61_2
          try clear hx510_0
          try clear hx511_0
          try clear p2
          try clear p5
          try clear p51
          try clear p510
          try clear p511
          try clear p6
          try clear p64
          try clear q5
          try clear q51
          try clear q510
          try clear q511
          obtain ⟨kq, x14_68, rfl, HA, HJ68, BK501, BK502, BK503, HB⟩ := hcut
          cases kq with
          | zero => exact absurd HA.out (by simp [spec_TremauxStep.j4])
          | succ kj68 =>
           have H := HA.out
           clear HA
           simp only [spec_TremauxStep.j4] at H
           obtain ⟨y512, hy512⟩ : ∃ y_ : List Int, y_ = (([1, 0, 3] : List Int)) := ⟨_, rfl⟩
           replace H : (spec_TremauxStep.l1 kj68 l1 x14_68 y512 0 a0_0 a0_1 a0_2 a2_0 a2_1) = some (r1, r2, r3) := by first | (rw [hy512]; with_reducible exact H) | (have H2_ := (Option.bind_some _ _).symm.trans H; rw [hy512]; with_reducible exact H2_) | (have H2_ := (Option.bind_some _ _).symm.trans H; with_reducible exact H2_) | with_reducible exact H | (rw [hy512]; exact H) | exact H
           have Ny512 := Aside0.mk hy512
           clear hy512
           have H' := Aside0.mk H
           clear H
           go_wp2_with (first | ((with_reducible refine gate_dst (N := 83) rfl ?_); refine Kd.R_lit (Kd.int .i64) _ 3 ?hg (N := 83) ?hd (xs := ([1, 0, 3] : List Int)) (inner := [.int .i64 1, .int .i64 0, .int .i64 3]) (ok := fun _ => True) (okp := fun _ => True) ?hr ?hp (fun _ hk => hk) trivial (Below.refl _ _) (Nat.le_refl _) (by simp) ?_; (case hd => rfl); (case hg => rfl); (case hr => first | (go_simp; done) | (go_simp; rfl)); (case hp => exact (Reps.one (show Kd.M (Kd.int .i64) _ _ _ 1 [.int .i64 1] from rfl) (Reps.one (show Kd.M (Kd.int .i64) _ _ _ 0 [.int .i64 0] from rfl) (Reps.one (show Kd.M (Kd.int .i64) _ _ _ 3 [.int .i64 3] from rfl) (Reps.none _ _))))); intro v513 w71 ho72 hb hg_ hnew_; clear hg_ hnew_; (first | rw [← Ny512.out] at ho72 | (simp only [Int.reduceToNat] at ho72; rw [← Ny512.out] at ho72)); have HO514 := Aside0.mk (Kd.R_lower ho72 (below_size (hb3_ HB.out GE501.out GE502.out GE503.out))); replace BK501 := Aside0.mk (bb_ BK501.out hb); replace BK502 := Aside0.mk (bb_ BK502.out hb); replace BK503 := Aside0.mk (bb_ BK503.out hb); replace HB := Aside0.mk (below_step (hb3_ HB.out GE501.out GE502.out GE503.out) hb); clear hb ho72))
           repeat (go_quiet (first | ((with_reducible refine gate_dst (N := 83) rfl ?_); refine Kd.R_lit (Kd.int .i64) _ 3 ?hg (N := 83) ?hd (xs := ([1, 0, 3] : List Int)) (inner := [.int .i64 1, .int .i64 0, .int .i64 3]) (ok := fun _ => True) (okp := fun _ => True) ?hr ?hp (fun _ hk => hk) trivial (Below.refl _ _) (Nat.le_refl _) (by simp) ?_; (case hd => rfl); (case hg => rfl); (case hr => first | (go_simp; done) | (go_simp; rfl)); (case hp => exact (Reps.one (show Kd.M (Kd.int .i64) _ _ _ 1 [.int .i64 1] from rfl) (Reps.one (show Kd.M (Kd.int .i64) _ _ _ 0 [.int .i64 0] from rfl) (Reps.one (show Kd.M (Kd.int .i64) _ _ _ 3 [.int .i64 3] from rfl) (Reps.none _ _))))); intro v513 w71 ho72 hb hg_ hnew_; clear hg_ hnew_; (first | rw [← Ny512.out] at ho72 | (simp only [Int.reduceToNat] at ho72; rw [← Ny512.out] at ho72)); have HO514 := Aside0.mk (Kd.R_lower ho72 (below_size (hb3_ HB.out GE501.out GE502.out GE503.out))); replace BK501 := Aside0.mk (bb_ BK501.out hb); replace BK502 := Aside0.mk (bb_ BK502.out hb); replace BK503 := Aside0.mk (bb_ BK503.out hb); replace HB := Aside0.mk (below_step (hb3_ HB.out GE501.out GE502.out GE503.out) hb); clear hb ho72)); try go_wp2_with (first | ((with_reducible refine gate_dst (N := 83) rfl ?_); refine Kd.R_lit (Kd.int .i64) _ 3 ?hg (N := 83) ?hd (xs := ([1, 0, 3] : List Int)) (inner := [.int .i64 1, .int .i64 0, .int .i64 3]) (ok := fun _ => True) (okp := fun _ => True) ?hr ?hp (fun _ hk => hk) trivial (Below.refl _ _) (Nat.le_refl _) (by simp) ?_; (case hd => rfl); (case hg => rfl); (case hr => first | (go_simp; done) | (go_simp; rfl)); (case hp => exact (Reps.one (show Kd.M (Kd.int .i64) _ _ _ 1 [.int .i64 1] from rfl) (Reps.one (show Kd.M (Kd.int .i64) _ _ _ 0 [.int .i64 0] from rfl) (Reps.one (show Kd.M (Kd.int .i64) _ _ _ 3 [.int .i64 3] from rfl) (Reps.none _ _))))); intro v513 w71 ho72 hb hg_ hnew_; clear hg_ hnew_; (first | rw [← Ny512.out] at ho72 | (simp only [Int.reduceToNat] at ho72; rw [← Ny512.out] at ho72)); have HO514 := Aside0.mk (Kd.R_lower ho72 (below_size (hb3_ HB.out GE501.out GE502.out GE503.out))); replace BK501 := Aside0.mk (bb_ BK501.out hb); replace BK502 := Aside0.mk (bb_ BK502.out hb); replace BK503 := Aside0.mk (bb_ BK503.out hb); replace HB := Aside0.mk (below_step (hb3_ HB.out GE501.out GE502.out GE503.out) hb); clear hb ho72)))
           go_loopg [14, 16] kj68 (fun kq v14 v16 w' => ∃ (x14_5 : Int) (x16_5 : Int), v14 = .int .i64 x14_5 ∧ v16 = .int .i64 x16_5 ∧ Aside0 (spec_TremauxStep.l1 kq l1 x14_5 y512 x16_5 a0_0 a0_1 a0_2 a2_0 a2_1 = some (r1, r2, r3)) ∧ Aside0 (kq ≤ kj68) ∧ Aside0 (Kd.R (Kd.int .i64) 3 w' w.heap.size (fun _ => True) v513 y512) ∧ Aside0 (w'.heap[gb501]? = some (.cells #[.int .i64 a0_0, .int .i64 a0_1, .int .i64 a0_2] 33 (0, 0))) ∧ Aside0 (w'.heap[gb502]? = some (.cells #[.int .i64 a2_0, .int .i64 a2_1] 65 (0, 0))) ∧ Aside0 (w'.heap[gb503]? = some (.cells #[.int .i64 0, .int .i64 0] 65 (0, 0))) ∧ Aside0 (Below w.heap.size w w'))
           case atStart => exact ⟨(x14_68), (0), (by first | rfl | (simp; done) | (simp [*]; done)), (by first | rfl | (simp; done) | (simp [*]; done)), H', ⟨Nat.le_refl _⟩, ⟨kr_ HO514.out⟩, ⟨bk_ BK501.out⟩, ⟨bk_ BK502.out⟩, ⟨bk_ BK503.out⟩, ⟨hb3_ HB.out GE501.out GE502.out GE503.out⟩⟩
           case round =>
            clear H'
            try clear c1
            try clear c2
            try clear p2
            try clear c3
            try clear c4
            try clear c5
            try clear p5
            try clear q5
            try clear hx5
            try clear c6
            try clear p6
            try clear c7
            try clear c9
            try clear c11
            try clear c12
            try clear c14
            try clear c19
            try clear c20
            try clear c22
            try clear c25
            try clear c26
            try clear c27
            try clear c29
            try clear c33
            try clear c34
            try clear c36
            try clear c41
            try clear c41b0
            try clear c44
            try clear c45
            try clear c47
            try clear c50
            try clear c50b0
            try clear c50b1
            try clear p51
            try clear q51
            try clear hx51
            try clear c52
            try clear c53
            try clear c53b0
            try clear c54
            try clear c54b0
            try clear c55
            try clear c56
            try clear c59
            try clear c60
            try clear c63
            try clear p64
            try clear c65
            try clear c66
            try clear c66b0
            try clear c67
            try clear c67b0
            try clear c68
            try clear c68b0
            try clear c68b1
            try clear c70
            try clear hcz13_0
            try clear hcz13_1
            try clear hcz13_2
            try clear hcz15_0
            try clear hcz15_1
            try clear hcz17_0
            try clear hcz17_1
            try clear hcz17_2
            try clear hcz21_0
            try clear hcz21_1
            try clear hcz21_2
            try clear hcz23_0
            try clear hcz23_1
            try clear hcz28_0
            try clear hcz28_1
            try clear hcz30_0
            try clear hcz30_1
            try clear hcz35_0
            try clear hcz35_1
            try clear hcz37_0
            try clear hcz37_1
            try clear hcz37_2
            try clear hcz39_0
            try clear hcz39_1
            try clear hcz39_2
            try clear hcz46_0
            try clear hcz46_1
            try clear hcz46_2
            try clear hcz48_0
            try clear hcz48_1
            try clear hcz57_0
            try clear hcz57_1
            try clear hcz57_2
            try clear hcz61_0
            try clear hcz61_1
            try clear hcz61_2
            try clear hfz13_0
            try clear hfz13_1
            try clear hfz13_2
            try clear hfz15_0
            try clear hfz15_1
            try clear hfz17_0
            try clear hfz17_1
            try clear hfz17_2
            try clear hfz21_0
            try clear hfz21_1
            try clear hfz21_2
            try clear hfz23_0
            try clear hfz23_1
            try clear hfz28_0
            try clear hfz28_1
            try clear hfz30_0
            try clear hfz30_1
            try clear hfz35_0
            try clear hfz35_1
            try clear hfz37_0
            try clear hfz37_1
            try clear hfz37_2
            try clear hfz39_0
            try clear hfz39_1
            try clear hfz39_2
            try clear hfz46_0
            try clear hfz46_1
            try clear hfz46_2
            try clear hfz48_0
            try clear hfz48_1
            try clear hfz57_0
            try clear hfz57_1
            try clear hfz57_2
            try clear hfz61_0
            try clear hfz61_1
            try clear hfz61_2
            try clear hx510_0
            try clear hx511_0
            try clear p2
            try clear p5
            try clear p51
            try clear p510
            try clear p511
            try clear p6
            try clear p64
            try clear q5
            try clear q51
            try clear q510
            try clear q511
            obtain ⟨x14_5, x16_5, rfl, rfl, HA, HK5, HO_15, BK501, BK502, BK503, HB⟩ := hrel
            cases gk with
            | zero => exact absurd HA.out (by simp [spec_TremauxStep.l1])
            | succ k5 =>
             have H := HA.out
             clear HA
             simp only [spec_TremauxStep.l1] at H
             have HC73 := Aside0.mk H
             clear H
             go_upto_region 18 with (fail)
             repeat (go_quiet (fail); go_upto_region 18 with (fail))
             go_cut [89] (fun v89 wc => ∃ (kq : Nat) (x89_72 : Bool), v89 = .bool x89_72 ∧ Aside0 (spec_TremauxStep.j6 kq l1 x14_5 y512 x16_5 x89_72 a0_0 a0_1 a0_2 a2_0 a2_1 = some (r1, r2, r3)) ∧ Aside0 (kq ≤ k5) ∧ Aside0 (Kd.R (Kd.int .i64) 3 wc w.heap.size (fun _ => True) v513 y512) ∧ Aside0 (wc.heap[gb501]? = some (.cells #[.int .i64 a0_0, .int .i64 a0_1, .int .i64 a0_2] 33 (0, 0))) ∧ Aside0 (wc.heap[gb502]? = some (.cells #[.int .i64 a2_0, .int .i64 a2_1] 65 (0, 0))) ∧ Aside0 (wc.heap[gb503]? = some (.cells #[.int .i64 0, .int .i64 0] 65 (0, 0))) ∧ Aside0 (Below w.heap.size w wc))
             case first =>
              have H := HC73.out
              clear HC73
              by_cases c74 : x16_5 < 3
              ·rw [if_pos c74] at H
               have c74b0 : decide (x16_5 < 3) = true := decide_eq_true c74
               clear c74
               (first | rw [c74b0] | (simp only [i64_w, i32_w]; rw [c74b0]) | skip)
               have H' := Aside0.mk H
               clear H
               go_wp2
               repeat (go_quiet (fail); try go_wp2)
               go_meet
               case rel => exact ⟨_, (decide (x14_5 < 0)), (by first | rfl | (simp; done) | (simp [*]; done)), H', ⟨by have := HJ3.out; have := HK2.out; have := HJ63.out; have := HJ68.out; have := HK5.out; first | omega | exact Nat.le_refl _⟩, ⟨kr_ HO_15.out⟩, ⟨bk_ BK501.out⟩, ⟨bk_ BK502.out⟩, ⟨bk_ BK503.out⟩, ⟨hb3_ HB.out GE501.out GE502.out GE503.out⟩⟩
              ·rw [if_neg c74] at H
               have c74b0 : decide (x16_5 < 3) = false := decide_eq_false c74
               clear c74
               (first | rw [c74b0] | (simp only [i64_w, i32_w]; rw [c74b0]) | skip)
               have H' := Aside0.mk H
               clear H
               go_wp2
               repeat (go_quiet (fail); try go_wp2)
               go_meet
               case rel => exact ⟨_, (false), (by first | rfl | (simp; done) | (simp [*]; done)), H', ⟨by have := HJ3.out; have := HK2.out; have := HJ63.out; have := HJ68.out; have := HK5.out; first | omega | exact Nat.le_refl _⟩, ⟨kr_ HO_15.out⟩, ⟨bk_ BK501.out⟩, ⟨bk_ BK502.out⟩, ⟨bk_ BK503.out⟩, ⟨hb3_ HB.out GE501.out GE502.out GE503.out⟩⟩
             case rest =>
              clear HC73
              try clear c1
              try clear c2
              try clear p2
              try clear c3
              try clear c4
              try clear c5
              try clear p5
              try clear q5
              try clear hx5
              try clear c6
              try clear p6
              try clear c7
              try clear c9
              try clear c11
              try clear c12
              try clear c14
              try clear c19
              try clear c20
              try clear c22
              try clear c25
              try clear c26
              try clear c27
              try clear c29
              try clear c33
              try clear c34
              try clear c36
              try clear c41
              try clear c41b0
              try clear c44
              try clear c45
              try clear c47
              try clear c50
              try clear c50b0
              try clear c50b1
              try clear p51
              try clear q51
              try clear hx51
              try clear c52
              try clear c53
              try clear c53b0
              try clear c54
              try clear c54b0
              try clear c55
              try clear c56
              try clear c59
              try clear c60
              try clear c63
              try clear p64
              try clear c65
              try clear c66
              try clear c66b0
              try clear c67
              try clear c67b0
              try clear c68
              try clear c68b0
              try clear c68b1
              try clear c70
              try clear c74
              try clear c74b0
              try clear hcz13_0
              try clear hcz13_1
              try clear hcz13_2
              try clear hcz15_0
              try clear hcz15_1
              try clear hcz17_0
              try clear hcz17_1
              try clear hcz17_2
              try clear hcz21_0
              try clear hcz21_1
              try clear hcz21_2
              try clear hcz23_0
              try clear hcz23_1
              try clear hcz28_0
              try clear hcz28_1
              try clear hcz30_0
              try clear hcz30_1
              try clear hcz35_0
              try clear hcz35_1
              try clear hcz37_0
              try clear hcz37_1
              try clear hcz37_2
              try clear hcz39_0
              try clear hcz39_1
              try clear hcz39_2
              try clear hcz46_0
              try clear hcz46_1
              try clear hcz46_2
              try clear hcz48_0
              try clear hcz48_1
              try clear hcz57_0
              try clear hcz57_1
              try clear hcz57_2
              try clear hcz61_0
              try clear hcz61_1
              try clear hcz61_2
              try clear hfz13_0
              try clear hfz13_1
              try clear hfz13_2
              try clear hfz15_0
              try clear hfz15_1
              try clear hfz17_0
              try clear hfz17_1
              try clear hfz17_2
              try clear hfz21_0
              try clear hfz21_1
              try clear hfz21_2
              try clear hfz23_0
              try clear hfz23_1
              try clear hfz28_0
              try clear hfz28_1
              try clear hfz30_0
              try clear hfz30_1
              try clear hfz35_0
              try clear hfz35_1
              try clear hfz37_0
              try clear hfz37_1
              try clear hfz37_2
              try clear hfz39_0
              try clear hfz39_1
              try clear hfz39_2
              try clear hfz46_0
              try clear hfz46_1
              try clear hfz46_2
              try clear hfz48_0
              try clear hfz48_1
              try clear hfz57_0
              try clear hfz57_1
              try clear hfz57_2
              try clear hfz61_0
              try clear hfz61_1
              try clear hfz61_2
              try clear hx510_0
              try clear hx511_0
              try clear p2
              try clear p5
              try clear p51
              try clear p510
              try clear p511
              try clear p6
              try clear p64
              try clear q5
              try clear q51
              try clear q510
              try clear q511
              obtain ⟨kq, x89_72, rfl, HA, HJ72, HO_15, BK501, BK502, BK503, HB⟩ := hcut
              cases kq with
              | zero => exact absurd HA.out (by simp [spec_TremauxStep.j6])
              | succ kj72 =>
               have H := HA.out
               clear HA
               simp only [spec_TremauxStep.j6] at H
               by_cases c75 : x89_72 = true
               ·subst c75
                have H1 : (if 0 ≤ x16_5 then (if x16_5 < (y512.length : Int) then ((spec_GapAt.f kj72 a0_0 a0_1 a2_0 (Int.tmod (wrap64 (a2_1 + (rd y512 x16_5))) 4)).bind fun t516 => ((spec_IsPassage.f a0_0 a0_1 a0_2 t516).bind fun t517 => (if t517 = true then (if 0 ≤ t516 then (if t516 < (l1.length : Int) then (if (rd l1 t516) = 0 then (spec_TremauxStep.l1 kj72 l1 (Int.tmod (wrap64 (a2_1 + (rd y512 x16_5))) 4) y512 (wrap64 (x16_5 + 1)) a0_0 a0_1 a0_2 a2_0 a2_1) else (spec_TremauxStep.l1 kj72 l1 x14_5 y512 (wrap64 (x16_5 + 1)) a0_0 a0_1 a0_2 a2_0 a2_1)) else (none)) else (none)) else (spec_TremauxStep.l1 kj72 l1 x14_5 y512 (wrap64 (x16_5 + 1)) a0_0 a0_1 a0_2 a2_0 a2_1)))) else (none)) else (none)) = some (r1, r2, r3) := by rw [if_pos rfl] at H; exact H
                clear H
                have H := H1
                clear H1
                by_cases c76 : 0 ≤ x16_5
                ·rw [if_pos c76] at H
                 have c76b0 : decide (0 ≤ x16_5) = true := decide_eq_true c76
                 clear c76
                 by_cases c77 : x16_5 < (y512.length : Int)
                 ·rw [if_pos c77] at H
                  have c77b0 : decide (x16_5 < (y512.length : Int)) = true := decide_eq_true c77
                  clear c77
                  replace H := Option.bind_eq_some_iff.mp H
                  obtain ⟨t516, A780, H⟩ := H
                  replace H : ((spec_IsPassage.f a0_0 a0_1 a0_2 t516).bind fun t517 => (if t517 = true then (if 0 ≤ t516 then (if t516 < (l1.length : Int) then (if (rd l1 t516) = 0 then (spec_TremauxStep.l1 kj72 l1 (Int.tmod (wrap64 (a2_1 + (rd y512 x16_5))) 4) y512 (wrap64 (x16_5 + 1)) a0_0 a0_1 a0_2 a2_0 a2_1) else (spec_TremauxStep.l1 kj72 l1 x14_5 y512 (wrap64 (x16_5 + 1)) a0_0 a0_1 a0_2 a2_0 a2_1)) else (none)) else (none)) else (spec_TremauxStep.l1 kj72 l1 x14_5 y512 (wrap64 (x16_5 + 1)) a0_0 a0_1 a0_2 a2_0 a2_1))) = some (r1, r2, r3) := H
                  have A78 := Aside0.mk A780
                  clear A780
                  replace H := Option.bind_eq_some_iff.mp H
                  obtain ⟨t517, A790, H⟩ := H
                  replace H : (if t517 = true then (if 0 ≤ t516 then (if t516 < (l1.length : Int) then (if (rd l1 t516) = 0 then (spec_TremauxStep.l1 kj72 l1 (Int.tmod (wrap64 (a2_1 + (rd y512 x16_5))) 4) y512 (wrap64 (x16_5 + 1)) a0_0 a0_1 a0_2 a2_0 a2_1) else (spec_TremauxStep.l1 kj72 l1 x14_5 y512 (wrap64 (x16_5 + 1)) a0_0 a0_1 a0_2 a2_0 a2_1)) else (none)) else (none)) else (spec_TremauxStep.l1 kj72 l1 x14_5 y512 (wrap64 (x16_5 + 1)) a0_0 a0_1 a0_2 a2_0 a2_1)) = some (r1, r2, r3) := H
                  have A79 := Aside0.mk A790
                  clear A790
                  by_cases c80 : t517 = true
                  ·subst c80
                   have H1 : (if 0 ≤ t516 then (if t516 < (l1.length : Int) then (if (rd l1 t516) = 0 then (spec_TremauxStep.l1 kj72 l1 (Int.tmod (wrap64 (a2_1 + (rd y512 x16_5))) 4) y512 (wrap64 (x16_5 + 1)) a0_0 a0_1 a0_2 a2_0 a2_1) else (spec_TremauxStep.l1 kj72 l1 x14_5 y512 (wrap64 (x16_5 + 1)) a0_0 a0_1 a0_2 a2_0 a2_1)) else (none)) else (none)) = some (r1, r2, r3) := by rw [if_pos rfl] at H; exact H
                   clear H
                   have H := H1
                   clear H1
                   by_cases c81 : 0 ≤ t516
                   ·rw [if_pos c81] at H
                    have c81b0 : decide (0 ≤ t516) = true := decide_eq_true c81
                    clear c81
                    by_cases c82 : t516 < (l1.length : Int)
                    ·rw [if_pos c82] at H
                     have c82b0 : decide (t516 < (l1.length : Int)) = true := decide_eq_true c82
                     clear c82
                     by_cases c83 : (rd l1 t516) = 0
                     ·rw [if_pos c83] at H
                      have c83b0 : ((rd l1 t516) == 0) = true := beq_iff_eq.mpr c83
                      have c83b1 : ((rd l1 t516) != 0) = false := bne_eq_false_iff_eq.mpr c83
                      clear c83
                      have H' := Aside0.mk H
                      clear H
                      have hnb84 := NB502_501.out
                      have hnc84 := NB501_502.out
                      have hnb85 := NB502_503.out
                      have hnc85 := NB503_502.out
                      obtain ⟨hcz86_0, hcz86_1⟩ := cz2_ BK502.out
                      obtain ⟨hfz86_0, hfz86_1⟩ := fz2_ BK502.out
                      obtain ⟨Ao87, co87, eo87⟩ := Kd.R_slice HO_15.out
                      subst eo87
                      have p515 : 0 ≤ (x16_5 : Int) := of_decide_eq_true (as_)
                      have q515 : x16_5 < (y512.length : Int) := of_decide_eq_true (as_)
                      obtain ⟨ad515, e515, hx515_0⟩ := Kd.at_int (Kd.R_reads' HO_15.out).2.2 x16_5 p515 q515
                      cases e515
                      replace p515 := eq_true p515
                      replace q515 := eq_true q515
                      have hnb88 := NB501_503.out
                      have hnc88 := NB503_501.out
                      obtain ⟨hcz89_0, hcz89_1, hcz89_2⟩ := cz3_ BK501.out
                      obtain ⟨hfz89_0, hfz89_1, hfz89_2⟩ := fz3_ BK501.out
                      go_wp2_with (first | (go_at_call 88; (with_reducible refine (spec_GapAt.calls kj72 a0_0 a0_1 a2_0 (Int.tmod (wrap64 (a2_1 + (rd y512 x16_5))) 4) t516 _ A78.out).mono ?_); rintro e w90 ⟨rfl, hb⟩; replace HO_15 := Aside0.mk (Kd.R_below (kr_ HO_15.out) hb); replace BK501 := Aside0.mk (bb_ BK501.out hb); replace BK502 := Aside0.mk (bb_ BK502.out hb); replace BK503 := Aside0.mk (bb_ BK503.out hb); replace HB := Aside0.mk (below_step (hb3_ HB.out GE501.out GE502.out GE503.out) hb); (try clear hb); (try clear hb2); (try clear hk); (try clear hi); obtain ⟨hcz91_0, hcz91_1, hcz91_2⟩ := cz3_ BK501.out; obtain ⟨hfz91_0, hfz91_1, hfz91_2⟩ := fz3_ BK501.out) | (go_at_call 89; (with_reducible refine (spec_IsPassage.calls a0_0 a0_1 a0_2 t516 true _ A79.out).mono ?_); rintro e w92 ⟨rfl, hb⟩; replace HO_15 := Aside0.mk (Kd.R_below (kr_ HO_15.out) hb); replace BK501 := Aside0.mk (bb_ BK501.out hb); replace BK502 := Aside0.mk (bb_ BK502.out hb); replace BK503 := Aside0.mk (bb_ BK503.out hb); replace HB := Aside0.mk (below_step (hb3_ HB.out GE501.out GE502.out GE503.out) hb); (try clear hb); (try clear hb2); (try clear hk); (try clear hi); have p518 : 0 ≤ (t516 : Int) := of_decide_eq_true (as_); have q518 : t516 < (l1.length : Int) := of_decide_eq_true (as_); obtain ⟨ad518, e518, hx518_0⟩ := Kd.at_int HR1.out t516 p518 q518; cases e518; replace hx518_0 := (HB.out.cell (World.block_lt_of_cell? w _ hx518_0)).trans hx518_0; replace p518 := eq_true p518; replace q518 := eq_true q518))
                      repeat (go_quiet (first | (go_at_call 88; (with_reducible refine (spec_GapAt.calls kj72 a0_0 a0_1 a2_0 (Int.tmod (wrap64 (a2_1 + (rd y512 x16_5))) 4) t516 _ A78.out).mono ?_); rintro e w90 ⟨rfl, hb⟩; replace HO_15 := Aside0.mk (Kd.R_below (kr_ HO_15.out) hb); replace BK501 := Aside0.mk (bb_ BK501.out hb); replace BK502 := Aside0.mk (bb_ BK502.out hb); replace BK503 := Aside0.mk (bb_ BK503.out hb); replace HB := Aside0.mk (below_step (hb3_ HB.out GE501.out GE502.out GE503.out) hb); (try clear hb); (try clear hb2); (try clear hk); (try clear hi); obtain ⟨hcz91_0, hcz91_1, hcz91_2⟩ := cz3_ BK501.out; obtain ⟨hfz91_0, hfz91_1, hfz91_2⟩ := fz3_ BK501.out) | (go_at_call 89; (with_reducible refine (spec_IsPassage.calls a0_0 a0_1 a0_2 t516 true _ A79.out).mono ?_); rintro e w92 ⟨rfl, hb⟩; replace HO_15 := Aside0.mk (Kd.R_below (kr_ HO_15.out) hb); replace BK501 := Aside0.mk (bb_ BK501.out hb); replace BK502 := Aside0.mk (bb_ BK502.out hb); replace BK503 := Aside0.mk (bb_ BK503.out hb); replace HB := Aside0.mk (below_step (hb3_ HB.out GE501.out GE502.out GE503.out) hb); (try clear hb); (try clear hb2); (try clear hk); (try clear hi); have p518 : 0 ≤ (t516 : Int) := of_decide_eq_true (as_); have q518 : t516 < (l1.length : Int) := of_decide_eq_true (as_); obtain ⟨ad518, e518, hx518_0⟩ := Kd.at_int HR1.out t516 p518 q518; cases e518; replace hx518_0 := (HB.out.cell (World.block_lt_of_cell? w _ hx518_0)).trans hx518_0; replace p518 := eq_true p518; replace q518 := eq_true q518)); try go_wp2_with (first | (go_at_call 88; (with_reducible refine (spec_GapAt.calls kj72 a0_0 a0_1 a2_0 (Int.tmod (wrap64 (a2_1 + (rd y512 x16_5))) 4) t516 _ A78.out).mono ?_); rintro e w90 ⟨rfl, hb⟩; replace HO_15 := Aside0.mk (Kd.R_below (kr_ HO_15.out) hb); replace BK501 := Aside0.mk (bb_ BK501.out hb); replace BK502 := Aside0.mk (bb_ BK502.out hb); replace BK503 := Aside0.mk (bb_ BK503.out hb); replace HB := Aside0.mk (below_step (hb3_ HB.out GE501.out GE502.out GE503.out) hb); (try clear hb); (try clear hb2); (try clear hk); (try clear hi); obtain ⟨hcz91_0, hcz91_1, hcz91_2⟩ := cz3_ BK501.out; obtain ⟨hfz91_0, hfz91_1, hfz91_2⟩ := fz3_ BK501.out) | (go_at_call 89; (with_reducible refine (spec_IsPassage.calls a0_0 a0_1 a0_2 t516 true _ A79.out).mono ?_); rintro e w92 ⟨rfl, hb⟩; replace HO_15 := Aside0.mk (Kd.R_below (kr_ HO_15.out) hb); replace BK501 := Aside0.mk (bb_ BK501.out hb); replace BK502 := Aside0.mk (bb_ BK502.out hb); replace BK503 := Aside0.mk (bb_ BK503.out hb); replace HB := Aside0.mk (below_step (hb3_ HB.out GE501.out GE502.out GE503.out) hb); (try clear hb); (try clear hb2); (try clear hk); (try clear hi); have p518 : 0 ≤ (t516 : Int) := of_decide_eq_true (as_); have q518 : t516 < (l1.length : Int) := of_decide_eq_true (as_); obtain ⟨ad518, e518, hx518_0⟩ := Kd.at_int HR1.out t516 p518 q518; cases e518; replace hx518_0 := (HB.out.cell (World.block_lt_of_cell? w _ hx518_0)).trans hx518_0; replace p518 := eq_true p518; replace q518 := eq_true q518)))
                      go_roundg kj72
                      case measure => have := HJ3.out; have := HK2.out; have := HJ63.out; have := HJ68.out; have := HK5.out; have := HJ72.out; omega
                      case rel => exact ⟨(Int.tmod (wrap64 (a2_1 + (rd y512 x16_5))) 4), (wrap64 (x16_5 + 1)), (by first | rfl | (simp; done) | (simp [*]; done)), (by first | rfl | (simp; done) | (simp [*]; done)), H', ⟨by have := HJ3.out; have := HK2.out; have := HJ63.out; have := HJ68.out; have := HK5.out; have := HJ72.out; omega⟩, ⟨kr_ HO_15.out⟩, ⟨bk_ BK501.out⟩, ⟨bk_ BK502.out⟩, ⟨bk_ BK503.out⟩, ⟨hb3_ HB.out GE501.out GE502.out GE503.out⟩⟩
                     ·rw [if_neg c83] at H
                      have c83b0 : ((rd l1 t516) == 0) = false := beq_eq_false_iff_ne.mpr c83
                      have c83b1 : ((rd l1 t516) != 0) = true := bne_iff_ne.mpr c83
                      have H' := Aside0.mk H
                      clear H
                      have hnb93 := NB502_501.out
                      have hnc93 := NB501_502.out
                      have hnb94 := NB502_503.out
                      have hnc94 := NB503_502.out
                      obtain ⟨hcz95_0, hcz95_1⟩ := cz2_ BK502.out
                      obtain ⟨hfz95_0, hfz95_1⟩ := fz2_ BK502.out
                      obtain ⟨Ao96, co96, eo96⟩ := Kd.R_slice HO_15.out
                      subst eo96
                      have p515 : 0 ≤ (x16_5 : Int) := of_decide_eq_true (as_)
                      have q515 : x16_5 < (y512.length : Int) := of_decide_eq_true (as_)
                      obtain ⟨ad515, e515, hx515_0⟩ := Kd.at_int (Kd.R_reads' HO_15.out).2.2 x16_5 p515 q515
                      cases e515
                      replace p515 := eq_true p515
                      replace q515 := eq_true q515
                      have hnb97 := NB501_503.out
                      have hnc97 := NB503_501.out
                      obtain ⟨hcz98_0, hcz98_1, hcz98_2⟩ := cz3_ BK501.out
                      obtain ⟨hfz98_0, hfz98_1, hfz98_2⟩ := fz3_ BK501.out
                      go_wp2_with (first | (go_at_call 88; (with_reducible refine (spec_GapAt.calls kj72 a0_0 a0_1 a2_0 (Int.tmod (wrap64 (a2_1 + (rd y512 x16_5))) 4) t516 _ A78.out).mono ?_); rintro e w99 ⟨rfl, hb⟩; replace HO_15 := Aside0.mk (Kd.R_below (kr_ HO_15.out) hb); replace BK501 := Aside0.mk (bb_ BK501.out hb); replace BK502 := Aside0.mk (bb_ BK502.out hb); replace BK503 := Aside0.mk (bb_ BK503.out hb); replace HB := Aside0.mk (below_step (hb3_ HB.out GE501.out GE502.out GE503.out) hb); (try clear hb); (try clear hb2); (try clear hk); (try clear hi); obtain ⟨hcz100_0, hcz100_1, hcz100_2⟩ := cz3_ BK501.out; obtain ⟨hfz100_0, hfz100_1, hfz100_2⟩ := fz3_ BK501.out) | (go_at_call 89; (with_reducible refine (spec_IsPassage.calls a0_0 a0_1 a0_2 t516 true _ A79.out).mono ?_); rintro e w101 ⟨rfl, hb⟩; replace HO_15 := Aside0.mk (Kd.R_below (kr_ HO_15.out) hb); replace BK501 := Aside0.mk (bb_ BK501.out hb); replace BK502 := Aside0.mk (bb_ BK502.out hb); replace BK503 := Aside0.mk (bb_ BK503.out hb); replace HB := Aside0.mk (below_step (hb3_ HB.out GE501.out GE502.out GE503.out) hb); (try clear hb); (try clear hb2); (try clear hk); (try clear hi); have p518 : 0 ≤ (t516 : Int) := of_decide_eq_true (as_); have q518 : t516 < (l1.length : Int) := of_decide_eq_true (as_); obtain ⟨ad518, e518, hx518_0⟩ := Kd.at_int HR1.out t516 p518 q518; cases e518; replace hx518_0 := (HB.out.cell (World.block_lt_of_cell? w _ hx518_0)).trans hx518_0; replace p518 := eq_true p518; replace q518 := eq_true q518))
                      repeat (go_quiet (first | (go_at_call 88; (with_reducible refine (spec_GapAt.calls kj72 a0_0 a0_1 a2_0 (Int.tmod (wrap64 (a2_1 + (rd y512 x16_5))) 4) t516 _ A78.out).mono ?_); rintro e w99 ⟨rfl, hb⟩; replace HO_15 := Aside0.mk (Kd.R_below (kr_ HO_15.out) hb); replace BK501 := Aside0.mk (bb_ BK501.out hb); replace BK502 := Aside0.mk (bb_ BK502.out hb); replace BK503 := Aside0.mk (bb_ BK503.out hb); replace HB := Aside0.mk (below_step (hb3_ HB.out GE501.out GE502.out GE503.out) hb); (try clear hb); (try clear hb2); (try clear hk); (try clear hi); obtain ⟨hcz100_0, hcz100_1, hcz100_2⟩ := cz3_ BK501.out; obtain ⟨hfz100_0, hfz100_1, hfz100_2⟩ := fz3_ BK501.out) | (go_at_call 89; (with_reducible refine (spec_IsPassage.calls a0_0 a0_1 a0_2 t516 true _ A79.out).mono ?_); rintro e w101 ⟨rfl, hb⟩; replace HO_15 := Aside0.mk (Kd.R_below (kr_ HO_15.out) hb); replace BK501 := Aside0.mk (bb_ BK501.out hb); replace BK502 := Aside0.mk (bb_ BK502.out hb); replace BK503 := Aside0.mk (bb_ BK503.out hb); replace HB := Aside0.mk (below_step (hb3_ HB.out GE501.out GE502.out GE503.out) hb); (try clear hb); (try clear hb2); (try clear hk); (try clear hi); have p518 : 0 ≤ (t516 : Int) := of_decide_eq_true (as_); have q518 : t516 < (l1.length : Int) := of_decide_eq_true (as_); obtain ⟨ad518, e518, hx518_0⟩ := Kd.at_int HR1.out t516 p518 q518; cases e518; replace hx518_0 := (HB.out.cell (World.block_lt_of_cell? w _ hx518_0)).trans hx518_0; replace p518 := eq_true p518; replace q518 := eq_true q518)); try go_wp2_with (first | (go_at_call 88; (with_reducible refine (spec_GapAt.calls kj72 a0_0 a0_1 a2_0 (Int.tmod (wrap64 (a2_1 + (rd y512 x16_5))) 4) t516 _ A78.out).mono ?_); rintro e w99 ⟨rfl, hb⟩; replace HO_15 := Aside0.mk (Kd.R_below (kr_ HO_15.out) hb); replace BK501 := Aside0.mk (bb_ BK501.out hb); replace BK502 := Aside0.mk (bb_ BK502.out hb); replace BK503 := Aside0.mk (bb_ BK503.out hb); replace HB := Aside0.mk (below_step (hb3_ HB.out GE501.out GE502.out GE503.out) hb); (try clear hb); (try clear hb2); (try clear hk); (try clear hi); obtain ⟨hcz100_0, hcz100_1, hcz100_2⟩ := cz3_ BK501.out; obtain ⟨hfz100_0, hfz100_1, hfz100_2⟩ := fz3_ BK501.out) | (go_at_call 89; (with_reducible refine (spec_IsPassage.calls a0_0 a0_1 a0_2 t516 true _ A79.out).mono ?_); rintro e w101 ⟨rfl, hb⟩; replace HO_15 := Aside0.mk (Kd.R_below (kr_ HO_15.out) hb); replace BK501 := Aside0.mk (bb_ BK501.out hb); replace BK502 := Aside0.mk (bb_ BK502.out hb); replace BK503 := Aside0.mk (bb_ BK503.out hb); replace HB := Aside0.mk (below_step (hb3_ HB.out GE501.out GE502.out GE503.out) hb); (try clear hb); (try clear hb2); (try clear hk); (try clear hi); have p518 : 0 ≤ (t516 : Int) := of_decide_eq_true (as_); have q518 : t516 < (l1.length : Int) := of_decide_eq_true (as_); obtain ⟨ad518, e518, hx518_0⟩ := Kd.at_int HR1.out t516 p518 q518; cases e518; replace hx518_0 := (HB.out.cell (World.block_lt_of_cell? w _ hx518_0)).trans hx518_0; replace p518 := eq_true p518; replace q518 := eq_true q518)))
                      go_roundg kj72
                      case measure => have := HJ3.out; have := HK2.out; have := HJ63.out; have := HJ68.out; have := HK5.out; have := HJ72.out; omega
                      case rel => exact ⟨(x14_5), (wrap64 (x16_5 + 1)), (by first | rfl | (simp; done) | (simp [*]; done)), (by first | rfl | (simp; done) | (simp [*]; done)), H', ⟨by have := HJ3.out; have := HK2.out; have := HJ63.out; have := HJ68.out; have := HK5.out; have := HJ72.out; omega⟩, ⟨kr_ HO_15.out⟩, ⟨bk_ BK501.out⟩, ⟨bk_ BK502.out⟩, ⟨bk_ BK503.out⟩, ⟨hb3_ HB.out GE501.out GE502.out GE503.out⟩⟩
                    ·rw [if_neg c82] at H
                     exact absurd H (by simp)
                   ·rw [if_neg c81] at H
                    exact absurd H (by simp)
                  ·replace c80 := Bool.eq_false_iff.mpr c80
                   subst c80
                   have H1 : (spec_TremauxStep.l1 kj72 l1 x14_5 y512 (wrap64 (x16_5 + 1)) a0_0 a0_1 a0_2 a2_0 a2_1) = some (r1, r2, r3) := by rw [if_neg (show ¬ (false = true) by decide)] at H; exact H
                   clear H
                   have H := H1
                   clear H1
                   have H' := Aside0.mk H
                   clear H
                   have hnb102 := NB502_501.out
                   have hnc102 := NB501_502.out
                   have hnb103 := NB502_503.out
                   have hnc103 := NB503_502.out
                   obtain ⟨hcz104_0, hcz104_1⟩ := cz2_ BK502.out
                   obtain ⟨hfz104_0, hfz104_1⟩ := fz2_ BK502.out
                   obtain ⟨Ao105, co105, eo105⟩ := Kd.R_slice HO_15.out
                   subst eo105
                   have p515 : 0 ≤ (x16_5 : Int) := of_decide_eq_true (as_)
                   have q515 : x16_5 < (y512.length : Int) := of_decide_eq_true (as_)
                   obtain ⟨ad515, e515, hx515_0⟩ := Kd.at_int (Kd.R_reads' HO_15.out).2.2 x16_5 p515 q515
                   cases e515
                   replace p515 := eq_true p515
                   replace q515 := eq_true q515
                   have hnb106 := NB501_503.out
                   have hnc106 := NB503_501.out
                   obtain ⟨hcz107_0, hcz107_1, hcz107_2⟩ := cz3_ BK501.out
                   obtain ⟨hfz107_0, hfz107_1, hfz107_2⟩ := fz3_ BK501.out
                   go_wp2_with (first | (go_at_call 88; (with_reducible refine (spec_GapAt.calls kj72 a0_0 a0_1 a2_0 (Int.tmod (wrap64 (a2_1 + (rd y512 x16_5))) 4) t516 _ A78.out).mono ?_); rintro e w108 ⟨rfl, hb⟩; replace HO_15 := Aside0.mk (Kd.R_below (kr_ HO_15.out) hb); replace BK501 := Aside0.mk (bb_ BK501.out hb); replace BK502 := Aside0.mk (bb_ BK502.out hb); replace BK503 := Aside0.mk (bb_ BK503.out hb); replace HB := Aside0.mk (below_step (hb3_ HB.out GE501.out GE502.out GE503.out) hb); (try clear hb); (try clear hb2); (try clear hk); (try clear hi); obtain ⟨hcz109_0, hcz109_1, hcz109_2⟩ := cz3_ BK501.out; obtain ⟨hfz109_0, hfz109_1, hfz109_2⟩ := fz3_ BK501.out) | (go_at_call 89; (with_reducible refine (spec_IsPassage.calls a0_0 a0_1 a0_2 t516 false _ A79.out).mono ?_); rintro e w110 ⟨rfl, hb⟩; replace HO_15 := Aside0.mk (Kd.R_below (kr_ HO_15.out) hb); replace BK501 := Aside0.mk (bb_ BK501.out hb); replace BK502 := Aside0.mk (bb_ BK502.out hb); replace BK503 := Aside0.mk (bb_ BK503.out hb); replace HB := Aside0.mk (below_step (hb3_ HB.out GE501.out GE502.out GE503.out) hb); (try clear hb); (try clear hb2); (try clear hk); (try clear hi)))
                   repeat (go_quiet (first | (go_at_call 88; (with_reducible refine (spec_GapAt.calls kj72 a0_0 a0_1 a2_0 (Int.tmod (wrap64 (a2_1 + (rd y512 x16_5))) 4) t516 _ A78.out).mono ?_); rintro e w108 ⟨rfl, hb⟩; replace HO_15 := Aside0.mk (Kd.R_below (kr_ HO_15.out) hb); replace BK501 := Aside0.mk (bb_ BK501.out hb); replace BK502 := Aside0.mk (bb_ BK502.out hb); replace BK503 := Aside0.mk (bb_ BK503.out hb); replace HB := Aside0.mk (below_step (hb3_ HB.out GE501.out GE502.out GE503.out) hb); (try clear hb); (try clear hb2); (try clear hk); (try clear hi); obtain ⟨hcz109_0, hcz109_1, hcz109_2⟩ := cz3_ BK501.out; obtain ⟨hfz109_0, hfz109_1, hfz109_2⟩ := fz3_ BK501.out) | (go_at_call 89; (with_reducible refine (spec_IsPassage.calls a0_0 a0_1 a0_2 t516 false _ A79.out).mono ?_); rintro e w110 ⟨rfl, hb⟩; replace HO_15 := Aside0.mk (Kd.R_below (kr_ HO_15.out) hb); replace BK501 := Aside0.mk (bb_ BK501.out hb); replace BK502 := Aside0.mk (bb_ BK502.out hb); replace BK503 := Aside0.mk (bb_ BK503.out hb); replace HB := Aside0.mk (below_step (hb3_ HB.out GE501.out GE502.out GE503.out) hb); (try clear hb); (try clear hb2); (try clear hk); (try clear hi))); try go_wp2_with (first | (go_at_call 88; (with_reducible refine (spec_GapAt.calls kj72 a0_0 a0_1 a2_0 (Int.tmod (wrap64 (a2_1 + (rd y512 x16_5))) 4) t516 _ A78.out).mono ?_); rintro e w108 ⟨rfl, hb⟩; replace HO_15 := Aside0.mk (Kd.R_below (kr_ HO_15.out) hb); replace BK501 := Aside0.mk (bb_ BK501.out hb); replace BK502 := Aside0.mk (bb_ BK502.out hb); replace BK503 := Aside0.mk (bb_ BK503.out hb); replace HB := Aside0.mk (below_step (hb3_ HB.out GE501.out GE502.out GE503.out) hb); (try clear hb); (try clear hb2); (try clear hk); (try clear hi); obtain ⟨hcz109_0, hcz109_1, hcz109_2⟩ := cz3_ BK501.out; obtain ⟨hfz109_0, hfz109_1, hfz109_2⟩ := fz3_ BK501.out) | (go_at_call 89; (with_reducible refine (spec_IsPassage.calls a0_0 a0_1 a0_2 t516 false _ A79.out).mono ?_); rintro e w110 ⟨rfl, hb⟩; replace HO_15 := Aside0.mk (Kd.R_below (kr_ HO_15.out) hb); replace BK501 := Aside0.mk (bb_ BK501.out hb); replace BK502 := Aside0.mk (bb_ BK502.out hb); replace BK503 := Aside0.mk (bb_ BK503.out hb); replace HB := Aside0.mk (below_step (hb3_ HB.out GE501.out GE502.out GE503.out) hb); (try clear hb); (try clear hb2); (try clear hk); (try clear hi))))
                   go_roundg kj72
                   case measure => have := HJ3.out; have := HK2.out; have := HJ63.out; have := HJ68.out; have := HK5.out; have := HJ72.out; omega
                   case rel => exact ⟨(x14_5), (wrap64 (x16_5 + 1)), (by first | rfl | (simp; done) | (simp [*]; done)), (by first | rfl | (simp; done) | (simp [*]; done)), H', ⟨by have := HJ3.out; have := HK2.out; have := HJ63.out; have := HJ68.out; have := HK5.out; have := HJ72.out; omega⟩, ⟨kr_ HO_15.out⟩, ⟨bk_ BK501.out⟩, ⟨bk_ BK502.out⟩, ⟨bk_ BK503.out⟩, ⟨hb3_ HB.out GE501.out GE502.out GE503.out⟩⟩
                 ·rw [if_neg c77] at H
                  exact absurd H (by simp)
                ·rw [if_neg c76] at H
                 exact absurd H (by simp)
               ·replace c75 := Bool.eq_false_iff.mpr c75
                subst c75
                have H1 : (spec_TremauxStep.l2 kj72 l1 x14_5 (([1, 0, 3, 2] : List Int)) 0 a0_0 a0_1 a0_2 a2_0 a2_1) = some (r1, r2, r3) := by rw [if_neg (show ¬ (false = true) by decide)] at H; exact H
                clear H
                have H := H1
                clear H1
                obtain ⟨y519, hy519⟩ : ∃ y_ : List Int, y_ = (([1, 0, 3, 2] : List Int)) := ⟨_, rfl⟩
                replace H : (spec_TremauxStep.l2 kj72 l1 x14_5 y519 0 a0_0 a0_1 a0_2 a2_0 a2_1) = some (r1, r2, r3) := by first | (rw [hy519]; with_reducible exact H) | (have H2_ := (Option.bind_some _ _).symm.trans H; rw [hy519]; with_reducible exact H2_) | (have H2_ := (Option.bind_some _ _).symm.trans H; with_reducible exact H2_) | with_reducible exact H | (rw [hy519]; exact H) | exact H
                have Ny519 := Aside0.mk hy519
                clear hy519
                have H' := Aside0.mk H
                clear H
                go_wp2_with (first | ((with_reducible refine gate_dst (N := 117) rfl ?_); refine Kd.R_lit (Kd.int .i64) _ 3 ?hg (N := 117) ?hd (xs := ([1, 0, 3, 2] : List Int)) (inner := [.int .i64 1, .int .i64 0, .int .i64 3, .int .i64 2]) (ok := fun _ => True) (okp := fun _ => True) ?hr ?hp (fun _ hk => hk) trivial (Below.refl _ _) (Nat.le_refl _) (by simp) ?_; (case hd => rfl); (case hg => rfl); (case hr => first | (go_simp; done) | (go_simp; rfl)); (case hp => exact (Reps.one (show Kd.M (Kd.int .i64) _ _ _ 1 [.int .i64 1] from rfl) (Reps.one (show Kd.M (Kd.int .i64) _ _ _ 0 [.int .i64 0] from rfl) (Reps.one (show Kd.M (Kd.int .i64) _ _ _ 3 [.int .i64 3] from rfl) (Reps.one (show Kd.M (Kd.int .i64) _ _ _ 2 [.int .i64 2] from rfl) (Reps.none _ _)))))); intro v520 w111 ho112 hb hg_ hnew_; clear hg_ hnew_; (first | rw [← Ny519.out] at ho112 | (simp only [Int.reduceToNat] at ho112; rw [← Ny519.out] at ho112)); have n0_ := Aside0.mk (Kd.R_elder' (kr_ HO_15.out) (Kd.R_base ho112) hb); have n1_ := Aside0.mk (Kd.R_lower (Kd.R_new' ho112 (Kd.R_lt (kr_ HO_15.out))) (below_size (hb3_ HB.out GE501.out GE502.out GE503.out))); have n2_ := Aside0.mk (bb_ BK501.out hb); have n3_ := Aside0.mk (bb_ BK502.out hb); have n4_ := Aside0.mk (bb_ BK503.out hb); have n5_ := Aside0.mk (below_step (hb3_ HB.out GE501.out GE502.out GE503.out) hb); clear HO_15; clear BK501; clear BK502; clear BK503; clear HB; have HO_15 := n0_; have HO521 := n1_; have BK501 := n2_; have BK502 := n3_; have BK503 := n4_; have HB := n5_; clear n0_ n1_ n2_ n3_ n4_ n5_; clear hb ho112))
                repeat (go_quiet (first | ((with_reducible refine gate_dst (N := 117) rfl ?_); refine Kd.R_lit (Kd.int .i64) _ 3 ?hg (N := 117) ?hd (xs := ([1, 0, 3, 2] : List Int)) (inner := [.int .i64 1, .int .i64 0, .int .i64 3, .int .i64 2]) (ok := fun _ => True) (okp := fun _ => True) ?hr ?hp (fun _ hk => hk) trivial (Below.refl _ _) (Nat.le_refl _) (by simp) ?_; (case hd => rfl); (case hg => rfl); (case hr => first | (go_simp; done) | (go_simp; rfl)); (case hp => exact (Reps.one (show Kd.M (Kd.int .i64) _ _ _ 1 [.int .i64 1] from rfl) (Reps.one (show Kd.M (Kd.int .i64) _ _ _ 0 [.int .i64 0] from rfl) (Reps.one (show Kd.M (Kd.int .i64) _ _ _ 3 [.int .i64 3] from rfl) (Reps.one (show Kd.M (Kd.int .i64) _ _ _ 2 [.int .i64 2] from rfl) (Reps.none _ _)))))); intro v520 w111 ho112 hb hg_ hnew_; clear hg_ hnew_; (first | rw [← Ny519.out] at ho112 | (simp only [Int.reduceToNat] at ho112; rw [← Ny519.out] at ho112)); have n0_ := Aside0.mk (Kd.R_elder' (kr_ HO_15.out) (Kd.R_base ho112) hb); have n1_ := Aside0.mk (Kd.R_lower (Kd.R_new' ho112 (Kd.R_lt (kr_ HO_15.out))) (below_size (hb3_ HB.out GE501.out GE502.out GE503.out))); have n2_ := Aside0.mk (bb_ BK501.out hb); have n3_ := Aside0.mk (bb_ BK502.out hb); have n4_ := Aside0.mk (bb_ BK503.out hb); have n5_ := Aside0.mk (below_step (hb3_ HB.out GE501.out GE502.out GE503.out) hb); clear HO_15; clear BK501; clear BK502; clear BK503; clear HB; have HO_15 := n0_; have HO521 := n1_; have BK501 := n2_; have BK502 := n3_; have BK503 := n4_; have HB := n5_; clear n0_ n1_ n2_ n3_ n4_ n5_; clear hb ho112)); try go_wp2_with (first | ((with_reducible refine gate_dst (N := 117) rfl ?_); refine Kd.R_lit (Kd.int .i64) _ 3 ?hg (N := 117) ?hd (xs := ([1, 0, 3, 2] : List Int)) (inner := [.int .i64 1, .int .i64 0, .int .i64 3, .int .i64 2]) (ok := fun _ => True) (okp := fun _ => True) ?hr ?hp (fun _ hk => hk) trivial (Below.refl _ _) (Nat.le_refl _) (by simp) ?_; (case hd => rfl); (case hg => rfl); (case hr => first | (go_simp; done) | (go_simp; rfl)); (case hp => exact (Reps.one (show Kd.M (Kd.int .i64) _ _ _ 1 [.int .i64 1] from rfl) (Reps.one (show Kd.M (Kd.int .i64) _ _ _ 0 [.int .i64 0] from rfl) (Reps.one (show Kd.M (Kd.int .i64) _ _ _ 3 [.int .i64 3] from rfl) (Reps.one (show Kd.M (Kd.int .i64) _ _ _ 2 [.int .i64 2] from rfl) (Reps.none _ _)))))); intro v520 w111 ho112 hb hg_ hnew_; clear hg_ hnew_; (first | rw [← Ny519.out] at ho112 | (simp only [Int.reduceToNat] at ho112; rw [← Ny519.out] at ho112)); have n0_ := Aside0.mk (Kd.R_elder' (kr_ HO_15.out) (Kd.R_base ho112) hb); have n1_ := Aside0.mk (Kd.R_lower (Kd.R_new' ho112 (Kd.R_lt (kr_ HO_15.out))) (below_size (hb3_ HB.out GE501.out GE502.out GE503.out))); have n2_ := Aside0.mk (bb_ BK501.out hb); have n3_ := Aside0.mk (bb_ BK502.out hb); have n4_ := Aside0.mk (bb_ BK503.out hb); have n5_ := Aside0.mk (below_step (hb3_ HB.out GE501.out GE502.out GE503.out) hb); clear HO_15; clear BK501; clear BK502; clear BK503; clear HB; have HO_15 := n0_; have HO521 := n1_; have BK501 := n2_; have BK502 := n3_; have BK503 := n4_; have HB := n5_; clear n0_ n1_ n2_ n3_ n4_ n5_; clear hb ho112)))
                go_loopg [14, 19] kj72 (fun kq v14 v19 w' => ∃ (x14_7 : Int) (x19_7 : Int), v14 = .int .i64 x14_7 ∧ v19 = .int .i64 x19_7 ∧ Aside0 (spec_TremauxStep.l2 kq l1 x14_7 y519 x19_7 a0_0 a0_1 a0_2 a2_0 a2_1 = some (r1, r2, r3)) ∧ Aside0 (kq ≤ kj72) ∧ Aside0 (Kd.R (Kd.int .i64) 3 w' w.heap.size (fun _ => True) v520 y519) ∧ Aside0 (w'.heap[gb501]? = some (.cells #[.int .i64 a0_0, .int .i64 a0_1, .int .i64 a0_2] 33 (0, 0))) ∧ Aside0 (w'.heap[gb502]? = some (.cells #[.int .i64 a2_0, .int .i64 a2_1] 65 (0, 0))) ∧ Aside0 (w'.heap[gb503]? = some (.cells #[.int .i64 0, .int .i64 0] 65 (0, 0))) ∧ Aside0 (Below w.heap.size w w'))
                case atStart => exact ⟨(x14_5), (0), (by first | rfl | (simp; done) | (simp [*]; done)), (by first | rfl | (simp; done) | (simp [*]; done)), H', ⟨Nat.le_refl _⟩, ⟨by (with_reducible repeat (first | apply Kd.R_alloc | apply Kd.R_drewN | apply Kd.R_drew)); exact Kd.R_mono HO521.out (fun _ hk => trivial)⟩, ⟨bk_ BK501.out⟩, ⟨bk_ BK502.out⟩, ⟨bk_ BK503.out⟩, ⟨hb3_ HB.out GE501.out GE502.out GE503.out⟩⟩
                case round =>
                 clear H'
                 try clear c1
                 try clear c2
                 try clear p2
                 try clear c3
                 try clear c4
                 try clear c5
                 try clear p5
                 try clear q5
                 try clear hx5
                 try clear c6
                 try clear p6
                 try clear c7
                 try clear c8
                 try clear c9
                 try clear c10
                 try clear c11
                 try clear c12
                 try clear c14
                 try clear c19
                 try clear c20
                 try clear c22
                 try clear c25
                 try clear c26
                 try clear c27
                 try clear c29
                 try clear c33
                 try clear c34
                 try clear c36
                 try clear c41
                 try clear c41b0
                 try clear c44
                 try clear c45
                 try clear c47
                 try clear c50
                 try clear c50b0
                 try clear c50b1
                 try clear p51
                 try clear q51
                 try clear hx51
                 try clear c52
                 try clear c53
                 try clear c53b0
                 try clear c54
                 try clear c54b0
                 try clear c55
                 try clear c56
                 try clear c59
                 try clear c60
                 try clear c63
                 try clear p64
                 try clear c65
                 try clear c66
                 try clear c66b0
                 try clear c67
                 try clear c67b0
                 try clear c68
                 try clear c68b0
                 try clear c68b1
                 try clear c70
                 try clear c74
                 try clear c74b0
                 try clear c75
                 try clear c76
                 try clear c76b0
                 try clear c77
                 try clear c77b0
                 try clear c80
                 try clear c81
                 try clear c81b0
                 try clear c82
                 try clear c82b0
                 try clear c83
                 try clear c83b0
                 try clear c83b1
                 try clear c84
                 try clear c85
                 try clear c88
                 try clear c93
                 try clear c94
                 try clear c97
                 try clear c102
                 try clear c103
                 try clear c106
                 try clear hcz100_0
                 try clear hcz100_1
                 try clear hcz100_2
                 try clear hcz104_0
                 try clear hcz104_1
                 try clear hcz107_0
                 try clear hcz107_1
                 try clear hcz107_2
                 try clear hcz109_0
                 try clear hcz109_1
                 try clear hcz109_2
                 try clear hcz13_0
                 try clear hcz13_1
                 try clear hcz13_2
                 try clear hcz15_0
                 try clear hcz15_1
                 try clear hcz17_0
                 try clear hcz17_1
                 try clear hcz17_2
                 try clear hcz21_0
                 try clear hcz21_1
                 try clear hcz21_2
                 try clear hcz23_0
                 try clear hcz23_1
                 try clear hcz28_0
                 try clear hcz28_1
                 try clear hcz30_0
                 try clear hcz30_1
                 try clear hcz35_0
                 try clear hcz35_1
                 try clear hcz37_0
                 try clear hcz37_1
                 try clear hcz37_2
                 try clear hcz39_0
                 try clear hcz39_1
                 try clear hcz39_2
                 try clear hcz46_0
                 try clear hcz46_1
                 try clear hcz46_2
                 try clear hcz48_0
                 try clear hcz48_1
                 try clear hcz57_0
                 try clear hcz57_1
                 try clear hcz57_2
                 try clear hcz61_0
                 try clear hcz61_1
                 try clear hcz61_2
                 try clear hcz86_0
                 try clear hcz86_1
                 try clear hcz89_0
                 try clear hcz89_1
                 try clear hcz89_2
                 try clear hcz91_0
                 try clear hcz91_1
                 try clear hcz91_2
                 try clear hcz95_0
                 try clear hcz95_1
                 try clear hcz98_0
                 try clear hcz98_1
                 try clear hcz98_2
                 try clear hfz100_0
                 try clear hfz100_1
                 try clear hfz100_2
                 try clear hfz104_0
                 try clear hfz104_1
                 try clear hfz107_0
                 try clear hfz107_1
                 try clear hfz107_2
                 try clear hfz109_0
                 try clear hfz109_1
                 try clear hfz109_2
                 try clear hfz13_0
                 try clear hfz13_1
                 try clear hfz13_2
                 try clear hfz15_0
                 try clear hfz15_1
                 try clear hfz17_0
                 try clear hfz17_1
                 try clear hfz17_2
                 try clear hfz21_0
                 try clear hfz21_1
                 try clear hfz21_2
                 try clear hfz23_0
                 try clear hfz23_1
                 try clear hfz28_0
                 try clear hfz28_1
                 try clear hfz30_0
                 try clear hfz30_1
                 try clear hfz35_0
                 try clear hfz35_1
                 try clear hfz37_0
                 try clear hfz37_1
                 try clear hfz37_2
                 try clear hfz39_0
                 try clear hfz39_1
                 try clear hfz39_2
                 try clear hfz46_0
                 try clear hfz46_1
                 try clear hfz46_2
                 try clear hfz48_0
                 try clear hfz48_1
                 try clear hfz57_0
                 try clear hfz57_1
                 try clear hfz57_2
                 try clear hfz61_0
                 try clear hfz61_1
                 try clear hfz61_2
                 try clear hfz86_0
                 try clear hfz86_1
                 try clear hfz89_0
                 try clear hfz89_1
                 try clear hfz89_2
                 try clear hfz91_0
                 try clear hfz91_1
                 try clear hfz91_2
                 try clear hfz95_0
                 try clear hfz95_1
                 try clear hfz98_0
                 try clear hfz98_1
                 try clear hfz98_2
                 try clear hx510_0
                 try clear hx511_0
                 try clear hx515_0
                 try clear hx518_0
                 try clear p2
                 try clear p5
                 try clear p51
                 try clear p510
                 try clear p511
                 try clear p515
                 try clear p518
                 try clear p6
                 try clear p64
                 try clear q5
                 try clear q51
                 try clear q510
                 try clear q511
                 try clear q515
                 try clear q518
                 obtain ⟨x14_7, x19_7, rfl, rfl, HA, HK7, HO_15, BK501, BK502, BK503, HB⟩ := hrel
                 cases gk with
                 | zero => exact absurd HA.out (by simp [spec_TremauxStep.l2])
                 | succ k7 =>
                  have H := HA.out
                  clear HA
                  simp only [spec_TremauxStep.l2] at H
                  have HC113 := Aside0.mk H
                  clear H
                  go_upto_region 26 with (fail)
                  repeat (go_quiet (fail); go_upto_region 26 with (fail))
                  go_cut [123] (fun v123 wc => ∃ (kq : Nat) (x123_112 : Bool), v123 = .bool x123_112 ∧ Aside0 (spec_TremauxStep.j8 kq l1 x14_7 y519 x19_7 x123_112 a0_0 a0_1 a0_2 a2_0 a2_1 = some (r1, r2, r3)) ∧ Aside0 (kq ≤ k7) ∧ Aside0 (Kd.R (Kd.int .i64) 3 wc w.heap.size (fun _ => True) v520 y519) ∧ Aside0 (wc.heap[gb501]? = some (.cells #[.int .i64 a0_0, .int .i64 a0_1, .int .i64 a0_2] 33 (0, 0))) ∧ Aside0 (wc.heap[gb502]? = some (.cells #[.int .i64 a2_0, .int .i64 a2_1] 65 (0, 0))) ∧ Aside0 (wc.heap[gb503]? = some (.cells #[.int .i64 0, .int .i64 0] 65 (0, 0))) ∧ Aside0 (Below w.heap.size w wc))
                  case first =>
                   have H := HC113.out
                   clear HC113
                   by_cases c114 : x19_7 < 4
                   ·rw [if_pos c114] at H
                    have c114b0 : decide (x19_7 < 4) = true := decide_eq_true c114
                    clear c114
                    (first | rw [c114b0] | (simp only [i64_w, i32_w]; rw [c114b0]) | skip)
                    have H' := Aside0.mk H
                    clear H
                    go_wp2
                    repeat (go_quiet (fail); try go_wp2)
                    go_meet
                    case rel => exact ⟨_, (decide (x14_7 < 0)), (by first | rfl | (simp; done) | (simp [*]; done)), H', ⟨by have := HJ3.out; have := HK2.out; have := HJ63.out; have := HJ68.out; have := HK5.out; have := HJ72.out; have := HK7.out; first | omega | exact Nat.le_refl _⟩, ⟨kr_ HO_15.out⟩, ⟨bk_ BK501.out⟩, ⟨bk_ BK502.out⟩, ⟨bk_ BK503.out⟩, ⟨hb3_ HB.out GE501.out GE502.out GE503.out⟩⟩
                   ·rw [if_neg c114] at H
                    have c114b0 : decide (x19_7 < 4) = false := decide_eq_false c114
                    clear c114
                    (first | rw [c114b0] | (simp only [i64_w, i32_w]; rw [c114b0]) | skip)
                    have H' := Aside0.mk H
                    clear H
                    go_wp2
                    repeat (go_quiet (fail); try go_wp2)
                    go_meet
                    case rel => exact ⟨_, (false), (by first | rfl | (simp; done) | (simp [*]; done)), H', ⟨by have := HJ3.out; have := HK2.out; have := HJ63.out; have := HJ68.out; have := HK5.out; have := HJ72.out; have := HK7.out; first | omega | exact Nat.le_refl _⟩, ⟨kr_ HO_15.out⟩, ⟨bk_ BK501.out⟩, ⟨bk_ BK502.out⟩, ⟨bk_ BK503.out⟩, ⟨hb3_ HB.out GE501.out GE502.out GE503.out⟩⟩
                  case rest =>
                   clear HC113
                   try clear c1
                   try clear c2
                   try clear p2
                   try clear c3
                   try clear c4
                   try clear c5
                   try clear p5
                   try clear q5
                   try clear hx5
                   try clear c6
                   try clear p6
                   try clear c7
                   try clear c8
                   try clear c9
                   try clear c10
                   try clear c11
                   try clear c12
                   try clear c14
                   try clear c19
                   try clear c20
                   try clear c22
                   try clear c25
                   try clear c26
                   try clear c27
                   try clear c29
                   try clear c33
                   try clear c34
                   try clear c36
                   try clear c41
                   try clear c41b0
                   try clear c44
                   try clear c45
                   try clear c47
                   try clear c50
                   try clear c50b0
                   try clear c50b1
                   try clear p51
                   try clear q51
                   try clear hx51
                   try clear c52
                   try clear c53
                   try clear c53b0
                   try clear c54
                   try clear c54b0
                   try clear c55
                   try clear c56
                   try clear c59
                   try clear c60
                   try clear c63
                   try clear p64
                   try clear c65
                   try clear c66
                   try clear c66b0
                   try clear c67
                   try clear c67b0
                   try clear c68
                   try clear c68b0
                   try clear c68b1
                   try clear c70
                   try clear c74
                   try clear c74b0
                   try clear c75
                   try clear c76
                   try clear c76b0
                   try clear c77
                   try clear c77b0
                   try clear c80
                   try clear c81
                   try clear c81b0
                   try clear c82
                   try clear c82b0
                   try clear c83
                   try clear c83b0
                   try clear c83b1
                   try clear c84
                   try clear c85
                   try clear c88
                   try clear c93
                   try clear c94
                   try clear c97
                   try clear c102
                   try clear c103
                   try clear c106
                   try clear c114
                   try clear c114b0
                   try clear hcz100_0
                   try clear hcz100_1
                   try clear hcz100_2
                   try clear hcz104_0
                   try clear hcz104_1
                   try clear hcz107_0
                   try clear hcz107_1
                   try clear hcz107_2
                   try clear hcz109_0
                   try clear hcz109_1
                   try clear hcz109_2
                   try clear hcz13_0
                   try clear hcz13_1
                   try clear hcz13_2
                   try clear hcz15_0
                   try clear hcz15_1
                   try clear hcz17_0
                   try clear hcz17_1
                   try clear hcz17_2
                   try clear hcz21_0
                   try clear hcz21_1
                   try clear hcz21_2
                   try clear hcz23_0
                   try clear hcz23_1
                   try clear hcz28_0
                   try clear hcz28_1
                   try clear hcz30_0
                   try clear hcz30_1
                   try clear hcz35_0
                   try clear hcz35_1
                   try clear hcz37_0
                   try clear hcz37_1
                   try clear hcz37_2
                   try clear hcz39_0
                   try clear hcz39_1
                   try clear hcz39_2
                   try clear hcz46_0
                   try clear hcz46_1
                   try clear hcz46_2
                   try clear hcz48_0
                   try clear hcz48_1
                   try clear hcz57_0
                   try clear hcz57_1
                   try clear hcz57_2
                   try clear hcz61_0
                   try clear hcz61_1
                   try clear hcz61_2
                   try clear hcz86_0
                   try clear hcz86_1
                   try clear hcz89_0
                   try clear hcz89_1
                   try clear hcz89_2
                   try clear hcz91_0
                   try clear hcz91_1
                   try clear hcz91_2
                   try clear hcz95_0
                   try clear hcz95_1
                   try clear hcz98_0
                   try clear hcz98_1
                   try clear hcz98_2
                   try clear hfz100_0
                   try clear hfz100_1
                   try clear hfz100_2
                   try clear hfz104_0
                   try clear hfz104_1
                   try clear hfz107_0
                   try clear hfz107_1
                   try clear hfz107_2
                   try clear hfz109_0
                   try clear hfz109_1
                   try clear hfz109_2
                   try clear hfz13_0
                   try clear hfz13_1
                   try clear hfz13_2
                   try clear hfz15_0
                   try clear hfz15_1
                   try clear hfz17_0
                   try clear hfz17_1
                   try clear hfz17_2
                   try clear hfz21_0
                   try clear hfz21_1
                   try clear hfz21_2
                   try clear hfz23_0
                   try clear hfz23_1
                   try clear hfz28_0
                   try clear hfz28_1
                   try clear hfz30_0
                   try clear hfz30_1
                   try clear hfz35_0
                   try clear hfz35_1
                   try clear hfz37_0
                   try clear hfz37_1
                   try clear hfz37_2
                   try clear hfz39_0
                   try clear hfz39_1
                   try clear hfz39_2
                   try clear hfz46_0
                   try clear hfz46_1
                   try clear hfz46_2
                   try clear hfz48_0
                   try clear hfz48_1
                   try clear hfz57_0
                   try clear hfz57_1
                   try clear hfz57_2
                   try clear hfz61_0
                   try clear hfz61_1
                   try clear hfz61_2
                   try clear hfz86_0
                   try clear hfz86_1
                   try clear hfz89_0
                   try clear hfz89_1
                   try clear hfz89_2
                   try clear hfz91_0
                   try clear hfz91_1
                   try clear hfz91_2
                   try clear hfz95_0
                   try clear hfz95_1
                   try clear hfz98_0
                   try clear hfz98_1
                   try clear hfz98_2
                   try clear hx510_0
                   try clear hx511_0
                   try clear hx515_0
                   try clear hx518_0
                   try clear p2
                   try clear p5
                   try clear p51
                   try clear p510
                   try clear p511
                   try clear p515
                   try clear p518
                   try clear p6
                   try clear p64
                   try clear q5
                   try clear q51
                   try clear q510
                   try clear q511
                   try clear q515
                   try clear q518
                   obtain ⟨kq, x123_112, rfl, HA, HJ112, HO_15, BK501, BK502, BK503, HB⟩ := hcut
                   cases kq with
                   | zero => exact absurd HA.out (by simp [spec_TremauxStep.j8])
                   | succ kj112 =>
                    have H := HA.out
                    clear HA
                    simp only [spec_TremauxStep.j8] at H
                    by_cases c115 : x123_112 = true
                    ·subst c115
                     have H1 : (if 0 ≤ x19_7 then (if x19_7 < (y519.length : Int) then ((spec_GapAt.f kj112 a0_0 a0_1 a2_0 (Int.tmod (wrap64 (a2_1 + (rd y519 x19_7))) 4)).bind fun t523 => ((spec_IsPassage.f a0_0 a0_1 a0_2 t523).bind fun t524 => (if t524 = true then (if 0 ≤ t523 then (if t523 < (l1.length : Int) then (if (rd l1 t523) = 1 then (spec_TremauxStep.l2 kj112 l1 (Int.tmod (wrap64 (a2_1 + (rd y519 x19_7))) 4) y519 (wrap64 (x19_7 + 1)) a0_0 a0_1 a0_2 a2_0 a2_1) else (spec_TremauxStep.l2 kj112 l1 x14_7 y519 (wrap64 (x19_7 + 1)) a0_0 a0_1 a0_2 a2_0 a2_1)) else (none)) else (none)) else (spec_TremauxStep.l2 kj112 l1 x14_7 y519 (wrap64 (x19_7 + 1)) a0_0 a0_1 a0_2 a2_0 a2_1)))) else (none)) else (none)) = some (r1, r2, r3) := by rw [if_pos rfl] at H; exact H
                     clear H
                     have H := H1
                     clear H1
                     by_cases c116 : 0 ≤ x19_7
                     ·rw [if_pos c116] at H
                      have c116b0 : decide (0 ≤ x19_7) = true := decide_eq_true c116
                      clear c116
                      by_cases c117 : x19_7 < (y519.length : Int)
                      ·rw [if_pos c117] at H
                       have c117b0 : decide (x19_7 < (y519.length : Int)) = true := decide_eq_true c117
                       clear c117
                       replace H := Option.bind_eq_some_iff.mp H
                       obtain ⟨t523, A1180, H⟩ := H
                       replace H : ((spec_IsPassage.f a0_0 a0_1 a0_2 t523).bind fun t524 => (if t524 = true then (if 0 ≤ t523 then (if t523 < (l1.length : Int) then (if (rd l1 t523) = 1 then (spec_TremauxStep.l2 kj112 l1 (Int.tmod (wrap64 (a2_1 + (rd y519 x19_7))) 4) y519 (wrap64 (x19_7 + 1)) a0_0 a0_1 a0_2 a2_0 a2_1) else (spec_TremauxStep.l2 kj112 l1 x14_7 y519 (wrap64 (x19_7 + 1)) a0_0 a0_1 a0_2 a2_0 a2_1)) else (none)) else (none)) else (spec_TremauxStep.l2 kj112 l1 x14_7 y519 (wrap64 (x19_7 + 1)) a0_0 a0_1 a0_2 a2_0 a2_1))) = some (r1, r2, r3) := H
                       have A118 := Aside0.mk A1180
                       clear A1180
                       replace H := Option.bind_eq_some_iff.mp H
                       obtain ⟨t524, A1190, H⟩ := H
                       replace H : (if t524 = true then (if 0 ≤ t523 then (if t523 < (l1.length : Int) then (if (rd l1 t523) = 1 then (spec_TremauxStep.l2 kj112 l1 (Int.tmod (wrap64 (a2_1 + (rd y519 x19_7))) 4) y519 (wrap64 (x19_7 + 1)) a0_0 a0_1 a0_2 a2_0 a2_1) else (spec_TremauxStep.l2 kj112 l1 x14_7 y519 (wrap64 (x19_7 + 1)) a0_0 a0_1 a0_2 a2_0 a2_1)) else (none)) else (none)) else (spec_TremauxStep.l2 kj112 l1 x14_7 y519 (wrap64 (x19_7 + 1)) a0_0 a0_1 a0_2 a2_0 a2_1)) = some (r1, r2, r3) := H
                       have A119 := Aside0.mk A1190
                       clear A1190
                       by_cases c120 : t524 = true
                       ·subst c120
                        have H1 : (if 0 ≤ t523 then (if t523 < (l1.length : Int) then (if (rd l1 t523) = 1 then (spec_TremauxStep.l2 kj112 l1 (Int.tmod (wrap64 (a2_1 + (rd y519 x19_7))) 4) y519 (wrap64 (x19_7 + 1)) a0_0 a0_1 a0_2 a2_0 a2_1) else (spec_TremauxStep.l2 kj112 l1 x14_7 y519 (wrap64 (x19_7 + 1)) a0_0 a0_1 a0_2 a2_0 a2_1)) else (none)) else (none)) = some (r1, r2, r3) := by rw [if_pos rfl] at H; exact H
                        clear H
                        have H := H1
                        clear H1
                        by_cases c121 : 0 ≤ t523
                        ·rw [if_pos c121] at H
                         have c121b0 : decide (0 ≤ t523) = true := decide_eq_true c121
                         clear c121
                         by_cases c122 : t523 < (l1.length : Int)
                         ·rw [if_pos c122] at H
                          have c122b0 : decide (t523 < (l1.length : Int)) = true := decide_eq_true c122
                          clear c122
                          by_cases c123 : (rd l1 t523) = 1
                          ·rw [if_pos c123] at H
                           have c123b0 : ((rd l1 t523) == 1) = true := beq_iff_eq.mpr c123
                           have c123b1 : ((rd l1 t523) != 1) = false := bne_eq_false_iff_eq.mpr c123
                           clear c123
                           have H' := Aside0.mk H
                           clear H
                           have hnb124 := NB502_501.out
                           have hnc124 := NB501_502.out
                           have hnb125 := NB502_503.out
                           have hnc125 := NB503_502.out
                           obtain ⟨hcz126_0, hcz126_1⟩ := cz2_ BK502.out
                           obtain ⟨hfz126_0, hfz126_1⟩ := fz2_ BK502.out
                           obtain ⟨Ao127, co127, eo127⟩ := Kd.R_slice HO_15.out
                           subst eo127
                           have p522 : 0 ≤ (x19_7 : Int) := of_decide_eq_true (as_)
                           have q522 : x19_7 < (y519.length : Int) := of_decide_eq_true (as_)
                           obtain ⟨ad522, e522, hx522_0⟩ := Kd.at_int (Kd.R_reads' HO_15.out).2.2 x19_7 p522 q522
                           cases e522
                           replace p522 := eq_true p522
                           replace q522 := eq_true q522
                           have hnb128 := NB501_503.out
                           have hnc128 := NB503_501.out
                           obtain ⟨hcz129_0, hcz129_1, hcz129_2⟩ := cz3_ BK501.out
                           obtain ⟨hfz129_0, hfz129_1, hfz129_2⟩ := fz3_ BK501.out
                           go_wp2_with (first | (go_at_call 88; (with_reducible refine (spec_GapAt.calls kj112 a0_0 a0_1 a2_0 (Int.tmod (wrap64 (a2_1 + (rd y519 x19_7))) 4) t523 _ A118.out).mono ?_); rintro e w130 ⟨rfl, hb⟩; replace HO_15 := Aside0.mk (Kd.R_below (kr_ HO_15.out) hb); replace BK501 := Aside0.mk (bb_ BK501.out hb); replace BK502 := Aside0.mk (bb_ BK502.out hb); replace BK503 := Aside0.mk (bb_ BK503.out hb); replace HB := Aside0.mk (below_step (hb3_ HB.out GE501.out GE502.out GE503.out) hb); (try clear hb); (try clear hb2); (try clear hk); (try clear hi); obtain ⟨hcz131_0, hcz131_1, hcz131_2⟩ := cz3_ BK501.out; obtain ⟨hfz131_0, hfz131_1, hfz131_2⟩ := fz3_ BK501.out) | (go_at_call 89; (with_reducible refine (spec_IsPassage.calls a0_0 a0_1 a0_2 t523 true _ A119.out).mono ?_); rintro e w132 ⟨rfl, hb⟩; replace HO_15 := Aside0.mk (Kd.R_below (kr_ HO_15.out) hb); replace BK501 := Aside0.mk (bb_ BK501.out hb); replace BK502 := Aside0.mk (bb_ BK502.out hb); replace BK503 := Aside0.mk (bb_ BK503.out hb); replace HB := Aside0.mk (below_step (hb3_ HB.out GE501.out GE502.out GE503.out) hb); (try clear hb); (try clear hb2); (try clear hk); (try clear hi); have p525 : 0 ≤ (t523 : Int) := of_decide_eq_true (as_); have q525 : t523 < (l1.length : Int) := of_decide_eq_true (as_); obtain ⟨ad525, e525, hx525_0⟩ := Kd.at_int HR1.out t523 p525 q525; cases e525; replace hx525_0 := (HB.out.cell (World.block_lt_of_cell? w _ hx525_0)).trans hx525_0; replace p525 := eq_true p525; replace q525 := eq_true q525))
                           repeat (go_quiet (first | (go_at_call 88; (with_reducible refine (spec_GapAt.calls kj112 a0_0 a0_1 a2_0 (Int.tmod (wrap64 (a2_1 + (rd y519 x19_7))) 4) t523 _ A118.out).mono ?_); rintro e w130 ⟨rfl, hb⟩; replace HO_15 := Aside0.mk (Kd.R_below (kr_ HO_15.out) hb); replace BK501 := Aside0.mk (bb_ BK501.out hb); replace BK502 := Aside0.mk (bb_ BK502.out hb); replace BK503 := Aside0.mk (bb_ BK503.out hb); replace HB := Aside0.mk (below_step (hb3_ HB.out GE501.out GE502.out GE503.out) hb); (try clear hb); (try clear hb2); (try clear hk); (try clear hi); obtain ⟨hcz131_0, hcz131_1, hcz131_2⟩ := cz3_ BK501.out; obtain ⟨hfz131_0, hfz131_1, hfz131_2⟩ := fz3_ BK501.out) | (go_at_call 89; (with_reducible refine (spec_IsPassage.calls a0_0 a0_1 a0_2 t523 true _ A119.out).mono ?_); rintro e w132 ⟨rfl, hb⟩; replace HO_15 := Aside0.mk (Kd.R_below (kr_ HO_15.out) hb); replace BK501 := Aside0.mk (bb_ BK501.out hb); replace BK502 := Aside0.mk (bb_ BK502.out hb); replace BK503 := Aside0.mk (bb_ BK503.out hb); replace HB := Aside0.mk (below_step (hb3_ HB.out GE501.out GE502.out GE503.out) hb); (try clear hb); (try clear hb2); (try clear hk); (try clear hi); have p525 : 0 ≤ (t523 : Int) := of_decide_eq_true (as_); have q525 : t523 < (l1.length : Int) := of_decide_eq_true (as_); obtain ⟨ad525, e525, hx525_0⟩ := Kd.at_int HR1.out t523 p525 q525; cases e525; replace hx525_0 := (HB.out.cell (World.block_lt_of_cell? w _ hx525_0)).trans hx525_0; replace p525 := eq_true p525; replace q525 := eq_true q525)); try go_wp2_with (first | (go_at_call 88; (with_reducible refine (spec_GapAt.calls kj112 a0_0 a0_1 a2_0 (Int.tmod (wrap64 (a2_1 + (rd y519 x19_7))) 4) t523 _ A118.out).mono ?_); rintro e w130 ⟨rfl, hb⟩; replace HO_15 := Aside0.mk (Kd.R_below (kr_ HO_15.out) hb); replace BK501 := Aside0.mk (bb_ BK501.out hb); replace BK502 := Aside0.mk (bb_ BK502.out hb); replace BK503 := Aside0.mk (bb_ BK503.out hb); replace HB := Aside0.mk (below_step (hb3_ HB.out GE501.out GE502.out GE503.out) hb); (try clear hb); (try clear hb2); (try clear hk); (try clear hi); obtain ⟨hcz131_0, hcz131_1, hcz131_2⟩ := cz3_ BK501.out; obtain ⟨hfz131_0, hfz131_1, hfz131_2⟩ := fz3_ BK501.out) | (go_at_call 89; (with_reducible refine (spec_IsPassage.calls a0_0 a0_1 a0_2 t523 true _ A119.out).mono ?_); rintro e w132 ⟨rfl, hb⟩; replace HO_15 := Aside0.mk (Kd.R_below (kr_ HO_15.out) hb); replace BK501 := Aside0.mk (bb_ BK501.out hb); replace BK502 := Aside0.mk (bb_ BK502.out hb); replace BK503 := Aside0.mk (bb_ BK503.out hb); replace HB := Aside0.mk (below_step (hb3_ HB.out GE501.out GE502.out GE503.out) hb); (try clear hb); (try clear hb2); (try clear hk); (try clear hi); have p525 : 0 ≤ (t523 : Int) := of_decide_eq_true (as_); have q525 : t523 < (l1.length : Int) := of_decide_eq_true (as_); obtain ⟨ad525, e525, hx525_0⟩ := Kd.at_int HR1.out t523 p525 q525; cases e525; replace hx525_0 := (HB.out.cell (World.block_lt_of_cell? w _ hx525_0)).trans hx525_0; replace p525 := eq_true p525; replace q525 := eq_true q525)))
                           go_roundg kj112
                           case measure => have := HJ3.out; have := HK2.out; have := HJ63.out; have := HJ68.out; have := HK5.out; have := HJ72.out; have := HK7.out; have := HJ112.out; omega
                           case rel => exact ⟨(Int.tmod (wrap64 (a2_1 + (rd y519 x19_7))) 4), (wrap64 (x19_7 + 1)), (by first | rfl | (simp; done) | (simp [*]; done)), (by first | rfl | (simp; done) | (simp [*]; done)), H', ⟨by have := HJ3.out; have := HK2.out; have := HJ63.out; have := HJ68.out; have := HK5.out; have := HJ72.out; have := HK7.out; have := HJ112.out; omega⟩, ⟨kr_ HO_15.out⟩, ⟨bk_ BK501.out⟩, ⟨bk_ BK502.out⟩, ⟨bk_ BK503.out⟩, ⟨hb3_ HB.out GE501.out GE502.out GE503.out⟩⟩
                          ·rw [if_neg c123] at H
                           have c123b0 : ((rd l1 t523) == 1) = false := beq_eq_false_iff_ne.mpr c123
                           have c123b1 : ((rd l1 t523) != 1) = true := bne_iff_ne.mpr c123
                           have H' := Aside0.mk H
                           clear H
                           have hnb133 := NB502_501.out
                           have hnc133 := NB501_502.out
                           have hnb134 := NB502_503.out
                           have hnc134 := NB503_502.out
                           obtain ⟨hcz135_0, hcz135_1⟩ := cz2_ BK502.out
                           obtain ⟨hfz135_0, hfz135_1⟩ := fz2_ BK502.out
                           obtain ⟨Ao136, co136, eo136⟩ := Kd.R_slice HO_15.out
                           subst eo136
                           have p522 : 0 ≤ (x19_7 : Int) := of_decide_eq_true (as_)
                           have q522 : x19_7 < (y519.length : Int) := of_decide_eq_true (as_)
                           obtain ⟨ad522, e522, hx522_0⟩ := Kd.at_int (Kd.R_reads' HO_15.out).2.2 x19_7 p522 q522
                           cases e522
                           replace p522 := eq_true p522
                           replace q522 := eq_true q522
                           have hnb137 := NB501_503.out
                           have hnc137 := NB503_501.out
                           obtain ⟨hcz138_0, hcz138_1, hcz138_2⟩ := cz3_ BK501.out
                           obtain ⟨hfz138_0, hfz138_1, hfz138_2⟩ := fz3_ BK501.out
                           go_wp2_with (first | (go_at_call 88; (with_reducible refine (spec_GapAt.calls kj112 a0_0 a0_1 a2_0 (Int.tmod (wrap64 (a2_1 + (rd y519 x19_7))) 4) t523 _ A118.out).mono ?_); rintro e w139 ⟨rfl, hb⟩; replace HO_15 := Aside0.mk (Kd.R_below (kr_ HO_15.out) hb); replace BK501 := Aside0.mk (bb_ BK501.out hb); replace BK502 := Aside0.mk (bb_ BK502.out hb); replace BK503 := Aside0.mk (bb_ BK503.out hb); replace HB := Aside0.mk (below_step (hb3_ HB.out GE501.out GE502.out GE503.out) hb); (try clear hb); (try clear hb2); (try clear hk); (try clear hi); obtain ⟨hcz140_0, hcz140_1, hcz140_2⟩ := cz3_ BK501.out; obtain ⟨hfz140_0, hfz140_1, hfz140_2⟩ := fz3_ BK501.out) | (go_at_call 89; (with_reducible refine (spec_IsPassage.calls a0_0 a0_1 a0_2 t523 true _ A119.out).mono ?_); rintro e w141 ⟨rfl, hb⟩; replace HO_15 := Aside0.mk (Kd.R_below (kr_ HO_15.out) hb); replace BK501 := Aside0.mk (bb_ BK501.out hb); replace BK502 := Aside0.mk (bb_ BK502.out hb); replace BK503 := Aside0.mk (bb_ BK503.out hb); replace HB := Aside0.mk (below_step (hb3_ HB.out GE501.out GE502.out GE503.out) hb); (try clear hb); (try clear hb2); (try clear hk); (try clear hi); have p525 : 0 ≤ (t523 : Int) := of_decide_eq_true (as_); have q525 : t523 < (l1.length : Int) := of_decide_eq_true (as_); obtain ⟨ad525, e525, hx525_0⟩ := Kd.at_int HR1.out t523 p525 q525; cases e525; replace hx525_0 := (HB.out.cell (World.block_lt_of_cell? w _ hx525_0)).trans hx525_0; replace p525 := eq_true p525; replace q525 := eq_true q525))
                           repeat (go_quiet (first | (go_at_call 88; (with_reducible refine (spec_GapAt.calls kj112 a0_0 a0_1 a2_0 (Int.tmod (wrap64 (a2_1 + (rd y519 x19_7))) 4) t523 _ A118.out).mono ?_); rintro e w139 ⟨rfl, hb⟩; replace HO_15 := Aside0.mk (Kd.R_below (kr_ HO_15.out) hb); replace BK501 := Aside0.mk (bb_ BK501.out hb); replace BK502 := Aside0.mk (bb_ BK502.out hb); replace BK503 := Aside0.mk (bb_ BK503.out hb); replace HB := Aside0.mk (below_step (hb3_ HB.out GE501.out GE502.out GE503.out) hb); (try clear hb); (try clear hb2); (try clear hk); (try clear hi); obtain ⟨hcz140_0, hcz140_1, hcz140_2⟩ := cz3_ BK501.out; obtain ⟨hfz140_0, hfz140_1, hfz140_2⟩ := fz3_ BK501.out) | (go_at_call 89; (with_reducible refine (spec_IsPassage.calls a0_0 a0_1 a0_2 t523 true _ A119.out).mono ?_); rintro e w141 ⟨rfl, hb⟩; replace HO_15 := Aside0.mk (Kd.R_below (kr_ HO_15.out) hb); replace BK501 := Aside0.mk (bb_ BK501.out hb); replace BK502 := Aside0.mk (bb_ BK502.out hb); replace BK503 := Aside0.mk (bb_ BK503.out hb); replace HB := Aside0.mk (below_step (hb3_ HB.out GE501.out GE502.out GE503.out) hb); (try clear hb); (try clear hb2); (try clear hk); (try clear hi); have p525 : 0 ≤ (t523 : Int) := of_decide_eq_true (as_); have q525 : t523 < (l1.length : Int) := of_decide_eq_true (as_); obtain ⟨ad525, e525, hx525_0⟩ := Kd.at_int HR1.out t523 p525 q525; cases e525; replace hx525_0 := (HB.out.cell (World.block_lt_of_cell? w _ hx525_0)).trans hx525_0; replace p525 := eq_true p525; replace q525 := eq_true q525)); try go_wp2_with (first | (go_at_call 88; (with_reducible refine (spec_GapAt.calls kj112 a0_0 a0_1 a2_0 (Int.tmod (wrap64 (a2_1 + (rd y519 x19_7))) 4) t523 _ A118.out).mono ?_); rintro e w139 ⟨rfl, hb⟩; replace HO_15 := Aside0.mk (Kd.R_below (kr_ HO_15.out) hb); replace BK501 := Aside0.mk (bb_ BK501.out hb); replace BK502 := Aside0.mk (bb_ BK502.out hb); replace BK503 := Aside0.mk (bb_ BK503.out hb); replace HB := Aside0.mk (below_step (hb3_ HB.out GE501.out GE502.out GE503.out) hb); (try clear hb); (try clear hb2); (try clear hk); (try clear hi); obtain ⟨hcz140_0, hcz140_1, hcz140_2⟩ := cz3_ BK501.out; obtain ⟨hfz140_0, hfz140_1, hfz140_2⟩ := fz3_ BK501.out) | (go_at_call 89; (with_reducible refine (spec_IsPassage.calls a0_0 a0_1 a0_2 t523 true _ A119.out).mono ?_); rintro e w141 ⟨rfl, hb⟩; replace HO_15 := Aside0.mk (Kd.R_below (kr_ HO_15.out) hb); replace BK501 := Aside0.mk (bb_ BK501.out hb); replace BK502 := Aside0.mk (bb_ BK502.out hb); replace BK503 := Aside0.mk (bb_ BK503.out hb); replace HB := Aside0.mk (below_step (hb3_ HB.out GE501.out GE502.out GE503.out) hb); (try clear hb); (try clear hb2); (try clear hk); (try clear hi); have p525 : 0 ≤ (t523 : Int) := of_decide_eq_true (as_); have q525 : t523 < (l1.length : Int) := of_decide_eq_true (as_); obtain ⟨ad525, e525, hx525_0⟩ := Kd.at_int HR1.out t523 p525 q525; cases e525; replace hx525_0 := (HB.out.cell (World.block_lt_of_cell? w _ hx525_0)).trans hx525_0; replace p525 := eq_true p525; replace q525 := eq_true q525)))
                           go_roundg kj112
                           case measure => have := HJ3.out; have := HK2.out; have := HJ63.out; have := HJ68.out; have := HK5.out; have := HJ72.out; have := HK7.out; have := HJ112.out; omega
                           case rel => exact ⟨(x14_7), (wrap64 (x19_7 + 1)), (by first | rfl | (simp; done) | (simp [*]; done)), (by first | rfl | (simp; done) | (simp [*]; done)), H', ⟨by have := HJ3.out; have := HK2.out; have := HJ63.out; have := HJ68.out; have := HK5.out; have := HJ72.out; have := HK7.out; have := HJ112.out; omega⟩, ⟨kr_ HO_15.out⟩, ⟨bk_ BK501.out⟩, ⟨bk_ BK502.out⟩, ⟨bk_ BK503.out⟩, ⟨hb3_ HB.out GE501.out GE502.out GE503.out⟩⟩
                         ·rw [if_neg c122] at H
                          exact absurd H (by simp)
                        ·rw [if_neg c121] at H
                         exact absurd H (by simp)
                       ·replace c120 := Bool.eq_false_iff.mpr c120
                        subst c120
                        have H1 : (spec_TremauxStep.l2 kj112 l1 x14_7 y519 (wrap64 (x19_7 + 1)) a0_0 a0_1 a0_2 a2_0 a2_1) = some (r1, r2, r3) := by rw [if_neg (show ¬ (false = true) by decide)] at H; exact H
                        clear H
                        have H := H1
                        clear H1
                        have H' := Aside0.mk H
                        clear H
                        have hnb142 := NB502_501.out
                        have hnc142 := NB501_502.out
                        have hnb143 := NB502_503.out
                        have hnc143 := NB503_502.out
                        obtain ⟨hcz144_0, hcz144_1⟩ := cz2_ BK502.out
                        obtain ⟨hfz144_0, hfz144_1⟩ := fz2_ BK502.out
                        obtain ⟨Ao145, co145, eo145⟩ := Kd.R_slice HO_15.out
                        subst eo145
                        have p522 : 0 ≤ (x19_7 : Int) := of_decide_eq_true (as_)
                        have q522 : x19_7 < (y519.length : Int) := of_decide_eq_true (as_)
                        obtain ⟨ad522, e522, hx522_0⟩ := Kd.at_int (Kd.R_reads' HO_15.out).2.2 x19_7 p522 q522
                        cases e522
                        replace p522 := eq_true p522
                        replace q522 := eq_true q522
                        have hnb146 := NB501_503.out
                        have hnc146 := NB503_501.out
                        obtain ⟨hcz147_0, hcz147_1, hcz147_2⟩ := cz3_ BK501.out
                        obtain ⟨hfz147_0, hfz147_1, hfz147_2⟩ := fz3_ BK501.out
                        go_wp2_with (first | (go_at_call 88; (with_reducible refine (spec_GapAt.calls kj112 a0_0 a0_1 a2_0 (Int.tmod (wrap64 (a2_1 + (rd y519 x19_7))) 4) t523 _ A118.out).mono ?_); rintro e w148 ⟨rfl, hb⟩; replace HO_15 := Aside0.mk (Kd.R_below (kr_ HO_15.out) hb); replace BK501 := Aside0.mk (bb_ BK501.out hb); replace BK502 := Aside0.mk (bb_ BK502.out hb); replace BK503 := Aside0.mk (bb_ BK503.out hb); replace HB := Aside0.mk (below_step (hb3_ HB.out GE501.out GE502.out GE503.out) hb); (try clear hb); (try clear hb2); (try clear hk); (try clear hi); obtain ⟨hcz149_0, hcz149_1, hcz149_2⟩ := cz3_ BK501.out; obtain ⟨hfz149_0, hfz149_1, hfz149_2⟩ := fz3_ BK501.out) | (go_at_call 89; (with_reducible refine (spec_IsPassage.calls a0_0 a0_1 a0_2 t523 false _ A119.out).mono ?_); rintro e w150 ⟨rfl, hb⟩; replace HO_15 := Aside0.mk (Kd.R_below (kr_ HO_15.out) hb); replace BK501 := Aside0.mk (bb_ BK501.out hb); replace BK502 := Aside0.mk (bb_ BK502.out hb); replace BK503 := Aside0.mk (bb_ BK503.out hb); replace HB := Aside0.mk (below_step (hb3_ HB.out GE501.out GE502.out GE503.out) hb); (try clear hb); (try clear hb2); (try clear hk); (try clear hi)))
                        repeat (go_quiet (first | (go_at_call 88; (with_reducible refine (spec_GapAt.calls kj112 a0_0 a0_1 a2_0 (Int.tmod (wrap64 (a2_1 + (rd y519 x19_7))) 4) t523 _ A118.out).mono ?_); rintro e w148 ⟨rfl, hb⟩; replace HO_15 := Aside0.mk (Kd.R_below (kr_ HO_15.out) hb); replace BK501 := Aside0.mk (bb_ BK501.out hb); replace BK502 := Aside0.mk (bb_ BK502.out hb); replace BK503 := Aside0.mk (bb_ BK503.out hb); replace HB := Aside0.mk (below_step (hb3_ HB.out GE501.out GE502.out GE503.out) hb); (try clear hb); (try clear hb2); (try clear hk); (try clear hi); obtain ⟨hcz149_0, hcz149_1, hcz149_2⟩ := cz3_ BK501.out; obtain ⟨hfz149_0, hfz149_1, hfz149_2⟩ := fz3_ BK501.out) | (go_at_call 89; (with_reducible refine (spec_IsPassage.calls a0_0 a0_1 a0_2 t523 false _ A119.out).mono ?_); rintro e w150 ⟨rfl, hb⟩; replace HO_15 := Aside0.mk (Kd.R_below (kr_ HO_15.out) hb); replace BK501 := Aside0.mk (bb_ BK501.out hb); replace BK502 := Aside0.mk (bb_ BK502.out hb); replace BK503 := Aside0.mk (bb_ BK503.out hb); replace HB := Aside0.mk (below_step (hb3_ HB.out GE501.out GE502.out GE503.out) hb); (try clear hb); (try clear hb2); (try clear hk); (try clear hi))); try go_wp2_with (first | (go_at_call 88; (with_reducible refine (spec_GapAt.calls kj112 a0_0 a0_1 a2_0 (Int.tmod (wrap64 (a2_1 + (rd y519 x19_7))) 4) t523 _ A118.out).mono ?_); rintro e w148 ⟨rfl, hb⟩; replace HO_15 := Aside0.mk (Kd.R_below (kr_ HO_15.out) hb); replace BK501 := Aside0.mk (bb_ BK501.out hb); replace BK502 := Aside0.mk (bb_ BK502.out hb); replace BK503 := Aside0.mk (bb_ BK503.out hb); replace HB := Aside0.mk (below_step (hb3_ HB.out GE501.out GE502.out GE503.out) hb); (try clear hb); (try clear hb2); (try clear hk); (try clear hi); obtain ⟨hcz149_0, hcz149_1, hcz149_2⟩ := cz3_ BK501.out; obtain ⟨hfz149_0, hfz149_1, hfz149_2⟩ := fz3_ BK501.out) | (go_at_call 89; (with_reducible refine (spec_IsPassage.calls a0_0 a0_1 a0_2 t523 false _ A119.out).mono ?_); rintro e w150 ⟨rfl, hb⟩; replace HO_15 := Aside0.mk (Kd.R_below (kr_ HO_15.out) hb); replace BK501 := Aside0.mk (bb_ BK501.out hb); replace BK502 := Aside0.mk (bb_ BK502.out hb); replace BK503 := Aside0.mk (bb_ BK503.out hb); replace HB := Aside0.mk (below_step (hb3_ HB.out GE501.out GE502.out GE503.out) hb); (try clear hb); (try clear hb2); (try clear hk); (try clear hi))))
                        go_roundg kj112
                        case measure => have := HJ3.out; have := HK2.out; have := HJ63.out; have := HJ68.out; have := HK5.out; have := HJ72.out; have := HK7.out; have := HJ112.out; omega
                        case rel => exact ⟨(x14_7), (wrap64 (x19_7 + 1)), (by first | rfl | (simp; done) | (simp [*]; done)), (by first | rfl | (simp; done) | (simp [*]; done)), H', ⟨by have := HJ3.out; have := HK2.out; have := HJ63.out; have := HJ68.out; have := HK5.out; have := HJ72.out; have := HK7.out; have := HJ112.out; omega⟩, ⟨kr_ HO_15.out⟩, ⟨bk_ BK501.out⟩, ⟨bk_ BK502.out⟩, ⟨bk_ BK503.out⟩, ⟨hb3_ HB.out GE501.out GE502.out GE503.out⟩⟩
                      ·rw [if_neg c117] at H
                       exact absurd H (by simp)
                     ·rw [if_neg c116] at H
                      exact absurd H (by simp)
                    ·replace c115 := Bool.eq_false_iff.mpr c115
                     subst c115
                     have H1 : (if x14_7 < 0 then (some (a2_0, a2_1, false)) else ((spec_Step.f kj112 a0_0 a0_1 a0_2 a2_0 x14_7).bind fun t526 => (some (t526, x14_7, true)))) = some (r1, r2, r3) := by rw [if_neg (show ¬ (false = true) by decide)] at H; exact H
                     clear H
                     have H := H1
                     clear H1
                     by_cases c151 : x14_7 < 0
                     ·rw [if_pos c151] at H
                      have c151b0 : decide (x14_7 < 0) = true := decide_eq_true c151
                      clear c151
                      simp only [Option.some.injEq, Prod.mk.injEq] at H
                      obtain ⟨rfl, rfl, rfl⟩ := H
                      have hnb152 := NB502_501.out
                      have hnc152 := NB501_502.out
                      have hnb153 := NB502_503.out
                      have hnc153 := NB503_502.out
                      obtain ⟨hcz154_0, hcz154_1⟩ := cz2_ BK502.out
                      obtain ⟨hfz154_0, hfz154_1⟩ := fz2_ BK502.out
                      have hnb155 := NB503_501.out
                      have hnc155 := NB501_503.out
                      obtain ⟨hcz156_0, hcz156_1⟩ := cz2_ BK503.out
                      obtain ⟨hfz156_0, hfz156_1⟩ := fz2_ BK503.out
                      go_wp2
                      repeat (go_quiet (fail); try go_wp2)
                      refine bodyPost_ret (results_ct rfl _ _ gb503 65 #[.int .i64 a2_0, .int .i64 a2_1] (0, 0) _ rfl (by (with_reducible repeat (first | refine blk_drewN ?_ _ | refine blk_drew ?_ | refine blk_alloc ?_ _)); refine blk_put (cs := #[.int .i64 a2_0, .int .i64 0]) ?_ 1 _ rfl; (with_reducible repeat (first | refine blk_drewN ?_ _ | refine blk_drew ?_ | refine blk_alloc ?_ _)); refine blk_put (cs := #[.int .i64 0, .int .i64 0]) ?_ 0 _ rfl; (with_reducible repeat (first | refine blk_drewN ?_ _ | refine blk_drew ?_ | refine blk_alloc ?_ _)); exact BK503.out) Try.underlying65 rfl (by kernel_rfl)) rfl ?_
                      exact ⟨by first | rfl | (simp [errW_none, errW_some] <;> rfl) | (simp [*, errW_none, errW_some] <;> rfl), hb3_ HB.out GE501.out GE502.out GE503.out⟩
                     ·rw [if_neg c151] at H
                      have c151b0 : decide (x14_7 < 0) = false := decide_eq_false c151
                      clear c151
                      replace H := Option.bind_eq_some_iff.mp H
                      obtain ⟨t526, A1570, H⟩ := H
                      replace H : (some (t526, x14_7, true)) = some (r1, r2, r3) := H
                      have A157 := Aside0.mk A1570
                      clear A1570
                      simp only [Option.some.injEq, Prod.mk.injEq] at H
                      obtain ⟨rfl, rfl, rfl⟩ := H
                      have hnb158 := NB501_502.out
                      have hnc158 := NB502_501.out
                      have hnb159 := NB501_503.out
                      have hnc159 := NB503_501.out
                      obtain ⟨hcz160_0, hcz160_1, hcz160_2⟩ := cz3_ BK501.out
                      obtain ⟨hfz160_0, hfz160_1, hfz160_2⟩ := fz3_ BK501.out
                      have hnb161 := NB502_503.out
                      have hnc161 := NB503_502.out
                      obtain ⟨hcz162_0, hcz162_1⟩ := cz2_ BK502.out
                      obtain ⟨hfz162_0, hfz162_1⟩ := fz2_ BK502.out
                      go_wp2_with (first | (go_at_call 68; (with_reducible refine (spec_Step.calls kj112 a0_0 a0_1 a0_2 a2_0 x14_7 t526 _ A157.out).mono ?_); rintro e w163 ⟨rfl, hb⟩; replace HO_15 := Aside0.mk (Kd.R_below (kr_ HO_15.out) hb); replace BK501 := Aside0.mk (bb_ BK501.out hb); replace BK502 := Aside0.mk (bb_ BK502.out hb); replace BK503 := Aside0.mk (bb_ BK503.out hb); replace HB := Aside0.mk (below_step (hb3_ HB.out GE501.out GE502.out GE503.out) hb); (try clear hb); (try clear hb2); (try clear hk); (try clear hi); obtain ⟨hcz164_0, hcz164_1⟩ := cz2_ BK503.out; obtain ⟨hfz164_0, hfz164_1⟩ := fz2_ BK503.out))
                      repeat (go_quiet (first | (go_at_call 68; (with_reducible refine (spec_Step.calls kj112 a0_0 a0_1 a0_2 a2_0 x14_7 t526 _ A157.out).mono ?_); rintro e w163 ⟨rfl, hb⟩; replace HO_15 := Aside0.mk (Kd.R_below (kr_ HO_15.out) hb); replace BK501 := Aside0.mk (bb_ BK501.out hb); replace BK502 := Aside0.mk (bb_ BK502.out hb); replace BK503 := Aside0.mk (bb_ BK503.out hb); replace HB := Aside0.mk (below_step (hb3_ HB.out GE501.out GE502.out GE503.out) hb); (try clear hb); (try clear hb2); (try clear hk); (try clear hi); obtain ⟨hcz164_0, hcz164_1⟩ := cz2_ BK503.out; obtain ⟨hfz164_0, hfz164_1⟩ := fz2_ BK503.out)); try go_wp2_with (first | (go_at_call 68; (with_reducible refine (spec_Step.calls kj112 a0_0 a0_1 a0_2 a2_0 x14_7 t526 _ A157.out).mono ?_); rintro e w163 ⟨rfl, hb⟩; replace HO_15 := Aside0.mk (Kd.R_below (kr_ HO_15.out) hb); replace BK501 := Aside0.mk (bb_ BK501.out hb); replace BK502 := Aside0.mk (bb_ BK502.out hb); replace BK503 := Aside0.mk (bb_ BK503.out hb); replace HB := Aside0.mk (below_step (hb3_ HB.out GE501.out GE502.out GE503.out) hb); (try clear hb); (try clear hb2); (try clear hk); (try clear hi); obtain ⟨hcz164_0, hcz164_1⟩ := cz2_ BK503.out; obtain ⟨hfz164_0, hfz164_1⟩ := fz2_ BK503.out)))
                      refine bodyPost_ret (results_ct rfl _ _ gb503 65 #[.int .i64 t526, .int .i64 x14_7] (0, 0) _ rfl (by (with_reducible repeat (first | refine blk_drewN ?_ _ | refine blk_drew ?_ | refine blk_alloc ?_ _)); refine blk_put (cs := #[.int .i64 t526, .int .i64 0]) ?_ 1 _ rfl; (with_reducible repeat (first | refine blk_drewN ?_ _ | refine blk_drew ?_ | refine blk_alloc ?_ _)); refine blk_put (cs := #[.int .i64 0, .int .i64 0]) ?_ 0 _ rfl; (with_reducible repeat (first | refine blk_drewN ?_ _ | refine blk_drew ?_ | refine blk_alloc ?_ _)); exact BK503.out) Try.underlying65 rfl (by kernel_rfl)) rfl ?_
                      exact ⟨by first | rfl | (simp [errW_none, errW_some] <;> rfl) | (simp [*, errW_none, errW_some] <;> rfl), hb3_ HB.out GE501.out GE502.out GE503.out⟩

end Go.Proofs.Ytekgbinadmjapaa.X
