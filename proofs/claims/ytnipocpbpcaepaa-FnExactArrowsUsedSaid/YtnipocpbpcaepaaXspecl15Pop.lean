-- Written by a program of this session (xprint.py), out of the translation and of hand-written contracts. Lean checks it.
import Derived.Test.YtnipocpbpcaepaaX0
import Derived.Test.YtnipocpbpcaepaaXcnbr
import Derived.Test.YtnipocpbpcaepaaXspecSetGap
namespace Go.Proofs.Ytnipocpbpcaepaa.X
open Go.RowKit Go.Proofs.YtnipocpbpcaepaaW.PrintWords Go.Proofs.YtnipocpbpcaepaaW.PrintLast Go.Proofs.YtnipocpbpcaepaaW.PrintMore
attribute [local go_sem] max2_int min2_int max_two min_two max_three min_three max_four min_four   -- for this text's walks alone
set_option linter.unusedVariables false
set_option linter.unusedSimpArgs false

/-! ### spec_l15Pop: function 24 -/
mutual
def spec_l15Pop.l0 : Nat → List (List Int) → List Int → List Int → List Bool → Int → Int → Int → Int → Int → Int → Int → Option (Int × Int × Int × Int × Bool)
 | 0, _, _, _, _, _, _, _, _, _, _, _ => none
 | k + 1, x1, x2, x10, x11, x12, x13, x502000, x502001, x504000, x504001, x504002 => if x13 < (x1.length : Int) then (if x2.length < 17592186044416 then (spec_l15Pop.l0 k x1 (x2 ++ [x13]) x10 x11 x12 (wrap64 (x13 + 1)) x502000 x502001 x504000 x504001 x504002) else (none)) else (spec_l15Pop.l1 k x1 x2 x10 x11 x12 0 x502000 x502001 x504000 x504001 x504002)
def spec_l15Pop.l1 : Nat → List (List Int) → List Int → List Int → List Bool → Int → Int → Int → Int → Int → Int → Int → Option (Int × Int × Int × Int × Bool)
 | 0, _, _, _, _, _, _, _, _, _, _, _ => none
 | k + 1, x1, x2, x10, x11, x12, x14, x502000, x502001, x504000, x504001, x504002 => if x14 < (x2.length : Int) then (if 0 ≤ x14 then (spec_l15Pop.l2 k x1 x2 x10 x11 x12 x14 (([] : List Int)) (rd x2 x14) x502000 x502001 x504000 x504001 x504002) else (none)) else (some (x504000, x504001, x504002, x12, true))
def spec_l15Pop.l2 : Nat → List (List Int) → List Int → List Int → List Bool → Int → Int → List Int → Int → Int → Int → Int → Int → Int → Option (Int × Int × Int × Int × Bool)
 | 0, _, _, _, _, _, _, _, _, _, _, _, _, _ => none
 | k + 1, x1, x2, x10, x11, x12, x14, x15, x16, x502000, x502001, x504000, x504001, x504002 => if 0 ≤ x16 then (if x16 < (x11.length : Int) then (if rdOf false x11 x16 = true then (spec_l15Pop.l5 k x1 x2 x10 x11 x12 x14 x15 0 x502000 x502001 x504000 x504001 x504002) else (spec_l15Pop.l3 k x1 x2 x10 x11 x12 x14 x15 x16 (-1) 0 x502000 x502001 x504000 x504001 x504002)) else (none)) else (none)
def spec_l15Pop.l5 : Nat → List (List Int) → List Int → List Int → List Bool → Int → Int → List Int → Int → Int → Int → Int → Int → Int → Option (Int × Int × Int × Int × Bool)
 | 0, _, _, _, _, _, _, _, _, _, _, _, _, _ => none
 | k + 1, x1, x2, x10, x11, x12, x14, x15, x20, x502000, x502001, x504000, x504001, x504002 => if x20 < (x15.length : Int) then (if 0 ≤ x20 then (if 0 ≤ (rd x15 x20) then (if (rd x15 x20) < (x11.length : Int) then (if (rd x15 x20) < (x1.length : Int) then (if (rd x15 x20) < (x10.length : Int) then (if 0 ≤ (rd x10 (rd x15 x20)) then (if (rd x10 (rd x15 x20)) < ((rd_L1 x1 (rd x15 x20)).length : Int) then ((spec_GapAt.f k x502000 x502001 (rd x15 x20) (rd (rd_L1 x1 (rd x15 x20)) (rd x10 (rd x15 x20)))).bind fun t553 => ((spec_SetGap.f k x504000 x504001 x504002 t553 true).bind fun bt554 => (spec_l15Pop.l5 k x1 x2 x10 (x11.set ((rd x15 x20) : Int).toNat true) x12 x14 x15 (wrap64 (x20 + 1)) x502000 x502001 bt554.1 bt554.2.1 bt554.2.2.1))) else (none)) else (none)) else (none)) else (none)) else (none)) else (none)) else (none)) else (spec_l15Pop.l1 k x1 x2 x10 x11 x12 (wrap64 (x14 + 1)) x502000 x502001 x504000 x504001 x504002)
def spec_l15Pop.l3 : Nat → List (List Int) → List Int → List Int → List Bool → Int → Int → List Int → Int → Int → Int → Int → Int → Int → Int → Int → Option (Int × Int × Int × Int × Bool)
 | 0, _, _, _, _, _, _, _, _, _, _, _, _, _, _, _ => none
 | k + 1, x1, x2, x10, x11, x12, x14, x15, x16, x17, x18, x502000, x502001, x504000, x504001, x504002 => if x18 < (x15.length : Int) then (if 0 ≤ x18 then (if (rd x15 x18) = x16 then (spec_l15Pop.l3 k x1 x2 x10 x11 x12 x14 x15 x16 x18 (wrap64 (x18 + 1)) x502000 x502001 x504000 x504001 x504002) else (spec_l15Pop.l3 k x1 x2 x10 x11 x12 x14 x15 x16 x17 (wrap64 (x18 + 1)) x502000 x502001 x504000 x504001 x504002)) else (none)) else (if x17 ≥ 0 then (spec_l15Pop.l4 k x1 x2 x10 x11 x12 x14 x15 x16 x17 x17 x502000 x502001 x504000 x504001 x504002) else (if 0 ≤ x16 then (if x16 < (x10.length : Int) then (if x16 < (x1.length : Int) then (if (rd x10 x16) ≥ ((rd_L1 x1 x16).length : Int) then (some (x504000, x504001, x504002, 0, false)) else (if x15.length < 17592186044416 then (if 0 ≤ (rd x10 x16) then (if (rd x10 x16) < ((rd_L1 x1 x16).length : Int) then ((spec_Neighbor.f k x502000 x502001 x16 (rd (rd_L1 x1 x16) (rd x10 x16))).bind fun t544 => (spec_l15Pop.l2 k x1 x2 x10 x11 x12 x14 (x15 ++ [x16]) t544 x502000 x502001 x504000 x504001 x504002)) else (none)) else (none)) else (none))) else (none)) else (none)) else (none)))
def spec_l15Pop.l4 : Nat → List (List Int) → List Int → List Int → List Bool → Int → Int → List Int → Int → Int → Int → Int → Int → Int → Int → Int → Option (Int × Int × Int × Int × Bool)
 | 0, _, _, _, _, _, _, _, _, _, _, _, _, _, _, _ => none
 | k + 1, x1, x2, x10, x11, x12, x14, x15, x16, x17, x19, x502000, x502001, x504000, x504001, x504002 => if x19 < (x15.length : Int) then (if 0 ≤ x19 then (if 0 ≤ (rd x15 x19) then (if (rd x15 x19) < (x10.length : Int) then (spec_l15Pop.l4 k x1 x2 (x10.set ((rd x15 x19) : Int).toNat (wrap64 ((rd x10 (rd x15 x19)) + 1))) x11 (wrap64 (x12 + 1)) x14 x15 x16 x17 (wrap64 (x19 + 1)) x502000 x502001 x504000 x504001 x504002) else (none)) else (none)) else (none)) else (if 0 ≤ x17 then (if x17 ≤ (x15.length : Int) then ((some (x15.take (x17 : Int).toNat : List Int)).bind fun y524 => (if 0 ≤ x16 then (if x16 < (x10.length : Int) then (if x16 < (x1.length : Int) then (if (rd x10 x16) ≥ ((rd_L1 x1 x16).length : Int) then (some (x504000, x504001, x504002, 0, false)) else (if y524.length < 17592186044416 then (if 0 ≤ (rd x10 x16) then (if (rd x10 x16) < ((rd_L1 x1 x16).length : Int) then ((spec_Neighbor.f k x502000 x502001 x16 (rd (rd_L1 x1 x16) (rd x10 x16))).bind fun t535 => (spec_l15Pop.l2 k x1 x2 x10 x11 x12 x14 (y524 ++ [x16]) t535 x502000 x502001 x504000 x504001 x504002)) else (none)) else (none)) else (none))) else (none)) else (none)) else (none))) else (none)) else (none))
end
def spec_l15Pop.f (k : Nat) (a0_0 : Int) (a0_1 : Int) (l1 : List (List Int)) (l2 : List Int) : Option (Int × Int × Int × Int × Bool) := if 0 ≤ (l1.length : Int) then (if ((l1.length : Int) : Int).toNat ≤ 35184372088832 then (if ((l1.length : Int) : Int).toNat ≤ 281474976710656 then ((some (List.replicate ((l1.length : Int) : Int).toNat false : List Bool)).bind fun y507 => (if 0 < (y507.length : Int) then (spec_l15Pop.l0 k l1 l2 (List.replicate ((l1.length : Int) : Int).toNat 0) (y507.set (0 : Int).toNat true) 0 0 a0_0 a0_1 a0_0 a0_1 0) else (none))) else (none)) else (none)) else (none)
theorem spec_l15Pop.mono_l : ∀ k, (∀ y0 y1 y2 y3 y4 y5 y6 y7 y8 y9 y10, LeO (spec_l15Pop.l0 k y0 y1 y2 y3 y4 y5 y6 y7 y8 y9 y10) (spec_l15Pop.l0 (k + 1) y0 y1 y2 y3 y4 y5 y6 y7 y8 y9 y10)) ∧ (∀ y0 y1 y2 y3 y4 y5 y6 y7 y8 y9 y10, LeO (spec_l15Pop.l1 k y0 y1 y2 y3 y4 y5 y6 y7 y8 y9 y10) (spec_l15Pop.l1 (k + 1) y0 y1 y2 y3 y4 y5 y6 y7 y8 y9 y10)) ∧ (∀ y0 y1 y2 y3 y4 y5 y6 y7 y8 y9 y10 y11 y12, LeO (spec_l15Pop.l2 k y0 y1 y2 y3 y4 y5 y6 y7 y8 y9 y10 y11 y12) (spec_l15Pop.l2 (k + 1) y0 y1 y2 y3 y4 y5 y6 y7 y8 y9 y10 y11 y12)) ∧ (∀ y0 y1 y2 y3 y4 y5 y6 y7 y8 y9 y10 y11 y12, LeO (spec_l15Pop.l5 k y0 y1 y2 y3 y4 y5 y6 y7 y8 y9 y10 y11 y12) (spec_l15Pop.l5 (k + 1) y0 y1 y2 y3 y4 y5 y6 y7 y8 y9 y10 y11 y12)) ∧ (∀ y0 y1 y2 y3 y4 y5 y6 y7 y8 y9 y10 y11 y12 y13 y14, LeO (spec_l15Pop.l3 k y0 y1 y2 y3 y4 y5 y6 y7 y8 y9 y10 y11 y12 y13 y14) (spec_l15Pop.l3 (k + 1) y0 y1 y2 y3 y4 y5 y6 y7 y8 y9 y10 y11 y12 y13 y14)) ∧ (∀ y0 y1 y2 y3 y4 y5 y6 y7 y8 y9 y10 y11 y12 y13 y14, LeO (spec_l15Pop.l4 k y0 y1 y2 y3 y4 y5 y6 y7 y8 y9 y10 y11 y12 y13 y14) (spec_l15Pop.l4 (k + 1) y0 y1 y2 y3 y4 y5 y6 y7 y8 y9 y10 y11 y12 y13 y14))
 | 0 => ⟨fun _ _ _ _ _ _ _ _ _ _ _ r h => by simp [spec_l15Pop.l0] at h, fun _ _ _ _ _ _ _ _ _ _ _ r h => by simp [spec_l15Pop.l1] at h, fun _ _ _ _ _ _ _ _ _ _ _ _ _ r h => by simp [spec_l15Pop.l2] at h, fun _ _ _ _ _ _ _ _ _ _ _ _ _ r h => by simp [spec_l15Pop.l5] at h, fun _ _ _ _ _ _ _ _ _ _ _ _ _ _ _ r h => by simp [spec_l15Pop.l3] at h, fun _ _ _ _ _ _ _ _ _ _ _ _ _ _ _ r h => by simp [spec_l15Pop.l4] at h⟩
 | k + 1 => by
  obtain ⟨ih0, ih1, ih2, ih3, ih4, ih5⟩ := spec_l15Pop.mono_l k
  refine ⟨?_, ?_, ?_, ?_, ?_, ?_⟩
  ·intro y0 y1 y2 y3 y4 y5 y6 y7 y8 y9 y10
   unfold spec_l15Pop.l0
   repeat' first
   | (with_reducible exact ih0 ..)
   | (with_reducible exact ih1 ..)
   | (with_reducible exact ih2 ..)
   | (with_reducible exact ih3 ..)
   | (with_reducible exact ih4 ..)
   | (with_reducible exact ih5 ..)
   | (with_reducible exact spec_GapAt.mono ..)
   | (with_reducible exact spec_Neighbor.mono ..)
   | (with_reducible exact spec_SetGap.mono ..)
   | (with_reducible first | exact lr_ _ | exact ln_ _ | refine li_ ?_ ?_ | refine lb_ ?_ fun _ => ?_)
   | exact ih0 ..
   | exact ih1 ..
   | exact ih2 ..
   | exact ih3 ..
   | exact ih4 ..
   | exact ih5 ..
   | exact spec_GapAt.mono ..
   | exact spec_Neighbor.mono ..
   | exact spec_SetGap.mono ..
   | exact ln_ _ | refine li_ ?_ ?_ | refine lb_ ?_ fun _ => ?_
  ·intro y0 y1 y2 y3 y4 y5 y6 y7 y8 y9 y10
   unfold spec_l15Pop.l1
   repeat' first
   | (with_reducible exact ih0 ..)
   | (with_reducible exact ih1 ..)
   | (with_reducible exact ih2 ..)
   | (with_reducible exact ih3 ..)
   | (with_reducible exact ih4 ..)
   | (with_reducible exact ih5 ..)
   | (with_reducible exact spec_GapAt.mono ..)
   | (with_reducible exact spec_Neighbor.mono ..)
   | (with_reducible exact spec_SetGap.mono ..)
   | (with_reducible first | exact lr_ _ | exact ln_ _ | refine li_ ?_ ?_ | refine lb_ ?_ fun _ => ?_)
   | exact ih0 ..
   | exact ih1 ..
   | exact ih2 ..
   | exact ih3 ..
   | exact ih4 ..
   | exact ih5 ..
   | exact spec_GapAt.mono ..
   | exact spec_Neighbor.mono ..
   | exact spec_SetGap.mono ..
   | exact ln_ _ | refine li_ ?_ ?_ | refine lb_ ?_ fun _ => ?_
  ·intro y0 y1 y2 y3 y4 y5 y6 y7 y8 y9 y10 y11 y12
   unfold spec_l15Pop.l2
   repeat' first
   | (with_reducible exact ih0 ..)
   | (with_reducible exact ih1 ..)
   | (with_reducible exact ih2 ..)
   | (with_reducible exact ih3 ..)
   | (with_reducible exact ih4 ..)
   | (with_reducible exact ih5 ..)
   | (with_reducible exact spec_GapAt.mono ..)
   | (with_reducible exact spec_Neighbor.mono ..)
   | (with_reducible exact spec_SetGap.mono ..)
   | (with_reducible first | exact lr_ _ | exact ln_ _ | refine li_ ?_ ?_ | refine lb_ ?_ fun _ => ?_)
   | exact ih0 ..
   | exact ih1 ..
   | exact ih2 ..
   | exact ih3 ..
   | exact ih4 ..
   | exact ih5 ..
   | exact spec_GapAt.mono ..
   | exact spec_Neighbor.mono ..
   | exact spec_SetGap.mono ..
   | exact ln_ _ | refine li_ ?_ ?_ | refine lb_ ?_ fun _ => ?_
  ·intro y0 y1 y2 y3 y4 y5 y6 y7 y8 y9 y10 y11 y12
   unfold spec_l15Pop.l5
   repeat' first
   | (with_reducible exact ih0 ..)
   | (with_reducible exact ih1 ..)
   | (with_reducible exact ih2 ..)
   | (with_reducible exact ih3 ..)
   | (with_reducible exact ih4 ..)
   | (with_reducible exact ih5 ..)
   | (with_reducible exact spec_GapAt.mono ..)
   | (with_reducible exact spec_Neighbor.mono ..)
   | (with_reducible exact spec_SetGap.mono ..)
   | (with_reducible first | exact lr_ _ | exact ln_ _ | refine li_ ?_ ?_ | refine lb_ ?_ fun _ => ?_)
   | exact ih0 ..
   | exact ih1 ..
   | exact ih2 ..
   | exact ih3 ..
   | exact ih4 ..
   | exact ih5 ..
   | exact spec_GapAt.mono ..
   | exact spec_Neighbor.mono ..
   | exact spec_SetGap.mono ..
   | exact ln_ _ | refine li_ ?_ ?_ | refine lb_ ?_ fun _ => ?_
  ·intro y0 y1 y2 y3 y4 y5 y6 y7 y8 y9 y10 y11 y12 y13 y14
   unfold spec_l15Pop.l3
   repeat' first
   | (with_reducible exact ih0 ..)
   | (with_reducible exact ih1 ..)
   | (with_reducible exact ih2 ..)
   | (with_reducible exact ih3 ..)
   | (with_reducible exact ih4 ..)
   | (with_reducible exact ih5 ..)
   | (with_reducible exact spec_GapAt.mono ..)
   | (with_reducible exact spec_Neighbor.mono ..)
   | (with_reducible exact spec_SetGap.mono ..)
   | (with_reducible first | exact lr_ _ | exact ln_ _ | refine li_ ?_ ?_ | refine lb_ ?_ fun _ => ?_)
   | exact ih0 ..
   | exact ih1 ..
   | exact ih2 ..
   | exact ih3 ..
   | exact ih4 ..
   | exact ih5 ..
   | exact spec_GapAt.mono ..
   | exact spec_Neighbor.mono ..
   | exact spec_SetGap.mono ..
   | exact ln_ _ | refine li_ ?_ ?_ | refine lb_ ?_ fun _ => ?_
  ·intro y0 y1 y2 y3 y4 y5 y6 y7 y8 y9 y10 y11 y12 y13 y14
   unfold spec_l15Pop.l4
   repeat' first
   | (with_reducible exact ih0 ..)
   | (with_reducible exact ih1 ..)
   | (with_reducible exact ih2 ..)
   | (with_reducible exact ih3 ..)
   | (with_reducible exact ih4 ..)
   | (with_reducible exact ih5 ..)
   | (with_reducible exact spec_GapAt.mono ..)
   | (with_reducible exact spec_Neighbor.mono ..)
   | (with_reducible exact spec_SetGap.mono ..)
   | (with_reducible first | exact lr_ _ | exact ln_ _ | refine li_ ?_ ?_ | refine lb_ ?_ fun _ => ?_)
   | exact ih0 ..
   | exact ih1 ..
   | exact ih2 ..
   | exact ih3 ..
   | exact ih4 ..
   | exact ih5 ..
   | exact spec_GapAt.mono ..
   | exact spec_Neighbor.mono ..
   | exact spec_SetGap.mono ..
   | exact ln_ _ | refine li_ ?_ ?_ | refine lb_ ?_ fun _ => ?_
theorem spec_l15Pop.mono : ∀ a0 a1 a2 a3 k, LeO (spec_l15Pop.f k a0 a1 a2 a3) (spec_l15Pop.f (k + 1) a0 a1 a2 a3) := by
 intro a0 a1 a2 a3 k
 obtain ⟨ih0, ih1, ih2, ih3, ih4, ih5⟩ := spec_l15Pop.mono_l k
 unfold spec_l15Pop.f
 repeat' first
   | (with_reducible exact ih0 ..)
   | (with_reducible exact ih1 ..)
   | (with_reducible exact ih2 ..)
   | (with_reducible exact ih3 ..)
   | (with_reducible exact ih4 ..)
   | (with_reducible exact ih5 ..)
   | (with_reducible exact spec_GapAt.mono ..)
   | (with_reducible exact spec_Neighbor.mono ..)
   | (with_reducible exact spec_SetGap.mono ..)
   | (with_reducible first | exact lr_ _ | exact ln_ _ | refine li_ ?_ ?_ | refine lb_ ?_ fun _ => ?_)
   | exact ih0 ..
   | exact ih1 ..
   | exact ih2 ..
   | exact ih3 ..
   | exact ih4 ..
   | exact ih5 ..
   | exact spec_GapAt.mono ..
   | exact spec_Neighbor.mono ..
   | exact spec_SetGap.mono ..
   | exact ln_ _ | refine li_ ?_ ?_ | refine lb_ ?_ fun _ => ?_
def spec_l15Pop.T26 : Bool × List (List Nat × List Nat) := (true, [([], []), ([], []), ([], []), ([1, 2], [1, 2]), ([3], [3]), ([], []), ([], []), ([], []), ([6, 7], [6, 7]), ([8], [8]), ([5, 9], [5, 9]), ([10], [10]), ([11], [11]), ([0, 4, 0, 1, 2, 3, 4, 5, 6, 7, 8, 9, 10, 11, 12], [0, 4]), ([13, 12, 0, 1, 2, 3, 4, 5, 6, 7, 8, 9, 10, 11, 12], [12, 13])])
def spec_l15Pop.B26 : List Nat := [0, 0, 0, 6, 14, 0, 0, 0, 192, 448, 992, 2016, 4064, 8191, 16383]
theorem spec_l15Pop.tab26 : rtab .any (opsOf Try.f24 26) = spec_l15Pop.T26 := by kernel_rfl
theorem spec_l15Pop.bits26 : waitsOk spec_l15Pop.T26.2 spec_l15Pop.B26 = true := by kernel_rfl
def spec_l15Pop.T29 : Bool × List (List Nat × List Nat) := (true, [([], []), ([], []), ([0, 1], [0, 1]), ([2], [2]), ([], []), ([], []), ([4, 5], [4, 5]), ([6], [6]), ([7], [7]), ([3, 8], [3, 8])])
def spec_l15Pop.B29 : List Nat := [0, 0, 3, 7, 0, 0, 48, 112, 240, 511]
theorem spec_l15Pop.tab29 : rtab .any (opsOf Try.f24 29) = spec_l15Pop.T29 := by kernel_rfl
theorem spec_l15Pop.bits29 : waitsOk spec_l15Pop.T29.2 spec_l15Pop.B29 = true := by kernel_rfl
def spec_l15Pop.T32 : Bool × List (List Nat × List Nat) := (true, [([], []), ([], []), ([], []), ([], []), ([2, 3], [2, 3]), ([4], [4]), ([], []), ([], []), ([6, 7], [6, 7]), ([8], [8]), ([5, 9], [5, 9]), ([10], [10]), ([0, 1, 11], [0, 1, 11]), ([12, 12, 0, 1, 2, 3, 4, 5, 6, 7, 8, 9, 10, 11, 12], [1, 3, 7, 12])])
def spec_l15Pop.B32 : List Nat := [0, 0, 0, 0, 12, 28, 0, 0, 192, 448, 1020, 2044, 4095, 8191]
theorem spec_l15Pop.tab32 : rtab .any (opsOf Try.f24 32) = spec_l15Pop.T32 := by kernel_rfl
theorem spec_l15Pop.bits32 : waitsOk spec_l15Pop.T32.2 spec_l15Pop.B32 = true := by kernel_rfl
def spec_l15Pop.T37 : Bool × List (List Nat × List Nat) := (true, [([], []), ([], []), ([], []), ([], []), ([2, 3], [2, 3]), ([4], [4]), ([], []), ([], []), ([], []), ([7, 8], [7, 8]), ([9], [9]), ([6, 10], [6, 10]), ([11], [11]), ([], []), ([], []), ([], []), ([14, 15], [14, 15]), ([16], [16]), ([13, 17], [13, 17]), ([18], [18]), ([12, 19], [12, 19]), ([20], [20]), ([1, 5, 21], [1, 5, 21]), ([0, 22, 22], [0, 22]), ([23], [23]), ([24], [24]), ([24], [24]), ([25, 23, 0, 1, 2, 3, 4, 5, 6, 7, 8, 9, 10, 11, 12, 13, 14, 15, 16, 17, 18, 19, 20, 21, 22, 23, 24, 25], [25])])
def spec_l15Pop.B37 : List Nat := [0, 0, 0, 0, 12, 28, 0, 0, 0, 384, 896, 1984, 4032, 0, 0, 0, 49152, 114688, 253952, 516096, 1048512, 2097088, 4194302, 8388607, 16777215, 33554431, 33554431, 67108863]
theorem spec_l15Pop.tab37 : rtab .any (opsOf Try.f24 37) = spec_l15Pop.T37 := by kernel_rfl
theorem spec_l15Pop.bits37 : waitsOk spec_l15Pop.T37.2 spec_l15Pop.B37 = true := by kernel_rfl
set_option maxHeartbeats 8000000 in
set_option maxRecDepth 100000 in
theorem spec_l15Pop.calls (k : Nat) (a0_0 : Int) (a0_1 : Int) (A1 : Option Addr) (c1 : Nat) (l1 : List (List Int)) (P2_ : Nat → Prop) (u9000_ : Value) (l2 : List Int) (r1 : Int) (r2 : Int) (r3 : Int) (r4 : Int) (r5 : Bool) (w0 w : World) (hB : Below w0.heap.size w0 w) (hr1 : ∀ W_, Kept w W_ (fun k_ => P2_ k_) → Kd.C (Kd.slice 3 (Kd.int .i64)) W_ A1 l1.length l1) (hc1 : l1.length ≤ c1) (ho2 : Kd.R (Kd.int .i64) 3 w w0.heap.size P2_ u9000_ l2) (h : spec_l15Pop.f k a0_0 a0_1 l1 l2 = some (r1, r2, r3, r4, r5)) :
  Calls Try.prog 24 #[.agg #[.int .i64 a0_0, .int .i64 a0_1], .slice A1 l1.length c1, u9000_] w fun e w' => e = .returned (.tuple #[.agg #[.int .i64 r1, .int .i64 r2, .int .i64 r3], .int .i64 r4, .bool r5]) ∧ Below w0.heap.size w0 w' ∧ Kept w w' (fun k_ => P2_ k_) := by
 have hu28 := Try.underlying28
 have hu36 := Try.underlying36
 have HR1 := Aside0.mk hr1
 have HC1 := Aside0.mk hc1
 clear hr1 hc1
 have HO2 := Aside0.mk (show Kd.R (Kd.int .i64) 3 w w0.heap.size (fun k_ => (P2_ k_ ∨ w.heap.size ≤ k_)) u9000_ l2 from Kd.R_mono ho2 (fun k_ hk => (.inl hk)))
 have HK := Aside0.mk (Kept.refl w (fun k_ => P2_ k_))
 have HW0 := Aside0.mk hB.size
 have HB := Aside0.mk hB
 clear hB
 have H : (if 0 ≤ (l1.length : Int) then (if ((l1.length : Int) : Int).toNat ≤ 35184372088832 then (if ((l1.length : Int) : Int).toNat ≤ 281474976710656 then ((some (List.replicate ((l1.length : Int) : Int).toNat false : List Bool)).bind fun y507 => (if 0 < (y507.length : Int) then (spec_l15Pop.l0 k l1 l2 (List.replicate ((l1.length : Int) : Int).toNat 0) (y507.set (0 : Int).toNat true) 0 0 a0_0 a0_1 a0_0 a0_1 0) else (none))) else (none)) else (none)) else (none)) = some (r1, r2, r3, r4, r5) := h
 clear h
 by_cases c4 : 0 ≤ (l1.length : Int)
 ·rw [if_pos c4] at H
  have c4b0 := eq_true c4
  have c4b1 : decide (0 ≤ (l1.length : Int)) = true := decide_eq_true c4
  clear c4
  by_cases c5 : ((l1.length : Int) : Int).toNat ≤ 35184372088832
  ·rw [if_pos c5] at H
   have c5b0 := eq_true c5
   have c5b1 : decide (((l1.length : Int) : Int).toNat ≤ 35184372088832) = true := decide_eq_true c5
   clear c5
   obtain ⟨y504, hy504⟩ : ∃ y_ : List Int, y_ = (List.replicate ((l1.length : Int) : Int).toNat 0) := ⟨_, rfl⟩
   replace H : (if ((l1.length : Int) : Int).toNat ≤ 281474976710656 then ((some (List.replicate ((l1.length : Int) : Int).toNat false : List Bool)).bind fun y507 => (if 0 < (y507.length : Int) then (spec_l15Pop.l0 k l1 l2 y504 (y507.set (0 : Int).toNat true) 0 0 a0_0 a0_1 a0_0 a0_1 0) else (none))) else (none)) = some (r1, r2, r3, r4, r5) := by first | (rw [hy504]; with_reducible exact H) | (have H2_ := (Option.bind_some _ _).symm.trans H; rw [hy504]; with_reducible exact H2_) | (have H2_ := (Option.bind_some _ _).symm.trans H; with_reducible exact H2_) | with_reducible exact H | (rw [hy504]; exact H) | exact H
   have Ny504 := Aside0.mk hy504
   clear hy504
   by_cases c6 : ((l1.length : Int) : Int).toNat ≤ 281474976710656
   ·rw [if_pos c6] at H
    have c6b0 := eq_true c6
    have c6b1 : decide (((l1.length : Int) : Int).toNat ≤ 281474976710656) = true := decide_eq_true c6
    clear c6
    obtain ⟨y507, hy507⟩ : ∃ y_ : List Bool, y_ = (List.replicate ((l1.length : Int) : Int).toNat false) := ⟨_, rfl⟩
    replace H : (if 0 < (y507.length : Int) then (spec_l15Pop.l0 k l1 l2 y504 (y507.set (0 : Int).toNat true) 0 0 a0_0 a0_1 a0_0 a0_1 0) else (none)) = some (r1, r2, r3, r4, r5) := by first | (rw [hy507]; with_reducible exact H) | (have H2_ := (Option.bind_some _ _).symm.trans H; rw [hy507]; with_reducible exact H2_) | (have H2_ := (Option.bind_some _ _).symm.trans H; with_reducible exact H2_) | with_reducible exact H | (rw [hy507]; exact H) | exact H
    have Ny507 := Aside0.mk hy507
    clear hy507
    by_cases c7 : 0 < (y507.length : Int)
    ·rw [if_pos c7] at H
     have c7b0 : decide (0 < (y507.length : Int)) = true := decide_eq_true c7
     have c7b1 : decide (0 < y507.length) = true := decide_eq_true (by omega)
     clear c7
     obtain ⟨y510, hy510⟩ : ∃ y_ : List Bool, y_ = (y507.set (0 : Int).toNat true) := ⟨_, rfl⟩
     replace H : (spec_l15Pop.l0 k l1 l2 y504 y510 0 0 a0_0 a0_1 a0_0 a0_1 0) = some (r1, r2, r3, r4, r5) := by first | (rw [hy510]; with_reducible exact H) | (have H2_ := (Option.bind_some _ _).symm.trans H; rw [hy510]; with_reducible exact H2_) | (have H2_ := (Option.bind_some _ _).symm.trans H; with_reducible exact H2_) | with_reducible exact H | (rw [hy510]; exact H) | exact H
     have Ny510 := Aside0.mk hy510
     clear hy510
     have H' := Aside0.mk H
     clear H
     go_enter Try.func24, Try.ntmps24
     go_wp2_with (first | (refine box_ (N := 3) (cs := #[.int .i64 a0_0, .int .i64 a0_1]) (t := 28) ?_; intro gb501 hg w9 hbox hb; have n0_ := HO2.kb hb; have n1_ := Aside0.mk (Kept.below (S := (fun k_ => P2_ k_)) (by repeat (first | (with_reducible first | exact HK.out | apply Kept.alloc | apply Kept.drewN | apply Kept.drew) | exact HK.out)) hb); have n2_ := HB.s0 hb; have n3_ := Aside0.mk (hbox); have n4_ := Aside0.mk ((by rw [hg]; exact (by first | exact HK.out.1 | exact (show Kept w _ (fun k_ => P2_ k_) from by repeat (first | (with_reducible first | exact HK.out | apply Kept.alloc | apply Kept.drewN | apply Kept.drew) | exact HK.out)).1) : w.heap.size ≤ gb501)); have n5_ := Aside0.mk ((by rw [hg]; exact (below_size (hb0_ HB.out)) : w0.heap.size ≤ gb501)); clear HO2; clear HK; clear HB; have HO2 := n0_; have HK := n1_; have HB := n2_; have BK501 := n3_; have GW501 := n4_; have GE501 := n5_; clear n0_ n1_ n2_ n3_ n4_ n5_; clear hb hbox hg) | (refine box_ (N := 6) (cs := #[.int .i64 0, .int .i64 0, .int .i64 0]) (t := 36) ?_; intro gb502 hg w10 hbox hb; have n0_ := HO2.kb hb; have n1_ := BK501.bb hb; have n2_ := Aside0.mk (Kept.below (S := (fun k_ => P2_ k_)) (by repeat (first | (with_reducible first | exact HK.out | apply Kept.alloc | apply Kept.drewN | apply Kept.drew | refine Kept.setCell ?_ (.inr GW501.out) _) | exact HK.out)) hb); have n3_ := HB.s1 GE501 hb; have n4_ := Aside0.mk (hbox); have n5_ := Aside0.mk ((by rw [hg]; exact (by first | exact HK.out.1 | exact (show Kept w _ (fun k_ => P2_ k_) from by repeat (first | (with_reducible first | exact HK.out | apply Kept.alloc | apply Kept.drewN | apply Kept.drew | refine Kept.setCell ?_ (.inr GW501.out) _) | exact HK.out)).1) : w.heap.size ≤ gb502)); have n6_ := Aside0.mk ((by rw [hg]; exact (below_size (hb1_ HB.out GE501.out)) : w0.heap.size ≤ gb502)); have n7_ := BK501.nl hg; have n8_ := BK501.nr hg; clear HO2; clear BK501; clear HK; clear HB; have HO2 := n0_; have BK501 := n1_; have HK := n2_; have HB := n3_; have BK502 := n4_; have GW502 := n5_; have GE502 := n6_; have NB501_502 := n7_; have NB502_501 := n8_; clear n0_ n1_ n2_ n3_ n4_ n5_ n6_ n7_ n8_; clear hb hbox hg; have hnb11 := NB501_502.out; have hnc11 := NB502_501.out; obtain ⟨hcz12_0, hcz12_1⟩ := cz2_ BK501.out; obtain ⟨hfz12_0, hfz12_1⟩ := fz2_ BK501.out) | (refine box_ (N := 9) (cs := #[.int .i64 0, .int .i64 0, .int .i64 0]) (t := 36) ?_; intro gb503 hg w13 hbox hb; have n0_ := HO2.kb hb; have n1_ := BK501.bb hb; have n2_ := BK502.bb hb; have n3_ := Aside0.mk (Kept.below (S := (fun k_ => P2_ k_)) (by repeat (first | (with_reducible first | exact HK.out | apply Kept.alloc | apply Kept.drewN | apply Kept.drew | refine Kept.setCell ?_ (.inr GW501.out) _ | refine Kept.setCell ?_ (.inr GW502.out) _) | exact HK.out)) hb); have n4_ := HB.s2 GE501 GE502 hb; have n5_ := Aside0.mk (hbox); have n6_ := Aside0.mk ((by rw [hg]; exact (by first | exact HK.out.1 | exact (show Kept w _ (fun k_ => P2_ k_) from by repeat (first | (with_reducible first | exact HK.out | apply Kept.alloc | apply Kept.drewN | apply Kept.drew | refine Kept.setCell ?_ (.inr GW501.out) _ | refine Kept.setCell ?_ (.inr GW502.out) _) | exact HK.out)).1) : w.heap.size ≤ gb503)); have n7_ := Aside0.mk ((by rw [hg]; exact (below_size (hb2_ HB.out GE501.out GE502.out)) : w0.heap.size ≤ gb503)); have n8_ := BK501.nl hg; have n9_ := BK501.nr hg; have n10_ := BK502.nl hg; have n11_ := BK502.nr hg; clear HO2; clear BK501; clear BK502; clear HK; clear HB; have HO2 := n0_; have BK501 := n1_; have BK502 := n2_; have HK := n3_; have HB := n4_; have BK503 := n5_; have GW503 := n6_; have GE503 := n7_; have NB501_503 := n8_; have NB503_501 := n9_; have NB502_503 := n10_; have NB503_502 := n11_; clear n0_ n1_ n2_ n3_ n4_ n5_ n6_ n7_ n8_ n9_ n10_ n11_; clear hb hbox hg; have hnb14 := NB503_501.out; have hnc14 := NB501_503.out; have hnb15 := NB503_502.out; have hnc15 := NB502_503.out; obtain ⟨hcz16_0, hcz16_1, hcz16_2⟩ := cz3_ BK503.out; obtain ⟨hfz16_0, hfz16_1, hfz16_2⟩ := fz3_ BK503.out) | ((with_reducible refine gate_dst (N := 25) rfl ?_); refine Kd.R_make (Kd.int .i64) _ 3 rfl (N := 25) rfl 25 _ _ rfl (l1.length : Int) rfl rfl Try.underlying25 (.int .i64 0) 8 info3 rfl (by decide) (by omega) 0 (ok := fun _ => True) (okp := fun _ => True) rfl (fun _ hk => hk) trivial (of_decide_eq_true (as_)) (Nat.le_trans (Nat.mul_le_mul_right _ (of_decide_eq_true (as_) : (l1.length : Int).toNat ≤ 35184372088832)) (by omega)) (Below.refl _ _) (Nat.le_refl _) ?_; intro v505 w17 ho18 hb hg_ hnew_; clear hg_ hnew_; (first | rw [← Ny504.out] at ho18 | (simp only [Int.reduceToNat] at ho18; rw [← Ny504.out] at ho18)); have n0_ := Aside0.mk (Kd.R_elder' (rq3_ HO2.out BK503.out) (Kd.R_base ho18) hb); have n1_ := Aside0.mk (Kd.R_lower (Kd.R_new' (Kd.R_newM (M := fun k_ => (P2_ k_ ∨ w.heap.size ≤ k_)) ho18 (show Kept w _ (fun k_ => P2_ k_) from by repeat (first | (with_reducible first | exact HK.out | apply Kept.alloc | apply Kept.drewN | apply Kept.drew | refine Kept.setCell ?_ (.inr GW501.out) _ | refine Kept.setCell ?_ (.inr GW502.out) _ | refine Kept.setCell ?_ (.inr GW503.out) _) | exact HK.out)).1 (fun k_ h_ => .inr h_)) (Kd.R_lt (rq3_ HO2.out BK503.out))) (below_size (hb3_ HB.out GE501.out GE502.out GE503.out))); have n2_ := Aside0.mk (blk_below (g := gb501) (o := .cells #[.int .i64 a0_0, .int .i64 a0_1] 28 (0, 0)) (by (with_reducible repeat (first | refine blk_drewN ?_ _ | refine blk_drew ?_ | refine blk_alloc ?_ _)); refine blk_far ?_ NB501_503.out _; (with_reducible repeat (first | refine blk_drewN ?_ _ | refine blk_drew ?_ | refine blk_alloc ?_ _)); refine blk_far ?_ NB501_503.out _; (with_reducible repeat (first | refine blk_drewN ?_ _ | refine blk_drew ?_ | refine blk_alloc ?_ _)); refine blk_far ?_ NB501_503.out _; (with_reducible repeat (first | refine blk_drewN ?_ _ | refine blk_drew ?_ | refine blk_alloc ?_ _)); exact BK501.out) hb); have n3_ := Aside0.mk (blk_below (g := gb502) (o := .cells #[.int .i64 0, .int .i64 0, .int .i64 0] 36 (0, 0)) (by (with_reducible repeat (first | refine blk_drewN ?_ _ | refine blk_drew ?_ | refine blk_alloc ?_ _)); refine blk_far ?_ NB502_503.out _; (with_reducible repeat (first | refine blk_drewN ?_ _ | refine blk_drew ?_ | refine blk_alloc ?_ _)); refine blk_far ?_ NB502_503.out _; (with_reducible repeat (first | refine blk_drewN ?_ _ | refine blk_drew ?_ | refine blk_alloc ?_ _)); refine blk_far ?_ NB502_503.out _; (with_reducible repeat (first | refine blk_drewN ?_ _ | refine blk_drew ?_ | refine blk_alloc ?_ _)); exact BK502.out) hb); have n4_ := Aside0.mk (blk_below (bq3_ BK503.out) hb); have n5_ := Aside0.mk (Kept.below (S := (fun k_ => P2_ k_)) (by repeat (first | (with_reducible first | exact HK.out | apply Kept.alloc | apply Kept.drewN | apply Kept.drew | refine Kept.setCell ?_ (.inr GW501.out) _ | refine Kept.setCell ?_ (.inr GW502.out) _ | refine Kept.setCell ?_ (.inr GW503.out) _) | exact HK.out)) hb); have n6_ := HB.s3 GE501 GE502 GE503 hb; clear HO2; clear BK501; clear BK502; clear BK503; clear HK; clear HB; have HO2 := n0_; have HO506 := n1_; have BK501 := n2_; have BK502 := n3_; have BK503 := n4_; have HK := n5_; have HB := n6_; clear n0_ n1_ n2_ n3_ n4_ n5_ n6_; clear hb ho18) | ((with_reducible refine gate_dst (N := 28) rfl ?_); refine Kd.R_make Kd.bool _ 4 rfl (N := 28) rfl 63 _ _ rfl (l1.length : Int) rfl rfl Try.underlying63 (.bool false) 1 info4 rfl (by decide) (by omega) false (ok := fun _ => True) (okp := fun _ => True) rfl (fun _ hk => hk) trivial (of_decide_eq_true (as_)) (Nat.le_trans (Nat.mul_le_mul_right _ (of_decide_eq_true (as_) : (l1.length : Int).toNat ≤ 281474976710656)) (by omega)) (Below.refl _ _) (Nat.le_refl _) ?_; intro v508 w19 ho20 hb hg_ hnew_; clear hg_ hnew_; (first | rw [← Ny507.out] at ho20 | (simp only [Int.reduceToNat] at ho20; rw [← Ny507.out] at ho20)); replace HO2 := HO2.kb hb; replace HO506 := HO506.kb hb; have HO509 := Aside0.mk (Kd.R_lower (Kd.R_newM (M := fun k_ => (P2_ k_ ∨ w.heap.size ≤ k_)) ho20 (by first | exact HK.out.1 | exact (show Kept w _ (fun k_ => P2_ k_) from by repeat (first | (with_reducible first | exact HK.out | apply Kept.alloc | apply Kept.drewN | apply Kept.drew | refine Kept.setCell ?_ (.inr GW501.out) _ | refine Kept.setCell ?_ (.inr GW502.out) _ | refine Kept.setCell ?_ (.inr GW503.out) _) | exact HK.out)).1) (fun k_ h_ => .inr h_)) (below_size (hb3_ HB.out GE501.out GE502.out GE503.out))); replace BK501 := BK501.bb hb; replace BK502 := BK502.bb hb; replace BK503 := BK503.bb hb; replace HK := Aside0.mk (Kept.below (S := (fun k_ => P2_ k_)) (by repeat (first | (with_reducible first | exact HK.out | apply Kept.alloc | apply Kept.drewN | apply Kept.drew | refine Kept.setCell ?_ (.inr GW501.out) _ | refine Kept.setCell ?_ (.inr GW502.out) _ | refine Kept.setCell ?_ (.inr GW503.out) _) | exact HK.out)) hb); replace HB := HB.s3 GE501 GE502 GE503 hb; clear hb ho20; have p8 : 0 ≤ (0 : Int) := (by omega); have q8 : (0 : Int) < ((y507.length : Int) : Int) := of_decide_eq_true (as_); have qi8 : (0 < y507.length) = True := eq_true (by omega); obtain ⟨go8, co8, eo8, gb8, gl8, cl8, HG8⟩ := Kd.R_form HO509.out (by omega); (first | cases eo8 | (injection eo8 with ea_ en_ ec_; (first | subst ea_ | (injection ea_ with ea_; subst ea_)); subst ec_; clear en_)); have GB8 := Aside0.mk gb8; have GG8 := Aside0.mk HG8; clear gb8 gl8 HG8; have HMgo8 := Aside0.mk (show (P2_ go8 ∨ w.heap.size ≤ go8) from (HO509.out.1 _ rfl).1); obtain ⟨hx8_0, hf8_0⟩ := Kd.R_celln false HO509.out (0 : Int) p8 q8; (try rw [show ((0 : Int)).toNat = 0 from rfl] at hx8_0); (try simp only [Nat.reduceMul, Nat.zero_mul, Nat.zero_add, Nat.reduceAdd] at hx8_0); (try rw [show ((0 : Int)).toNat = 0 from rfl] at hf8_0); (try simp only [Nat.reduceMul, Nat.zero_mul, Nat.zero_add, Nat.reduceAdd] at hf8_0); replace p8 := eq_true p8; replace q8 := eq_true q8; have n_ := Aside0.mk (Kd.R_mono (ok' := (fun k_ => (P2_ k_ ∨ w.heap.size ≤ k_))) HO509.out (fun k_ hk => hk.1)); clear HO509; have HO509 := n_; clear n_; obtain ⟨hy21_, hz21_⟩ := Kd.R_celln false HO509.out (0 : Int) (by omega) (of_decide_eq_true (as_)); (try simp only [Int.reduceToNat, Int.toNat_zero, Int.toNat_ofNat, Nat.reduceMul, Nat.zero_mul, Nat.zero_add] at hy21_ hz21_); (try rw [show ((0 : Int)).toNat = 0 from rfl] at hy21_); (try rw [show ((0 : Int)).toNat = 0 from rfl] at hz21_); have HP21 := Kd.R_putg HO509.out (0 : Int) true) | ((with_reducible refine gate_store (t := 4) (p := 30) rfl ?_); refine store_event (t := 4) (p := 30) (v := ?vo_w22) (w1 := (w19.setCell ⟨go8, (0 : Int).toNat, none⟩ (.bool true))) ?hg ?ho ?hn ?hr ?_; (case ho => rfl); (case hg => rfl); (case hn => rfl); (case hr => first | (go_simp; done) | (go_simp; rfl)); intro w22 hw; have hg : w19.grownBy w22 (some go8) := (by rw [hw]; exact HP21.2); have hp_ : Kd.R Kd.bool 4 w22 w0.heap.size (fun k_ => (P2_ k_ ∨ w.heap.size ≤ k_)) (.slice (some ⟨go8, 0, none⟩) y507.length co8) y510 := (by rw [hw, Ny510.out]; exact HP21.1); clear HP21; have n0_ := Aside0.mk (Kd.R_over' (v := (.slice (some ⟨go8, 0, none⟩) y507.length co8)) (kr_ HO2.out) (Kd.R_typed HO509.out) (by decide) hg); have n1_ := Aside0.mk (blk_grown (g := gb501) (o := .cells #[.int .i64 a0_0, .int .i64 a0_1] 28 (0, 0)) (bk_ BK501.out) hg (Kd.R_ne HO509.out BK501.out (by decide))); have n2_ := Aside0.mk (blk_grown (g := gb502) (o := .cells #[.int .i64 0, .int .i64 0, .int .i64 0] 36 (0, 0)) (bk_ BK502.out) hg (Kd.R_ne HO509.out BK502.out (by decide))); have n3_ := Aside0.mk (blk_grown (g := gb503) (o := .cells #[.int .i64 a0_0, .int .i64 a0_1, .int .i64 0] 36 (0, 0)) (bk_ BK503.out) hg (Kd.R_ne HO509.out BK503.out (by decide))); have n4_ := Aside0.mk (Kd.R_over' (v := (.slice (some ⟨go8, 0, none⟩) y507.length co8)) (kr_ HO506.out) (Kd.R_typed HO509.out) (by decide) hg); have n5_ := Aside0.mk (hp_); have n6_ := Aside0.mk ((by rw [hw]; exact below_set (HB.out) GB8.out : Below w0.heap.size w0 w22)); have n7_ := Aside0.mk (Kept.of_grown (S := (fun k_ => P2_ k_)) hg (by repeat (first | (with_reducible first | exact HK.out | apply Kept.alloc | apply Kept.drewN | apply Kept.drew | refine Kept.setCell ?_ (.inr GW501.out) _ | refine Kept.setCell ?_ (.inr GW502.out) _ | refine Kept.setCell ?_ (.inr GW503.out) _) | exact HK.out)) (fun k_ e_ => (HO509.out.1 k_ e_))); clear HO2; clear BK501; clear BK502; clear BK503; clear HO506; clear HO509; clear HB; clear HK; have HO2 := n0_; have BK501 := n1_; have BK502 := n2_; have BK503 := n3_; have HO506 := n4_; have HO509 := n5_; have HB := n6_; have HK := n7_; clear n0_ n1_ n2_ n3_ n4_ n5_ n6_ n7_; clear hg hw hp_))
     go_loopg [2, 13] k (fun kq v2 v13 w' => ∃ (x2_1 : List Int) (x13_1 : Int), v13 = .int .i64 x13_1 ∧ Aside0 (spec_l15Pop.l0 kq l1 x2_1 y504 y510 0 x13_1 a0_0 a0_1 a0_0 a0_1 0 = some (r1, r2, r3, r4, r5)) ∧ Aside0 (kq ≤ k) ∧ Aside0 (Kd.R (Kd.int .i64) 3 w' w0.heap.size (fun k_ => (P2_ k_ ∨ w.heap.size ≤ k_) ∧ some k_ ≠ (v505 : Value).ownBlock) v2 x2_1) ∧ Aside0 (Kd.R (Kd.int .i64) 3 w' w0.heap.size (fun k_ => (P2_ k_ ∨ w.heap.size ≤ k_) ∧ some k_ ≠ (v2 : Value).ownBlock) v505 y504) ∧ Aside0 (Kd.R Kd.bool 4 w' w0.heap.size (fun k_ => (P2_ k_ ∨ w.heap.size ≤ k_)) (.slice (some ⟨go8, 0, none⟩) y507.length co8) y510) ∧ Aside0 (w'.heap[gb501]? = some (.cells #[.int .i64 a0_0, .int .i64 a0_1] 28 (0, 0))) ∧ Aside0 (w'.heap[gb502]? = some (.cells #[.int .i64 0, .int .i64 0, .int .i64 0] 36 (0, 0))) ∧ Aside0 (w'.heap[gb503]? = some (.cells #[.int .i64 a0_0, .int .i64 a0_1, .int .i64 0] 36 (0, 0))) ∧ Aside0 (Kept w w' (fun k_ => P2_ k_)) ∧ Aside0 (Below w0.heap.size w0 w'))
     case atStart => exact ⟨(l2), (0), (by first | rfl | (simp; done) | (simp [*]; done)), H', ⟨Nat.le_refl _⟩, ⟨kr_ HO2.out⟩, ⟨by (with_reducible repeat (first | apply Kd.R_alloc | apply Kd.R_drewN | apply Kd.R_drew)); exact Kd.R_mono HO506.out (fun _ hk => ⟨hk.1.1, hk.2⟩)⟩, ⟨kr_ HO509.out⟩, ⟨bk_ BK501.out⟩, ⟨bk_ BK502.out⟩, ⟨bk_ BK503.out⟩, ⟨by repeat (first | (with_reducible first | exact HK.out | apply Kept.alloc | apply Kept.drewN | apply Kept.drew | refine Kept.setCell ?_ (.inr GW501.out) _ | refine Kept.setCell ?_ (.inr GW502.out) _ | refine Kept.setCell ?_ (.inr GW503.out) _) | exact HK.out)⟩, ⟨hb3_ HB.out GE501.out GE502.out GE503.out⟩⟩
     case round =>
      clear H'
      try clear c1
      try clear c2
      try clear p2
      try clear c4
      try clear c4b0
      try clear c4b1
      try clear c5
      try clear c5b0
      try clear c5b1
      try clear c6
      try clear c6b0
      try clear c6b1
      try clear c7
      try clear c7b0
      try clear c7b1
      try clear p8
      try clear q8
      try clear hx8
      try clear qi8
      try clear hf8
      try clear c11
      try clear c14
      try clear c15
      try clear hcz12_0
      try clear hcz12_1
      try clear hcz16_0
      try clear hcz16_1
      try clear hcz16_2
      try clear hfz12_0
      try clear hfz12_1
      try clear hfz16_0
      try clear hfz16_1
      try clear hfz16_2
      try clear hx8_0
      try clear p8
      try clear q8
      obtain ⟨x2_1, x13_1, rfl, HA, HK1, HO_2, HO_10, HO_11, BK501, BK502, BK503, HK, HB⟩ := hrel
      have hl11_1 := (Kd.R_reads' HO_11.out).1
      rw [hl11_1] at HO_11
      (try simp only [hl11_1])
      (try simp only [hl11_1] at BK501)
      (try simp only [hl11_1] at BK502)
      (try simp only [hl11_1] at BK503)
      (try simp only [hl11_1] at HO_2)
      (try simp only [hl11_1] at HO_10)
      cases gk with
      | zero => exact absurd HA.out (by simp [spec_l15Pop.l0])
      | succ k1 =>
       have H := HA.out
       clear HA
       simp only [spec_l15Pop.l0] at H
       by_cases c23 : x13_1 < (l1.length : Int)
       ·rw [if_pos c23] at H
        have c23b0 : decide (x13_1 < (l1.length : Int)) = true := decide_eq_true c23
        clear c23
        by_cases c24 : x2_1.length < 17592186044416
        ·rw [if_pos c24] at H
         have LMc24 := Aside0.mk c24
         clear c24
         obtain ⟨y511, hy511⟩ : ∃ y_ : List Int, y_ = (x2_1 ++ [x13_1]) := ⟨_, rfl⟩
         replace H : (spec_l15Pop.l0 k1 l1 y511 y504 y510 0 (wrap64 (x13_1 + 1)) a0_0 a0_1 a0_0 a0_1 0) = some (r1, r2, r3, r4, r5) := by first | (rw [hy511]; with_reducible exact H) | (have H2_ := (Option.bind_some _ _).symm.trans H; rw [hy511]; with_reducible exact H2_) | (have H2_ := (Option.bind_some _ _).symm.trans H; with_reducible exact H2_) | with_reducible exact H | (rw [hy511]; exact H) | exact H
         have Ny511 := Aside0.mk hy511
         clear hy511
         have H' := Aside0.mk H
         clear H
         go_wp2_with (first | ((with_reducible refine gate_builtin (b := .append) (xs := #[.tmp 37, .tmp 39]) rfl ?_); at_builtin; refine Kd.R_append (Kd.int .i64) (w0 := w0) w0.heap.size rfl (.tmp 37) (.tmp 39) 25 3 (.int .i64 0) 8 rfl Try.underlying25 info3 rfl (by decide) (by omega) u2 x2_1 x13_1 [.int .i64 x13_1] (fun k_ => (P2_ k_ ∨ w.heap.size ≤ k_) ∧ some k_ ≠ (v505 : Value).ownBlock) (fun _ => False) rfl rfl ?aP (fun _ hk => hk.elim) ?aF ?aO ?aB ?aS ?aL ?_; (case aP => exact rfl); (case aB => exact (hb3_ HB.out GE501.out GE502.out GE503.out)); (case aF => exact (fun k_ hk => ⟨(.inr (Nat.le_trans (by first | exact HK.out.1 | exact (show Kept w _ (fun k_ => P2_ k_) from by repeat (first | (with_reducible first | exact HK.out | apply Kept.alloc | apply Kept.drewN | apply Kept.drew | refine Kept.setCell ?_ (.inr GW501.out) _ | refine Kept.setCell ?_ (.inr GW502.out) _ | refine Kept.setCell ?_ (.inr GW503.out) _) | exact HK.out)).1) hk)), Kd.fresh' (Kd.R_lt (kr_ HO_10.out)) k_ hk⟩)); (case aO => exact (kr_ HO_2.out)); (case aS => exact (below_size (hb3_ HB.out GE501.out GE502.out GE503.out))); (case aL => have := LMc24.out; omega); intro v512 w25 ho hb hg hat; rw [← Ny511.out] at ho; replace HO_10 := Aside0.mk (Kd.R_after (ok := (fun k_ => (P2_ k_ ∨ w.heap.size ≤ k_))) (kr_ HO_10.out) hg hat); replace HO_11 := Aside0.mk (Kd.R_over' (kr_ HO_11.out) (Kd.R_typed (kr_ HO_2.out)) (by decide) hg); replace BK501 := Aside0.mk (blk_grown (g := gb501) (o := .cells #[.int .i64 a0_0, .int .i64 a0_1] 28 (0, 0)) (bk_ BK501.out) hg (Kd.R_ne HO_2.out BK501.out (by decide))); replace BK502 := Aside0.mk (blk_grown (g := gb502) (o := .cells #[.int .i64 0, .int .i64 0, .int .i64 0] 36 (0, 0)) (bk_ BK502.out) hg (Kd.R_ne HO_2.out BK502.out (by decide))); replace BK503 := Aside0.mk (blk_grown (g := gb503) (o := .cells #[.int .i64 a0_0, .int .i64 a0_1, .int .i64 0] 36 (0, 0)) (bk_ BK503.out) hg (Kd.R_ne HO_2.out BK503.out (by decide))); replace HB := Aside0.mk (hb); replace HK := Aside0.mk (Kept.of_grown (S := (fun k_ => P2_ k_)) hg (by repeat (first | (with_reducible first | exact HK.out | apply Kept.alloc | apply Kept.drewN | apply Kept.drew | refine Kept.setCell ?_ (.inr GW501.out) _ | refine Kept.setCell ?_ (.inr GW502.out) _ | refine Kept.setCell ?_ (.inr GW503.out) _) | exact HK.out)) (fun k_ e_ => (HO_2.out.1 k_ e_).1)); have HO513 := Aside0.mk (ho); clear HO_2; clear ho hb hg hat))
         (try simp only [← hl11_1])
         go_roundg k1
         case measure => have := HK1.out; omega
         case rel => exact ⟨(y511), (wrap64 (x13_1 + 1)), (by first | rfl | (simp; done) | (simp [*]; done)), H', ⟨by have := HK1.out; omega⟩, ⟨by (try simp only [hl11_1]); (with_reducible repeat (first | apply Kd.R_alloc | apply Kd.R_drewN | apply Kd.R_drew)); exact HO513.out⟩, ⟨by (try simp only [hl11_1]); (with_reducible repeat (first | apply Kd.R_alloc | apply Kd.R_drewN | apply Kd.R_drew)); exact HO_10.out⟩, ⟨by (try simp only [hl11_1]); (with_reducible repeat (first | apply Kd.R_alloc | apply Kd.R_drewN | apply Kd.R_drew)); exact HO_11.out⟩, ⟨by (try simp only [hl11_1]); (with_reducible repeat (first | refine blk_drewN ?_ _ | refine blk_drew ?_ | refine blk_alloc ?_ _)); exact BK501.out⟩, ⟨by (try simp only [hl11_1]); (with_reducible repeat (first | refine blk_drewN ?_ _ | refine blk_drew ?_ | refine blk_alloc ?_ _)); exact BK502.out⟩, ⟨by (try simp only [hl11_1]); (with_reducible repeat (first | refine blk_drewN ?_ _ | refine blk_drew ?_ | refine blk_alloc ?_ _)); exact BK503.out⟩, ⟨by repeat (first | (with_reducible first | exact HK.out | apply Kept.alloc | apply Kept.drewN | apply Kept.drew | refine Kept.setCell ?_ (.inr GW501.out) _ | refine Kept.setCell ?_ (.inr GW502.out) _ | refine Kept.setCell ?_ (.inr GW503.out) _) | exact HK.out)⟩, ⟨hb3_ HB.out GE501.out GE502.out GE503.out⟩⟩
        ·rw [if_neg c24] at H
         exact absurd H (by simp)
       ·rw [if_neg c23] at H
        have c23b0 : decide (x13_1 < (l1.length : Int)) = false := decide_eq_false c23
        clear c23
        have H' := Aside0.mk H
        clear H
        go_wp2
        go_loopg [12, 14] k1 (fun kq v12 v14 w' => ∃ (x10_2 : List Int) (x11_2 : List Bool) (x12_2 : Int) (x14_2 : Int) (x503000_2 : Int) (x503001_2 : Int) (x503002_2 : Int) (x504000_2 : Int) (x504001_2 : Int) (x504002_2 : Int), v12 = .int .i64 x12_2 ∧ v14 = .int .i64 x14_2 ∧ Aside0 (spec_l15Pop.l1 kq l1 x2_1 x10_2 x11_2 x12_2 x14_2 a0_0 a0_1 x504000_2 x504001_2 x504002_2 = some (r1, r2, r3, r4, r5)) ∧ Aside0 (kq ≤ k1) ∧ Aside0 (Kd.R (Kd.int .i64) 3 w' w0.heap.size (fun k_ => (P2_ k_ ∨ w.heap.size ≤ k_) ∧ some k_ ≠ (v505 : Value).ownBlock) u2 x2_1) ∧ Aside0 (Kd.R (Kd.int .i64) 3 w' w0.heap.size (fun k_ => (P2_ k_ ∨ w.heap.size ≤ k_) ∧ some k_ ≠ (u2 : Value).ownBlock) v505 x10_2) ∧ Aside0 (Kd.R Kd.bool 4 w' w0.heap.size (fun k_ => (P2_ k_ ∨ w.heap.size ≤ k_)) (.slice (some ⟨go8, 0, none⟩) y510.length co8) x11_2) ∧ Aside0 (w'.heap[gb501]? = some (.cells #[.int .i64 a0_0, .int .i64 a0_1] 28 (0, 0))) ∧ Aside0 (w'.heap[gb502]? = some (.cells #[.int .i64 x503000_2, .int .i64 x503001_2, .int .i64 x503002_2] 36 (0, 0))) ∧ Aside0 (w'.heap[gb503]? = some (.cells #[.int .i64 x504000_2, .int .i64 x504001_2, .int .i64 x504002_2] 36 (0, 0))) ∧ Aside0 (Kept w w' (fun k_ => P2_ k_)) ∧ Aside0 (Below w0.heap.size w0 w'))
        case atStart => exact ⟨(y504), (y510), (0), (0), (0), (0), (0), (a0_0), (a0_1), (0), (by first | rfl | (simp; done) | (simp [*]; done)), (by first | rfl | (simp; done) | (simp [*]; done)), H', ⟨Nat.le_refl _⟩, ⟨by (try simp only [hl11_1]); (with_reducible repeat (first | apply Kd.R_alloc | apply Kd.R_drewN | apply Kd.R_drew)); exact HO_2.out⟩, ⟨by (try simp only [hl11_1]); (with_reducible repeat (first | apply Kd.R_alloc | apply Kd.R_drewN | apply Kd.R_drew)); exact HO_10.out⟩, ⟨by (try simp only [hl11_1]); (with_reducible repeat (first | apply Kd.R_alloc | apply Kd.R_drewN | apply Kd.R_drew)); exact HO_11.out⟩, ⟨by (try simp only [hl11_1]); (with_reducible repeat (first | refine blk_drewN ?_ _ | refine blk_drew ?_ | refine blk_alloc ?_ _)); exact BK501.out⟩, ⟨by (try simp only [hl11_1]); (with_reducible repeat (first | refine blk_drewN ?_ _ | refine blk_drew ?_ | refine blk_alloc ?_ _)); exact BK502.out⟩, ⟨by (try simp only [hl11_1]); (with_reducible repeat (first | refine blk_drewN ?_ _ | refine blk_drew ?_ | refine blk_alloc ?_ _)); exact BK503.out⟩, ⟨by repeat (first | (with_reducible first | exact HK.out | apply Kept.alloc | apply Kept.drewN | apply Kept.drew | refine Kept.setCell ?_ (.inr GW501.out) _ | refine Kept.setCell ?_ (.inr GW502.out) _ | refine Kept.setCell ?_ (.inr GW503.out) _) | exact HK.out)⟩, ⟨hb3_ HB.out GE501.out GE502.out GE503.out⟩⟩
        case round =>
         clear H'
         try clear c1
         try clear c2
         try clear p2
         try clear c4
         try clear c4b0
         try clear c4b1
         try clear c5
         try clear c5b0
         try clear c5b1
         try clear c6
         try clear c6b0
         try clear c6b1
         try clear p6
         try clear c7
         try clear c7b0
         try clear c7b1
         try clear p8
         try clear q8
         try clear hx8
         try clear qi8
         try clear hf8
         try clear c11
         try clear c14
         try clear c15
         try clear c23
         try clear c23b0
         try clear c24
         try clear hcz12_0
         try clear hcz12_1
         try clear hcz16_0
         try clear hcz16_1
         try clear hcz16_2
         try clear hfz12_0
         try clear hfz12_1
         try clear hfz16_0
         try clear hfz16_1
         try clear hfz16_2
         try clear hx8_0
         try clear p2
         try clear p8
         try clear q8
         obtain ⟨x10_2, x11_2, x12_2, x14_2, x503000_2, x503001_2, x503002_2, x504000_2, x504001_2, x504002_2, rfl, rfl, HA, HK2, HO_2, HO_10, HO_11, BK501, BK502, BK503, HK, HB⟩ := hrel
         have hl11_2 := (Kd.R_reads' HO_11.out).1
         rw [hl11_2] at HO_11
         (try simp only [hl11_2])
         (try simp only [hl11_2] at BK501)
         (try simp only [hl11_2] at BK502)
         (try simp only [hl11_2] at BK503)
         (try simp only [hl11_2] at HO_2)
         (try simp only [hl11_2] at HO_10)
         cases gk with
         | zero => exact absurd HA.out (by simp [spec_l15Pop.l1])
         | succ k2 =>
          have H := HA.out
          clear HA
          simp only [spec_l15Pop.l1] at H
          by_cases c26 : x14_2 < (x2_1.length : Int)
          ·rw [if_pos c26] at H
           have c26b0 : decide (x14_2 < (x2_1.length : Int)) = true := decide_eq_true c26
           clear c26
           obtain ⟨y514, hy514⟩ : ∃ y_ : List Int, y_ = (([] : List Int)) := ⟨_, rfl⟩
           replace H : (if 0 ≤ x14_2 then (spec_l15Pop.l2 k2 l1 x2_1 x10_2 x11_2 x12_2 x14_2 y514 (rd x2_1 x14_2) a0_0 a0_1 x504000_2 x504001_2 x504002_2) else (none)) = some (r1, r2, r3, r4, r5) := by first | (rw [hy514]; with_reducible exact H) | (have H2_ := (Option.bind_some _ _).symm.trans H; rw [hy514]; with_reducible exact H2_) | (have H2_ := (Option.bind_some _ _).symm.trans H; with_reducible exact H2_) | with_reducible exact H | (rw [hy514]; exact H) | exact H
           have Ny514 := Aside0.mk hy514
           clear hy514
           by_cases c27 : 0 ≤ x14_2
           ·rw [if_pos c27] at H
            have c27b0 : decide (0 ≤ x14_2) = true := decide_eq_true c27
            clear c27
            have H' := Aside0.mk H
            clear H
            obtain ⟨Ao28, co28, eo28⟩ := Kd.R_slice HO_2.out
            subst eo28
            go_wp2_with (first | ((with_reducible refine gate_dst (N := 47) rfl ?_); refine Kd.R_lit (Kd.int .i64) _ 3 ?hg (N := 47) ?hd (xs := ([] : List Int)) (inner := []) (ok := fun _ => True) (okp := fun _ => True) ?hr ?hp (fun _ hk => hk) trivial (Below.refl _ _) (Nat.le_refl _) (by simp) ?_; (case hd => rfl); (case hg => rfl); (case hr => first | (go_simp; done) | (go_simp; rfl)); (case hp => exact (Reps.none _ _)); intro v515 w29 ho30 hb hg_ hnew_; clear hg_ hnew_; (first | rw [← Ny514.out] at ho30 | (simp only [Int.reduceToNat] at ho30; rw [← Ny514.out] at ho30)); replace HO_11 := HO_11.kb hb; have HO516 := Aside0.mk (Kd.R_lower (Kd.R_new' (Kd.R_new' (Kd.R_newM (M := fun k_ => (P2_ k_ ∨ w.heap.size ≤ k_)) ho30 (by first | exact HK.out.1 | exact (show Kept w _ (fun k_ => P2_ k_) from by repeat (first | (with_reducible first | exact HK.out | apply Kept.alloc | apply Kept.drewN | apply Kept.drew | refine Kept.setCell ?_ (.inr GW501.out) _ | refine Kept.setCell ?_ (.inr GW502.out) _ | refine Kept.setCell ?_ (.inr GW503.out) _) | exact HK.out)).1) (fun k_ h_ => .inr h_)) (Kd.R_lt (kr_ HO_2.out))) (Kd.R_lt (kr_ HO_10.out))) (below_size (hb3_ HB.out GE501.out GE502.out GE503.out))); replace HO_2 := Aside0.mk (Kd.R_elder' (kr_ HO_2.out) (Kd.R_base ho30) hb); replace HO_10 := Aside0.mk (Kd.R_elder' (kr_ HO_10.out) (Kd.R_base ho30) hb); replace BK501 := BK501.bb hb; replace BK502 := BK502.bb hb; replace BK503 := BK503.bb hb; replace HK := Aside0.mk (Kept.below (S := (fun k_ => P2_ k_)) (by repeat (first | (with_reducible first | exact HK.out | apply Kept.alloc | apply Kept.drewN | apply Kept.drew | refine Kept.setCell ?_ (.inr GW501.out) _ | refine Kept.setCell ?_ (.inr GW502.out) _ | refine Kept.setCell ?_ (.inr GW503.out) _) | exact HK.out)) hb); replace HB := HB.s3 GE501 GE502 GE503 hb; clear hb ho30; have p517 : 0 ≤ (x14_2 : Int) := of_decide_eq_true (as_); have q517 : x14_2 < (x2_1.length : Int) := of_decide_eq_true (as_); obtain ⟨ad517, e517, hx517_0⟩ := Kd.at_int (Kd.R_reads' HO_2.out).2.2 x14_2 p517 q517; cases e517; replace p517 := eq_true p517; replace q517 := eq_true q517))
            go_loopg [12, 15, 16] k2 (fun kq v12 v15 v16 w' => ∃ (x10_3 : List Int) (x12_3 : Int) (x15_3 : List Int) (x16_3 : Int) (x503000_3 : Int) (x503001_3 : Int) (x503002_3 : Int), v12 = .int .i64 x12_3 ∧ v16 = .int .i64 x16_3 ∧ Aside0 (spec_l15Pop.l2 kq l1 x2_1 x10_3 x11_2 x12_3 x14_2 x15_3 x16_3 a0_0 a0_1 x504000_2 x504001_2 x504002_2 = some (r1, r2, r3, r4, r5)) ∧ Aside0 (kq ≤ k2) ∧ Aside0 (Kd.R (Kd.int .i64) 3 w' w0.heap.size (fun k_ => (P2_ k_ ∨ w.heap.size ≤ k_) ∧ some k_ ≠ (v505 : Value).ownBlock ∧ some k_ ≠ (v15 : Value).ownBlock) (.slice (some ad517) x2_1.length co28) x2_1) ∧ Aside0 (Kd.R (Kd.int .i64) 3 w' w0.heap.size (fun k_ => (P2_ k_ ∨ w.heap.size ≤ k_) ∧ some k_ ≠ ((.slice (some ad517) x2_1.length co28) : Value).ownBlock ∧ some k_ ≠ (v15 : Value).ownBlock) v505 x10_3) ∧ Aside0 (Kd.R Kd.bool 4 w' w0.heap.size (fun k_ => (P2_ k_ ∨ w.heap.size ≤ k_)) (.slice (some ⟨go8, 0, none⟩) x11_2.length co8) x11_2) ∧ Aside0 (Kd.R (Kd.int .i64) 3 w' w0.heap.size (fun k_ => (P2_ k_ ∨ w.heap.size ≤ k_) ∧ some k_ ≠ ((.slice (some ad517) x2_1.length co28) : Value).ownBlock ∧ some k_ ≠ (v505 : Value).ownBlock) v15 x15_3) ∧ Aside0 (w'.heap[gb501]? = some (.cells #[.int .i64 a0_0, .int .i64 a0_1] 28 (0, 0))) ∧ Aside0 (w'.heap[gb502]? = some (.cells #[.int .i64 x503000_3, .int .i64 x503001_3, .int .i64 x503002_3] 36 (0, 0))) ∧ Aside0 (w'.heap[gb503]? = some (.cells #[.int .i64 x504000_2, .int .i64 x504001_2, .int .i64 x504002_2] 36 (0, 0))) ∧ Aside0 (Kept w w' (fun k_ => P2_ k_)) ∧ Aside0 (Below w0.heap.size w0 w'))
            case atStart => exact ⟨(x10_2), (x12_2), (y514), (rd x2_1 x14_2), (x503000_2), (x503001_2), (x503002_2), (by first | rfl | (simp; done) | (simp [*]; done)), (by first | rfl | (simp; done) | (simp [*]; done)), H', ⟨Nat.le_refl _⟩, ⟨by (try simp only [hl11_1]); (try simp only [hl11_2]); (with_reducible repeat (first | apply Kd.R_alloc | apply Kd.R_drewN | apply Kd.R_drew)); exact Kd.R_mono HO_2.out (fun _ hk => ⟨hk.1.1, ⟨hk.1.2, hk.2⟩⟩)⟩, ⟨by (try simp only [hl11_1]); (try simp only [hl11_2]); (with_reducible repeat (first | apply Kd.R_alloc | apply Kd.R_drewN | apply Kd.R_drew)); exact Kd.R_mono HO_10.out (fun _ hk => ⟨hk.1.1, ⟨hk.1.2, hk.2⟩⟩)⟩, ⟨by (try simp only [hl11_1]); (try simp only [hl11_2]); (with_reducible repeat (first | apply Kd.R_alloc | apply Kd.R_drewN | apply Kd.R_drew)); exact HO_11.out⟩, ⟨by (try simp only [hl11_1]); (try simp only [hl11_2]); (with_reducible repeat (first | apply Kd.R_alloc | apply Kd.R_drewN | apply Kd.R_drew)); exact Kd.R_mono HO516.out (fun _ hk => ⟨hk.1.1.1, ⟨hk.1.2, hk.2⟩⟩)⟩, ⟨by (try simp only [hl11_1]); (try simp only [hl11_2]); (with_reducible repeat (first | refine blk_drewN ?_ _ | refine blk_drew ?_ | refine blk_alloc ?_ _)); exact BK501.out⟩, ⟨by (try simp only [hl11_1]); (try simp only [hl11_2]); (with_reducible repeat (first | refine blk_drewN ?_ _ | refine blk_drew ?_ | refine blk_alloc ?_ _)); exact BK502.out⟩, ⟨by (try simp only [hl11_1]); (try simp only [hl11_2]); (with_reducible repeat (first | refine blk_drewN ?_ _ | refine blk_drew ?_ | refine blk_alloc ?_ _)); exact BK503.out⟩, ⟨by repeat (first | (with_reducible first | exact HK.out | apply Kept.alloc | apply Kept.drewN | apply Kept.drew | refine Kept.setCell ?_ (.inr GW501.out) _ | refine Kept.setCell ?_ (.inr GW502.out) _ | refine Kept.setCell ?_ (.inr GW503.out) _) | exact HK.out)⟩, ⟨hb3_ HB.out GE501.out GE502.out GE503.out⟩⟩
            case round =>
             clear H'
             try clear c1
             try clear c2
             try clear p2
             try clear c4
             try clear c4b0
             try clear c4b1
             try clear c5
             try clear c5b0
             try clear c5b1
             try clear p5
             try clear q5
             try clear hx5
             try clear c6
             try clear c6b0
             try clear c6b1
             try clear p6
             try clear c7
             try clear c7b0
             try clear c7b1
             try clear p8
             try clear q8
             try clear hx8
             try clear qi8
             try clear hf8
             try clear c11
             try clear c14
             try clear c15
             try clear c23
             try clear c23b0
             try clear c24
             try clear c26
             try clear c26b0
             try clear c27
             try clear c27b0
             try clear hcz12_0
             try clear hcz12_1
             try clear hcz16_0
             try clear hcz16_1
             try clear hcz16_2
             try clear hfz12_0
             try clear hfz12_1
             try clear hfz16_0
             try clear hfz16_1
             try clear hfz16_2
             try clear hx517_0
             try clear hx8_0
             try clear p2
             try clear p517
             try clear p6
             try clear p8
             try clear q517
             try clear q8
             obtain ⟨x10_3, x12_3, x15_3, x16_3, x503000_3, x503001_3, x503002_3, rfl, rfl, HA, HK3, HO_2, HO_10, HO_11, HO_15, BK501, BK502, BK503, HK, HB⟩ := hrel
             cases gk with
             | zero => exact absurd HA.out (by simp [spec_l15Pop.l2])
             | succ k3 =>
              have H := HA.out
              clear HA
              simp only [spec_l15Pop.l2] at H
              by_cases c31 : 0 ≤ x16_3
              ·rw [if_pos c31] at H
               have c31b0 : decide (0 ≤ x16_3) = true := decide_eq_true c31
               clear c31
               by_cases c32 : x16_3 < (x11_2.length : Int)
               ·rw [if_pos c32] at H
                have c32b0 : decide (x16_3 < (x11_2.length : Int)) = true := decide_eq_true c32
                clear c32
                obtain ⟨bq33, hbq33⟩ : ∃ b_ : Bool, b_ = (rdOf false x11_2 x16_3) := ⟨_, rfl⟩
                replace H : (if bq33 = true then (spec_l15Pop.l5 k3 l1 x2_1 x10_3 x11_2 x12_3 x14_2 x15_3 0 a0_0 a0_1 x504000_2 x504001_2 x504002_2) else (spec_l15Pop.l3 k3 l1 x2_1 x10_3 x11_2 x12_3 x14_2 x15_3 x16_3 (-1) 0 a0_0 a0_1 x504000_2 x504001_2 x504002_2)) = some (r1, r2, r3, r4, r5) := by rw [← hbq33] at H; exact H
                have Nbq33 := Aside0.mk hbq33
                clear hbq33
                by_cases c34 : bq33 = true
                ·subst c34
                 have H1 : (spec_l15Pop.l5 k3 l1 x2_1 x10_3 x11_2 x12_3 x14_2 x15_3 0 a0_0 a0_1 x504000_2 x504001_2 x504002_2) = some (r1, r2, r3, r4, r5) := by rw [if_pos rfl] at H; exact H
                 clear H
                 have H := H1
                 clear H1
                 have H' := Aside0.mk H
                 clear H
                 have p518 : 0 ≤ (x16_3 : Int) := of_decide_eq_true (as_)
                 have q518 : x16_3 < (x11_2.length : Int) := of_decide_eq_true (as_)
                 obtain ⟨ad518, e518, hx518_0⟩ := Kd.at_bool (Kd.R_reads' HO_11.out).2.2 x16_3 p518 q518
                 (try rw [← Nbq33.out] at hx518_0)
                 obtain rfl : (⟨go8, 0, none⟩ : Addr) = ad518 := (by injection e518)
                 (first | simp only [add_plain] at hx518_0 | simp only [add_at] at hx518_0 | simp only [Addr.add, Nat.zero_add] at hx518_0 | skip)
                 replace p518 := eq_true p518
                 replace q518 := eq_true q518
                 go_wp2
                 go_loopg [20] k3 (fun kq v20 w' => ∃ (x11_4 : List Bool) (x20_4 : Int) (x504000_4 : Int) (x504001_4 : Int) (x504002_4 : Int), v20 = .int .i64 x20_4 ∧ Aside0 (spec_l15Pop.l5 kq l1 x2_1 x10_3 x11_4 x12_3 x14_2 x15_3 x20_4 a0_0 a0_1 x504000_4 x504001_4 x504002_4 = some (r1, r2, r3, r4, r5)) ∧ Aside0 (kq ≤ k3) ∧ Aside0 (Kd.R (Kd.int .i64) 3 w' w0.heap.size (fun k_ => (P2_ k_ ∨ w.heap.size ≤ k_) ∧ some k_ ≠ (v505 : Value).ownBlock ∧ some k_ ≠ (u15 : Value).ownBlock) (.slice (some ad517) x2_1.length co28) x2_1) ∧ Aside0 (Kd.R (Kd.int .i64) 3 w' w0.heap.size (fun k_ => (P2_ k_ ∨ w.heap.size ≤ k_) ∧ some k_ ≠ ((.slice (some ad517) x2_1.length co28) : Value).ownBlock ∧ some k_ ≠ (u15 : Value).ownBlock) v505 x10_3) ∧ Aside0 (Kd.R Kd.bool 4 w' w0.heap.size (fun k_ => (P2_ k_ ∨ w.heap.size ≤ k_)) (.slice (some ⟨go8, 0, none⟩) x11_2.length co8) x11_4) ∧ Aside0 (Kd.R (Kd.int .i64) 3 w' w0.heap.size (fun k_ => (P2_ k_ ∨ w.heap.size ≤ k_) ∧ some k_ ≠ ((.slice (some ad517) x2_1.length co28) : Value).ownBlock ∧ some k_ ≠ (v505 : Value).ownBlock) u15 x15_3) ∧ Aside0 (w'.heap[gb501]? = some (.cells #[.int .i64 a0_0, .int .i64 a0_1] 28 (0, 0))) ∧ Aside0 (w'.heap[gb502]? = some (.cells #[.int .i64 x503000_3, .int .i64 x503001_3, .int .i64 x503002_3] 36 (0, 0))) ∧ Aside0 (w'.heap[gb503]? = some (.cells #[.int .i64 x504000_4, .int .i64 x504001_4, .int .i64 x504002_4] 36 (0, 0))) ∧ Aside0 (Kept w w' (fun k_ => P2_ k_)) ∧ Aside0 (Below w0.heap.size w0 w'))
                 case atStart => exact ⟨(x11_2), (0), (x504000_2), (x504001_2), (x504002_2), (by first | rfl | (simp; done) | (simp [*]; done)), H', ⟨Nat.le_refl _⟩, ⟨by (try simp only [hl11_1]); (try simp only [hl11_2]); (with_reducible repeat (first | apply Kd.R_alloc | apply Kd.R_drewN | apply Kd.R_drew)); exact HO_2.out⟩, ⟨by (try simp only [hl11_1]); (try simp only [hl11_2]); (with_reducible repeat (first | apply Kd.R_alloc | apply Kd.R_drewN | apply Kd.R_drew)); exact HO_10.out⟩, ⟨by (try simp only [hl11_1]); (try simp only [hl11_2]); (with_reducible repeat (first | apply Kd.R_alloc | apply Kd.R_drewN | apply Kd.R_drew)); exact HO_11.out⟩, ⟨by (try simp only [hl11_1]); (try simp only [hl11_2]); (with_reducible repeat (first | apply Kd.R_alloc | apply Kd.R_drewN | apply Kd.R_drew)); exact HO_15.out⟩, ⟨by (try simp only [hl11_1]); (try simp only [hl11_2]); (with_reducible repeat (first | refine blk_drewN ?_ _ | refine blk_drew ?_ | refine blk_alloc ?_ _)); exact BK501.out⟩, ⟨by (try simp only [hl11_1]); (try simp only [hl11_2]); (with_reducible repeat (first | refine blk_drewN ?_ _ | refine blk_drew ?_ | refine blk_alloc ?_ _)); exact BK502.out⟩, ⟨by (try simp only [hl11_1]); (try simp only [hl11_2]); (with_reducible repeat (first | refine blk_drewN ?_ _ | refine blk_drew ?_ | refine blk_alloc ?_ _)); exact BK503.out⟩, ⟨by repeat (first | (with_reducible first | exact HK.out | apply Kept.alloc | apply Kept.drewN | apply Kept.drew | refine Kept.setCell ?_ (.inr GW501.out) _ | refine Kept.setCell ?_ (.inr GW502.out) _ | refine Kept.setCell ?_ (.inr GW503.out) _) | exact HK.out)⟩, ⟨hb3_ HB.out GE501.out GE502.out GE503.out⟩⟩
                 case round =>
                  clear H'
                  try clear c1
                  try clear c2
                  try clear p2
                  try clear c3
                  try clear q3
                  try clear c4
                  try clear c4b0
                  try clear c4b1
                  try clear c5
                  try clear c5b0
                  try clear c5b1
                  try clear p5
                  try clear q5
                  try clear hx5
                  try clear c6
                  try clear c6b0
                  try clear c6b1
                  try clear p6
                  try clear c7
                  try clear c7b0
                  try clear c7b1
                  try clear p8
                  try clear q8
                  try clear hx8
                  try clear qi8
                  try clear hf8
                  try clear c11
                  try clear c14
                  try clear c15
                  try clear c23
                  try clear c23b0
                  try clear c24
                  try clear c26
                  try clear c26b0
                  try clear c27
                  try clear c27b0
                  try clear c31
                  try clear c31b0
                  try clear c32
                  try clear c32b0
                  try clear q33
                  try clear c34
                  try clear hcz12_0
                  try clear hcz12_1
                  try clear hcz16_0
                  try clear hcz16_1
                  try clear hcz16_2
                  try clear hfz12_0
                  try clear hfz12_1
                  try clear hfz16_0
                  try clear hfz16_1
                  try clear hfz16_2
                  try clear hx517_0
                  try clear hx518_0
                  try clear hx8_0
                  try clear p2
                  try clear p5
                  try clear p517
                  try clear p518
                  try clear p6
                  try clear p8
                  try clear q5
                  try clear q517
                  try clear q518
                  try clear q8
                  obtain ⟨x11_4, x20_4, x504000_4, x504001_4, x504002_4, rfl, HA, HK4, HO_2, HO_10, HO_11, HO_15, BK501, BK502, BK503, HK, HB⟩ := hrel
                  have hl11_4 := (Kd.R_reads' HO_11.out).1
                  rw [hl11_4] at HO_11
                  (try simp only [hl11_4])
                  (try simp only [hl11_4] at BK501)
                  (try simp only [hl11_4] at BK502)
                  (try simp only [hl11_4] at BK503)
                  (try simp only [hl11_4] at HO_2)
                  (try simp only [hl11_4] at HO_10)
                  (try simp only [hl11_4] at HO_15)
                  cases gk with
                  | zero => exact absurd HA.out (by simp [spec_l15Pop.l5])
                  | succ k4 =>
                   have H := HA.out
                   clear HA
                   simp only [spec_l15Pop.l5] at H
                   by_cases c35 : x20_4 < (x15_3.length : Int)
                   ·rw [if_pos c35] at H
                    have c35b0 : decide (x20_4 < (x15_3.length : Int)) = true := decide_eq_true c35
                    clear c35
                    by_cases c36 : 0 ≤ x20_4
                    ·rw [if_pos c36] at H
                     have c36b0 : decide (0 ≤ x20_4) = true := decide_eq_true c36
                     clear c36
                     by_cases c37 : 0 ≤ (rd x15_3 x20_4)
                     ·rw [if_pos c37] at H
                      have c37b0 : decide (0 ≤ (rd x15_3 x20_4)) = true := decide_eq_true c37
                      clear c37
                      by_cases c38 : (rd x15_3 x20_4) < (x11_4.length : Int)
                      ·rw [if_pos c38] at H
                       have c38b0 : decide ((rd x15_3 x20_4) < (x11_4.length : Int)) = true := decide_eq_true c38
                       clear c38
                       obtain ⟨y546, hy546⟩ : ∃ y_ : List Bool, y_ = (x11_4.set ((rd x15_3 x20_4) : Int).toNat true) := ⟨_, rfl⟩
                       replace H : (if (rd x15_3 x20_4) < (l1.length : Int) then (if (rd x15_3 x20_4) < (x10_3.length : Int) then (if 0 ≤ (rd x10_3 (rd x15_3 x20_4)) then (if (rd x10_3 (rd x15_3 x20_4)) < ((rd_L1 l1 (rd x15_3 x20_4)).length : Int) then ((spec_GapAt.f k4 a0_0 a0_1 (rd x15_3 x20_4) (rd (rd_L1 l1 (rd x15_3 x20_4)) (rd x10_3 (rd x15_3 x20_4)))).bind fun t553 => ((spec_SetGap.f k4 x504000_4 x504001_4 x504002_4 t553 true).bind fun bt554 => (spec_l15Pop.l5 k4 l1 x2_1 x10_3 y546 x12_3 x14_2 x15_3 (wrap64 (x20_4 + 1)) a0_0 a0_1 bt554.1 bt554.2.1 bt554.2.2.1))) else (none)) else (none)) else (none)) else (none)) = some (r1, r2, r3, r4, r5) := by first | (rw [hy546]; with_reducible exact H) | (have H2_ := (Option.bind_some _ _).symm.trans H; rw [hy546]; with_reducible exact H2_) | (have H2_ := (Option.bind_some _ _).symm.trans H; with_reducible exact H2_) | with_reducible exact H | (rw [hy546]; exact H) | exact H
                       have Ny546 := Aside0.mk hy546
                       clear hy546
                       by_cases c40 : (rd x15_3 x20_4) < (l1.length : Int)
                       ·rw [if_pos c40] at H
                        have c40b0 : decide ((rd x15_3 x20_4) < (l1.length : Int)) = true := decide_eq_true c40
                        clear c40
                        by_cases c41 : (rd x15_3 x20_4) < (x10_3.length : Int)
                        ·rw [if_pos c41] at H
                         have c41b0 : decide ((rd x15_3 x20_4) < (x10_3.length : Int)) = true := decide_eq_true c41
                         clear c41
                         by_cases c42 : 0 ≤ (rd x10_3 (rd x15_3 x20_4))
                         ·rw [if_pos c42] at H
                          have c42b0 : decide (0 ≤ (rd x10_3 (rd x15_3 x20_4))) = true := decide_eq_true c42
                          clear c42
                          by_cases c43 : (rd x10_3 (rd x15_3 x20_4)) < ((rd_L1 l1 (rd x15_3 x20_4)).length : Int)
                          ·rw [if_pos c43] at H
                           have c43b0 : decide ((rd x10_3 (rd x15_3 x20_4)) < ((rd_L1 l1 (rd x15_3 x20_4)).length : Int)) = true := decide_eq_true c43
                           clear c43
                           replace H := Option.bind_eq_some_iff.mp H
                           obtain ⟨t553, A440, H⟩ := H
                           replace H : ((spec_SetGap.f k4 x504000_4 x504001_4 x504002_4 t553 true).bind fun bt554 => (spec_l15Pop.l5 k4 l1 x2_1 x10_3 y546 x12_3 x14_2 x15_3 (wrap64 (x20_4 + 1)) a0_0 a0_1 bt554.1 bt554.2.1 bt554.2.2.1)) = some (r1, r2, r3, r4, r5) := H
                           have A44 := Aside0.mk A440
                           clear A440
                           replace H := Option.bind_eq_some_iff.mp H
                           obtain ⟨⟨t554, t555, t556, t557⟩, A450, H⟩ := H
                           replace H : (spec_l15Pop.l5 k4 l1 x2_1 x10_3 y546 x12_3 x14_2 x15_3 (wrap64 (x20_4 + 1)) a0_0 a0_1 t554 t555 t556) = some (r1, r2, r3, r4, r5) := H
                           have A45 := Aside0.mk A450
                           clear A450
                           have H' := Aside0.mk H
                           clear H
                           obtain ⟨Ao46, co46, eo46⟩ := Kd.R_slice HO_15.out
                           subst eo46
                           have p545 : 0 ≤ (x20_4 : Int) := of_decide_eq_true (as_)
                           have q545 : x20_4 < (x15_3.length : Int) := of_decide_eq_true (as_)
                           obtain ⟨ad545, e545, hx545_0⟩ := Kd.at_int (Kd.R_reads' HO_15.out).2.2 x20_4 p545 q545
                           cases e545
                           replace p545 := eq_true p545
                           replace q545 := eq_true q545
                           have p39 : 0 ≤ ((rd x15_3 x20_4) : Int) := of_decide_eq_true (as_)
                           have q39 : ((rd x15_3 x20_4) : Int) < ((x11_4.length : Int) : Int) := of_decide_eq_true (as_)
                           obtain ⟨hx39_0, hf39_0⟩ := Kd.R_celln false HO_11.out ((rd x15_3 x20_4) : Int) p39 q39
                           replace p39 := eq_true p39
                           replace q39 := eq_true q39
                           have HP47 := Kd.R_putg HO_11.out ((rd x15_3 x20_4) : Int) true
                           try go_wp2_with (first | ((with_reducible refine gate_store (t := 4) (p := 137) rfl ?_); refine store_event (t := 4) (p := 137) (v := ?vo_w48) (w1 := (wr.setCell ⟨go8, ((rd x15_3 x20_4) : Int).toNat, none⟩ (.bool true))) ?hg ?ho ?hn ?hr ?_; (case ho => rfl); (case hg => rfl); (case hn => rfl); (case hr => first | (go_simp; done) | (go_simp; rfl)); intro w48 hw; have hg : wr.grownBy w48 (some go8) := (by rw [hw]; exact HP47.2); have hp_ : Kd.R Kd.bool 4 w48 w0.heap.size (fun k_ => (P2_ k_ ∨ w.heap.size ≤ k_)) (.slice (some ⟨go8, 0, none⟩) x11_4.length co8) y546 := (by rw [hw, Ny546.out]; exact HP47.1); clear HP47; have n0_ := Aside0.mk (Kd.R_over' (v := (.slice (some ⟨go8, 0, none⟩) x11_4.length co8)) (kr_ HO_2.out) (Kd.R_typed HO_11.out) (by decide) hg); have n1_ := Aside0.mk (Kd.R_over' (v := (.slice (some ⟨go8, 0, none⟩) x11_4.length co8)) (kr_ HO_10.out) (Kd.R_typed HO_11.out) (by decide) hg); have n2_ := Aside0.mk (hp_); have n3_ := Aside0.mk (Kd.R_over' (v := (.slice (some ⟨go8, 0, none⟩) x11_4.length co8)) (kr_ HO_15.out) (Kd.R_typed HO_11.out) (by decide) hg); have n4_ := Aside0.mk (blk_grown (g := gb501) (o := .cells #[.int .i64 a0_0, .int .i64 a0_1] 28 (0, 0)) (bk_ BK501.out) hg (Kd.R_ne HO_11.out BK501.out (by decide))); have n5_ := Aside0.mk (blk_grown (g := gb502) (o := .cells #[.int .i64 x503000_3, .int .i64 x503001_3, .int .i64 x503002_3] 36 (0, 0)) (bk_ BK502.out) hg (Kd.R_ne HO_11.out BK502.out (by decide))); have n6_ := Aside0.mk (blk_grown (g := gb503) (o := .cells #[.int .i64 x504000_4, .int .i64 x504001_4, .int .i64 x504002_4] 36 (0, 0)) (bk_ BK503.out) hg (Kd.R_ne HO_11.out BK503.out (by decide))); have n7_ := Aside0.mk ((by rw [hw]; exact below_set (HB.out) GB8.out : Below w0.heap.size w0 w48)); have n8_ := Aside0.mk (Kept.of_grown (S := (fun k_ => P2_ k_)) hg (by repeat (first | (with_reducible first | exact HK.out | apply Kept.alloc | apply Kept.drewN | apply Kept.drew | refine Kept.setCell ?_ (.inr GW501.out) _ | refine Kept.setCell ?_ (.inr GW502.out) _ | refine Kept.setCell ?_ (.inr GW503.out) _) | exact HK.out)) (fun k_ e_ => (HO_11.out.1 k_ e_))); clear HO_2; clear HO_10; clear HO_11; clear HO_15; clear BK501; clear BK502; clear BK503; clear HB; clear HK; have HO_2 := n0_; have HO_10 := n1_; have HO_11 := n2_; have HO_15 := n3_; have BK501 := n4_; have BK502 := n5_; have BK503 := n6_; have HB := n7_; have HK := n8_; clear n0_ n1_ n2_ n3_ n4_ n5_ n6_ n7_ n8_; clear hg hw hp_))
                           replace HO_2 := Aside0.mk (Kd.R_drew HO_2.out)
                           replace HO_10 := Aside0.mk (Kd.R_drew HO_10.out)
                           replace HO_11 := Aside0.mk (Kd.R_drew HO_11.out)
                           replace HO_15 := Aside0.mk (Kd.R_drew HO_15.out)
                           replace BK501 := Aside0.mk (blk_drew BK501.out)
                           replace BK502 := Aside0.mk (blk_drew BK502.out)
                           replace BK503 := Aside0.mk (blk_drew BK503.out)
                           replace HK := Aside0.mk (Kept.drew HK.out)
                           replace HB := Aside0.mk (below_drew1 HB.out)
                           have p547 : 0 ≤ (x20_4 : Int) := of_decide_eq_true (as_)
                           have q547 : x20_4 < (x15_3.length : Int) := of_decide_eq_true (as_)
                           obtain ⟨ad547, e547, hx547_0⟩ := Kd.at_int (Kd.R_reads' HO_15.out).2.2 x20_4 p547 q547
                           obtain rfl : ad545 = ad547 := (by injection e547)
                           replace p547 := eq_true p547
                           replace q547 := eq_true q547
                           have p548 : 0 ≤ (x20_4 : Int) := of_decide_eq_true (as_)
                           have q548 : x20_4 < (x15_3.length : Int) := of_decide_eq_true (as_)
                           obtain ⟨ad548, e548, hx548_0⟩ := Kd.at_int (Kd.R_reads' HO_15.out).2.2 x20_4 p548 q548
                           obtain rfl : ad545 = ad548 := (by injection e548)
                           replace p548 := eq_true p548
                           replace q548 := eq_true q548
                           have p549 : 0 ≤ ((rd x15_3 x20_4) : Int) := of_decide_eq_true (as_)
                           have q549 : (rd x15_3 x20_4) < (l1.length : Int) := of_decide_eq_true (as_)
                           obtain ⟨ad549, A549_0, c549_0, e549, hx549_0, hl549_0, hi549_0⟩ := at_L1 (Kd.C_kept_now HR1.out HK.out) (rd x15_3 x20_4) p549 q549
                           have hw549_0 := hx549_0
                           cases e549
                           have HR549_0 := Aside0.mk hi549_0
                           have HC549_0 := Aside0.mk hl549_0
                           clear hi549_0 hl549_0
                           replace p549 := eq_true p549
                           replace q549 := eq_true q549
                           have p550 : 0 ≤ (x20_4 : Int) := of_decide_eq_true (as_)
                           have q550 : x20_4 < (x15_3.length : Int) := of_decide_eq_true (as_)
                           obtain ⟨ad550, e550, hx550_0⟩ := Kd.at_int (Kd.R_reads' HO_15.out).2.2 x20_4 p550 q550
                           obtain rfl : ad545 = ad550 := (by injection e550)
                           replace p550 := eq_true p550
                           replace q550 := eq_true q550
                           obtain ⟨Ao50, co50, eo50⟩ := Kd.R_slice HO_10.out
                           (first | subst eo50 | (injection eo50 with f1_ f2_ f3_; have f4_ := f1_.symm; have f5_ := f3_.symm; clear f1_ f2_ f3_; subst f4_; subst f5_))
                           have p551 : 0 ≤ ((rd x15_3 x20_4) : Int) := of_decide_eq_true (as_)
                           have q551 : (rd x15_3 x20_4) < (x10_3.length : Int) := of_decide_eq_true (as_)
                           obtain ⟨ad551, e551, hx551_0⟩ := Kd.at_int (Kd.R_reads' HO_10.out).2.2 (rd x15_3 x20_4) p551 q551
                           cases e551
                           replace p551 := eq_true p551
                           replace q551 := eq_true q551
                           have p552 : 0 ≤ ((rd x10_3 (rd x15_3 x20_4)) : Int) := of_decide_eq_true (as_)
                           have q552 : (rd x10_3 (rd x15_3 x20_4)) < ((rd_L1 l1 (rd x15_3 x20_4)).length : Int) := of_decide_eq_true (as_)
                           obtain ⟨ad552, e552, hx552_0⟩ := Kd.at_int (by repeat (first | (with_reducible exact HR549_0.out) | (with_reducible refine Kd.C_alloc ?_ _) | (with_reducible refine Kd.C_drewN ?_ _) | (with_reducible refine Kd.C_drew ?_) | exact HR549_0.out)) (rd x10_3 (rd x15_3 x20_4)) p552 q552
                           cases e552
                           replace p552 := eq_true p552
                           replace q552 := eq_true q552
                           refine start_ (n := 28) (S := fun w' => w'.cell? ⟨gb503, 0, none⟩ = some (.int .i64 x504000_4) ∧ w'.cell? ⟨gb503, 1, none⟩ = some (.int .i64 x504001_4) ∧ w'.cell? ⟨gb503, 2, none⟩ = some (.int .i64 x504002_4) ∧ w'.cell? ⟨gb501, 0, none⟩ = some (.int .i64 a0_0) ∧ w'.cell? ⟨gb501, 1, none⟩ = some (.int .i64 a0_1) ∧ w'.cell? (ad545.add (x20_4).toNat) = some (.int .i64 (rd x15_3 x20_4)) ∧ w'.cell? (ad545.add (x20_4).toNat) = some (.int .i64 (rd x15_3 x20_4)) ∧ w'.cell? (ad549.add ((rd x15_3 x20_4)).toNat) = some (.slice (some ad552) (rd_L1 l1 (rd x15_3 x20_4)).length c549_0) ∧ w'.cell? (ad545.add (x20_4).toNat) = some (.int .i64 (rd x15_3 x20_4)) ∧ w'.cell? (ad551.add ((rd x15_3 x20_4)).toNat) = some (.int .i64 (rd x10_3 (rd x15_3 x20_4))) ∧ w'.cell? (ad552.add ((rd x10_3 (rd x15_3 x20_4))).toNat) = some (.int .i64 (rd (rd_L1 l1 (rd x15_3 x20_4)) (rd x10_3 (rd x15_3 x20_4))))) (ds := [27]) #[false, false, false, false, false, false, false, false, false, false, false, false, false, false, false, false, false, false, false, false, false, false, false, false, false, false, false, false] (by kernel_rfl) rfl rfl ⟨BK503.c 0, BK503.c 1, BK503.c 2, BK501.c 0, BK501.c 1, hx547_0, hx548_0, hx549_0, hx550_0, hx551_0, hx552_0⟩ (fun hHeld => ?_); refine with_tabW spec_l15Pop.tab37 spec_l15Pop.bits37 (fun HT_ HW_ => ?_)
                           generalize w48.drew = w49 at HO_2 HO_10 HO_11 HO_15 BK501 BK502 BK503 HK HB HR549_0 hx547_0 hx548_0 hx549_0 hx550_0 hx551_0 hx552_0 hHeld ⊢
                           refine pv_ (i := 2) (N := some 141) HT_.out ?_
                           refine pv_ (i := 3) (N := some 142) HT_.out ?_
                           refine pv_ (i := 4) (N := some 143) HT_.out ?_
                           refine pv_ (i := 6) (N := some 145) HT_.out ?_
                           refine pv_ (i := 7) (N := some 146) HT_.out ?_
                           refine pv_ (i := 8) (N := some 147) HT_.out ?_
                           refine pv_ (i := 9) (N := some 148) HT_.out ?_
                           refine pv_ (i := 13) (N := some 152) HT_.out ?_
                           refine pv_ (i := 14) (N := some 153) HT_.out ?_
                           refine pv_ (i := 15) (N := some 154) HT_.out ?_
                           refine pv_ (i := 16) (N := some 155) HT_.out ?_
                           refine tv11_ (i := 0) (N := some 139) HT_.out HW_.out hHeld ?_
                           refine tv11_ (i := 1) (N := some 140) HT_.out HW_.out hHeld ?_
                           refine tv11_ (i := 5) (N := some 144) HT_.out HW_.out hHeld ?_
                           refine tv11_ (i := 10) (N := some 149) HT_.out HW_.out hHeld ?_
                           refine pv_ (i := 11) (N := some 150) HT_.out ?_
                           refine tv11_ (i := 12) (N := some 151) HT_.out HW_.out hHeld ?_
                           refine tv11_ (i := 17) (N := some 156) HT_.out HW_.out hHeld ?_
                           refine pv_ (i := 18) (N := some 157) HT_.out ?_
                           refine tv11_ (i := 19) (N := some 158) HT_.out HW_.out hHeld ?_
                           refine pv_ (i := 20) (N := some 159) HT_.out ?_
                           refine tv11_ (i := 21) (N := some 160) HT_.out HW_.out hHeld ?_
                           refine ov_ (i := 22) (N := some 161) HT_.out (fun K hK => ?_)
                           refine gq_ Try.func43 #[.agg #[.int .i64 a0_0, .int .i64 a0_1], .int .i64 (rd x15_3 x20_4), .int .i64 (rd (rd_L1 l1 (rd x15_3 x20_4)) (rd x10_3 (rd x15_3 x20_4)))] ?_
                           with_reducible refine (spec_GapAt.calls k4 a0_0 a0_1 (rd x15_3 x20_4) (rd (rd_L1 l1 (rd x15_3 x20_4)) (rd x10_3 (rd x15_3 x20_4))) t553 _ A44.out).mono ?_
                           rintro e w51 ⟨rfl, hb⟩
                           have HS5_ := (hb.cell (World.block_lt_of_cell? _ _ (hHeld.2.2.2.2.2.1))).trans (hHeld.2.2.2.2.2.1)
                           have HS6_ := (hb.cell (World.block_lt_of_cell? _ _ (hHeld.2.2.2.2.2.2.1))).trans (hHeld.2.2.2.2.2.2.1)
                           have HS7_ := (hb.cell (World.block_lt_of_cell? _ _ (hHeld.2.2.2.2.2.2.2.1))).trans (hHeld.2.2.2.2.2.2.2.1)
                           have HS8_ := (hb.cell (World.block_lt_of_cell? _ _ (hHeld.2.2.2.2.2.2.2.2.1))).trans (hHeld.2.2.2.2.2.2.2.2.1)
                           have HS9_ := (hb.cell (World.block_lt_of_cell? _ _ (hHeld.2.2.2.2.2.2.2.2.2.1))).trans (hHeld.2.2.2.2.2.2.2.2.2.1)
                           have HS10_ := (hb.cell (World.block_lt_of_cell? _ _ (hHeld.2.2.2.2.2.2.2.2.2.2))).trans (hHeld.2.2.2.2.2.2.2.2.2.2)
                           refine ⟨_, rfl, ?_⟩
                           replace HO_2 := HO_2.kb hb
                           replace HO_10 := HO_10.kb hb
                           replace HO_11 := HO_11.kb hb
                           replace HO_15 := HO_15.kb hb
                           replace BK501 := BK501.bb hb
                           replace BK502 := BK502.bb hb
                           replace BK503 := BK503.bb hb
                           replace HR549_0 := Aside0.mk (Kd.C_below (by repeat (first | (with_reducible exact HR549_0.out) | (with_reducible refine Kd.C_alloc ?_ _) | (with_reducible refine Kd.C_drewN ?_ _) | (with_reducible refine Kd.C_drew ?_) | exact HR549_0.out)) hb)
                           replace HK := Aside0.mk (Kept.below (S := (fun k_ => P2_ k_)) (by repeat (first | (with_reducible first | exact HK.out | apply Kept.alloc | apply Kept.drewN | apply Kept.drew | refine Kept.setCell ?_ (.inr GW501.out) _ | refine Kept.setCell ?_ (.inr GW502.out) _ | refine Kept.setCell ?_ (.inr GW503.out) _) | exact HK.out)) hb)
                           replace HB := HB.s3 GE501 GE502 GE503 hb
                           skip
                           (try clear hb2)
                           (try clear hk)
                           (try clear hi)
                           refine hK.out _ _ ⟨BK503.c 0, BK503.c 1, BK503.c 2, BK501.c 0, BK501.c 1, HS5_, HS6_, HS7_, HS8_, HS9_, HS10_⟩ (fun hHeld => ?_)
                           clear hK K
                           refine nm_ ?_
                           refine ov_ (i := 23) (N := some 162) HT_.out (fun K hK => ?_)
                           refine gq_ Try.func42 #[.agg #[.int .i64 x504000_4, .int .i64 x504001_4, .int .i64 x504002_4], .int .i64 t553, .bool true] ?_
                           with_reducible refine (spec_SetGap.calls k4 x504000_4 x504001_4 x504002_4 t553 true t554 t555 t556 t557 _ A45.out).mono ?_
                           rintro e w52 ⟨rfl, hb⟩
                           have HS5_ := (hb.cell (World.block_lt_of_cell? _ _ (hHeld.2.2.2.2.2.1))).trans (hHeld.2.2.2.2.2.1)
                           have HS6_ := (hb.cell (World.block_lt_of_cell? _ _ (hHeld.2.2.2.2.2.2.1))).trans (hHeld.2.2.2.2.2.2.1)
                           have HS7_ := (hb.cell (World.block_lt_of_cell? _ _ (hHeld.2.2.2.2.2.2.2.1))).trans (hHeld.2.2.2.2.2.2.2.1)
                           have HS8_ := (hb.cell (World.block_lt_of_cell? _ _ (hHeld.2.2.2.2.2.2.2.2.1))).trans (hHeld.2.2.2.2.2.2.2.2.1)
                           have HS9_ := (hb.cell (World.block_lt_of_cell? _ _ (hHeld.2.2.2.2.2.2.2.2.2.1))).trans (hHeld.2.2.2.2.2.2.2.2.2.1)
                           have HS10_ := (hb.cell (World.block_lt_of_cell? _ _ (hHeld.2.2.2.2.2.2.2.2.2.2))).trans (hHeld.2.2.2.2.2.2.2.2.2.2)
                           refine ⟨_, rfl, ?_⟩
                           replace HO_2 := HO_2.kb hb
                           replace HO_10 := HO_10.kb hb
                           replace HO_11 := HO_11.kb hb
                           replace HO_15 := HO_15.kb hb
                           replace BK501 := BK501.bb hb
                           replace BK502 := BK502.bb hb
                           replace BK503 := BK503.bb hb
                           replace HR549_0 := Aside0.mk (Kd.C_below (by repeat (first | (with_reducible exact HR549_0.out) | (with_reducible refine Kd.C_alloc ?_ _) | (with_reducible refine Kd.C_drewN ?_ _) | (with_reducible refine Kd.C_drew ?_) | exact HR549_0.out)) hb)
                           replace HK := Aside0.mk (Kept.below (S := (fun k_ => P2_ k_)) (by repeat (first | (with_reducible first | exact HK.out | apply Kept.alloc | apply Kept.drewN | apply Kept.drew | refine Kept.setCell ?_ (.inr GW501.out) _ | refine Kept.setCell ?_ (.inr GW502.out) _ | refine Kept.setCell ?_ (.inr GW503.out) _) | exact HK.out)) hb)
                           replace HB := HB.s3 GE501 GE502 GE503 hb
                           skip
                           (try clear hb2)
                           (try clear hk)
                           (try clear hi)
                           refine hK.out _ _ ⟨BK503.c 0, BK503.c 1, BK503.c 2, BK501.c 0, BK501.c 1, HS5_, HS6_, HS7_, HS8_, HS9_, HS10_⟩ (fun hHeld => ?_)
                           clear hK K
                           refine nm_ ?_
                           refine pv_ (i := 24) (N := some 138) HT_.out ?_
                           refine pv_ (i := 25) (N := some 163) HT_.out ?_
                           refine pv_ (i := 26) (N := some 164) HT_.out ?_
                           refine last_ (i := 27) (N := none) #[true, true, true, true, true, true, true, true, true, true, true, true, true, true, true, true, true, true, true, true, true, true, true, true, true, true, true, true] rfl rfl (one_of HT_.out (by kernel_rfl)) (by decide) (fun K hK => ?_)
                           have hs53 : w52.cell? ⟨gb503, 0, none⟩ = some (.int .i64 x504000_4) := BK503.c 0
                           have hfs53 := blk_frozen BK503.out 0
                           have hns53_0 := NB501_503.out
                           have hns53_1 := NB502_503.out
                           have hms53_0 := NB503_501.out
                           have hms53_1 := NB503_502.out
                           have hs54 : w52.cell? ⟨gb503, 1, none⟩ = some (.int .i64 x504001_4) := BK503.c 1
                           have hfs54 := blk_frozen BK503.out 1
                           have hns54_0 := NB501_503.out
                           have hns54_1 := NB502_503.out
                           have hms54_0 := NB503_501.out
                           have hms54_1 := NB503_502.out
                           have hs55 : w52.cell? ⟨gb503, 2, none⟩ = some (.int .i64 x504002_4) := BK503.c 2
                           have hfs55 := blk_frozen BK503.out 2
                           have hns55_0 := NB501_503.out
                           have hns55_1 := NB502_503.out
                           have hms55_0 := NB503_501.out
                           have hms55_1 := NB503_502.out
                           refine skip_ (w1 := ?_) (by rfl) rfl ?_ ?_
                           rotate_left
                           ·go_simp
                            rfl
                           refine hK.out _ _ ?_
                           clear hK K
                           refine done_ (done_of HT_.out (by kernel_rfl)) ?_
                           try go_wp2
                           (try simp only [← hl11_4])
                           go_roundg k4
                           case measure => have := HK1.out; have := HK2.out; have := HK3.out; have := HK4.out; omega
                           case rel => exact ⟨(y546), (wrap64 (x20_4 + 1)), (t554), (t555), (t556), (by first | rfl | (simp; done) | (simp [*]; done)), H', ⟨by have := HK1.out; have := HK2.out; have := HK3.out; have := HK4.out; omega⟩, ⟨by (try simp only [hl11_1]); (try simp only [hl11_2]); (try simp only [hl11_4]); (with_reducible repeat (first | apply Kd.R_alloc | apply Kd.R_drewN | apply Kd.R_drew)); exact Kd.R_mono (Kd.R_far (p := ⟨gb503, 2, none⟩) (Kd.R_far (p := ⟨gb503, 1, none⟩) (Kd.R_far (p := ⟨gb503, 0, none⟩) (Kd.R_types HO_2.out BK503.out (by decide)) (fun _ hk => hk.2) (.int .i64 t554)) (fun _ hk => hk.2) (.int .i64 t555)) (fun _ hk => hk.2) (.int .i64 t556)) (fun _ hk => ⟨hk.1.1, ⟨hk.1.2.1, hk.1.2.2⟩⟩)⟩, ⟨by (try simp only [hl11_1]); (try simp only [hl11_2]); (try simp only [hl11_4]); (with_reducible repeat (first | apply Kd.R_alloc | apply Kd.R_drewN | apply Kd.R_drew)); exact Kd.R_mono (Kd.R_far (p := ⟨gb503, 2, none⟩) (Kd.R_far (p := ⟨gb503, 1, none⟩) (Kd.R_far (p := ⟨gb503, 0, none⟩) (Kd.R_types HO_10.out BK503.out (by decide)) (fun _ hk => hk.2) (.int .i64 t554)) (fun _ hk => hk.2) (.int .i64 t555)) (fun _ hk => hk.2) (.int .i64 t556)) (fun _ hk => ⟨hk.1.1, ⟨hk.1.2.1, hk.1.2.2⟩⟩)⟩, ⟨by (try simp only [hl11_1]); (try simp only [hl11_2]); (try simp only [hl11_4]); (with_reducible repeat (first | apply Kd.R_alloc | apply Kd.R_drewN | apply Kd.R_drew)); exact Kd.R_mono (Kd.R_far (p := ⟨gb503, 2, none⟩) (Kd.R_far (p := ⟨gb503, 1, none⟩) (Kd.R_far (p := ⟨gb503, 0, none⟩) (Kd.R_types HO_11.out BK503.out (by decide)) (fun _ hk => hk.2) (.int .i64 t554)) (fun _ hk => hk.2) (.int .i64 t555)) (fun _ hk => hk.2) (.int .i64 t556)) (fun _ hk => hk.1)⟩, ⟨by (try simp only [hl11_1]); (try simp only [hl11_2]); (try simp only [hl11_4]); (with_reducible repeat (first | apply Kd.R_alloc | apply Kd.R_drewN | apply Kd.R_drew)); exact Kd.R_mono (Kd.R_far (p := ⟨gb503, 2, none⟩) (Kd.R_far (p := ⟨gb503, 1, none⟩) (Kd.R_far (p := ⟨gb503, 0, none⟩) (Kd.R_types HO_15.out BK503.out (by decide)) (fun _ hk => hk.2) (.int .i64 t554)) (fun _ hk => hk.2) (.int .i64 t555)) (fun _ hk => hk.2) (.int .i64 t556)) (fun _ hk => ⟨hk.1.1, ⟨hk.1.2.1, hk.1.2.2⟩⟩)⟩, ⟨by (try simp only [hl11_1]); (try simp only [hl11_2]); (try simp only [hl11_4]); (with_reducible repeat (first | refine blk_drewN ?_ _ | refine blk_drew ?_ | refine blk_alloc ?_ _)); refine blk_far ?_ NB501_503.out _; (with_reducible repeat (first | refine blk_drewN ?_ _ | refine blk_drew ?_ | refine blk_alloc ?_ _)); refine blk_far ?_ NB501_503.out _; (with_reducible repeat (first | refine blk_drewN ?_ _ | refine blk_drew ?_ | refine blk_alloc ?_ _)); refine blk_far ?_ NB501_503.out _; (with_reducible repeat (first | refine blk_drewN ?_ _ | refine blk_drew ?_ | refine blk_alloc ?_ _)); exact BK501.out⟩, ⟨by (try simp only [hl11_1]); (try simp only [hl11_2]); (try simp only [hl11_4]); (with_reducible repeat (first | refine blk_drewN ?_ _ | refine blk_drew ?_ | refine blk_alloc ?_ _)); refine blk_far ?_ NB502_503.out _; (with_reducible repeat (first | refine blk_drewN ?_ _ | refine blk_drew ?_ | refine blk_alloc ?_ _)); refine blk_far ?_ NB502_503.out _; (with_reducible repeat (first | refine blk_drewN ?_ _ | refine blk_drew ?_ | refine blk_alloc ?_ _)); refine blk_far ?_ NB502_503.out _; (with_reducible repeat (first | refine blk_drewN ?_ _ | refine blk_drew ?_ | refine blk_alloc ?_ _)); exact BK502.out⟩, ⟨by (try simp only [hl11_1]); (try simp only [hl11_2]); (try simp only [hl11_4]); (with_reducible repeat (first | refine blk_drewN ?_ _ | refine blk_drew ?_ | refine blk_alloc ?_ _)); refine blk_put (cs := #[.int .i64 t554, .int .i64 t555, .int .i64 x504002_4]) ?_ 2 _ rfl; (with_reducible repeat (first | refine blk_drewN ?_ _ | refine blk_drew ?_ | refine blk_alloc ?_ _)); refine blk_put (cs := #[.int .i64 t554, .int .i64 x504001_4, .int .i64 x504002_4]) ?_ 1 _ rfl; (with_reducible repeat (first | refine blk_drewN ?_ _ | refine blk_drew ?_ | refine blk_alloc ?_ _)); refine blk_put (cs := #[.int .i64 x504000_4, .int .i64 x504001_4, .int .i64 x504002_4]) ?_ 0 _ rfl; (with_reducible repeat (first | refine blk_drewN ?_ _ | refine blk_drew ?_ | refine blk_alloc ?_ _)); exact BK503.out⟩, ⟨by repeat (first | (with_reducible first | exact HK.out | apply Kept.alloc | apply Kept.drewN | apply Kept.drew | refine Kept.setCell ?_ (.inr GW501.out) _ | refine Kept.setCell ?_ (.inr GW502.out) _ | refine Kept.setCell ?_ (.inr GW503.out) _) | exact HK.out)⟩, ⟨hb3_ HB.out GE501.out GE502.out GE503.out⟩⟩
                          ·rw [if_neg c43] at H
                           exact absurd H (by simp)
                         ·rw [if_neg c42] at H
                          exact absurd H (by simp)
                        ·rw [if_neg c41] at H
                         exact absurd H (by simp)
                       ·rw [if_neg c40] at H
                        exact absurd H (by simp)
                      ·rw [if_neg c38] at H
                       exact absurd H (by simp)
                     ·rw [if_neg c37] at H
                      exact absurd H (by simp)
                    ·rw [if_neg c36] at H
                     exact absurd H (by simp)
                   ·rw [if_neg c35] at H
                    have c35b0 : decide (x20_4 < (x15_3.length : Int)) = false := decide_eq_false c35
                    clear c35
                    have H' := Aside0.mk H
                    clear H
                    obtain ⟨Ao56, co56, eo56⟩ := Kd.R_slice HO_15.out
                    subst eo56
                    go_wp2
                    (try simp only [← hl11_2, ← hl11_4])
                    go_roundg k4
                    case measure => have := HK1.out; have := HK2.out; have := HK3.out; have := HK4.out; omega
                    case rel => exact ⟨(x10_3), (x11_4), (x12_3), (wrap64 (x14_2 + 1)), (x503000_3), (x503001_3), (x503002_3), (x504000_4), (x504001_4), (x504002_4), (by first | rfl | (simp; done) | (simp [*]; done)), (by first | rfl | (simp; done) | (simp [*]; done)), H', ⟨by have := HK1.out; have := HK2.out; have := HK3.out; have := HK4.out; omega⟩, ⟨by (try simp only [hl11_1]); (try simp only [hl11_2]); (try simp only [hl11_4]); (with_reducible repeat (first | apply Kd.R_alloc | apply Kd.R_drewN | apply Kd.R_drew)); exact Kd.R_mono HO_2.out (fun _ hk => ⟨hk.1, hk.2.1⟩)⟩, ⟨by (try simp only [hl11_1]); (try simp only [hl11_2]); (try simp only [hl11_4]); (with_reducible repeat (first | apply Kd.R_alloc | apply Kd.R_drewN | apply Kd.R_drew)); exact Kd.R_mono HO_10.out (fun _ hk => ⟨hk.1, hk.2.1⟩)⟩, ⟨by (try simp only [hl11_1]); (try simp only [hl11_2]); (try simp only [hl11_4]); (with_reducible repeat (first | apply Kd.R_alloc | apply Kd.R_drewN | apply Kd.R_drew)); exact HO_11.out⟩, ⟨by (try simp only [hl11_1]); (try simp only [hl11_2]); (try simp only [hl11_4]); (with_reducible repeat (first | refine blk_drewN ?_ _ | refine blk_drew ?_ | refine blk_alloc ?_ _)); exact BK501.out⟩, ⟨by (try simp only [hl11_1]); (try simp only [hl11_2]); (try simp only [hl11_4]); (with_reducible repeat (first | refine blk_drewN ?_ _ | refine blk_drew ?_ | refine blk_alloc ?_ _)); exact BK502.out⟩, ⟨by (try simp only [hl11_1]); (try simp only [hl11_2]); (try simp only [hl11_4]); (with_reducible repeat (first | refine blk_drewN ?_ _ | refine blk_drew ?_ | refine blk_alloc ?_ _)); exact BK503.out⟩, ⟨by repeat (first | (with_reducible first | exact HK.out | apply Kept.alloc | apply Kept.drewN | apply Kept.drew | refine Kept.setCell ?_ (.inr GW501.out) _ | refine Kept.setCell ?_ (.inr GW502.out) _ | refine Kept.setCell ?_ (.inr GW503.out) _) | exact HK.out)⟩, ⟨hb3_ HB.out GE501.out GE502.out GE503.out⟩⟩
                ·replace c34 := Bool.eq_false_iff.mpr c34
                 subst c34
                 have H1 : (spec_l15Pop.l3 k3 l1 x2_1 x10_3 x11_2 x12_3 x14_2 x15_3 x16_3 (-1) 0 a0_0 a0_1 x504000_2 x504001_2 x504002_2) = some (r1, r2, r3, r4, r5) := by rw [if_neg (show ¬ (false = true) by decide)] at H; exact H
                 clear H
                 have H := H1
                 clear H1
                 have H' := Aside0.mk H
                 clear H
                 have p518 : 0 ≤ (x16_3 : Int) := of_decide_eq_true (as_)
                 have q518 : x16_3 < (x11_2.length : Int) := of_decide_eq_true (as_)
                 obtain ⟨ad518, e518, hx518_0⟩ := Kd.at_bool (Kd.R_reads' HO_11.out).2.2 x16_3 p518 q518
                 (try rw [← Nbq33.out] at hx518_0)
                 obtain rfl : (⟨go8, 0, none⟩ : Addr) = ad518 := (by injection e518)
                 (first | simp only [add_plain] at hx518_0 | simp only [add_at] at hx518_0 | simp only [Addr.add, Nat.zero_add] at hx518_0 | skip)
                 replace p518 := eq_true p518
                 replace q518 := eq_true q518
                 go_wp2
                 go_loopg [17, 18] k3 (fun kq v17 v18 w' => ∃ (x17_4 : Int) (x18_4 : Int), v17 = .int .i64 x17_4 ∧ v18 = .int .i64 x18_4 ∧ Aside0 (spec_l15Pop.l3 kq l1 x2_1 x10_3 x11_2 x12_3 x14_2 x15_3 x16_3 x17_4 x18_4 a0_0 a0_1 x504000_2 x504001_2 x504002_2 = some (r1, r2, r3, r4, r5)) ∧ Aside0 (kq ≤ k3) ∧ Aside0 (Kd.R (Kd.int .i64) 3 w' w0.heap.size (fun k_ => (P2_ k_ ∨ w.heap.size ≤ k_) ∧ some k_ ≠ (v505 : Value).ownBlock ∧ some k_ ≠ (u15 : Value).ownBlock) (.slice (some ad517) x2_1.length co28) x2_1) ∧ Aside0 (Kd.R (Kd.int .i64) 3 w' w0.heap.size (fun k_ => (P2_ k_ ∨ w.heap.size ≤ k_) ∧ some k_ ≠ ((.slice (some ad517) x2_1.length co28) : Value).ownBlock ∧ some k_ ≠ (u15 : Value).ownBlock) v505 x10_3) ∧ Aside0 (Kd.R Kd.bool 4 w' w0.heap.size (fun k_ => (P2_ k_ ∨ w.heap.size ≤ k_)) (.slice (some ⟨go8, 0, none⟩) x11_2.length co8) x11_2) ∧ Aside0 (Kd.R (Kd.int .i64) 3 w' w0.heap.size (fun k_ => (P2_ k_ ∨ w.heap.size ≤ k_) ∧ some k_ ≠ ((.slice (some ad517) x2_1.length co28) : Value).ownBlock ∧ some k_ ≠ (v505 : Value).ownBlock) u15 x15_3) ∧ Aside0 (w'.heap[gb501]? = some (.cells #[.int .i64 a0_0, .int .i64 a0_1] 28 (0, 0))) ∧ Aside0 (w'.heap[gb502]? = some (.cells #[.int .i64 x503000_3, .int .i64 x503001_3, .int .i64 x503002_3] 36 (0, 0))) ∧ Aside0 (w'.heap[gb503]? = some (.cells #[.int .i64 x504000_2, .int .i64 x504001_2, .int .i64 x504002_2] 36 (0, 0))) ∧ Aside0 (Kept w w' (fun k_ => P2_ k_)) ∧ Aside0 (Below w0.heap.size w0 w'))
                 case atStart => exact ⟨((-1)), (0), (by first | rfl | (simp; done) | (simp [*]; done)), (by first | rfl | (simp; done) | (simp [*]; done)), H', ⟨Nat.le_refl _⟩, ⟨by (try simp only [hl11_1]); (try simp only [hl11_2]); (with_reducible repeat (first | apply Kd.R_alloc | apply Kd.R_drewN | apply Kd.R_drew)); exact HO_2.out⟩, ⟨by (try simp only [hl11_1]); (try simp only [hl11_2]); (with_reducible repeat (first | apply Kd.R_alloc | apply Kd.R_drewN | apply Kd.R_drew)); exact HO_10.out⟩, ⟨by (try simp only [hl11_1]); (try simp only [hl11_2]); (with_reducible repeat (first | apply Kd.R_alloc | apply Kd.R_drewN | apply Kd.R_drew)); exact HO_11.out⟩, ⟨by (try simp only [hl11_1]); (try simp only [hl11_2]); (with_reducible repeat (first | apply Kd.R_alloc | apply Kd.R_drewN | apply Kd.R_drew)); exact HO_15.out⟩, ⟨by (try simp only [hl11_1]); (try simp only [hl11_2]); (with_reducible repeat (first | refine blk_drewN ?_ _ | refine blk_drew ?_ | refine blk_alloc ?_ _)); exact BK501.out⟩, ⟨by (try simp only [hl11_1]); (try simp only [hl11_2]); (with_reducible repeat (first | refine blk_drewN ?_ _ | refine blk_drew ?_ | refine blk_alloc ?_ _)); exact BK502.out⟩, ⟨by (try simp only [hl11_1]); (try simp only [hl11_2]); (with_reducible repeat (first | refine blk_drewN ?_ _ | refine blk_drew ?_ | refine blk_alloc ?_ _)); exact BK503.out⟩, ⟨by repeat (first | (with_reducible first | exact HK.out | apply Kept.alloc | apply Kept.drewN | apply Kept.drew | refine Kept.setCell ?_ (.inr GW501.out) _ | refine Kept.setCell ?_ (.inr GW502.out) _ | refine Kept.setCell ?_ (.inr GW503.out) _) | exact HK.out)⟩, ⟨hb3_ HB.out GE501.out GE502.out GE503.out⟩⟩
                 case round =>
                  clear H'
                  try clear c1
                  try clear c2
                  try clear p2
                  try clear c3
                  try clear p3
                  try clear q3
                  try clear hx3
                  try clear hf3
                  try clear c4
                  try clear c4b0
                  try clear c4b1
                  try clear c5
                  try clear c5b0
                  try clear c5b1
                  try clear p5
                  try clear q5
                  try clear hx5
                  try clear c6
                  try clear c6b0
                  try clear c6b1
                  try clear p6
                  try clear c7
                  try clear c7b0
                  try clear c7b1
                  try clear p8
                  try clear q8
                  try clear hx8
                  try clear qi8
                  try clear hf8
                  try clear c11
                  try clear c14
                  try clear c15
                  try clear c23
                  try clear c23b0
                  try clear c24
                  try clear c26
                  try clear c26b0
                  try clear c27
                  try clear c27b0
                  try clear c31
                  try clear c31b0
                  try clear c32
                  try clear c32b0
                  try clear q33
                  try clear c34
                  try clear c35
                  try clear c35b0
                  try clear c36
                  try clear c36b0
                  try clear c37
                  try clear c37b0
                  try clear c38
                  try clear c38b0
                  try clear p39
                  try clear q39
                  try clear hx39
                  try clear hf39
                  try clear c40
                  try clear c40b0
                  try clear c41
                  try clear c41b0
                  try clear c42
                  try clear c42b0
                  try clear c43
                  try clear c43b0
                  try clear p51
                  try clear q51
                  try clear hx51
                  try clear c54
                  try clear p54
                  try clear q54
                  try clear hx54
                  try clear p55
                  try clear q55
                  try clear hx55
                  try clear hcz12_0
                  try clear hcz12_1
                  try clear hcz16_0
                  try clear hcz16_1
                  try clear hcz16_2
                  try clear hfz12_0
                  try clear hfz12_1
                  try clear hfz16_0
                  try clear hfz16_1
                  try clear hfz16_2
                  try clear hx39_0
                  try clear hx517_0
                  try clear hx518_0
                  try clear hx545_0
                  try clear hx547_0
                  try clear hx548_0
                  try clear hx549_0
                  try clear hx550_0
                  try clear hx551_0
                  try clear hx552_0
                  try clear hx8_0
                  try clear p2
                  try clear p39
                  try clear p5
                  try clear p517
                  try clear p518
                  try clear p545
                  try clear p547
                  try clear p548
                  try clear p549
                  try clear p550
                  try clear p551
                  try clear p552
                  try clear p6
                  try clear p8
                  try clear q3
                  try clear q33
                  try clear q39
                  try clear q5
                  try clear q517
                  try clear q518
                  try clear q545
                  try clear q547
                  try clear q548
                  try clear q549
                  try clear q550
                  try clear q551
                  try clear q552
                  try clear q8
                  obtain ⟨x17_4, x18_4, rfl, rfl, HA, HK4, HO_2, HO_10, HO_11, HO_15, BK501, BK502, BK503, HK, HB⟩ := hrel
                  cases gk with
                  | zero => exact absurd HA.out (by simp [spec_l15Pop.l3])
                  | succ k4 =>
                   have H := HA.out
                   clear HA
                   simp only [spec_l15Pop.l3] at H
                   by_cases c57 : x18_4 < (x15_3.length : Int)
                   ·rw [if_pos c57] at H
                    have c57b0 : decide (x18_4 < (x15_3.length : Int)) = true := decide_eq_true c57
                    clear c57
                    by_cases c58 : 0 ≤ x18_4
                    ·rw [if_pos c58] at H
                     have c58b0 : decide (0 ≤ x18_4) = true := decide_eq_true c58
                     clear c58
                     by_cases c59 : (rd x15_3 x18_4) = x16_3
                     ·rw [if_pos c59] at H
                      have c59b0 : ((rd x15_3 x18_4) == x16_3) = true := beq_iff_eq.mpr c59
                      have c59b1 : ((rd x15_3 x18_4) != x16_3) = false := bne_eq_false_iff_eq.mpr c59
                      clear c59
                      have H' := Aside0.mk H
                      clear H
                      obtain ⟨Ao60, co60, eo60⟩ := Kd.R_slice HO_15.out
                      subst eo60
                      have p519 : 0 ≤ (x18_4 : Int) := of_decide_eq_true (as_)
                      have q519 : x18_4 < (x15_3.length : Int) := of_decide_eq_true (as_)
                      obtain ⟨ad519, e519, hx519_0⟩ := Kd.at_int (Kd.R_reads' HO_15.out).2.2 x18_4 p519 q519
                      cases e519
                      replace p519 := eq_true p519
                      replace q519 := eq_true q519
                      go_wp2
                      go_roundg k4
                      case measure => have := HK1.out; have := HK2.out; have := HK3.out; have := HK4.out; omega
                      case rel => exact ⟨(x18_4), (wrap64 (x18_4 + 1)), (by first | rfl | (simp; done) | (simp [*]; done)), (by first | rfl | (simp; done) | (simp [*]; done)), H', ⟨by have := HK1.out; have := HK2.out; have := HK3.out; have := HK4.out; omega⟩, ⟨by (try simp only [hl11_1]); (try simp only [hl11_2]); (with_reducible repeat (first | apply Kd.R_alloc | apply Kd.R_drewN | apply Kd.R_drew)); exact HO_2.out⟩, ⟨by (try simp only [hl11_1]); (try simp only [hl11_2]); (with_reducible repeat (first | apply Kd.R_alloc | apply Kd.R_drewN | apply Kd.R_drew)); exact HO_10.out⟩, ⟨by (try simp only [hl11_1]); (try simp only [hl11_2]); (with_reducible repeat (first | apply Kd.R_alloc | apply Kd.R_drewN | apply Kd.R_drew)); exact HO_11.out⟩, ⟨by (try simp only [hl11_1]); (try simp only [hl11_2]); (with_reducible repeat (first | apply Kd.R_alloc | apply Kd.R_drewN | apply Kd.R_drew)); exact HO_15.out⟩, ⟨by (try simp only [hl11_1]); (try simp only [hl11_2]); (with_reducible repeat (first | refine blk_drewN ?_ _ | refine blk_drew ?_ | refine blk_alloc ?_ _)); exact BK501.out⟩, ⟨by (try simp only [hl11_1]); (try simp only [hl11_2]); (with_reducible repeat (first | refine blk_drewN ?_ _ | refine blk_drew ?_ | refine blk_alloc ?_ _)); exact BK502.out⟩, ⟨by (try simp only [hl11_1]); (try simp only [hl11_2]); (with_reducible repeat (first | refine blk_drewN ?_ _ | refine blk_drew ?_ | refine blk_alloc ?_ _)); exact BK503.out⟩, ⟨by repeat (first | (with_reducible first | exact HK.out | apply Kept.alloc | apply Kept.drewN | apply Kept.drew | refine Kept.setCell ?_ (.inr GW501.out) _ | refine Kept.setCell ?_ (.inr GW502.out) _ | refine Kept.setCell ?_ (.inr GW503.out) _) | exact HK.out)⟩, ⟨hb3_ HB.out GE501.out GE502.out GE503.out⟩⟩
                     ·rw [if_neg c59] at H
                      have c59b0 : ((rd x15_3 x18_4) == x16_3) = false := beq_eq_false_iff_ne.mpr c59
                      have c59b1 : ((rd x15_3 x18_4) != x16_3) = true := bne_iff_ne.mpr c59
                      have H' := Aside0.mk H
                      clear H
                      obtain ⟨Ao61, co61, eo61⟩ := Kd.R_slice HO_15.out
                      subst eo61
                      have p519 : 0 ≤ (x18_4 : Int) := of_decide_eq_true (as_)
                      have q519 : x18_4 < (x15_3.length : Int) := of_decide_eq_true (as_)
                      obtain ⟨ad519, e519, hx519_0⟩ := Kd.at_int (Kd.R_reads' HO_15.out).2.2 x18_4 p519 q519
                      cases e519
                      replace p519 := eq_true p519
                      replace q519 := eq_true q519
                      go_wp2
                      go_roundg k4
                      case measure => have := HK1.out; have := HK2.out; have := HK3.out; have := HK4.out; omega
                      case rel => exact ⟨(x17_4), (wrap64 (x18_4 + 1)), (by first | rfl | (simp; done) | (simp [*]; done)), (by first | rfl | (simp; done) | (simp [*]; done)), H', ⟨by have := HK1.out; have := HK2.out; have := HK3.out; have := HK4.out; omega⟩, ⟨by (try simp only [hl11_1]); (try simp only [hl11_2]); (with_reducible repeat (first | apply Kd.R_alloc | apply Kd.R_drewN | apply Kd.R_drew)); exact HO_2.out⟩, ⟨by (try simp only [hl11_1]); (try simp only [hl11_2]); (with_reducible repeat (first | apply Kd.R_alloc | apply Kd.R_drewN | apply Kd.R_drew)); exact HO_10.out⟩, ⟨by (try simp only [hl11_1]); (try simp only [hl11_2]); (with_reducible repeat (first | apply Kd.R_alloc | apply Kd.R_drewN | apply Kd.R_drew)); exact HO_11.out⟩, ⟨by (try simp only [hl11_1]); (try simp only [hl11_2]); (with_reducible repeat (first | apply Kd.R_alloc | apply Kd.R_drewN | apply Kd.R_drew)); exact HO_15.out⟩, ⟨by (try simp only [hl11_1]); (try simp only [hl11_2]); (with_reducible repeat (first | refine blk_drewN ?_ _ | refine blk_drew ?_ | refine blk_alloc ?_ _)); exact BK501.out⟩, ⟨by (try simp only [hl11_1]); (try simp only [hl11_2]); (with_reducible repeat (first | refine blk_drewN ?_ _ | refine blk_drew ?_ | refine blk_alloc ?_ _)); exact BK502.out⟩, ⟨by (try simp only [hl11_1]); (try simp only [hl11_2]); (with_reducible repeat (first | refine blk_drewN ?_ _ | refine blk_drew ?_ | refine blk_alloc ?_ _)); exact BK503.out⟩, ⟨by repeat (first | (with_reducible first | exact HK.out | apply Kept.alloc | apply Kept.drewN | apply Kept.drew | refine Kept.setCell ?_ (.inr GW501.out) _ | refine Kept.setCell ?_ (.inr GW502.out) _ | refine Kept.setCell ?_ (.inr GW503.out) _) | exact HK.out)⟩, ⟨hb3_ HB.out GE501.out GE502.out GE503.out⟩⟩
                    ·rw [if_neg c58] at H
                     exact absurd H (by simp)
                   ·rw [if_neg c57] at H
                    have c57b0 : decide (x18_4 < (x15_3.length : Int)) = false := decide_eq_false c57
                    clear c57
                    by_cases c62 : x17_4 ≥ 0
                    ·rw [if_pos c62] at H
                     have c62b0 : decide (0 ≤ x17_4) = true := decide_eq_true c62
                     clear c62
                     have H' := Aside0.mk H
                     clear H
                     obtain ⟨Ao63, co63, eo63⟩ := Kd.R_slice HO_15.out
                     subst eo63
                     go_wp2
                     go_loopg [12, 19] k4 (fun kq v12 v19 w' => ∃ (x10_5 : List Int) (x12_5 : Int) (x19_5 : Int), v12 = .int .i64 x12_5 ∧ v19 = .int .i64 x19_5 ∧ Aside0 (spec_l15Pop.l4 kq l1 x2_1 x10_5 x11_2 x12_5 x14_2 x15_3 x16_3 x17_4 x19_5 a0_0 a0_1 x504000_2 x504001_2 x504002_2 = some (r1, r2, r3, r4, r5)) ∧ Aside0 (kq ≤ k4) ∧ Aside0 (Kd.R (Kd.int .i64) 3 w' w0.heap.size (fun k_ => (P2_ k_ ∨ w.heap.size ≤ k_) ∧ some k_ ≠ (v505 : Value).ownBlock ∧ some k_ ≠ ((.slice Ao63 x15_3.length co63) : Value).ownBlock) (.slice (some ad517) x2_1.length co28) x2_1) ∧ Aside0 (Kd.R (Kd.int .i64) 3 w' w0.heap.size (fun k_ => (P2_ k_ ∨ w.heap.size ≤ k_) ∧ some k_ ≠ ((.slice (some ad517) x2_1.length co28) : Value).ownBlock ∧ some k_ ≠ ((.slice Ao63 x15_3.length co63) : Value).ownBlock) v505 x10_5) ∧ Aside0 (Kd.R Kd.bool 4 w' w0.heap.size (fun k_ => (P2_ k_ ∨ w.heap.size ≤ k_)) (.slice (some ⟨go8, 0, none⟩) x11_2.length co8) x11_2) ∧ Aside0 (Kd.R (Kd.int .i64) 3 w' w0.heap.size (fun k_ => (P2_ k_ ∨ w.heap.size ≤ k_) ∧ some k_ ≠ ((.slice (some ad517) x2_1.length co28) : Value).ownBlock ∧ some k_ ≠ (v505 : Value).ownBlock) (.slice Ao63 x15_3.length co63) x15_3) ∧ Aside0 (w'.heap[gb501]? = some (.cells #[.int .i64 a0_0, .int .i64 a0_1] 28 (0, 0))) ∧ Aside0 (w'.heap[gb502]? = some (.cells #[.int .i64 x503000_3, .int .i64 x503001_3, .int .i64 x503002_3] 36 (0, 0))) ∧ Aside0 (w'.heap[gb503]? = some (.cells #[.int .i64 x504000_2, .int .i64 x504001_2, .int .i64 x504002_2] 36 (0, 0))) ∧ Aside0 (Kept w w' (fun k_ => P2_ k_)) ∧ Aside0 (Below w0.heap.size w0 w'))
                     case atStart => exact ⟨(x10_3), (x12_3), (x17_4), (by first | rfl | (simp; done) | (simp [*]; done)), (by first | rfl | (simp; done) | (simp [*]; done)), H', ⟨Nat.le_refl _⟩, ⟨by (try simp only [hl11_1]); (try simp only [hl11_2]); (with_reducible repeat (first | apply Kd.R_alloc | apply Kd.R_drewN | apply Kd.R_drew)); exact HO_2.out⟩, ⟨by (try simp only [hl11_1]); (try simp only [hl11_2]); (with_reducible repeat (first | apply Kd.R_alloc | apply Kd.R_drewN | apply Kd.R_drew)); exact HO_10.out⟩, ⟨by (try simp only [hl11_1]); (try simp only [hl11_2]); (with_reducible repeat (first | apply Kd.R_alloc | apply Kd.R_drewN | apply Kd.R_drew)); exact HO_11.out⟩, ⟨by (try simp only [hl11_1]); (try simp only [hl11_2]); (with_reducible repeat (first | apply Kd.R_alloc | apply Kd.R_drewN | apply Kd.R_drew)); exact HO_15.out⟩, ⟨by (try simp only [hl11_1]); (try simp only [hl11_2]); (with_reducible repeat (first | refine blk_drewN ?_ _ | refine blk_drew ?_ | refine blk_alloc ?_ _)); exact BK501.out⟩, ⟨by (try simp only [hl11_1]); (try simp only [hl11_2]); (with_reducible repeat (first | refine blk_drewN ?_ _ | refine blk_drew ?_ | refine blk_alloc ?_ _)); exact BK502.out⟩, ⟨by (try simp only [hl11_1]); (try simp only [hl11_2]); (with_reducible repeat (first | refine blk_drewN ?_ _ | refine blk_drew ?_ | refine blk_alloc ?_ _)); exact BK503.out⟩, ⟨by repeat (first | (with_reducible first | exact HK.out | apply Kept.alloc | apply Kept.drewN | apply Kept.drew | refine Kept.setCell ?_ (.inr GW501.out) _ | refine Kept.setCell ?_ (.inr GW502.out) _ | refine Kept.setCell ?_ (.inr GW503.out) _) | exact HK.out)⟩, ⟨hb3_ HB.out GE501.out GE502.out GE503.out⟩⟩
                     case round =>
                      clear H'
                      try clear c1
                      try clear c2
                      try clear p2
                      try clear c3
                      try clear p3
                      try clear q3
                      try clear hx3
                      try clear hf3
                      try clear c4
                      try clear c4b0
                      try clear c4b1
                      try clear c5
                      try clear c5b0
                      try clear c5b1
                      try clear p5
                      try clear q5
                      try clear hx5
                      try clear c6
                      try clear c6b0
                      try clear c6b1
                      try clear p6
                      try clear c7
                      try clear c7b0
                      try clear c7b1
                      try clear p8
                      try clear q8
                      try clear hx8
                      try clear qi8
                      try clear hf8
                      try clear c11
                      try clear c14
                      try clear c15
                      try clear c23
                      try clear c23b0
                      try clear c24
                      try clear c26
                      try clear c26b0
                      try clear c27
                      try clear c27b0
                      try clear c31
                      try clear c31b0
                      try clear c32
                      try clear c32b0
                      try clear q33
                      try clear c34
                      try clear c35
                      try clear c35b0
                      try clear c36
                      try clear c36b0
                      try clear c37
                      try clear c37b0
                      try clear c38
                      try clear c38b0
                      try clear p39
                      try clear q39
                      try clear hx39
                      try clear hf39
                      try clear c40
                      try clear c40b0
                      try clear c41
                      try clear c41b0
                      try clear c42
                      try clear c42b0
                      try clear c43
                      try clear c43b0
                      try clear p51
                      try clear q51
                      try clear hx51
                      try clear c54
                      try clear p54
                      try clear q54
                      try clear hx54
                      try clear p55
                      try clear q55
                      try clear hx55
                      try clear c57
                      try clear c57b0
                      try clear c58
                      try clear c58b0
                      try clear c59
                      try clear c59b0
                      try clear c59b1
                      try clear c62
                      try clear c62b0
                      try clear hcz12_0
                      try clear hcz12_1
                      try clear hcz16_0
                      try clear hcz16_1
                      try clear hcz16_2
                      try clear hfz12_0
                      try clear hfz12_1
                      try clear hfz16_0
                      try clear hfz16_1
                      try clear hfz16_2
                      try clear hx39_0
                      try clear hx517_0
                      try clear hx518_0
                      try clear hx519_0
                      try clear hx545_0
                      try clear hx547_0
                      try clear hx548_0
                      try clear hx549_0
                      try clear hx550_0
                      try clear hx551_0
                      try clear hx552_0
                      try clear hx8_0
                      try clear p2
                      try clear p3
                      try clear p39
                      try clear p5
                      try clear p51
                      try clear p517
                      try clear p518
                      try clear p519
                      try clear p54
                      try clear p545
                      try clear p547
                      try clear p548
                      try clear p549
                      try clear p55
                      try clear p550
                      try clear p551
                      try clear p552
                      try clear p6
                      try clear p8
                      try clear q3
                      try clear q33
                      try clear q39
                      try clear q5
                      try clear q51
                      try clear q517
                      try clear q518
                      try clear q519
                      try clear q54
                      try clear q545
                      try clear q547
                      try clear q548
                      try clear q549
                      try clear q55
                      try clear q550
                      try clear q551
                      try clear q552
                      try clear q8
                      obtain ⟨x10_5, x12_5, x19_5, rfl, rfl, HA, HK5, HO_2, HO_10, HO_11, HO_15, BK501, BK502, BK503, HK, HB⟩ := hrel
                      cases gk with
                      | zero => exact absurd HA.out (by simp [spec_l15Pop.l4])
                      | succ k5 =>
                       have H := HA.out
                       clear HA
                       simp only [spec_l15Pop.l4] at H
                       by_cases c64 : x19_5 < (x15_3.length : Int)
                       ·rw [if_pos c64] at H
                        have c64b0 : decide (x19_5 < (x15_3.length : Int)) = true := decide_eq_true c64
                        clear c64
                        by_cases c65 : 0 ≤ x19_5
                        ·rw [if_pos c65] at H
                         have c65b0 : decide (0 ≤ x19_5) = true := decide_eq_true c65
                         clear c65
                         by_cases c66 : 0 ≤ (rd x15_3 x19_5)
                         ·rw [if_pos c66] at H
                          have c66b0 : decide (0 ≤ (rd x15_3 x19_5)) = true := decide_eq_true c66
                          clear c66
                          by_cases c67 : (rd x15_3 x19_5) < (x10_5.length : Int)
                          ·rw [if_pos c67] at H
                           have c67b0 : decide ((rd x15_3 x19_5) < (x10_5.length : Int)) = true := decide_eq_true c67
                           clear c67
                           obtain ⟨y523, hy523⟩ : ∃ y_ : List Int, y_ = (x10_5.set ((rd x15_3 x19_5) : Int).toNat (wrap64 ((rd x10_5 (rd x15_3 x19_5)) + 1))) := ⟨_, rfl⟩
                           replace H : (spec_l15Pop.l4 k5 l1 x2_1 y523 x11_2 (wrap64 (x12_5 + 1)) x14_2 x15_3 x16_3 x17_4 (wrap64 (x19_5 + 1)) a0_0 a0_1 x504000_2 x504001_2 x504002_2) = some (r1, r2, r3, r4, r5) := by first | (rw [hy523]; with_reducible exact H) | (have H2_ := (Option.bind_some _ _).symm.trans H; rw [hy523]; with_reducible exact H2_) | (have H2_ := (Option.bind_some _ _).symm.trans H; with_reducible exact H2_) | with_reducible exact H | (rw [hy523]; exact H) | exact H
                           have Ny523 := Aside0.mk hy523
                           clear hy523
                           have H' := Aside0.mk H
                           clear H
                           try go_wp2
                           replace HO_2 := Aside0.mk (Kd.R_drew HO_2.out)
                           replace HO_10 := Aside0.mk (Kd.R_drew HO_10.out)
                           replace HO_11 := Aside0.mk (Kd.R_drew HO_11.out)
                           replace HO_15 := Aside0.mk (Kd.R_drew HO_15.out)
                           replace BK501 := Aside0.mk (blk_drew BK501.out)
                           replace BK502 := Aside0.mk (blk_drew BK502.out)
                           replace BK503 := Aside0.mk (blk_drew BK503.out)
                           replace HK := Aside0.mk (Kept.drew HK.out)
                           replace HB := Aside0.mk (below_drew1 HB.out)
                           have p520 : 0 ≤ (x19_5 : Int) := of_decide_eq_true (as_)
                           have q520 : x19_5 < (x15_3.length : Int) := of_decide_eq_true (as_)
                           obtain ⟨ad520, e520, hx520_0⟩ := Kd.at_int (Kd.R_reads' HO_15.out).2.2 x19_5 p520 q520
                           cases e520
                           replace p520 := eq_true p520
                           replace q520 := eq_true q520
                           have p521 : 0 ≤ (x19_5 : Int) := of_decide_eq_true (as_)
                           have q521 : x19_5 < (x15_3.length : Int) := of_decide_eq_true (as_)
                           obtain ⟨ad521, e521, hx521_0⟩ := Kd.at_int (Kd.R_reads' HO_15.out).2.2 x19_5 p521 q521
                           obtain rfl : ad520 = ad521 := (by injection e521)
                           replace p521 := eq_true p521
                           replace q521 := eq_true q521
                           obtain ⟨Ao70, co70, eo70⟩ := Kd.R_slice HO_10.out
                           (first | subst eo70 | (injection eo70 with f1_ f2_ f3_; have f4_ := f1_.symm; have f5_ := f3_.symm; clear f1_ f2_ f3_; subst f4_; subst f5_))
                           have p522 : 0 ≤ ((rd x15_3 x19_5) : Int) := of_decide_eq_true (as_)
                           have q522 : (rd x15_3 x19_5) < (x10_5.length : Int) := of_decide_eq_true (as_)
                           obtain ⟨ad522, e522, hx522_0⟩ := Kd.at_int (Kd.R_reads' HO_10.out).2.2 (rd x15_3 x19_5) p522 q522
                           cases e522
                           replace p522 := eq_true p522
                           replace q522 := eq_true q522
                           have p68 : 0 ≤ ((rd x15_3 x19_5) : Int) := of_decide_eq_true (as_)
                           have q68 : ((rd x15_3 x19_5) : Int) < ((x10_5.length : Int) : Int) := of_decide_eq_true (as_)
                           obtain ⟨go68, co68, eo68, gb68, gl68, cl68, HG68⟩ := Kd.R_form HO_10.out (by omega)
                           (first | cases eo68 | (injection eo68 with ea_ en_ ec_; (first | subst ea_ | (injection ea_ with ea_; subst ea_)); subst ec_; clear en_))
                           have GB68 := Aside0.mk gb68
                           have GG68 := Aside0.mk HG68
                           clear gb68 gl68 HG68
                           have HMgo68 := Aside0.mk (show (P2_ go68 ∨ w.heap.size ≤ go68) from (HO_10.out.1 _ rfl).1)
                           (first | simp only [add_plain] at hx522_0 | skip)
                           obtain ⟨hx68_0, hf68_0⟩ := Kd.R_celln 0 HO_10.out ((rd x15_3 x19_5) : Int) p68 q68
                           replace p68 := eq_true p68
                           replace q68 := eq_true q68
                           have HP71 := Kd.R_putn HO_10.out ((rd x15_3 x19_5) : Int) (wrap64 ((rd x10_5 (rd x15_3 x19_5)) + 1))
                           rw [← Ny523.out] at HP71
                           have HQ71 := Aside0.mk HP71
                           clear HP71
                           refine start_ (n := 15) (S := fun w' => w'.cell? (ad520.add (x19_5).toNat) = some (.int .i64 (rd x15_3 x19_5)) ∧ w'.cell? (ad520.add (x19_5).toNat) = some (.int .i64 (rd x15_3 x19_5)) ∧ w'.cell? ⟨go68, ((rd x15_3 x19_5)).toNat, none⟩ = some (.int .i64 (rd x10_5 (rd x15_3 x19_5)))) (ds := [14]) #[false, false, false, false, false, false, false, false, false, false, false, false, false, false, false] (by kernel_rfl) rfl rfl ⟨hx520_0, hx521_0, hx522_0⟩ (fun hHeld => ?_); refine with_tabW spec_l15Pop.tab26 spec_l15Pop.bits26 (fun HT_ HW_ => ?_)
                           generalize wr.drew = w69 at HO_2 HO_10 HO_11 HO_15 BK501 BK502 BK503 HK HB GG68 HQ71 hf68_0 hx520_0 hx521_0 hx522_0 hx68_0 hHeld ⊢
                           refine pv_ (i := 0) (N := some 79) HT_.out ?_
                           refine pv_ (i := 1) (N := some 80) HT_.out ?_
                           refine pv_ (i := 2) (N := some 81) HT_.out ?_
                           refine pv_ (i := 3) (N := some 82) HT_.out ?_
                           refine pv_ (i := 5) (N := some 84) HT_.out ?_
                           refine pv_ (i := 6) (N := some 85) HT_.out ?_
                           refine pv_ (i := 7) (N := some 86) HT_.out ?_
                           refine pv_ (i := 8) (N := some 87) HT_.out ?_
                           refine tv3_ (i := 4) (N := some 83) HT_.out HW_.out hHeld ?_
                           refine tv3_ (i := 9) (N := some 88) HT_.out HW_.out hHeld ?_
                           refine pv_ (i := 10) (N := some 89) HT_.out ?_
                           refine tv3_ (i := 11) (N := some 90) HT_.out HW_.out hHeld ?_
                           refine pv_ (i := 12) (N := some 91) HT_.out ?_
                           refine pv_ (i := 13) (N := some 92) HT_.out ?_
                           refine last_ (i := 14) (N := none) #[true, true, true, true, true, true, true, true, true, true, true, true, true, true, true] rfl rfl (one_of HT_.out (by kernel_rfl)) (by decide) (fun K hK => ?_)
                           refine skip_ (w1 := ?_) (by rfl) rfl ?_ ?_
                           rotate_left
                           ·go_simp
                            rfl
                           refine hK.out _ _ ?_
                           clear hK K
                           refine done_ (done_of HT_.out (by kernel_rfl)) ?_
                           try go_wp2
                           go_roundg k5
                           case measure => have := HK1.out; have := HK2.out; have := HK3.out; have := HK4.out; have := HK5.out; omega
                           case rel => exact ⟨(y523), (wrap64 (x12_5 + 1)), (wrap64 (x19_5 + 1)), (by first | rfl | (simp; done) | (simp [*]; done)), (by first | rfl | (simp; done) | (simp [*]; done)), H', ⟨by have := HK1.out; have := HK2.out; have := HK3.out; have := HK4.out; have := HK5.out; omega⟩, ⟨by (try simp only [hl11_1]); (try simp only [hl11_2]); (with_reducible repeat (first | apply Kd.R_alloc | apply Kd.R_drewN | apply Kd.R_drew)); exact Kd.R_mono (Kd.R_far (p := ⟨go68, ((rd x15_3 x19_5) : Int).toNat, none⟩) (Kd.R_mono HO_2.out (fun k_ hk => (⟨hk, fun e_ => hk.2.1 (by rw [e_]; rfl)⟩ : _ ∧ k_ ≠ go68))) (fun _ hk => hk.2) (.int .i64 (wrap64 ((rd x10_5 (rd x15_3 x19_5)) + 1)))) (fun _ hk => ⟨hk.1.1, ⟨hk.1.2.1, hk.1.2.2⟩⟩)⟩, ⟨by (try simp only [hl11_1]); (try simp only [hl11_2]); (with_reducible repeat (first | apply Kd.R_alloc | apply Kd.R_drewN | apply Kd.R_drew)); exact HQ71.out⟩, ⟨by (try simp only [hl11_1]); (try simp only [hl11_2]); (with_reducible repeat (first | apply Kd.R_alloc | apply Kd.R_drewN | apply Kd.R_drew)); exact Kd.R_mono (Kd.R_far (p := ⟨go68, ((rd x15_3 x19_5) : Int).toNat, none⟩) (Kd.R_types HO_11.out GG68.out (by decide)) (fun _ hk => hk.2) (.int .i64 (wrap64 ((rd x10_5 (rd x15_3 x19_5)) + 1)))) (fun _ hk => hk.1)⟩, ⟨by (try simp only [hl11_1]); (try simp only [hl11_2]); (with_reducible repeat (first | apply Kd.R_alloc | apply Kd.R_drewN | apply Kd.R_drew)); exact Kd.R_mono (Kd.R_far (p := ⟨go68, ((rd x15_3 x19_5) : Int).toNat, none⟩) (Kd.R_mono HO_15.out (fun k_ hk => (⟨hk, fun e_ => hk.2.2 (by rw [e_]; rfl)⟩ : _ ∧ k_ ≠ go68))) (fun _ hk => hk.2) (.int .i64 (wrap64 ((rd x10_5 (rd x15_3 x19_5)) + 1)))) (fun _ hk => ⟨hk.1.1, ⟨hk.1.2.1, hk.1.2.2⟩⟩)⟩, ⟨by (try simp only [hl11_1]); (try simp only [hl11_2]); (with_reducible repeat (first | refine blk_drewN ?_ _ | refine blk_drew ?_ | refine blk_alloc ?_ _)); refine blk_far ?_ (by have h_ := Kd.R_ne HO_10.out BK501.out (by decide); intro e_; exact h_ (by rw [e_]; rfl)) _; (with_reducible repeat (first | refine blk_drewN ?_ _ | refine blk_drew ?_ | refine blk_alloc ?_ _)); exact BK501.out⟩, ⟨by (try simp only [hl11_1]); (try simp only [hl11_2]); (with_reducible repeat (first | refine blk_drewN ?_ _ | refine blk_drew ?_ | refine blk_alloc ?_ _)); refine blk_far ?_ (by have h_ := Kd.R_ne HO_10.out BK502.out (by decide); intro e_; exact h_ (by rw [e_]; rfl)) _; (with_reducible repeat (first | refine blk_drewN ?_ _ | refine blk_drew ?_ | refine blk_alloc ?_ _)); exact BK502.out⟩, ⟨by (try simp only [hl11_1]); (try simp only [hl11_2]); (with_reducible repeat (first | refine blk_drewN ?_ _ | refine blk_drew ?_ | refine blk_alloc ?_ _)); refine blk_far ?_ (by have h_ := Kd.R_ne HO_10.out BK503.out (by decide); intro e_; exact h_ (by rw [e_]; rfl)) _; (with_reducible repeat (first | refine blk_drewN ?_ _ | refine blk_drew ?_ | refine blk_alloc ?_ _)); exact BK503.out⟩, ⟨by repeat (first | (with_reducible first | exact HK.out | apply Kept.alloc | apply Kept.drewN | apply Kept.drew | refine Kept.setCell ?_ HMgo68.out _ | refine Kept.setCell ?_ (.inr GW501.out) _ | refine Kept.setCell ?_ (.inr GW502.out) _ | refine Kept.setCell ?_ (.inr GW503.out) _) | exact HK.out)⟩, ⟨hb4_ HB.out GB68.out GE501.out GE502.out GE503.out⟩⟩
                          ·rw [if_neg c67] at H
                           exact absurd H (by simp)
                         ·rw [if_neg c66] at H
                          exact absurd H (by simp)
                        ·rw [if_neg c65] at H
                         exact absurd H (by simp)
                       ·rw [if_neg c64] at H
                        have c64b0 : decide (x19_5 < (x15_3.length : Int)) = false := decide_eq_false c64
                        clear c64
                        by_cases c72 : 0 ≤ x17_4
                        ·rw [if_pos c72] at H
                         have c72b0 := eq_true c72
                         have c72b1 : decide (0 ≤ x17_4) = true := decide_eq_true c72
                         clear c72
                         by_cases c73 : x17_4 ≤ (x15_3.length : Int)
                         ·rw [if_pos c73] at H
                          have c73b0 := eq_true c73
                          have c73b1 : decide (x17_4 ≤ (x15_3.length : Int)) = true := decide_eq_true c73
                          clear c73
                          obtain ⟨y524, hy524⟩ : ∃ y_ : List Int, y_ = (x15_3.take (x17_4 : Int).toNat) := ⟨_, rfl⟩
                          replace H : (if 0 ≤ x16_3 then (if x16_3 < (x10_5.length : Int) then (if x16_3 < (l1.length : Int) then (if (rd x10_5 x16_3) ≥ ((rd_L1 l1 x16_3).length : Int) then (some (x504000_2, x504001_2, x504002_2, 0, false)) else (if y524.length < 17592186044416 then (if 0 ≤ (rd x10_5 x16_3) then (if (rd x10_5 x16_3) < ((rd_L1 l1 x16_3).length : Int) then ((spec_Neighbor.f k5 a0_0 a0_1 x16_3 (rd (rd_L1 l1 x16_3) (rd x10_5 x16_3))).bind fun t535 => (spec_l15Pop.l2 k5 l1 x2_1 x10_5 x11_2 x12_5 x14_2 (y524 ++ [x16_3]) t535 a0_0 a0_1 x504000_2 x504001_2 x504002_2)) else (none)) else (none)) else (none))) else (none)) else (none)) else (none)) = some (r1, r2, r3, r4, r5) := by first | (rw [hy524]; with_reducible exact H) | (have H2_ := (Option.bind_some _ _).symm.trans H; rw [hy524]; with_reducible exact H2_) | (have H2_ := (Option.bind_some _ _).symm.trans H; with_reducible exact H2_) | with_reducible exact H | (rw [hy524]; exact H) | exact H
                          have Ny524 := Aside0.mk hy524
                          clear hy524
                          by_cases c74 : 0 ≤ x16_3
                          ·rw [if_pos c74] at H
                           have c74b0 : decide (0 ≤ x16_3) = true := decide_eq_true c74
                           clear c74
                           by_cases c75 : x16_3 < (x10_5.length : Int)
                           ·rw [if_pos c75] at H
                            have c75b0 : decide (x16_3 < (x10_5.length : Int)) = true := decide_eq_true c75
                            clear c75
                            by_cases c76 : x16_3 < (l1.length : Int)
                            ·rw [if_pos c76] at H
                             have c76b0 : decide (x16_3 < (l1.length : Int)) = true := decide_eq_true c76
                             clear c76
                             by_cases c77 : (rd x10_5 x16_3) ≥ ((rd_L1 l1 x16_3).length : Int)
                             ·rw [if_pos c77] at H
                              have c77b0 : decide (((rd_L1 l1 x16_3).length : Int) ≤ (rd x10_5 x16_3)) = true := decide_eq_true c77
                              clear c77
                              simp only [Option.some.injEq, Prod.mk.injEq] at H
                              obtain ⟨rfl, rfl, rfl, rfl, rfl⟩ := H
                              have q78 : (x17_4 : Int) ≤ ((x15_3.length : Int) : Int) := of_decide_eq_true (as_)
                              obtain ⟨i078, hi078, _, hsz78, _⟩ := info_parts info3
                              have hcut78 := cut_to (P := Try.prog) 25 3 .i64 Try.underlying25 hi078 Ao63 x15_3.length co63 x17_4 (of_decide_eq_true (as_)) q78 (Kd.R_reads' HO_15.out).2.1
                              have hr78 := Kd.R_take (m := (x17_4 : Int).toNat) HO_15.out (by omega)
                              have hy78 : y524.length = (x17_4 : Int).toNat := (by rw [Ny524.out, List.length_take]; omega)
                              rw [← Ny524.out] at hr78
                              rw [← hy78] at hr78 hcut78
                              clear hy78 hi078 hsz78 HO_15
                              have HO526 := Aside0.mk hr78
                              clear hr78
                              replace q78 := eq_true q78
                              try go_wp2
                              replace HO_2 := Aside0.mk (Kd.R_drew HO_2.out)
                              replace HO_10 := Aside0.mk (Kd.R_drew HO_10.out)
                              replace HO_11 := Aside0.mk (Kd.R_drew HO_11.out)
                              replace HO526 := Aside0.mk (Kd.R_drew HO526.out)
                              replace BK501 := Aside0.mk (blk_drew BK501.out)
                              replace BK502 := Aside0.mk (blk_drew BK502.out)
                              replace BK503 := Aside0.mk (blk_drew BK503.out)
                              replace HK := Aside0.mk (Kept.drew HK.out)
                              replace HB := Aside0.mk (below_drew1 HB.out)
                              obtain ⟨Ao80, co80, eo80⟩ := Kd.R_slice HO_10.out
                              (first | subst eo80 | (injection eo80 with f1_ f2_ f3_; have f4_ := f1_.symm; have f5_ := f3_.symm; clear f1_ f2_ f3_; subst f4_; subst f5_))
                              have p527 : 0 ≤ (x16_3 : Int) := of_decide_eq_true (as_)
                              have q527 : x16_3 < (x10_5.length : Int) := of_decide_eq_true (as_)
                              obtain ⟨ad527, e527, hx527_0⟩ := Kd.at_int (Kd.R_reads' HO_10.out).2.2 x16_3 p527 q527
                              cases e527
                              replace p527 := eq_true p527
                              replace q527 := eq_true q527
                              have p528 : 0 ≤ (x16_3 : Int) := of_decide_eq_true (as_)
                              have q528 : x16_3 < (l1.length : Int) := of_decide_eq_true (as_)
                              obtain ⟨ad528, A528_0, c528_0, e528, hx528_0, hl528_0, hi528_0⟩ := at_L1 (Kd.C_kept_now HR1.out HK.out) x16_3 p528 q528
                              have hw528_0 := hx528_0
                              cases e528
                              have HR528_0 := Aside0.mk hi528_0
                              have HC528_0 := Aside0.mk hl528_0
                              clear hi528_0 hl528_0
                              replace p528 := eq_true p528
                              replace q528 := eq_true q528
                              refine start_ (n := 10) (S := fun w' => w'.cell? (ad527.add (x16_3).toNat) = some (.int .i64 (rd x10_5 x16_3)) ∧ w'.cell? (ad528.add (x16_3).toNat) = some (.slice A528_0 (rd_L1 l1 x16_3).length c528_0)) (ds := []) #[false, false, false, false, false, false, false, false, false, false] (by kernel_rfl) rfl rfl ⟨hx527_0, hx528_0⟩ (fun hHeld => ?_); refine with_tabW spec_l15Pop.tab29 spec_l15Pop.bits29 (fun HT_ HW_ => ?_)
                              generalize wr.drew = w79 at HO_2 HO_10 HO_11 HO526 BK501 BK502 BK503 HK HB HR528_0 hx527_0 hx528_0 hHeld ⊢
                              refine pv_ (i := 0) (N := some 98) HT_.out ?_
                              refine pv_ (i := 1) (N := some 99) HT_.out ?_
                              refine pv_ (i := 2) (N := some 100) HT_.out ?_
                              refine pv_ (i := 4) (N := some 102) HT_.out ?_
                              refine pv_ (i := 5) (N := some 103) HT_.out ?_
                              refine pv_ (i := 6) (N := some 104) HT_.out ?_
                              refine tv2_ (i := 3) (N := some 101) HT_.out HW_.out hHeld ?_
                              refine tv2_ (i := 7) (N := some 105) HT_.out HW_.out hHeld ?_
                              refine pv_ (i := 8) (N := some 106) HT_.out ?_
                              refine pv_ (i := 9) (N := some 107) HT_.out ?_
                              refine done_ (done_of HT_.out (by kernel_rfl)) ?_
                              have hnb81 := NB503_501.out
                              have hnc81 := NB501_503.out
                              have hnb82 := NB503_502.out
                              have hnc82 := NB502_503.out
                              obtain ⟨hcz83_0, hcz83_1, hcz83_2⟩ := cz3_ BK503.out
                              obtain ⟨hfz83_0, hfz83_1, hfz83_2⟩ := fz3_ BK503.out
                              have hnb84 := NB502_501.out
                              have hnc84 := NB501_502.out
                              obtain ⟨hcz85_0, hcz85_1, hcz85_2⟩ := cz3_ BK502.out
                              obtain ⟨hfz85_0, hfz85_1, hfz85_2⟩ := fz3_ BK502.out
                              try go_wp2
                              refine bodyPost_ret (results_ctt rfl _ _ gb502 36 #[.int .i64 x504000_2, .int .i64 x504001_2, .int .i64 x504002_2] (0, 0) _ rfl (bq3_ BK502.out) Try.underlying36 rfl (by kernel_rfl)) rfl ?_
                              exact ⟨ex_, hb3_ HB.out GE501.out GE502.out GE503.out, by repeat (first | (with_reducible first | exact HK.out | apply Kept.alloc | apply Kept.drewN | apply Kept.drew | refine Kept.setCell ?_ (.inr GW501.out) _ | refine Kept.setCell ?_ (.inr GW502.out) _ | refine Kept.setCell ?_ (.inr GW503.out) _) | exact HK.out)⟩
                             ·rw [if_neg c77] at H
                              have c77b0 : decide (((rd_L1 l1 x16_3).length : Int) ≤ (rd x10_5 x16_3)) = false := decide_eq_false c77
                              clear c77
                              by_cases c86 : y524.length < 17592186044416
                              ·rw [if_pos c86] at H
                               have LMc86 := Aside0.mk c86
                               clear c86
                               obtain ⟨y529, hy529⟩ : ∃ y_ : List Int, y_ = (y524 ++ [x16_3]) := ⟨_, rfl⟩
                               replace H : (if 0 ≤ (rd x10_5 x16_3) then (if (rd x10_5 x16_3) < ((rd_L1 l1 x16_3).length : Int) then ((spec_Neighbor.f k5 a0_0 a0_1 x16_3 (rd (rd_L1 l1 x16_3) (rd x10_5 x16_3))).bind fun t535 => (spec_l15Pop.l2 k5 l1 x2_1 x10_5 x11_2 x12_5 x14_2 y529 t535 a0_0 a0_1 x504000_2 x504001_2 x504002_2)) else (none)) else (none)) = some (r1, r2, r3, r4, r5) := by first | (rw [hy529]; with_reducible exact H) | (have H2_ := (Option.bind_some _ _).symm.trans H; rw [hy529]; with_reducible exact H2_) | (have H2_ := (Option.bind_some _ _).symm.trans H; with_reducible exact H2_) | with_reducible exact H | (rw [hy529]; exact H) | exact H
                               have Ny529 := Aside0.mk hy529
                               clear hy529
                               by_cases c87 : 0 ≤ (rd x10_5 x16_3)
                               ·rw [if_pos c87] at H
                                have c87b0 : decide (0 ≤ (rd x10_5 x16_3)) = true := decide_eq_true c87
                                clear c87
                                by_cases c88 : (rd x10_5 x16_3) < ((rd_L1 l1 x16_3).length : Int)
                                ·rw [if_pos c88] at H
                                 have c88b0 : decide ((rd x10_5 x16_3) < ((rd_L1 l1 x16_3).length : Int)) = true := decide_eq_true c88
                                 clear c88
                                 replace H := Option.bind_eq_some_iff.mp H
                                 obtain ⟨t535, A890, H⟩ := H
                                 replace H : (spec_l15Pop.l2 k5 l1 x2_1 x10_5 x11_2 x12_5 x14_2 y529 t535 a0_0 a0_1 x504000_2 x504001_2 x504002_2) = some (r1, r2, r3, r4, r5) := H
                                 have A89 := Aside0.mk A890
                                 clear A890
                                 have H' := Aside0.mk H
                                 clear H
                                 have q90 : (x17_4 : Int) ≤ ((x15_3.length : Int) : Int) := of_decide_eq_true (as_)
                                 obtain ⟨i090, hi090, _, hsz90, _⟩ := info_parts info3
                                 have hcut90 := cut_to (P := Try.prog) 25 3 .i64 Try.underlying25 hi090 Ao63 x15_3.length co63 x17_4 (of_decide_eq_true (as_)) q90 (Kd.R_reads' HO_15.out).2.1
                                 have hr90 := Kd.R_take (m := (x17_4 : Int).toNat) HO_15.out (by omega)
                                 have hy90 : y524.length = (x17_4 : Int).toNat := (by rw [Ny524.out, List.length_take]; omega)
                                 rw [← Ny524.out] at hr90
                                 rw [← hy90] at hr90 hcut90
                                 clear hy90 hi090 hsz90 HO_15
                                 have HO526 := Aside0.mk hr90
                                 clear hr90
                                 replace q90 := eq_true q90
                                 try go_wp2
                                 replace HO_2 := Aside0.mk (Kd.R_drew HO_2.out)
                                 replace HO_10 := Aside0.mk (Kd.R_drew HO_10.out)
                                 replace HO_11 := Aside0.mk (Kd.R_drew HO_11.out)
                                 replace HO526 := Aside0.mk (Kd.R_drew HO526.out)
                                 replace BK501 := Aside0.mk (blk_drew BK501.out)
                                 replace BK502 := Aside0.mk (blk_drew BK502.out)
                                 replace BK503 := Aside0.mk (blk_drew BK503.out)
                                 replace HK := Aside0.mk (Kept.drew HK.out)
                                 replace HB := Aside0.mk (below_drew1 HB.out)
                                 obtain ⟨Ao92, co92, eo92⟩ := Kd.R_slice HO_10.out
                                 (first | subst eo92 | (injection eo92 with f1_ f2_ f3_; have f4_ := f1_.symm; have f5_ := f3_.symm; clear f1_ f2_ f3_; subst f4_; subst f5_))
                                 have p527 : 0 ≤ (x16_3 : Int) := of_decide_eq_true (as_)
                                 have q527 : x16_3 < (x10_5.length : Int) := of_decide_eq_true (as_)
                                 obtain ⟨ad527, e527, hx527_0⟩ := Kd.at_int (Kd.R_reads' HO_10.out).2.2 x16_3 p527 q527
                                 cases e527
                                 replace p527 := eq_true p527
                                 replace q527 := eq_true q527
                                 have p528 : 0 ≤ (x16_3 : Int) := of_decide_eq_true (as_)
                                 have q528 : x16_3 < (l1.length : Int) := of_decide_eq_true (as_)
                                 obtain ⟨ad528, A528_0, c528_0, e528, hx528_0, hl528_0, hi528_0⟩ := at_L1 (Kd.C_kept_now HR1.out HK.out) x16_3 p528 q528
                                 have hw528_0 := hx528_0
                                 cases e528
                                 have HR528_0 := Aside0.mk hi528_0
                                 have HC528_0 := Aside0.mk hl528_0
                                 clear hi528_0 hl528_0
                                 replace p528 := eq_true p528
                                 replace q528 := eq_true q528
                                 refine start_ (n := 10) (S := fun w' => w'.cell? (ad527.add (x16_3).toNat) = some (.int .i64 (rd x10_5 x16_3)) ∧ w'.cell? (ad528.add (x16_3).toNat) = some (.slice A528_0 (rd_L1 l1 x16_3).length c528_0)) (ds := []) #[false, false, false, false, false, false, false, false, false, false] (by kernel_rfl) rfl rfl ⟨hx527_0, hx528_0⟩ (fun hHeld => ?_); refine with_tabW spec_l15Pop.tab29 spec_l15Pop.bits29 (fun HT_ HW_ => ?_)
                                 generalize wr.drew = w91 at HO_2 HO_10 HO_11 HO526 BK501 BK502 BK503 HK HB HR528_0 hx527_0 hx528_0 hHeld ⊢
                                 refine pv_ (i := 0) (N := some 98) HT_.out ?_
                                 refine pv_ (i := 1) (N := some 99) HT_.out ?_
                                 refine pv_ (i := 2) (N := some 100) HT_.out ?_
                                 refine pv_ (i := 4) (N := some 102) HT_.out ?_
                                 refine pv_ (i := 5) (N := some 103) HT_.out ?_
                                 refine pv_ (i := 6) (N := some 104) HT_.out ?_
                                 refine tv2_ (i := 3) (N := some 101) HT_.out HW_.out hHeld ?_
                                 refine tv2_ (i := 7) (N := some 105) HT_.out HW_.out hHeld ?_
                                 refine pv_ (i := 8) (N := some 106) HT_.out ?_
                                 refine pv_ (i := 9) (N := some 107) HT_.out ?_
                                 refine done_ (done_of HT_.out (by kernel_rfl)) ?_
                                 try go_wp2_with (first | ((with_reducible refine gate_builtin (b := .append) (xs := #[.tmp 109, .tmp 111]) rfl ?_); at_builtin; refine Kd.R_append (Kd.int .i64) (w0 := w0) w0.heap.size rfl (.tmp 109) (.tmp 111) 25 3 (.int .i64 0) 8 rfl Try.underlying25 info3 rfl (by decide) (by omega) (.slice Ao63 y524.length co63) y524 x16_3 [.int .i64 x16_3] (fun k_ => (P2_ k_ ∨ w.heap.size ≤ k_) ∧ some k_ ≠ (.slice (some ad517) x2_1.length co28 : Value).ownBlock ∧ some k_ ≠ (.slice (some ad527) x10_5.length co92 : Value).ownBlock) (fun _ => False) rfl rfl ?aP (fun _ hk => hk.elim) ?aF ?aO ?aB ?aS ?aL ?_; (case aP => exact rfl); (case aB => exact (hb3_ HB.out GE501.out GE502.out GE503.out)); (case aF => exact (fun k_ hk => ⟨(.inr (Nat.le_trans (by first | exact HK.out.1 | exact (show Kept w _ (fun k_ => P2_ k_) from by repeat (first | (with_reducible first | exact HK.out | apply Kept.alloc | apply Kept.drewN | apply Kept.drew | refine Kept.setCell ?_ (.inr GW501.out) _ | refine Kept.setCell ?_ (.inr GW502.out) _ | refine Kept.setCell ?_ (.inr GW503.out) _) | exact HK.out)).1) hk)), Kd.fresh' (Kd.R_lt (kr_ HO_2.out)) k_ hk, Kd.fresh' (Kd.R_lt (kr_ HO_10.out)) k_ hk⟩)); (case aO => exact (kr_ HO526.out)); (case aS => exact (below_size (hb3_ HB.out GE501.out GE502.out GE503.out))); (case aL => have := LMc86.out; omega); intro v530 w93 ho hb hg hat; rw [← Ny529.out] at ho; replace HO_2 := Aside0.mk (Kd.R_after (ok := (fun k_ => (P2_ k_ ∨ w.heap.size ≤ k_) ∧ some k_ ≠ (.slice (some ad527) x10_5.length co92 : Value).ownBlock)) (by (with_reducible repeat (first | apply Kd.R_alloc | apply Kd.R_drewN | apply Kd.R_drew)); exact Kd.R_mono HO_2.out (fun _ hk => ⟨⟨hk.1, hk.2.1⟩, by first | exact hk.2.2 | exact fun e_ => hk.2.2 (e_.trans own_len_)⟩)) hg hat); replace HO_10 := Aside0.mk (Kd.R_after (ok := (fun k_ => (P2_ k_ ∨ w.heap.size ≤ k_) ∧ some k_ ≠ (.slice (some ad517) x2_1.length co28 : Value).ownBlock)) (by (with_reducible repeat (first | apply Kd.R_alloc | apply Kd.R_drewN | apply Kd.R_drew)); exact Kd.R_mono HO_10.out (fun _ hk => ⟨⟨hk.1, hk.2.1⟩, by first | exact hk.2.2 | exact fun e_ => hk.2.2 (e_.trans own_len_)⟩)) hg hat); replace HO_11 := Aside0.mk (Kd.R_over' (kr_ HO_11.out) (Kd.R_typed (kr_ HO526.out)) (by decide) hg); replace BK501 := Aside0.mk (blk_grown (g := gb501) (o := .cells #[.int .i64 a0_0, .int .i64 a0_1] 28 (0, 0)) (bk_ BK501.out) hg (Kd.R_ne HO526.out BK501.out (by decide))); replace BK502 := Aside0.mk (blk_grown (g := gb502) (o := .cells #[.int .i64 x503000_3, .int .i64 x503001_3, .int .i64 x503002_3] 36 (0, 0)) (bk_ BK502.out) hg (Kd.R_ne HO526.out BK502.out (by decide))); replace BK503 := Aside0.mk (blk_grown (g := gb503) (o := .cells #[.int .i64 x504000_2, .int .i64 x504001_2, .int .i64 x504002_2] 36 (0, 0)) (bk_ BK503.out) hg (Kd.R_ne HO526.out BK503.out (by decide))); replace HB := Aside0.mk (hb); replace HK := Aside0.mk (Kept.of_grown (S := (fun k_ => P2_ k_)) hg (by repeat (first | (with_reducible first | exact HK.out | apply Kept.alloc | apply Kept.drewN | apply Kept.drew | refine Kept.setCell ?_ (.inr GW501.out) _ | refine Kept.setCell ?_ (.inr GW502.out) _ | refine Kept.setCell ?_ (.inr GW503.out) _) | exact HK.out)) (fun k_ e_ => (HO526.out.1 k_ e_).1)); have HO531 := Aside0.mk (ho); clear HO526; clear ho hb hg hat))
                                 replace HO_2 := Aside0.mk (Kd.R_drew HO_2.out)
                                 replace HO_10 := Aside0.mk (Kd.R_drew HO_10.out)
                                 replace HO_11 := Aside0.mk (Kd.R_drew HO_11.out)
                                 replace HO531 := Aside0.mk (Kd.R_drew HO531.out)
                                 replace BK501 := Aside0.mk (blk_drew BK501.out)
                                 replace BK502 := Aside0.mk (blk_drew BK502.out)
                                 replace BK503 := Aside0.mk (blk_drew BK503.out)
                                 replace HK := Aside0.mk (Kept.drew HK.out)
                                 replace HB := Aside0.mk (below_drew1 HB.out)
                                 have p532 : 0 ≤ (x16_3 : Int) := of_decide_eq_true (as_)
                                 have q532 : x16_3 < (l1.length : Int) := of_decide_eq_true (as_)
                                 obtain ⟨ad532, A532_0, c532_0, e532, hx532_0, hl532_0, hi532_0⟩ := at_L1 (Kd.C_kept_now HR1.out HK.out) x16_3 p532 q532
                                 have hw532_0 := hx532_0
                                 obtain rfl : ad528 = ad532 := (by injection e532)
                                 have HR532_0 := Aside0.mk hi532_0
                                 have HC532_0 := Aside0.mk hl532_0
                                 clear hi532_0 hl532_0
                                 replace p532 := eq_true p532
                                 replace q532 := eq_true q532
                                 have p533 : 0 ≤ (x16_3 : Int) := of_decide_eq_true (as_)
                                 have q533 : x16_3 < (x10_5.length : Int) := of_decide_eq_true (as_)
                                 obtain ⟨ad533, e533, hx533_0⟩ := Kd.at_int (Kd.R_reads' HO_10.out).2.2 x16_3 p533 q533
                                 obtain rfl : ad527 = ad533 := (by injection e533)
                                 replace p533 := eq_true p533
                                 replace q533 := eq_true q533
                                 have p534 : 0 ≤ ((rd x10_5 x16_3) : Int) := of_decide_eq_true (as_)
                                 have q534 : (rd x10_5 x16_3) < ((rd_L1 l1 x16_3).length : Int) := of_decide_eq_true (as_)
                                 obtain ⟨ad534, e534, hx534_0⟩ := Kd.at_int (by repeat (first | (with_reducible exact HR532_0.out) | (with_reducible refine Kd.C_alloc ?_ _) | (with_reducible refine Kd.C_drewN ?_ _) | (with_reducible refine Kd.C_drew ?_) | exact HR532_0.out)) (rd x10_5 x16_3) p534 q534
                                 cases e534
                                 replace p534 := eq_true p534
                                 replace q534 := eq_true q534
                                 refine start_ (n := 14) (S := fun w' => w'.cell? ⟨gb501, 0, none⟩ = some (.int .i64 a0_0) ∧ w'.cell? ⟨gb501, 1, none⟩ = some (.int .i64 a0_1) ∧ w'.cell? (ad528.add (x16_3).toNat) = some (.slice (some ad534) (rd_L1 l1 x16_3).length c532_0) ∧ w'.cell? (ad527.add (x16_3).toNat) = some (.int .i64 (rd x10_5 x16_3)) ∧ w'.cell? (ad534.add ((rd x10_5 x16_3)).toNat) = some (.int .i64 (rd (rd_L1 l1 x16_3) (rd x10_5 x16_3)))) (ds := []) #[false, false, false, false, false, false, false, false, false, false, false, false, false, false] (by kernel_rfl) rfl rfl ⟨BK501.c 0, BK501.c 1, hx532_0, hx533_0, hx534_0⟩ (fun hHeld => ?_); refine with_tabW spec_l15Pop.tab32 spec_l15Pop.bits32 (fun HT_ HW_ => ?_)
                                 generalize w93.drew = w94 at HO_2 HO_10 HO_11 HO531 BK501 BK502 BK503 HK HB HR532_0 hx532_0 hx533_0 hx534_0 hHeld ⊢
                                 refine pv_ (i := 1) (N := some 114) HT_.out ?_
                                 refine pv_ (i := 2) (N := some 115) HT_.out ?_
                                 refine pv_ (i := 3) (N := some 116) HT_.out ?_
                                 refine pv_ (i := 4) (N := some 117) HT_.out ?_
                                 refine pv_ (i := 6) (N := some 119) HT_.out ?_
                                 refine pv_ (i := 7) (N := some 120) HT_.out ?_
                                 refine pv_ (i := 8) (N := some 121) HT_.out ?_
                                 refine tv5_ (i := 0) (N := some 113) HT_.out HW_.out hHeld ?_
                                 refine tv5_ (i := 5) (N := some 118) HT_.out HW_.out hHeld ?_
                                 refine tv5_ (i := 9) (N := some 122) HT_.out HW_.out hHeld ?_
                                 refine pv_ (i := 10) (N := some 123) HT_.out ?_
                                 refine tv5_ (i := 11) (N := some 124) HT_.out HW_.out hHeld ?_
                                 refine ov_ (i := 12) (N := some 125) HT_.out (fun K hK => ?_)
                                 refine gq_ Try.func40 #[.agg #[.int .i64 a0_0, .int .i64 a0_1], .int .i64 x16_3, .int .i64 (rd (rd_L1 l1 x16_3) (rd x10_5 x16_3))] ?_
                                 with_reducible refine (spec_Neighbor.calls k5 a0_0 a0_1 x16_3 (rd (rd_L1 l1 x16_3) (rd x10_5 x16_3)) t535 _ A89.out).mono ?_
                                 rintro e w95 ⟨rfl, hb⟩
                                 have HS2_ := (hb.cell (World.block_lt_of_cell? _ _ (hHeld.2.2.1))).trans (hHeld.2.2.1)
                                 have HS3_ := (hb.cell (World.block_lt_of_cell? _ _ (hHeld.2.2.2.1))).trans (hHeld.2.2.2.1)
                                 have HS4_ := (hb.cell (World.block_lt_of_cell? _ _ (hHeld.2.2.2.2))).trans (hHeld.2.2.2.2)
                                 refine ⟨_, rfl, ?_⟩
                                 replace HO_2 := HO_2.kb hb
                                 replace HO_10 := HO_10.kb hb
                                 replace HO_11 := HO_11.kb hb
                                 replace HO531 := HO531.kb hb
                                 replace BK501 := BK501.bb hb
                                 replace BK502 := BK502.bb hb
                                 replace BK503 := BK503.bb hb
                                 replace HR532_0 := Aside0.mk (Kd.C_below (by repeat (first | (with_reducible exact HR532_0.out) | (with_reducible refine Kd.C_alloc ?_ _) | (with_reducible refine Kd.C_drewN ?_ _) | (with_reducible refine Kd.C_drew ?_) | exact HR532_0.out)) hb)
                                 replace HK := Aside0.mk (Kept.below (S := (fun k_ => P2_ k_)) (by repeat (first | (with_reducible first | exact HK.out | apply Kept.alloc | apply Kept.drewN | apply Kept.drew | refine Kept.setCell ?_ (.inr GW501.out) _ | refine Kept.setCell ?_ (.inr GW502.out) _ | refine Kept.setCell ?_ (.inr GW503.out) _) | exact HK.out)) hb)
                                 replace HB := HB.s3 GE501 GE502 GE503 hb
                                 skip
                                 (try clear hb2)
                                 (try clear hk)
                                 (try clear hi)
                                 refine hK.out _ _ ⟨BK501.c 0, BK501.c 1, HS2_, HS3_, HS4_⟩ (fun hHeld => ?_)
                                 clear hK K
                                 refine nm_ ?_
                                 refine pv_ (i := 13) (N := some 16) HT_.out ?_
                                 refine done_ (done_of HT_.out (by kernel_rfl)) ?_
                                 try go_wp2
                                 go_roundg k5
                                 case measure => have := HK1.out; have := HK2.out; have := HK3.out; have := HK4.out; have := HK5.out; omega
                                 case rel => exact ⟨(x10_5), (x12_5), (y529), (t535), (x503000_3), (x503001_3), (x503002_3), (by first | rfl | (simp; done) | (simp [*]; done)), (by first | rfl | (simp; done) | (simp [*]; done)), H', ⟨by have := HK1.out; have := HK2.out; have := HK3.out; have := HK4.out; have := HK5.out; omega⟩, ⟨by (try simp only [hl11_1]); (try simp only [hl11_2]); (with_reducible repeat (first | apply Kd.R_alloc | apply Kd.R_drewN | apply Kd.R_drew)); exact Kd.R_mono HO_2.out (fun _ hk => ⟨hk.1.1, ⟨hk.1.2, hk.2⟩⟩)⟩, ⟨by (try simp only [hl11_1]); (try simp only [hl11_2]); (with_reducible repeat (first | apply Kd.R_alloc | apply Kd.R_drewN | apply Kd.R_drew)); exact Kd.R_mono HO_10.out (fun _ hk => ⟨hk.1.1, ⟨hk.1.2, hk.2⟩⟩)⟩, ⟨by (try simp only [hl11_1]); (try simp only [hl11_2]); (with_reducible repeat (first | apply Kd.R_alloc | apply Kd.R_drewN | apply Kd.R_drew)); exact HO_11.out⟩, ⟨by (try simp only [hl11_1]); (try simp only [hl11_2]); (with_reducible repeat (first | apply Kd.R_alloc | apply Kd.R_drewN | apply Kd.R_drew)); exact HO531.out⟩, ⟨by (try simp only [hl11_1]); (try simp only [hl11_2]); (with_reducible repeat (first | refine blk_drewN ?_ _ | refine blk_drew ?_ | refine blk_alloc ?_ _)); exact BK501.out⟩, ⟨by (try simp only [hl11_1]); (try simp only [hl11_2]); (with_reducible repeat (first | refine blk_drewN ?_ _ | refine blk_drew ?_ | refine blk_alloc ?_ _)); exact BK502.out⟩, ⟨by (try simp only [hl11_1]); (try simp only [hl11_2]); (with_reducible repeat (first | refine blk_drewN ?_ _ | refine blk_drew ?_ | refine blk_alloc ?_ _)); exact BK503.out⟩, ⟨by repeat (first | (with_reducible first | exact HK.out | apply Kept.alloc | apply Kept.drewN | apply Kept.drew | refine Kept.setCell ?_ (.inr GW501.out) _ | refine Kept.setCell ?_ (.inr GW502.out) _ | refine Kept.setCell ?_ (.inr GW503.out) _) | exact HK.out)⟩, ⟨hb3_ HB.out GE501.out GE502.out GE503.out⟩⟩
                                ·rw [if_neg c88] at H
                                 exact absurd H (by simp)
                               ·rw [if_neg c87] at H
                                exact absurd H (by simp)
                              ·rw [if_neg c86] at H
                               exact absurd H (by simp)
                            ·rw [if_neg c76] at H
                             exact absurd H (by simp)
                           ·rw [if_neg c75] at H
                            exact absurd H (by simp)
                          ·rw [if_neg c74] at H
                           exact absurd H (by simp)
                         ·rw [if_neg c73] at H
                          exact absurd H (by simp)
                        ·rw [if_neg c72] at H
                         exact absurd H (by simp)
                    ·rw [if_neg c62] at H
                     have c62b0 : decide (0 ≤ x17_4) = false := decide_eq_false c62
                     clear c62
                     by_cases c96 : 0 ≤ x16_3
                     ·rw [if_pos c96] at H
                      have c96b0 : decide (0 ≤ x16_3) = true := decide_eq_true c96
                      clear c96
                      by_cases c97 : x16_3 < (x10_3.length : Int)
                      ·rw [if_pos c97] at H
                       have c97b0 : decide (x16_3 < (x10_3.length : Int)) = true := decide_eq_true c97
                       clear c97
                       by_cases c98 : x16_3 < (l1.length : Int)
                       ·rw [if_pos c98] at H
                        have c98b0 : decide (x16_3 < (l1.length : Int)) = true := decide_eq_true c98
                        clear c98
                        by_cases c99 : (rd x10_3 x16_3) ≥ ((rd_L1 l1 x16_3).length : Int)
                        ·rw [if_pos c99] at H
                         have c99b0 : decide (((rd_L1 l1 x16_3).length : Int) ≤ (rd x10_3 x16_3)) = true := decide_eq_true c99
                         clear c99
                         simp only [Option.some.injEq, Prod.mk.injEq] at H
                         obtain ⟨rfl, rfl, rfl, rfl, rfl⟩ := H
                         obtain ⟨Ao100, co100, eo100⟩ := Kd.R_slice HO_15.out
                         subst eo100
                         try go_wp2
                         replace HO_2 := Aside0.mk (Kd.R_drew HO_2.out)
                         replace HO_10 := Aside0.mk (Kd.R_drew HO_10.out)
                         replace HO_11 := Aside0.mk (Kd.R_drew HO_11.out)
                         replace HO_15 := Aside0.mk (Kd.R_drew HO_15.out)
                         replace BK501 := Aside0.mk (blk_drew BK501.out)
                         replace BK502 := Aside0.mk (blk_drew BK502.out)
                         replace BK503 := Aside0.mk (blk_drew BK503.out)
                         replace HK := Aside0.mk (Kept.drew HK.out)
                         replace HB := Aside0.mk (below_drew1 HB.out)
                         obtain ⟨Ao102, co102, eo102⟩ := Kd.R_slice HO_10.out
                         (first | subst eo102 | (injection eo102 with f1_ f2_ f3_; have f4_ := f1_.symm; have f5_ := f3_.symm; clear f1_ f2_ f3_; subst f4_; subst f5_))
                         have p536 : 0 ≤ (x16_3 : Int) := of_decide_eq_true (as_)
                         have q536 : x16_3 < (x10_3.length : Int) := of_decide_eq_true (as_)
                         obtain ⟨ad536, e536, hx536_0⟩ := Kd.at_int (Kd.R_reads' HO_10.out).2.2 x16_3 p536 q536
                         cases e536
                         replace p536 := eq_true p536
                         replace q536 := eq_true q536
                         have p537 : 0 ≤ (x16_3 : Int) := of_decide_eq_true (as_)
                         have q537 : x16_3 < (l1.length : Int) := of_decide_eq_true (as_)
                         obtain ⟨ad537, A537_0, c537_0, e537, hx537_0, hl537_0, hi537_0⟩ := at_L1 (Kd.C_kept_now HR1.out HK.out) x16_3 p537 q537
                         have hw537_0 := hx537_0
                         cases e537
                         have HR537_0 := Aside0.mk hi537_0
                         have HC537_0 := Aside0.mk hl537_0
                         clear hi537_0 hl537_0
                         replace p537 := eq_true p537
                         replace q537 := eq_true q537
                         refine start_ (n := 10) (S := fun w' => w'.cell? (ad536.add (x16_3).toNat) = some (.int .i64 (rd x10_3 x16_3)) ∧ w'.cell? (ad537.add (x16_3).toNat) = some (.slice A537_0 (rd_L1 l1 x16_3).length c537_0)) (ds := []) #[false, false, false, false, false, false, false, false, false, false] (by kernel_rfl) rfl rfl ⟨hx536_0, hx537_0⟩ (fun hHeld => ?_); refine with_tabW spec_l15Pop.tab29 spec_l15Pop.bits29 (fun HT_ HW_ => ?_)
                         generalize wr.drew = w101 at HO_2 HO_10 HO_11 HO_15 BK501 BK502 BK503 HK HB HR537_0 hx536_0 hx537_0 hHeld ⊢
                         refine pv_ (i := 0) (N := some 98) HT_.out ?_
                         refine pv_ (i := 1) (N := some 99) HT_.out ?_
                         refine pv_ (i := 2) (N := some 100) HT_.out ?_
                         refine pv_ (i := 4) (N := some 102) HT_.out ?_
                         refine pv_ (i := 5) (N := some 103) HT_.out ?_
                         refine pv_ (i := 6) (N := some 104) HT_.out ?_
                         refine tv2_ (i := 3) (N := some 101) HT_.out HW_.out hHeld ?_
                         refine tv2_ (i := 7) (N := some 105) HT_.out HW_.out hHeld ?_
                         refine pv_ (i := 8) (N := some 106) HT_.out ?_
                         refine pv_ (i := 9) (N := some 107) HT_.out ?_
                         refine done_ (done_of HT_.out (by kernel_rfl)) ?_
                         have hnb103 := NB503_501.out
                         have hnc103 := NB501_503.out
                         have hnb104 := NB503_502.out
                         have hnc104 := NB502_503.out
                         obtain ⟨hcz105_0, hcz105_1, hcz105_2⟩ := cz3_ BK503.out
                         obtain ⟨hfz105_0, hfz105_1, hfz105_2⟩ := fz3_ BK503.out
                         have hnb106 := NB502_501.out
                         have hnc106 := NB501_502.out
                         obtain ⟨hcz107_0, hcz107_1, hcz107_2⟩ := cz3_ BK502.out
                         obtain ⟨hfz107_0, hfz107_1, hfz107_2⟩ := fz3_ BK502.out
                         try go_wp2
                         refine bodyPost_ret (results_ctt rfl _ _ gb502 36 #[.int .i64 x504000_2, .int .i64 x504001_2, .int .i64 x504002_2] (0, 0) _ rfl (bq3_ BK502.out) Try.underlying36 rfl (by kernel_rfl)) rfl ?_
                         exact ⟨ex_, hb3_ HB.out GE501.out GE502.out GE503.out, by repeat (first | (with_reducible first | exact HK.out | apply Kept.alloc | apply Kept.drewN | apply Kept.drew | refine Kept.setCell ?_ (.inr GW501.out) _ | refine Kept.setCell ?_ (.inr GW502.out) _ | refine Kept.setCell ?_ (.inr GW503.out) _) | exact HK.out)⟩
                        ·rw [if_neg c99] at H
                         have c99b0 : decide (((rd_L1 l1 x16_3).length : Int) ≤ (rd x10_3 x16_3)) = false := decide_eq_false c99
                         clear c99
                         by_cases c108 : x15_3.length < 17592186044416
                         ·rw [if_pos c108] at H
                          have LMc108 := Aside0.mk c108
                          clear c108
                          obtain ⟨y538, hy538⟩ : ∃ y_ : List Int, y_ = (x15_3 ++ [x16_3]) := ⟨_, rfl⟩
                          replace H : (if 0 ≤ (rd x10_3 x16_3) then (if (rd x10_3 x16_3) < ((rd_L1 l1 x16_3).length : Int) then ((spec_Neighbor.f k4 a0_0 a0_1 x16_3 (rd (rd_L1 l1 x16_3) (rd x10_3 x16_3))).bind fun t544 => (spec_l15Pop.l2 k4 l1 x2_1 x10_3 x11_2 x12_3 x14_2 y538 t544 a0_0 a0_1 x504000_2 x504001_2 x504002_2)) else (none)) else (none)) = some (r1, r2, r3, r4, r5) := by first | (rw [hy538]; with_reducible exact H) | (have H2_ := (Option.bind_some _ _).symm.trans H; rw [hy538]; with_reducible exact H2_) | (have H2_ := (Option.bind_some _ _).symm.trans H; with_reducible exact H2_) | with_reducible exact H | (rw [hy538]; exact H) | exact H
                          have Ny538 := Aside0.mk hy538
                          clear hy538
                          by_cases c109 : 0 ≤ (rd x10_3 x16_3)
                          ·rw [if_pos c109] at H
                           have c109b0 : decide (0 ≤ (rd x10_3 x16_3)) = true := decide_eq_true c109
                           clear c109
                           by_cases c110 : (rd x10_3 x16_3) < ((rd_L1 l1 x16_3).length : Int)
                           ·rw [if_pos c110] at H
                            have c110b0 : decide ((rd x10_3 x16_3) < ((rd_L1 l1 x16_3).length : Int)) = true := decide_eq_true c110
                            clear c110
                            replace H := Option.bind_eq_some_iff.mp H
                            obtain ⟨t544, A1110, H⟩ := H
                            replace H : (spec_l15Pop.l2 k4 l1 x2_1 x10_3 x11_2 x12_3 x14_2 y538 t544 a0_0 a0_1 x504000_2 x504001_2 x504002_2) = some (r1, r2, r3, r4, r5) := H
                            have A111 := Aside0.mk A1110
                            clear A1110
                            have H' := Aside0.mk H
                            clear H
                            obtain ⟨Ao112, co112, eo112⟩ := Kd.R_slice HO_15.out
                            subst eo112
                            try go_wp2
                            replace HO_2 := Aside0.mk (Kd.R_drew HO_2.out)
                            replace HO_10 := Aside0.mk (Kd.R_drew HO_10.out)
                            replace HO_11 := Aside0.mk (Kd.R_drew HO_11.out)
                            replace HO_15 := Aside0.mk (Kd.R_drew HO_15.out)
                            replace BK501 := Aside0.mk (blk_drew BK501.out)
                            replace BK502 := Aside0.mk (blk_drew BK502.out)
                            replace BK503 := Aside0.mk (blk_drew BK503.out)
                            replace HK := Aside0.mk (Kept.drew HK.out)
                            replace HB := Aside0.mk (below_drew1 HB.out)
                            obtain ⟨Ao114, co114, eo114⟩ := Kd.R_slice HO_10.out
                            (first | subst eo114 | (injection eo114 with f1_ f2_ f3_; have f4_ := f1_.symm; have f5_ := f3_.symm; clear f1_ f2_ f3_; subst f4_; subst f5_))
                            have p536 : 0 ≤ (x16_3 : Int) := of_decide_eq_true (as_)
                            have q536 : x16_3 < (x10_3.length : Int) := of_decide_eq_true (as_)
                            obtain ⟨ad536, e536, hx536_0⟩ := Kd.at_int (Kd.R_reads' HO_10.out).2.2 x16_3 p536 q536
                            cases e536
                            replace p536 := eq_true p536
                            replace q536 := eq_true q536
                            have p537 : 0 ≤ (x16_3 : Int) := of_decide_eq_true (as_)
                            have q537 : x16_3 < (l1.length : Int) := of_decide_eq_true (as_)
                            obtain ⟨ad537, A537_0, c537_0, e537, hx537_0, hl537_0, hi537_0⟩ := at_L1 (Kd.C_kept_now HR1.out HK.out) x16_3 p537 q537
                            have hw537_0 := hx537_0
                            cases e537
                            have HR537_0 := Aside0.mk hi537_0
                            have HC537_0 := Aside0.mk hl537_0
                            clear hi537_0 hl537_0
                            replace p537 := eq_true p537
                            replace q537 := eq_true q537
                            refine start_ (n := 10) (S := fun w' => w'.cell? (ad536.add (x16_3).toNat) = some (.int .i64 (rd x10_3 x16_3)) ∧ w'.cell? (ad537.add (x16_3).toNat) = some (.slice A537_0 (rd_L1 l1 x16_3).length c537_0)) (ds := []) #[false, false, false, false, false, false, false, false, false, false] (by kernel_rfl) rfl rfl ⟨hx536_0, hx537_0⟩ (fun hHeld => ?_); refine with_tabW spec_l15Pop.tab29 spec_l15Pop.bits29 (fun HT_ HW_ => ?_)
                            generalize wr.drew = w113 at HO_2 HO_10 HO_11 HO_15 BK501 BK502 BK503 HK HB HR537_0 hx536_0 hx537_0 hHeld ⊢
                            refine pv_ (i := 0) (N := some 98) HT_.out ?_
                            refine pv_ (i := 1) (N := some 99) HT_.out ?_
                            refine pv_ (i := 2) (N := some 100) HT_.out ?_
                            refine pv_ (i := 4) (N := some 102) HT_.out ?_
                            refine pv_ (i := 5) (N := some 103) HT_.out ?_
                            refine pv_ (i := 6) (N := some 104) HT_.out ?_
                            refine tv2_ (i := 3) (N := some 101) HT_.out HW_.out hHeld ?_
                            refine tv2_ (i := 7) (N := some 105) HT_.out HW_.out hHeld ?_
                            refine pv_ (i := 8) (N := some 106) HT_.out ?_
                            refine pv_ (i := 9) (N := some 107) HT_.out ?_
                            refine done_ (done_of HT_.out (by kernel_rfl)) ?_
                            try go_wp2_with (first | ((with_reducible refine gate_builtin (b := .append) (xs := #[.tmp 109, .tmp 111]) rfl ?_); at_builtin; refine Kd.R_append (Kd.int .i64) (w0 := w0) w0.heap.size rfl (.tmp 109) (.tmp 111) 25 3 (.int .i64 0) 8 rfl Try.underlying25 info3 rfl (by decide) (by omega) (.slice Ao112 x15_3.length co112) x15_3 x16_3 [.int .i64 x16_3] (fun k_ => (P2_ k_ ∨ w.heap.size ≤ k_) ∧ some k_ ≠ (.slice (some ad517) x2_1.length co28 : Value).ownBlock ∧ some k_ ≠ (.slice (some ad536) x10_3.length co114 : Value).ownBlock) (fun _ => False) rfl rfl ?aP (fun _ hk => hk.elim) ?aF ?aO ?aB ?aS ?aL ?_; (case aP => exact rfl); (case aB => exact (hb3_ HB.out GE501.out GE502.out GE503.out)); (case aF => exact (fun k_ hk => ⟨(.inr (Nat.le_trans (by first | exact HK.out.1 | exact (show Kept w _ (fun k_ => P2_ k_) from by repeat (first | (with_reducible first | exact HK.out | apply Kept.alloc | apply Kept.drewN | apply Kept.drew | refine Kept.setCell ?_ (.inr GW501.out) _ | refine Kept.setCell ?_ (.inr GW502.out) _ | refine Kept.setCell ?_ (.inr GW503.out) _) | exact HK.out)).1) hk)), Kd.fresh' (Kd.R_lt (kr_ HO_2.out)) k_ hk, Kd.fresh' (Kd.R_lt (kr_ HO_10.out)) k_ hk⟩)); (case aO => exact (kr_ HO_15.out)); (case aS => exact (below_size (hb3_ HB.out GE501.out GE502.out GE503.out))); (case aL => have := LMc108.out; omega); intro v539 w115 ho hb hg hat; rw [← Ny538.out] at ho; replace HO_2 := Aside0.mk (Kd.R_after (ok := (fun k_ => (P2_ k_ ∨ w.heap.size ≤ k_) ∧ some k_ ≠ (.slice (some ad536) x10_3.length co114 : Value).ownBlock)) (by (with_reducible repeat (first | apply Kd.R_alloc | apply Kd.R_drewN | apply Kd.R_drew)); exact Kd.R_mono HO_2.out (fun _ hk => ⟨⟨hk.1, hk.2.1⟩, by first | exact hk.2.2 | exact fun e_ => hk.2.2 (e_.trans own_len_)⟩)) hg hat); replace HO_10 := Aside0.mk (Kd.R_after (ok := (fun k_ => (P2_ k_ ∨ w.heap.size ≤ k_) ∧ some k_ ≠ (.slice (some ad517) x2_1.length co28 : Value).ownBlock)) (by (with_reducible repeat (first | apply Kd.R_alloc | apply Kd.R_drewN | apply Kd.R_drew)); exact Kd.R_mono HO_10.out (fun _ hk => ⟨⟨hk.1, hk.2.1⟩, by first | exact hk.2.2 | exact fun e_ => hk.2.2 (e_.trans own_len_)⟩)) hg hat); replace HO_11 := Aside0.mk (Kd.R_over' (kr_ HO_11.out) (Kd.R_typed (kr_ HO_15.out)) (by decide) hg); replace BK501 := Aside0.mk (blk_grown (g := gb501) (o := .cells #[.int .i64 a0_0, .int .i64 a0_1] 28 (0, 0)) (bk_ BK501.out) hg (Kd.R_ne HO_15.out BK501.out (by decide))); replace BK502 := Aside0.mk (blk_grown (g := gb502) (o := .cells #[.int .i64 x503000_3, .int .i64 x503001_3, .int .i64 x503002_3] 36 (0, 0)) (bk_ BK502.out) hg (Kd.R_ne HO_15.out BK502.out (by decide))); replace BK503 := Aside0.mk (blk_grown (g := gb503) (o := .cells #[.int .i64 x504000_2, .int .i64 x504001_2, .int .i64 x504002_2] 36 (0, 0)) (bk_ BK503.out) hg (Kd.R_ne HO_15.out BK503.out (by decide))); replace HB := Aside0.mk (hb); replace HK := Aside0.mk (Kept.of_grown (S := (fun k_ => P2_ k_)) hg (by repeat (first | (with_reducible first | exact HK.out | apply Kept.alloc | apply Kept.drewN | apply Kept.drew | refine Kept.setCell ?_ (.inr GW501.out) _ | refine Kept.setCell ?_ (.inr GW502.out) _ | refine Kept.setCell ?_ (.inr GW503.out) _) | exact HK.out)) (fun k_ e_ => (HO_15.out.1 k_ e_).1)); have HO540 := Aside0.mk (ho); clear HO_15; clear ho hb hg hat))
                            replace HO_2 := Aside0.mk (Kd.R_drew HO_2.out)
                            replace HO_10 := Aside0.mk (Kd.R_drew HO_10.out)
                            replace HO_11 := Aside0.mk (Kd.R_drew HO_11.out)
                            replace HO540 := Aside0.mk (Kd.R_drew HO540.out)
                            replace BK501 := Aside0.mk (blk_drew BK501.out)
                            replace BK502 := Aside0.mk (blk_drew BK502.out)
                            replace BK503 := Aside0.mk (blk_drew BK503.out)
                            replace HK := Aside0.mk (Kept.drew HK.out)
                            replace HB := Aside0.mk (below_drew1 HB.out)
                            have p541 : 0 ≤ (x16_3 : Int) := of_decide_eq_true (as_)
                            have q541 : x16_3 < (l1.length : Int) := of_decide_eq_true (as_)
                            obtain ⟨ad541, A541_0, c541_0, e541, hx541_0, hl541_0, hi541_0⟩ := at_L1 (Kd.C_kept_now HR1.out HK.out) x16_3 p541 q541
                            have hw541_0 := hx541_0
                            obtain rfl : ad537 = ad541 := (by injection e541)
                            have HR541_0 := Aside0.mk hi541_0
                            have HC541_0 := Aside0.mk hl541_0
                            clear hi541_0 hl541_0
                            replace p541 := eq_true p541
                            replace q541 := eq_true q541
                            have p542 : 0 ≤ (x16_3 : Int) := of_decide_eq_true (as_)
                            have q542 : x16_3 < (x10_3.length : Int) := of_decide_eq_true (as_)
                            obtain ⟨ad542, e542, hx542_0⟩ := Kd.at_int (Kd.R_reads' HO_10.out).2.2 x16_3 p542 q542
                            obtain rfl : ad536 = ad542 := (by injection e542)
                            replace p542 := eq_true p542
                            replace q542 := eq_true q542
                            have p543 : 0 ≤ ((rd x10_3 x16_3) : Int) := of_decide_eq_true (as_)
                            have q543 : (rd x10_3 x16_3) < ((rd_L1 l1 x16_3).length : Int) := of_decide_eq_true (as_)
                            obtain ⟨ad543, e543, hx543_0⟩ := Kd.at_int (by repeat (first | (with_reducible exact HR541_0.out) | (with_reducible refine Kd.C_alloc ?_ _) | (with_reducible refine Kd.C_drewN ?_ _) | (with_reducible refine Kd.C_drew ?_) | exact HR541_0.out)) (rd x10_3 x16_3) p543 q543
                            cases e543
                            replace p543 := eq_true p543
                            replace q543 := eq_true q543
                            refine start_ (n := 14) (S := fun w' => w'.cell? ⟨gb501, 0, none⟩ = some (.int .i64 a0_0) ∧ w'.cell? ⟨gb501, 1, none⟩ = some (.int .i64 a0_1) ∧ w'.cell? (ad537.add (x16_3).toNat) = some (.slice (some ad543) (rd_L1 l1 x16_3).length c541_0) ∧ w'.cell? (ad536.add (x16_3).toNat) = some (.int .i64 (rd x10_3 x16_3)) ∧ w'.cell? (ad543.add ((rd x10_3 x16_3)).toNat) = some (.int .i64 (rd (rd_L1 l1 x16_3) (rd x10_3 x16_3)))) (ds := []) #[false, false, false, false, false, false, false, false, false, false, false, false, false, false] (by kernel_rfl) rfl rfl ⟨BK501.c 0, BK501.c 1, hx541_0, hx542_0, hx543_0⟩ (fun hHeld => ?_); refine with_tabW spec_l15Pop.tab32 spec_l15Pop.bits32 (fun HT_ HW_ => ?_)
                            generalize w115.drew = w116 at HO_2 HO_10 HO_11 HO540 BK501 BK502 BK503 HK HB HR541_0 hx541_0 hx542_0 hx543_0 hHeld ⊢
                            refine pv_ (i := 1) (N := some 114) HT_.out ?_
                            refine pv_ (i := 2) (N := some 115) HT_.out ?_
                            refine pv_ (i := 3) (N := some 116) HT_.out ?_
                            refine pv_ (i := 4) (N := some 117) HT_.out ?_
                            refine pv_ (i := 6) (N := some 119) HT_.out ?_
                            refine pv_ (i := 7) (N := some 120) HT_.out ?_
                            refine pv_ (i := 8) (N := some 121) HT_.out ?_
                            refine tv5_ (i := 0) (N := some 113) HT_.out HW_.out hHeld ?_
                            refine tv5_ (i := 5) (N := some 118) HT_.out HW_.out hHeld ?_
                            refine tv5_ (i := 9) (N := some 122) HT_.out HW_.out hHeld ?_
                            refine pv_ (i := 10) (N := some 123) HT_.out ?_
                            refine tv5_ (i := 11) (N := some 124) HT_.out HW_.out hHeld ?_
                            refine ov_ (i := 12) (N := some 125) HT_.out (fun K hK => ?_)
                            refine gq_ Try.func40 #[.agg #[.int .i64 a0_0, .int .i64 a0_1], .int .i64 x16_3, .int .i64 (rd (rd_L1 l1 x16_3) (rd x10_3 x16_3))] ?_
                            with_reducible refine (spec_Neighbor.calls k4 a0_0 a0_1 x16_3 (rd (rd_L1 l1 x16_3) (rd x10_3 x16_3)) t544 _ A111.out).mono ?_
                            rintro e w117 ⟨rfl, hb⟩
                            have HS2_ := (hb.cell (World.block_lt_of_cell? _ _ (hHeld.2.2.1))).trans (hHeld.2.2.1)
                            have HS3_ := (hb.cell (World.block_lt_of_cell? _ _ (hHeld.2.2.2.1))).trans (hHeld.2.2.2.1)
                            have HS4_ := (hb.cell (World.block_lt_of_cell? _ _ (hHeld.2.2.2.2))).trans (hHeld.2.2.2.2)
                            refine ⟨_, rfl, ?_⟩
                            replace HO_2 := HO_2.kb hb
                            replace HO_10 := HO_10.kb hb
                            replace HO_11 := HO_11.kb hb
                            replace HO540 := HO540.kb hb
                            replace BK501 := BK501.bb hb
                            replace BK502 := BK502.bb hb
                            replace BK503 := BK503.bb hb
                            replace HR541_0 := Aside0.mk (Kd.C_below (by repeat (first | (with_reducible exact HR541_0.out) | (with_reducible refine Kd.C_alloc ?_ _) | (with_reducible refine Kd.C_drewN ?_ _) | (with_reducible refine Kd.C_drew ?_) | exact HR541_0.out)) hb)
                            replace HK := Aside0.mk (Kept.below (S := (fun k_ => P2_ k_)) (by repeat (first | (with_reducible first | exact HK.out | apply Kept.alloc | apply Kept.drewN | apply Kept.drew | refine Kept.setCell ?_ (.inr GW501.out) _ | refine Kept.setCell ?_ (.inr GW502.out) _ | refine Kept.setCell ?_ (.inr GW503.out) _) | exact HK.out)) hb)
                            replace HB := HB.s3 GE501 GE502 GE503 hb
                            skip
                            (try clear hb2)
                            (try clear hk)
                            (try clear hi)
                            refine hK.out _ _ ⟨BK501.c 0, BK501.c 1, HS2_, HS3_, HS4_⟩ (fun hHeld => ?_)
                            clear hK K
                            refine nm_ ?_
                            refine pv_ (i := 13) (N := some 16) HT_.out ?_
                            refine done_ (done_of HT_.out (by kernel_rfl)) ?_
                            try go_wp2
                            go_roundg k4
                            case measure => have := HK1.out; have := HK2.out; have := HK3.out; have := HK4.out; omega
                            case rel => exact ⟨(x10_3), (x12_3), (y538), (t544), (x503000_3), (x503001_3), (x503002_3), (by first | rfl | (simp; done) | (simp [*]; done)), (by first | rfl | (simp; done) | (simp [*]; done)), H', ⟨by have := HK1.out; have := HK2.out; have := HK3.out; have := HK4.out; omega⟩, ⟨by (try simp only [hl11_1]); (try simp only [hl11_2]); (with_reducible repeat (first | apply Kd.R_alloc | apply Kd.R_drewN | apply Kd.R_drew)); exact Kd.R_mono HO_2.out (fun _ hk => ⟨hk.1.1, ⟨hk.1.2, hk.2⟩⟩)⟩, ⟨by (try simp only [hl11_1]); (try simp only [hl11_2]); (with_reducible repeat (first | apply Kd.R_alloc | apply Kd.R_drewN | apply Kd.R_drew)); exact Kd.R_mono HO_10.out (fun _ hk => ⟨hk.1.1, ⟨hk.1.2, hk.2⟩⟩)⟩, ⟨by (try simp only [hl11_1]); (try simp only [hl11_2]); (with_reducible repeat (first | apply Kd.R_alloc | apply Kd.R_drewN | apply Kd.R_drew)); exact HO_11.out⟩, ⟨by (try simp only [hl11_1]); (try simp only [hl11_2]); (with_reducible repeat (first | apply Kd.R_alloc | apply Kd.R_drewN | apply Kd.R_drew)); exact HO540.out⟩, ⟨by (try simp only [hl11_1]); (try simp only [hl11_2]); (with_reducible repeat (first | refine blk_drewN ?_ _ | refine blk_drew ?_ | refine blk_alloc ?_ _)); exact BK501.out⟩, ⟨by (try simp only [hl11_1]); (try simp only [hl11_2]); (with_reducible repeat (first | refine blk_drewN ?_ _ | refine blk_drew ?_ | refine blk_alloc ?_ _)); exact BK502.out⟩, ⟨by (try simp only [hl11_1]); (try simp only [hl11_2]); (with_reducible repeat (first | refine blk_drewN ?_ _ | refine blk_drew ?_ | refine blk_alloc ?_ _)); exact BK503.out⟩, ⟨by repeat (first | (with_reducible first | exact HK.out | apply Kept.alloc | apply Kept.drewN | apply Kept.drew | refine Kept.setCell ?_ (.inr GW501.out) _ | refine Kept.setCell ?_ (.inr GW502.out) _ | refine Kept.setCell ?_ (.inr GW503.out) _) | exact HK.out)⟩, ⟨hb3_ HB.out GE501.out GE502.out GE503.out⟩⟩
                           ·rw [if_neg c110] at H
                            exact absurd H (by simp)
                          ·rw [if_neg c109] at H
                           exact absurd H (by simp)
                         ·rw [if_neg c108] at H
                          exact absurd H (by simp)
                       ·rw [if_neg c98] at H
                        exact absurd H (by simp)
                      ·rw [if_neg c97] at H
                       exact absurd H (by simp)
                     ·rw [if_neg c96] at H
                      exact absurd H (by simp)
               ·rw [if_neg c32] at H
                exact absurd H (by simp)
              ·rw [if_neg c31] at H
               exact absurd H (by simp)
           ·rw [if_neg c27] at H
            exact absurd H (by simp)
          ·rw [if_neg c26] at H
           have c26b0 : decide (x14_2 < (x2_1.length : Int)) = false := decide_eq_false c26
           clear c26
           simp only [Option.some.injEq, Prod.mk.injEq] at H
           obtain ⟨rfl, rfl, rfl, rfl, rfl⟩ := H
           obtain ⟨Ao118, co118, eo118⟩ := Kd.R_slice HO_2.out
           subst eo118
           have hnb119 := NB503_501.out
           have hnc119 := NB501_503.out
           have hnb120 := NB503_502.out
           have hnc120 := NB502_503.out
           obtain ⟨hcz121_0, hcz121_1, hcz121_2⟩ := cz3_ BK503.out
           obtain ⟨hfz121_0, hfz121_1, hfz121_2⟩ := fz3_ BK503.out
           have hnb122 := NB502_501.out
           have hnc122 := NB501_502.out
           obtain ⟨hcz123_0, hcz123_1, hcz123_2⟩ := cz3_ BK502.out
           obtain ⟨hfz123_0, hfz123_1, hfz123_2⟩ := fz3_ BK502.out
           go_wp2
           refine bodyPost_ret (results_ctt rfl _ _ gb502 36 #[.int .i64 x504000_2, .int .i64 x504001_2, .int .i64 x504002_2] (0, 0) _ rfl (bq3_ BK502.out) Try.underlying36 rfl (by kernel_rfl)) rfl ?_
           exact ⟨ex_, hb3_ HB.out GE501.out GE502.out GE503.out, by repeat (first | (with_reducible first | exact HK.out | apply Kept.alloc | apply Kept.drewN | apply Kept.drew | refine Kept.setCell ?_ (.inr GW501.out) _ | refine Kept.setCell ?_ (.inr GW502.out) _ | refine Kept.setCell ?_ (.inr GW503.out) _) | exact HK.out)⟩
    ·rw [if_neg c7] at H
     exact absurd H (by simp)
   ·rw [if_neg c6] at H
    exact absurd H (by simp)
  ·rw [if_neg c5] at H
   exact absurd H (by simp)
 ·rw [if_neg c4] at H
  exact absurd H (by simp)

end Go.Proofs.Ytnipocpbpcaepaa.X
