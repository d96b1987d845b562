-- Written by a program of this session (xprint.py), out of the translation and of hand-written contracts. Lean checks it.
import Derived.Test.YtjepgkbaoahjgaaX0
import Derived.Test.YtjepgkbaoahjgaaXcfail
import Derived.Test.YtjepgkbaoahjgaaXcfollow
import Derived.Test.YtjepgkbaoahjgaaXcgrid
import Derived.Test.YtjepgkbaoahjgaaXcin
import Derived.Test.YtjepgkbaoahjgaaXctrees
import Derived.Test.YtjepgkbaoahjgaaXimplGrowMaze
import Derived.Test.YtjepgkbaoahjgaaXimplIsUniversal
import Derived.Test.YtjepgkbaoahjgaaXlawsat
import Derived.Test.YtjepgkbaoahjgaaXlawsbig
import Derived.Test.YtjepgkbaoahjgaaXspecDrawTurns
namespace Go.Proofs.Ytjepgkbaoahjgaa.X
open Go.RowKit Go.Proofs.YtjepgkbaoahjgaaW.PrintWords Go.Proofs.YtjepgkbaoahjgaaW.PrintLast Go.Proofs.YtjepgkbaoahjgaaW.PrintMore
attribute [local go_sem] max2_int min2_int max_two min_two max_three min_three max_four min_four   -- for this text's walks alone
set_option linter.unusedVariables false
set_option linter.unusedSimpArgs false

/-! ### laws_FnUniversals: function 3 -/
theorem evs_ {P : Program} {ops : Array Oper} {Q : Exit → Act → World → Prop} {a : Act} {w : World} {rest : List Oper} {o : Oper} {v : Value} (hgd : o.guard = none) (hrun : (execOp a.eval o).run P w = .ok (.value v) w) (h : wpList P ops Q rest (a.put o.dst v) w) : wpList P ops Q (o :: rest) a w := Kd.event_run hgd hrun h
def laws_FnUniversals.f (k : Nat) (l0 : List Int) : Option (Bool) := (laws_big.f l0).bind fun t501 => (if t501 = true then (some true) else ((spec_DrawTurns.f k l0).bind fun bt502 => ((impl_FirstFailure.f k bt502.1 bt502.2.1 bt502.2.2).bind fun bt508 => ((some (([] : List Int) : List Int)).bind fun y516 => (if y516.length + bt502.2.2.length < 17592186044416 then ((some (y516 ++ bt502.2.2 : List Int)).bind fun y519 => ((laws_at.f l0 0).bind fun t522 => (if y519.length < 17592186044416 then (if bt508.2.2.2.2.2 = true then ((impl_IsUniversal.f k bt502.1 bt502.2.1 bt502.2.2).bind fun t526 => (if t526 = true then (some false) else ((impl_IsPerfect.f k bt508.1 bt508.2.1 bt508.2.2.1).bind fun t527 => (if t527 = true then ((impl_WalkerOk.f bt508.1 bt508.2.1 bt508.2.2.1 bt508.2.2.2.1 bt508.2.2.2.2.1).bind fun t528 => (if t528 = true then ((impl_CoversAll.f k bt508.1 bt508.2.1 bt508.2.2.1 bt508.2.2.2.1 bt508.2.2.2.2.1 bt502.2.2).bind fun t529 => (if t529 = true then (some false) else ((impl_FollowTurns.f k bt508.1 bt508.2.1 bt508.2.2.1 bt508.2.2.2.1 bt508.2.2.2.2.1 bt502.2.2).bind fun t530 => (some ((t530.length : Int) == (wrap64 ((bt502.2.2.length : Int) + 1))))))) else (some false))) else (some false))))) else ((laws_at.f l0 1).bind fun t533 => ((spec_CountCells.f bt502.1 bt502.2.1).bind fun t534 => (if t534 = 0 then (none) else ((laws_at.f l0 2).bind fun t535 => ((impl_IsUniversal.f k bt502.1 bt502.2.1 bt502.2.2).bind fun t537 => (if t537 = true then ((impl_IsUniversal.f k bt502.1 bt502.2.1 (y519 ++ [Int.tmod t522 4])).bind fun t538 => (if t538 = true then ((impl_GrowMaze.f k bt502.1 bt502.2.1 bt502.2.2).bind fun bt539 => ((impl_CoversAll.f k bt539.1 bt539.2.1 bt539.2.2 (Int.tmod t533 t534) (Int.tmod t535 4) bt502.2.2).bind fun t542 => (some t542))) else (some false))) else (some false)))))))) else (none)))) else (none))))))
theorem laws_FnUniversals.mono : ∀ a0 k, LeO (laws_FnUniversals.f k a0) (laws_FnUniversals.f (k + 1) a0) := by
 intro a0 k
 unfold laws_FnUniversals.f
 repeat' first
   | (with_reducible exact impl_CoversAll.mono ..)
   | (with_reducible exact impl_FirstFailure.mono ..)
   | (with_reducible exact impl_FollowTurns.mono ..)
   | (with_reducible exact impl_GrowMaze.mono ..)
   | (with_reducible exact impl_IsPerfect.mono ..)
   | (with_reducible exact impl_IsUniversal.mono ..)
   | (with_reducible exact spec_DrawTurns.mono ..)
   | (with_reducible first | exact lr_ _ | exact ln_ _ | refine li_ ?_ ?_ | refine lb_ ?_ fun _ => ?_)
   | exact impl_CoversAll.mono ..
   | exact impl_FirstFailure.mono ..
   | exact impl_FollowTurns.mono ..
   | exact impl_GrowMaze.mono ..
   | exact impl_IsPerfect.mono ..
   | exact impl_IsUniversal.mono ..
   | exact spec_DrawTurns.mono ..
   | exact ln_ _ | refine li_ ?_ ?_ | refine lb_ ?_ fun _ => ?_
def laws_FnUniversals.T8 : Bool × List (List Nat × List Nat) := (true, [([], []), ([0], [0]), ([], []), ([2, 1], [2]), ([1, 3], [1, 3]), ([], []), ([5, 3], [5]), ([6], [6]), ([4, 7], [4, 7]), ([], []), ([9, 8, 6, 0, 1, 2, 3, 4, 5, 6, 7, 8, 9], [8, 9])])
def laws_FnUniversals.B8 : List Nat := [0, 1, 0, 7, 15, 0, 47, 111, 255, 0, 1023]
theorem laws_FnUniversals.tab8 : rtab .any (opsOf Try.f3 8) = laws_FnUniversals.T8 := by kernel_rfl
theorem laws_FnUniversals.bits8 : waitsOk laws_FnUniversals.T8.2 laws_FnUniversals.B8 = true := by kernel_rfl
def laws_FnUniversals.T9 : Bool × List (List Nat × List Nat) := (true, [([], []), ([], []), ([0, 1], [0, 1]), ([2, 2], [2]), ([3], [3]), ([3], [3]), ([4, 5, 3, 3], [3, 4, 5]), ([3, 6], [3, 6]), ([7, 6], [7]), ([8], [8]), ([8], [8]), ([9, 10, 8, 8], [8, 9, 10]), ([8], [8]), ([8], [8]), ([11, 12, 13, 11, 8], [8, 11, 12, 13]), ([8, 14], [8, 14]), ([15, 14, 0, 1, 2, 3, 4, 5, 6, 7, 8, 9, 10, 11, 12, 13, 14, 15], [15])])
def laws_FnUniversals.B9 : List Nat := [0, 0, 3, 7, 15, 15, 63, 127, 255, 511, 511, 2047, 511, 511, 16383, 32767, 65535]
theorem laws_FnUniversals.tab9 : rtab .any (opsOf Try.f3 9) = laws_FnUniversals.T9 := by kernel_rfl
theorem laws_FnUniversals.bits9 : waitsOk laws_FnUniversals.T9.2 laws_FnUniversals.B9 = true := by kernel_rfl
set_option maxHeartbeats 40000000 in
set_option maxRecDepth 100000 in
theorem laws_FnUniversals.calls (k : Nat) (A0 : Option Addr) (c0 : Nat) (l0 : List Int) (r : Bool) (w : World) (hr0 : Kd.C (Kd.int .u8) w A0 l0.length l0) (hc0 : l0.length ≤ c0) (h : laws_FnUniversals.f k l0 = some r) :
  Calls Try.prog 3 #[.slice A0 l0.length c0] w fun e w' => e = .returned (.bool r) ∧ Below w.heap.size w w' := by
 have hu25 := Try.underlying25
 have hu30 := Try.underlying30
 have hu32 := Try.underlying32
 have HR0 := Aside0.mk hr0
 have HC0 := Aside0.mk hc0
 clear hr0 hc0
 have HB := Aside0.mk (Below.refl w.heap.size w)
 have H : ((laws_big.f l0).bind fun t501 => (if t501 = true then (some true) else ((spec_DrawTurns.f k l0).bind fun bt502 => ((impl_FirstFailure.f k bt502.1 bt502.2.1 bt502.2.2).bind fun bt508 => ((some (([] : List Int) : List Int)).bind fun y516 => (if y516.length + bt502.2.2.length < 17592186044416 then ((some (y516 ++ bt502.2.2 : List Int)).bind fun y519 => ((laws_at.f l0 0).bind fun t522 => (if y519.length < 17592186044416 then (if bt508.2.2.2.2.2 = true then ((impl_IsUniversal.f k bt502.1 bt502.2.1 bt502.2.2).bind fun t526 => (if t526 = true then (some false) else ((impl_IsPerfect.f k bt508.1 bt508.2.1 bt508.2.2.1).bind fun t527 => (if t527 = true then ((impl_WalkerOk.f bt508.1 bt508.2.1 bt508.2.2.1 bt508.2.2.2.1 bt508.2.2.2.2.1).bind fun t528 => (if t528 = true then ((impl_CoversAll.f k bt508.1 bt508.2.1 bt508.2.2.1 bt508.2.2.2.1 bt508.2.2.2.2.1 bt502.2.2).bind fun t529 => (if t529 = true then (some false) else ((impl_FollowTurns.f k bt508.1 bt508.2.1 bt508.2.2.1 bt508.2.2.2.1 bt508.2.2.2.2.1 bt502.2.2).bind fun t530 => (some ((t530.length : Int) == (wrap64 ((bt502.2.2.length : Int) + 1))))))) else (some false))) else (some false))))) else ((laws_at.f l0 1).bind fun t533 => ((spec_CountCells.f bt502.1 bt502.2.1).bind fun t534 => (if t534 = 0 then (none) else ((laws_at.f l0 2).bind fun t535 => ((impl_IsUniversal.f k bt502.1 bt502.2.1 bt502.2.2).bind fun t537 => (if t537 = true then ((impl_IsUniversal.f k bt502.1 bt502.2.1 (y519 ++ [Int.tmod t522 4])).bind fun t538 => (if t538 = true then ((impl_GrowMaze.f k bt502.1 bt502.2.1 bt502.2.2).bind fun bt539 => ((impl_CoversAll.f k bt539.1 bt539.2.1 bt539.2.2 (Int.tmod t533 t534) (Int.tmod t535 4) bt502.2.2).bind fun t542 => (some t542))) else (some false))) else (some false)))))))) else (none)))) else (none))))))) = some r := h
 clear h
 replace H := Option.bind_eq_some_iff.mp H
 obtain ⟨t501, A20, H⟩ := H
 replace H : (if t501 = true then (some true) else ((spec_DrawTurns.f k l0).bind fun bt502 => ((impl_FirstFailure.f k bt502.1 bt502.2.1 bt502.2.2).bind fun bt508 => ((some (([] : List Int) : List Int)).bind fun y516 => (if y516.length + bt502.2.2.length < 17592186044416 then ((some (y516 ++ bt502.2.2 : List Int)).bind fun y519 => ((laws_at.f l0 0).bind fun t522 => (if y519.length < 17592186044416 then (if bt508.2.2.2.2.2 = true then ((impl_IsUniversal.f k bt502.1 bt502.2.1 bt502.2.2).bind fun t526 => (if t526 = true then (some false) else ((impl_IsPerfect.f k bt508.1 bt508.2.1 bt508.2.2.1).bind fun t527 => (if t527 = true then ((impl_WalkerOk.f bt508.1 bt508.2.1 bt508.2.2.1 bt508.2.2.2.1 bt508.2.2.2.2.1).bind fun t528 => (if t528 = true then ((impl_CoversAll.f k bt508.1 bt508.2.1 bt508.2.2.1 bt508.2.2.2.1 bt508.2.2.2.2.1 bt502.2.2).bind fun t529 => (if t529 = true then (some false) else ((impl_FollowTurns.f k bt508.1 bt508.2.1 bt508.2.2.1 bt508.2.2.2.1 bt508.2.2.2.2.1 bt502.2.2).bind fun t530 => (some ((t530.length : Int) == (wrap64 ((bt502.2.2.length : Int) + 1))))))) else (some false))) else (some false))))) else ((laws_at.f l0 1).bind fun t533 => ((spec_CountCells.f bt502.1 bt502.2.1).bind fun t534 => (if t534 = 0 then (none) else ((laws_at.f l0 2).bind fun t535 => ((impl_IsUniversal.f k bt502.1 bt502.2.1 bt502.2.2).bind fun t537 => (if t537 = true then ((impl_IsUniversal.f k bt502.1 bt502.2.1 (y519 ++ [Int.tmod t522 4])).bind fun t538 => (if t538 = true then ((impl_GrowMaze.f k bt502.1 bt502.2.1 bt502.2.2).bind fun bt539 => ((impl_CoversAll.f k bt539.1 bt539.2.1 bt539.2.2 (Int.tmod t533 t534) (Int.tmod t535 4) bt502.2.2).bind fun t542 => (some t542))) else (some false))) else (some false)))))))) else (none)))) else (none)))))) = some r := H
 have A2 := Aside0.mk A20
 clear A20
 by_cases c3 : t501 = true
 ·subst c3
  have H1 : (some true) = some r := by rw [if_pos rfl] at H; exact H
  clear H
  have H := H1
  clear H1
  obtain rfl := Option.some.inj H
  go_enter Try.func3, Try.ntmps3
  go_wp2_with ((with_reducible refine gw_ ?_); first | (refine gl_ 11 Try.func4 #[.slice A0 l0.length c0] ?_; (with_reducible refine (laws_big.calls _ _ l0 true _ ?side1 ?side2 A2.out).mono ?_); (case side1 => exact kc_ HR0.out); (case side2 => exact HC0.out); rintro e w' ⟨rfl, ⟨nd, rfl⟩⟩; refine ⟨_, rfl, ?_⟩))
  go_ret
  exact ⟨ex_, hb0_ HB.out⟩
 ·replace c3 := Bool.eq_false_iff.mpr c3
  subst c3
  have H1 : ((spec_DrawTurns.f k l0).bind fun bt502 => ((impl_FirstFailure.f k bt502.1 bt502.2.1 bt502.2.2).bind fun bt508 => ((some (([] : List Int) : List Int)).bind fun y516 => (if y516.length + bt502.2.2.length < 17592186044416 then ((some (y516 ++ bt502.2.2 : List Int)).bind fun y519 => ((laws_at.f l0 0).bind fun t522 => (if y519.length < 17592186044416 then (if bt508.2.2.2.2.2 = true then ((impl_IsUniversal.f k bt502.1 bt502.2.1 bt502.2.2).bind fun t526 => (if t526 = true then (some false) else ((impl_IsPerfect.f k bt508.1 bt508.2.1 bt508.2.2.1).bind fun t527 => (if t527 = true then ((impl_WalkerOk.f bt508.1 bt508.2.1 bt508.2.2.1 bt508.2.2.2.1 bt508.2.2.2.2.1).bind fun t528 => (if t528 = true then ((impl_CoversAll.f k bt508.1 bt508.2.1 bt508.2.2.1 bt508.2.2.2.1 bt508.2.2.2.2.1 bt502.2.2).bind fun t529 => (if t529 = true then (some false) else ((impl_FollowTurns.f k bt508.1 bt508.2.1 bt508.2.2.1 bt508.2.2.2.1 bt508.2.2.2.2.1 bt502.2.2).bind fun t530 => (some ((t530.length : Int) == (wrap64 ((bt502.2.2.length : Int) + 1))))))) else (some false))) else (some false))))) else ((laws_at.f l0 1).bind fun t533 => ((spec_CountCells.f bt502.1 bt502.2.1).bind fun t534 => (if t534 = 0 then (none) else ((laws_at.f l0 2).bind fun t535 => ((impl_IsUniversal.f k bt502.1 bt502.2.1 bt502.2.2).bind fun t537 => (if t537 = true then ((impl_IsUniversal.f k bt502.1 bt502.2.1 (y519 ++ [Int.tmod t522 4])).bind fun t538 => (if t538 = true then ((impl_GrowMaze.f k bt502.1 bt502.2.1 bt502.2.2).bind fun bt539 => ((impl_CoversAll.f k bt539.1 bt539.2.1 bt539.2.2 (Int.tmod t533 t534) (Int.tmod t535 4) bt502.2.2).bind fun t542 => (some t542))) else (some false))) else (some false)))))))) else (none)))) else (none))))) = some r := by rw [if_neg (show ¬ (false = true) by decide)] at H; exact H
  clear H
  have H := H1
  clear H1
  replace H := Option.bind_eq_some_iff.mp H
  obtain ⟨⟨t502, t503, t504⟩, A40, H⟩ := H
  replace H : ((impl_FirstFailure.f k t502 t503 t504).bind fun bt508 => ((some (([] : List Int) : List Int)).bind fun y516 => (if y516.length + t504.length < 17592186044416 then ((some (y516 ++ t504 : List Int)).bind fun y519 => ((laws_at.f l0 0).bind fun t522 => (if y519.length < 17592186044416 then (if bt508.2.2.2.2.2 = true then ((impl_IsUniversal.f k t502 t503 t504).bind fun t526 => (if t526 = true then (some false) else ((impl_IsPerfect.f k bt508.1 bt508.2.1 bt508.2.2.1).bind fun t527 => (if t527 = true then ((impl_WalkerOk.f bt508.1 bt508.2.1 bt508.2.2.1 bt508.2.2.2.1 bt508.2.2.2.2.1).bind fun t528 => (if t528 = true then ((impl_CoversAll.f k bt508.1 bt508.2.1 bt508.2.2.1 bt508.2.2.2.1 bt508.2.2.2.2.1 t504).bind fun t529 => (if t529 = true then (some false) else ((impl_FollowTurns.f k bt508.1 bt508.2.1 bt508.2.2.1 bt508.2.2.2.1 bt508.2.2.2.2.1 t504).bind fun t530 => (some ((t530.length : Int) == (wrap64 ((t504.length : Int) + 1))))))) else (some false))) else (some false))))) else ((laws_at.f l0 1).bind fun t533 => ((spec_CountCells.f t502 t503).bind fun t534 => (if t534 = 0 then (none) else ((laws_at.f l0 2).bind fun t535 => ((impl_IsUniversal.f k t502 t503 t504).bind fun t537 => (if t537 = true then ((impl_IsUniversal.f k t502 t503 (y519 ++ [Int.tmod t522 4])).bind fun t538 => (if t538 = true then ((impl_GrowMaze.f k t502 t503 t504).bind fun bt539 => ((impl_CoversAll.f k bt539.1 bt539.2.1 bt539.2.2 (Int.tmod t533 t534) (Int.tmod t535 4) t504).bind fun t542 => (some t542))) else (some false))) else (some false)))))))) else (none)))) else (none)))) = some r := H
  have A4 := Aside0.mk A40
  clear A40
  replace H := Option.bind_eq_some_iff.mp H
  obtain ⟨⟨t508, t509, t510, t511, t512, t513⟩, A50, H⟩ := H
  replace H : ((some (([] : List Int) : List Int)).bind fun y516 => (if y516.length + t504.length < 17592186044416 then ((some (y516 ++ t504 : List Int)).bind fun y519 => ((laws_at.f l0 0).bind fun t522 => (if y519.length < 17592186044416 then (if t513 = true then ((impl_IsUniversal.f k t502 t503 t504).bind fun t526 => (if t526 = true then (some false) else ((impl_IsPerfect.f k t508 t509 t510).bind fun t527 => (if t527 = true then ((impl_WalkerOk.f t508 t509 t510 t511 t512).bind fun t528 => (if t528 = true then ((impl_CoversAll.f k t508 t509 t510 t511 t512 t504).bind fun t529 => (if t529 = true then (some false) else ((impl_FollowTurns.f k t508 t509 t510 t511 t512 t504).bind fun t530 => (some ((t530.length : Int) == (wrap64 ((t504.length : Int) + 1))))))) else (some false))) else (some false))))) else ((laws_at.f l0 1).bind fun t533 => ((spec_CountCells.f t502 t503).bind fun t534 => (if t534 = 0 then (none) else ((laws_at.f l0 2).bind fun t535 => ((impl_IsUniversal.f k t502 t503 t504).bind fun t537 => (if t537 = true then ((impl_IsUniversal.f k t502 t503 (y519 ++ [Int.tmod t522 4])).bind fun t538 => (if t538 = true then ((impl_GrowMaze.f k t502 t503 t504).bind fun bt539 => ((impl_CoversAll.f k bt539.1 bt539.2.1 bt539.2.2 (Int.tmod t533 t534) (Int.tmod t535 4) t504).bind fun t542 => (some t542))) else (some false))) else (some false)))))))) else (none)))) else (none))) = some r := H
  have A5 := Aside0.mk A50
  clear A50
  obtain ⟨y516, hy516⟩ : ∃ y_ : List Int, y_ = (([] : List Int)) := ⟨_, rfl⟩
  replace H : (if y516.length + t504.length < 17592186044416 then ((some (y516 ++ t504 : List Int)).bind fun y519 => ((laws_at.f l0 0).bind fun t522 => (if y519.length < 17592186044416 then (if t513 = true then ((impl_IsUniversal.f k t502 t503 t504).bind fun t526 => (if t526 = true then (some false) else ((impl_IsPerfect.f k t508 t509 t510).bind fun t527 => (if t527 = true then ((impl_WalkerOk.f t508 t509 t510 t511 t512).bind fun t528 => (if t528 = true then ((impl_CoversAll.f k t508 t509 t510 t511 t512 t504).bind fun t529 => (if t529 = true then (some false) else ((impl_FollowTurns.f k t508 t509 t510 t511 t512 t504).bind fun t530 => (some ((t530.length : Int) == (wrap64 ((t504.length : Int) + 1))))))) else (some false))) else (some false))))) else ((laws_at.f l0 1).bind fun t533 => ((spec_CountCells.f t502 t503).bind fun t534 => (if t534 = 0 then (none) else ((laws_at.f l0 2).bind fun t535 => ((impl_IsUniversal.f k t502 t503 t504).bind fun t537 => (if t537 = true then ((impl_IsUniversal.f k t502 t503 (y519 ++ [Int.tmod t522 4])).bind fun t538 => (if t538 = true then ((impl_GrowMaze.f k t502 t503 t504).bind fun bt539 => ((impl_CoversAll.f k bt539.1 bt539.2.1 bt539.2.2 (Int.tmod t533 t534) (Int.tmod t535 4) t504).bind fun t542 => (some t542))) else (some false))) else (some false)))))))) else (none)))) else (none)) = some r := by first | (rw [hy516]; with_reducible exact H) | (have H2_ := (Option.bind_some _ _).symm.trans H; rw [hy516]; with_reducible exact H2_) | (have H2_ := (Option.bind_some _ _).symm.trans H; with_reducible exact H2_) | with_reducible exact H | (rw [hy516]; exact H) | exact H
  have Ny516 := Aside0.mk hy516
  clear hy516
  by_cases c6 : y516.length + t504.length < 17592186044416
  ·rw [if_pos c6] at H
   have LMc6 := Aside0.mk c6
   clear c6
   obtain ⟨y519, hy519⟩ : ∃ y_ : List Int, y_ = (y516 ++ t504) := ⟨_, rfl⟩
   replace H : ((laws_at.f l0 0).bind fun t522 => (if y519.length < 17592186044416 then (if t513 = true then ((impl_IsUniversal.f k t502 t503 t504).bind fun t526 => (if t526 = true then (some false) else ((impl_IsPerfect.f k t508 t509 t510).bind fun t527 => (if t527 = true then ((impl_WalkerOk.f t508 t509 t510 t511 t512).bind fun t528 => (if t528 = true then ((impl_CoversAll.f k t508 t509 t510 t511 t512 t504).bind fun t529 => (if t529 = true then (some false) else ((impl_FollowTurns.f k t508 t509 t510 t511 t512 t504).bind fun t530 => (some ((t530.length : Int) == (wrap64 ((t504.length : Int) + 1))))))) else (some false))) else (some false))))) else ((laws_at.f l0 1).bind fun t533 => ((spec_CountCells.f t502 t503).bind fun t534 => (if t534 = 0 then (none) else ((laws_at.f l0 2).bind fun t535 => ((impl_IsUniversal.f k t502 t503 t504).bind fun t537 => (if t537 = true then ((impl_IsUniversal.f k t502 t503 (y519 ++ [Int.tmod t522 4])).bind fun t538 => (if t538 = true then ((impl_GrowMaze.f k t502 t503 t504).bind fun bt539 => ((impl_CoversAll.f k bt539.1 bt539.2.1 bt539.2.2 (Int.tmod t533 t534) (Int.tmod t535 4) t504).bind fun t542 => (some t542))) else (some false))) else (some false)))))))) else (none))) = some r := by first | (rw [hy519]; with_reducible exact H) | (have H2_ := (Option.bind_some _ _).symm.trans H; rw [hy519]; with_reducible exact H2_) | (have H2_ := (Option.bind_some _ _).symm.trans H; with_reducible exact H2_) | with_reducible exact H | (rw [hy519]; exact H) | exact H
   have Ny519 := Aside0.mk hy519
   clear hy519
   replace H := Option.bind_eq_some_iff.mp H
   obtain ⟨t522, A70, H⟩ := H
   replace H : (if y519.length < 17592186044416 then (if t513 = true then ((impl_IsUniversal.f k t502 t503 t504).bind fun t526 => (if t526 = true then (some false) else ((impl_IsPerfect.f k t508 t509 t510).bind fun t527 => (if t527 = true then ((impl_WalkerOk.f t508 t509 t510 t511 t512).bind fun t528 => (if t528 = true then ((impl_CoversAll.f k t508 t509 t510 t511 t512 t504).bind fun t529 => (if t529 = true then (some false) else ((impl_FollowTurns.f k t508 t509 t510 t511 t512 t504).bind fun t530 => (some ((t530.length : Int) == (wrap64 ((t504.length : Int) + 1))))))) else (some false))) else (some false))))) else ((laws_at.f l0 1).bind fun t533 => ((spec_CountCells.f t502 t503).bind fun t534 => (if t534 = 0 then (none) else ((laws_at.f l0 2).bind fun t535 => ((impl_IsUniversal.f k t502 t503 t504).bind fun t537 => (if t537 = true then ((impl_IsUniversal.f k t502 t503 (y519 ++ [Int.tmod t522 4])).bind fun t538 => (if t538 = true then ((impl_GrowMaze.f k t502 t503 t504).bind fun bt539 => ((impl_CoversAll.f k bt539.1 bt539.2.1 bt539.2.2 (Int.tmod t533 t534) (Int.tmod t535 4) t504).bind fun t542 => (some t542))) else (some false))) else (some false)))))))) else (none)) = some r := H
   have A7 := Aside0.mk A70
   clear A70
   by_cases c8 : y519.length < 17592186044416
   ·rw [if_pos c8] at H
    have LMc8 := Aside0.mk c8
    clear c8
    obtain ⟨y523, hy523⟩ : ∃ y_ : List Int, y_ = (y519 ++ [Int.tmod t522 4]) := ⟨_, rfl⟩
    replace H : (if t513 = true then ((impl_IsUniversal.f k t502 t503 t504).bind fun t526 => (if t526 = true then (some false) else ((impl_IsPerfect.f k t508 t509 t510).bind fun t527 => (if t527 = true then ((impl_WalkerOk.f t508 t509 t510 t511 t512).bind fun t528 => (if t528 = true then ((impl_CoversAll.f k t508 t509 t510 t511 t512 t504).bind fun t529 => (if t529 = true then (some false) else ((impl_FollowTurns.f k t508 t509 t510 t511 t512 t504).bind fun t530 => (some ((t530.length : Int) == (wrap64 ((t504.length : Int) + 1))))))) else (some false))) else (some false))))) else ((laws_at.f l0 1).bind fun t533 => ((spec_CountCells.f t502 t503).bind fun t534 => (if t534 = 0 then (none) else ((laws_at.f l0 2).bind fun t535 => ((impl_IsUniversal.f k t502 t503 t504).bind fun t537 => (if t537 = true then ((impl_IsUniversal.f k t502 t503 y523).bind fun t538 => (if t538 = true then ((impl_GrowMaze.f k t502 t503 t504).bind fun bt539 => ((impl_CoversAll.f k bt539.1 bt539.2.1 bt539.2.2 (Int.tmod t533 t534) (Int.tmod t535 4) t504).bind fun t542 => (some t542))) else (some false))) else (some false)))))))) = some r := by first | (rw [hy523]; with_reducible exact H) | (have H2_ := (Option.bind_some _ _).symm.trans H; rw [hy523]; with_reducible exact H2_) | (have H2_ := (Option.bind_some _ _).symm.trans H; with_reducible exact H2_) | with_reducible exact H | (rw [hy523]; exact H) | exact H
    have Ny523 := Aside0.mk hy523
    clear hy523
    by_cases c9 : t513 = true
    ·subst c9
     have H1 : ((impl_IsUniversal.f k t502 t503 t504).bind fun t526 => (if t526 = true then (some false) else ((impl_IsPerfect.f k t508 t509 t510).bind fun t527 => (if t527 = true then ((impl_WalkerOk.f t508 t509 t510 t511 t512).bind fun t528 => (if t528 = true then ((impl_CoversAll.f k t508 t509 t510 t511 t512 t504).bind fun t529 => (if t529 = true then (some false) else ((impl_FollowTurns.f k t508 t509 t510 t511 t512 t504).bind fun t530 => (some ((t530.length : Int) == (wrap64 ((t504.length : Int) + 1))))))) else (some false))) else (some false))))) = some r := by rw [if_pos rfl] at H; exact H
     clear H
     have H := H1
     clear H1
     replace H := Option.bind_eq_some_iff.mp H
     obtain ⟨t526, A100, H⟩ := H
     replace H : (if t526 = true then (some false) else ((impl_IsPerfect.f k t508 t509 t510).bind fun t527 => (if t527 = true then ((impl_WalkerOk.f t508 t509 t510 t511 t512).bind fun t528 => (if t528 = true then ((impl_CoversAll.f k t508 t509 t510 t511 t512 t504).bind fun t529 => (if t529 = true then (some false) else ((impl_FollowTurns.f k t508 t509 t510 t511 t512 t504).bind fun t530 => (some ((t530.length : Int) == (wrap64 ((t504.length : Int) + 1))))))) else (some false))) else (some false)))) = some r := H
     have A10 := Aside0.mk A100
     clear A100
     by_cases c11 : t526 = true
     ·subst c11
      have H1 : (some false) = some r := by rw [if_pos rfl] at H; exact H
      clear H
      have H := H1
      clear H1
      obtain rfl := Option.some.inj H
      go_enter Try.func3, Try.ntmps3
      go_wp2_with (first | ((with_reducible refine gw_ ?_); first | ((with_reducible refine gate_dst (N := 38) rfl ?_); (with_reducible refine wpList_skip ?_ ?_); rfl; go_frame; (with_reducible refine wpList_skip ?_ ?_); rfl; go_frame; (with_reducible refine evs_ (v := .bool false) rfl ?_ ?_); rfl; go_frame; (with_reducible refine evs_ (v := .bool false) rfl ?_ ?_); rfl; go_frame; (with_reducible refine wpList_skip ?_ ?_); rfl; go_frame; (with_reducible refine wpList_skip ?_ ?_); rfl; go_frame; (with_reducible refine wpList_skip ?_ ?_); rfl; go_frame; (with_reducible refine evs_ (v := .bool false) rfl ?_ ?_); rfl; go_frame; (with_reducible refine evs_ (v := .bool false) rfl ?_ ?_); rfl; go_frame; (with_reducible refine wpList_skip ?_ ?_); rfl; go_frame; (with_reducible refine wpList_skip ?_ ?_); rfl; go_frame; (with_reducible refine wpList_skip ?_ ?_); rfl; go_frame; (with_reducible refine wpList_skip ?_ ?_); rfl; go_frame; (with_reducible refine wpList_skip ?_ ?_); rfl; go_frame; (with_reducible refine evs_ (v := .bool false) rfl ?_ ?_); rfl; go_frame; (with_reducible refine evs_ (v := .bool false) rfl ?_ ?_); rfl; go_frame; (with_reducible refine wpList_skip ?_ ?_); rfl; go_frame; (with_reducible refine wpList_skip ?_ ?_); rfl; go_frame; (with_reducible refine wpList_skip ?_ ?_); rfl; go_frame; (with_reducible refine wpList_skip ?_ ?_); rfl; go_frame; (with_reducible refine wpList_skip ?_ ?_); rfl; go_frame; (with_reducible refine wpList_skip ?_ ?_); rfl; go_frame; (with_reducible refine wpList_skip ?_ ?_); rfl; go_frame; (with_reducible refine wpList_skip ?_ ?_); rfl; go_frame; (with_reducible refine wpList_skip ?_ ?_); rfl; go_frame; (with_reducible refine evs_ (v := .bool false) rfl ?_ ?_); rfl; go_frame; (with_reducible refine evs_ (v := .bool false) rfl ?_ ?_); rfl; go_frame) | (refine gl_ 11 Try.func4 #[.slice A0 l0.length c0] ?_; (with_reducible refine (laws_big.calls _ _ l0 false _ ?side1 ?side2 A2.out).mono ?_); (case side1 => exact kc_ HR0.out); (case side2 => exact HC0.out); rintro e w' ⟨rfl, ⟨nd, rfl⟩⟩; refine ⟨_, rfl, ?_⟩) | (refine gl_ 14 Try.func5 #[.slice A0 l0.length c0] ?_; (with_reducible refine (spec_DrawTurns.calls k _ _ l0 t502 t503 t504 _ ?side1 ?side2 A4.out).mono ?_); (case side1 => exact kc_ HR0.out); (case side2 => exact HC0.out); rintro e w12 ⟨v505, rfl, ho0, hb⟩; refine ⟨_, rfl, ?_⟩; have HO506 := Aside0.mk (Kd.R_lower ho0 (below_size (hb0_ HB.out))); replace HB := HB.s0 hb; (try clear hb); (try clear ho0)) | ((with_reducible refine gate_dst (N := 3) rfl ?_); (try (refine gate_guard (by rfl) ?_; dsimp only)); refine box_event ?hg (N := 3) ?hd (cs := #[.int .i64 0, .int .i64 0]) (t := 25) ?hr ?_; (case hd => rfl); (case hg => rfl); (case hr => first | (go_simp; done) | (go_simp; rfl)); intro gb507 hg w13 hbox hb; replace HO506 := HO506.kb hb; have BK507 := Aside0.mk (hbox); have GW507 := HB.g0 hg; have GE507 := HB.g0 hg; replace HB := HB.s0 hb; clear hb hbox hg; obtain ⟨hcz14_0, hcz14_1⟩ := cz2_ BK507.out; obtain ⟨hfz14_0, hfz14_1⟩ := fz2_ BK507.out; obtain ⟨Ao15, co15, eo15⟩ := Kd.R_slice HO506.out; subst eo15) | (refine gl_ 20 Try.func6 #[.agg #[.int .i64 t502, .int .i64 t503], .slice Ao15 t504.length co15] ?_; (with_reducible refine (impl_FirstFailure.calls k t502 t503 _ _ t504 t508 t509 t510 t511 t512 true _ ?side1 ?side2 A5.out).mono ?_); (case side1 => refine (Kd.R_reads' (e := 3) (base := w.heap.size) (ok := fun k_ => True) (n := t504.length) (c := co15) ?_).2.2; exact (rq2_ HO506.out BK507.out)); (case side2 => exact (Kd.R_reads' HO506.out).2.1); rintro e w16 ⟨rfl, hb⟩; refine ⟨_, rfl, ?_⟩; replace HO506 := Aside0.mk (Kd.R_below (rq2_ HO506.out BK507.out) hb); replace BK507 := Aside0.mk (blk_below (bq2_ BK507.out) hb); replace HB := HB.s1 GE507 hb; (try clear hb)) | ((with_reducible refine gate_dst (N := 5) rfl ?_); (try (refine gate_guard (by rfl) ?_; dsimp only)); refine box_event ?hg (N := 5) ?hd (cs := #[.int .i64 0, .int .i64 0, .int .i64 0]) (t := 30) ?hr ?_; (case hd => rfl); (case hg => rfl); (case hr => first | (go_simp; done) | (go_simp; rfl)); intro gb514 hg w17 hbox hb; replace HO506 := HO506.kb hb; have BK514 := Aside0.mk (hbox); have GW514 := HB.g1 GE507 hg; have GE514 := HB.g1 GE507 hg; replace HB := HB.s1 GE507 hb; have NB507_514 := BK507.nl hg; have NB514_507 := BK507.nr hg; replace BK507 := BK507.bb hb; clear hb hbox hg) | ((with_reducible refine gate_dst (N := 6) rfl ?_); (try (refine gate_guard (by rfl) ?_; dsimp only)); refine box_event ?hg (N := 6) ?hd (cs := #[.int .i64 0, .int .i64 0]) (t := 32) ?hr ?_; (case hd => rfl); (case hg => rfl); (case hr => first | (go_simp; done) | (go_simp; rfl)); intro gb515 hg w18 hbox hb; replace HO506 := HO506.kb hb; have BK515 := Aside0.mk (hbox); have GW515 := HB.g2 GE507 GE514 hg; have GE515 := HB.g2 GE507 GE514 hg; replace HB := HB.s2 GE507 GE514 hb; have NB507_515 := BK507.nl hg; have NB515_507 := BK507.nr hg; replace BK507 := BK507.bb hb; have NB514_515 := BK514.nl hg; have NB515_514 := BK514.nr hg; replace BK514 := BK514.bb hb; clear hb hbox hg; have hnb19 := NB514_507.out; have hnc19 := NB507_514.out; have hnb20 := NB514_515.out; have hnc20 := NB515_514.out; obtain ⟨hcz21_0, hcz21_1, hcz21_2⟩ := cz3_ BK514.out; obtain ⟨hfz21_0, hfz21_1, hfz21_2⟩ := fz3_ BK514.out; have hnb22 := NB515_507.out; have hnc22 := NB507_515.out; obtain ⟨hcz23_0, hcz23_1⟩ := cz2_ BK515.out; obtain ⟨hfz23_0, hfz23_1⟩ := fz2_ BK515.out) | ((with_reducible refine gate_dst (N := 24) rfl ?_); (try (refine gate_guard (by rfl) ?_; dsimp only)); refine Kd.R_lit (Kd.int .i64) _ 3 ?hg (N := 24) ?hd (xs := ([] : List Int)) (inner := []) (ok := fun _ => True) (okp := fun _ => True) ?hr ?hp (fun _ hk => hk) trivial (Below.refl _ _) (Nat.le_refl _) (by simp) ?_; (case hd => rfl); (case hg => rfl); (case hr => first | (go_simp; done) | (go_simp; rfl)); (case hp => exact (Reps.none _ _)); intro v517 w24 ho25 hb hg_ hnew_; clear hg_ hnew_; (first | rw [← Ny516.out] at ho25 | (simp only [Int.reduceToNat] at ho25; rw [← Ny516.out] at ho25)); have n0_ := Aside0.mk (Kd.R_elder' (by (with_reducible repeat (first | apply Kd.R_alloc | apply Kd.R_drewN | apply Kd.R_drew)); exact (Kd.R_mono (Kd.R_mono (Kd.R_far (p := ⟨gb515, 1, none⟩) (Kd.R_far (p := ⟨gb515, 0, none⟩) (Kd.R_far (p := ⟨gb514, 2, none⟩) (Kd.R_far (p := ⟨gb514, 1, none⟩) (Kd.R_far (p := ⟨gb514, 0, none⟩) (Kd.R_types (Kd.R_types HO506.out BK514.out (by decide)) BK515.out (by decide)) (fun _ hk => hk.1.2) (.int .i64 t508)) (fun _ hk => hk.1.2) (.int .i64 t509)) (fun _ hk => hk.1.2) (.int .i64 t510)) (fun _ hk => hk.2) (.int .i64 t511)) (fun _ hk => hk.2) (.int .i64 t512)) (fun _ h_ => h_.1)) (fun _ h_ => h_.1))) (Kd.R_base ho25) hb); have n1_ := Aside0.mk (Kd.R_lower (Kd.R_new' ho25 (Kd.R_lt (by (with_reducible repeat (first | apply Kd.R_alloc | apply Kd.R_drewN | apply Kd.R_drew)); exact (Kd.R_mono (Kd.R_mono (Kd.R_far (p := ⟨gb515, 1, none⟩) (Kd.R_far (p := ⟨gb515, 0, none⟩) (Kd.R_far (p := ⟨gb514, 2, none⟩) (Kd.R_far (p := ⟨gb514, 1, none⟩) (Kd.R_far (p := ⟨gb514, 0, none⟩) (Kd.R_types (Kd.R_types HO506.out BK514.out (by decide)) BK515.out (by decide)) (fun _ hk => hk.1.2) (.int .i64 t508)) (fun _ hk => hk.1.2) (.int .i64 t509)) (fun _ hk => hk.1.2) (.int .i64 t510)) (fun _ hk => hk.2) (.int .i64 t511)) (fun _ hk => hk.2) (.int .i64 t512)) (fun _ h_ => h_.1)) (fun _ h_ => h_.1))))) (below_size (hb3_ HB.out GE507.out GE514.out GE515.out))); have n2_ := Aside0.mk (blk_below (g := gb507) (o := .cells #[.int .i64 t502, .int .i64 t503] 25 (0, 0)) (by (with_reducible repeat (first | refine blk_drewN ?_ _ | refine blk_drew ?_ | refine blk_alloc ?_ _)); refine blk_far ?_ NB507_515.out _; (with_reducible repeat (first | refine blk_drewN ?_ _ | refine blk_drew ?_ | refine blk_alloc ?_ _)); refine blk_far ?_ NB507_515.out _; (with_reducible repeat (first | refine blk_drewN ?_ _ | refine blk_drew ?_ | refine blk_alloc ?_ _)); refine blk_far ?_ NB507_514.out _; (with_reducible repeat (first | refine blk_drewN ?_ _ | refine blk_drew ?_ | refine blk_alloc ?_ _)); refine blk_far ?_ NB507_514.out _; (with_reducible repeat (first | refine blk_drewN ?_ _ | refine blk_drew ?_ | refine blk_alloc ?_ _)); refine blk_far ?_ NB507_514.out _; (with_reducible repeat (first | refine blk_drewN ?_ _ | refine blk_drew ?_ | refine blk_alloc ?_ _)); exact BK507.out) hb); have n3_ := Aside0.mk (blk_below (g := gb514) (o := .cells #[.int .i64 t508, .int .i64 t509, .int .i64 t510] 30 (0, 0)) (by (with_reducible repeat (first | refine blk_drewN ?_ _ | refine blk_drew ?_ | refine blk_alloc ?_ _)); refine blk_far ?_ NB514_515.out _; (with_reducible repeat (first | refine blk_drewN ?_ _ | refine blk_drew ?_ | refine blk_alloc ?_ _)); refine blk_far ?_ NB514_515.out _; (with_reducible repeat (first | refine blk_drewN ?_ _ | refine blk_drew ?_ | refine blk_alloc ?_ _)); refine blk_put (cs := #[.int .i64 t508, .int .i64 t509, .int .i64 0]) ?_ 2 _ rfl; (with_reducible repeat (first | refine blk_drewN ?_ _ | refine blk_drew ?_ | refine blk_alloc ?_ _)); refine blk_put (cs := #[.int .i64 t508, .int .i64 0, .int .i64 0]) ?_ 1 _ rfl; (with_reducible repeat (first | refine blk_drewN ?_ _ | refine blk_drew ?_ | refine blk_alloc ?_ _)); refine blk_put (cs := #[.int .i64 0, .int .i64 0, .int .i64 0]) ?_ 0 _ rfl; (with_reducible repeat (first | refine blk_drewN ?_ _ | refine blk_drew ?_ | refine blk_alloc ?_ _)); exact BK514.out) hb); have n4_ := Aside0.mk (blk_below (g := gb515) (o := .cells #[.int .i64 t511, .int .i64 t512] 32 (0, 0)) (by (with_reducible repeat (first | refine blk_drewN ?_ _ | refine blk_drew ?_ | refine blk_alloc ?_ _)); refine blk_put (cs := #[.int .i64 t511, .int .i64 0]) ?_ 1 _ rfl; (with_reducible repeat (first | refine blk_drewN ?_ _ | refine blk_drew ?_ | refine blk_alloc ?_ _)); refine blk_put (cs := #[.int .i64 0, .int .i64 0]) ?_ 0 _ rfl; (with_reducible repeat (first | refine blk_drewN ?_ _ | refine blk_drew ?_ | refine blk_alloc ?_ _)); refine blk_far ?_ NB515_514.out _; (with_reducible repeat (first | refine blk_drewN ?_ _ | refine blk_drew ?_ | refine blk_alloc ?_ _)); refine blk_far ?_ NB515_514.out _; (with_reducible repeat (first | refine blk_drewN ?_ _ | refine blk_drew ?_ | refine blk_alloc ?_ _)); refine blk_far ?_ NB515_514.out _; (with_reducible repeat (first | refine blk_drewN ?_ _ | refine blk_drew ?_ | refine blk_alloc ?_ _)); exact BK515.out) hb); have n5_ := HB.s3 GE507 GE514 GE515 hb; clear HO506; clear BK507; clear BK514; clear BK515; clear HB; have HO506 := n0_; have HO518 := n1_; have BK507 := n2_; have BK514 := n3_; have BK515 := n4_; have HB := n5_; clear n0_ n1_ n2_ n3_ n4_ n5_; clear hb ho25) | ((with_reducible refine gate_builtin (b := .append) (xs := #[.tmp 24, .tmp 25]) rfl ?_); (try (refine gate_guard (by rfl) ?_; dsimp only)); at_builtin; refine Kd.R_append_rows (Kd.int .i64) (w0 := w) w.heap.size rfl (.tmp 24) (.tmp 25) 26 3 (.int .i64 0) 8 rfl Try.underlying26 info3 rfl (by decide) (by omega) v517 y516 t504 _ _ _ (fun k_ => some k_ ≠ (.slice Ao15 t504.length co15 : Value).ownBlock) (fun _ => False) rfl rfl ?aO ?aR (fun _ _ h => h) (fun _ h => h.elim) ?aF ?aB ?aS ?aL ?_; (case aR => repeat (first | exact (Kd.R_reads' HO506.out).2.2 | (with_reducible refine Kd.C_alloc ?_ _) | (with_reducible refine Kd.C_drewN ?_ _) | (with_reducible refine Kd.C_drew ?_))); (case aB => exact (hb3_ HB.out GE507.out GE514.out GE515.out)); (case aF => exact (fun k_ hk => Kd.fresh' (Kd.R_lt (kr_ HO506.out)) k_ hk)); (case aO => exact (by (with_reducible repeat (first | apply Kd.R_alloc | apply Kd.R_drewN | apply Kd.R_drew)); exact Kd.R_mono HO518.out (fun _ hk => hk.2))); (case aS => exact (below_size (hb3_ HB.out GE507.out GE514.out GE515.out))); (case aL => have := LMc6.out; omega); intro v520 w26 ho hb hg hat; rw [← Ny519.out] at ho; replace HO506 := Aside0.mk (Kd.R_after (ok := (fun _ => True)) (by first | exact (kr_ HO506.out) | exact Kd.R_mono HO506.out (fun _ hk => ⟨trivial, hk⟩)) hg hat); replace BK507 := Aside0.mk (blk_grown (g := gb507) (o := .cells #[.int .i64 t502, .int .i64 t503] 25 (0, 0)) (bk_ BK507.out) hg (Kd.R_ne HO518.out BK507.out (by decide))); replace BK514 := Aside0.mk (blk_grown (g := gb514) (o := .cells #[.int .i64 t508, .int .i64 t509, .int .i64 t510] 30 (0, 0)) (bk_ BK514.out) hg (Kd.R_ne HO518.out BK514.out (by decide))); replace BK515 := Aside0.mk (blk_grown (g := gb515) (o := .cells #[.int .i64 t511, .int .i64 t512] 32 (0, 0)) (bk_ BK515.out) hg (Kd.R_ne HO518.out BK515.out (by decide))); replace HB := Aside0.mk (hb); have HO521 := Aside0.mk (ho); clear HO518; clear ho hb hg hat) | (refine gl_ 28 Try.func7 #[.slice A0 l0.length c0, .int .i64 0] ?_; (with_reducible refine (laws_at.calls _ _ l0 0 t522 _ ?side1 ?side2 A7.out).mono ?_); (case side1 => repeat (first | exact (Kd.C_below HR0.out HB.out) | (with_reducible refine Kd.C_alloc ?_ _) | (with_reducible refine Kd.C_drewN ?_ _) | (with_reducible refine Kd.C_drew ?_))); (case side2 => exact HC0.out); rintro e w' ⟨rfl, ⟨nd, rfl⟩⟩; refine ⟨_, rfl, ?_⟩) | ((with_reducible refine gate_builtin (b := .append) (xs := #[.tmp 26, .tmp 30]) rfl ?_); (try (refine gate_guard (by rfl) ?_; dsimp only)); at_builtin; refine Kd.R_append (Kd.int .i64) (w0 := w) w.heap.size rfl (.tmp 26) (.tmp 30) 26 3 (.int .i64 0) 8 rfl Try.underlying26 info3 rfl (by decide) (by omega) v520 y519 (Int.tmod t522 4) [.int .i64 (Int.tmod t522 4)] (fun k_ => some k_ ≠ (.slice Ao15 t504.length co15 : Value).ownBlock) (fun _ => False) rfl rfl ?aP (fun _ hk => hk.elim) ?aF ?aO ?aB ?aS ?aL ?_; (case aP => exact rfl); (case aB => exact (hb3_ HB.out GE507.out GE514.out GE515.out)); (case aF => exact (fun k_ hk => Kd.fresh' (Kd.R_lt (kr_ HO506.out)) k_ hk)); (case aO => exact (kr_ HO521.out)); (case aS => exact (below_size (hb3_ HB.out GE507.out GE514.out GE515.out))); (case aL => have := LMc8.out; omega); intro v524 w27 ho hb hg hat; rw [← Ny523.out] at ho; replace HO506 := Aside0.mk (Kd.R_after (ok := (fun _ => True)) (by first | exact (kr_ HO506.out) | exact Kd.R_mono HO506.out (fun _ hk => ⟨trivial, hk⟩)) hg hat); replace BK507 := Aside0.mk (blk_grown (g := gb507) (o := .cells #[.int .i64 t502, .int .i64 t503] 25 (0, 0)) (bk_ BK507.out) hg (Kd.R_ne HO521.out BK507.out (by decide))); replace BK514 := Aside0.mk (blk_grown (g := gb514) (o := .cells #[.int .i64 t508, .int .i64 t509, .int .i64 t510] 30 (0, 0)) (bk_ BK514.out) hg (Kd.R_ne HO521.out BK514.out (by decide))); replace BK515 := Aside0.mk (blk_grown (g := gb515) (o := .cells #[.int .i64 t511, .int .i64 t512] 32 (0, 0)) (bk_ BK515.out) hg (Kd.R_ne HO521.out BK515.out (by decide))); replace HB := Aside0.mk (hb); have HO525 := Aside0.mk (ho); clear HO521; clear ho hb hg hat; obtain ⟨hcz28_0, hcz28_1⟩ := cz2_ BK507.out; obtain ⟨hfz28_0, hfz28_1⟩ := fz2_ BK507.out) | (refine gl_ 35 Try.func8 #[.agg #[.int .i64 t502, .int .i64 t503], .slice Ao15 t504.length co15] ?_; (with_reducible refine (impl_IsUniversal.calls k t502 t503 _ _ t504 true _ ?side1 ?side2 A10.out).mono ?_); (case side1 => repeat (first | exact (Kd.R_reads' HO506.out).2.2 | (with_reducible refine Kd.C_alloc ?_ _) | (with_reducible refine Kd.C_drewN ?_ _) | (with_reducible refine Kd.C_drew ?_))); (case side2 => exact (Kd.R_reads' HO506.out).2.1); rintro e w29 ⟨rfl, hb⟩; refine ⟨_, rfl, ?_⟩; replace HO506 := HO506.kb hb; replace HO525 := HO525.kb hb; replace BK507 := BK507.bb hb; replace BK514 := BK514.bb hb; replace BK515 := BK515.bb hb; replace HB := HB.s3 GE507 GE514 GE515 hb; (try clear hb)) | fail) | fail)
      go_ret
      exact ⟨ex_, hb3_ HB.out GE507.out GE514.out GE515.out⟩
     ·replace c11 := Bool.eq_false_iff.mpr c11
      subst c11
      have H1 : ((impl_IsPerfect.f k t508 t509 t510).bind fun t527 => (if t527 = true then ((impl_WalkerOk.f t508 t509 t510 t511 t512).bind fun t528 => (if t528 = true then ((impl_CoversAll.f k t508 t509 t510 t511 t512 t504).bind fun t529 => (if t529 = true then (some false) else ((impl_FollowTurns.f k t508 t509 t510 t511 t512 t504).bind fun t530 => (some ((t530.length : Int) == (wrap64 ((t504.length : Int) + 1))))))) else (some false))) else (some false))) = some r := by rw [if_neg (show ¬ (false = true) by decide)] at H; exact H
      clear H
      have H := H1
      clear H1
      replace H := Option.bind_eq_some_iff.mp H
      obtain ⟨t527, A300, H⟩ := H
      replace H : (if t527 = true then ((impl_WalkerOk.f t508 t509 t510 t511 t512).bind fun t528 => (if t528 = true then ((impl_CoversAll.f k t508 t509 t510 t511 t512 t504).bind fun t529 => (if t529 = true then (some false) else ((impl_FollowTurns.f k t508 t509 t510 t511 t512 t504).bind fun t530 => (some ((t530.length : Int) == (wrap64 ((t504.length : Int) + 1))))))) else (some false))) else (some false)) = some r := H
      have A30 := Aside0.mk A300
      clear A300
      by_cases c31 : t527 = true
      ·subst c31
       have H1 : ((impl_WalkerOk.f t508 t509 t510 t511 t512).bind fun t528 => (if t528 = true then ((impl_CoversAll.f k t508 t509 t510 t511 t512 t504).bind fun t529 => (if t529 = true then (some false) else ((impl_FollowTurns.f k t508 t509 t510 t511 t512 t504).bind fun t530 => (some ((t530.length : Int) == (wrap64 ((t504.length : Int) + 1))))))) else (some false))) = some r := by rw [if_pos rfl] at H; exact H
       clear H
       have H := H1
       clear H1
       replace H := Option.bind_eq_some_iff.mp H
       obtain ⟨t528, A320, H⟩ := H
       replace H : (if t528 = true then ((impl_CoversAll.f k t508 t509 t510 t511 t512 t504).bind fun t529 => (if t529 = true then (some false) else ((impl_FollowTurns.f k t508 t509 t510 t511 t512 t504).bind fun t530 => (some ((t530.length : Int) == (wrap64 ((t504.length : Int) + 1))))))) else (some false)) = some r := H
       have A32 := Aside0.mk A320
       clear A320
       by_cases c33 : t528 = true
       ·subst c33
        have H1 : ((impl_CoversAll.f k t508 t509 t510 t511 t512 t504).bind fun t529 => (if t529 = true then (some false) else ((impl_FollowTurns.f k t508 t509 t510 t511 t512 t504).bind fun t530 => (some ((t530.length : Int) == (wrap64 ((t504.length : Int) + 1))))))) = some r := by rw [if_pos rfl] at H; exact H
        clear H
        have H := H1
        clear H1
        replace H := Option.bind_eq_some_iff.mp H
        obtain ⟨t529, A340, H⟩ := H
        replace H : (if t529 = true then (some false) else ((impl_FollowTurns.f k t508 t509 t510 t511 t512 t504).bind fun t530 => (some ((t530.length : Int) == (wrap64 ((t504.length : Int) + 1)))))) = some r := H
        have A34 := Aside0.mk A340
        clear A340
        by_cases c35 : t529 = true
        ·subst c35
         have H1 : (some false) = some r := by rw [if_pos rfl] at H; exact H
         clear H
         have H := H1
         clear H1
         obtain rfl := Option.some.inj H
         go_enter Try.func3, Try.ntmps3
         go_wp2_with (first | ((with_reducible refine gw_ ?_); first | ((with_reducible refine gate_dst (N := 54) rfl ?_); (with_reducible refine wpList_skip ?_ ?_); rfl; go_frame; (with_reducible refine wpList_skip ?_ ?_); rfl; go_frame; (with_reducible refine wpList_skip ?_ ?_); rfl; go_frame; (with_reducible refine wpList_skip ?_ ?_); rfl; go_frame; (with_reducible refine wpList_skip ?_ ?_); rfl; go_frame; (with_reducible refine wpList_skip ?_ ?_); rfl; go_frame; (with_reducible refine wpList_skip ?_ ?_); rfl; go_frame; (with_reducible refine wpList_skip ?_ ?_); rfl; go_frame; (with_reducible refine wpList_skip ?_ ?_); rfl; go_frame; (with_reducible refine evs_ (v := .bool false) rfl ?_ ?_); rfl; go_frame; (with_reducible refine evs_ (v := .bool false) rfl ?_ ?_); rfl; go_frame) | (refine gl_ 11 Try.func4 #[.slice A0 l0.length c0] ?_; (with_reducible refine (laws_big.calls _ _ l0 false _ ?side1 ?side2 A2.out).mono ?_); (case side1 => exact kc_ HR0.out); (case side2 => exact HC0.out); rintro e w' ⟨rfl, ⟨nd, rfl⟩⟩; refine ⟨_, rfl, ?_⟩) | (refine gl_ 14 Try.func5 #[.slice A0 l0.length c0] ?_; (with_reducible refine (spec_DrawTurns.calls k _ _ l0 t502 t503 t504 _ ?side1 ?side2 A4.out).mono ?_); (case side1 => exact kc_ HR0.out); (case side2 => exact HC0.out); rintro e w36 ⟨v505, rfl, ho0, hb⟩; refine ⟨_, rfl, ?_⟩; have HO506 := Aside0.mk (Kd.R_lower ho0 (below_size (hb0_ HB.out))); replace HB := HB.s0 hb; (try clear hb); (try clear ho0)) | ((with_reducible refine gate_dst (N := 3) rfl ?_); (try (refine gate_guard (by rfl) ?_; dsimp only)); refine box_event ?hg (N := 3) ?hd (cs := #[.int .i64 0, .int .i64 0]) (t := 25) ?hr ?_; (case hd => rfl); (case hg => rfl); (case hr => first | (go_simp; done) | (go_simp; rfl)); intro gb507 hg w37 hbox hb; replace HO506 := HO506.kb hb; have BK507 := Aside0.mk (hbox); have GW507 := HB.g0 hg; have GE507 := HB.g0 hg; replace HB := HB.s0 hb; clear hb hbox hg; obtain ⟨hcz38_0, hcz38_1⟩ := cz2_ BK507.out; obtain ⟨hfz38_0, hfz38_1⟩ := fz2_ BK507.out; obtain ⟨Ao39, co39, eo39⟩ := Kd.R_slice HO506.out; subst eo39) | (refine gl_ 20 Try.func6 #[.agg #[.int .i64 t502, .int .i64 t503], .slice Ao39 t504.length co39] ?_; (with_reducible refine (impl_FirstFailure.calls k t502 t503 _ _ t504 t508 t509 t510 t511 t512 true _ ?side1 ?side2 A5.out).mono ?_); (case side1 => refine (Kd.R_reads' (e := 3) (base := w.heap.size) (ok := fun k_ => True) (n := t504.length) (c := co39) ?_).2.2; exact (rq2_ HO506.out BK507.out)); (case side2 => exact (Kd.R_reads' HO506.out).2.1); rintro e w40 ⟨rfl, hb⟩; refine ⟨_, rfl, ?_⟩; replace HO506 := Aside0.mk (Kd.R_below (rq2_ HO506.out BK507.out) hb); replace BK507 := Aside0.mk (blk_below (bq2_ BK507.out) hb); replace HB := HB.s1 GE507 hb; (try clear hb)) | ((with_reducible refine gate_dst (N := 5) rfl ?_); (try (refine gate_guard (by rfl) ?_; dsimp only)); refine box_event ?hg (N := 5) ?hd (cs := #[.int .i64 0, .int .i64 0, .int .i64 0]) (t := 30) ?hr ?_; (case hd => rfl); (case hg => rfl); (case hr => first | (go_simp; done) | (go_simp; rfl)); intro gb514 hg w41 hbox hb; replace HO506 := HO506.kb hb; have BK514 := Aside0.mk (hbox); have GW514 := HB.g1 GE507 hg; have GE514 := HB.g1 GE507 hg; replace HB := HB.s1 GE507 hb; have NB507_514 := BK507.nl hg; have NB514_507 := BK507.nr hg; replace BK507 := BK507.bb hb; clear hb hbox hg) | ((with_reducible refine gate_dst (N := 6) rfl ?_); (try (refine gate_guard (by rfl) ?_; dsimp only)); refine box_event ?hg (N := 6) ?hd (cs := #[.int .i64 0, .int .i64 0]) (t := 32) ?hr ?_; (case hd => rfl); (case hg => rfl); (case hr => first | (go_simp; done) | (go_simp; rfl)); intro gb515 hg w42 hbox hb; replace HO506 := HO506.kb hb; have BK515 := Aside0.mk (hbox); have GW515 := HB.g2 GE507 GE514 hg; have GE515 := HB.g2 GE507 GE514 hg; replace HB := HB.s2 GE507 GE514 hb; have NB507_515 := BK507.nl hg; have NB515_507 := BK507.nr hg; replace BK507 := BK507.bb hb; have NB514_515 := BK514.nl hg; have NB515_514 := BK514.nr hg; replace BK514 := BK514.bb hb; clear hb hbox hg; have hnb43 := NB514_507.out; have hnc43 := NB507_514.out; have hnb44 := NB514_515.out; have hnc44 := NB515_514.out; obtain ⟨hcz45_0, hcz45_1, hcz45_2⟩ := cz3_ BK514.out; obtain ⟨hfz45_0, hfz45_1, hfz45_2⟩ := fz3_ BK514.out; have hnb46 := NB515_507.out; have hnc46 := NB507_515.out; obtain ⟨hcz47_0, hcz47_1⟩ := cz2_ BK515.out; obtain ⟨hfz47_0, hfz47_1⟩ := fz2_ BK515.out) | ((with_reducible refine gate_dst (N := 24) rfl ?_); (try (refine gate_guard (by rfl) ?_; dsimp only)); refine Kd.R_lit (Kd.int .i64) _ 3 ?hg (N := 24) ?hd (xs := ([] : List Int)) (inner := []) (ok := fun _ => True) (okp := fun _ => True) ?hr ?hp (fun _ hk => hk) trivial (Below.refl _ _) (Nat.le_refl _) (by simp) ?_; (case hd => rfl); (case hg => rfl); (case hr => first | (go_simp; done) | (go_simp; rfl)); (case hp => exact (Reps.none _ _)); intro v517 w48 ho49 hb hg_ hnew_; clear hg_ hnew_; (first | rw [← Ny516.out] at ho49 | (simp only [Int.reduceToNat] at ho49; rw [← Ny516.out] at ho49)); have n0_ := Aside0.mk (Kd.R_elder' (by (with_reducible repeat (first | apply Kd.R_alloc | apply Kd.R_drewN | apply Kd.R_drew)); exact (Kd.R_mono (Kd.R_mono (Kd.R_far (p := ⟨gb515, 1, none⟩) (Kd.R_far (p := ⟨gb515, 0, none⟩) (Kd.R_far (p := ⟨gb514, 2, none⟩) (Kd.R_far (p := ⟨gb514, 1, none⟩) (Kd.R_far (p := ⟨gb514, 0, none⟩) (Kd.R_types (Kd.R_types HO506.out BK514.out (by decide)) BK515.out (by decide)) (fun _ hk => hk.1.2) (.int .i64 t508)) (fun _ hk => hk.1.2) (.int .i64 t509)) (fun _ hk => hk.1.2) (.int .i64 t510)) (fun _ hk => hk.2) (.int .i64 t511)) (fun _ hk => hk.2) (.int .i64 t512)) (fun _ h_ => h_.1)) (fun _ h_ => h_.1))) (Kd.R_base ho49) hb); have n1_ := Aside0.mk (Kd.R_lower (Kd.R_new' ho49 (Kd.R_lt (by (with_reducible repeat (first | apply Kd.R_alloc | apply Kd.R_drewN | apply Kd.R_drew)); exact (Kd.R_mono (Kd.R_mono (Kd.R_far (p := ⟨gb515, 1, none⟩) (Kd.R_far (p := ⟨gb515, 0, none⟩) (Kd.R_far (p := ⟨gb514, 2, none⟩) (Kd.R_far (p := ⟨gb514, 1, none⟩) (Kd.R_far (p := ⟨gb514, 0, none⟩) (Kd.R_types (Kd.R_types HO506.out BK514.out (by decide)) BK515.out (by decide)) (fun _ hk => hk.1.2) (.int .i64 t508)) (fun _ hk => hk.1.2) (.int .i64 t509)) (fun _ hk => hk.1.2) (.int .i64 t510)) (fun _ hk => hk.2) (.int .i64 t511)) (fun _ hk => hk.2) (.int .i64 t512)) (fun _ h_ => h_.1)) (fun _ h_ => h_.1))))) (below_size (hb3_ HB.out GE507.out GE514.out GE515.out))); have n2_ := Aside0.mk (blk_below (g := gb507) (o := .cells #[.int .i64 t502, .int .i64 t503] 25 (0, 0)) (by (with_reducible repeat (first | refine blk_drewN ?_ _ | refine blk_drew ?_ | refine blk_alloc ?_ _)); refine blk_far ?_ NB507_515.out _; (with_reducible repeat (first | refine blk_drewN ?_ _ | refine blk_drew ?_ | refine blk_alloc ?_ _)); refine blk_far ?_ NB507_515.out _; (with_reducible repeat (first | refine blk_drewN ?_ _ | refine blk_drew ?_ | refine blk_alloc ?_ _)); refine blk_far ?_ NB507_514.out _; (with_reducible repeat (first | refine blk_drewN ?_ _ | refine blk_drew ?_ | refine blk_alloc ?_ _)); refine blk_far ?_ NB507_514.out _; (with_reducible repeat (first | refine blk_drewN ?_ _ | refine blk_drew ?_ | refine blk_alloc ?_ _)); refine blk_far ?_ NB507_514.out _; (with_reducible repeat (first | refine blk_drewN ?_ _ | refine blk_drew ?_ | refine blk_alloc ?_ _)); exact BK507.out) hb); have n3_ := Aside0.mk (blk_below (g := gb514) (o := .cells #[.int .i64 t508, .int .i64 t509, .int .i64 t510] 30 (0, 0)) (by (with_reducible repeat (first | refine blk_drewN ?_ _ | refine blk_drew ?_ | refine blk_alloc ?_ _)); refine blk_far ?_ NB514_515.out _; (with_reducible repeat (first | refine blk_drewN ?_ _ | refine blk_drew ?_ | refine blk_alloc ?_ _)); refine blk_far ?_ NB514_515.out _; (with_reducible repeat (first | refine blk_drewN ?_ _ | refine blk_drew ?_ | refine blk_alloc ?_ _)); refine blk_put (cs := #[.int .i64 t508, .int .i64 t509, .int .i64 0]) ?_ 2 _ rfl; (with_reducible repeat (first | refine blk_drewN ?_ _ | refine blk_drew ?_ | refine blk_alloc ?_ _)); refine blk_put (cs := #[.int .i64 t508, .int .i64 0, .int .i64 0]) ?_ 1 _ rfl; (with_reducible repeat (first | refine blk_drewN ?_ _ | refine blk_drew ?_ | refine blk_alloc ?_ _)); refine blk_put (cs := #[.int .i64 0, .int .i64 0, .int .i64 0]) ?_ 0 _ rfl; (with_reducible repeat (first | refine blk_drewN ?_ _ | refine blk_drew ?_ | refine blk_alloc ?_ _)); exact BK514.out) hb); have n4_ := Aside0.mk (blk_below (g := gb515) (o := .cells #[.int .i64 t511, .int .i64 t512] 32 (0, 0)) (by (with_reducible repeat (first | refine blk_drewN ?_ _ | refine blk_drew ?_ | refine blk_alloc ?_ _)); refine blk_put (cs := #[.int .i64 t511, .int .i64 0]) ?_ 1 _ rfl; (with_reducible repeat (first | refine blk_drewN ?_ _ | refine blk_drew ?_ | refine blk_alloc ?_ _)); refine blk_put (cs := #[.int .i64 0, .int .i64 0]) ?_ 0 _ rfl; (with_reducible repeat (first | refine blk_drewN ?_ _ | refine blk_drew ?_ | refine blk_alloc ?_ _)); refine blk_far ?_ NB515_514.out _; (with_reducible repeat (first | refine blk_drewN ?_ _ | refine blk_drew ?_ | refine blk_alloc ?_ _)); refine blk_far ?_ NB515_514.out _; (with_reducible repeat (first | refine blk_drewN ?_ _ | refine blk_drew ?_ | refine blk_alloc ?_ _)); refine blk_far ?_ NB515_514.out _; (with_reducible repeat (first | refine blk_drewN ?_ _ | refine blk_drew ?_ | refine blk_alloc ?_ _)); exact BK515.out) hb); have n5_ := HB.s3 GE507 GE514 GE515 hb; clear HO506; clear BK507; clear BK514; clear BK515; clear HB; have HO506 := n0_; have HO518 := n1_; have BK507 := n2_; have BK514 := n3_; have BK515 := n4_; have HB := n5_; clear n0_ n1_ n2_ n3_ n4_ n5_; clear hb ho49) | ((with_reducible refine gate_builtin (b := .append) (xs := #[.tmp 24, .tmp 25]) rfl ?_); (try (refine gate_guard (by rfl) ?_; dsimp only)); at_builtin; refine Kd.R_append_rows (Kd.int .i64) (w0 := w) w.heap.size rfl (.tmp 24) (.tmp 25) 26 3 (.int .i64 0) 8 rfl Try.underlying26 info3 rfl (by decide) (by omega) v517 y516 t504 _ _ _ (fun k_ => some k_ ≠ (.slice Ao39 t504.length co39 : Value).ownBlock) (fun _ => False) rfl rfl ?aO ?aR (fun _ _ h => h) (fun _ h => h.elim) ?aF ?aB ?aS ?aL ?_; (case aR => repeat (first | exact (Kd.R_reads' HO506.out).2.2 | (with_reducible refine Kd.C_alloc ?_ _) | (with_reducible refine Kd.C_drewN ?_ _) | (with_reducible refine Kd.C_drew ?_))); (case aB => exact (hb3_ HB.out GE507.out GE514.out GE515.out)); (case aF => exact (fun k_ hk => Kd.fresh' (Kd.R_lt (kr_ HO506.out)) k_ hk)); (case aO => exact (by (with_reducible repeat (first | apply Kd.R_alloc | apply Kd.R_drewN | apply Kd.R_drew)); exact Kd.R_mono HO518.out (fun _ hk => hk.2))); (case aS => exact (below_size (hb3_ HB.out GE507.out GE514.out GE515.out))); (case aL => have := LMc6.out; omega); intro v520 w50 ho hb hg hat; rw [← Ny519.out] at ho; replace HO506 := Aside0.mk (Kd.R_after (ok := (fun _ => True)) (by first | exact (kr_ HO506.out) | exact Kd.R_mono HO506.out (fun _ hk => ⟨trivial, hk⟩)) hg hat); replace BK507 := Aside0.mk (blk_grown (g := gb507) (o := .cells #[.int .i64 t502, .int .i64 t503] 25 (0, 0)) (bk_ BK507.out) hg (Kd.R_ne HO518.out BK507.out (by decide))); replace BK514 := Aside0.mk (blk_grown (g := gb514) (o := .cells #[.int .i64 t508, .int .i64 t509, .int .i64 t510] 30 (0, 0)) (bk_ BK514.out) hg (Kd.R_ne HO518.out BK514.out (by decide))); replace BK515 := Aside0.mk (blk_grown (g := gb515) (o := .cells #[.int .i64 t511, .int .i64 t512] 32 (0, 0)) (bk_ BK515.out) hg (Kd.R_ne HO518.out BK515.out (by decide))); replace HB := Aside0.mk (hb); have HO521 := Aside0.mk (ho); clear HO518; clear ho hb hg hat) | (refine gl_ 28 Try.func7 #[.slice A0 l0.length c0, .int .i64 0] ?_; (with_reducible refine (laws_at.calls _ _ l0 0 t522 _ ?side1 ?side2 A7.out).mono ?_); (case side1 => repeat (first | exact (Kd.C_below HR0.out HB.out) | (with_reducible refine Kd.C_alloc ?_ _) | (with_reducible refine Kd.C_drewN ?_ _) | (with_reducible refine Kd.C_drew ?_))); (case side2 => exact HC0.out); rintro e w' ⟨rfl, ⟨nd, rfl⟩⟩; refine ⟨_, rfl, ?_⟩) | ((with_reducible refine gate_builtin (b := .append) (xs := #[.tmp 26, .tmp 30]) rfl ?_); (try (refine gate_guard (by rfl) ?_; dsimp only)); at_builtin; refine Kd.R_append (Kd.int .i64) (w0 := w) w.heap.size rfl (.tmp 26) (.tmp 30) 26 3 (.int .i64 0) 8 rfl Try.underlying26 info3 rfl (by decide) (by omega) v520 y519 (Int.tmod t522 4) [.int .i64 (Int.tmod t522 4)] (fun k_ => some k_ ≠ (.slice Ao39 t504.length co39 : Value).ownBlock) (fun _ => False) rfl rfl ?aP (fun _ hk => hk.elim) ?aF ?aO ?aB ?aS ?aL ?_; (case aP => exact rfl); (case aB => exact (hb3_ HB.out GE507.out GE514.out GE515.out)); (case aF => exact (fun k_ hk => Kd.fresh' (Kd.R_lt (kr_ HO506.out)) k_ hk)); (case aO => exact (kr_ HO521.out)); (case aS => exact (below_size (hb3_ HB.out GE507.out GE514.out GE515.out))); (case aL => have := LMc8.out; omega); intro v524 w51 ho hb hg hat; rw [← Ny523.out] at ho; replace HO506 := Aside0.mk (Kd.R_after (ok := (fun _ => True)) (by first | exact (kr_ HO506.out) | exact Kd.R_mono HO506.out (fun _ hk => ⟨trivial, hk⟩)) hg hat); replace BK507 := Aside0.mk (blk_grown (g := gb507) (o := .cells #[.int .i64 t502, .int .i64 t503] 25 (0, 0)) (bk_ BK507.out) hg (Kd.R_ne HO521.out BK507.out (by decide))); replace BK514 := Aside0.mk (blk_grown (g := gb514) (o := .cells #[.int .i64 t508, .int .i64 t509, .int .i64 t510] 30 (0, 0)) (bk_ BK514.out) hg (Kd.R_ne HO521.out BK514.out (by decide))); replace BK515 := Aside0.mk (blk_grown (g := gb515) (o := .cells #[.int .i64 t511, .int .i64 t512] 32 (0, 0)) (bk_ BK515.out) hg (Kd.R_ne HO521.out BK515.out (by decide))); replace HB := Aside0.mk (hb); have HO525 := Aside0.mk (ho); clear HO521; clear ho hb hg hat; obtain ⟨hcz52_0, hcz52_1⟩ := cz2_ BK507.out; obtain ⟨hfz52_0, hfz52_1⟩ := fz2_ BK507.out) | (refine gl_ 35 Try.func8 #[.agg #[.int .i64 t502, .int .i64 t503], .slice Ao39 t504.length co39] ?_; (with_reducible refine (impl_IsUniversal.calls k t502 t503 _ _ t504 false _ ?side1 ?side2 A10.out).mono ?_); (case side1 => repeat (first | exact (Kd.R_reads' HO506.out).2.2 | (with_reducible refine Kd.C_alloc ?_ _) | (with_reducible refine Kd.C_drewN ?_ _) | (with_reducible refine Kd.C_drew ?_))); (case side2 => exact (Kd.R_reads' HO506.out).2.1); rintro e w53 ⟨rfl, hb⟩; refine ⟨_, rfl, ?_⟩; replace HO506 := HO506.kb hb; replace HO525 := HO525.kb hb; replace BK507 := BK507.bb hb; replace BK514 := BK514.bb hb; replace BK515 := BK515.bb hb; replace HB := HB.s3 GE507 GE514 GE515 hb; (try clear hb); obtain ⟨hcz54_0, hcz54_1, hcz54_2⟩ := cz3_ BK514.out; obtain ⟨hfz54_0, hfz54_1, hfz54_2⟩ := fz3_ BK514.out) | fail) | (go_at_call 9; (with_reducible refine (impl_IsPerfect.calls k t508 t509 t510 true _ A30.out).mono ?_); rintro e w55 ⟨rfl, hb⟩; replace HO506 := HO506.kb hb; replace HO525 := HO525.kb hb; replace BK507 := BK507.bb hb; replace BK514 := BK514.bb hb; replace BK515 := BK515.bb hb; replace HB := HB.s3 GE507 GE514 GE515 hb; (try clear hb); obtain ⟨hcz56_0, hcz56_1, hcz56_2⟩ := cz3_ BK514.out; obtain ⟨hfz56_0, hfz56_1, hfz56_2⟩ := fz3_ BK514.out; obtain ⟨hcz57_0, hcz57_1⟩ := cz2_ BK515.out; obtain ⟨hfz57_0, hfz57_1⟩ := fz2_ BK515.out) | (go_at_call 10; (with_reducible refine (impl_WalkerOk.calls t508 t509 t510 t511 t512 true _ A32.out).mono ?_); rintro e w58 ⟨rfl, hb⟩; replace HO506 := HO506.kb hb; replace HO525 := HO525.kb hb; replace BK507 := BK507.bb hb; replace BK514 := BK514.bb hb; replace BK515 := BK515.bb hb; replace HB := HB.s3 GE507 GE514 GE515 hb; (try clear hb); obtain ⟨hcz59_0, hcz59_1, hcz59_2⟩ := cz3_ BK514.out; obtain ⟨hfz59_0, hfz59_1, hfz59_2⟩ := fz3_ BK514.out; obtain ⟨hcz60_0, hcz60_1⟩ := cz2_ BK515.out; obtain ⟨hfz60_0, hfz60_1⟩ := fz2_ BK515.out) | (go_at_call 11; (with_reducible refine (impl_CoversAll.calls k t508 t509 t510 t511 t512 _ _ t504 true _ ?side1 ?side2 A34.out).mono ?_); (case side1 => repeat (first | exact (Kd.R_reads' HO506.out).2.2 | (with_reducible refine Kd.C_alloc ?_ _) | (with_reducible refine Kd.C_drewN ?_ _) | (with_reducible refine Kd.C_drew ?_))); (case side2 => exact (Kd.R_reads' HO506.out).2.1); rintro e w61 ⟨rfl, hb⟩; replace HO506 := HO506.kb hb; replace HO525 := HO525.kb hb; replace BK507 := BK507.bb hb; replace BK514 := BK514.bb hb; replace BK515 := BK515.bb hb; replace HB := HB.s3 GE507 GE514 GE515 hb; (try clear hb)) | fail)
         go_ret
         exact ⟨ex_, hb3_ HB.out GE507.out GE514.out GE515.out⟩
        ·replace c35 := Bool.eq_false_iff.mpr c35
         subst c35
         have H1 : ((impl_FollowTurns.f k t508 t509 t510 t511 t512 t504).bind fun t530 => (some ((t530.length : Int) == (wrap64 ((t504.length : Int) + 1))))) = some r := by rw [if_neg (show ¬ (false = true) by decide)] at H; exact H
         clear H
         have H := H1
         clear H1
         replace H := Option.bind_eq_some_iff.mp H
         obtain ⟨t530, A620, H⟩ := H
         replace H : (some ((t530.length : Int) == (wrap64 ((t504.length : Int) + 1)))) = some r := H
         have A62 := Aside0.mk A620
         clear A620
         obtain rfl := Option.some.inj H
         go_enter Try.func3, Try.ntmps3
         go_wp2_with (first | ((with_reducible refine gw_ ?_); first | (refine gl_ 11 Try.func4 #[.slice A0 l0.length c0] ?_; (with_reducible refine (laws_big.calls _ _ l0 false _ ?side1 ?side2 A2.out).mono ?_); (case side1 => exact kc_ HR0.out); (case side2 => exact HC0.out); rintro e w' ⟨rfl, ⟨nd, rfl⟩⟩; refine ⟨_, rfl, ?_⟩) | (refine gl_ 14 Try.func5 #[.slice A0 l0.length c0] ?_; (with_reducible refine (spec_DrawTurns.calls k _ _ l0 t502 t503 t504 _ ?side1 ?side2 A4.out).mono ?_); (case side1 => exact kc_ HR0.out); (case side2 => exact HC0.out); rintro e w63 ⟨v505, rfl, ho0, hb⟩; refine ⟨_, rfl, ?_⟩; have HO506 := Aside0.mk (Kd.R_lower ho0 (below_size (hb0_ HB.out))); replace HB := HB.s0 hb; (try clear hb); (try clear ho0)) | ((with_reducible refine gate_dst (N := 3) rfl ?_); (try (refine gate_guard (by rfl) ?_; dsimp only)); refine box_event ?hg (N := 3) ?hd (cs := #[.int .i64 0, .int .i64 0]) (t := 25) ?hr ?_; (case hd => rfl); (case hg => rfl); (case hr => first | (go_simp; done) | (go_simp; rfl)); intro gb507 hg w64 hbox hb; replace HO506 := HO506.kb hb; have BK507 := Aside0.mk (hbox); have GW507 := HB.g0 hg; have GE507 := HB.g0 hg; replace HB := HB.s0 hb; clear hb hbox hg; obtain ⟨hcz65_0, hcz65_1⟩ := cz2_ BK507.out; obtain ⟨hfz65_0, hfz65_1⟩ := fz2_ BK507.out; obtain ⟨Ao66, co66, eo66⟩ := Kd.R_slice HO506.out; subst eo66) | (refine gl_ 20 Try.func6 #[.agg #[.int .i64 t502, .int .i64 t503], .slice Ao66 t504.length co66] ?_; (with_reducible refine (impl_FirstFailure.calls k t502 t503 _ _ t504 t508 t509 t510 t511 t512 true _ ?side1 ?side2 A5.out).mono ?_); (case side1 => refine (Kd.R_reads' (e := 3) (base := w.heap.size) (ok := fun k_ => True) (n := t504.length) (c := co66) ?_).2.2; exact (rq2_ HO506.out BK507.out)); (case side2 => exact (Kd.R_reads' HO506.out).2.1); rintro e w67 ⟨rfl, hb⟩; refine ⟨_, rfl, ?_⟩; replace HO506 := Aside0.mk (Kd.R_below (rq2_ HO506.out BK507.out) hb); replace BK507 := Aside0.mk (blk_below (bq2_ BK507.out) hb); replace HB := HB.s1 GE507 hb; (try clear hb)) | ((with_reducible refine gate_dst (N := 5) rfl ?_); (try (refine gate_guard (by rfl) ?_; dsimp only)); refine box_event ?hg (N := 5) ?hd (cs := #[.int .i64 0, .int .i64 0, .int .i64 0]) (t := 30) ?hr ?_; (case hd => rfl); (case hg => rfl); (case hr => first | (go_simp; done) | (go_simp; rfl)); intro gb514 hg w68 hbox hb; replace HO506 := HO506.kb hb; have BK514 := Aside0.mk (hbox); have GW514 := HB.g1 GE507 hg; have GE514 := HB.g1 GE507 hg; replace HB := HB.s1 GE507 hb; have NB507_514 := BK507.nl hg; have NB514_507 := BK507.nr hg; replace BK507 := BK507.bb hb; clear hb hbox hg) | ((with_reducible refine gate_dst (N := 6) rfl ?_); (try (refine gate_guard (by rfl) ?_; dsimp only)); refine box_event ?hg (N := 6) ?hd (cs := #[.int .i64 0, .int .i64 0]) (t := 32) ?hr ?_; (case hd => rfl); (case hg => rfl); (case hr => first | (go_simp; done) | (go_simp; rfl)); intro gb515 hg w69 hbox hb; replace HO506 := HO506.kb hb; have BK515 := Aside0.mk (hbox); have GW515 := HB.g2 GE507 GE514 hg; have GE515 := HB.g2 GE507 GE514 hg; replace HB := HB.s2 GE507 GE514 hb; have NB507_515 := BK507.nl hg; have NB515_507 := BK507.nr hg; replace BK507 := BK507.bb hb; have NB514_515 := BK514.nl hg; have NB515_514 := BK514.nr hg; replace BK514 := BK514.bb hb; clear hb hbox hg; have hnb70 := NB514_507.out; have hnc70 := NB507_514.out; have hnb71 := NB514_515.out; have hnc71 := NB515_514.out; obtain ⟨hcz72_0, hcz72_1, hcz72_2⟩ := cz3_ BK514.out; obtain ⟨hfz72_0, hfz72_1, hfz72_2⟩ := fz3_ BK514.out; have hnb73 := NB515_507.out; have hnc73 := NB507_515.out; obtain ⟨hcz74_0, hcz74_1⟩ := cz2_ BK515.out; obtain ⟨hfz74_0, hfz74_1⟩ := fz2_ BK515.out) | ((with_reducible refine gate_dst (N := 24) rfl ?_); (try (refine gate_guard (by rfl) ?_; dsimp only)); refine Kd.R_lit (Kd.int .i64) _ 3 ?hg (N := 24) ?hd (xs := ([] : List Int)) (inner := []) (ok := fun _ => True) (okp := fun _ => True) ?hr ?hp (fun _ hk => hk) trivial (Below.refl _ _) (Nat.le_refl _) (by simp) ?_; (case hd => rfl); (case hg => rfl); (case hr => first | (go_simp; done) | (go_simp; rfl)); (case hp => exact (Reps.none _ _)); intro v517 w75 ho76 hb hg_ hnew_; clear hg_ hnew_; (first | rw [← Ny516.out] at ho76 | (simp only [Int.reduceToNat] at ho76; rw [← Ny516.out] at ho76)); have n0_ := Aside0.mk (Kd.R_elder' (by (with_reducible repeat (first | apply Kd.R_alloc | apply Kd.R_drewN | apply Kd.R_drew)); exact (Kd.R_mono (Kd.R_mono (Kd.R_far (p := ⟨gb515, 1, none⟩) (Kd.R_far (p := ⟨gb515, 0, none⟩) (Kd.R_far (p := ⟨gb514, 2, none⟩) (Kd.R_far (p := ⟨gb514, 1, none⟩) (Kd.R_far (p := ⟨gb514, 0, none⟩) (Kd.R_types (Kd.R_types HO506.out BK514.out (by decide)) BK515.out (by decide)) (fun _ hk => hk.1.2) (.int .i64 t508)) (fun _ hk => hk.1.2) (.int .i64 t509)) (fun _ hk => hk.1.2) (.int .i64 t510)) (fun _ hk => hk.2) (.int .i64 t511)) (fun _ hk => hk.2) (.int .i64 t512)) (fun _ h_ => h_.1)) (fun _ h_ => h_.1))) (Kd.R_base ho76) hb); have n1_ := Aside0.mk (Kd.R_lower (Kd.R_new' ho76 (Kd.R_lt (by (with_reducible repeat (first | apply Kd.R_alloc | apply Kd.R_drewN | apply Kd.R_drew)); exact (Kd.R_mono (Kd.R_mono (Kd.R_far (p := ⟨gb515, 1, none⟩) (Kd.R_far (p := ⟨gb515, 0, none⟩) (Kd.R_far (p := ⟨gb514, 2, none⟩) (Kd.R_far (p := ⟨gb514, 1, none⟩) (Kd.R_far (p := ⟨gb514, 0, none⟩) (Kd.R_types (Kd.R_types HO506.out BK514.out (by decide)) BK515.out (by decide)) (fun _ hk => hk.1.2) (.int .i64 t508)) (fun _ hk => hk.1.2) (.int .i64 t509)) (fun _ hk => hk.1.2) (.int .i64 t510)) (fun _ hk => hk.2) (.int .i64 t511)) (fun _ hk => hk.2) (.int .i64 t512)) (fun _ h_ => h_.1)) (fun _ h_ => h_.1))))) (below_size (hb3_ HB.out GE507.out GE514.out GE515.out))); have n2_ := Aside0.mk (blk_below (g := gb507) (o := .cells #[.int .i64 t502, .int .i64 t503] 25 (0, 0)) (by (with_reducible repeat (first | refine blk_drewN ?_ _ | refine blk_drew ?_ | refine blk_alloc ?_ _)); refine blk_far ?_ NB507_515.out _; (with_reducible repeat (first | refine blk_drewN ?_ _ | refine blk_drew ?_ | refine blk_alloc ?_ _)); refine blk_far ?_ NB507_515.out _; (with_reducible repeat (first | refine blk_drewN ?_ _ | refine blk_drew ?_ | refine blk_alloc ?_ _)); refine blk_far ?_ NB507_514.out _; (with_reducible repeat (first | refine blk_drewN ?_ _ | refine blk_drew ?_ | refine blk_alloc ?_ _)); refine blk_far ?_ NB507_514.out _; (with_reducible repeat (first | refine blk_drewN ?_ _ | refine blk_drew ?_ | refine blk_alloc ?_ _)); refine blk_far ?_ NB507_514.out _; (with_reducible repeat (first | refine blk_drewN ?_ _ | refine blk_drew ?_ | refine blk_alloc ?_ _)); exact BK507.out) hb); have n3_ := Aside0.mk (blk_below (g := gb514) (o := .cells #[.int .i64 t508, .int .i64 t509, .int .i64 t510] 30 (0, 0)) (by (with_reducible repeat (first | refine blk_drewN ?_ _ | refine blk_drew ?_ | refine blk_alloc ?_ _)); refine blk_far ?_ NB514_515.out _; (with_reducible repeat (first | refine blk_drewN ?_ _ | refine blk_drew ?_ | refine blk_alloc ?_ _)); refine blk_far ?_ NB514_515.out _; (with_reducible repeat (first | refine blk_drewN ?_ _ | refine blk_drew ?_ | refine blk_alloc ?_ _)); refine blk_put (cs := #[.int .i64 t508, .int .i64 t509, .int .i64 0]) ?_ 2 _ rfl; (with_reducible repeat (first | refine blk_drewN ?_ _ | refine blk_drew ?_ | refine blk_alloc ?_ _)); refine blk_put (cs := #[.int .i64 t508, .int .i64 0, .int .i64 0]) ?_ 1 _ rfl; (with_reducible repeat (first | refine blk_drewN ?_ _ | refine blk_drew ?_ | refine blk_alloc ?_ _)); refine blk_put (cs := #[.int .i64 0, .int .i64 0, .int .i64 0]) ?_ 0 _ rfl; (with_reducible repeat (first | refine blk_drewN ?_ _ | refine blk_drew ?_ | refine blk_alloc ?_ _)); exact BK514.out) hb); have n4_ := Aside0.mk (blk_below (g := gb515) (o := .cells #[.int .i64 t511, .int .i64 t512] 32 (0, 0)) (by (with_reducible repeat (first | refine blk_drewN ?_ _ | refine blk_drew ?_ | refine blk_alloc ?_ _)); refine blk_put (cs := #[.int .i64 t511, .int .i64 0]) ?_ 1 _ rfl; (with_reducible repeat (first | refine blk_drewN ?_ _ | refine blk_drew ?_ | refine blk_alloc ?_ _)); refine blk_put (cs := #[.int .i64 0, .int .i64 0]) ?_ 0 _ rfl; (with_reducible repeat (first | refine blk_drewN ?_ _ | refine blk_drew ?_ | refine blk_alloc ?_ _)); refine blk_far ?_ NB515_514.out _; (with_reducible repeat (first | refine blk_drewN ?_ _ | refine blk_drew ?_ | refine blk_alloc ?_ _)); refine blk_far ?_ NB515_514.out _; (with_reducible repeat (first | refine blk_drewN ?_ _ | refine blk_drew ?_ | refine blk_alloc ?_ _)); refine blk_far ?_ NB515_514.out _; (with_reducible repeat (first | refine blk_drewN ?_ _ | refine blk_drew ?_ | refine blk_alloc ?_ _)); exact BK515.out) hb); have n5_ := HB.s3 GE507 GE514 GE515 hb; clear HO506; clear BK507; clear BK514; clear BK515; clear HB; have HO506 := n0_; have HO518 := n1_; have BK507 := n2_; have BK514 := n3_; have BK515 := n4_; have HB := n5_; clear n0_ n1_ n2_ n3_ n4_ n5_; clear hb ho76) | ((with_reducible refine gate_builtin (b := .append) (xs := #[.tmp 24, .tmp 25]) rfl ?_); (try (refine gate_guard (by rfl) ?_; dsimp only)); at_builtin; refine Kd.R_append_rows (Kd.int .i64) (w0 := w) w.heap.size rfl (.tmp 24) (.tmp 25) 26 3 (.int .i64 0) 8 rfl Try.underlying26 info3 rfl (by decide) (by omega) v517 y516 t504 _ _ _ (fun k_ => some k_ ≠ (.slice Ao66 t504.length co66 : Value).ownBlock) (fun _ => False) rfl rfl ?aO ?aR (fun _ _ h => h) (fun _ h => h.elim) ?aF ?aB ?aS ?aL ?_; (case aR => repeat (first | exact (Kd.R_reads' HO506.out).2.2 | (with_reducible refine Kd.C_alloc ?_ _) | (with_reducible refine Kd.C_drewN ?_ _) | (with_reducible refine Kd.C_drew ?_))); (case aB => exact (hb3_ HB.out GE507.out GE514.out GE515.out)); (case aF => exact (fun k_ hk => Kd.fresh' (Kd.R_lt (kr_ HO506.out)) k_ hk)); (case aO => exact (by (with_reducible repeat (first | apply Kd.R_alloc | apply Kd.R_drewN | apply Kd.R_drew)); exact Kd.R_mono HO518.out (fun _ hk => hk.2))); (case aS => exact (below_size (hb3_ HB.out GE507.out GE514.out GE515.out))); (case aL => have := LMc6.out; omega); intro v520 w77 ho hb hg hat; rw [← Ny519.out] at ho; replace HO506 := Aside0.mk (Kd.R_after (ok := (fun _ => True)) (by first | exact (kr_ HO506.out) | exact Kd.R_mono HO506.out (fun _ hk => ⟨trivial, hk⟩)) hg hat); replace BK507 := Aside0.mk (blk_grown (g := gb507) (o := .cells #[.int .i64 t502, .int .i64 t503] 25 (0, 0)) (bk_ BK507.out) hg (Kd.R_ne HO518.out BK507.out (by decide))); replace BK514 := Aside0.mk (blk_grown (g := gb514) (o := .cells #[.int .i64 t508, .int .i64 t509, .int .i64 t510] 30 (0, 0)) (bk_ BK514.out) hg (Kd.R_ne HO518.out BK514.out (by decide))); replace BK515 := Aside0.mk (blk_grown (g := gb515) (o := .cells #[.int .i64 t511, .int .i64 t512] 32 (0, 0)) (bk_ BK515.out) hg (Kd.R_ne HO518.out BK515.out (by decide))); replace HB := Aside0.mk (hb); have HO521 := Aside0.mk (ho); clear HO518; clear ho hb hg hat) | (refine gl_ 28 Try.func7 #[.slice A0 l0.length c0, .int .i64 0] ?_; (with_reducible refine (laws_at.calls _ _ l0 0 t522 _ ?side1 ?side2 A7.out).mono ?_); (case side1 => repeat (first | exact (Kd.C_below HR0.out HB.out) | (with_reducible refine Kd.C_alloc ?_ _) | (with_reducible refine Kd.C_drewN ?_ _) | (with_reducible refine Kd.C_drew ?_))); (case side2 => exact HC0.out); rintro e w' ⟨rfl, ⟨nd, rfl⟩⟩; refine ⟨_, rfl, ?_⟩) | ((with_reducible refine gate_builtin (b := .append) (xs := #[.tmp 26, .tmp 30]) rfl ?_); (try (refine gate_guard (by rfl) ?_; dsimp only)); at_builtin; refine Kd.R_append (Kd.int .i64) (w0 := w) w.heap.size rfl (.tmp 26) (.tmp 30) 26 3 (.int .i64 0) 8 rfl Try.underlying26 info3 rfl (by decide) (by omega) v520 y519 (Int.tmod t522 4) [.int .i64 (Int.tmod t522 4)] (fun k_ => some k_ ≠ (.slice Ao66 t504.length co66 : Value).ownBlock) (fun _ => False) rfl rfl ?aP (fun _ hk => hk.elim) ?aF ?aO ?aB ?aS ?aL ?_; (case aP => exact rfl); (case aB => exact (hb3_ HB.out GE507.out GE514.out GE515.out)); (case aF => exact (fun k_ hk => Kd.fresh' (Kd.R_lt (kr_ HO506.out)) k_ hk)); (case aO => exact (kr_ HO521.out)); (case aS => exact (below_size (hb3_ HB.out GE507.out GE514.out GE515.out))); (case aL => have := LMc8.out; omega); intro v524 w78 ho hb hg hat; rw [← Ny523.out] at ho; replace HO506 := Aside0.mk (Kd.R_after (ok := (fun _ => True)) (by first | exact (kr_ HO506.out) | exact Kd.R_mono HO506.out (fun _ hk => ⟨trivial, hk⟩)) hg hat); replace BK507 := Aside0.mk (blk_grown (g := gb507) (o := .cells #[.int .i64 t502, .int .i64 t503] 25 (0, 0)) (bk_ BK507.out) hg (Kd.R_ne HO521.out BK507.out (by decide))); replace BK514 := Aside0.mk (blk_grown (g := gb514) (o := .cells #[.int .i64 t508, .int .i64 t509, .int .i64 t510] 30 (0, 0)) (bk_ BK514.out) hg (Kd.R_ne HO521.out BK514.out (by decide))); replace BK515 := Aside0.mk (blk_grown (g := gb515) (o := .cells #[.int .i64 t511, .int .i64 t512] 32 (0, 0)) (bk_ BK515.out) hg (Kd.R_ne HO521.out BK515.out (by decide))); replace HB := Aside0.mk (hb); have HO525 := Aside0.mk (ho); clear HO521; clear ho hb hg hat; obtain ⟨hcz79_0, hcz79_1⟩ := cz2_ BK507.out; obtain ⟨hfz79_0, hfz79_1⟩ := fz2_ BK507.out) | (refine gl_ 35 Try.func8 #[.agg #[.int .i64 t502, .int .i64 t503], .slice Ao66 t504.length co66] ?_; (with_reducible refine (impl_IsUniversal.calls k t502 t503 _ _ t504 false _ ?side1 ?side2 A10.out).mono ?_); (case side1 => repeat (first | exact (Kd.R_reads' HO506.out).2.2 | (with_reducible refine Kd.C_alloc ?_ _) | (with_reducible refine Kd.C_drewN ?_ _) | (with_reducible refine Kd.C_drew ?_))); (case side2 => exact (Kd.R_reads' HO506.out).2.1); rintro e w80 ⟨rfl, hb⟩; refine ⟨_, rfl, ?_⟩; replace HO506 := HO506.kb hb; replace HO525 := HO525.kb hb; replace BK507 := BK507.bb hb; replace BK514 := BK514.bb hb; replace BK515 := BK515.bb hb; replace HB := HB.s3 GE507 GE514 GE515 hb; (try clear hb); obtain ⟨hcz81_0, hcz81_1, hcz81_2⟩ := cz3_ BK514.out; obtain ⟨hfz81_0, hfz81_1, hfz81_2⟩ := fz3_ BK514.out) | fail) | (go_at_call 9; (with_reducible refine (impl_IsPerfect.calls k t508 t509 t510 true _ A30.out).mono ?_); rintro e w82 ⟨rfl, hb⟩; replace HO506 := HO506.kb hb; replace HO525 := HO525.kb hb; replace BK507 := BK507.bb hb; replace BK514 := BK514.bb hb; replace BK515 := BK515.bb hb; replace HB := HB.s3 GE507 GE514 GE515 hb; (try clear hb); obtain ⟨hcz83_0, hcz83_1, hcz83_2⟩ := cz3_ BK514.out; obtain ⟨hfz83_0, hfz83_1, hfz83_2⟩ := fz3_ BK514.out; obtain ⟨hcz84_0, hcz84_1⟩ := cz2_ BK515.out; obtain ⟨hfz84_0, hfz84_1⟩ := fz2_ BK515.out) | (go_at_call 10; (with_reducible refine (impl_WalkerOk.calls t508 t509 t510 t511 t512 true _ A32.out).mono ?_); rintro e w85 ⟨rfl, hb⟩; replace HO506 := HO506.kb hb; replace HO525 := HO525.kb hb; replace BK507 := BK507.bb hb; replace BK514 := BK514.bb hb; replace BK515 := BK515.bb hb; replace HB := HB.s3 GE507 GE514 GE515 hb; (try clear hb); obtain ⟨hcz86_0, hcz86_1, hcz86_2⟩ := cz3_ BK514.out; obtain ⟨hfz86_0, hfz86_1, hfz86_2⟩ := fz3_ BK514.out; obtain ⟨hcz87_0, hcz87_1⟩ := cz2_ BK515.out; obtain ⟨hfz87_0, hfz87_1⟩ := fz2_ BK515.out) | (go_at_call 11; (with_reducible refine (impl_CoversAll.calls k t508 t509 t510 t511 t512 _ _ t504 false _ ?side1 ?side2 A34.out).mono ?_); (case side1 => repeat (first | exact (Kd.R_reads' HO506.out).2.2 | (with_reducible refine Kd.C_alloc ?_ _) | (with_reducible refine Kd.C_drewN ?_ _) | (with_reducible refine Kd.C_drew ?_))); (case side2 => exact (Kd.R_reads' HO506.out).2.1); rintro e w88 ⟨rfl, hb⟩; replace HO506 := HO506.kb hb; replace HO525 := HO525.kb hb; replace BK507 := BK507.bb hb; replace BK514 := BK514.bb hb; replace BK515 := BK515.bb hb; replace HB := HB.s3 GE507 GE514 GE515 hb; (try clear hb); obtain ⟨hcz89_0, hcz89_1, hcz89_2⟩ := cz3_ BK514.out; obtain ⟨hfz89_0, hfz89_1, hfz89_2⟩ := fz3_ BK514.out; obtain ⟨hcz90_0, hcz90_1⟩ := cz2_ BK515.out; obtain ⟨hfz90_0, hfz90_1⟩ := fz2_ BK515.out) | (go_at_call 12; (with_reducible refine (impl_FollowTurns.calls k t508 t509 t510 t511 t512 _ _ t504 t530 _ ?side1 ?side2 A62.out).mono ?_); (case side1 => repeat (first | exact (Kd.R_reads' HO506.out).2.2 | (with_reducible refine Kd.C_alloc ?_ _) | (with_reducible refine Kd.C_drewN ?_ _) | (with_reducible refine Kd.C_drew ?_))); (case side2 => exact (Kd.R_reads' HO506.out).2.1); rintro e w91 ⟨v531, rfl, ho0, hb⟩; have HO532 := Aside0.mk (Kd.R_lower (Kd.R_new' (Kd.R_new' ho0 (Kd.R_lt (kr_ HO506.out))) (Kd.R_lt (kr_ HO525.out))) (below_size (hb3_ HB.out GE507.out GE514.out GE515.out))); replace HO506 := Aside0.mk (Kd.R_elder' (kr_ HO506.out) (Kd.R_base ho0) hb); replace HO525 := Aside0.mk (Kd.R_elder' (kr_ HO525.out) (Kd.R_base ho0) hb); replace BK507 := BK507.bb hb; replace BK514 := BK514.bb hb; replace BK515 := BK515.bb hb; replace HB := HB.s3 GE507 GE514 GE515 hb; (try clear hb); (try clear ho0); obtain ⟨Ao92, co92, eo92⟩ := Kd.R_slice HO532.out; subst eo92) | fail)
         go_ret
         exact ⟨ex_, hb3_ HB.out GE507.out GE514.out GE515.out⟩
       ·replace c33 := Bool.eq_false_iff.mpr c33
        subst c33
        have H1 : (some false) = some r := by rw [if_neg (show ¬ (false = true) by decide)] at H; exact H
        clear H
        have H := H1
        clear H1
        obtain rfl := Option.some.inj H
        go_enter Try.func3, Try.ntmps3
        go_wp2_with (first | ((with_reducible refine gw_ ?_); first | ((with_reducible refine gate_dst (N := 47) rfl ?_); (with_reducible refine wpList_skip ?_ ?_); rfl; go_frame; (with_reducible refine wpList_skip ?_ ?_); rfl; go_frame; (with_reducible refine wpList_skip ?_ ?_); rfl; go_frame; (with_reducible refine wpList_skip ?_ ?_); rfl; go_frame; (with_reducible refine wpList_skip ?_ ?_); rfl; go_frame; (with_reducible refine evs_ (v := .bool false) rfl ?_ ?_); rfl; go_frame; (with_reducible refine evs_ (v := .bool false) rfl ?_ ?_); rfl; go_frame; (with_reducible refine wpList_skip ?_ ?_); rfl; go_frame; (with_reducible refine wpList_skip ?_ ?_); rfl; go_frame; (with_reducible refine wpList_skip ?_ ?_); rfl; go_frame; (with_reducible refine wpList_skip ?_ ?_); rfl; go_frame; (with_reducible refine wpList_skip ?_ ?_); rfl; go_frame; (with_reducible refine wpList_skip ?_ ?_); rfl; go_frame; (with_reducible refine wpList_skip ?_ ?_); rfl; go_frame; (with_reducible refine wpList_skip ?_ ?_); rfl; go_frame; (with_reducible refine wpList_skip ?_ ?_); rfl; go_frame; (with_reducible refine evs_ (v := .bool false) rfl ?_ ?_); rfl; go_frame; (with_reducible refine evs_ (v := .bool false) rfl ?_ ?_); rfl; go_frame) | (refine gl_ 11 Try.func4 #[.slice A0 l0.length c0] ?_; (with_reducible refine (laws_big.calls _ _ l0 false _ ?side1 ?side2 A2.out).mono ?_); (case side1 => exact kc_ HR0.out); (case side2 => exact HC0.out); rintro e w' ⟨rfl, ⟨nd, rfl⟩⟩; refine ⟨_, rfl, ?_⟩) | (refine gl_ 14 Try.func5 #[.slice A0 l0.length c0] ?_; (with_reducible refine (spec_DrawTurns.calls k _ _ l0 t502 t503 t504 _ ?side1 ?side2 A4.out).mono ?_); (case side1 => exact kc_ HR0.out); (case side2 => exact HC0.out); rintro e w93 ⟨v505, rfl, ho0, hb⟩; refine ⟨_, rfl, ?_⟩; have HO506 := Aside0.mk (Kd.R_lower ho0 (below_size (hb0_ HB.out))); replace HB := HB.s0 hb; (try clear hb); (try clear ho0)) | ((with_reducible refine gate_dst (N := 3) rfl ?_); (try (refine gate_guard (by rfl) ?_; dsimp only)); refine box_event ?hg (N := 3) ?hd (cs := #[.int .i64 0, .int .i64 0]) (t := 25) ?hr ?_; (case hd => rfl); (case hg => rfl); (case hr => first | (go_simp; done) | (go_simp; rfl)); intro gb507 hg w94 hbox hb; replace HO506 := HO506.kb hb; have BK507 := Aside0.mk (hbox); have GW507 := HB.g0 hg; have GE507 := HB.g0 hg; replace HB := HB.s0 hb; clear hb hbox hg; obtain ⟨hcz95_0, hcz95_1⟩ := cz2_ BK507.out; obtain ⟨hfz95_0, hfz95_1⟩ := fz2_ BK507.out; obtain ⟨Ao96, co96, eo96⟩ := Kd.R_slice HO506.out; subst eo96) | (refine gl_ 20 Try.func6 #[.agg #[.int .i64 t502, .int .i64 t503], .slice Ao96 t504.length co96] ?_; (with_reducible refine (impl_FirstFailure.calls k t502 t503 _ _ t504 t508 t509 t510 t511 t512 true _ ?side1 ?side2 A5.out).mono ?_); (case side1 => refine (Kd.R_reads' (e := 3) (base := w.heap.size) (ok := fun k_ => True) (n := t504.length) (c := co96) ?_).2.2; exact (rq2_ HO506.out BK507.out)); (case side2 => exact (Kd.R_reads' HO506.out).2.1); rintro e w97 ⟨rfl, hb⟩; refine ⟨_, rfl, ?_⟩; replace HO506 := Aside0.mk (Kd.R_below (rq2_ HO506.out BK507.out) hb); replace BK507 := Aside0.mk (blk_below (bq2_ BK507.out) hb); replace HB := HB.s1 GE507 hb; (try clear hb)) | ((with_reducible refine gate_dst (N := 5) rfl ?_); (try (refine gate_guard (by rfl) ?_; dsimp only)); refine box_event ?hg (N := 5) ?hd (cs := #[.int .i64 0, .int .i64 0, .int .i64 0]) (t := 30) ?hr ?_; (case hd => rfl); (case hg => rfl); (case hr => first | (go_simp; done) | (go_simp; rfl)); intro gb514 hg w98 hbox hb; replace HO506 := HO506.kb hb; have BK514 := Aside0.mk (hbox); have GW514 := HB.g1 GE507 hg; have GE514 := HB.g1 GE507 hg; replace HB := HB.s1 GE507 hb; have NB507_514 := BK507.nl hg; have NB514_507 := BK507.nr hg; replace BK507 := BK507.bb hb; clear hb hbox hg) | ((with_reducible refine gate_dst (N := 6) rfl ?_); (try (refine gate_guard (by rfl) ?_; dsimp only)); refine box_event ?hg (N := 6) ?hd (cs := #[.int .i64 0, .int .i64 0]) (t := 32) ?hr ?_; (case hd => rfl); (case hg => rfl); (case hr => first | (go_simp; done) | (go_simp; rfl)); intro gb515 hg w99 hbox hb; replace HO506 := HO506.kb hb; have BK515 := Aside0.mk (hbox); have GW515 := HB.g2 GE507 GE514 hg; have GE515 := HB.g2 GE507 GE514 hg; replace HB := HB.s2 GE507 GE514 hb; have NB507_515 := BK507.nl hg; have NB515_507 := BK507.nr hg; replace BK507 := BK507.bb hb; have NB514_515 := BK514.nl hg; have NB515_514 := BK514.nr hg; replace BK514 := BK514.bb hb; clear hb hbox hg; have hnb100 := NB514_507.out; have hnc100 := NB507_514.out; have hnb101 := NB514_515.out; have hnc101 := NB515_514.out; obtain ⟨hcz102_0, hcz102_1, hcz102_2⟩ := cz3_ BK514.out; obtain ⟨hfz102_0, hfz102_1, hfz102_2⟩ := fz3_ BK514.out; have hnb103 := NB515_507.out; have hnc103 := NB507_515.out; obtain ⟨hcz104_0, hcz104_1⟩ := cz2_ BK515.out; obtain ⟨hfz104_0, hfz104_1⟩ := fz2_ BK515.out) | ((with_reducible refine gate_dst (N := 24) rfl ?_); (try (refine gate_guard (by rfl) ?_; dsimp only)); refine Kd.R_lit (Kd.int .i64) _ 3 ?hg (N := 24) ?hd (xs := ([] : List Int)) (inner := []) (ok := fun _ => True) (okp := fun _ => True) ?hr ?hp (fun _ hk => hk) trivial (Below.refl _ _) (Nat.le_refl _) (by simp) ?_; (case hd => rfl); (case hg => rfl); (case hr => first | (go_simp; done) | (go_simp; rfl)); (case hp => exact (Reps.none _ _)); intro v517 w105 ho106 hb hg_ hnew_; clear hg_ hnew_; (first | rw [← Ny516.out] at ho106 | (simp only [Int.reduceToNat] at ho106; rw [← Ny516.out] at ho106)); have n0_ := Aside0.mk (Kd.R_elder' (by (with_reducible repeat (first | apply Kd.R_alloc | apply Kd.R_drewN | apply Kd.R_drew)); exact (Kd.R_mono (Kd.R_mono (Kd.R_far (p := ⟨gb515, 1, none⟩) (Kd.R_far (p := ⟨gb515, 0, none⟩) (Kd.R_far (p := ⟨gb514, 2, none⟩) (Kd.R_far (p := ⟨gb514, 1, none⟩) (Kd.R_far (p := ⟨gb514, 0, none⟩) (Kd.R_types (Kd.R_types HO506.out BK514.out (by decide)) BK515.out (by decide)) (fun _ hk => hk.1.2) (.int .i64 t508)) (fun _ hk => hk.1.2) (.int .i64 t509)) (fun _ hk => hk.1.2) (.int .i64 t510)) (fun _ hk => hk.2) (.int .i64 t511)) (fun _ hk => hk.2) (.int .i64 t512)) (fun _ h_ => h_.1)) (fun _ h_ => h_.1))) (Kd.R_base ho106) hb); have n1_ := Aside0.mk (Kd.R_lower (Kd.R_new' ho106 (Kd.R_lt (by (with_reducible repeat (first | apply Kd.R_alloc | apply Kd.R_drewN | apply Kd.R_drew)); exact (Kd.R_mono (Kd.R_mono (Kd.R_far (p := ⟨gb515, 1, none⟩) (Kd.R_far (p := ⟨gb515, 0, none⟩) (Kd.R_far (p := ⟨gb514, 2, none⟩) (Kd.R_far (p := ⟨gb514, 1, none⟩) (Kd.R_far (p := ⟨gb514, 0, none⟩) (Kd.R_types (Kd.R_types HO506.out BK514.out (by decide)) BK515.out (by decide)) (fun _ hk => hk.1.2) (.int .i64 t508)) (fun _ hk => hk.1.2) (.int .i64 t509)) (fun _ hk => hk.1.2) (.int .i64 t510)) (fun _ hk => hk.2) (.int .i64 t511)) (fun _ hk => hk.2) (.int .i64 t512)) (fun _ h_ => h_.1)) (fun _ h_ => h_.1))))) (below_size (hb3_ HB.out GE507.out GE514.out GE515.out))); have n2_ := Aside0.mk (blk_below (g := gb507) (o := .cells #[.int .i64 t502, .int .i64 t503] 25 (0, 0)) (by (with_reducible repeat (first | refine blk_drewN ?_ _ | refine blk_drew ?_ | refine blk_alloc ?_ _)); refine blk_far ?_ NB507_515.out _; (with_reducible repeat (first | refine blk_drewN ?_ _ | refine blk_drew ?_ | refine blk_alloc ?_ _)); refine blk_far ?_ NB507_515.out _; (with_reducible repeat (first | refine blk_drewN ?_ _ | refine blk_drew ?_ | refine blk_alloc ?_ _)); refine blk_far ?_ NB507_514.out _; (with_reducible repeat (first | refine blk_drewN ?_ _ | refine blk_drew ?_ | refine blk_alloc ?_ _)); refine blk_far ?_ NB507_514.out _; (with_reducible repeat (first | refine blk_drewN ?_ _ | refine blk_drew ?_ | refine blk_alloc ?_ _)); refine blk_far ?_ NB507_514.out _; (with_reducible repeat (first | refine blk_drewN ?_ _ | refine blk_drew ?_ | refine blk_alloc ?_ _)); exact BK507.out) hb); have n3_ := Aside0.mk (blk_below (g := gb514) (o := .cells #[.int .i64 t508, .int .i64 t509, .int .i64 t510] 30 (0, 0)) (by (with_reducible repeat (first | refine blk_drewN ?_ _ | refine blk_drew ?_ | refine blk_alloc ?_ _)); refine blk_far ?_ NB514_515.out _; (with_reducible repeat (first | refine blk_drewN ?_ _ | refine blk_drew ?_ | refine blk_alloc ?_ _)); refine blk_far ?_ NB514_515.out _; (with_reducible repeat (first | refine blk_drewN ?_ _ | refine blk_drew ?_ | refine blk_alloc ?_ _)); refine blk_put (cs := #[.int .i64 t508, .int .i64 t509, .int .i64 0]) ?_ 2 _ rfl; (with_reducible repeat (first | refine blk_drewN ?_ _ | refine blk_drew ?_ | refine blk_alloc ?_ _)); refine blk_put (cs := #[.int .i64 t508, .int .i64 0, .int .i64 0]) ?_ 1 _ rfl; (with_reducible repeat (first | refine blk_drewN ?_ _ | refine blk_drew ?_ | refine blk_alloc ?_ _)); refine blk_put (cs := #[.int .i64 0, .int .i64 0, .int .i64 0]) ?_ 0 _ rfl; (with_reducible repeat (first | refine blk_drewN ?_ _ | refine blk_drew ?_ | refine blk_alloc ?_ _)); exact BK514.out) hb); have n4_ := Aside0.mk (blk_below (g := gb515) (o := .cells #[.int .i64 t511, .int .i64 t512] 32 (0, 0)) (by (with_reducible repeat (first | refine blk_drewN ?_ _ | refine blk_drew ?_ | refine blk_alloc ?_ _)); refine blk_put (cs := #[.int .i64 t511, .int .i64 0]) ?_ 1 _ rfl; (with_reducible repeat (first | refine blk_drewN ?_ _ | refine blk_drew ?_ | refine blk_alloc ?_ _)); refine blk_put (cs := #[.int .i64 0, .int .i64 0]) ?_ 0 _ rfl; (with_reducible repeat (first | refine blk_drewN ?_ _ | refine blk_drew ?_ | refine blk_alloc ?_ _)); refine blk_far ?_ NB515_514.out _; (with_reducible repeat (first | refine blk_drewN ?_ _ | refine blk_drew ?_ | refine blk_alloc ?_ _)); refine blk_far ?_ NB515_514.out _; (with_reducible repeat (first | refine blk_drewN ?_ _ | refine blk_drew ?_ | refine blk_alloc ?_ _)); refine blk_far ?_ NB515_514.out _; (with_reducible repeat (first | refine blk_drewN ?_ _ | refine blk_drew ?_ | refine blk_alloc ?_ _)); exact BK515.out) hb); have n5_ := HB.s3 GE507 GE514 GE515 hb; clear HO506; clear BK507; clear BK514; clear BK515; clear HB; have HO506 := n0_; have HO518 := n1_; have BK507 := n2_; have BK514 := n3_; have BK515 := n4_; have HB := n5_; clear n0_ n1_ n2_ n3_ n4_ n5_; clear hb ho106) | ((with_reducible refine gate_builtin (b := .append) (xs := #[.tmp 24, .tmp 25]) rfl ?_); (try (refine gate_guard (by rfl) ?_; dsimp only)); at_builtin; refine Kd.R_append_rows (Kd.int .i64) (w0 := w) w.heap.size rfl (.tmp 24) (.tmp 25) 26 3 (.int .i64 0) 8 rfl Try.underlying26 info3 rfl (by decide) (by omega) v517 y516 t504 _ _ _ (fun k_ => some k_ ≠ (.slice Ao96 t504.length co96 : Value).ownBlock) (fun _ => False) rfl rfl ?aO ?aR (fun _ _ h => h) (fun _ h => h.elim) ?aF ?aB ?aS ?aL ?_; (case aR => repeat (first | exact (Kd.R_reads' HO506.out).2.2 | (with_reducible refine Kd.C_alloc ?_ _) | (with_reducible refine Kd.C_drewN ?_ _) | (with_reducible refine Kd.C_drew ?_))); (case aB => exact (hb3_ HB.out GE507.out GE514.out GE515.out)); (case aF => exact (fun k_ hk => Kd.fresh' (Kd.R_lt (kr_ HO506.out)) k_ hk)); (case aO => exact (by (with_reducible repeat (first | apply Kd.R_alloc | apply Kd.R_drewN | apply Kd.R_drew)); exact Kd.R_mono HO518.out (fun _ hk => hk.2))); (case aS => exact (below_size (hb3_ HB.out GE507.out GE514.out GE515.out))); (case aL => have := LMc6.out; omega); intro v520 w107 ho hb hg hat; rw [← Ny519.out] at ho; replace HO506 := Aside0.mk (Kd.R_after (ok := (fun _ => True)) (by first | exact (kr_ HO506.out) | exact Kd.R_mono HO506.out (fun _ hk => ⟨trivial, hk⟩)) hg hat); replace BK507 := Aside0.mk (blk_grown (g := gb507) (o := .cells #[.int .i64 t502, .int .i64 t503] 25 (0, 0)) (bk_ BK507.out) hg (Kd.R_ne HO518.out BK507.out (by decide))); replace BK514 := Aside0.mk (blk_grown (g := gb514) (o := .cells #[.int .i64 t508, .int .i64 t509, .int .i64 t510] 30 (0, 0)) (bk_ BK514.out) hg (Kd.R_ne HO518.out BK514.out (by decide))); replace BK515 := Aside0.mk (blk_grown (g := gb515) (o := .cells #[.int .i64 t511, .int .i64 t512] 32 (0, 0)) (bk_ BK515.out) hg (Kd.R_ne HO518.out BK515.out (by decide))); replace HB := Aside0.mk (hb); have HO521 := Aside0.mk (ho); clear HO518; clear ho hb hg hat) | (refine gl_ 28 Try.func7 #[.slice A0 l0.length c0, .int .i64 0] ?_; (with_reducible refine (laws_at.calls _ _ l0 0 t522 _ ?side1 ?side2 A7.out).mono ?_); (case side1 => repeat (first | exact (Kd.C_below HR0.out HB.out) | (with_reducible refine Kd.C_alloc ?_ _) | (with_reducible refine Kd.C_drewN ?_ _) | (with_reducible refine Kd.C_drew ?_))); (case side2 => exact HC0.out); rintro e w' ⟨rfl, ⟨nd, rfl⟩⟩; refine ⟨_, rfl, ?_⟩) | ((with_reducible refine gate_builtin (b := .append) (xs := #[.tmp 26, .tmp 30]) rfl ?_); (try (refine gate_guard (by rfl) ?_; dsimp only)); at_builtin; refine Kd.R_append (Kd.int .i64) (w0 := w) w.heap.size rfl (.tmp 26) (.tmp 30) 26 3 (.int .i64 0) 8 rfl Try.underlying26 info3 rfl (by decide) (by omega) v520 y519 (Int.tmod t522 4) [.int .i64 (Int.tmod t522 4)] (fun k_ => some k_ ≠ (.slice Ao96 t504.length co96 : Value).ownBlock) (fun _ => False) rfl rfl ?aP (fun _ hk => hk.elim) ?aF ?aO ?aB ?aS ?aL ?_; (case aP => exact rfl); (case aB => exact (hb3_ HB.out GE507.out GE514.out GE515.out)); (case aF => exact (fun k_ hk => Kd.fresh' (Kd.R_lt (kr_ HO506.out)) k_ hk)); (case aO => exact (kr_ HO521.out)); (case aS => exact (below_size (hb3_ HB.out GE507.out GE514.out GE515.out))); (case aL => have := LMc8.out; omega); intro v524 w108 ho hb hg hat; rw [← Ny523.out] at ho; replace HO506 := Aside0.mk (Kd.R_after (ok := (fun _ => True)) (by first | exact (kr_ HO506.out) | exact Kd.R_mono HO506.out (fun _ hk => ⟨trivial, hk⟩)) hg hat); replace BK507 := Aside0.mk (blk_grown (g := gb507) (o := .cells #[.int .i64 t502, .int .i64 t503] 25 (0, 0)) (bk_ BK507.out) hg (Kd.R_ne HO521.out BK507.out (by decide))); replace BK514 := Aside0.mk (blk_grown (g := gb514) (o := .cells #[.int .i64 t508, .int .i64 t509, .int .i64 t510] 30 (0, 0)) (bk_ BK514.out) hg (Kd.R_ne HO521.out BK514.out (by decide))); replace BK515 := Aside0.mk (blk_grown (g := gb515) (o := .cells #[.int .i64 t511, .int .i64 t512] 32 (0, 0)) (bk_ BK515.out) hg (Kd.R_ne HO521.out BK515.out (by decide))); replace HB := Aside0.mk (hb); have HO525 := Aside0.mk (ho); clear HO521; clear ho hb hg hat; obtain ⟨hcz109_0, hcz109_1⟩ := cz2_ BK507.out; obtain ⟨hfz109_0, hfz109_1⟩ := fz2_ BK507.out) | (refine gl_ 35 Try.func8 #[.agg #[.int .i64 t502, .int .i64 t503], .slice Ao96 t504.length co96] ?_; (with_reducible refine (impl_IsUniversal.calls k t502 t503 _ _ t504 false _ ?side1 ?side2 A10.out).mono ?_); (case side1 => repeat (first | exact (Kd.R_reads' HO506.out).2.2 | (with_reducible refine Kd.C_alloc ?_ _) | (with_reducible refine Kd.C_drewN ?_ _) | (with_reducible refine Kd.C_drew ?_))); (case side2 => exact (Kd.R_reads' HO506.out).2.1); rintro e w110 ⟨rfl, hb⟩; refine ⟨_, rfl, ?_⟩; replace HO506 := HO506.kb hb; replace HO525 := HO525.kb hb; replace BK507 := BK507.bb hb; replace BK514 := BK514.bb hb; replace BK515 := BK515.bb hb; replace HB := HB.s3 GE507 GE514 GE515 hb; (try clear hb); obtain ⟨hcz111_0, hcz111_1, hcz111_2⟩ := cz3_ BK514.out; obtain ⟨hfz111_0, hfz111_1, hfz111_2⟩ := fz3_ BK514.out) | fail) | (go_at_call 9; (with_reducible refine (impl_IsPerfect.calls k t508 t509 t510 true _ A30.out).mono ?_); rintro e w112 ⟨rfl, hb⟩; replace HO506 := HO506.kb hb; replace HO525 := HO525.kb hb; replace BK507 := BK507.bb hb; replace BK514 := BK514.bb hb; replace BK515 := BK515.bb hb; replace HB := HB.s3 GE507 GE514 GE515 hb; (try clear hb); obtain ⟨hcz113_0, hcz113_1, hcz113_2⟩ := cz3_ BK514.out; obtain ⟨hfz113_0, hfz113_1, hfz113_2⟩ := fz3_ BK514.out; obtain ⟨hcz114_0, hcz114_1⟩ := cz2_ BK515.out; obtain ⟨hfz114_0, hfz114_1⟩ := fz2_ BK515.out) | (go_at_call 10; (with_reducible refine (impl_WalkerOk.calls t508 t509 t510 t511 t512 false _ A32.out).mono ?_); rintro e w115 ⟨rfl, hb⟩; replace HO506 := HO506.kb hb; replace HO525 := HO525.kb hb; replace BK507 := BK507.bb hb; replace BK514 := BK514.bb hb; replace BK515 := BK515.bb hb; replace HB := HB.s3 GE507 GE514 GE515 hb; (try clear hb)) | fail)
        go_ret
        exact ⟨ex_, hb3_ HB.out GE507.out GE514.out GE515.out⟩
      ·replace c31 := Bool.eq_false_iff.mpr c31
       subst c31
       have H1 : (some false) = some r := by rw [if_neg (show ¬ (false = true) by decide)] at H; exact H
       clear H
       have H := H1
       clear H1
       obtain rfl := Option.some.inj H
       go_enter Try.func3, Try.ntmps3
       go_wp2_with (first | ((with_reducible refine gw_ ?_); first | ((with_reducible refine gate_dst (N := 42) rfl ?_); (with_reducible refine wpList_skip ?_ ?_); rfl; go_frame; (with_reducible refine wpList_skip ?_ ?_); rfl; go_frame; (with_reducible refine wpList_skip ?_ ?_); rfl; go_frame; (with_reducible refine evs_ (v := .bool false) rfl ?_ ?_); rfl; go_frame; (with_reducible refine evs_ (v := .bool false) rfl ?_ ?_); rfl; go_frame; (with_reducible refine wpList_skip ?_ ?_); rfl; go_frame; (with_reducible refine wpList_skip ?_ ?_); rfl; go_frame; (with_reducible refine wpList_skip ?_ ?_); rfl; go_frame; (with_reducible refine wpList_skip ?_ ?_); rfl; go_frame; (with_reducible refine wpList_skip ?_ ?_); rfl; go_frame; (with_reducible refine evs_ (v := .bool false) rfl ?_ ?_); rfl; go_frame; (with_reducible refine evs_ (v := .bool false) rfl ?_ ?_); rfl; go_frame; (with_reducible refine wpList_skip ?_ ?_); rfl; go_frame; (with_reducible refine wpList_skip ?_ ?_); rfl; go_frame; (with_reducible refine wpList_skip ?_ ?_); rfl; go_frame; (with_reducible refine wpList_skip ?_ ?_); rfl; go_frame; (with_reducible refine wpList_skip ?_ ?_); rfl; go_frame; (with_reducible refine wpList_skip ?_ ?_); rfl; go_frame; (with_reducible refine wpList_skip ?_ ?_); rfl; go_frame; (with_reducible refine wpList_skip ?_ ?_); rfl; go_frame; (with_reducible refine wpList_skip ?_ ?_); rfl; go_frame; (with_reducible refine evs_ (v := .bool false) rfl ?_ ?_); rfl; go_frame; (with_reducible refine evs_ (v := .bool false) rfl ?_ ?_); rfl; go_frame) | (refine gl_ 11 Try.func4 #[.slice A0 l0.length c0] ?_; (with_reducible refine (laws_big.calls _ _ l0 false _ ?side1 ?side2 A2.out).mono ?_); (case side1 => exact kc_ HR0.out); (case side2 => exact HC0.out); rintro e w' ⟨rfl, ⟨nd, rfl⟩⟩; refine ⟨_, rfl, ?_⟩) | (refine gl_ 14 Try.func5 #[.slice A0 l0.length c0] ?_; (with_reducible refine (spec_DrawTurns.calls k _ _ l0 t502 t503 t504 _ ?side1 ?side2 A4.out).mono ?_); (case side1 => exact kc_ HR0.out); (case side2 => exact HC0.out); rintro e w116 ⟨v505, rfl, ho0, hb⟩; refine ⟨_, rfl, ?_⟩; have HO506 := Aside0.mk (Kd.R_lower ho0 (below_size (hb0_ HB.out))); replace HB := HB.s0 hb; (try clear hb); (try clear ho0)) | ((with_reducible refine gate_dst (N := 3) rfl ?_); (try (refine gate_guard (by rfl) ?_; dsimp only)); refine box_event ?hg (N := 3) ?hd (cs := #[.int .i64 0, .int .i64 0]) (t := 25) ?hr ?_; (case hd => rfl); (case hg => rfl); (case hr => first | (go_simp; done) | (go_simp; rfl)); intro gb507 hg w117 hbox hb; replace HO506 := HO506.kb hb; have BK507 := Aside0.mk (hbox); have GW507 := HB.g0 hg; have GE507 := HB.g0 hg; replace HB := HB.s0 hb; clear hb hbox hg; obtain ⟨hcz118_0, hcz118_1⟩ := cz2_ BK507.out; obtain ⟨hfz118_0, hfz118_1⟩ := fz2_ BK507.out; obtain ⟨Ao119, co119, eo119⟩ := Kd.R_slice HO506.out; subst eo119) | (refine gl_ 20 Try.func6 #[.agg #[.int .i64 t502, .int .i64 t503], .slice Ao119 t504.length co119] ?_; (with_reducible refine (impl_FirstFailure.calls k t502 t503 _ _ t504 t508 t509 t510 t511 t512 true _ ?side1 ?side2 A5.out).mono ?_); (case side1 => refine (Kd.R_reads' (e := 3) (base := w.heap.size) (ok := fun k_ => True) (n := t504.length) (c := co119) ?_).2.2; exact (rq2_ HO506.out BK507.out)); (case side2 => exact (Kd.R_reads' HO506.out).2.1); rintro e w120 ⟨rfl, hb⟩; refine ⟨_, rfl, ?_⟩; replace HO506 := Aside0.mk (Kd.R_below (rq2_ HO506.out BK507.out) hb); replace BK507 := Aside0.mk (blk_below (bq2_ BK507.out) hb); replace HB := HB.s1 GE507 hb; (try clear hb)) | ((with_reducible refine gate_dst (N := 5) rfl ?_); (try (refine gate_guard (by rfl) ?_; dsimp only)); refine box_event ?hg (N := 5) ?hd (cs := #[.int .i64 0, .int .i64 0, .int .i64 0]) (t := 30) ?hr ?_; (case hd => rfl); (case hg => rfl); (case hr => first | (go_simp; done) | (go_simp; rfl)); intro gb514 hg w121 hbox hb; replace HO506 := HO506.kb hb; have BK514 := Aside0.mk (hbox); have GW514 := HB.g1 GE507 hg; have GE514 := HB.g1 GE507 hg; replace HB := HB.s1 GE507 hb; have NB507_514 := BK507.nl hg; have NB514_507 := BK507.nr hg; replace BK507 := BK507.bb hb; clear hb hbox hg) | ((with_reducible refine gate_dst (N := 6) rfl ?_); (try (refine gate_guard (by rfl) ?_; dsimp only)); refine box_event ?hg (N := 6) ?hd (cs := #[.int .i64 0, .int .i64 0]) (t := 32) ?hr ?_; (case hd => rfl); (case hg => rfl); (case hr => first | (go_simp; done) | (go_simp; rfl)); intro gb515 hg w122 hbox hb; replace HO506 := HO506.kb hb; have BK515 := Aside0.mk (hbox); have GW515 := HB.g2 GE507 GE514 hg; have GE515 := HB.g2 GE507 GE514 hg; replace HB := HB.s2 GE507 GE514 hb; have NB507_515 := BK507.nl hg; have NB515_507 := BK507.nr hg; replace BK507 := BK507.bb hb; have NB514_515 := BK514.nl hg; have NB515_514 := BK514.nr hg; replace BK514 := BK514.bb hb; clear hb hbox hg; have hnb123 := NB514_507.out; have hnc123 := NB507_514.out; have hnb124 := NB514_515.out; have hnc124 := NB515_514.out; obtain ⟨hcz125_0, hcz125_1, hcz125_2⟩ := cz3_ BK514.out; obtain ⟨hfz125_0, hfz125_1, hfz125_2⟩ := fz3_ BK514.out; have hnb126 := NB515_507.out; have hnc126 := NB507_515.out; obtain ⟨hcz127_0, hcz127_1⟩ := cz2_ BK515.out; obtain ⟨hfz127_0, hfz127_1⟩ := fz2_ BK515.out) | ((with_reducible refine gate_dst (N := 24) rfl ?_); (try (refine gate_guard (by rfl) ?_; dsimp only)); refine Kd.R_lit (Kd.int .i64) _ 3 ?hg (N := 24) ?hd (xs := ([] : List Int)) (inner := []) (ok := fun _ => True) (okp := fun _ => True) ?hr ?hp (fun _ hk => hk) trivial (Below.refl _ _) (Nat.le_refl _) (by simp) ?_; (case hd => rfl); (case hg => rfl); (case hr => first | (go_simp; done) | (go_simp; rfl)); (case hp => exact (Reps.none _ _)); intro v517 w128 ho129 hb hg_ hnew_; clear hg_ hnew_; (first | rw [← Ny516.out] at ho129 | (simp only [Int.reduceToNat] at ho129; rw [← Ny516.out] at ho129)); have n0_ := Aside0.mk (Kd.R_elder' (by (with_reducible repeat (first | apply Kd.R_alloc | apply Kd.R_drewN | apply Kd.R_drew)); exact (Kd.R_mono (Kd.R_mono (Kd.R_far (p := ⟨gb515, 1, none⟩) (Kd.R_far (p := ⟨gb515, 0, none⟩) (Kd.R_far (p := ⟨gb514, 2, none⟩) (Kd.R_far (p := ⟨gb514, 1, none⟩) (Kd.R_far (p := ⟨gb514, 0, none⟩) (Kd.R_types (Kd.R_types HO506.out BK514.out (by decide)) BK515.out (by decide)) (fun _ hk => hk.1.2) (.int .i64 t508)) (fun _ hk => hk.1.2) (.int .i64 t509)) (fun _ hk => hk.1.2) (.int .i64 t510)) (fun _ hk => hk.2) (.int .i64 t511)) (fun _ hk => hk.2) (.int .i64 t512)) (fun _ h_ => h_.1)) (fun _ h_ => h_.1))) (Kd.R_base ho129) hb); have n1_ := Aside0.mk (Kd.R_lower (Kd.R_new' ho129 (Kd.R_lt (by (with_reducible repeat (first | apply Kd.R_alloc | apply Kd.R_drewN | apply Kd.R_drew)); exact (Kd.R_mono (Kd.R_mono (Kd.R_far (p := ⟨gb515, 1, none⟩) (Kd.R_far (p := ⟨gb515, 0, none⟩) (Kd.R_far (p := ⟨gb514, 2, none⟩) (Kd.R_far (p := ⟨gb514, 1, none⟩) (Kd.R_far (p := ⟨gb514, 0, none⟩) (Kd.R_types (Kd.R_types HO506.out BK514.out (by decide)) BK515.out (by decide)) (fun _ hk => hk.1.2) (.int .i64 t508)) (fun _ hk => hk.1.2) (.int .i64 t509)) (fun _ hk => hk.1.2) (.int .i64 t510)) (fun _ hk => hk.2) (.int .i64 t511)) (fun _ hk => hk.2) (.int .i64 t512)) (fun _ h_ => h_.1)) (fun _ h_ => h_.1))))) (below_size (hb3_ HB.out GE507.out GE514.out GE515.out))); have n2_ := Aside0.mk (blk_below (g := gb507) (o := .cells #[.int .i64 t502, .int .i64 t503] 25 (0, 0)) (by (with_reducible repeat (first | refine blk_drewN ?_ _ | refine blk_drew ?_ | refine blk_alloc ?_ _)); refine blk_far ?_ NB507_515.out _; (with_reducible repeat (first | refine blk_drewN ?_ _ | refine blk_drew ?_ | refine blk_alloc ?_ _)); refine blk_far ?_ NB507_515.out _; (with_reducible repeat (first | refine blk_drewN ?_ _ | refine blk_drew ?_ | refine blk_alloc ?_ _)); refine blk_far ?_ NB507_514.out _; (with_reducible repeat (first | refine blk_drewN ?_ _ | refine blk_drew ?_ | refine blk_alloc ?_ _)); refine blk_far ?_ NB507_514.out _; (with_reducible repeat (first | refine blk_drewN ?_ _ | refine blk_drew ?_ | refine blk_alloc ?_ _)); refine blk_far ?_ NB507_514.out _; (with_reducible repeat (first | refine blk_drewN ?_ _ | refine blk_drew ?_ | refine blk_alloc ?_ _)); exact BK507.out) hb); have n3_ := Aside0.mk (blk_below (g := gb514) (o := .cells #[.int .i64 t508, .int .i64 t509, .int .i64 t510] 30 (0, 0)) (by (with_reducible repeat (first | refine blk_drewN ?_ _ | refine blk_drew ?_ | refine blk_alloc ?_ _)); refine blk_far ?_ NB514_515.out _; (with_reducible repeat (first | refine blk_drewN ?_ _ | refine blk_drew ?_ | refine blk_alloc ?_ _)); refine blk_far ?_ NB514_515.out _; (with_reducible repeat (first | refine blk_drewN ?_ _ | refine blk_drew ?_ | refine blk_alloc ?_ _)); refine blk_put (cs := #[.int .i64 t508, .int .i64 t509, .int .i64 0]) ?_ 2 _ rfl; (with_reducible repeat (first | refine blk_drewN ?_ _ | refine blk_drew ?_ | refine blk_alloc ?_ _)); refine blk_put (cs := #[.int .i64 t508, .int .i64 0, .int .i64 0]) ?_ 1 _ rfl; (with_reducible repeat (first | refine blk_drewN ?_ _ | refine blk_drew ?_ | refine blk_alloc ?_ _)); refine blk_put (cs := #[.int .i64 0, .int .i64 0, .int .i64 0]) ?_ 0 _ rfl; (with_reducible repeat (first | refine blk_drewN ?_ _ | refine blk_drew ?_ | refine blk_alloc ?_ _)); exact BK514.out) hb); have n4_ := Aside0.mk (blk_below (g := gb515) (o := .cells #[.int .i64 t511, .int .i64 t512] 32 (0, 0)) (by (with_reducible repeat (first | refine blk_drewN ?_ _ | refine blk_drew ?_ | refine blk_alloc ?_ _)); refine blk_put (cs := #[.int .i64 t511, .int .i64 0]) ?_ 1 _ rfl; (with_reducible repeat (first | refine blk_drewN ?_ _ | refine blk_drew ?_ | refine blk_alloc ?_ _)); refine blk_put (cs := #[.int .i64 0, .int .i64 0]) ?_ 0 _ rfl; (with_reducible repeat (first | refine blk_drewN ?_ _ | refine blk_drew ?_ | refine blk_alloc ?_ _)); refine blk_far ?_ NB515_514.out _; (with_reducible repeat (first | refine blk_drewN ?_ _ | refine blk_drew ?_ | refine blk_alloc ?_ _)); refine blk_far ?_ NB515_514.out _; (with_reducible repeat (first | refine blk_drewN ?_ _ | refine blk_drew ?_ | refine blk_alloc ?_ _)); refine blk_far ?_ NB515_514.out _; (with_reducible repeat (first | refine blk_drewN ?_ _ | refine blk_drew ?_ | refine blk_alloc ?_ _)); exact BK515.out) hb); have n5_ := HB.s3 GE507 GE514 GE515 hb; clear HO506; clear BK507; clear BK514; clear BK515; clear HB; have HO506 := n0_; have HO518 := n1_; have BK507 := n2_; have BK514 := n3_; have BK515 := n4_; have HB := n5_; clear n0_ n1_ n2_ n3_ n4_ n5_; clear hb ho129) | ((with_reducible refine gate_builtin (b := .append) (xs := #[.tmp 24, .tmp 25]) rfl ?_); (try (refine gate_guard (by rfl) ?_; dsimp only)); at_builtin; refine Kd.R_append_rows (Kd.int .i64) (w0 := w) w.heap.size rfl (.tmp 24) (.tmp 25) 26 3 (.int .i64 0) 8 rfl Try.underlying26 info3 rfl (by decide) (by omega) v517 y516 t504 _ _ _ (fun k_ => some k_ ≠ (.slice Ao119 t504.length co119 : Value).ownBlock) (fun _ => False) rfl rfl ?aO ?aR (fun _ _ h => h) (fun _ h => h.elim) ?aF ?aB ?aS ?aL ?_; (case aR => repeat (first | exact (Kd.R_reads' HO506.out).2.2 | (with_reducible refine Kd.C_alloc ?_ _) | (with_reducible refine Kd.C_drewN ?_ _) | (with_reducible refine Kd.C_drew ?_))); (case aB => exact (hb3_ HB.out GE507.out GE514.out GE515.out)); (case aF => exact (fun k_ hk => Kd.fresh' (Kd.R_lt (kr_ HO506.out)) k_ hk)); (case aO => exact (by (with_reducible repeat (first | apply Kd.R_alloc | apply Kd.R_drewN | apply Kd.R_drew)); exact Kd.R_mono HO518.out (fun _ hk => hk.2))); (case aS => exact (below_size (hb3_ HB.out GE507.out GE514.out GE515.out))); (case aL => have := LMc6.out; omega); intro v520 w130 ho hb hg hat; rw [← Ny519.out] at ho; replace HO506 := Aside0.mk (Kd.R_after (ok := (fun _ => True)) (by first | exact (kr_ HO506.out) | exact Kd.R_mono HO506.out (fun _ hk => ⟨trivial, hk⟩)) hg hat); replace BK507 := Aside0.mk (blk_grown (g := gb507) (o := .cells #[.int .i64 t502, .int .i64 t503] 25 (0, 0)) (bk_ BK507.out) hg (Kd.R_ne HO518.out BK507.out (by decide))); replace BK514 := Aside0.mk (blk_grown (g := gb514) (o := .cells #[.int .i64 t508, .int .i64 t509, .int .i64 t510] 30 (0, 0)) (bk_ BK514.out) hg (Kd.R_ne HO518.out BK514.out (by decide))); replace BK515 := Aside0.mk (blk_grown (g := gb515) (o := .cells #[.int .i64 t511, .int .i64 t512] 32 (0, 0)) (bk_ BK515.out) hg (Kd.R_ne HO518.out BK515.out (by decide))); replace HB := Aside0.mk (hb); have HO521 := Aside0.mk (ho); clear HO518; clear ho hb hg hat) | (refine gl_ 28 Try.func7 #[.slice A0 l0.length c0, .int .i64 0] ?_; (with_reducible refine (laws_at.calls _ _ l0 0 t522 _ ?side1 ?side2 A7.out).mono ?_); (case side1 => repeat (first | exact (Kd.C_below HR0.out HB.out) | (with_reducible refine Kd.C_alloc ?_ _) | (with_reducible refine Kd.C_drewN ?_ _) | (with_reducible refine Kd.C_drew ?_))); (case side2 => exact HC0.out); rintro e w' ⟨rfl, ⟨nd, rfl⟩⟩; refine ⟨_, rfl, ?_⟩) | ((with_reducible refine gate_builtin (b := .append) (xs := #[.tmp 26, .tmp 30]) rfl ?_); (try (refine gate_guard (by rfl) ?_; dsimp only)); at_builtin; refine Kd.R_append (Kd.int .i64) (w0 := w) w.heap.size rfl (.tmp 26) (.tmp 30) 26 3 (.int .i64 0) 8 rfl Try.underlying26 info3 rfl (by decide) (by omega) v520 y519 (Int.tmod t522 4) [.int .i64 (Int.tmod t522 4)] (fun k_ => some k_ ≠ (.slice Ao119 t504.length co119 : Value).ownBlock) (fun _ => False) rfl rfl ?aP (fun _ hk => hk.elim) ?aF ?aO ?aB ?aS ?aL ?_; (case aP => exact rfl); (case aB => exact (hb3_ HB.out GE507.out GE514.out GE515.out)); (case aF => exact (fun k_ hk => Kd.fresh' (Kd.R_lt (kr_ HO506.out)) k_ hk)); (case aO => exact (kr_ HO521.out)); (case aS => exact (below_size (hb3_ HB.out GE507.out GE514.out GE515.out))); (case aL => have := LMc8.out; omega); intro v524 w131 ho hb hg hat; rw [← Ny523.out] at ho; replace HO506 := Aside0.mk (Kd.R_after (ok := (fun _ => True)) (by first | exact (kr_ HO506.out) | exact Kd.R_mono HO506.out (fun _ hk => ⟨trivial, hk⟩)) hg hat); replace BK507 := Aside0.mk (blk_grown (g := gb507) (o := .cells #[.int .i64 t502, .int .i64 t503] 25 (0, 0)) (bk_ BK507.out) hg (Kd.R_ne HO521.out BK507.out (by decide))); replace BK514 := Aside0.mk (blk_grown (g := gb514) (o := .cells #[.int .i64 t508, .int .i64 t509, .int .i64 t510] 30 (0, 0)) (bk_ BK514.out) hg (Kd.R_ne HO521.out BK514.out (by decide))); replace BK515 := Aside0.mk (blk_grown (g := gb515) (o := .cells #[.int .i64 t511, .int .i64 t512] 32 (0, 0)) (bk_ BK515.out) hg (Kd.R_ne HO521.out BK515.out (by decide))); replace HB := Aside0.mk (hb); have HO525 := Aside0.mk (ho); clear HO521; clear ho hb hg hat; obtain ⟨hcz132_0, hcz132_1⟩ := cz2_ BK507.out; obtain ⟨hfz132_0, hfz132_1⟩ := fz2_ BK507.out) | (refine gl_ 35 Try.func8 #[.agg #[.int .i64 t502, .int .i64 t503], .slice Ao119 t504.length co119] ?_; (with_reducible refine (impl_IsUniversal.calls k t502 t503 _ _ t504 false _ ?side1 ?side2 A10.out).mono ?_); (case side1 => repeat (first | exact (Kd.R_reads' HO506.out).2.2 | (with_reducible refine Kd.C_alloc ?_ _) | (with_reducible refine Kd.C_drewN ?_ _) | (with_reducible refine Kd.C_drew ?_))); (case side2 => exact (Kd.R_reads' HO506.out).2.1); rintro e w133 ⟨rfl, hb⟩; refine ⟨_, rfl, ?_⟩; replace HO506 := HO506.kb hb; replace HO525 := HO525.kb hb; replace BK507 := BK507.bb hb; replace BK514 := BK514.bb hb; replace BK515 := BK515.bb hb; replace HB := HB.s3 GE507 GE514 GE515 hb; (try clear hb); obtain ⟨hcz134_0, hcz134_1, hcz134_2⟩ := cz3_ BK514.out; obtain ⟨hfz134_0, hfz134_1, hfz134_2⟩ := fz3_ BK514.out) | fail) | (go_at_call 9; (with_reducible refine (impl_IsPerfect.calls k t508 t509 t510 false _ A30.out).mono ?_); rintro e w135 ⟨rfl, hb⟩; replace HO506 := HO506.kb hb; replace HO525 := HO525.kb hb; replace BK507 := BK507.bb hb; replace BK514 := BK514.bb hb; replace BK515 := BK515.bb hb; replace HB := HB.s3 GE507 GE514 GE515 hb; (try clear hb)) | fail)
       go_ret
       exact ⟨ex_, hb3_ HB.out GE507.out GE514.out GE515.out⟩
    ·replace c9 := Bool.eq_false_iff.mpr c9
     subst c9
     have H1 : ((laws_at.f l0 1).bind fun t533 => ((spec_CountCells.f t502 t503).bind fun t534 => (if t534 = 0 then (none) else ((laws_at.f l0 2).bind fun t535 => ((impl_IsUniversal.f k t502 t503 t504).bind fun t537 => (if t537 = true then ((impl_IsUniversal.f k t502 t503 y523).bind fun t538 => (if t538 = true then ((impl_GrowMaze.f k t502 t503 t504).bind fun bt539 => ((impl_CoversAll.f k bt539.1 bt539.2.1 bt539.2.2 (Int.tmod t533 t534) (Int.tmod t535 4) t504).bind fun t542 => (some t542))) else (some false))) else (some false))))))) = some r := by rw [if_neg (show ¬ (false = true) by decide)] at H; exact H
     clear H
     have H := H1
     clear H1
     replace H := Option.bind_eq_some_iff.mp H
     obtain ⟨t533, A1360, H⟩ := H
     replace H : ((spec_CountCells.f t502 t503).bind fun t534 => (if t534 = 0 then (none) else ((laws_at.f l0 2).bind fun t535 => ((impl_IsUniversal.f k t502 t503 t504).bind fun t537 => (if t537 = true then ((impl_IsUniversal.f k t502 t503 y523).bind fun t538 => (if t538 = true then ((impl_GrowMaze.f k t502 t503 t504).bind fun bt539 => ((impl_CoversAll.f k bt539.1 bt539.2.1 bt539.2.2 (Int.tmod t533 t534) (Int.tmod t535 4) t504).bind fun t542 => (some t542))) else (some false))) else (some false)))))) = some r := H
     have A136 := Aside0.mk A1360
     clear A1360
     replace H := Option.bind_eq_some_iff.mp H
     obtain ⟨t534, A1370, H⟩ := H
     replace H : (if t534 = 0 then (none) else ((laws_at.f l0 2).bind fun t535 => ((impl_IsUniversal.f k t502 t503 t504).bind fun t537 => (if t537 = true then ((impl_IsUniversal.f k t502 t503 y523).bind fun t538 => (if t538 = true then ((impl_GrowMaze.f k t502 t503 t504).bind fun bt539 => ((impl_CoversAll.f k bt539.1 bt539.2.1 bt539.2.2 (Int.tmod t533 t534) (Int.tmod t535 4) t504).bind fun t542 => (some t542))) else (some false))) else (some false))))) = some r := H
     have A137 := Aside0.mk A1370
     clear A1370
     by_cases c138 : t534 = 0
     ·rw [if_pos c138] at H
      exact absurd H (by simp)
     ·rw [if_neg c138] at H
      have c138b0 : (t534 == 0) = false := beq_eq_false_iff_ne.mpr c138
      have c138b1 : (t534 != 0) = true := bne_iff_ne.mpr c138
      replace H := Option.bind_eq_some_iff.mp H
      obtain ⟨t535, A1390, H⟩ := H
      replace H : ((impl_IsUniversal.f k t502 t503 t504).bind fun t537 => (if t537 = true then ((impl_IsUniversal.f k t502 t503 y523).bind fun t538 => (if t538 = true then ((impl_GrowMaze.f k t502 t503 t504).bind fun bt539 => ((impl_CoversAll.f k bt539.1 bt539.2.1 bt539.2.2 (Int.tmod t533 t534) (Int.tmod t535 4) t504).bind fun t542 => (some t542))) else (some false))) else (some false))) = some r := H
      have A139 := Aside0.mk A1390
      clear A1390
      replace H := Option.bind_eq_some_iff.mp H
      obtain ⟨t537, A1400, H⟩ := H
      replace H : (if t537 = true then ((impl_IsUniversal.f k t502 t503 y523).bind fun t538 => (if t538 = true then ((impl_GrowMaze.f k t502 t503 t504).bind fun bt539 => ((impl_CoversAll.f k bt539.1 bt539.2.1 bt539.2.2 (Int.tmod t533 t534) (Int.tmod t535 4) t504).bind fun t542 => (some t542))) else (some false))) else (some false)) = some r := H
      have A140 := Aside0.mk A1400
      clear A1400
      by_cases c141 : t537 = true
      ·subst c141
       have H1 : ((impl_IsUniversal.f k t502 t503 y523).bind fun t538 => (if t538 = true then ((impl_GrowMaze.f k t502 t503 t504).bind fun bt539 => ((impl_CoversAll.f k bt539.1 bt539.2.1 bt539.2.2 (Int.tmod t533 t534) (Int.tmod t535 4) t504).bind fun t542 => (some t542))) else (some false))) = some r := by rw [if_pos rfl] at H; exact H
       clear H
       have H := H1
       clear H1
       replace H := Option.bind_eq_some_iff.mp H
       obtain ⟨t538, A1420, H⟩ := H
       replace H : (if t538 = true then ((impl_GrowMaze.f k t502 t503 t504).bind fun bt539 => ((impl_CoversAll.f k bt539.1 bt539.2.1 bt539.2.2 (Int.tmod t533 t534) (Int.tmod t535 4) t504).bind fun t542 => (some t542))) else (some false)) = some r := H
       have A142 := Aside0.mk A1420
       clear A1420
       by_cases c143 : t538 = true
       ·subst c143
        have H1 : ((impl_GrowMaze.f k t502 t503 t504).bind fun bt539 => ((impl_CoversAll.f k bt539.1 bt539.2.1 bt539.2.2 (Int.tmod t533 t534) (Int.tmod t535 4) t504).bind fun t542 => (some t542))) = some r := by rw [if_pos rfl] at H; exact H
        clear H
        have H := H1
        clear H1
        replace H := Option.bind_eq_some_iff.mp H
        obtain ⟨⟨t539, t540, t541⟩, A1440, H⟩ := H
        replace H : ((impl_CoversAll.f k t539 t540 t541 (Int.tmod t533 t534) (Int.tmod t535 4) t504).bind fun t542 => (some t542)) = some r := H
        have A144 := Aside0.mk A1440
        clear A1440
        replace H := Option.bind_eq_some_iff.mp H
        obtain ⟨t542, A1450, H⟩ := H
        replace H : (some t542) = some r := H
        have A145 := Aside0.mk A1450
        clear A1450
        obtain rfl := Option.some.inj H
        go_enter Try.func3, Try.ntmps3
        try go_wp2_with ((with_reducible refine gw_ ?_); first | (refine gl_ 11 Try.func4 #[.slice A0 l0.length c0] ?_; (with_reducible refine (laws_big.calls _ _ l0 false _ ?side1 ?side2 A2.out).mono ?_); (case side1 => exact kc_ HR0.out); (case side2 => exact HC0.out); rintro e w' ⟨rfl, ⟨nd, rfl⟩⟩; refine ⟨_, rfl, ?_⟩) | (refine gl_ 14 Try.func5 #[.slice A0 l0.length c0] ?_; (with_reducible refine (spec_DrawTurns.calls k _ _ l0 t502 t503 t504 _ ?side1 ?side2 A4.out).mono ?_); (case side1 => exact kc_ HR0.out); (case side2 => exact HC0.out); rintro e w146 ⟨v505, rfl, ho0, hb⟩; refine ⟨_, rfl, ?_⟩; have HO506 := Aside0.mk (Kd.R_lower ho0 (below_size (hb0_ HB.out))); replace HB := HB.s0 hb; (try clear hb); (try clear ho0)) | ((with_reducible refine gate_dst (N := 3) rfl ?_); (try (refine gate_guard (by rfl) ?_; dsimp only)); refine box_event ?hg (N := 3) ?hd (cs := #[.int .i64 0, .int .i64 0]) (t := 25) ?hr ?_; (case hd => rfl); (case hg => rfl); (case hr => first | (go_simp; done) | (go_simp; rfl)); intro gb507 hg w147 hbox hb; replace HO506 := HO506.kb hb; have BK507 := Aside0.mk (hbox); have GW507 := HB.g0 hg; have GE507 := HB.g0 hg; replace HB := HB.s0 hb; clear hb hbox hg; obtain ⟨hcz148_0, hcz148_1⟩ := cz2_ BK507.out; obtain ⟨hfz148_0, hfz148_1⟩ := fz2_ BK507.out; obtain ⟨Ao149, co149, eo149⟩ := Kd.R_slice HO506.out; subst eo149) | (refine gl_ 20 Try.func6 #[.agg #[.int .i64 t502, .int .i64 t503], .slice Ao149 t504.length co149] ?_; (with_reducible refine (impl_FirstFailure.calls k t502 t503 _ _ t504 t508 t509 t510 t511 t512 false _ ?side1 ?side2 A5.out).mono ?_); (case side1 => refine (Kd.R_reads' (e := 3) (base := w.heap.size) (ok := fun k_ => True) (n := t504.length) (c := co149) ?_).2.2; exact (rq2_ HO506.out BK507.out)); (case side2 => exact (Kd.R_reads' HO506.out).2.1); rintro e w150 ⟨rfl, hb⟩; refine ⟨_, rfl, ?_⟩; replace HO506 := Aside0.mk (Kd.R_below (rq2_ HO506.out BK507.out) hb); replace BK507 := Aside0.mk (blk_below (bq2_ BK507.out) hb); replace HB := HB.s1 GE507 hb; (try clear hb)) | ((with_reducible refine gate_dst (N := 5) rfl ?_); (try (refine gate_guard (by rfl) ?_; dsimp only)); refine box_event ?hg (N := 5) ?hd (cs := #[.int .i64 0, .int .i64 0, .int .i64 0]) (t := 30) ?hr ?_; (case hd => rfl); (case hg => rfl); (case hr => first | (go_simp; done) | (go_simp; rfl)); intro gb514 hg w151 hbox hb; replace HO506 := HO506.kb hb; have BK514 := Aside0.mk (hbox); have GW514 := HB.g1 GE507 hg; have GE514 := HB.g1 GE507 hg; replace HB := HB.s1 GE507 hb; have NB507_514 := BK507.nl hg; have NB514_507 := BK507.nr hg; replace BK507 := BK507.bb hb; clear hb hbox hg) | ((with_reducible refine gate_dst (N := 6) rfl ?_); (try (refine gate_guard (by rfl) ?_; dsimp only)); refine box_event ?hg (N := 6) ?hd (cs := #[.int .i64 0, .int .i64 0]) (t := 32) ?hr ?_; (case hd => rfl); (case hg => rfl); (case hr => first | (go_simp; done) | (go_simp; rfl)); intro gb515 hg w152 hbox hb; replace HO506 := HO506.kb hb; have BK515 := Aside0.mk (hbox); have GW515 := HB.g2 GE507 GE514 hg; have GE515 := HB.g2 GE507 GE514 hg; replace HB := HB.s2 GE507 GE514 hb; have NB507_515 := BK507.nl hg; have NB515_507 := BK507.nr hg; replace BK507 := BK507.bb hb; have NB514_515 := BK514.nl hg; have NB515_514 := BK514.nr hg; replace BK514 := BK514.bb hb; clear hb hbox hg; have hnb153 := NB514_507.out; have hnc153 := NB507_514.out; have hnb154 := NB514_515.out; have hnc154 := NB515_514.out; obtain ⟨hcz155_0, hcz155_1, hcz155_2⟩ := cz3_ BK514.out; obtain ⟨hfz155_0, hfz155_1, hfz155_2⟩ := fz3_ BK514.out; have hnb156 := NB515_507.out; have hnc156 := NB507_515.out; obtain ⟨hcz157_0, hcz157_1⟩ := cz2_ BK515.out; obtain ⟨hfz157_0, hfz157_1⟩ := fz2_ BK515.out) | ((with_reducible refine gate_dst (N := 24) rfl ?_); (try (refine gate_guard (by rfl) ?_; dsimp only)); refine Kd.R_lit (Kd.int .i64) _ 3 ?hg (N := 24) ?hd (xs := ([] : List Int)) (inner := []) (ok := fun _ => True) (okp := fun _ => True) ?hr ?hp (fun _ hk => hk) trivial (Below.refl _ _) (Nat.le_refl _) (by simp) ?_; (case hd => rfl); (case hg => rfl); (case hr => first | (go_simp; done) | (go_simp; rfl)); (case hp => exact (Reps.none _ _)); intro v517 w158 ho159 hb hg_ hnew_; clear hg_ hnew_; (first | rw [← Ny516.out] at ho159 | (simp only [Int.reduceToNat] at ho159; rw [← Ny516.out] at ho159)); have n0_ := Aside0.mk (Kd.R_elder' (by (with_reducible repeat (first | apply Kd.R_alloc | apply Kd.R_drewN | apply Kd.R_drew)); exact (Kd.R_mono (Kd.R_mono (Kd.R_far (p := ⟨gb515, 1, none⟩) (Kd.R_far (p := ⟨gb515, 0, none⟩) (Kd.R_far (p := ⟨gb514, 2, none⟩) (Kd.R_far (p := ⟨gb514, 1, none⟩) (Kd.R_far (p := ⟨gb514, 0, none⟩) (Kd.R_types (Kd.R_types HO506.out BK514.out (by decide)) BK515.out (by decide)) (fun _ hk => hk.1.2) (.int .i64 t508)) (fun _ hk => hk.1.2) (.int .i64 t509)) (fun _ hk => hk.1.2) (.int .i64 t510)) (fun _ hk => hk.2) (.int .i64 t511)) (fun _ hk => hk.2) (.int .i64 t512)) (fun _ h_ => h_.1)) (fun _ h_ => h_.1))) (Kd.R_base ho159) hb); have n1_ := Aside0.mk (Kd.R_lower (Kd.R_new' ho159 (Kd.R_lt (by (with_reducible repeat (first | apply Kd.R_alloc | apply Kd.R_drewN | apply Kd.R_drew)); exact (Kd.R_mono (Kd.R_mono (Kd.R_far (p := ⟨gb515, 1, none⟩) (Kd.R_far (p := ⟨gb515, 0, none⟩) (Kd.R_far (p := ⟨gb514, 2, none⟩) (Kd.R_far (p := ⟨gb514, 1, none⟩) (Kd.R_far (p := ⟨gb514, 0, none⟩) (Kd.R_types (Kd.R_types HO506.out BK514.out (by decide)) BK515.out (by decide)) (fun _ hk => hk.1.2) (.int .i64 t508)) (fun _ hk => hk.1.2) (.int .i64 t509)) (fun _ hk => hk.1.2) (.int .i64 t510)) (fun _ hk => hk.2) (.int .i64 t511)) (fun _ hk => hk.2) (.int .i64 t512)) (fun _ h_ => h_.1)) (fun _ h_ => h_.1))))) (below_size (hb3_ HB.out GE507.out GE514.out GE515.out))); have n2_ := Aside0.mk (blk_below (g := gb507) (o := .cells #[.int .i64 t502, .int .i64 t503] 25 (0, 0)) (by (with_reducible repeat (first | refine blk_drewN ?_ _ | refine blk_drew ?_ | refine blk_alloc ?_ _)); refine blk_far ?_ NB507_515.out _; (with_reducible repeat (first | refine blk_drewN ?_ _ | refine blk_drew ?_ | refine blk_alloc ?_ _)); refine blk_far ?_ NB507_515.out _; (with_reducible repeat (first | refine blk_drewN ?_ _ | refine blk_drew ?_ | refine blk_alloc ?_ _)); refine blk_far ?_ NB507_514.out _; (with_reducible repeat (first | refine blk_drewN ?_ _ | refine blk_drew ?_ | refine blk_alloc ?_ _)); refine blk_far ?_ NB507_514.out _; (with_reducible repeat (first | refine blk_drewN ?_ _ | refine blk_drew ?_ | refine blk_alloc ?_ _)); refine blk_far ?_ NB507_514.out _; (with_reducible repeat (first | refine blk_drewN ?_ _ | refine blk_drew ?_ | refine blk_alloc ?_ _)); exact BK507.out) hb); have n3_ := Aside0.mk (blk_below (g := gb514) (o := .cells #[.int .i64 t508, .int .i64 t509, .int .i64 t510] 30 (0, 0)) (by (with_reducible repeat (first | refine blk_drewN ?_ _ | refine blk_drew ?_ | refine blk_alloc ?_ _)); refine blk_far ?_ NB514_515.out _; (with_reducible repeat (first | refine blk_drewN ?_ _ | refine blk_drew ?_ | refine blk_alloc ?_ _)); refine blk_far ?_ NB514_515.out _; (with_reducible repeat (first | refine blk_drewN ?_ _ | refine blk_drew ?_ | refine blk_alloc ?_ _)); refine blk_put (cs := #[.int .i64 t508, .int .i64 t509, .int .i64 0]) ?_ 2 _ rfl; (with_reducible repeat (first | refine blk_drewN ?_ _ | refine blk_drew ?_ | refine blk_alloc ?_ _)); refine blk_put (cs := #[.int .i64 t508, .int .i64 0, .int .i64 0]) ?_ 1 _ rfl; (with_reducible repeat (first | refine blk_drewN ?_ _ | refine blk_drew ?_ | refine blk_alloc ?_ _)); refine blk_put (cs := #[.int .i64 0, .int .i64 0, .int .i64 0]) ?_ 0 _ rfl; (with_reducible repeat (first | refine blk_drewN ?_ _ | refine blk_drew ?_ | refine blk_alloc ?_ _)); exact BK514.out) hb); have n4_ := Aside0.mk (blk_below (g := gb515) (o := .cells #[.int .i64 t511, .int .i64 t512] 32 (0, 0)) (by (with_reducible repeat (first | refine blk_drewN ?_ _ | refine blk_drew ?_ | refine blk_alloc ?_ _)); refine blk_put (cs := #[.int .i64 t511, .int .i64 0]) ?_ 1 _ rfl; (with_reducible repeat (first | refine blk_drewN ?_ _ | refine blk_drew ?_ | refine blk_alloc ?_ _)); refine blk_put (cs := #[.int .i64 0, .int .i64 0]) ?_ 0 _ rfl; (with_reducible repeat (first | refine blk_drewN ?_ _ | refine blk_drew ?_ | refine blk_alloc ?_ _)); refine blk_far ?_ NB515_514.out _; (with_reducible repeat (first | refine blk_drewN ?_ _ | refine blk_drew ?_ | refine blk_alloc ?_ _)); refine blk_far ?_ NB515_514.out _; (with_reducible repeat (first | refine blk_drewN ?_ _ | refine blk_drew ?_ | refine blk_alloc ?_ _)); refine blk_far ?_ NB515_514.out _; (with_reducible repeat (first | refine blk_drewN ?_ _ | refine blk_drew ?_ | refine blk_alloc ?_ _)); exact BK515.out) hb); have n5_ := HB.s3 GE507 GE514 GE515 hb; clear HO506; clear BK507; clear BK514; clear BK515; clear HB; have HO506 := n0_; have HO518 := n1_; have BK507 := n2_; have BK514 := n3_; have BK515 := n4_; have HB := n5_; clear n0_ n1_ n2_ n3_ n4_ n5_; clear hb ho159) | ((with_reducible refine gate_builtin (b := .append) (xs := #[.tmp 24, .tmp 25]) rfl ?_); (try (refine gate_guard (by rfl) ?_; dsimp only)); at_builtin; refine Kd.R_append_rows (Kd.int .i64) (w0 := w) w.heap.size rfl (.tmp 24) (.tmp 25) 26 3 (.int .i64 0) 8 rfl Try.underlying26 info3 rfl (by decide) (by omega) v517 y516 t504 _ _ _ (fun k_ => some k_ ≠ (.slice Ao149 t504.length co149 : Value).ownBlock) (fun _ => False) rfl rfl ?aO ?aR (fun _ _ h => h) (fun _ h => h.elim) ?aF ?aB ?aS ?aL ?_; (case aR => repeat (first | exact (Kd.R_reads' HO506.out).2.2 | (with_reducible refine Kd.C_alloc ?_ _) | (with_reducible refine Kd.C_drewN ?_ _) | (with_reducible refine Kd.C_drew ?_))); (case aB => exact (hb3_ HB.out GE507.out GE514.out GE515.out)); (case aF => exact (fun k_ hk => Kd.fresh' (Kd.R_lt (kr_ HO506.out)) k_ hk)); (case aO => exact (by (with_reducible repeat (first | apply Kd.R_alloc | apply Kd.R_drewN | apply Kd.R_drew)); exact Kd.R_mono HO518.out (fun _ hk => hk.2))); (case aS => exact (below_size (hb3_ HB.out GE507.out GE514.out GE515.out))); (case aL => have := LMc6.out; omega); intro v520 w160 ho hb hg hat; rw [← Ny519.out] at ho; replace HO506 := Aside0.mk (Kd.R_after (ok := (fun _ => True)) (by first | exact (kr_ HO506.out) | exact Kd.R_mono HO506.out (fun _ hk => ⟨trivial, hk⟩)) hg hat); replace BK507 := Aside0.mk (blk_grown (g := gb507) (o := .cells #[.int .i64 t502, .int .i64 t503] 25 (0, 0)) (bk_ BK507.out) hg (Kd.R_ne HO518.out BK507.out (by decide))); replace BK514 := Aside0.mk (blk_grown (g := gb514) (o := .cells #[.int .i64 t508, .int .i64 t509, .int .i64 t510] 30 (0, 0)) (bk_ BK514.out) hg (Kd.R_ne HO518.out BK514.out (by decide))); replace BK515 := Aside0.mk (blk_grown (g := gb515) (o := .cells #[.int .i64 t511, .int .i64 t512] 32 (0, 0)) (bk_ BK515.out) hg (Kd.R_ne HO518.out BK515.out (by decide))); replace HB := Aside0.mk (hb); have HO521 := Aside0.mk (ho); clear HO518; clear ho hb hg hat) | (refine gl_ 28 Try.func7 #[.slice A0 l0.length c0, .int .i64 0] ?_; (with_reducible refine (laws_at.calls _ _ l0 0 t522 _ ?side1 ?side2 A7.out).mono ?_); (case side1 => repeat (first | exact (Kd.C_below HR0.out HB.out) | (with_reducible refine Kd.C_alloc ?_ _) | (with_reducible refine Kd.C_drewN ?_ _) | (with_reducible refine Kd.C_drew ?_))); (case side2 => exact HC0.out); rintro e w' ⟨rfl, ⟨nd, rfl⟩⟩; refine ⟨_, rfl, ?_⟩; (try (rw [drewN_self w160]; generalize hq_ : World.drewN w160 _ = w160; have n0_ : Aside0 (Kd.R (Kd.int .i64) 3 w160 w.heap.size (fun k_ => some k_ ≠ (v520 : Value).ownBlock) (.slice Ao149 t504.length co149) t504) := ⟨by rw [← hq_]; exact (by (with_reducible repeat (first | apply Kd.R_alloc | apply Kd.R_drewN | apply Kd.R_drew)); exact Kd.R_mono HO506.out (fun _ hk => hk.2))⟩; have n1_ : Aside0 (Kd.R (Kd.int .i64) 3 w160 w.heap.size (fun k_ => some k_ ≠ (.slice Ao149 t504.length co149 : Value).ownBlock) v520 y519) := ⟨by rw [← hq_]; exact (kr_ HO521.out)⟩; have n2_ : Aside0 (w160.heap[gb507]? = some (.cells #[.int .i64 t502, .int .i64 t503] 25 (0, 0))) := ⟨by rw [← hq_]; exact (bk_ BK507.out)⟩; have n3_ : Aside0 (w160.heap[gb514]? = some (.cells #[.int .i64 t508, .int .i64 t509, .int .i64 t510] 30 (0, 0))) := ⟨by rw [← hq_]; exact (bk_ BK514.out)⟩; have n4_ : Aside0 (w160.heap[gb515]? = some (.cells #[.int .i64 t511, .int .i64 t512] 32 (0, 0))) := ⟨by rw [← hq_]; exact (bk_ BK515.out)⟩; have n5_ : Aside0 (Below w.heap.size w w160) := ⟨by rw [← hq_]; exact (hb3_ HB.out GE507.out GE514.out GE515.out)⟩; clear HO506 HO521 BK507 BK514 BK515 HB hq_; have HO506 := n0_; have HO521 := n1_; have BK507 := n2_; have BK514 := n3_; have BK515 := n4_; have HB := n5_; clear n0_ n1_ n2_ n3_ n4_ n5_))) | ((with_reducible refine gate_builtin (b := .append) (xs := #[.tmp 26, .tmp 30]) rfl ?_); (try (refine gate_guard (by rfl) ?_; dsimp only)); at_builtin; refine Kd.R_append (Kd.int .i64) (w0 := w) w.heap.size rfl (.tmp 26) (.tmp 30) 26 3 (.int .i64 0) 8 rfl Try.underlying26 info3 rfl (by decide) (by omega) v520 y519 (Int.tmod t522 4) [.int .i64 (Int.tmod t522 4)] (fun k_ => some k_ ≠ (.slice Ao149 t504.length co149 : Value).ownBlock) (fun _ => False) rfl rfl ?aP (fun _ hk => hk.elim) ?aF ?aO ?aB ?aS ?aL ?_; (case aP => exact rfl); (case aB => exact (hb3_ HB.out GE507.out GE514.out GE515.out)); (case aF => exact (fun k_ hk => Kd.fresh' (Kd.R_lt (kr_ HO506.out)) k_ hk)); (case aO => exact (kr_ HO521.out)); (case aS => exact (below_size (hb3_ HB.out GE507.out GE514.out GE515.out))); (case aL => have := LMc8.out; omega); intro v524 w161 ho hb hg hat; rw [← Ny523.out] at ho; replace HO506 := Aside0.mk (Kd.R_after (ok := (fun _ => True)) (by first | exact (kr_ HO506.out) | exact Kd.R_mono HO506.out (fun _ hk => ⟨trivial, hk⟩)) hg hat); replace BK507 := Aside0.mk (blk_grown (g := gb507) (o := .cells #[.int .i64 t502, .int .i64 t503] 25 (0, 0)) (bk_ BK507.out) hg (Kd.R_ne HO521.out BK507.out (by decide))); replace BK514 := Aside0.mk (blk_grown (g := gb514) (o := .cells #[.int .i64 t508, .int .i64 t509, .int .i64 t510] 30 (0, 0)) (bk_ BK514.out) hg (Kd.R_ne HO521.out BK514.out (by decide))); replace BK515 := Aside0.mk (blk_grown (g := gb515) (o := .cells #[.int .i64 t511, .int .i64 t512] 32 (0, 0)) (bk_ BK515.out) hg (Kd.R_ne HO521.out BK515.out (by decide))); replace HB := Aside0.mk (hb); have HO525 := Aside0.mk (ho); clear HO521; clear ho hb hg hat))
        replace HO506 := Aside0.mk (Kd.R_drew HO506.out)
        replace HO525 := Aside0.mk (Kd.R_drew HO525.out)
        replace BK507 := Aside0.mk (blk_drew BK507.out)
        replace BK514 := Aside0.mk (blk_drew BK514.out)
        replace BK515 := Aside0.mk (blk_drew BK515.out)
        replace HB := Aside0.mk (below_drew1 HB.out)
        refine start_ (n := 11) (S := fun w' => w'.cell? ⟨gb507, 0, none⟩ = some (.int .i64 t502) ∧ w'.cell? ⟨gb507, 1, none⟩ = some (.int .i64 t503)) (ds := []) #[false, false, false, false, false, false, false, false, false, false, false] (by kernel_rfl) rfl rfl ⟨BK507.c 0, BK507.c 1⟩ (fun hHeld => ?_); refine with_tabW laws_FnUniversals.tab8 laws_FnUniversals.bits8 (fun HT_ HW_ => ?_)
        generalize w161.drew = w162 at HO506 HO525 BK507 BK514 BK515 HB hHeld ⊢
        refine pv_ (i := 0) (N := some 64) HT_.out ?_
        refine pv_ (i := 5) (N := some 69) HT_.out ?_
        refine tv2_ (i := 2) (N := some 66) HT_.out HW_.out hHeld ?_
        refine join_ (σ := Nat) 1 #[true, true, true, true, true, true, true, true, true, true, false] (fun s_ => [(65, .int .i64 t533), (67, .int .i64 t534), (70, .int .i64 t535), (9, .pointer (some ⟨s_, 0, none⟩)), (68, .int .i64 (Int.tmod t533 t534)), (71, .int .i64 (Int.tmod t535 4)), (72, .agg #[.int .i64 (Int.tmod t533 t534), .int .i64 (Int.tmod t535 4)])]) (fun s_ w' => (w'.cell? ⟨gb507, 0, none⟩ = some (.int .i64 t502) ∧ w'.cell? ⟨gb507, 1, none⟩ = some (.int .i64 t503)) ∧ (Kd.R (Kd.int .i64) 3 w' w.heap.size (fun k_ => some k_ ≠ (v524 : Value).ownBlock) (.slice Ao149 t504.length co149) t504) ∧ (Kd.R (Kd.int .i64) 3 w' w.heap.size (fun k_ => some k_ ≠ (.slice Ao149 t504.length co149 : Value).ownBlock) v524 y523) ∧ (w'.heap[gb507]? = some (.cells #[.int .i64 t502, .int .i64 t503] 25 (0, 0))) ∧ (w'.heap[gb514]? = some (.cells #[.int .i64 t508, .int .i64 t509, .int .i64 t510] 30 (0, 0))) ∧ (w'.heap[gb515]? = some (.cells #[.int .i64 t511, .int .i64 t512] 32 (0, 0))) ∧ (w'.heap[s_]? = some (.cells #[.int .i64 0, .int .i64 0] 32 (0, 0))) ∧ (w.heap.size ≤ s_) ∧ (w.heap.size ≤ s_) ∧ (gb507 ≠ s_) ∧ (s_ ≠ gb507) ∧ (gb514 ≠ s_) ∧ (s_ ≠ gb514) ∧ (gb515 ≠ s_) ∧ (s_ ≠ gb515) ∧ (Below w.heap.size w w')) ?_ ?_
        rotate_left
        ·intro hCont
         refine two_ (i := 1) (j := 9) (Ni := some 65) (Nj := some 9) #[true, true, true, false, false, true, false, false, false, false, false] #[true, false, true, false, false, true, false, false, false, true, false] rfl rfl rfl rfl (two_of HT_.out (by kernel_rfl)) (by decide) (by decide) (fun K hK => ?_) (fun K hK => ?_)
         ·skip
          refine gq_ Try.func7 #[.slice A0 l0.length c0, .int .i64 1] ?_
          with_reducible refine (laws_at.calls _ _ l0 1 t533 _ ?side1 ?side2 A136.out).mono ?_
          (case side1 => repeat (first | exact (Kd.C_below HR0.out HB.out) | (with_reducible refine Kd.C_alloc ?_ _) | (with_reducible refine Kd.C_drewN ?_ _) | (with_reducible refine Kd.C_drew ?_)))
          (case side2 => exact HC0.out)
          rintro e w' ⟨rfl, ⟨nd, rfl⟩⟩
          refine ⟨_, rfl, ?_⟩
          refine hK.out _ _ ⟨BK507.c 0, BK507.c 1⟩ (fun hHeld => ?_)
          clear hK K
          refine nm_ ?_
          refine two_ (i := 3) (j := 9) (Ni := some 67) (Nj := some 9) #[true, true, true, true, false, true, false, false, false, false, false] #[true, true, true, false, false, true, false, false, false, true, false] rfl rfl rfl rfl (two_of HT_.out (by kernel_rfl)) (by decide) (by decide) (fun K hK => ?_) (fun K hK => ?_)
          ·skip
           refine gq_ Try.func13 #[.agg #[.int .i64 t502, .int .i64 t503]] ?_
           with_reducible refine (spec_CountCells.calls t502 t503 t534 _ A137.out).mono ?_
           rintro e w163 ⟨rfl, hb⟩
           refine ⟨_, rfl, ?_⟩
           replace HO506 := HO506.kb hb
           replace HO525 := HO525.kb hb
           replace BK507 := BK507.bb hb
           replace BK514 := BK514.bb hb
           replace BK515 := BK515.bb hb
           replace HB := HB.s3 GE507 GE514 GE515 hb
           skip
           (try clear hb2)
           (try clear hk)
           (try clear hi)
           refine hK.out _ _ ⟨BK507.c 0, BK507.c 1⟩ (fun hHeld => ?_)
           clear hK K
           refine nm_ ?_
           refine pv_ (i := 4) (N := some 68) HT_.out ?_
           refine two_ (i := 6) (j := 9) (Ni := some 70) (Nj := some 9) #[true, true, true, true, true, true, true, false, false, false, false] #[true, true, true, true, true, true, false, false, false, true, false] rfl rfl rfl rfl (two_of HT_.out (by kernel_rfl)) (by decide) (by decide) (fun K hK => ?_) (fun K hK => ?_)
           ·skip
            refine gq_ Try.func7 #[.slice A0 l0.length c0, .int .i64 2] ?_
            with_reducible refine (laws_at.calls _ _ l0 2 t535 _ ?side1 ?side2 A139.out).mono ?_
            (case side1 => repeat (first | exact (Kd.C_below HR0.out HB.out) | (with_reducible refine Kd.C_alloc ?_ _) | (with_reducible refine Kd.C_drewN ?_ _) | (with_reducible refine Kd.C_drew ?_)))
            (case side2 => exact HC0.out)
            rintro e w' ⟨rfl, ⟨nd, rfl⟩⟩
            refine ⟨_, rfl, ?_⟩
            refine hK.out _ _ ⟨BK507.c 0, BK507.c 1⟩ (fun hHeld => ?_)
            clear hK K
            refine nm_ ?_
            refine pv_ (i := 7) (N := some 71) HT_.out ?_
            refine pv_ (i := 8) (N := some 72) HT_.out ?_
            refine ov_ (i := 9) (N := some 9) HT_.out (fun K hK => ?_)
            refine box_step ?hg (N := 9) ?hd (cs := #[.int .i64 0, .int .i64 0]) (t := 32) ?hr ?_; (case hd => rfl); (case hg => rfl); (case hr => first | (go_simp; done) | (go_simp; rfl))
            intro gb536 hg w164 hbox hb
            have n0_ := HO506.kb hb
            have n1_ := HO525.kb hb
            have n2_ := BK507.bb hb
            have n3_ := BK514.bb hb
            have n4_ := BK515.bb hb
            have n5_ := HB.s3 GE507 GE514 GE515 hb
            have n6_ := Aside0.mk (hbox)
            have n7_ := HB.g3 GE507 GE514 GE515 hg
            have n8_ := HB.g3 GE507 GE514 GE515 hg
            have n9_ := BK507.nl hg
            have n10_ := BK507.nr hg
            have n11_ := BK514.nl hg
            have n12_ := BK514.nr hg
            have n13_ := BK515.nl hg
            have n14_ := BK515.nr hg
            clear HO506
            clear HO525
            clear BK507
            clear BK514
            clear BK515
            clear HB
            have HO506 := n0_
            have HO525 := n1_
            have BK507 := n2_
            have BK514 := n3_
            have BK515 := n4_
            have HB := n5_
            have BK536 := n6_
            have GW536 := n7_
            have GE536 := n8_
            have NB507_536 := n9_
            have NB536_507 := n10_
            have NB514_536 := n11_
            have NB536_514 := n12_
            have NB515_536 := n13_
            have NB536_515 := n14_
            clear n0_ n1_ n2_ n3_ n4_ n5_ n6_ n7_ n8_ n9_ n10_ n11_ n12_ n13_ n14_
            clear hb hbox hg
            refine hK.out _ _ ⟨BK507.c 0, BK507.c 1⟩ (fun hHeld => ?_)
            clear hK K
            refine norm_ (a' := ?_) ?_ ?_
            rotate_left
            ·show Act.put _ (some 9) _ = _
             simp only [Act.put, List.setIfInBounds_toArray, List.set_cons_zero, List.set_cons_succ, i64_w, i32_w]
             rfl
            exact norm_ (by simp only [putAll, Act.put, List.setIfInBounds_toArray, List.set_cons_zero, List.set_cons_succ]) (hCont (gb536) _ ⟨hHeld, (by (with_reducible repeat (first | apply Kd.R_alloc | apply Kd.R_drewN | apply Kd.R_drew)); exact Kd.R_mono HO506.out (fun _ hk => hk.2)), (kr_ HO525.out), (bk_ BK507.out), (bk_ BK514.out), (bk_ BK515.out), (bk_ BK536.out), GW536.out, GE536.out, NB507_536.out, NB536_507.out, NB514_536.out, NB536_514.out, NB515_536.out, NB536_515.out, (hb4_ HB.out GE507.out GE514.out GE515.out GE536.out)⟩)
           ·skip
            refine box_step ?hg (N := 9) ?hd (cs := #[.int .i64 0, .int .i64 0]) (t := 32) ?hr ?_; (case hd => rfl); (case hg => rfl); (case hr => first | (go_simp; done) | (go_simp; rfl))
            intro gb536 hg w164 hbox hb
            have n0_ := HO506.kb hb
            have n1_ := HO525.kb hb
            have n2_ := BK507.bb hb
            have n3_ := BK514.bb hb
            have n4_ := BK515.bb hb
            have n5_ := HB.s3 GE507 GE514 GE515 hb
            have n6_ := Aside0.mk (hbox)
            have n7_ := HB.g3 GE507 GE514 GE515 hg
            have n8_ := HB.g3 GE507 GE514 GE515 hg
            have n9_ := BK507.nl hg
            have n10_ := BK507.nr hg
            have n11_ := BK514.nl hg
            have n12_ := BK514.nr hg
            have n13_ := BK515.nl hg
            have n14_ := BK515.nr hg
            clear HO506
            clear HO525
            clear BK507
            clear BK514
            clear BK515
            clear HB
            have HO506 := n0_
            have HO525 := n1_
            have BK507 := n2_
            have BK514 := n3_
            have BK515 := n4_
            have HB := n5_
            have BK536 := n6_
            have GW536 := n7_
            have GE536 := n8_
            have NB507_536 := n9_
            have NB536_507 := n10_
            have NB514_536 := n11_
            have NB536_514 := n12_
            have NB515_536 := n13_
            have NB536_515 := n14_
            clear n0_ n1_ n2_ n3_ n4_ n5_ n6_ n7_ n8_ n9_ n10_ n11_ n12_ n13_ n14_
            clear hb hbox hg
            refine hK.out _ _ ⟨BK507.c 0, BK507.c 1⟩ (fun hHeld => ?_)
            clear hK K
            refine norm_ (a' := ?_) ?_ ?_
            rotate_left
            ·show Act.put _ (some 9) _ = _
             simp only [Act.put, List.setIfInBounds_toArray, List.set_cons_zero, List.set_cons_succ, i64_w, i32_w]
             rfl
            refine ov_ (i := 6) (N := some 70) HT_.out (fun K hK => ?_)
            refine gq_ Try.func7 #[.slice A0 l0.length c0, .int .i64 2] ?_
            with_reducible refine (laws_at.calls _ _ l0 2 t535 _ ?side1 ?side2 A139.out).mono ?_
            (case side1 => repeat (first | exact (Kd.C_below HR0.out HB.out) | (with_reducible refine Kd.C_alloc ?_ _) | (with_reducible refine Kd.C_drewN ?_ _) | (with_reducible refine Kd.C_drew ?_)))
            (case side2 => exact HC0.out)
            rintro e w' ⟨rfl, ⟨nd, rfl⟩⟩
            refine ⟨_, rfl, ?_⟩
            refine hK.out _ _ ⟨BK507.c 0, BK507.c 1⟩ (fun hHeld => ?_)
            clear hK K
            refine nm_ ?_
            refine pv_ (i := 7) (N := some 71) HT_.out ?_
            refine pv_ (i := 8) (N := some 72) HT_.out ?_
            exact norm_ (by simp only [putAll, Act.put, List.setIfInBounds_toArray, List.set_cons_zero, List.set_cons_succ]) (hCont (gb536) _ ⟨hHeld, (by (with_reducible repeat (first | apply Kd.R_alloc | apply Kd.R_drewN | apply Kd.R_drew)); exact Kd.R_mono HO506.out (fun _ hk => hk.2)), (kr_ HO525.out), (bk_ BK507.out), (bk_ BK514.out), (bk_ BK515.out), (bk_ BK536.out), GW536.out, GE536.out, NB507_536.out, NB536_507.out, NB514_536.out, NB536_514.out, NB515_536.out, NB536_515.out, (hb4_ HB.out GE507.out GE514.out GE515.out GE536.out)⟩)
          ·skip
           refine box_step ?hg (N := 9) ?hd (cs := #[.int .i64 0, .int .i64 0]) (t := 32) ?hr ?_; (case hd => rfl); (case hg => rfl); (case hr => first | (go_simp; done) | (go_simp; rfl))
           intro gb536 hg w163 hbox hb
           have n0_ := HO506.kb hb
           have n1_ := HO525.kb hb
           have n2_ := BK507.bb hb
           have n3_ := BK514.bb hb
           have n4_ := BK515.bb hb
           have n5_ := HB.s3 GE507 GE514 GE515 hb
           have n6_ := Aside0.mk (hbox)
           have n7_ := HB.g3 GE507 GE514 GE515 hg
           have n8_ := HB.g3 GE507 GE514 GE515 hg
           have n9_ := BK507.nl hg
           have n10_ := BK507.nr hg
           have n11_ := BK514.nl hg
           have n12_ := BK514.nr hg
           have n13_ := BK515.nl hg
           have n14_ := BK515.nr hg
           clear HO506
           clear HO525
           clear BK507
           clear BK514
           clear BK515
           clear HB
           have HO506 := n0_
           have HO525 := n1_
           have BK507 := n2_
           have BK514 := n3_
           have BK515 := n4_
           have HB := n5_
           have BK536 := n6_
           have GW536 := n7_
           have GE536 := n8_
           have NB507_536 := n9_
           have NB536_507 := n10_
           have NB514_536 := n11_
           have NB536_514 := n12_
           have NB515_536 := n13_
           have NB536_515 := n14_
           clear n0_ n1_ n2_ n3_ n4_ n5_ n6_ n7_ n8_ n9_ n10_ n11_ n12_ n13_ n14_
           clear hb hbox hg
           refine hK.out _ _ ⟨BK507.c 0, BK507.c 1⟩ (fun hHeld => ?_)
           clear hK K
           refine norm_ (a' := ?_) ?_ ?_
           rotate_left
           ·show Act.put _ (some 9) _ = _
            simp only [Act.put, List.setIfInBounds_toArray, List.set_cons_zero, List.set_cons_succ, i64_w, i32_w]
            rfl
           refine ov_ (i := 3) (N := some 67) HT_.out (fun K hK => ?_)
           refine gq_ Try.func13 #[.agg #[.int .i64 t502, .int .i64 t503]] ?_
           with_reducible refine (spec_CountCells.calls t502 t503 t534 _ A137.out).mono ?_
           rintro e w164 ⟨rfl, hb⟩
           refine ⟨_, rfl, ?_⟩
           replace HO506 := HO506.kb hb
           replace HO525 := HO525.kb hb
           replace BK507 := BK507.bb hb
           replace BK514 := BK514.bb hb
           replace BK515 := BK515.bb hb
           replace BK536 := BK536.bb hb
           replace HB := HB.s4 GE507 GE514 GE515 GE536 hb
           skip
           (try clear hb2)
           (try clear hk)
           (try clear hi)
           refine hK.out _ _ ⟨BK507.c 0, BK507.c 1⟩ (fun hHeld => ?_)
           clear hK K
           refine nm_ ?_
           refine pv_ (i := 4) (N := some 68) HT_.out ?_
           refine ov_ (i := 6) (N := some 70) HT_.out (fun K hK => ?_)
           refine gq_ Try.func7 #[.slice A0 l0.length c0, .int .i64 2] ?_
           with_reducible refine (laws_at.calls _ _ l0 2 t535 _ ?side1 ?side2 A139.out).mono ?_
           (case side1 => repeat (first | exact (Kd.C_below HR0.out HB.out) | (with_reducible refine Kd.C_alloc ?_ _) | (with_reducible refine Kd.C_drewN ?_ _) | (with_reducible refine Kd.C_drew ?_)))
           (case side2 => exact HC0.out)
           rintro e w' ⟨rfl, ⟨nd, rfl⟩⟩
           refine ⟨_, rfl, ?_⟩
           refine hK.out _ _ ⟨BK507.c 0, BK507.c 1⟩ (fun hHeld => ?_)
           clear hK K
           refine nm_ ?_
           refine pv_ (i := 7) (N := some 71) HT_.out ?_
           refine pv_ (i := 8) (N := some 72) HT_.out ?_
           exact norm_ (by simp only [putAll, Act.put, List.setIfInBounds_toArray, List.set_cons_zero, List.set_cons_succ]) (hCont (gb536) _ ⟨hHeld, (by (with_reducible repeat (first | apply Kd.R_alloc | apply Kd.R_drewN | apply Kd.R_drew)); exact Kd.R_mono HO506.out (fun _ hk => hk.2)), (kr_ HO525.out), (bk_ BK507.out), (bk_ BK514.out), (bk_ BK515.out), (bk_ BK536.out), GW536.out, GE536.out, NB507_536.out, NB536_507.out, NB514_536.out, NB536_514.out, NB515_536.out, NB536_515.out, (hb4_ HB.out GE507.out GE514.out GE515.out GE536.out)⟩)
         ·skip
          refine box_step ?hg (N := 9) ?hd (cs := #[.int .i64 0, .int .i64 0]) (t := 32) ?hr ?_; (case hd => rfl); (case hg => rfl); (case hr => first | (go_simp; done) | (go_simp; rfl))
          intro gb536 hg w163 hbox hb
          have n0_ := HO506.kb hb
          have n1_ := HO525.kb hb
          have n2_ := BK507.bb hb
          have n3_ := BK514.bb hb
          have n4_ := BK515.bb hb
          have n5_ := HB.s3 GE507 GE514 GE515 hb
          have n6_ := Aside0.mk (hbox)
          have n7_ := HB.g3 GE507 GE514 GE515 hg
          have n8_ := HB.g3 GE507 GE514 GE515 hg
          have n9_ := BK507.nl hg
          have n10_ := BK507.nr hg
          have n11_ := BK514.nl hg
          have n12_ := BK514.nr hg
          have n13_ := BK515.nl hg
          have n14_ := BK515.nr hg
          clear HO506
          clear HO525
          clear BK507
          clear BK514
          clear BK515
          clear HB
          have HO506 := n0_
          have HO525 := n1_
          have BK507 := n2_
          have BK514 := n3_
          have BK515 := n4_
          have HB := n5_
          have BK536 := n6_
          have GW536 := n7_
          have GE536 := n8_
          have NB507_536 := n9_
          have NB536_507 := n10_
          have NB514_536 := n11_
          have NB536_514 := n12_
          have NB515_536 := n13_
          have NB536_515 := n14_
          clear n0_ n1_ n2_ n3_ n4_ n5_ n6_ n7_ n8_ n9_ n10_ n11_ n12_ n13_ n14_
          clear hb hbox hg
          refine hK.out _ _ ⟨BK507.c 0, BK507.c 1⟩ (fun hHeld => ?_)
          clear hK K
          refine norm_ (a' := ?_) ?_ ?_
          rotate_left
          ·show Act.put _ (some 9) _ = _
           simp only [Act.put, List.setIfInBounds_toArray, List.set_cons_zero, List.set_cons_succ, i64_w, i32_w]
           rfl
          refine ov_ (i := 1) (N := some 65) HT_.out (fun K hK => ?_)
          refine gq_ Try.func7 #[.slice A0 l0.length c0, .int .i64 1] ?_
          with_reducible refine (laws_at.calls _ _ l0 1 t533 _ ?side1 ?side2 A136.out).mono ?_
          (case side1 => repeat (first | exact (Kd.C_below HR0.out HB.out) | (with_reducible refine Kd.C_alloc ?_ _) | (with_reducible refine Kd.C_drewN ?_ _) | (with_reducible refine Kd.C_drew ?_)))
          (case side2 => exact HC0.out)
          rintro e w' ⟨rfl, ⟨nd, rfl⟩⟩
          refine ⟨_, rfl, ?_⟩
          refine hK.out _ _ ⟨BK507.c 0, BK507.c 1⟩ (fun hHeld => ?_)
          clear hK K
          refine nm_ ?_
          refine ov_ (i := 3) (N := some 67) HT_.out (fun K hK => ?_)
          refine gq_ Try.func13 #[.agg #[.int .i64 t502, .int .i64 t503]] ?_
          with_reducible refine (spec_CountCells.calls t502 t503 t534 _ A137.out).mono ?_
          rintro e w164 ⟨rfl, hb⟩
          refine ⟨_, rfl, ?_⟩
          replace HO506 := HO506.kb hb
          replace HO525 := HO525.kb hb
          replace BK507 := BK507.bb hb
          replace BK514 := BK514.bb hb
          replace BK515 := BK515.bb hb
          replace BK536 := BK536.bb hb
          replace HB := HB.s4 GE507 GE514 GE515 GE536 hb
          skip
          (try clear hb2)
          (try clear hk)
          (try clear hi)
          refine hK.out _ _ ⟨BK507.c 0, BK507.c 1⟩ (fun hHeld => ?_)
          clear hK K
          refine nm_ ?_
          refine pv_ (i := 4) (N := some 68) HT_.out ?_
          refine ov_ (i := 6) (N := some 70) HT_.out (fun K hK => ?_)
          refine gq_ Try.func7 #[.slice A0 l0.length c0, .int .i64 2] ?_
          with_reducible refine (laws_at.calls _ _ l0 2 t535 _ ?side1 ?side2 A139.out).mono ?_
          (case side1 => repeat (first | exact (Kd.C_below HR0.out HB.out) | (with_reducible refine Kd.C_alloc ?_ _) | (with_reducible refine Kd.C_drewN ?_ _) | (with_reducible refine Kd.C_drew ?_)))
          (case side2 => exact HC0.out)
          rintro e w' ⟨rfl, ⟨nd, rfl⟩⟩
          refine ⟨_, rfl, ?_⟩
          refine hK.out _ _ ⟨BK507.c 0, BK507.c 1⟩ (fun hHeld => ?_)
          clear hK K
          refine nm_ ?_
          refine pv_ (i := 7) (N := some 71) HT_.out ?_
          refine pv_ (i := 8) (N := some 72) HT_.out ?_
          exact norm_ (by simp only [putAll, Act.put, List.setIfInBounds_toArray, List.set_cons_zero, List.set_cons_succ]) (hCont (gb536) _ ⟨hHeld, (by (with_reducible repeat (first | apply Kd.R_alloc | apply Kd.R_drewN | apply Kd.R_drew)); exact Kd.R_mono HO506.out (fun _ hk => hk.2)), (kr_ HO525.out), (bk_ BK507.out), (bk_ BK514.out), (bk_ BK515.out), (bk_ BK536.out), GW536.out, GE536.out, NB507_536.out, NB536_507.out, NB514_536.out, NB536_514.out, NB515_536.out, NB536_515.out, (hb4_ HB.out GE507.out GE514.out GE515.out GE536.out)⟩)
        rintro gb536 w165 ⟨hS_, h0_, h1_, h2_, h3_, h4_, h5_, h6_, h7_, h8_, h9_, h10_, h11_, h12_, h13_, h14_⟩
        have n0_ : Aside0 (Kd.R (Kd.int .i64) 3 w165 w.heap.size (fun k_ => some k_ ≠ (v524 : Value).ownBlock) (.slice Ao149 t504.length co149) t504) := ⟨h0_⟩
        have n1_ : Aside0 (Kd.R (Kd.int .i64) 3 w165 w.heap.size (fun k_ => some k_ ≠ (.slice Ao149 t504.length co149 : Value).ownBlock) v524 y523) := ⟨h1_⟩
        have n2_ : Aside0 (w165.heap[gb507]? = some (.cells #[.int .i64 t502, .int .i64 t503] 25 (0, 0))) := ⟨h2_⟩
        have n3_ : Aside0 (w165.heap[gb514]? = some (.cells #[.int .i64 t508, .int .i64 t509, .int .i64 t510] 30 (0, 0))) := ⟨h3_⟩
        have n4_ : Aside0 (w165.heap[gb515]? = some (.cells #[.int .i64 t511, .int .i64 t512] 32 (0, 0))) := ⟨h4_⟩
        have n5_ : Aside0 (w165.heap[gb536]? = some (.cells #[.int .i64 0, .int .i64 0] 32 (0, 0))) := ⟨h5_⟩
        have n6_ : Aside0 (w.heap.size ≤ gb536) := ⟨h6_⟩
        have n7_ : Aside0 (w.heap.size ≤ gb536) := ⟨h7_⟩
        have n8_ : Aside0 (gb507 ≠ gb536) := ⟨h8_⟩
        have n9_ : Aside0 (gb536 ≠ gb507) := ⟨h9_⟩
        have n10_ : Aside0 (gb514 ≠ gb536) := ⟨h10_⟩
        have n11_ : Aside0 (gb536 ≠ gb514) := ⟨h11_⟩
        have n12_ : Aside0 (gb515 ≠ gb536) := ⟨h12_⟩
        have n13_ : Aside0 (gb536 ≠ gb515) := ⟨h13_⟩
        have n14_ : Aside0 (Below w.heap.size w w165) := ⟨h14_⟩
        clear HO506
        clear HO525
        clear BK507
        clear BK514
        clear BK515
        clear HB
        clear h0_ h1_ h2_ h3_ h4_ h5_ h6_ h7_ h8_ h9_ h10_ h11_ h12_ h13_ h14_
        have HO506 := n0_
        have HO525 := n1_
        have BK507 := n2_
        have BK514 := n3_
        have BK515 := n4_
        have BK536 := n5_
        have GW536 := n6_
        have GE536 := n7_
        have NB507_536 := n8_
        have NB536_507 := n9_
        have NB514_536 := n10_
        have NB536_514 := n11_
        have NB515_536 := n12_
        have NB536_515 := n13_
        have HB := n14_
        clear n0_ n1_ n2_ n3_ n4_ n5_ n6_ n7_ n8_ n9_ n10_ n11_ n12_ n13_ n14_
        have hHeld : w165.cell? ⟨gb507, 0, none⟩ = some (.int .i64 t502) ∧ w165.cell? ⟨gb507, 1, none⟩ = some (.int .i64 t503) := hS_
        refine norm_ (a' := ?_) ?_ ?_
        rotate_left
        ·simp only [putAll, Act.put, List.setIfInBounds_toArray, List.set_cons_zero, List.set_cons_succ]
         rfl
        refine one_ (i := 10) (N := none) #[true, true, true, true, true, true, true, true, true, true, true] rfl rfl (one_of HT_.out (by kernel_rfl)) (by decide) (fun K hK => ?_)
        have hs166 : w165.cell? ⟨gb536, 0, none⟩ = some (.int .i64 0) := BK536.c 0
        have hfs166 := blk_frozen BK536.out 0
        have hns166_0 := NB507_536.out
        have hns166_1 := NB514_536.out
        have hns166_2 := NB515_536.out
        have hms166_0 := NB536_507.out
        have hms166_1 := NB536_514.out
        have hms166_2 := NB536_515.out
        have hs167 : w165.cell? ⟨gb536, 1, none⟩ = some (.int .i64 0) := BK536.c 1
        have hfs167 := blk_frozen BK536.out 1
        have hns167_0 := NB507_536.out
        have hns167_1 := NB514_536.out
        have hns167_2 := NB515_536.out
        have hms167_0 := NB536_507.out
        have hms167_1 := NB536_514.out
        have hms167_2 := NB536_515.out
        refine skip_ (w1 := ?_) (by rfl) rfl ?_ ?_
        rotate_left
        ·go_simp
         rfl
        refine hK.out _ _ ⟨((cell_far (p := ⟨gb536, _, none⟩) NB507_536.out _).trans (((cell_far (p := ⟨gb536, _, none⟩) NB507_536.out _).trans (hHeld.1)))), ((cell_far (p := ⟨gb536, _, none⟩) NB507_536.out _).trans (((cell_far (p := ⟨gb536, _, none⟩) NB507_536.out _).trans (hHeld.2))))⟩ (fun hHeld => ?_)
        clear hK K
        refine done_ (done_of HT_.out (by kernel_rfl)) ?_
        try go_wp2
        have n0_ : Aside0 (Kd.R (Kd.int .i64) 3 ((w165.setCell ⟨gb536, 0, none⟩ (.int .i64 (Int.tmod t533 t534))).setCell ⟨gb536, 1, none⟩ (.int .i64 (Int.tmod t535 4))) w.heap.size (fun k_ => some k_ ≠ (v524 : Value).ownBlock) (.slice Ao149 t504.length co149) t504) := ⟨by (with_reducible repeat (first | apply Kd.R_alloc | apply Kd.R_drewN | apply Kd.R_drew)); exact Kd.R_mono (Kd.R_far (p := ⟨gb536, 1, none⟩) (Kd.R_far (p := ⟨gb536, 0, none⟩) (Kd.R_types HO506.out BK536.out (by decide)) (fun _ hk => hk.2) (.int .i64 (Int.tmod t533 t534))) (fun _ hk => hk.2) (.int .i64 (Int.tmod t535 4))) (fun _ hk => hk.1)⟩
        have n1_ : Aside0 (Kd.R (Kd.int .i64) 3 ((w165.setCell ⟨gb536, 0, none⟩ (.int .i64 (Int.tmod t533 t534))).setCell ⟨gb536, 1, none⟩ (.int .i64 (Int.tmod t535 4))) w.heap.size (fun k_ => some k_ ≠ (.slice Ao149 t504.length co149 : Value).ownBlock) v524 y523) := ⟨by (with_reducible repeat (first | apply Kd.R_alloc | apply Kd.R_drewN | apply Kd.R_drew)); exact Kd.R_mono (Kd.R_far (p := ⟨gb536, 1, none⟩) (Kd.R_far (p := ⟨gb536, 0, none⟩) (Kd.R_types HO525.out BK536.out (by decide)) (fun _ hk => hk.2) (.int .i64 (Int.tmod t533 t534))) (fun _ hk => hk.2) (.int .i64 (Int.tmod t535 4))) (fun _ hk => hk.1)⟩
        have n2_ : Aside0 (((w165.setCell ⟨gb536, 0, none⟩ (.int .i64 (Int.tmod t533 t534))).setCell ⟨gb536, 1, none⟩ (.int .i64 (Int.tmod t535 4))).heap[gb507]? = some (.cells #[.int .i64 t502, .int .i64 t503] 25 (0, 0))) := ⟨by (with_reducible repeat (first | refine blk_drewN ?_ _ | refine blk_drew ?_ | refine blk_alloc ?_ _)); refine blk_far ?_ NB507_536.out _; (with_reducible repeat (first | refine blk_drewN ?_ _ | refine blk_drew ?_ | refine blk_alloc ?_ _)); refine blk_far ?_ NB507_536.out _; (with_reducible repeat (first | refine blk_drewN ?_ _ | refine blk_drew ?_ | refine blk_alloc ?_ _)); exact BK507.out⟩
        have n3_ : Aside0 (((w165.setCell ⟨gb536, 0, none⟩ (.int .i64 (Int.tmod t533 t534))).setCell ⟨gb536, 1, none⟩ (.int .i64 (Int.tmod t535 4))).heap[gb514]? = some (.cells #[.int .i64 t508, .int .i64 t509, .int .i64 t510] 30 (0, 0))) := ⟨by (with_reducible repeat (first | refine blk_drewN ?_ _ | refine blk_drew ?_ | refine blk_alloc ?_ _)); refine blk_far ?_ NB514_536.out _; (with_reducible repeat (first | refine blk_drewN ?_ _ | refine blk_drew ?_ | refine blk_alloc ?_ _)); refine blk_far ?_ NB514_536.out _; (with_reducible repeat (first | refine blk_drewN ?_ _ | refine blk_drew ?_ | refine blk_alloc ?_ _)); exact BK514.out⟩
        have n4_ : Aside0 (((w165.setCell ⟨gb536, 0, none⟩ (.int .i64 (Int.tmod t533 t534))).setCell ⟨gb536, 1, none⟩ (.int .i64 (Int.tmod t535 4))).heap[gb515]? = some (.cells #[.int .i64 t511, .int .i64 t512] 32 (0, 0))) := ⟨by (with_reducible repeat (first | refine blk_drewN ?_ _ | refine blk_drew ?_ | refine blk_alloc ?_ _)); refine blk_far ?_ NB515_536.out _; (with_reducible repeat (first | refine blk_drewN ?_ _ | refine blk_drew ?_ | refine blk_alloc ?_ _)); refine blk_far ?_ NB515_536.out _; (with_reducible repeat (first | refine blk_drewN ?_ _ | refine blk_drew ?_ | refine blk_alloc ?_ _)); exact BK515.out⟩
        have n5_ : Aside0 (((w165.setCell ⟨gb536, 0, none⟩ (.int .i64 (Int.tmod t533 t534))).setCell ⟨gb536, 1, none⟩ (.int .i64 (Int.tmod t535 4))).heap[gb536]? = some (.cells #[.int .i64 (Int.tmod t533 t534), .int .i64 (Int.tmod t535 4)] 32 (0, 0))) := ⟨bq2_ BK536.out⟩
        have n6_ : Aside0 (Below w.heap.size w ((w165.setCell ⟨gb536, 0, none⟩ (.int .i64 (Int.tmod t533 t534))).setCell ⟨gb536, 1, none⟩ (.int .i64 (Int.tmod t535 4)))) := ⟨hb4_ HB.out GE507.out GE514.out GE515.out GE536.out⟩
        (try clear HO506)
        (try clear HO525)
        (try clear BK507)
        (try clear BK514)
        (try clear BK515)
        (try clear BK536)
        (try clear HB)
        generalize ((w165.setCell ⟨gb536, 0, none⟩ (.int .i64 (Int.tmod t533 t534))).setCell ⟨gb536, 1, none⟩ (.int .i64 (Int.tmod t535 4))) = w168 at n0_ n1_ n2_ n3_ n4_ n5_ n6_ ⊢
        have HO506 := n0_
        have HO525 := n1_
        have BK507 := n2_
        have BK514 := n3_
        have BK515 := n4_
        have BK536 := n5_
        have HB := n6_
        clear n0_ n1_ n2_ n3_ n4_ n5_ n6_
        replace HO506 := Aside0.mk (Kd.R_drew HO506.out)
        replace HO525 := Aside0.mk (Kd.R_drew HO525.out)
        replace BK507 := Aside0.mk (blk_drew BK507.out)
        replace BK514 := Aside0.mk (blk_drew BK514.out)
        replace BK515 := Aside0.mk (blk_drew BK515.out)
        replace BK536 := Aside0.mk (blk_drew BK536.out)
        replace HB := Aside0.mk (below_drew1 HB.out)
        refine start_ (n := 17) (S := fun w' => w'.cell? ⟨gb507, 0, none⟩ = some (.int .i64 t502) ∧ w'.cell? ⟨gb507, 1, none⟩ = some (.int .i64 t503) ∧ w'.cell? ⟨gb536, 0, none⟩ = some (.int .i64 (Int.tmod t533 t534)) ∧ w'.cell? ⟨gb536, 1, none⟩ = some (.int .i64 (Int.tmod t535 4))) (ds := []) #[false, false, false, false, false, false, false, false, false, false, false, false, false, false, false, false, false] (by kernel_rfl) rfl rfl ⟨BK507.c 0, BK507.c 1, BK536.c 0, BK536.c 1⟩ (fun hHeld => ?_); refine with_tabW laws_FnUniversals.tab9 laws_FnUniversals.bits9 (fun HT_ HW_ => ?_)
        generalize w168.drew = w169 at HO506 HO525 BK507 BK514 BK515 BK536 HB hHeld ⊢
        refine pv_ (i := 1) (N := some 74) HT_.out ?_
        refine tv4_ (i := 0) (N := some 73) HT_.out HW_.out hHeld ?_
        refine ov_ (i := 2) (N := some 75) HT_.out (fun K hK => ?_)
        refine gq_ Try.func8 #[.agg #[.int .i64 t502, .int .i64 t503], .slice Ao149 t504.length co149] ?_
        with_reducible refine (impl_IsUniversal.calls k t502 t503 _ _ t504 true _ ?side1 ?side2 A140.out).mono ?_
        (case side1 => repeat (first | exact (Kd.R_reads' HO506.out).2.2 | (with_reducible refine Kd.C_alloc ?_ _) | (with_reducible refine Kd.C_drewN ?_ _) | (with_reducible refine Kd.C_drew ?_)))
        (case side2 => exact (Kd.R_reads' HO506.out).2.1)
        rintro e w170 ⟨rfl, hb⟩
        refine ⟨_, rfl, ?_⟩
        replace HO506 := HO506.kb hb
        replace HO525 := HO525.kb hb
        replace BK507 := BK507.bb hb
        replace BK514 := BK514.bb hb
        replace BK515 := BK515.bb hb
        replace BK536 := BK536.bb hb
        replace HB := HB.s4 GE507 GE514 GE515 GE536 hb
        skip
        (try clear hb2)
        (try clear hk)
        (try clear hi)
        obtain ⟨Ao171, co171, eo171⟩ := Kd.R_slice HO525.out
        (first | subst eo171 | (injection eo171 with f1_ f2_ f3_; have f4_ := f1_.symm; have f5_ := f3_.symm; clear f1_ f2_ f3_; subst f4_; subst f5_))
        refine hK.out _ _ ⟨BK507.c 0, BK507.c 1, BK536.c 0, BK536.c 1⟩ (fun hHeld => ?_)
        clear hK K
        refine nm_ ?_
        refine pv_ (i := 3) (N := some 76) HT_.out ?_
        refine pv_ (i := 5) (N := some 78) HT_.out ?_
        refine tv4_ (i := 4) (N := some 77) HT_.out HW_.out hHeld ?_
        refine ov_ (i := 6) (N := some 79) HT_.out (fun K hK => ?_)
        refine gq_ Try.func8 #[.agg #[.int .i64 t502, .int .i64 t503], .slice Ao171 y523.length co171] ?_
        with_reducible refine (impl_IsUniversal.calls k t502 t503 _ _ y523 true _ ?side1 ?side2 A142.out).mono ?_
        (case side1 => repeat (first | exact (Kd.R_reads' HO525.out).2.2 | (with_reducible refine Kd.C_alloc ?_ _) | (with_reducible refine Kd.C_drewN ?_ _) | (with_reducible refine Kd.C_drew ?_)))
        (case side2 => exact (Kd.R_reads' HO525.out).2.1)
        rintro e w172 ⟨rfl, hb⟩
        refine ⟨_, rfl, ?_⟩
        replace HO506 := HO506.kb hb
        replace HO525 := HO525.kb hb
        replace BK507 := BK507.bb hb
        replace BK514 := BK514.bb hb
        replace BK515 := BK515.bb hb
        replace BK536 := BK536.bb hb
        replace HB := HB.s4 GE507 GE514 GE515 GE536 hb
        skip
        (try clear hb2)
        (try clear hk)
        (try clear hi)
        refine hK.out _ _ ⟨BK507.c 0, BK507.c 1, BK536.c 0, BK536.c 1⟩ (fun hHeld => ?_)
        clear hK K
        refine nm_ ?_
        refine pv_ (i := 7) (N := some 80) HT_.out ?_
        refine pv_ (i := 8) (N := some 81) HT_.out ?_
        refine pv_ (i := 10) (N := some 83) HT_.out ?_
        refine pv_ (i := 13) (N := some 86) HT_.out ?_
        refine tv4_ (i := 9) (N := some 82) HT_.out HW_.out hHeld ?_
        refine tv4_ (i := 12) (N := some 85) HT_.out HW_.out hHeld ?_
        refine ov_ (i := 11) (N := some 84) HT_.out (fun K hK => ?_)
        refine gq_ Try.func14 #[.agg #[.int .i64 t502, .int .i64 t503], .slice Ao149 t504.length co149] ?_
        with_reducible refine (impl_GrowMaze.calls k t502 t503 _ _ t504 t539 t540 t541 _ ?side1 ?side2 A144.out).mono ?_
        (case side1 => repeat (first | exact (Kd.R_reads' HO506.out).2.2 | (with_reducible refine Kd.C_alloc ?_ _) | (with_reducible refine Kd.C_drewN ?_ _) | (with_reducible refine Kd.C_drew ?_)))
        (case side2 => exact (Kd.R_reads' HO506.out).2.1)
        rintro e w173 ⟨rfl, hb⟩
        refine ⟨_, rfl, ?_⟩
        replace HO506 := HO506.kb hb
        replace HO525 := HO525.kb hb
        replace BK507 := BK507.bb hb
        replace BK514 := BK514.bb hb
        replace BK515 := BK515.bb hb
        replace BK536 := BK536.bb hb
        replace HB := HB.s4 GE507 GE514 GE515 GE536 hb
        skip
        (try clear hb2)
        (try clear hk)
        (try clear hi)
        refine hK.out _ _ ⟨BK507.c 0, BK507.c 1, BK536.c 0, BK536.c 1⟩ (fun hHeld => ?_)
        clear hK K
        refine nm_ ?_
        refine ov_ (i := 14) (N := some 87) HT_.out (fun K hK => ?_)
        refine gq_ Try.func11 #[.agg #[.int .i64 t539, .int .i64 t540, .int .i64 t541], .agg #[.int .i64 (Int.tmod t533 t534), .int .i64 (Int.tmod t535 4)], .slice Ao149 t504.length co149] ?_
        with_reducible refine (impl_CoversAll.calls k t539 t540 t541 (Int.tmod t533 t534) (Int.tmod t535 4) _ _ t504 t542 _ ?side1 ?side2 A145.out).mono ?_
        (case side1 => repeat (first | exact (Kd.R_reads' HO506.out).2.2 | (with_reducible refine Kd.C_alloc ?_ _) | (with_reducible refine Kd.C_drewN ?_ _) | (with_reducible refine Kd.C_drew ?_)))
        (case side2 => exact (Kd.R_reads' HO506.out).2.1)
        rintro e w174 ⟨rfl, hb⟩
        refine ⟨_, rfl, ?_⟩
        replace HO506 := HO506.kb hb
        replace HO525 := HO525.kb hb
        replace BK507 := BK507.bb hb
        replace BK514 := BK514.bb hb
        replace BK515 := BK515.bb hb
        replace BK536 := BK536.bb hb
        replace HB := HB.s4 GE507 GE514 GE515 GE536 hb
        skip
        (try clear hb2)
        (try clear hk)
        (try clear hi)
        refine hK.out _ _ ⟨BK507.c 0, BK507.c 1, BK536.c 0, BK536.c 1⟩ (fun hHeld => ?_)
        clear hK K
        refine nm_ ?_
        refine pv_ (i := 15) (N := some 88) HT_.out ?_
        refine pv_ (i := 16) (N := some 2) HT_.out ?_
        refine done_ (done_of HT_.out (by kernel_rfl)) ?_
        try go_wp2
        go_ret
        exact ⟨ex_, hb4_ HB.out GE507.out GE514.out GE515.out GE536.out⟩
       ·replace c143 := Bool.eq_false_iff.mpr c143
        subst c143
        have H1 : (some false) = some r := by rw [if_neg (show ¬ (false = true) by decide)] at H; exact H
        clear H
        have H := H1
        clear H1
        obtain rfl := Option.some.inj H
        go_enter Try.func3, Try.ntmps3
        try go_wp2_with ((with_reducible refine gw_ ?_); first | (refine gl_ 11 Try.func4 #[.slice A0 l0.length c0] ?_; (with_reducible refine (laws_big.calls _ _ l0 false _ ?side1 ?side2 A2.out).mono ?_); (case side1 => exact kc_ HR0.out); (case side2 => exact HC0.out); rintro e w' ⟨rfl, ⟨nd, rfl⟩⟩; refine ⟨_, rfl, ?_⟩) | (refine gl_ 14 Try.func5 #[.slice A0 l0.length c0] ?_; (with_reducible refine (spec_DrawTurns.calls k _ _ l0 t502 t503 t504 _ ?side1 ?side2 A4.out).mono ?_); (case side1 => exact kc_ HR0.out); (case side2 => exact HC0.out); rintro e w175 ⟨v505, rfl, ho0, hb⟩; refine ⟨_, rfl, ?_⟩; have HO506 := Aside0.mk (Kd.R_lower ho0 (below_size (hb0_ HB.out))); replace HB := HB.s0 hb; (try clear hb); (try clear ho0)) | ((with_reducible refine gate_dst (N := 3) rfl ?_); (try (refine gate_guard (by rfl) ?_; dsimp only)); refine box_event ?hg (N := 3) ?hd (cs := #[.int .i64 0, .int .i64 0]) (t := 25) ?hr ?_; (case hd => rfl); (case hg => rfl); (case hr => first | (go_simp; done) | (go_simp; rfl)); intro gb507 hg w176 hbox hb; replace HO506 := HO506.kb hb; have BK507 := Aside0.mk (hbox); have GW507 := HB.g0 hg; have GE507 := HB.g0 hg; replace HB := HB.s0 hb; clear hb hbox hg; obtain ⟨hcz177_0, hcz177_1⟩ := cz2_ BK507.out; obtain ⟨hfz177_0, hfz177_1⟩ := fz2_ BK507.out; obtain ⟨Ao178, co178, eo178⟩ := Kd.R_slice HO506.out; subst eo178) | (refine gl_ 20 Try.func6 #[.agg #[.int .i64 t502, .int .i64 t503], .slice Ao178 t504.length co178] ?_; (with_reducible refine (impl_FirstFailure.calls k t502 t503 _ _ t504 t508 t509 t510 t511 t512 false _ ?side1 ?side2 A5.out).mono ?_); (case side1 => refine (Kd.R_reads' (e := 3) (base := w.heap.size) (ok := fun k_ => True) (n := t504.length) (c := co178) ?_).2.2; exact (rq2_ HO506.out BK507.out)); (case side2 => exact (Kd.R_reads' HO506.out).2.1); rintro e w179 ⟨rfl, hb⟩; refine ⟨_, rfl, ?_⟩; replace HO506 := Aside0.mk (Kd.R_below (rq2_ HO506.out BK507.out) hb); replace BK507 := Aside0.mk (blk_below (bq2_ BK507.out) hb); replace HB := HB.s1 GE507 hb; (try clear hb)) | ((with_reducible refine gate_dst (N := 5) rfl ?_); (try (refine gate_guard (by rfl) ?_; dsimp only)); refine box_event ?hg (N := 5) ?hd (cs := #[.int .i64 0, .int .i64 0, .int .i64 0]) (t := 30) ?hr ?_; (case hd => rfl); (case hg => rfl); (case hr => first | (go_simp; done) | (go_simp; rfl)); intro gb514 hg w180 hbox hb; replace HO506 := HO506.kb hb; have BK514 := Aside0.mk (hbox); have GW514 := HB.g1 GE507 hg; have GE514 := HB.g1 GE507 hg; replace HB := HB.s1 GE507 hb; have NB507_514 := BK507.nl hg; have NB514_507 := BK507.nr hg; replace BK507 := BK507.bb hb; clear hb hbox hg) | ((with_reducible refine gate_dst (N := 6) rfl ?_); (try (refine gate_guard (by rfl) ?_; dsimp only)); refine box_event ?hg (N := 6) ?hd (cs := #[.int .i64 0, .int .i64 0]) (t := 32) ?hr ?_; (case hd => rfl); (case hg => rfl); (case hr => first | (go_simp; done) | (go_simp; rfl)); intro gb515 hg w181 hbox hb; replace HO506 := HO506.kb hb; have BK515 := Aside0.mk (hbox); have GW515 := HB.g2 GE507 GE514 hg; have GE515 := HB.g2 GE507 GE514 hg; replace HB := HB.s2 GE507 GE514 hb; have NB507_515 := BK507.nl hg; have NB515_507 := BK507.nr hg; replace BK507 := BK507.bb hb; have NB514_515 := BK514.nl hg; have NB515_514 := BK514.nr hg; replace BK514 := BK514.bb hb; clear hb hbox hg; have hnb182 := NB514_507.out; have hnc182 := NB507_514.out; have hnb183 := NB514_515.out; have hnc183 := NB515_514.out; obtain ⟨hcz184_0, hcz184_1, hcz184_2⟩ := cz3_ BK514.out; obtain ⟨hfz184_0, hfz184_1, hfz184_2⟩ := fz3_ BK514.out; have hnb185 := NB515_507.out; have hnc185 := NB507_515.out; obtain ⟨hcz186_0, hcz186_1⟩ := cz2_ BK515.out; obtain ⟨hfz186_0, hfz186_1⟩ := fz2_ BK515.out) | ((with_reducible refine gate_dst (N := 24) rfl ?_); (try (refine gate_guard (by rfl) ?_; dsimp only)); refine Kd.R_lit (Kd.int .i64) _ 3 ?hg (N := 24) ?hd (xs := ([] : List Int)) (inner := []) (ok := fun _ => True) (okp := fun _ => True) ?hr ?hp (fun _ hk => hk) trivial (Below.refl _ _) (Nat.le_refl _) (by simp) ?_; (case hd => rfl); (case hg => rfl); (case hr => first | (go_simp; done) | (go_simp; rfl)); (case hp => exact (Reps.none _ _)); intro v517 w187 ho188 hb hg_ hnew_; clear hg_ hnew_; (first | rw [← Ny516.out] at ho188 | (simp only [Int.reduceToNat] at ho188; rw [← Ny516.out] at ho188)); have n0_ := Aside0.mk (Kd.R_elder' (by (with_reducible repeat (first | apply Kd.R_alloc | apply Kd.R_drewN | apply Kd.R_drew)); exact (Kd.R_mono (Kd.R_mono (Kd.R_far (p := ⟨gb515, 1, none⟩) (Kd.R_far (p := ⟨gb515, 0, none⟩) (Kd.R_far (p := ⟨gb514, 2, none⟩) (Kd.R_far (p := ⟨gb514, 1, none⟩) (Kd.R_far (p := ⟨gb514, 0, none⟩) (Kd.R_types (Kd.R_types HO506.out BK514.out (by decide)) BK515.out (by decide)) (fun _ hk => hk.1.2) (.int .i64 t508)) (fun _ hk => hk.1.2) (.int .i64 t509)) (fun _ hk => hk.1.2) (.int .i64 t510)) (fun _ hk => hk.2) (.int .i64 t511)) (fun _ hk => hk.2) (.int .i64 t512)) (fun _ h_ => h_.1)) (fun _ h_ => h_.1))) (Kd.R_base ho188) hb); have n1_ := Aside0.mk (Kd.R_lower (Kd.R_new' ho188 (Kd.R_lt (by (with_reducible repeat (first | apply Kd.R_alloc | apply Kd.R_drewN | apply Kd.R_drew)); exact (Kd.R_mono (Kd.R_mono (Kd.R_far (p := ⟨gb515, 1, none⟩) (Kd.R_far (p := ⟨gb515, 0, none⟩) (Kd.R_far (p := ⟨gb514, 2, none⟩) (Kd.R_far (p := ⟨gb514, 1, none⟩) (Kd.R_far (p := ⟨gb514, 0, none⟩) (Kd.R_types (Kd.R_types HO506.out BK514.out (by decide)) BK515.out (by decide)) (fun _ hk => hk.1.2) (.int .i64 t508)) (fun _ hk => hk.1.2) (.int .i64 t509)) (fun _ hk => hk.1.2) (.int .i64 t510)) (fun _ hk => hk.2) (.int .i64 t511)) (fun _ hk => hk.2) (.int .i64 t512)) (fun _ h_ => h_.1)) (fun _ h_ => h_.1))))) (below_size (hb3_ HB.out GE507.out GE514.out GE515.out))); have n2_ := Aside0.mk (blk_below (g := gb507) (o := .cells #[.int .i64 t502, .int .i64 t503] 25 (0, 0)) (by (with_reducible repeat (first | refine blk_drewN ?_ _ | refine blk_drew ?_ | refine blk_alloc ?_ _)); refine blk_far ?_ NB507_515.out _; (with_reducible repeat (first | refine blk_drewN ?_ _ | refine blk_drew ?_ | refine blk_alloc ?_ _)); refine blk_far ?_ NB507_515.out _; (with_reducible repeat (first | refine blk_drewN ?_ _ | refine blk_drew ?_ | refine blk_alloc ?_ _)); refine blk_far ?_ NB507_514.out _; (with_reducible repeat (first | refine blk_drewN ?_ _ | refine blk_drew ?_ | refine blk_alloc ?_ _)); refine blk_far ?_ NB507_514.out _; (with_reducible repeat (first | refine blk_drewN ?_ _ | refine blk_drew ?_ | refine blk_alloc ?_ _)); refine blk_far ?_ NB507_514.out _; (with_reducible repeat (first | refine blk_drewN ?_ _ | refine blk_drew ?_ | refine blk_alloc ?_ _)); exact BK507.out) hb); have n3_ := Aside0.mk (blk_below (g := gb514) (o := .cells #[.int .i64 t508, .int .i64 t509, .int .i64 t510] 30 (0, 0)) (by (with_reducible repeat (first | refine blk_drewN ?_ _ | refine blk_drew ?_ | refine blk_alloc ?_ _)); refine blk_far ?_ NB514_515.out _; (with_reducible repeat (first | refine blk_drewN ?_ _ | refine blk_drew ?_ | refine blk_alloc ?_ _)); refine blk_far ?_ NB514_515.out _; (with_reducible repeat (first | refine blk_drewN ?_ _ | refine blk_drew ?_ | refine blk_alloc ?_ _)); refine blk_put (cs := #[.int .i64 t508, .int .i64 t509, .int .i64 0]) ?_ 2 _ rfl; (with_reducible repeat (first | refine blk_drewN ?_ _ | refine blk_drew ?_ | refine blk_alloc ?_ _)); refine blk_put (cs := #[.int .i64 t508, .int .i64 0, .int .i64 0]) ?_ 1 _ rfl; (with_reducible repeat (first | refine blk_drewN ?_ _ | refine blk_drew ?_ | refine blk_alloc ?_ _)); refine blk_put (cs := #[.int .i64 0, .int .i64 0, .int .i64 0]) ?_ 0 _ rfl; (with_reducible repeat (first | refine blk_drewN ?_ _ | refine blk_drew ?_ | refine blk_alloc ?_ _)); exact BK514.out) hb); have n4_ := Aside0.mk (blk_below (g := gb515) (o := .cells #[.int .i64 t511, .int .i64 t512] 32 (0, 0)) (by (with_reducible repeat (first | refine blk_drewN ?_ _ | refine blk_drew ?_ | refine blk_alloc ?_ _)); refine blk_put (cs := #[.int .i64 t511, .int .i64 0]) ?_ 1 _ rfl; (with_reducible repeat (first | refine blk_drewN ?_ _ | refine blk_drew ?_ | refine blk_alloc ?_ _)); refine blk_put (cs := #[.int .i64 0, .int .i64 0]) ?_ 0 _ rfl; (with_reducible repeat (first | refine blk_drewN ?_ _ | refine blk_drew ?_ | refine blk_alloc ?_ _)); refine blk_far ?_ NB515_514.out _; (with_reducible repeat (first | refine blk_drewN ?_ _ | refine blk_drew ?_ | refine blk_alloc ?_ _)); refine blk_far ?_ NB515_514.out _; (with_reducible repeat (first | refine blk_drewN ?_ _ | refine blk_drew ?_ | refine blk_alloc ?_ _)); refine blk_far ?_ NB515_514.out _; (with_reducible repeat (first | refine blk_drewN ?_ _ | refine blk_drew ?_ | refine blk_alloc ?_ _)); exact BK515.out) hb); have n5_ := HB.s3 GE507 GE514 GE515 hb; clear HO506; clear BK507; clear BK514; clear BK515; clear HB; have HO506 := n0_; have HO518 := n1_; have BK507 := n2_; have BK514 := n3_; have BK515 := n4_; have HB := n5_; clear n0_ n1_ n2_ n3_ n4_ n5_; clear hb ho188) | ((with_reducible refine gate_builtin (b := .append) (xs := #[.tmp 24, .tmp 25]) rfl ?_); (try (refine gate_guard (by rfl) ?_; dsimp only)); at_builtin; refine Kd.R_append_rows (Kd.int .i64) (w0 := w) w.heap.size rfl (.tmp 24) (.tmp 25) 26 3 (.int .i64 0) 8 rfl Try.underlying26 info3 rfl (by decide) (by omega) v517 y516 t504 _ _ _ (fun k_ => some k_ ≠ (.slice Ao178 t504.length co178 : Value).ownBlock) (fun _ => False) rfl rfl ?aO ?aR (fun _ _ h => h) (fun _ h => h.elim) ?aF ?aB ?aS ?aL ?_; (case aR => repeat (first | exact (Kd.R_reads' HO506.out).2.2 | (with_reducible refine Kd.C_alloc ?_ _) | (with_reducible refine Kd.C_drewN ?_ _) | (with_reducible refine Kd.C_drew ?_))); (case aB => exact (hb3_ HB.out GE507.out GE514.out GE515.out)); (case aF => exact (fun k_ hk => Kd.fresh' (Kd.R_lt (kr_ HO506.out)) k_ hk)); (case aO => exact (by (with_reducible repeat (first | apply Kd.R_alloc | apply Kd.R_drewN | apply Kd.R_drew)); exact Kd.R_mono HO518.out (fun _ hk => hk.2))); (case aS => exact (below_size (hb3_ HB.out GE507.out GE514.out GE515.out))); (case aL => have := LMc6.out; omega); intro v520 w189 ho hb hg hat; rw [← Ny519.out] at ho; replace HO506 := Aside0.mk (Kd.R_after (ok := (fun _ => True)) (by first | exact (kr_ HO506.out) | exact Kd.R_mono HO506.out (fun _ hk => ⟨trivial, hk⟩)) hg hat); replace BK507 := Aside0.mk (blk_grown (g := gb507) (o := .cells #[.int .i64 t502, .int .i64 t503] 25 (0, 0)) (bk_ BK507.out) hg (Kd.R_ne HO518.out BK507.out (by decide))); replace BK514 := Aside0.mk (blk_grown (g := gb514) (o := .cells #[.int .i64 t508, .int .i64 t509, .int .i64 t510] 30 (0, 0)) (bk_ BK514.out) hg (Kd.R_ne HO518.out BK514.out (by decide))); replace BK515 := Aside0.mk (blk_grown (g := gb515) (o := .cells #[.int .i64 t511, .int .i64 t512] 32 (0, 0)) (bk_ BK515.out) hg (Kd.R_ne HO518.out BK515.out (by decide))); replace HB := Aside0.mk (hb); have HO521 := Aside0.mk (ho); clear HO518; clear ho hb hg hat) | (refine gl_ 28 Try.func7 #[.slice A0 l0.length c0, .int .i64 0] ?_; (with_reducible refine (laws_at.calls _ _ l0 0 t522 _ ?side1 ?side2 A7.out).mono ?_); (case side1 => repeat (first | exact (Kd.C_below HR0.out HB.out) | (with_reducible refine Kd.C_alloc ?_ _) | (with_reducible refine Kd.C_drewN ?_ _) | (with_reducible refine Kd.C_drew ?_))); (case side2 => exact HC0.out); rintro e w' ⟨rfl, ⟨nd, rfl⟩⟩; refine ⟨_, rfl, ?_⟩; (try (rw [drewN_self w189]; generalize hq_ : World.drewN w189 _ = w189; have n0_ : Aside0 (Kd.R (Kd.int .i64) 3 w189 w.heap.size (fun k_ => some k_ ≠ (v520 : Value).ownBlock) (.slice Ao178 t504.length co178) t504) := ⟨by rw [← hq_]; exact (by (with_reducible repeat (first | apply Kd.R_alloc | apply Kd.R_drewN | apply Kd.R_drew)); exact Kd.R_mono HO506.out (fun _ hk => hk.2))⟩; have n1_ : Aside0 (Kd.R (Kd.int .i64) 3 w189 w.heap.size (fun k_ => some k_ ≠ (.slice Ao178 t504.length co178 : Value).ownBlock) v520 y519) := ⟨by rw [← hq_]; exact (kr_ HO521.out)⟩; have n2_ : Aside0 (w189.heap[gb507]? = some (.cells #[.int .i64 t502, .int .i64 t503] 25 (0, 0))) := ⟨by rw [← hq_]; exact (bk_ BK507.out)⟩; have n3_ : Aside0 (w189.heap[gb514]? = some (.cells #[.int .i64 t508, .int .i64 t509, .int .i64 t510] 30 (0, 0))) := ⟨by rw [← hq_]; exact (bk_ BK514.out)⟩; have n4_ : Aside0 (w189.heap[gb515]? = some (.cells #[.int .i64 t511, .int .i64 t512] 32 (0, 0))) := ⟨by rw [← hq_]; exact (bk_ BK515.out)⟩; have n5_ : Aside0 (Below w.heap.size w w189) := ⟨by rw [← hq_]; exact (hb3_ HB.out GE507.out GE514.out GE515.out)⟩; clear HO506 HO521 BK507 BK514 BK515 HB hq_; have HO506 := n0_; have HO521 := n1_; have BK507 := n2_; have BK514 := n3_; have BK515 := n4_; have HB := n5_; clear n0_ n1_ n2_ n3_ n4_ n5_))) | ((with_reducible refine gate_builtin (b := .append) (xs := #[.tmp 26, .tmp 30]) rfl ?_); (try (refine gate_guard (by rfl) ?_; dsimp only)); at_builtin; refine Kd.R_append (Kd.int .i64) (w0 := w) w.heap.size rfl (.tmp 26) (.tmp 30) 26 3 (.int .i64 0) 8 rfl Try.underlying26 info3 rfl (by decide) (by omega) v520 y519 (Int.tmod t522 4) [.int .i64 (Int.tmod t522 4)] (fun k_ => some k_ ≠ (.slice Ao178 t504.length co178 : Value).ownBlock) (fun _ => False) rfl rfl ?aP (fun _ hk => hk.elim) ?aF ?aO ?aB ?aS ?aL ?_; (case aP => exact rfl); (case aB => exact (hb3_ HB.out GE507.out GE514.out GE515.out)); (case aF => exact (fun k_ hk => Kd.fresh' (Kd.R_lt (kr_ HO506.out)) k_ hk)); (case aO => exact (kr_ HO521.out)); (case aS => exact (below_size (hb3_ HB.out GE507.out GE514.out GE515.out))); (case aL => have := LMc8.out; omega); intro v524 w190 ho hb hg hat; rw [← Ny523.out] at ho; replace HO506 := Aside0.mk (Kd.R_after (ok := (fun _ => True)) (by first | exact (kr_ HO506.out) | exact Kd.R_mono HO506.out (fun _ hk => ⟨trivial, hk⟩)) hg hat); replace BK507 := Aside0.mk (blk_grown (g := gb507) (o := .cells #[.int .i64 t502, .int .i64 t503] 25 (0, 0)) (bk_ BK507.out) hg (Kd.R_ne HO521.out BK507.out (by decide))); replace BK514 := Aside0.mk (blk_grown (g := gb514) (o := .cells #[.int .i64 t508, .int .i64 t509, .int .i64 t510] 30 (0, 0)) (bk_ BK514.out) hg (Kd.R_ne HO521.out BK514.out (by decide))); replace BK515 := Aside0.mk (blk_grown (g := gb515) (o := .cells #[.int .i64 t511, .int .i64 t512] 32 (0, 0)) (bk_ BK515.out) hg (Kd.R_ne HO521.out BK515.out (by decide))); replace HB := Aside0.mk (hb); have HO525 := Aside0.mk (ho); clear HO521; clear ho hb hg hat))
        replace HO506 := Aside0.mk (Kd.R_drew HO506.out)
        replace HO525 := Aside0.mk (Kd.R_drew HO525.out)
        replace BK507 := Aside0.mk (blk_drew BK507.out)
        replace BK514 := Aside0.mk (blk_drew BK514.out)
        replace BK515 := Aside0.mk (blk_drew BK515.out)
        replace HB := Aside0.mk (below_drew1 HB.out)
        refine start_ (n := 11) (S := fun w' => w'.cell? ⟨gb507, 0, none⟩ = some (.int .i64 t502) ∧ w'.cell? ⟨gb507, 1, none⟩ = some (.int .i64 t503)) (ds := []) #[false, false, false, false, false, false, false, false, false, false, false] (by kernel_rfl) rfl rfl ⟨BK507.c 0, BK507.c 1⟩ (fun hHeld => ?_); refine with_tabW laws_FnUniversals.tab8 laws_FnUniversals.bits8 (fun HT_ HW_ => ?_)
        generalize w190.drew = w191 at HO506 HO525 BK507 BK514 BK515 HB hHeld ⊢
        refine pv_ (i := 0) (N := some 64) HT_.out ?_
        refine pv_ (i := 5) (N := some 69) HT_.out ?_
        refine tv2_ (i := 2) (N := some 66) HT_.out HW_.out hHeld ?_
        refine join_ (σ := Nat) 1 #[true, true, true, true, true, true, true, true, true, true, false] (fun s_ => [(65, .int .i64 t533), (67, .int .i64 t534), (70, .int .i64 t535), (9, .pointer (some ⟨s_, 0, none⟩)), (68, .int .i64 (Int.tmod t533 t534)), (71, .int .i64 (Int.tmod t535 4)), (72, .agg #[.int .i64 (Int.tmod t533 t534), .int .i64 (Int.tmod t535 4)])]) (fun s_ w' => (w'.cell? ⟨gb507, 0, none⟩ = some (.int .i64 t502) ∧ w'.cell? ⟨gb507, 1, none⟩ = some (.int .i64 t503)) ∧ (Kd.R (Kd.int .i64) 3 w' w.heap.size (fun k_ => some k_ ≠ (v524 : Value).ownBlock) (.slice Ao178 t504.length co178) t504) ∧ (Kd.R (Kd.int .i64) 3 w' w.heap.size (fun k_ => some k_ ≠ (.slice Ao178 t504.length co178 : Value).ownBlock) v524 y523) ∧ (w'.heap[gb507]? = some (.cells #[.int .i64 t502, .int .i64 t503] 25 (0, 0))) ∧ (w'.heap[gb514]? = some (.cells #[.int .i64 t508, .int .i64 t509, .int .i64 t510] 30 (0, 0))) ∧ (w'.heap[gb515]? = some (.cells #[.int .i64 t511, .int .i64 t512] 32 (0, 0))) ∧ (w'.heap[s_]? = some (.cells #[.int .i64 0, .int .i64 0] 32 (0, 0))) ∧ (w.heap.size ≤ s_) ∧ (w.heap.size ≤ s_) ∧ (gb507 ≠ s_) ∧ (s_ ≠ gb507) ∧ (gb514 ≠ s_) ∧ (s_ ≠ gb514) ∧ (gb515 ≠ s_) ∧ (s_ ≠ gb515) ∧ (Below w.heap.size w w')) ?_ ?_
        rotate_left
        ·intro hCont
         refine two_ (i := 1) (j := 9) (Ni := some 65) (Nj := some 9) #[true, true, true, false, false, true, false, false, false, false, false] #[true, false, true, false, false, true, false, false, false, true, false] rfl rfl rfl rfl (two_of HT_.out (by kernel_rfl)) (by decide) (by decide) (fun K hK => ?_) (fun K hK => ?_)
         ·skip
          refine gq_ Try.func7 #[.slice A0 l0.length c0, .int .i64 1] ?_
          with_reducible refine (laws_at.calls _ _ l0 1 t533 _ ?side1 ?side2 A136.out).mono ?_
          (case side1 => repeat (first | exact (Kd.C_below HR0.out HB.out) | (with_reducible refine Kd.C_alloc ?_ _) | (with_reducible refine Kd.C_drewN ?_ _) | (with_reducible refine Kd.C_drew ?_)))
          (case side2 => exact HC0.out)
          rintro e w' ⟨rfl, ⟨nd, rfl⟩⟩
          refine ⟨_, rfl, ?_⟩
          refine hK.out _ _ ⟨BK507.c 0, BK507.c 1⟩ (fun hHeld => ?_)
          clear hK K
          refine nm_ ?_
          refine two_ (i := 3) (j := 9) (Ni := some 67) (Nj := some 9) #[true, true, true, true, false, true, false, false, false, false, false] #[true, true, true, false, false, true, false, false, false, true, false] rfl rfl rfl rfl (two_of HT_.out (by kernel_rfl)) (by decide) (by decide) (fun K hK => ?_) (fun K hK => ?_)
          ·skip
           refine gq_ Try.func13 #[.agg #[.int .i64 t502, .int .i64 t503]] ?_
           with_reducible refine (spec_CountCells.calls t502 t503 t534 _ A137.out).mono ?_
           rintro e w192 ⟨rfl, hb⟩
           refine ⟨_, rfl, ?_⟩
           replace HO506 := HO506.kb hb
           replace HO525 := HO525.kb hb
           replace BK507 := BK507.bb hb
           replace BK514 := BK514.bb hb
           replace BK515 := BK515.bb hb
           replace HB := HB.s3 GE507 GE514 GE515 hb
           skip
           (try clear hb2)
           (try clear hk)
           (try clear hi)
           refine hK.out _ _ ⟨BK507.c 0, BK507.c 1⟩ (fun hHeld => ?_)
           clear hK K
           refine nm_ ?_
           refine pv_ (i := 4) (N := some 68) HT_.out ?_
           refine two_ (i := 6) (j := 9) (Ni := some 70) (Nj := some 9) #[true, true, true, true, true, true, true, false, false, false, false] #[true, true, true, true, true, true, false, false, false, true, false] rfl rfl rfl rfl (two_of HT_.out (by kernel_rfl)) (by decide) (by decide) (fun K hK => ?_) (fun K hK => ?_)
           ·skip
            refine gq_ Try.func7 #[.slice A0 l0.length c0, .int .i64 2] ?_
            with_reducible refine (laws_at.calls _ _ l0 2 t535 _ ?side1 ?side2 A139.out).mono ?_
            (case side1 => repeat (first | exact (Kd.C_below HR0.out HB.out) | (with_reducible refine Kd.C_alloc ?_ _) | (with_reducible refine Kd.C_drewN ?_ _) | (with_reducible refine Kd.C_drew ?_)))
            (case side2 => exact HC0.out)
            rintro e w' ⟨rfl, ⟨nd, rfl⟩⟩
            refine ⟨_, rfl, ?_⟩
            refine hK.out _ _ ⟨BK507.c 0, BK507.c 1⟩ (fun hHeld => ?_)
            clear hK K
            refine nm_ ?_
            refine pv_ (i := 7) (N := some 71) HT_.out ?_
            refine pv_ (i := 8) (N := some 72) HT_.out ?_
            refine ov_ (i := 9) (N := some 9) HT_.out (fun K hK => ?_)
            refine box_step ?hg (N := 9) ?hd (cs := #[.int .i64 0, .int .i64 0]) (t := 32) ?hr ?_; (case hd => rfl); (case hg => rfl); (case hr => first | (go_simp; done) | (go_simp; rfl))
            intro gb536 hg w193 hbox hb
            have n0_ := HO506.kb hb
            have n1_ := HO525.kb hb
            have n2_ := BK507.bb hb
            have n3_ := BK514.bb hb
            have n4_ := BK515.bb hb
            have n5_ := HB.s3 GE507 GE514 GE515 hb
            have n6_ := Aside0.mk (hbox)
            have n7_ := HB.g3 GE507 GE514 GE515 hg
            have n8_ := HB.g3 GE507 GE514 GE515 hg
            have n9_ := BK507.nl hg
            have n10_ := BK507.nr hg
            have n11_ := BK514.nl hg
            have n12_ := BK514.nr hg
            have n13_ := BK515.nl hg
            have n14_ := BK515.nr hg
            clear HO506
            clear HO525
            clear BK507
            clear BK514
            clear BK515
            clear HB
            have HO506 := n0_
            have HO525 := n1_
            have BK507 := n2_
            have BK514 := n3_
            have BK515 := n4_
            have HB := n5_
            have BK536 := n6_
            have GW536 := n7_
            have GE536 := n8_
            have NB507_536 := n9_
            have NB536_507 := n10_
            have NB514_536 := n11_
            have NB536_514 := n12_
            have NB515_536 := n13_
            have NB536_515 := n14_
            clear n0_ n1_ n2_ n3_ n4_ n5_ n6_ n7_ n8_ n9_ n10_ n11_ n12_ n13_ n14_
            clear hb hbox hg
            refine hK.out _ _ ⟨BK507.c 0, BK507.c 1⟩ (fun hHeld => ?_)
            clear hK K
            refine norm_ (a' := ?_) ?_ ?_
            rotate_left
            ·show Act.put _ (some 9) _ = _
             simp only [Act.put, List.setIfInBounds_toArray, List.set_cons_zero, List.set_cons_succ, i64_w, i32_w]
             rfl
            exact norm_ (by simp only [putAll, Act.put, List.setIfInBounds_toArray, List.set_cons_zero, List.set_cons_succ]) (hCont (gb536) _ ⟨hHeld, (by (with_reducible repeat (first | apply Kd.R_alloc | apply Kd.R_drewN | apply Kd.R_drew)); exact Kd.R_mono HO506.out (fun _ hk => hk.2)), (kr_ HO525.out), (bk_ BK507.out), (bk_ BK514.out), (bk_ BK515.out), (bk_ BK536.out), GW536.out, GE536.out, NB507_536.out, NB536_507.out, NB514_536.out, NB536_514.out, NB515_536.out, NB536_515.out, (hb4_ HB.out GE507.out GE514.out GE515.out GE536.out)⟩)
           ·skip
            refine box_step ?hg (N := 9) ?hd (cs := #[.int .i64 0, .int .i64 0]) (t := 32) ?hr ?_; (case hd => rfl); (case hg => rfl); (case hr => first | (go_simp; done) | (go_simp; rfl))
            intro gb536 hg w193 hbox hb
            have n0_ := HO506.kb hb
            have n1_ := HO525.kb hb
            have n2_ := BK507.bb hb
            have n3_ := BK514.bb hb
            have n4_ := BK515.bb hb
            have n5_ := HB.s3 GE507 GE514 GE515 hb
            have n6_ := Aside0.mk (hbox)
            have n7_ := HB.g3 GE507 GE514 GE515 hg
            have n8_ := HB.g3 GE507 GE514 GE515 hg
            have n9_ := BK507.nl hg
            have n10_ := BK507.nr hg
            have n11_ := BK514.nl hg
            have n12_ := BK514.nr hg
            have n13_ := BK515.nl hg
            have n14_ := BK515.nr hg
            clear HO506
            clear HO525
            clear BK507
            clear BK514
            clear BK515
            clear HB
            have HO506 := n0_
            have HO525 := n1_
            have BK507 := n2_
            have BK514 := n3_
            have BK515 := n4_
            have HB := n5_
            have BK536 := n6_
            have GW536 := n7_
            have GE536 := n8_
            have NB507_536 := n9_
            have NB536_507 := n10_
            have NB514_536 := n11_
            have NB536_514 := n12_
            have NB515_536 := n13_
            have NB536_515 := n14_
            clear n0_ n1_ n2_ n3_ n4_ n5_ n6_ n7_ n8_ n9_ n10_ n11_ n12_ n13_ n14_
            clear hb hbox hg
            refine hK.out _ _ ⟨BK507.c 0, BK507.c 1⟩ (fun hHeld => ?_)
            clear hK K
            refine norm_ (a' := ?_) ?_ ?_
            rotate_left
            ·show Act.put _ (some 9) _ = _
             simp only [Act.put, List.setIfInBounds_toArray, List.set_cons_zero, List.set_cons_succ, i64_w, i32_w]
             rfl
            refine ov_ (i := 6) (N := some 70) HT_.out (fun K hK => ?_)
            refine gq_ Try.func7 #[.slice A0 l0.length c0, .int .i64 2] ?_
            with_reducible refine (laws_at.calls _ _ l0 2 t535 _ ?side1 ?side2 A139.out).mono ?_
            (case side1 => repeat (first | exact (Kd.C_below HR0.out HB.out) | (with_reducible refine Kd.C_alloc ?_ _) | (with_reducible refine Kd.C_drewN ?_ _) | (with_reducible refine Kd.C_drew ?_)))
            (case side2 => exact HC0.out)
            rintro e w' ⟨rfl, ⟨nd, rfl⟩⟩
            refine ⟨_, rfl, ?_⟩
            refine hK.out _ _ ⟨BK507.c 0, BK507.c 1⟩ (fun hHeld => ?_)
            clear hK K
            refine nm_ ?_
            refine pv_ (i := 7) (N := some 71) HT_.out ?_
            refine pv_ (i := 8) (N := some 72) HT_.out ?_
            exact norm_ (by simp only [putAll, Act.put, List.setIfInBounds_toArray, List.set_cons_zero, List.set_cons_succ]) (hCont (gb536) _ ⟨hHeld, (by (with_reducible repeat (first | apply Kd.R_alloc | apply Kd.R_drewN | apply Kd.R_drew)); exact Kd.R_mono HO506.out (fun _ hk => hk.2)), (kr_ HO525.out), (bk_ BK507.out), (bk_ BK514.out), (bk_ BK515.out), (bk_ BK536.out), GW536.out, GE536.out, NB507_536.out, NB536_507.out, NB514_536.out, NB536_514.out, NB515_536.out, NB536_515.out, (hb4_ HB.out GE507.out GE514.out GE515.out GE536.out)⟩)
          ·skip
           refine box_step ?hg (N := 9) ?hd (cs := #[.int .i64 0, .int .i64 0]) (t := 32) ?hr ?_; (case hd => rfl); (case hg => rfl); (case hr => first | (go_simp; done) | (go_simp; rfl))
           intro gb536 hg w192 hbox hb
           have n0_ := HO506.kb hb
           have n1_ := HO525.kb hb
           have n2_ := BK507.bb hb
           have n3_ := BK514.bb hb
           have n4_ := BK515.bb hb
           have n5_ := HB.s3 GE507 GE514 GE515 hb
           have n6_ := Aside0.mk (hbox)
           have n7_ := HB.g3 GE507 GE514 GE515 hg
           have n8_ := HB.g3 GE507 GE514 GE515 hg
           have n9_ := BK507.nl hg
           have n10_ := BK507.nr hg
           have n11_ := BK514.nl hg
           have n12_ := BK514.nr hg
           have n13_ := BK515.nl hg
           have n14_ := BK515.nr hg
           clear HO506
           clear HO525
           clear BK507
           clear BK514
           clear BK515
           clear HB
           have HO506 := n0_
           have HO525 := n1_
           have BK507 := n2_
           have BK514 := n3_
           have BK515 := n4_
           have HB := n5_
           have BK536 := n6_
           have GW536 := n7_
           have GE536 := n8_
           have NB507_536 := n9_
           have NB536_507 := n10_
           have NB514_536 := n11_
           have NB536_514 := n12_
           have NB515_536 := n13_
           have NB536_515 := n14_
           clear n0_ n1_ n2_ n3_ n4_ n5_ n6_ n7_ n8_ n9_ n10_ n11_ n12_ n13_ n14_
           clear hb hbox hg
           refine hK.out _ _ ⟨BK507.c 0, BK507.c 1⟩ (fun hHeld => ?_)
           clear hK K
           refine norm_ (a' := ?_) ?_ ?_
           rotate_left
           ·show Act.put _ (some 9) _ = _
            simp only [Act.put, List.setIfInBounds_toArray, List.set_cons_zero, List.set_cons_succ, i64_w, i32_w]
            rfl
           refine ov_ (i := 3) (N := some 67) HT_.out (fun K hK => ?_)
           refine gq_ Try.func13 #[.agg #[.int .i64 t502, .int .i64 t503]] ?_
           with_reducible refine (spec_CountCells.calls t502 t503 t534 _ A137.out).mono ?_
           rintro e w193 ⟨rfl, hb⟩
           refine ⟨_, rfl, ?_⟩
           replace HO506 := HO506.kb hb
           replace HO525 := HO525.kb hb
           replace BK507 := BK507.bb hb
           replace BK514 := BK514.bb hb
           replace BK515 := BK515.bb hb
           replace BK536 := BK536.bb hb
           replace HB := HB.s4 GE507 GE514 GE515 GE536 hb
           skip
           (try clear hb2)
           (try clear hk)
           (try clear hi)
           refine hK.out _ _ ⟨BK507.c 0, BK507.c 1⟩ (fun hHeld => ?_)
           clear hK K
           refine nm_ ?_
           refine pv_ (i := 4) (N := some 68) HT_.out ?_
           refine ov_ (i := 6) (N := some 70) HT_.out (fun K hK => ?_)
           refine gq_ Try.func7 #[.slice A0 l0.length c0, .int .i64 2] ?_
           with_reducible refine (laws_at.calls _ _ l0 2 t535 _ ?side1 ?side2 A139.out).mono ?_
           (case side1 => repeat (first | exact (Kd.C_below HR0.out HB.out) | (with_reducible refine Kd.C_alloc ?_ _) | (with_reducible refine Kd.C_drewN ?_ _) | (with_reducible refine Kd.C_drew ?_)))
           (case side2 => exact HC0.out)
           rintro e w' ⟨rfl, ⟨nd, rfl⟩⟩
           refine ⟨_, rfl, ?_⟩
           refine hK.out _ _ ⟨BK507.c 0, BK507.c 1⟩ (fun hHeld => ?_)
           clear hK K
           refine nm_ ?_
           refine pv_ (i := 7) (N := some 71) HT_.out ?_
           refine pv_ (i := 8) (N := some 72) HT_.out ?_
           exact norm_ (by simp only [putAll, Act.put, List.setIfInBounds_toArray, List.set_cons_zero, List.set_cons_succ]) (hCont (gb536) _ ⟨hHeld, (by (with_reducible repeat (first | apply Kd.R_alloc | apply Kd.R_drewN | apply Kd.R_drew)); exact Kd.R_mono HO506.out (fun _ hk => hk.2)), (kr_ HO525.out), (bk_ BK507.out), (bk_ BK514.out), (bk_ BK515.out), (bk_ BK536.out), GW536.out, GE536.out, NB507_536.out, NB536_507.out, NB514_536.out, NB536_514.out, NB515_536.out, NB536_515.out, (hb4_ HB.out GE507.out GE514.out GE515.out GE536.out)⟩)
         ·skip
          refine box_step ?hg (N := 9) ?hd (cs := #[.int .i64 0, .int .i64 0]) (t := 32) ?hr ?_; (case hd => rfl); (case hg => rfl); (case hr => first | (go_simp; done) | (go_simp; rfl))
          intro gb536 hg w192 hbox hb
          have n0_ := HO506.kb hb
          have n1_ := HO525.kb hb
          have n2_ := BK507.bb hb
          have n3_ := BK514.bb hb
          have n4_ := BK515.bb hb
          have n5_ := HB.s3 GE507 GE514 GE515 hb
          have n6_ := Aside0.mk (hbox)
          have n7_ := HB.g3 GE507 GE514 GE515 hg
          have n8_ := HB.g3 GE507 GE514 GE515 hg
          have n9_ := BK507.nl hg
          have n10_ := BK507.nr hg
          have n11_ := BK514.nl hg
          have n12_ := BK514.nr hg
          have n13_ := BK515.nl hg
          have n14_ := BK515.nr hg
          clear HO506
          clear HO525
          clear BK507
          clear BK514
          clear BK515
          clear HB
          have HO506 := n0_
          have HO525 := n1_
          have BK507 := n2_
          have BK514 := n3_
          have BK515 := n4_
          have HB := n5_
          have BK536 := n6_
          have GW536 := n7_
          have GE536 := n8_
          have NB507_536 := n9_
          have NB536_507 := n10_
          have NB514_536 := n11_
          have NB536_514 := n12_
          have NB515_536 := n13_
          have NB536_515 := n14_
          clear n0_ n1_ n2_ n3_ n4_ n5_ n6_ n7_ n8_ n9_ n10_ n11_ n12_ n13_ n14_
          clear hb hbox hg
          refine hK.out _ _ ⟨BK507.c 0, BK507.c 1⟩ (fun hHeld => ?_)
          clear hK K
          refine norm_ (a' := ?_) ?_ ?_
          rotate_left
          ·show Act.put _ (some 9) _ = _
           simp only [Act.put, List.setIfInBounds_toArray, List.set_cons_zero, List.set_cons_succ, i64_w, i32_w]
           rfl
          refine ov_ (i := 1) (N := some 65) HT_.out (fun K hK => ?_)
          refine gq_ Try.func7 #[.slice A0 l0.length c0, .int .i64 1] ?_
          with_reducible refine (laws_at.calls _ _ l0 1 t533 _ ?side1 ?side2 A136.out).mono ?_
          (case side1 => repeat (first | exact (Kd.C_below HR0.out HB.out) | (with_reducible refine Kd.C_alloc ?_ _) | (with_reducible refine Kd.C_drewN ?_ _) | (with_reducible refine Kd.C_drew ?_)))
          (case side2 => exact HC0.out)
          rintro e w' ⟨rfl, ⟨nd, rfl⟩⟩
          refine ⟨_, rfl, ?_⟩
          refine hK.out _ _ ⟨BK507.c 0, BK507.c 1⟩ (fun hHeld => ?_)
          clear hK K
          refine nm_ ?_
          refine ov_ (i := 3) (N := some 67) HT_.out (fun K hK => ?_)
          refine gq_ Try.func13 #[.agg #[.int .i64 t502, .int .i64 t503]] ?_
          with_reducible refine (spec_CountCells.calls t502 t503 t534 _ A137.out).mono ?_
          rintro e w193 ⟨rfl, hb⟩
          refine ⟨_, rfl, ?_⟩
          replace HO506 := HO506.kb hb
          replace HO525 := HO525.kb hb
          replace BK507 := BK507.bb hb
          replace BK514 := BK514.bb hb
          replace BK515 := BK515.bb hb
          replace BK536 := BK536.bb hb
          replace HB := HB.s4 GE507 GE514 GE515 GE536 hb
          skip
          (try clear hb2)
          (try clear hk)
          (try clear hi)
          refine hK.out _ _ ⟨BK507.c 0, BK507.c 1⟩ (fun hHeld => ?_)
          clear hK K
          refine nm_ ?_
          refine pv_ (i := 4) (N := some 68) HT_.out ?_
          refine ov_ (i := 6) (N := some 70) HT_.out (fun K hK => ?_)
          refine gq_ Try.func7 #[.slice A0 l0.length c0, .int .i64 2] ?_
          with_reducible refine (laws_at.calls _ _ l0 2 t535 _ ?side1 ?side2 A139.out).mono ?_
          (case side1 => repeat (first | exact (Kd.C_below HR0.out HB.out) | (with_reducible refine Kd.C_alloc ?_ _) | (with_reducible refine Kd.C_drewN ?_ _) | (with_reducible refine Kd.C_drew ?_)))
          (case side2 => exact HC0.out)
          rintro e w' ⟨rfl, ⟨nd, rfl⟩⟩
          refine ⟨_, rfl, ?_⟩
          refine hK.out _ _ ⟨BK507.c 0, BK507.c 1⟩ (fun hHeld => ?_)
          clear hK K
          refine nm_ ?_
          refine pv_ (i := 7) (N := some 71) HT_.out ?_
          refine pv_ (i := 8) (N := some 72) HT_.out ?_
          exact norm_ (by simp only [putAll, Act.put, List.setIfInBounds_toArray, List.set_cons_zero, List.set_cons_succ]) (hCont (gb536) _ ⟨hHeld, (by (with_reducible repeat (first | apply Kd.R_alloc | apply Kd.R_drewN | apply Kd.R_drew)); exact Kd.R_mono HO506.out (fun _ hk => hk.2)), (kr_ HO525.out), (bk_ BK507.out), (bk_ BK514.out), (bk_ BK515.out), (bk_ BK536.out), GW536.out, GE536.out, NB507_536.out, NB536_507.out, NB514_536.out, NB536_514.out, NB515_536.out, NB536_515.out, (hb4_ HB.out GE507.out GE514.out GE515.out GE536.out)⟩)
        rintro gb536 w194 ⟨hS_, h0_, h1_, h2_, h3_, h4_, h5_, h6_, h7_, h8_, h9_, h10_, h11_, h12_, h13_, h14_⟩
        have n0_ : Aside0 (Kd.R (Kd.int .i64) 3 w194 w.heap.size (fun k_ => some k_ ≠ (v524 : Value).ownBlock) (.slice Ao178 t504.length co178) t504) := ⟨h0_⟩
        have n1_ : Aside0 (Kd.R (Kd.int .i64) 3 w194 w.heap.size (fun k_ => some k_ ≠ (.slice Ao178 t504.length co178 : Value).ownBlock) v524 y523) := ⟨h1_⟩
        have n2_ : Aside0 (w194.heap[gb507]? = some (.cells #[.int .i64 t502, .int .i64 t503] 25 (0, 0))) := ⟨h2_⟩
        have n3_ : Aside0 (w194.heap[gb514]? = some (.cells #[.int .i64 t508, .int .i64 t509, .int .i64 t510] 30 (0, 0))) := ⟨h3_⟩
        have n4_ : Aside0 (w194.heap[gb515]? = some (.cells #[.int .i64 t511, .int .i64 t512] 32 (0, 0))) := ⟨h4_⟩
        have n5_ : Aside0 (w194.heap[gb536]? = some (.cells #[.int .i64 0, .int .i64 0] 32 (0, 0))) := ⟨h5_⟩
        have n6_ : Aside0 (w.heap.size ≤ gb536) := ⟨h6_⟩
        have n7_ : Aside0 (w.heap.size ≤ gb536) := ⟨h7_⟩
        have n8_ : Aside0 (gb507 ≠ gb536) := ⟨h8_⟩
        have n9_ : Aside0 (gb536 ≠ gb507) := ⟨h9_⟩
        have n10_ : Aside0 (gb514 ≠ gb536) := ⟨h10_⟩
        have n11_ : Aside0 (gb536 ≠ gb514) := ⟨h11_⟩
        have n12_ : Aside0 (gb515 ≠ gb536) := ⟨h12_⟩
        have n13_ : Aside0 (gb536 ≠ gb515) := ⟨h13_⟩
        have n14_ : Aside0 (Below w.heap.size w w194) := ⟨h14_⟩
        clear HO506
        clear HO525
        clear BK507
        clear BK514
        clear BK515
        clear HB
        clear h0_ h1_ h2_ h3_ h4_ h5_ h6_ h7_ h8_ h9_ h10_ h11_ h12_ h13_ h14_
        have HO506 := n0_
        have HO525 := n1_
        have BK507 := n2_
        have BK514 := n3_
        have BK515 := n4_
        have BK536 := n5_
        have GW536 := n6_
        have GE536 := n7_
        have NB507_536 := n8_
        have NB536_507 := n9_
        have NB514_536 := n10_
        have NB536_514 := n11_
        have NB515_536 := n12_
        have NB536_515 := n13_
        have HB := n14_
        clear n0_ n1_ n2_ n3_ n4_ n5_ n6_ n7_ n8_ n9_ n10_ n11_ n12_ n13_ n14_
        have hHeld : w194.cell? ⟨gb507, 0, none⟩ = some (.int .i64 t502) ∧ w194.cell? ⟨gb507, 1, none⟩ = some (.int .i64 t503) := hS_
        refine norm_ (a' := ?_) ?_ ?_
        rotate_left
        ·simp only [putAll, Act.put, List.setIfInBounds_toArray, List.set_cons_zero, List.set_cons_succ]
         rfl
        refine one_ (i := 10) (N := none) #[true, true, true, true, true, true, true, true, true, true, true] rfl rfl (one_of HT_.out (by kernel_rfl)) (by decide) (fun K hK => ?_)
        have hs195 : w194.cell? ⟨gb536, 0, none⟩ = some (.int .i64 0) := BK536.c 0
        have hfs195 := blk_frozen BK536.out 0
        have hns195_0 := NB507_536.out
        have hns195_1 := NB514_536.out
        have hns195_2 := NB515_536.out
        have hms195_0 := NB536_507.out
        have hms195_1 := NB536_514.out
        have hms195_2 := NB536_515.out
        have hs196 : w194.cell? ⟨gb536, 1, none⟩ = some (.int .i64 0) := BK536.c 1
        have hfs196 := blk_frozen BK536.out 1
        have hns196_0 := NB507_536.out
        have hns196_1 := NB514_536.out
        have hns196_2 := NB515_536.out
        have hms196_0 := NB536_507.out
        have hms196_1 := NB536_514.out
        have hms196_2 := NB536_515.out
        refine skip_ (w1 := ?_) (by rfl) rfl ?_ ?_
        rotate_left
        ·go_simp
         rfl
        refine hK.out _ _ ⟨((cell_far (p := ⟨gb536, _, none⟩) NB507_536.out _).trans (((cell_far (p := ⟨gb536, _, none⟩) NB507_536.out _).trans (hHeld.1)))), ((cell_far (p := ⟨gb536, _, none⟩) NB507_536.out _).trans (((cell_far (p := ⟨gb536, _, none⟩) NB507_536.out _).trans (hHeld.2))))⟩ (fun hHeld => ?_)
        clear hK K
        refine done_ (done_of HT_.out (by kernel_rfl)) ?_
        try go_wp2
        have n0_ : Aside0 (Kd.R (Kd.int .i64) 3 ((w194.setCell ⟨gb536, 0, none⟩ (.int .i64 (Int.tmod t533 t534))).setCell ⟨gb536, 1, none⟩ (.int .i64 (Int.tmod t535 4))) w.heap.size (fun k_ => some k_ ≠ (v524 : Value).ownBlock) (.slice Ao178 t504.length co178) t504) := ⟨by (with_reducible repeat (first | apply Kd.R_alloc | apply Kd.R_drewN | apply Kd.R_drew)); exact Kd.R_mono (Kd.R_far (p := ⟨gb536, 1, none⟩) (Kd.R_far (p := ⟨gb536, 0, none⟩) (Kd.R_types HO506.out BK536.out (by decide)) (fun _ hk => hk.2) (.int .i64 (Int.tmod t533 t534))) (fun _ hk => hk.2) (.int .i64 (Int.tmod t535 4))) (fun _ hk => hk.1)⟩
        have n1_ : Aside0 (Kd.R (Kd.int .i64) 3 ((w194.setCell ⟨gb536, 0, none⟩ (.int .i64 (Int.tmod t533 t534))).setCell ⟨gb536, 1, none⟩ (.int .i64 (Int.tmod t535 4))) w.heap.size (fun k_ => some k_ ≠ (.slice Ao178 t504.length co178 : Value).ownBlock) v524 y523) := ⟨by (with_reducible repeat (first | apply Kd.R_alloc | apply Kd.R_drewN | apply Kd.R_drew)); exact Kd.R_mono (Kd.R_far (p := ⟨gb536, 1, none⟩) (Kd.R_far (p := ⟨gb536, 0, none⟩) (Kd.R_types HO525.out BK536.out (by decide)) (fun _ hk => hk.2) (.int .i64 (Int.tmod t533 t534))) (fun _ hk => hk.2) (.int .i64 (Int.tmod t535 4))) (fun _ hk => hk.1)⟩
        have n2_ : Aside0 (((w194.setCell ⟨gb536, 0, none⟩ (.int .i64 (Int.tmod t533 t534))).setCell ⟨gb536, 1, none⟩ (.int .i64 (Int.tmod t535 4))).heap[gb507]? = some (.cells #[.int .i64 t502, .int .i64 t503] 25 (0, 0))) := ⟨by (with_reducible repeat (first | refine blk_drewN ?_ _ | refine blk_drew ?_ | refine blk_alloc ?_ _)); refine blk_far ?_ NB507_536.out _; (with_reducible repeat (first | refine blk_drewN ?_ _ | refine blk_drew ?_ | refine blk_alloc ?_ _)); refine blk_far ?_ NB507_536.out _; (with_reducible repeat (first | refine blk_drewN ?_ _ | refine blk_drew ?_ | refine blk_alloc ?_ _)); exact BK507.out⟩
        have n3_ : Aside0 (((w194.setCell ⟨gb536, 0, none⟩ (.int .i64 (Int.tmod t533 t534))).setCell ⟨gb536, 1, none⟩ (.int .i64 (Int.tmod t535 4))).heap[gb514]? = some (.cells #[.int .i64 t508, .int .i64 t509, .int .i64 t510] 30 (0, 0))) := ⟨by (with_reducible repeat (first | refine blk_drewN ?_ _ | refine blk_drew ?_ | refine blk_alloc ?_ _)); refine blk_far ?_ NB514_536.out _; (with_reducible repeat (first | refine blk_drewN ?_ _ | refine blk_drew ?_ | refine blk_alloc ?_ _)); refine blk_far ?_ NB514_536.out _; (with_reducible repeat (first | refine blk_drewN ?_ _ | refine blk_drew ?_ | refine blk_alloc ?_ _)); exact BK514.out⟩
        have n4_ : Aside0 (((w194.setCell ⟨gb536, 0, none⟩ (.int .i64 (Int.tmod t533 t534))).setCell ⟨gb536, 1, none⟩ (.int .i64 (Int.tmod t535 4))).heap[gb515]? = some (.cells #[.int .i64 t511, .int .i64 t512] 32 (0, 0))) := ⟨by (with_reducible repeat (first | refine blk_drewN ?_ _ | refine blk_drew ?_ | refine blk_alloc ?_ _)); refine blk_far ?_ NB515_536.out _; (with_reducible repeat (first | refine blk_drewN ?_ _ | refine blk_drew ?_ | refine blk_alloc ?_ _)); refine blk_far ?_ NB515_536.out _; (with_reducible repeat (first | refine blk_drewN ?_ _ | refine blk_drew ?_ | refine blk_alloc ?_ _)); exact BK515.out⟩
        have n5_ : Aside0 (((w194.setCell ⟨gb536, 0, none⟩ (.int .i64 (Int.tmod t533 t534))).setCell ⟨gb536, 1, none⟩ (.int .i64 (Int.tmod t535 4))).heap[gb536]? = some (.cells #[.int .i64 (Int.tmod t533 t534), .int .i64 (Int.tmod t535 4)] 32 (0, 0))) := ⟨bq2_ BK536.out⟩
        have n6_ : Aside0 (Below w.heap.size w ((w194.setCell ⟨gb536, 0, none⟩ (.int .i64 (Int.tmod t533 t534))).setCell ⟨gb536, 1, none⟩ (.int .i64 (Int.tmod t535 4)))) := ⟨hb4_ HB.out GE507.out GE514.out GE515.out GE536.out⟩
        (try clear HO506)
        (try clear HO525)
        (try clear BK507)
        (try clear BK514)
        (try clear BK515)
        (try clear BK536)
        (try clear HB)
        generalize ((w194.setCell ⟨gb536, 0, none⟩ (.int .i64 (Int.tmod t533 t534))).setCell ⟨gb536, 1, none⟩ (.int .i64 (Int.tmod t535 4))) = w197 at n0_ n1_ n2_ n3_ n4_ n5_ n6_ ⊢
        have HO506 := n0_
        have HO525 := n1_
        have BK507 := n2_
        have BK514 := n3_
        have BK515 := n4_
        have BK536 := n5_
        have HB := n6_
        clear n0_ n1_ n2_ n3_ n4_ n5_ n6_
        replace HO506 := Aside0.mk (Kd.R_drew HO506.out)
        replace HO525 := Aside0.mk (Kd.R_drew HO525.out)
        replace BK507 := Aside0.mk (blk_drew BK507.out)
        replace BK514 := Aside0.mk (blk_drew BK514.out)
        replace BK515 := Aside0.mk (blk_drew BK515.out)
        replace BK536 := Aside0.mk (blk_drew BK536.out)
        replace HB := Aside0.mk (below_drew1 HB.out)
        refine start_ (n := 17) (S := fun w' => w'.cell? ⟨gb507, 0, none⟩ = some (.int .i64 t502) ∧ w'.cell? ⟨gb507, 1, none⟩ = some (.int .i64 t503)) (ds := []) #[false, false, false, false, false, false, false, false, false, false, false, false, false, false, false, false, false] (by kernel_rfl) rfl rfl ⟨BK507.c 0, BK507.c 1⟩ (fun hHeld => ?_); refine with_tabW laws_FnUniversals.tab9 laws_FnUniversals.bits9 (fun HT_ HW_ => ?_)
        generalize w197.drew = w198 at HO506 HO525 BK507 BK514 BK515 BK536 HB hHeld ⊢
        refine pv_ (i := 1) (N := some 74) HT_.out ?_
        refine tv2_ (i := 0) (N := some 73) HT_.out HW_.out hHeld ?_
        refine ov_ (i := 2) (N := some 75) HT_.out (fun K hK => ?_)
        refine gq_ Try.func8 #[.agg #[.int .i64 t502, .int .i64 t503], .slice Ao178 t504.length co178] ?_
        with_reducible refine (impl_IsUniversal.calls k t502 t503 _ _ t504 true _ ?side1 ?side2 A140.out).mono ?_
        (case side1 => repeat (first | exact (Kd.R_reads' HO506.out).2.2 | (with_reducible refine Kd.C_alloc ?_ _) | (with_reducible refine Kd.C_drewN ?_ _) | (with_reducible refine Kd.C_drew ?_)))
        (case side2 => exact (Kd.R_reads' HO506.out).2.1)
        rintro e w199 ⟨rfl, hb⟩
        refine ⟨_, rfl, ?_⟩
        replace HO506 := HO506.kb hb
        replace HO525 := HO525.kb hb
        replace BK507 := BK507.bb hb
        replace BK514 := BK514.bb hb
        replace BK515 := BK515.bb hb
        replace BK536 := BK536.bb hb
        replace HB := HB.s4 GE507 GE514 GE515 GE536 hb
        skip
        (try clear hb2)
        (try clear hk)
        (try clear hi)
        obtain ⟨Ao200, co200, eo200⟩ := Kd.R_slice HO525.out
        (first | subst eo200 | (injection eo200 with f1_ f2_ f3_; have f4_ := f1_.symm; have f5_ := f3_.symm; clear f1_ f2_ f3_; subst f4_; subst f5_))
        refine hK.out _ _ ⟨BK507.c 0, BK507.c 1⟩ (fun hHeld => ?_)
        clear hK K
        refine nm_ ?_
        refine pv_ (i := 3) (N := some 76) HT_.out ?_
        refine pv_ (i := 5) (N := some 78) HT_.out ?_
        refine tv2_ (i := 4) (N := some 77) HT_.out HW_.out hHeld ?_
        refine ov_ (i := 6) (N := some 79) HT_.out (fun K hK => ?_)
        refine gq_ Try.func8 #[.agg #[.int .i64 t502, .int .i64 t503], .slice Ao200 y523.length co200] ?_
        with_reducible refine (impl_IsUniversal.calls k t502 t503 _ _ y523 false _ ?side1 ?side2 A142.out).mono ?_
        (case side1 => repeat (first | exact (Kd.R_reads' HO525.out).2.2 | (with_reducible refine Kd.C_alloc ?_ _) | (with_reducible refine Kd.C_drewN ?_ _) | (with_reducible refine Kd.C_drew ?_)))
        (case side2 => exact (Kd.R_reads' HO525.out).2.1)
        rintro e w201 ⟨rfl, hb⟩
        refine ⟨_, rfl, ?_⟩
        replace HO506 := HO506.kb hb
        replace HO525 := HO525.kb hb
        replace BK507 := BK507.bb hb
        replace BK514 := BK514.bb hb
        replace BK515 := BK515.bb hb
        replace BK536 := BK536.bb hb
        replace HB := HB.s4 GE507 GE514 GE515 GE536 hb
        skip
        (try clear hb2)
        (try clear hk)
        (try clear hi)
        refine hK.out _ _ ⟨BK507.c 0, BK507.c 1⟩ (fun hHeld => ?_)
        clear hK K
        refine nm_ ?_
        refine pv_ (i := 7) (N := some 80) HT_.out ?_
        refine pv_ (i := 8) (N := some 81) HT_.out ?_
        refine pu_ (i := 9) (N := some 82) HT_.out ?_
        refine pu_ (i := 10) (N := some 83) HT_.out ?_
        refine pu_ (i := 11) (N := some 84) HT_.out ?_
        refine pu_ (i := 12) (N := some 85) HT_.out ?_
        refine pu_ (i := 13) (N := some 86) HT_.out ?_
        refine pu_ (i := 14) (N := some 87) HT_.out ?_
        refine pv_ (i := 15) (N := some 88) HT_.out ?_
        refine pv_ (i := 16) (N := some 2) HT_.out ?_
        refine done_ (done_of HT_.out (by kernel_rfl)) ?_
        try go_wp2
        go_ret
        exact ⟨ex_, hb4_ HB.out GE507.out GE514.out GE515.out GE536.out⟩
      ·replace c141 := Bool.eq_false_iff.mpr c141
       subst c141
       have H1 : (some false) = some r := by rw [if_neg (show ¬ (false = true) by decide)] at H; exact H
       clear H
       have H := H1
       clear H1
       obtain rfl := Option.some.inj H
       go_enter Try.func3, Try.ntmps3
       try go_wp2_with ((with_reducible refine gw_ ?_); first | (refine gl_ 11 Try.func4 #[.slice A0 l0.length c0] ?_; (with_reducible refine (laws_big.calls _ _ l0 false _ ?side1 ?side2 A2.out).mono ?_); (case side1 => exact kc_ HR0.out); (case side2 => exact HC0.out); rintro e w' ⟨rfl, ⟨nd, rfl⟩⟩; refine ⟨_, rfl, ?_⟩) | (refine gl_ 14 Try.func5 #[.slice A0 l0.length c0] ?_; (with_reducible refine (spec_DrawTurns.calls k _ _ l0 t502 t503 t504 _ ?side1 ?side2 A4.out).mono ?_); (case side1 => exact kc_ HR0.out); (case side2 => exact HC0.out); rintro e w202 ⟨v505, rfl, ho0, hb⟩; refine ⟨_, rfl, ?_⟩; have HO506 := Aside0.mk (Kd.R_lower ho0 (below_size (hb0_ HB.out))); replace HB := HB.s0 hb; (try clear hb); (try clear ho0)) | ((with_reducible refine gate_dst (N := 3) rfl ?_); (try (refine gate_guard (by rfl) ?_; dsimp only)); refine box_event ?hg (N := 3) ?hd (cs := #[.int .i64 0, .int .i64 0]) (t := 25) ?hr ?_; (case hd => rfl); (case hg => rfl); (case hr => first | (go_simp; done) | (go_simp; rfl)); intro gb507 hg w203 hbox hb; replace HO506 := HO506.kb hb; have BK507 := Aside0.mk (hbox); have GW507 := HB.g0 hg; have GE507 := HB.g0 hg; replace HB := HB.s0 hb; clear hb hbox hg; obtain ⟨hcz204_0, hcz204_1⟩ := cz2_ BK507.out; obtain ⟨hfz204_0, hfz204_1⟩ := fz2_ BK507.out; obtain ⟨Ao205, co205, eo205⟩ := Kd.R_slice HO506.out; subst eo205) | (refine gl_ 20 Try.func6 #[.agg #[.int .i64 t502, .int .i64 t503], .slice Ao205 t504.length co205] ?_; (with_reducible refine (impl_FirstFailure.calls k t502 t503 _ _ t504 t508 t509 t510 t511 t512 false _ ?side1 ?side2 A5.out).mono ?_); (case side1 => refine (Kd.R_reads' (e := 3) (base := w.heap.size) (ok := fun k_ => True) (n := t504.length) (c := co205) ?_).2.2; exact (rq2_ HO506.out BK507.out)); (case side2 => exact (Kd.R_reads' HO506.out).2.1); rintro e w206 ⟨rfl, hb⟩; refine ⟨_, rfl, ?_⟩; replace HO506 := Aside0.mk (Kd.R_below (rq2_ HO506.out BK507.out) hb); replace BK507 := Aside0.mk (blk_below (bq2_ BK507.out) hb); replace HB := HB.s1 GE507 hb; (try clear hb)) | ((with_reducible refine gate_dst (N := 5) rfl ?_); (try (refine gate_guard (by rfl) ?_; dsimp only)); refine box_event ?hg (N := 5) ?hd (cs := #[.int .i64 0, .int .i64 0, .int .i64 0]) (t := 30) ?hr ?_; (case hd => rfl); (case hg => rfl); (case hr => first | (go_simp; done) | (go_simp; rfl)); intro gb514 hg w207 hbox hb; replace HO506 := HO506.kb hb; have BK514 := Aside0.mk (hbox); have GW514 := HB.g1 GE507 hg; have GE514 := HB.g1 GE507 hg; replace HB := HB.s1 GE507 hb; have NB507_514 := BK507.nl hg; have NB514_507 := BK507.nr hg; replace BK507 := BK507.bb hb; clear hb hbox hg) | ((with_reducible refine gate_dst (N := 6) rfl ?_); (try (refine gate_guard (by rfl) ?_; dsimp only)); refine box_event ?hg (N := 6) ?hd (cs := #[.int .i64 0, .int .i64 0]) (t := 32) ?hr ?_; (case hd => rfl); (case hg => rfl); (case hr => first | (go_simp; done) | (go_simp; rfl)); intro gb515 hg w208 hbox hb; replace HO506 := HO506.kb hb; have BK515 := Aside0.mk (hbox); have GW515 := HB.g2 GE507 GE514 hg; have GE515 := HB.g2 GE507 GE514 hg; replace HB := HB.s2 GE507 GE514 hb; have NB507_515 := BK507.nl hg; have NB515_507 := BK507.nr hg; replace BK507 := BK507.bb hb; have NB514_515 := BK514.nl hg; have NB515_514 := BK514.nr hg; replace BK514 := BK514.bb hb; clear hb hbox hg; have hnb209 := NB514_507.out; have hnc209 := NB507_514.out; have hnb210 := NB514_515.out; have hnc210 := NB515_514.out; obtain ⟨hcz211_0, hcz211_1, hcz211_2⟩ := cz3_ BK514.out; obtain ⟨hfz211_0, hfz211_1, hfz211_2⟩ := fz3_ BK514.out; have hnb212 := NB515_507.out; have hnc212 := NB507_515.out; obtain ⟨hcz213_0, hcz213_1⟩ := cz2_ BK515.out; obtain ⟨hfz213_0, hfz213_1⟩ := fz2_ BK515.out) | ((with_reducible refine gate_dst (N := 24) rfl ?_); (try (refine gate_guard (by rfl) ?_; dsimp only)); refine Kd.R_lit (Kd.int .i64) _ 3 ?hg (N := 24) ?hd (xs := ([] : List Int)) (inner := []) (ok := fun _ => True) (okp := fun _ => True) ?hr ?hp (fun _ hk => hk) trivial (Below.refl _ _) (Nat.le_refl _) (by simp) ?_; (case hd => rfl); (case hg => rfl); (case hr => first | (go_simp; done) | (go_simp; rfl)); (case hp => exact (Reps.none _ _)); intro v517 w214 ho215 hb hg_ hnew_; clear hg_ hnew_; (first | rw [← Ny516.out] at ho215 | (simp only [Int.reduceToNat] at ho215; rw [← Ny516.out] at ho215)); have n0_ := Aside0.mk (Kd.R_elder' (by (with_reducible repeat (first | apply Kd.R_alloc | apply Kd.R_drewN | apply Kd.R_drew)); exact (Kd.R_mono (Kd.R_mono (Kd.R_far (p := ⟨gb515, 1, none⟩) (Kd.R_far (p := ⟨gb515, 0, none⟩) (Kd.R_far (p := ⟨gb514, 2, none⟩) (Kd.R_far (p := ⟨gb514, 1, none⟩) (Kd.R_far (p := ⟨gb514, 0, none⟩) (Kd.R_types (Kd.R_types HO506.out BK514.out (by decide)) BK515.out (by decide)) (fun _ hk => hk.1.2) (.int .i64 t508)) (fun _ hk => hk.1.2) (.int .i64 t509)) (fun _ hk => hk.1.2) (.int .i64 t510)) (fun _ hk => hk.2) (.int .i64 t511)) (fun _ hk => hk.2) (.int .i64 t512)) (fun _ h_ => h_.1)) (fun _ h_ => h_.1))) (Kd.R_base ho215) hb); have n1_ := Aside0.mk (Kd.R_lower (Kd.R_new' ho215 (Kd.R_lt (by (with_reducible repeat (first | apply Kd.R_alloc | apply Kd.R_drewN | apply Kd.R_drew)); exact (Kd.R_mono (Kd.R_mono (Kd.R_far (p := ⟨gb515, 1, none⟩) (Kd.R_far (p := ⟨gb515, 0, none⟩) (Kd.R_far (p := ⟨gb514, 2, none⟩) (Kd.R_far (p := ⟨gb514, 1, none⟩) (Kd.R_far (p := ⟨gb514, 0, none⟩) (Kd.R_types (Kd.R_types HO506.out BK514.out (by decide)) BK515.out (by decide)) (fun _ hk => hk.1.2) (.int .i64 t508)) (fun _ hk => hk.1.2) (.int .i64 t509)) (fun _ hk => hk.1.2) (.int .i64 t510)) (fun _ hk => hk.2) (.int .i64 t511)) (fun _ hk => hk.2) (.int .i64 t512)) (fun _ h_ => h_.1)) (fun _ h_ => h_.1))))) (below_size (hb3_ HB.out GE507.out GE514.out GE515.out))); have n2_ := Aside0.mk (blk_below (g := gb507) (o := .cells #[.int .i64 t502, .int .i64 t503] 25 (0, 0)) (by (with_reducible repeat (first | refine blk_drewN ?_ _ | refine blk_drew ?_ | refine blk_alloc ?_ _)); refine blk_far ?_ NB507_515.out _; (with_reducible repeat (first | refine blk_drewN ?_ _ | refine blk_drew ?_ | refine blk_alloc ?_ _)); refine blk_far ?_ NB507_515.out _; (with_reducible repeat (first | refine blk_drewN ?_ _ | refine blk_drew ?_ | refine blk_alloc ?_ _)); refine blk_far ?_ NB507_514.out _; (with_reducible repeat (first | refine blk_drewN ?_ _ | refine blk_drew ?_ | refine blk_alloc ?_ _)); refine blk_far ?_ NB507_514.out _; (with_reducible repeat (first | refine blk_drewN ?_ _ | refine blk_drew ?_ | refine blk_alloc ?_ _)); refine blk_far ?_ NB507_514.out _; (with_reducible repeat (first | refine blk_drewN ?_ _ | refine blk_drew ?_ | refine blk_alloc ?_ _)); exact BK507.out) hb); have n3_ := Aside0.mk (blk_below (g := gb514) (o := .cells #[.int .i64 t508, .int .i64 t509, .int .i64 t510] 30 (0, 0)) (by (with_reducible repeat (first | refine blk_drewN ?_ _ | refine blk_drew ?_ | refine blk_alloc ?_ _)); refine blk_far ?_ NB514_515.out _; (with_reducible repeat (first | refine blk_drewN ?_ _ | refine blk_drew ?_ | refine blk_alloc ?_ _)); refine blk_far ?_ NB514_515.out _; (with_reducible repeat (first | refine blk_drewN ?_ _ | refine blk_drew ?_ | refine blk_alloc ?_ _)); refine blk_put (cs := #[.int .i64 t508, .int .i64 t509, .int .i64 0]) ?_ 2 _ rfl; (with_reducible repeat (first | refine blk_drewN ?_ _ | refine blk_drew ?_ | refine blk_alloc ?_ _)); refine blk_put (cs := #[.int .i64 t508, .int .i64 0, .int .i64 0]) ?_ 1 _ rfl; (with_reducible repeat (first | refine blk_drewN ?_ _ | refine blk_drew ?_ | refine blk_alloc ?_ _)); refine blk_put (cs := #[.int .i64 0, .int .i64 0, .int .i64 0]) ?_ 0 _ rfl; (with_reducible repeat (first | refine blk_drewN ?_ _ | refine blk_drew ?_ | refine blk_alloc ?_ _)); exact BK514.out) hb); have n4_ := Aside0.mk (blk_below (g := gb515) (o := .cells #[.int .i64 t511, .int .i64 t512] 32 (0, 0)) (by (with_reducible repeat (first | refine blk_drewN ?_ _ | refine blk_drew ?_ | refine blk_alloc ?_ _)); refine blk_put (cs := #[.int .i64 t511, .int .i64 0]) ?_ 1 _ rfl; (with_reducible repeat (first | refine blk_drewN ?_ _ | refine blk_drew ?_ | refine blk_alloc ?_ _)); refine blk_put (cs := #[.int .i64 0, .int .i64 0]) ?_ 0 _ rfl; (with_reducible repeat (first | refine blk_drewN ?_ _ | refine blk_drew ?_ | refine blk_alloc ?_ _)); refine blk_far ?_ NB515_514.out _; (with_reducible repeat (first | refine blk_drewN ?_ _ | refine blk_drew ?_ | refine blk_alloc ?_ _)); refine blk_far ?_ NB515_514.out _; (with_reducible repeat (first | refine blk_drewN ?_ _ | refine blk_drew ?_ | refine blk_alloc ?_ _)); refine blk_far ?_ NB515_514.out _; (with_reducible repeat (first | refine blk_drewN ?_ _ | refine blk_drew ?_ | refine blk_alloc ?_ _)); exact BK515.out) hb); have n5_ := HB.s3 GE507 GE514 GE515 hb; clear HO506; clear BK507; clear BK514; clear BK515; clear HB; have HO506 := n0_; have HO518 := n1_; have BK507 := n2_; have BK514 := n3_; have BK515 := n4_; have HB := n5_; clear n0_ n1_ n2_ n3_ n4_ n5_; clear hb ho215) | ((with_reducible refine gate_builtin (b := .append) (xs := #[.tmp 24, .tmp 25]) rfl ?_); (try (refine gate_guard (by rfl) ?_; dsimp only)); at_builtin; refine Kd.R_append_rows (Kd.int .i64) (w0 := w) w.heap.size rfl (.tmp 24) (.tmp 25) 26 3 (.int .i64 0) 8 rfl Try.underlying26 info3 rfl (by decide) (by omega) v517 y516 t504 _ _ _ (fun k_ => some k_ ≠ (.slice Ao205 t504.length co205 : Value).ownBlock) (fun _ => False) rfl rfl ?aO ?aR (fun _ _ h => h) (fun _ h => h.elim) ?aF ?aB ?aS ?aL ?_; (case aR => repeat (first | exact (Kd.R_reads' HO506.out).2.2 | (with_reducible refine Kd.C_alloc ?_ _) | (with_reducible refine Kd.C_drewN ?_ _) | (with_reducible refine Kd.C_drew ?_))); (case aB => exact (hb3_ HB.out GE507.out GE514.out GE515.out)); (case aF => exact (fun k_ hk => Kd.fresh' (Kd.R_lt (kr_ HO506.out)) k_ hk)); (case aO => exact (by (with_reducible repeat (first | apply Kd.R_alloc | apply Kd.R_drewN | apply Kd.R_drew)); exact Kd.R_mono HO518.out (fun _ hk => hk.2))); (case aS => exact (below_size (hb3_ HB.out GE507.out GE514.out GE515.out))); (case aL => have := LMc6.out; omega); intro v520 w216 ho hb hg hat; rw [← Ny519.out] at ho; replace HO506 := Aside0.mk (Kd.R_after (ok := (fun _ => True)) (by first | exact (kr_ HO506.out) | exact Kd.R_mono HO506.out (fun _ hk => ⟨trivial, hk⟩)) hg hat); replace BK507 := Aside0.mk (blk_grown (g := gb507) (o := .cells #[.int .i64 t502, .int .i64 t503] 25 (0, 0)) (bk_ BK507.out) hg (Kd.R_ne HO518.out BK507.out (by decide))); replace BK514 := Aside0.mk (blk_grown (g := gb514) (o := .cells #[.int .i64 t508, .int .i64 t509, .int .i64 t510] 30 (0, 0)) (bk_ BK514.out) hg (Kd.R_ne HO518.out BK514.out (by decide))); replace BK515 := Aside0.mk (blk_grown (g := gb515) (o := .cells #[.int .i64 t511, .int .i64 t512] 32 (0, 0)) (bk_ BK515.out) hg (Kd.R_ne HO518.out BK515.out (by decide))); replace HB := Aside0.mk (hb); have HO521 := Aside0.mk (ho); clear HO518; clear ho hb hg hat) | (refine gl_ 28 Try.func7 #[.slice A0 l0.length c0, .int .i64 0] ?_; (with_reducible refine (laws_at.calls _ _ l0 0 t522 _ ?side1 ?side2 A7.out).mono ?_); (case side1 => repeat (first | exact (Kd.C_below HR0.out HB.out) | (with_reducible refine Kd.C_alloc ?_ _) | (with_reducible refine Kd.C_drewN ?_ _) | (with_reducible refine Kd.C_drew ?_))); (case side2 => exact HC0.out); rintro e w' ⟨rfl, ⟨nd, rfl⟩⟩; refine ⟨_, rfl, ?_⟩; (try (rw [drewN_self w216]; generalize hq_ : World.drewN w216 _ = w216; have n0_ : Aside0 (Kd.R (Kd.int .i64) 3 w216 w.heap.size (fun k_ => some k_ ≠ (v520 : Value).ownBlock) (.slice Ao205 t504.length co205) t504) := ⟨by rw [← hq_]; exact (by (with_reducible repeat (first | apply Kd.R_alloc | apply Kd.R_drewN | apply Kd.R_drew)); exact Kd.R_mono HO506.out (fun _ hk => hk.2))⟩; have n1_ : Aside0 (Kd.R (Kd.int .i64) 3 w216 w.heap.size (fun k_ => some k_ ≠ (.slice Ao205 t504.length co205 : Value).ownBlock) v520 y519) := ⟨by rw [← hq_]; exact (kr_ HO521.out)⟩; have n2_ : Aside0 (w216.heap[gb507]? = some (.cells #[.int .i64 t502, .int .i64 t503] 25 (0, 0))) := ⟨by rw [← hq_]; exact (bk_ BK507.out)⟩; have n3_ : Aside0 (w216.heap[gb514]? = some (.cells #[.int .i64 t508, .int .i64 t509, .int .i64 t510] 30 (0, 0))) := ⟨by rw [← hq_]; exact (bk_ BK514.out)⟩; have n4_ : Aside0 (w216.heap[gb515]? = some (.cells #[.int .i64 t511, .int .i64 t512] 32 (0, 0))) := ⟨by rw [← hq_]; exact (bk_ BK515.out)⟩; have n5_ : Aside0 (Below w.heap.size w w216) := ⟨by rw [← hq_]; exact (hb3_ HB.out GE507.out GE514.out GE515.out)⟩; clear HO506 HO521 BK507 BK514 BK515 HB hq_; have HO506 := n0_; have HO521 := n1_; have BK507 := n2_; have BK514 := n3_; have BK515 := n4_; have HB := n5_; clear n0_ n1_ n2_ n3_ n4_ n5_))) | ((with_reducible refine gate_builtin (b := .append) (xs := #[.tmp 26, .tmp 30]) rfl ?_); (try (refine gate_guard (by rfl) ?_; dsimp only)); at_builtin; refine Kd.R_append (Kd.int .i64) (w0 := w) w.heap.size rfl (.tmp 26) (.tmp 30) 26 3 (.int .i64 0) 8 rfl Try.underlying26 info3 rfl (by decide) (by omega) v520 y519 (Int.tmod t522 4) [.int .i64 (Int.tmod t522 4)] (fun k_ => some k_ ≠ (.slice Ao205 t504.length co205 : Value).ownBlock) (fun _ => False) rfl rfl ?aP (fun _ hk => hk.elim) ?aF ?aO ?aB ?aS ?aL ?_; (case aP => exact rfl); (case aB => exact (hb3_ HB.out GE507.out GE514.out GE515.out)); (case aF => exact (fun k_ hk => Kd.fresh' (Kd.R_lt (kr_ HO506.out)) k_ hk)); (case aO => exact (kr_ HO521.out)); (case aS => exact (below_size (hb3_ HB.out GE507.out GE514.out GE515.out))); (case aL => have := LMc8.out; omega); intro v524 w217 ho hb hg hat; rw [← Ny523.out] at ho; replace HO506 := Aside0.mk (Kd.R_after (ok := (fun _ => True)) (by first | exact (kr_ HO506.out) | exact Kd.R_mono HO506.out (fun _ hk => ⟨trivial, hk⟩)) hg hat); replace BK507 := Aside0.mk (blk_grown (g := gb507) (o := .cells #[.int .i64 t502, .int .i64 t503] 25 (0, 0)) (bk_ BK507.out) hg (Kd.R_ne HO521.out BK507.out (by decide))); replace BK514 := Aside0.mk (blk_grown (g := gb514) (o := .cells #[.int .i64 t508, .int .i64 t509, .int .i64 t510] 30 (0, 0)) (bk_ BK514.out) hg (Kd.R_ne HO521.out BK514.out (by decide))); replace BK515 := Aside0.mk (blk_grown (g := gb515) (o := .cells #[.int .i64 t511, .int .i64 t512] 32 (0, 0)) (bk_ BK515.out) hg (Kd.R_ne HO521.out BK515.out (by decide))); replace HB := Aside0.mk (hb); have HO525 := Aside0.mk (ho); clear HO521; clear ho hb hg hat))
       replace HO506 := Aside0.mk (Kd.R_drew HO506.out)
       replace HO525 := Aside0.mk (Kd.R_drew HO525.out)
       replace BK507 := Aside0.mk (blk_drew BK507.out)
       replace BK514 := Aside0.mk (blk_drew BK514.out)
       replace BK515 := Aside0.mk (blk_drew BK515.out)
       replace HB := Aside0.mk (below_drew1 HB.out)
       refine start_ (n := 11) (S := fun w' => w'.cell? ⟨gb507, 0, none⟩ = some (.int .i64 t502) ∧ w'.cell? ⟨gb507, 1, none⟩ = some (.int .i64 t503)) (ds := []) #[false, false, false, false, false, false, false, false, false, false, false] (by kernel_rfl) rfl rfl ⟨BK507.c 0, BK507.c 1⟩ (fun hHeld => ?_); refine with_tabW laws_FnUniversals.tab8 laws_FnUniversals.bits8 (fun HT_ HW_ => ?_)
       generalize w217.drew = w218 at HO506 HO525 BK507 BK514 BK515 HB hHeld ⊢
       refine pv_ (i := 0) (N := some 64) HT_.out ?_
       refine pv_ (i := 5) (N := some 69) HT_.out ?_
       refine tv2_ (i := 2) (N := some 66) HT_.out HW_.out hHeld ?_
       refine join_ (σ := Nat) 1 #[true, true, true, true, true, true, true, true, true, true, false] (fun s_ => [(65, .int .i64 t533), (67, .int .i64 t534), (70, .int .i64 t535), (9, .pointer (some ⟨s_, 0, none⟩)), (68, .int .i64 (Int.tmod t533 t534)), (71, .int .i64 (Int.tmod t535 4)), (72, .agg #[.int .i64 (Int.tmod t533 t534), .int .i64 (Int.tmod t535 4)])]) (fun s_ w' => (w'.cell? ⟨gb507, 0, none⟩ = some (.int .i64 t502) ∧ w'.cell? ⟨gb507, 1, none⟩ = some (.int .i64 t503)) ∧ (Kd.R (Kd.int .i64) 3 w' w.heap.size (fun k_ => some k_ ≠ (v524 : Value).ownBlock) (.slice Ao205 t504.length co205) t504) ∧ (Kd.R (Kd.int .i64) 3 w' w.heap.size (fun k_ => some k_ ≠ (.slice Ao205 t504.length co205 : Value).ownBlock) v524 y523) ∧ (w'.heap[gb507]? = some (.cells #[.int .i64 t502, .int .i64 t503] 25 (0, 0))) ∧ (w'.heap[gb514]? = some (.cells #[.int .i64 t508, .int .i64 t509, .int .i64 t510] 30 (0, 0))) ∧ (w'.heap[gb515]? = some (.cells #[.int .i64 t511, .int .i64 t512] 32 (0, 0))) ∧ (w'.heap[s_]? = some (.cells #[.int .i64 0, .int .i64 0] 32 (0, 0))) ∧ (w.heap.size ≤ s_) ∧ (w.heap.size ≤ s_) ∧ (gb507 ≠ s_) ∧ (s_ ≠ gb507) ∧ (gb514 ≠ s_) ∧ (s_ ≠ gb514) ∧ (gb515 ≠ s_) ∧ (s_ ≠ gb515) ∧ (Below w.heap.size w w')) ?_ ?_
       rotate_left
       ·intro hCont
        refine two_ (i := 1) (j := 9) (Ni := some 65) (Nj := some 9) #[true, true, true, false, false, true, false, false, false, false, false] #[true, false, true, false, false, true, false, false, false, true, false] rfl rfl rfl rfl (two_of HT_.out (by kernel_rfl)) (by decide) (by decide) (fun K hK => ?_) (fun K hK => ?_)
        ·skip
         refine gq_ Try.func7 #[.slice A0 l0.length c0, .int .i64 1] ?_
         with_reducible refine (laws_at.calls _ _ l0 1 t533 _ ?side1 ?side2 A136.out).mono ?_
         (case side1 => repeat (first | exact (Kd.C_below HR0.out HB.out) | (with_reducible refine Kd.C_alloc ?_ _) | (with_reducible refine Kd.C_drewN ?_ _) | (with_reducible refine Kd.C_drew ?_)))
         (case side2 => exact HC0.out)
         rintro e w' ⟨rfl, ⟨nd, rfl⟩⟩
         refine ⟨_, rfl, ?_⟩
         refine hK.out _ _ ⟨BK507.c 0, BK507.c 1⟩ (fun hHeld => ?_)
         clear hK K
         refine nm_ ?_
         refine two_ (i := 3) (j := 9) (Ni := some 67) (Nj := some 9) #[true, true, true, true, false, true, false, false, false, false, false] #[true, true, true, false, false, true, false, false, false, true, false] rfl rfl rfl rfl (two_of HT_.out (by kernel_rfl)) (by decide) (by decide) (fun K hK => ?_) (fun K hK => ?_)
         ·skip
          refine gq_ Try.func13 #[.agg #[.int .i64 t502, .int .i64 t503]] ?_
          with_reducible refine (spec_CountCells.calls t502 t503 t534 _ A137.out).mono ?_
          rintro e w219 ⟨rfl, hb⟩
          refine ⟨_, rfl, ?_⟩
          replace HO506 := HO506.kb hb
          replace HO525 := HO525.kb hb
          replace BK507 := BK507.bb hb
          replace BK514 := BK514.bb hb
          replace BK515 := BK515.bb hb
          replace HB := HB.s3 GE507 GE514 GE515 hb
          skip
          (try clear hb2)
          (try clear hk)
          (try clear hi)
          refine hK.out _ _ ⟨BK507.c 0, BK507.c 1⟩ (fun hHeld => ?_)
          clear hK K
          refine nm_ ?_
          refine pv_ (i := 4) (N := some 68) HT_.out ?_
          refine two_ (i := 6) (j := 9) (Ni := some 70) (Nj := some 9) #[true, true, true, true, true, true, true, false, false, false, false] #[true, true, true, true, true, true, false, false, false, true, false] rfl rfl rfl rfl (two_of HT_.out (by kernel_rfl)) (by decide) (by decide) (fun K hK => ?_) (fun K hK => ?_)
          ·skip
           refine gq_ Try.func7 #[.slice A0 l0.length c0, .int .i64 2] ?_
           with_reducible refine (laws_at.calls _ _ l0 2 t535 _ ?side1 ?side2 A139.out).mono ?_
           (case side1 => repeat (first | exact (Kd.C_below HR0.out HB.out) | (with_reducible refine Kd.C_alloc ?_ _) | (with_reducible refine Kd.C_drewN ?_ _) | (with_reducible refine Kd.C_drew ?_)))
           (case side2 => exact HC0.out)
           rintro e w' ⟨rfl, ⟨nd, rfl⟩⟩
           refine ⟨_, rfl, ?_⟩
           refine hK.out _ _ ⟨BK507.c 0, BK507.c 1⟩ (fun hHeld => ?_)
           clear hK K
           refine nm_ ?_
           refine pv_ (i := 7) (N := some 71) HT_.out ?_
           refine pv_ (i := 8) (N := some 72) HT_.out ?_
           refine ov_ (i := 9) (N := some 9) HT_.out (fun K hK => ?_)
           refine box_step ?hg (N := 9) ?hd (cs := #[.int .i64 0, .int .i64 0]) (t := 32) ?hr ?_; (case hd => rfl); (case hg => rfl); (case hr => first | (go_simp; done) | (go_simp; rfl))
           intro gb536 hg w220 hbox hb
           have n0_ := HO506.kb hb
           have n1_ := HO525.kb hb
           have n2_ := BK507.bb hb
           have n3_ := BK514.bb hb
           have n4_ := BK515.bb hb
           have n5_ := HB.s3 GE507 GE514 GE515 hb
           have n6_ := Aside0.mk (hbox)
           have n7_ := HB.g3 GE507 GE514 GE515 hg
           have n8_ := HB.g3 GE507 GE514 GE515 hg
           have n9_ := BK507.nl hg
           have n10_ := BK507.nr hg
           have n11_ := BK514.nl hg
           have n12_ := BK514.nr hg
           have n13_ := BK515.nl hg
           have n14_ := BK515.nr hg
           clear HO506
           clear HO525
           clear BK507
           clear BK514
           clear BK515
           clear HB
           have HO506 := n0_
           have HO525 := n1_
           have BK507 := n2_
           have BK514 := n3_
           have BK515 := n4_
           have HB := n5_
           have BK536 := n6_
           have GW536 := n7_
           have GE536 := n8_
           have NB507_536 := n9_
           have NB536_507 := n10_
           have NB514_536 := n11_
           have NB536_514 := n12_
           have NB515_536 := n13_
           have NB536_515 := n14_
           clear n0_ n1_ n2_ n3_ n4_ n5_ n6_ n7_ n8_ n9_ n10_ n11_ n12_ n13_ n14_
           clear hb hbox hg
           refine hK.out _ _ ⟨BK507.c 0, BK507.c 1⟩ (fun hHeld => ?_)
           clear hK K
           refine norm_ (a' := ?_) ?_ ?_
           rotate_left
           ·show Act.put _ (some 9) _ = _
            simp only [Act.put, List.setIfInBounds_toArray, List.set_cons_zero, List.set_cons_succ, i64_w, i32_w]
            rfl
           exact norm_ (by simp only [putAll, Act.put, List.setIfInBounds_toArray, List.set_cons_zero, List.set_cons_succ]) (hCont (gb536) _ ⟨hHeld, (by (with_reducible repeat (first | apply Kd.R_alloc | apply Kd.R_drewN | apply Kd.R_drew)); exact Kd.R_mono HO506.out (fun _ hk => hk.2)), (kr_ HO525.out), (bk_ BK507.out), (bk_ BK514.out), (bk_ BK515.out), (bk_ BK536.out), GW536.out, GE536.out, NB507_536.out, NB536_507.out, NB514_536.out, NB536_514.out, NB515_536.out, NB536_515.out, (hb4_ HB.out GE507.out GE514.out GE515.out GE536.out)⟩)
          ·skip
           refine box_step ?hg (N := 9) ?hd (cs := #[.int .i64 0, .int .i64 0]) (t := 32) ?hr ?_; (case hd => rfl); (case hg => rfl); (case hr => first | (go_simp; done) | (go_simp; rfl))
           intro gb536 hg w220 hbox hb
           have n0_ := HO506.kb hb
           have n1_ := HO525.kb hb
           have n2_ := BK507.bb hb
           have n3_ := BK514.bb hb
           have n4_ := BK515.bb hb
           have n5_ := HB.s3 GE507 GE514 GE515 hb
           have n6_ := Aside0.mk (hbox)
           have n7_ := HB.g3 GE507 GE514 GE515 hg
           have n8_ := HB.g3 GE507 GE514 GE515 hg
           have n9_ := BK507.nl hg
           have n10_ := BK507.nr hg
           have n11_ := BK514.nl hg
           have n12_ := BK514.nr hg
           have n13_ := BK515.nl hg
           have n14_ := BK515.nr hg
           clear HO506
           clear HO525
           clear BK507
           clear BK514
           clear BK515
           clear HB
           have HO506 := n0_
           have HO525 := n1_
           have BK507 := n2_
           have BK514 := n3_
           have BK515 := n4_
           have HB := n5_
           have BK536 := n6_
           have GW536 := n7_
           have GE536 := n8_
           have NB507_536 := n9_
           have NB536_507 := n10_
           have NB514_536 := n11_
           have NB536_514 := n12_
           have NB515_536 := n13_
           have NB536_515 := n14_
           clear n0_ n1_ n2_ n3_ n4_ n5_ n6_ n7_ n8_ n9_ n10_ n11_ n12_ n13_ n14_
           clear hb hbox hg
           refine hK.out _ _ ⟨BK507.c 0, BK507.c 1⟩ (fun hHeld => ?_)
           clear hK K
           refine norm_ (a' := ?_) ?_ ?_
           rotate_left
           ·show Act.put _ (some 9) _ = _
            simp only [Act.put, List.setIfInBounds_toArray, List.set_cons_zero, List.set_cons_succ, i64_w, i32_w]
            rfl
           refine ov_ (i := 6) (N := some 70) HT_.out (fun K hK => ?_)
           refine gq_ Try.func7 #[.slice A0 l0.length c0, .int .i64 2] ?_
           with_reducible refine (laws_at.calls _ _ l0 2 t535 _ ?side1 ?side2 A139.out).mono ?_
           (case side1 => repeat (first | exact (Kd.C_below HR0.out HB.out) | (with_reducible refine Kd.C_alloc ?_ _) | (with_reducible refine Kd.C_drewN ?_ _) | (with_reducible refine Kd.C_drew ?_)))
           (case side2 => exact HC0.out)
           rintro e w' ⟨rfl, ⟨nd, rfl⟩⟩
           refine ⟨_, rfl, ?_⟩
           refine hK.out _ _ ⟨BK507.c 0, BK507.c 1⟩ (fun hHeld => ?_)
           clear hK K
           refine nm_ ?_
           refine pv_ (i := 7) (N := some 71) HT_.out ?_
           refine pv_ (i := 8) (N := some 72) HT_.out ?_
           exact norm_ (by simp only [putAll, Act.put, List.setIfInBounds_toArray, List.set_cons_zero, List.set_cons_succ]) (hCont (gb536) _ ⟨hHeld, (by (with_reducible repeat (first | apply Kd.R_alloc | apply Kd.R_drewN | apply Kd.R_drew)); exact Kd.R_mono HO506.out (fun _ hk => hk.2)), (kr_ HO525.out), (bk_ BK507.out), (bk_ BK514.out), (bk_ BK515.out), (bk_ BK536.out), GW536.out, GE536.out, NB507_536.out, NB536_507.out, NB514_536.out, NB536_514.out, NB515_536.out, NB536_515.out, (hb4_ HB.out GE507.out GE514.out GE515.out GE536.out)⟩)
         ·skip
          refine box_step ?hg (N := 9) ?hd (cs := #[.int .i64 0, .int .i64 0]) (t := 32) ?hr ?_; (case hd => rfl); (case hg => rfl); (case hr => first | (go_simp; done) | (go_simp; rfl))
          intro gb536 hg w219 hbox hb
          have n0_ := HO506.kb hb
          have n1_ := HO525.kb hb
          have n2_ := BK507.bb hb
          have n3_ := BK514.bb hb
          have n4_ := BK515.bb hb
          have n5_ := HB.s3 GE507 GE514 GE515 hb
          have n6_ := Aside0.mk (hbox)
          have n7_ := HB.g3 GE507 GE514 GE515 hg
          have n8_ := HB.g3 GE507 GE514 GE515 hg
          have n9_ := BK507.nl hg
          have n10_ := BK507.nr hg
          have n11_ := BK514.nl hg
          have n12_ := BK514.nr hg
          have n13_ := BK515.nl hg
          have n14_ := BK515.nr hg
          clear HO506
          clear HO525
          clear BK507
          clear BK514
          clear BK515
          clear HB
          have HO506 := n0_
          have HO525 := n1_
          have BK507 := n2_
          have BK514 := n3_
          have BK515 := n4_
          have HB := n5_
          have BK536 := n6_
          have GW536 := n7_
          have GE536 := n8_
          have NB507_536 := n9_
          have NB536_507 := n10_
          have NB514_536 := n11_
          have NB536_514 := n12_
          have NB515_536 := n13_
          have NB536_515 := n14_
          clear n0_ n1_ n2_ n3_ n4_ n5_ n6_ n7_ n8_ n9_ n10_ n11_ n12_ n13_ n14_
          clear hb hbox hg
          refine hK.out _ _ ⟨BK507.c 0, BK507.c 1⟩ (fun hHeld => ?_)
          clear hK K
          refine norm_ (a' := ?_) ?_ ?_
          rotate_left
          ·show Act.put _ (some 9) _ = _
           simp only [Act.put, List.setIfInBounds_toArray, List.set_cons_zero, List.set_cons_succ, i64_w, i32_w]
           rfl
          refine ov_ (i := 3) (N := some 67) HT_.out (fun K hK => ?_)
          refine gq_ Try.func13 #[.agg #[.int .i64 t502, .int .i64 t503]] ?_
          with_reducible refine (spec_CountCells.calls t502 t503 t534 _ A137.out).mono ?_
          rintro e w220 ⟨rfl, hb⟩
          refine ⟨_, rfl, ?_⟩
          replace HO506 := HO506.kb hb
          replace HO525 := HO525.kb hb
          replace BK507 := BK507.bb hb
          replace BK514 := BK514.bb hb
          replace BK515 := BK515.bb hb
          replace BK536 := BK536.bb hb
          replace HB := HB.s4 GE507 GE514 GE515 GE536 hb
          skip
          (try clear hb2)
          (try clear hk)
          (try clear hi)
          refine hK.out _ _ ⟨BK507.c 0, BK507.c 1⟩ (fun hHeld => ?_)
          clear hK K
          refine nm_ ?_
          refine pv_ (i := 4) (N := some 68) HT_.out ?_
          refine ov_ (i := 6) (N := some 70) HT_.out (fun K hK => ?_)
          refine gq_ Try.func7 #[.slice A0 l0.length c0, .int .i64 2] ?_
          with_reducible refine (laws_at.calls _ _ l0 2 t535 _ ?side1 ?side2 A139.out).mono ?_
          (case side1 => repeat (first | exact (Kd.C_below HR0.out HB.out) | (with_reducible refine Kd.C_alloc ?_ _) | (with_reducible refine Kd.C_drewN ?_ _) | (with_reducible refine Kd.C_drew ?_)))
          (case side2 => exact HC0.out)
          rintro e w' ⟨rfl, ⟨nd, rfl⟩⟩
          refine ⟨_, rfl, ?_⟩
          refine hK.out _ _ ⟨BK507.c 0, BK507.c 1⟩ (fun hHeld => ?_)
          clear hK K
          refine nm_ ?_
          refine pv_ (i := 7) (N := some 71) HT_.out ?_
          refine pv_ (i := 8) (N := some 72) HT_.out ?_
          exact norm_ (by simp only [putAll, Act.put, List.setIfInBounds_toArray, List.set_cons_zero, List.set_cons_succ]) (hCont (gb536) _ ⟨hHeld, (by (with_reducible repeat (first | apply Kd.R_alloc | apply Kd.R_drewN | apply Kd.R_drew)); exact Kd.R_mono HO506.out (fun _ hk => hk.2)), (kr_ HO525.out), (bk_ BK507.out), (bk_ BK514.out), (bk_ BK515.out), (bk_ BK536.out), GW536.out, GE536.out, NB507_536.out, NB536_507.out, NB514_536.out, NB536_514.out, NB515_536.out, NB536_515.out, (hb4_ HB.out GE507.out GE514.out GE515.out GE536.out)⟩)
        ·skip
         refine box_step ?hg (N := 9) ?hd (cs := #[.int .i64 0, .int .i64 0]) (t := 32) ?hr ?_; (case hd => rfl); (case hg => rfl); (case hr => first | (go_simp; done) | (go_simp; rfl))
         intro gb536 hg w219 hbox hb
         have n0_ := HO506.kb hb
         have n1_ := HO525.kb hb
         have n2_ := BK507.bb hb
         have n3_ := BK514.bb hb
         have n4_ := BK515.bb hb
         have n5_ := HB.s3 GE507 GE514 GE515 hb
         have n6_ := Aside0.mk (hbox)
         have n7_ := HB.g3 GE507 GE514 GE515 hg
         have n8_ := HB.g3 GE507 GE514 GE515 hg
         have n9_ := BK507.nl hg
         have n10_ := BK507.nr hg
         have n11_ := BK514.nl hg
         have n12_ := BK514.nr hg
         have n13_ := BK515.nl hg
         have n14_ := BK515.nr hg
         clear HO506
         clear HO525
         clear BK507
         clear BK514
         clear BK515
         clear HB
         have HO506 := n0_
         have HO525 := n1_
         have BK507 := n2_
         have BK514 := n3_
         have BK515 := n4_
         have HB := n5_
         have BK536 := n6_
         have GW536 := n7_
         have GE536 := n8_
         have NB507_536 := n9_
         have NB536_507 := n10_
         have NB514_536 := n11_
         have NB536_514 := n12_
         have NB515_536 := n13_
         have NB536_515 := n14_
         clear n0_ n1_ n2_ n3_ n4_ n5_ n6_ n7_ n8_ n9_ n10_ n11_ n12_ n13_ n14_
         clear hb hbox hg
         refine hK.out _ _ ⟨BK507.c 0, BK507.c 1⟩ (fun hHeld => ?_)
         clear hK K
         refine norm_ (a' := ?_) ?_ ?_
         rotate_left
         ·show Act.put _ (some 9) _ = _
          simp only [Act.put, List.setIfInBounds_toArray, List.set_cons_zero, List.set_cons_succ, i64_w, i32_w]
          rfl
         refine ov_ (i := 1) (N := some 65) HT_.out (fun K hK => ?_)
         refine gq_ Try.func7 #[.slice A0 l0.length c0, .int .i64 1] ?_
         with_reducible refine (laws_at.calls _ _ l0 1 t533 _ ?side1 ?side2 A136.out).mono ?_
         (case side1 => repeat (first | exact (Kd.C_below HR0.out HB.out) | (with_reducible refine Kd.C_alloc ?_ _) | (with_reducible refine Kd.C_drewN ?_ _) | (with_reducible refine Kd.C_drew ?_)))
         (case side2 => exact HC0.out)
         rintro e w' ⟨rfl, ⟨nd, rfl⟩⟩
         refine ⟨_, rfl, ?_⟩
         refine hK.out _ _ ⟨BK507.c 0, BK507.c 1⟩ (fun hHeld => ?_)
         clear hK K
         refine nm_ ?_
         refine ov_ (i := 3) (N := some 67) HT_.out (fun K hK => ?_)
         refine gq_ Try.func13 #[.agg #[.int .i64 t502, .int .i64 t503]] ?_
         with_reducible refine (spec_CountCells.calls t502 t503 t534 _ A137.out).mono ?_
         rintro e w220 ⟨rfl, hb⟩
         refine ⟨_, rfl, ?_⟩
         replace HO506 := HO506.kb hb
         replace HO525 := HO525.kb hb
         replace BK507 := BK507.bb hb
         replace BK514 := BK514.bb hb
         replace BK515 := BK515.bb hb
         replace BK536 := BK536.bb hb
         replace HB := HB.s4 GE507 GE514 GE515 GE536 hb
         skip
         (try clear hb2)
         (try clear hk)
         (try clear hi)
         refine hK.out _ _ ⟨BK507.c 0, BK507.c 1⟩ (fun hHeld => ?_)
         clear hK K
         refine nm_ ?_
         refine pv_ (i := 4) (N := some 68) HT_.out ?_
         refine ov_ (i := 6) (N := some 70) HT_.out (fun K hK => ?_)
         refine gq_ Try.func7 #[.slice A0 l0.length c0, .int .i64 2] ?_
         with_reducible refine (laws_at.calls _ _ l0 2 t535 _ ?side1 ?side2 A139.out).mono ?_
         (case side1 => repeat (first | exact (Kd.C_below HR0.out HB.out) | (with_reducible refine Kd.C_alloc ?_ _) | (with_reducible refine Kd.C_drewN ?_ _) | (with_reducible refine Kd.C_drew ?_)))
         (case side2 => exact HC0.out)
         rintro e w' ⟨rfl, ⟨nd, rfl⟩⟩
         refine ⟨_, rfl, ?_⟩
         refine hK.out _ _ ⟨BK507.c 0, BK507.c 1⟩ (fun hHeld => ?_)
         clear hK K
         refine nm_ ?_
         refine pv_ (i := 7) (N := some 71) HT_.out ?_
         refine pv_ (i := 8) (N := some 72) HT_.out ?_
         exact norm_ (by simp only [putAll, Act.put, List.setIfInBounds_toArray, List.set_cons_zero, List.set_cons_succ]) (hCont (gb536) _ ⟨hHeld, (by (with_reducible repeat (first | apply Kd.R_alloc | apply Kd.R_drewN | apply Kd.R_drew)); exact Kd.R_mono HO506.out (fun _ hk => hk.2)), (kr_ HO525.out), (bk_ BK507.out), (bk_ BK514.out), (bk_ BK515.out), (bk_ BK536.out), GW536.out, GE536.out, NB507_536.out, NB536_507.out, NB514_536.out, NB536_514.out, NB515_536.out, NB536_515.out, (hb4_ HB.out GE507.out GE514.out GE515.out GE536.out)⟩)
       rintro gb536 w221 ⟨hS_, h0_, h1_, h2_, h3_, h4_, h5_, h6_, h7_, h8_, h9_, h10_, h11_, h12_, h13_, h14_⟩
       have n0_ : Aside0 (Kd.R (Kd.int .i64) 3 w221 w.heap.size (fun k_ => some k_ ≠ (v524 : Value).ownBlock) (.slice Ao205 t504.length co205) t504) := ⟨h0_⟩
       have n1_ : Aside0 (Kd.R (Kd.int .i64) 3 w221 w.heap.size (fun k_ => some k_ ≠ (.slice Ao205 t504.length co205 : Value).ownBlock) v524 y523) := ⟨h1_⟩
       have n2_ : Aside0 (w221.heap[gb507]? = some (.cells #[.int .i64 t502, .int .i64 t503] 25 (0, 0))) := ⟨h2_⟩
       have n3_ : Aside0 (w221.heap[gb514]? = some (.cells #[.int .i64 t508, .int .i64 t509, .int .i64 t510] 30 (0, 0))) := ⟨h3_⟩
       have n4_ : Aside0 (w221.heap[gb515]? = some (.cells #[.int .i64 t511, .int .i64 t512] 32 (0, 0))) := ⟨h4_⟩
       have n5_ : Aside0 (w221.heap[gb536]? = some (.cells #[.int .i64 0, .int .i64 0] 32 (0, 0))) := ⟨h5_⟩
       have n6_ : Aside0 (w.heap.size ≤ gb536) := ⟨h6_⟩
       have n7_ : Aside0 (w.heap.size ≤ gb536) := ⟨h7_⟩
       have n8_ : Aside0 (gb507 ≠ gb536) := ⟨h8_⟩
       have n9_ : Aside0 (gb536 ≠ gb507) := ⟨h9_⟩
       have n10_ : Aside0 (gb514 ≠ gb536) := ⟨h10_⟩
       have n11_ : Aside0 (gb536 ≠ gb514) := ⟨h11_⟩
       have n12_ : Aside0 (gb515 ≠ gb536) := ⟨h12_⟩
       have n13_ : Aside0 (gb536 ≠ gb515) := ⟨h13_⟩
       have n14_ : Aside0 (Below w.heap.size w w221) := ⟨h14_⟩
       clear HO506
       clear HO525
       clear BK507
       clear BK514
       clear BK515
       clear HB
       clear h0_ h1_ h2_ h3_ h4_ h5_ h6_ h7_ h8_ h9_ h10_ h11_ h12_ h13_ h14_
       have HO506 := n0_
       have HO525 := n1_
       have BK507 := n2_
       have BK514 := n3_
       have BK515 := n4_
       have BK536 := n5_
       have GW536 := n6_
       have GE536 := n7_
       have NB507_536 := n8_
       have NB536_507 := n9_
       have NB514_536 := n10_
       have NB536_514 := n11_
       have NB515_536 := n12_
       have NB536_515 := n13_
       have HB := n14_
       clear n0_ n1_ n2_ n3_ n4_ n5_ n6_ n7_ n8_ n9_ n10_ n11_ n12_ n13_ n14_
       have hHeld : w221.cell? ⟨gb507, 0, none⟩ = some (.int .i64 t502) ∧ w221.cell? ⟨gb507, 1, none⟩ = some (.int .i64 t503) := hS_
       refine norm_ (a' := ?_) ?_ ?_
       rotate_left
       ·simp only [putAll, Act.put, List.setIfInBounds_toArray, List.set_cons_zero, List.set_cons_succ]
        rfl
       refine one_ (i := 10) (N := none) #[true, true, true, true, true, true, true, true, true, true, true] rfl rfl (one_of HT_.out (by kernel_rfl)) (by decide) (fun K hK => ?_)
       have hs222 : w221.cell? ⟨gb536, 0, none⟩ = some (.int .i64 0) := BK536.c 0
       have hfs222 := blk_frozen BK536.out 0
       have hns222_0 := NB507_536.out
       have hns222_1 := NB514_536.out
       have hns222_2 := NB515_536.out
       have hms222_0 := NB536_507.out
       have hms222_1 := NB536_514.out
       have hms222_2 := NB536_515.out
       have hs223 : w221.cell? ⟨gb536, 1, none⟩ = some (.int .i64 0) := BK536.c 1
       have hfs223 := blk_frozen BK536.out 1
       have hns223_0 := NB507_536.out
       have hns223_1 := NB514_536.out
       have hns223_2 := NB515_536.out
       have hms223_0 := NB536_507.out
       have hms223_1 := NB536_514.out
       have hms223_2 := NB536_515.out
       refine skip_ (w1 := ?_) (by rfl) rfl ?_ ?_
       rotate_left
       ·go_simp
        rfl
       refine hK.out _ _ ⟨((cell_far (p := ⟨gb536, _, none⟩) NB507_536.out _).trans (((cell_far (p := ⟨gb536, _, none⟩) NB507_536.out _).trans (hHeld.1)))), ((cell_far (p := ⟨gb536, _, none⟩) NB507_536.out _).trans (((cell_far (p := ⟨gb536, _, none⟩) NB507_536.out _).trans (hHeld.2))))⟩ (fun hHeld => ?_)
       clear hK K
       refine done_ (done_of HT_.out (by kernel_rfl)) ?_
       try go_wp2
       have n0_ : Aside0 (Kd.R (Kd.int .i64) 3 ((w221.setCell ⟨gb536, 0, none⟩ (.int .i64 (Int.tmod t533 t534))).setCell ⟨gb536, 1, none⟩ (.int .i64 (Int.tmod t535 4))) w.heap.size (fun k_ => some k_ ≠ (v524 : Value).ownBlock) (.slice Ao205 t504.length co205) t504) := ⟨by (with_reducible repeat (first | apply Kd.R_alloc | apply Kd.R_drewN | apply Kd.R_drew)); exact Kd.R_mono (Kd.R_far (p := ⟨gb536, 1, none⟩) (Kd.R_far (p := ⟨gb536, 0, none⟩) (Kd.R_types HO506.out BK536.out (by decide)) (fun _ hk => hk.2) (.int .i64 (Int.tmod t533 t534))) (fun _ hk => hk.2) (.int .i64 (Int.tmod t535 4))) (fun _ hk => hk.1)⟩
       have n1_ : Aside0 (Kd.R (Kd.int .i64) 3 ((w221.setCell ⟨gb536, 0, none⟩ (.int .i64 (Int.tmod t533 t534))).setCell ⟨gb536, 1, none⟩ (.int .i64 (Int.tmod t535 4))) w.heap.size (fun k_ => some k_ ≠ (.slice Ao205 t504.length co205 : Value).ownBlock) v524 y523) := ⟨by (with_reducible repeat (first | apply Kd.R_alloc | apply Kd.R_drewN | apply Kd.R_drew)); exact Kd.R_mono (Kd.R_far (p := ⟨gb536, 1, none⟩) (Kd.R_far (p := ⟨gb536, 0, none⟩) (Kd.R_types HO525.out BK536.out (by decide)) (fun _ hk => hk.2) (.int .i64 (Int.tmod t533 t534))) (fun _ hk => hk.2) (.int .i64 (Int.tmod t535 4))) (fun _ hk => hk.1)⟩
       have n2_ : Aside0 (((w221.setCell ⟨gb536, 0, none⟩ (.int .i64 (Int.tmod t533 t534))).setCell ⟨gb536, 1, none⟩ (.int .i64 (Int.tmod t535 4))).heap[gb507]? = some (.cells #[.int .i64 t502, .int .i64 t503] 25 (0, 0))) := ⟨by (with_reducible repeat (first | refine blk_drewN ?_ _ | refine blk_drew ?_ | refine blk_alloc ?_ _)); refine blk_far ?_ NB507_536.out _; (with_reducible repeat (first | refine blk_drewN ?_ _ | refine blk_drew ?_ | refine blk_alloc ?_ _)); refine blk_far ?_ NB507_536.out _; (with_reducible repeat (first | refine blk_drewN ?_ _ | refine blk_drew ?_ | refine blk_alloc ?_ _)); exact BK507.out⟩
       have n3_ : Aside0 (((w221.setCell ⟨gb536, 0, none⟩ (.int .i64 (Int.tmod t533 t534))).setCell ⟨gb536, 1, none⟩ (.int .i64 (Int.tmod t535 4))).heap[gb514]? = some (.cells #[.int .i64 t508, .int .i64 t509, .int .i64 t510] 30 (0, 0))) := ⟨by (with_reducible repeat (first | refine blk_drewN ?_ _ | refine blk_drew ?_ | refine blk_alloc ?_ _)); refine blk_far ?_ NB514_536.out _; (with_reducible repeat (first | refine blk_drewN ?_ _ | refine blk_drew ?_ | refine blk_alloc ?_ _)); refine blk_far ?_ NB514_536.out _; (with_reducible repeat (first | refine blk_drewN ?_ _ | refine blk_drew ?_ | refine blk_alloc ?_ _)); exact BK514.out⟩
       have n4_ : Aside0 (((w221.setCell ⟨gb536, 0, none⟩ (.int .i64 (Int.tmod t533 t534))).setCell ⟨gb536, 1, none⟩ (.int .i64 (Int.tmod t535 4))).heap[gb515]? = some (.cells #[.int .i64 t511, .int .i64 t512] 32 (0, 0))) := ⟨by (with_reducible repeat (first | refine blk_drewN ?_ _ | refine blk_drew ?_ | refine blk_alloc ?_ _)); refine blk_far ?_ NB515_536.out _; (with_reducible repeat (first | refine blk_drewN ?_ _ | refine blk_drew ?_ | refine blk_alloc ?_ _)); refine blk_far ?_ NB515_536.out _; (with_reducible repeat (first | refine blk_drewN ?_ _ | refine blk_drew ?_ | refine blk_alloc ?_ _)); exact BK515.out⟩
       have n5_ : Aside0 (((w221.setCell ⟨gb536, 0, none⟩ (.int .i64 (Int.tmod t533 t534))).setCell ⟨gb536, 1, none⟩ (.int .i64 (Int.tmod t535 4))).heap[gb536]? = some (.cells #[.int .i64 (Int.tmod t533 t534), .int .i64 (Int.tmod t535 4)] 32 (0, 0))) := ⟨bq2_ BK536.out⟩
       have n6_ : Aside0 (Below w.heap.size w ((w221.setCell ⟨gb536, 0, none⟩ (.int .i64 (Int.tmod t533 t534))).setCell ⟨gb536, 1, none⟩ (.int .i64 (Int.tmod t535 4)))) := ⟨hb4_ HB.out GE507.out GE514.out GE515.out GE536.out⟩
       (try clear HO506)
       (try clear HO525)
       (try clear BK507)
       (try clear BK514)
       (try clear BK515)
       (try clear BK536)
       (try clear HB)
       generalize ((w221.setCell ⟨gb536, 0, none⟩ (.int .i64 (Int.tmod t533 t534))).setCell ⟨gb536, 1, none⟩ (.int .i64 (Int.tmod t535 4))) = w224 at n0_ n1_ n2_ n3_ n4_ n5_ n6_ ⊢
       have HO506 := n0_
       have HO525 := n1_
       have BK507 := n2_
       have BK514 := n3_
       have BK515 := n4_
       have BK536 := n5_
       have HB := n6_
       clear n0_ n1_ n2_ n3_ n4_ n5_ n6_
       replace HO506 := Aside0.mk (Kd.R_drew HO506.out)
       replace HO525 := Aside0.mk (Kd.R_drew HO525.out)
       replace BK507 := Aside0.mk (blk_drew BK507.out)
       replace BK514 := Aside0.mk (blk_drew BK514.out)
       replace BK515 := Aside0.mk (blk_drew BK515.out)
       replace BK536 := Aside0.mk (blk_drew BK536.out)
       replace HB := Aside0.mk (below_drew1 HB.out)
       refine start_ (n := 17) (S := fun w' => w'.cell? ⟨gb507, 0, none⟩ = some (.int .i64 t502) ∧ w'.cell? ⟨gb507, 1, none⟩ = some (.int .i64 t503)) (ds := []) #[false, false, false, false, false, false, false, false, false, false, false, false, false, false, false, false, false] (by kernel_rfl) rfl rfl ⟨BK507.c 0, BK507.c 1⟩ (fun hHeld => ?_); refine with_tabW laws_FnUniversals.tab9 laws_FnUniversals.bits9 (fun HT_ HW_ => ?_)
       generalize w224.drew = w225 at HO506 HO525 BK507 BK514 BK515 BK536 HB hHeld ⊢
       refine pv_ (i := 1) (N := some 74) HT_.out ?_
       refine tv2_ (i := 0) (N := some 73) HT_.out HW_.out hHeld ?_
       refine ov_ (i := 2) (N := some 75) HT_.out (fun K hK => ?_)
       refine gq_ Try.func8 #[.agg #[.int .i64 t502, .int .i64 t503], .slice Ao205 t504.length co205] ?_
       with_reducible refine (impl_IsUniversal.calls k t502 t503 _ _ t504 false _ ?side1 ?side2 A140.out).mono ?_
       (case side1 => repeat (first | exact (Kd.R_reads' HO506.out).2.2 | (with_reducible refine Kd.C_alloc ?_ _) | (with_reducible refine Kd.C_drewN ?_ _) | (with_reducible refine Kd.C_drew ?_)))
       (case side2 => exact (Kd.R_reads' HO506.out).2.1)
       rintro e w226 ⟨rfl, hb⟩
       refine ⟨_, rfl, ?_⟩
       replace HO506 := HO506.kb hb
       replace HO525 := HO525.kb hb
       replace BK507 := BK507.bb hb
       replace BK514 := BK514.bb hb
       replace BK515 := BK515.bb hb
       replace BK536 := BK536.bb hb
       replace HB := HB.s4 GE507 GE514 GE515 GE536 hb
       skip
       (try clear hb2)
       (try clear hk)
       (try clear hi)
       refine hK.out _ _ ⟨BK507.c 0, BK507.c 1⟩ (fun hHeld => ?_)
       clear hK K
       refine nm_ ?_
       refine pv_ (i := 3) (N := some 76) HT_.out ?_
       refine pu_ (i := 4) (N := some 77) HT_.out ?_
       refine pu_ (i := 5) (N := some 78) HT_.out ?_
       refine pu_ (i := 6) (N := some 79) HT_.out ?_
       refine pv_ (i := 7) (N := some 80) HT_.out ?_
       refine pv_ (i := 8) (N := some 81) HT_.out ?_
       refine pu_ (i := 9) (N := some 82) HT_.out ?_
       refine pu_ (i := 10) (N := some 83) HT_.out ?_
       refine pu_ (i := 11) (N := some 84) HT_.out ?_
       refine pu_ (i := 12) (N := some 85) HT_.out ?_
       refine pu_ (i := 13) (N := some 86) HT_.out ?_
       refine pu_ (i := 14) (N := some 87) HT_.out ?_
       refine pv_ (i := 15) (N := some 88) HT_.out ?_
       refine pv_ (i := 16) (N := some 2) HT_.out ?_
       refine done_ (done_of HT_.out (by kernel_rfl)) ?_
       try go_wp2
       go_ret
       exact ⟨ex_, hb4_ HB.out GE507.out GE514.out GE515.out GE536.out⟩
   ·rw [if_neg c8] at H
    exact absurd H (by simp)
  ·rw [if_neg c6] at H
   exact absurd H (by simp)

/-- THE ONE PURE STATEMENT of laws_FnUniversals: yours. -/
def laws_FnUniversals.Pure : Prop := ∀ (l0 : List Int), l0.length ≤ maxLen → l0.length * 1 ≤ 140737488351232 → (∀ x ∈ l0, (Lit.int .u8 x).wf = true) → ∃ k, laws_FnUniversals.f k l0 = some true
theorem laws_FnUniversals.walk (P : laws_FnUniversals.Pure) (a0 : Option Addr) (len0 cap0 : Nat) (z0 : List Int) (w : World) (w0 : (a0 = none ∧ len0 = 0 ∧ cap0 = 0 ∧ z0 = []) ∨ ∃ x, a0 = some x ∧ len0 ≤ cap0 ∧ cap0 ≤ maxLen ∧ z0.length = cap0 ∧ (∀ i, i < z0.length → w.cell? (x.add i) = some (.int .u8 (z0.getD i 0))) ∧ ∀ n ∈ z0, (Lit.int .u8 n).wf = true) (y0 : len0 * 1 ≤ 140737488351232) :
  Calls Try.prog 3 #[.slice a0 len0 cap0] w fun e w' => e = .returned (.bool true) ∧ Below w.heap.size w w' := by
 obtain ⟨l0, rfl, hr0, hm0, hw0, hc0⟩ := ReadsInt.ofRowC w0
 obtain ⟨k, h⟩ := P l0 hm0 y0 hw0
 refine (laws_FnUniversals.calls k _ _ l0 true w (Kd.C_of_reads (d := (0 : Int)) (h1 := fun _ => rfl) hr0) hc0 h).mono ?_
 rintro e w' ⟨rfl, hd⟩
 exact ⟨rfl, hd⟩

end Go.Proofs.Ytjepgkbaoahjgaa.X
