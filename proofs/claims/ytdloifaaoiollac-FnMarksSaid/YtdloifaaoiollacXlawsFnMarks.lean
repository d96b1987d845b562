-- Written by a program of this session (xprint.py), out of the translation and of hand-written contracts. Lean checks it.
import Derived.Test.YtdloifaaoiollacX0
import Derived.Test.YtdloifaaoiollacXcgaps
import Derived.Test.YtdloifaaoiollacXcstep
import Derived.Test.YtdloifaaoiollacXimplMostMarks
import Derived.Test.YtdloifaaoiollacXimplTremauxFinds
import Derived.Test.YtdloifaaoiollacXimplTremauxWalk
import Derived.Test.YtdloifaaoiollacXlawsbig
import Derived.Test.YtdloifaaoiollacXlawsbtoi
import Derived.Test.YtdloifaaoiollacXspecDrawOpenCell
import Derived.Test.YtdloifaaoiollacXspecReached
namespace Go.Proofs.Ytdloifaaoiollac.X
open Go.RowKit Go.Proofs.YtdloifaaoiollacW.PrintWords Go.Proofs.YtdloifaaoiollacW.PrintLast Go.Proofs.YtdloifaaoiollacW.PrintMore
attribute [local go_sem] max2_int min2_int max_two min_two max_three min_three max_four min_four   -- for this text's walks alone
set_option linter.unusedVariables false
set_option linter.unusedSimpArgs false

/-! ### laws_FnMarks: function 4 -/
mutual
def laws_FnMarks.l0 : Nat → Int → List Int → List Int → List Int → Int → Int → Int → Int → Int → Option (Bool)
 | 0, _, _, _, _, _, _, _, _, _ => none
 | k + 1, x4, x5, x6, x7, x8, x9, x507000, x507001, x507002 => if x9 < (x7.length : Int) then (if 0 ≤ x9 then ((spec_WaysFrom.f k x507000 x507001 x507002 (rd x7 x9)).bind fun t517 => ((impl_TremauxFinds.f k x507000 x507001 x507002 x4 (rd x7 x9)).bind fun t521 => (if t521 = true then (laws_FnMarks.l0 k x4 x5 x6 x7 (wrap64 (x8 + (t517.length : Int))) (wrap64 (x9 + 1)) x507000 x507001 x507002) else (some false)))) else (none)) else (if (x5.length : Int) = (wrap64 (x8 + 1)) then (if 0 < (x5.length : Int) then (if (rd x5 0) = x4 then (if 0 ≤ (wrap64 ((x5.length : Int) - 1)) then (if (wrap64 ((x5.length : Int) - 1)) < (x5.length : Int) then (if (rd x5 (wrap64 ((x5.length : Int) - 1))) = x4 then ((spec_CountGaps.f x507000 x507001).bind fun t524 => (laws_FnMarks.j1 k x4 x6 x8 ((x6.length : Int) != t524) x507000 x507001 x507002)) else (laws_FnMarks.j1 k x4 x6 x8 true x507000 x507001 x507002)) else (none)) else (none)) else (laws_FnMarks.j1 k x4 x6 x8 true x507000 x507001 x507002)) else (none)) else (laws_FnMarks.j1 k x4 x6 x8 true x507000 x507001 x507002))
def laws_FnMarks.j1 : Nat → Int → List Int → Int → Bool → Int → Int → Int → Option (Bool)
 | 0, _, _, _, _, _, _, _ => none
 | k + 1, x4, x6, x8, x80, x507000, x507001, x507002 => if x80 = true then (some false) else (laws_FnMarks.l1 k x4 x6 x8 0 0 x507000 x507001 x507002)
def laws_FnMarks.l1 : Nat → Int → List Int → Int → Int → Int → Int → Int → Int → Option (Bool)
 | 0, _, _, _, _, _, _, _, _ => none
 | k + 1, x4, x6, x8, x10, x11, x507000, x507001, x507002 => if x11 < (x6.length : Int) then (if 0 ≤ x11 then (laws_FnMarks.l1 k x4 x6 x8 (wrap64 (x10 + (rd x6 x11))) (wrap64 (x11 + 1)) x507000 x507001 x507002) else (none)) else (if x10 = x8 then ((impl_MostMarks.f k x507000 x507001 x507002 x4).bind fun t526 => ((laws_btoi.f (decide (x8 > 0))).bind fun t527 => (some (t526 == (wrap64 (2 * t527)))))) else (some false))
end
def laws_FnMarks.f (k : Nat) (l0 : List Int) : Option (Bool) := (laws_big.f l0).bind fun t501 => (if t501 = true then (some true) else ((spec_DrawOpenCell.f k l0).bind fun bt502 => ((impl_TremauxWalk.f k bt502.1 bt502.2.1 bt502.2.2.1 bt502.2.2.2).bind fun bt507 => ((spec_Reached.f k bt502.1 bt502.2.1 bt502.2.2.1 bt502.2.2.2).bind fun t513 => (laws_FnMarks.l0 k bt502.2.2.2 bt507.1 bt507.2 t513 0 0 bt502.1 bt502.2.1 bt502.2.2.1)))))
theorem laws_FnMarks.mono_l : ∀ k, (∀ y0 y1 y2 y3 y4 y5 y6 y7 y8, LeO (laws_FnMarks.l0 k y0 y1 y2 y3 y4 y5 y6 y7 y8) (laws_FnMarks.l0 (k + 1) y0 y1 y2 y3 y4 y5 y6 y7 y8)) ∧ (∀ y0 y1 y2 y3 y4 y5 y6, LeO (laws_FnMarks.j1 k y0 y1 y2 y3 y4 y5 y6) (laws_FnMarks.j1 (k + 1) y0 y1 y2 y3 y4 y5 y6)) ∧ (∀ y0 y1 y2 y3 y4 y5 y6 y7, LeO (laws_FnMarks.l1 k y0 y1 y2 y3 y4 y5 y6 y7) (laws_FnMarks.l1 (k + 1) y0 y1 y2 y3 y4 y5 y6 y7))
 | 0 => ⟨fun _ _ _ _ _ _ _ _ _ r h => by simp [laws_FnMarks.l0] at h, fun _ _ _ _ _ _ _ r h => by simp [laws_FnMarks.j1] at h, fun _ _ _ _ _ _ _ _ r h => by simp [laws_FnMarks.l1] at h⟩
 | k + 1 => by
  obtain ⟨ih0, ih1, ih2⟩ := laws_FnMarks.mono_l k
  refine ⟨?_, ?_, ?_⟩
  ·intro y0 y1 y2 y3 y4 y5 y6 y7 y8
   unfold laws_FnMarks.l0
   repeat' first
   | (with_reducible exact ih0 _ _ _ _ _ _ _ _ _)
   | (with_reducible exact ih1 _ _ _ _ _ _ _)
   | (with_reducible exact ih2 _ _ _ _ _ _ _ _)
   | (with_reducible exact impl_MostMarks.mono _ _ _ _ _)
   | (with_reducible exact impl_TremauxFinds.mono _ _ _ _ _ _)
   | (with_reducible exact impl_TremauxWalk.mono _ _ _ _ _)
   | (with_reducible exact spec_DrawOpenCell.mono _ _)
   | (with_reducible exact spec_Reached.mono _ _ _ _ _)
   | (with_reducible exact spec_WaysFrom.mono _ _ _ _ _)
   | (with_reducible exact LeO.refl _)
   | (with_reducible exact LeO.none _)
   | (with_reducible refine LeO.ite ?_ ?_)
   | (with_reducible refine LeO.bind ?_ (fun _ => ?_))
   | exact ih0 _ _ _ _ _ _ _ _ _
   | exact ih1 _ _ _ _ _ _ _
   | exact ih2 _ _ _ _ _ _ _ _
   | exact impl_MostMarks.mono _ _ _ _ _
   | exact impl_TremauxFinds.mono _ _ _ _ _ _
   | exact impl_TremauxWalk.mono _ _ _ _ _
   | exact spec_DrawOpenCell.mono _ _
   | exact spec_Reached.mono _ _ _ _ _
   | exact spec_WaysFrom.mono _ _ _ _ _
   | exact LeO.none _
   | refine LeO.ite ?_ ?_
   | refine LeO.bind ?_ (fun _ => ?_)
  ·intro y0 y1 y2 y3 y4 y5 y6
   unfold laws_FnMarks.j1
   repeat' first
   | (with_reducible exact ih0 _ _ _ _ _ _ _ _ _)
   | (with_reducible exact ih1 _ _ _ _ _ _ _)
   | (with_reducible exact ih2 _ _ _ _ _ _ _ _)
   | (with_reducible exact impl_MostMarks.mono _ _ _ _ _)
   | (with_reducible exact impl_TremauxFinds.mono _ _ _ _ _ _)
   | (with_reducible exact impl_TremauxWalk.mono _ _ _ _ _)
   | (with_reducible exact spec_DrawOpenCell.mono _ _)
   | (with_reducible exact spec_Reached.mono _ _ _ _ _)
   | (with_reducible exact spec_WaysFrom.mono _ _ _ _ _)
   | (with_reducible exact LeO.refl _)
   | (with_reducible exact LeO.none _)
   | (with_reducible refine LeO.ite ?_ ?_)
   | (with_reducible refine LeO.bind ?_ (fun _ => ?_))
   | exact ih0 _ _ _ _ _ _ _ _ _
   | exact ih1 _ _ _ _ _ _ _
   | exact ih2 _ _ _ _ _ _ _ _
   | exact impl_MostMarks.mono _ _ _ _ _
   | exact impl_TremauxFinds.mono _ _ _ _ _ _
   | exact impl_TremauxWalk.mono _ _ _ _ _
   | exact spec_DrawOpenCell.mono _ _
   | exact spec_Reached.mono _ _ _ _ _
   | exact spec_WaysFrom.mono _ _ _ _ _
   | exact LeO.none _
   | refine LeO.ite ?_ ?_
   | refine LeO.bind ?_ (fun _ => ?_)
  ·intro y0 y1 y2 y3 y4 y5 y6 y7
   unfold laws_FnMarks.l1
   repeat' first
   | (with_reducible exact ih0 _ _ _ _ _ _ _ _ _)
   | (with_reducible exact ih1 _ _ _ _ _ _ _)
   | (with_reducible exact ih2 _ _ _ _ _ _ _ _)
   | (with_reducible exact impl_MostMarks.mono _ _ _ _ _)
   | (with_reducible exact impl_TremauxFinds.mono _ _ _ _ _ _)
   | (with_reducible exact impl_TremauxWalk.mono _ _ _ _ _)
   | (with_reducible exact spec_DrawOpenCell.mono _ _)
   | (with_reducible exact spec_Reached.mono _ _ _ _ _)
   | (with_reducible exact spec_WaysFrom.mono _ _ _ _ _)
   | (with_reducible exact LeO.refl _)
   | (with_reducible exact LeO.none _)
   | (with_reducible refine LeO.ite ?_ ?_)
   | (with_reducible refine LeO.bind ?_ (fun _ => ?_))
   | exact ih0 _ _ _ _ _ _ _ _ _
   | exact ih1 _ _ _ _ _ _ _
   | exact ih2 _ _ _ _ _ _ _ _
   | exact impl_MostMarks.mono _ _ _ _ _
   | exact impl_TremauxFinds.mono _ _ _ _ _ _
   | exact impl_TremauxWalk.mono _ _ _ _ _
   | exact spec_DrawOpenCell.mono _ _
   | exact spec_Reached.mono _ _ _ _ _
   | exact spec_WaysFrom.mono _ _ _ _ _
   | exact LeO.none _
   | refine LeO.ite ?_ ?_
   | refine LeO.bind ?_ (fun _ => ?_)
theorem laws_FnMarks.mono : ∀ a0 k, LeO (laws_FnMarks.f k a0) (laws_FnMarks.f (k + 1) a0) := by
 intro a0 k
 obtain ⟨ih0, ih1, ih2⟩ := laws_FnMarks.mono_l k
 unfold laws_FnMarks.f
 repeat' first
   | (with_reducible exact ih0 _ _ _ _ _ _ _ _ _)
   | (with_reducible exact ih1 _ _ _ _ _ _ _)
   | (with_reducible exact ih2 _ _ _ _ _ _ _ _)
   | (with_reducible exact impl_MostMarks.mono _ _ _ _ _)
   | (with_reducible exact impl_TremauxFinds.mono _ _ _ _ _ _)
   | (with_reducible exact impl_TremauxWalk.mono _ _ _ _ _)
   | (with_reducible exact spec_DrawOpenCell.mono _ _)
   | (with_reducible exact spec_Reached.mono _ _ _ _ _)
   | (with_reducible exact spec_WaysFrom.mono _ _ _ _ _)
   | (with_reducible exact LeO.refl _)
   | (with_reducible exact LeO.none _)
   | (with_reducible refine LeO.ite ?_ ?_)
   | (with_reducible refine LeO.bind ?_ (fun _ => ?_))
   | exact ih0 _ _ _ _ _ _ _ _ _
   | exact ih1 _ _ _ _ _ _ _
   | exact ih2 _ _ _ _ _ _ _ _
   | exact impl_MostMarks.mono _ _ _ _ _
   | exact impl_TremauxFinds.mono _ _ _ _ _ _
   | exact impl_TremauxWalk.mono _ _ _ _ _
   | exact spec_DrawOpenCell.mono _ _
   | exact spec_Reached.mono _ _ _ _ _
   | exact spec_WaysFrom.mono _ _ _ _ _
   | exact LeO.none _
   | refine LeO.ite ?_ ?_
   | refine LeO.bind ?_ (fun _ => ?_)
def laws_FnMarks.T10 : Bool × List (List Nat × List Nat) := (true, [([], []), ([], []), ([], []), ([], []), ([2, 3], [2, 3]), ([4], [4]), ([1, 5], [1, 5]), ([6], [6]), ([0, 7], [0, 7]), ([8, 6, 0, 1, 2, 3, 4, 5, 6, 7, 8], [0, 8])])
def laws_FnMarks.B10 : List Nat := [0, 0, 0, 0, 12, 28, 62, 126, 255, 511]
theorem laws_FnMarks.tab10 : rtab .any (opsOf Try.f4 10) = laws_FnMarks.T10 := by kernel_rfl
theorem laws_FnMarks.bits10 : waitsOk laws_FnMarks.T10.2 laws_FnMarks.B10 = true := by kernel_rfl
def laws_FnMarks.T11 : Bool × List (List Nat × List Nat) := (true, [([], []), ([], []), ([], []), ([], []), ([2, 3], [2, 3]), ([4], [4]), ([0, 1, 5], [0, 1, 5]), ([6], [6])])
def laws_FnMarks.B11 : List Nat := [0, 0, 0, 0, 12, 28, 63, 127]
theorem laws_FnMarks.tab11 : rtab .any (opsOf Try.f4 11) = laws_FnMarks.T11 := by kernel_rfl
theorem laws_FnMarks.bits11 : waitsOk laws_FnMarks.T11.2 laws_FnMarks.B11 = true := by kernel_rfl
set_option maxHeartbeats 8000000 in
set_option maxRecDepth 100000 in
theorem laws_FnMarks.calls (k : Nat) (A0 : Option Addr) (c0 : Nat) (l0 : List Int) (r : Bool) (w : World) (hr0 : Kd.C (Kd.int .u8) w A0 l0.length l0) (hc0 : l0.length ≤ c0) (h : laws_FnMarks.f k l0 = some r) :
  Calls Try.prog 4 #[.slice A0 l0.length c0] w fun e w' => e = .returned (.bool r) ∧ Below w.heap.size w w' := by
 have hu36 := Try.underlying36
 have hu34 := Try.underlying34
 have HR0 := Aside0.mk hr0
 have HC0 := Aside0.mk hc0
 clear hr0 hc0
 have HB := Aside0.mk (Below.refl w.heap.size w)
 have H : ((laws_big.f l0).bind fun t501 => (if t501 = true then (some true) else ((spec_DrawOpenCell.f k l0).bind fun bt502 => ((impl_TremauxWalk.f k bt502.1 bt502.2.1 bt502.2.2.1 bt502.2.2.2).bind fun bt507 => ((spec_Reached.f k bt502.1 bt502.2.1 bt502.2.2.1 bt502.2.2.2).bind fun t513 => (laws_FnMarks.l0 k bt502.2.2.2 bt507.1 bt507.2 t513 0 0 bt502.1 bt502.2.1 bt502.2.2.1)))))) = some r := h
 clear h
 replace H := Option.bind_eq_some_iff.mp H
 obtain ⟨t501, A20, H⟩ := H
 replace H : (if t501 = true then (some true) else ((spec_DrawOpenCell.f k l0).bind fun bt502 => ((impl_TremauxWalk.f k bt502.1 bt502.2.1 bt502.2.2.1 bt502.2.2.2).bind fun bt507 => ((spec_Reached.f k bt502.1 bt502.2.1 bt502.2.2.1 bt502.2.2.2).bind fun t513 => (laws_FnMarks.l0 k bt502.2.2.2 bt507.1 bt507.2 t513 0 0 bt502.1 bt502.2.1 bt502.2.2.1))))) = some r := H
 have A2 := Aside0.mk A20
 clear A20
 by_cases c3 : t501 = true
 ·subst c3
  have H1 : (some true) = some r := by rw [if_pos rfl] at H; exact H
  clear H
  have H := H1
  clear H1
  obtain rfl := Option.some.inj H
  go_enter Try.func4, Try.ntmps4
  go_wp2_with (first | ((with_reducible refine gate_callee (f := 16) rfl ?_); refine goesL_ (some 13) rfl rfl Try.func16 (by kernel_rfl) rfl #[.slice A0 l0.length c0] rfl (ml_) ?_; (with_reducible refine (laws_big.calls _ _ l0 true _ ?side1 ?side2 A2.out).mono ?_); (case side1 => repeat (first | exact HR0.out | (with_reducible refine Kd.C_alloc ?_ _) | (with_reducible refine Kd.C_drewN ?_ _) | (with_reducible refine Kd.C_drew ?_))); (case side2 => exact HC0.out); rintro e w' ⟨rfl, ⟨nd, rfl⟩⟩; refine ⟨_, rfl, ?_⟩))
  go_ret
  exact ⟨by first | rfl | (simp [errW_none, errW_some] <;> rfl) | (simp [*, errW_none, errW_some] <;> rfl), hb0_ HB.out⟩
 ·replace c3 := Bool.eq_false_iff.mpr c3
  subst c3
  have H1 : ((spec_DrawOpenCell.f k l0).bind fun bt502 => ((impl_TremauxWalk.f k bt502.1 bt502.2.1 bt502.2.2.1 bt502.2.2.2).bind fun bt507 => ((spec_Reached.f k bt502.1 bt502.2.1 bt502.2.2.1 bt502.2.2.2).bind fun t513 => (laws_FnMarks.l0 k bt502.2.2.2 bt507.1 bt507.2 t513 0 0 bt502.1 bt502.2.1 bt502.2.2.1)))) = some r := by rw [if_neg (show ¬ (false = true) by decide)] at H; exact H
  clear H
  have H := H1
  clear H1
  replace H := Option.bind_eq_some_iff.mp H
  obtain ⟨⟨t502, t503, t504, t505⟩, A40, H⟩ := H
  replace H : ((impl_TremauxWalk.f k t502 t503 t504 t505).bind fun bt507 => ((spec_Reached.f k t502 t503 t504 t505).bind fun t513 => (laws_FnMarks.l0 k t505 bt507.1 bt507.2 t513 0 0 t502 t503 t504))) = some r := H
  have A4 := Aside0.mk A40
  clear A40
  replace H := Option.bind_eq_some_iff.mp H
  obtain ⟨⟨t507, t510⟩, A50, H⟩ := H
  replace H : ((spec_Reached.f k t502 t503 t504 t505).bind fun t513 => (laws_FnMarks.l0 k t505 t507 t510 t513 0 0 t502 t503 t504)) = some r := H
  have A5 := Aside0.mk A50
  clear A50
  replace H := Option.bind_eq_some_iff.mp H
  obtain ⟨t513, A60, H⟩ := H
  replace H : (laws_FnMarks.l0 k t505 t507 t510 t513 0 0 t502 t503 t504) = some r := H
  have A6 := Aside0.mk A60
  clear A60
  have H' := Aside0.mk H
  clear H
  go_enter Try.func4, Try.ntmps4
  go_wp2_with (first | ((with_reducible refine gate_callee (f := 16) rfl ?_); refine goesL_ (some 13) rfl rfl Try.func16 (by kernel_rfl) rfl #[.slice A0 l0.length c0] rfl (ml_) ?_; (with_reducible refine (laws_big.calls _ _ l0 false _ ?side1 ?side2 A2.out).mono ?_); (case side1 => repeat (first | exact HR0.out | (with_reducible refine Kd.C_alloc ?_ _) | (with_reducible refine Kd.C_drewN ?_ _) | (with_reducible refine Kd.C_drew ?_))); (case side2 => exact HC0.out); rintro e w' ⟨rfl, ⟨nd, rfl⟩⟩; refine ⟨_, rfl, ?_⟩) | ((with_reducible refine gate_callee (f := 17) rfl ?_); refine goesL_ (some 16) rfl rfl Try.func17 (by kernel_rfl) rfl #[.slice A0 l0.length c0] rfl (ml_) ?_; (with_reducible refine (spec_DrawOpenCell.calls k _ _ l0 t502 t503 t504 t505 _ ?side1 ?side2 A4.out).mono ?_); (case side1 => repeat (first | exact HR0.out | (with_reducible refine Kd.C_alloc ?_ _) | (with_reducible refine Kd.C_drewN ?_ _) | (with_reducible refine Kd.C_drew ?_))); (case side2 => exact HC0.out); rintro e w7 ⟨rfl, hb⟩; refine ⟨_, rfl, ?_⟩; replace HB := Aside0.mk (below_step (hb0_ HB.out) hb); (try clear hb); (try clear hb2); (try clear hk); (try clear hi)) | ((with_reducible refine gate_dst (N := 3) rfl ?_); (try (refine gate_guard (by rfl) ?_; dsimp only)); refine box_event ?hg (N := 3) ?hd (cs := #[.int .i64 0, .int .i64 0, .int .i64 0]) (t := 36) ?hr ?_; (case hd => rfl); (case hg => rfl); (case hr => first | (go_simp; done) | (go_simp; rfl)); intro gb506 hg w8 hbox hb; have n0_ := Aside0.mk (below_step (hb0_ HB.out) hb); have n1_ := Aside0.mk (hbox); have n2_ := Aside0.mk ((gs_ hg (hb0_ HB.out))); have n3_ := Aside0.mk ((gs_ hg (hb0_ HB.out))); clear HB; have HB := n0_; have BK506 := n1_; have GW506 := n2_; have GE506 := n3_; clear n0_ n1_ n2_ n3_; clear hb hbox hg; obtain ⟨hcz9_0, hcz9_1, hcz9_2⟩ := cz3_ BK506.out; obtain ⟨hfz9_0, hfz9_1, hfz9_2⟩ := fz3_ BK506.out) | ((with_reducible refine gate_callee (f := 18) rfl ?_); refine goesL_ (some 22) rfl rfl Try.func18 (by kernel_rfl) rfl #[.agg #[.int .i64 t502, .int .i64 t503, .int .i64 t504], .int .i64 t505] rfl (ml_) ?_; (with_reducible refine (impl_TremauxWalk.calls k t502 t503 t504 t505 t507 t510 _ A5.out).mono ?_); rintro e w10 ⟨v508, v511, rfl, ho0, ho1, hb⟩; refine ⟨_, rfl, ?_⟩; have HO509 := Aside0.mk (Kd.R_lower ho0 (below_size (hb1_ HB.out GE506.out))); have HO512 := Aside0.mk (Kd.R_lower ho1 (below_size (hb1_ HB.out GE506.out))); replace BK506 := Aside0.mk (blk_below (g := gb506) (o := .cells #[.int .i64 t502, .int .i64 t503, .int .i64 t504] 36 (0, 0)) (by (with_reducible repeat (first | refine blk_drewN ?_ _ | refine blk_drew ?_ | refine blk_alloc ?_ _)); refine blk_put (cs := #[.int .i64 t502, .int .i64 t503, .int .i64 0]) ?_ 2 _ rfl; (with_reducible repeat (first | refine blk_drewN ?_ _ | refine blk_drew ?_ | refine blk_alloc ?_ _)); refine blk_put (cs := #[.int .i64 t502, .int .i64 0, .int .i64 0]) ?_ 1 _ rfl; (with_reducible repeat (first | refine blk_drewN ?_ _ | refine blk_drew ?_ | refine blk_alloc ?_ _)); refine blk_put (cs := #[.int .i64 0, .int .i64 0, .int .i64 0]) ?_ 0 _ rfl; (with_reducible repeat (first | refine blk_drewN ?_ _ | refine blk_drew ?_ | refine blk_alloc ?_ _)); exact BK506.out) hb); replace HB := Aside0.mk (below_step (hb1_ HB.out GE506.out) hb); (try clear hb); (try clear hb2); (try clear hk); (try clear hi); (try clear ho0); (try clear ho1); obtain ⟨hcz11_0, hcz11_1, hcz11_2⟩ := cz3_ BK506.out; obtain ⟨hfz11_0, hfz11_1, hfz11_2⟩ := fz3_ BK506.out) | ((with_reducible refine gate_callee (f := 19) rfl ?_); refine goesL_ (some 27) rfl rfl Try.func19 (by kernel_rfl) rfl #[.agg #[.int .i64 t502, .int .i64 t503, .int .i64 t504], .int .i64 t505] rfl (ml_) ?_; (with_reducible refine (spec_Reached.calls k t502 t503 t504 t505 t513 _ A6.out).mono ?_); rintro e w12 ⟨v514, rfl, ho0, hb⟩; refine ⟨_, rfl, ?_⟩; have n0_ := Aside0.mk (Kd.R_elder' (kr_ HO509.out) (Kd.R_base ho0) hb); have n1_ := Aside0.mk (Kd.R_elder' (kr_ HO512.out) (Kd.R_base ho0) hb); have n2_ := Aside0.mk (Kd.R_lower (Kd.R_new' (Kd.R_new' ho0 (Kd.R_lt (kr_ HO509.out))) (Kd.R_lt (kr_ HO512.out))) (below_size (hb1_ HB.out GE506.out))); have n3_ := Aside0.mk (bb_ BK506.out hb); have n4_ := Aside0.mk (below_step (hb1_ HB.out GE506.out) hb); clear HO509; clear HO512; clear BK506; clear HB; have HO509 := n0_; have HO512 := n1_; have HO515 := n2_; have BK506 := n3_; have HB := n4_; clear n0_ n1_ n2_ n3_ n4_; (try clear hb); (try clear hb2); (try clear hk); (try clear hi); (try clear ho0)))
  go_loopg [8, 9] k (fun kq v8 v9 w' => ∃ (x8_1 : Int) (x9_1 : Int), v8 = .int .i64 x8_1 ∧ v9 = .int .i64 x9_1 ∧ Aside0 (laws_FnMarks.l0 kq t505 t507 t510 t513 x8_1 x9_1 t502 t503 t504 = some r) ∧ Aside0 (kq ≤ k) ∧ Aside0 (Kd.R (Kd.int .i64) 3 w' w.heap.size (fun k_ => some k_ ≠ (v511 : Value).ownBlock ∧ some k_ ≠ (v514 : Value).ownBlock) v508 t507) ∧ Aside0 (Kd.R (Kd.int .i64) 3 w' w.heap.size (fun k_ => some k_ ≠ (v508 : Value).ownBlock ∧ some k_ ≠ (v514 : Value).ownBlock) v511 t510) ∧ Aside0 (Kd.R (Kd.int .i64) 3 w' w.heap.size (fun k_ => some k_ ≠ (v508 : Value).ownBlock ∧ some k_ ≠ (v511 : Value).ownBlock) v514 t513) ∧ Aside0 (w'.heap[gb506]? = some (.cells #[.int .i64 t502, .int .i64 t503, .int .i64 t504] 36 (0, 0))) ∧ Aside0 (Below w.heap.size w w'))
  case atStart => exact ⟨(0), (0), (by first | rfl | (simp; done) | (simp [*]; done)), (by first | rfl | (simp; done) | (simp [*]; done)), H', ⟨Nat.le_refl _⟩, ⟨kr_ HO509.out⟩, ⟨kr_ HO512.out⟩, ⟨by (with_reducible repeat (first | apply Kd.R_alloc | apply Kd.R_drewN | apply Kd.R_drew)); exact Kd.R_mono HO515.out (fun _ hk => ⟨hk.1.2, hk.2⟩)⟩, ⟨bk_ BK506.out⟩, ⟨hb1_ HB.out GE506.out⟩⟩
  case round =>
   clear H'
   try clear c1
   try clear p2
   try clear c3
   try clear c4
   try clear hcz11_0
   try clear hcz11_1
   try clear hcz11_2
   try clear hcz9_0
   try clear hcz9_1
   try clear hcz9_2
   try clear hfz11_0
   try clear hfz11_1
   try clear hfz11_2
   try clear hfz9_0
   try clear hfz9_1
   try clear hfz9_2
   obtain ⟨x8_1, x9_1, rfl, rfl, HA, HK1, HO_5, HO_6, HO_7, BK506, HB⟩ := hrel
   cases gk with
   | zero => exact absurd HA.out (by simp [laws_FnMarks.l0])
   | succ k1 =>
    have H := HA.out
    clear HA
    simp only [laws_FnMarks.l0] at H
    by_cases c13 : x9_1 < (t513.length : Int)
    ·rw [if_pos c13] at H
     have c13b0 : decide (x9_1 < (t513.length : Int)) = true := decide_eq_true c13
     clear c13
     by_cases c14 : 0 ≤ x9_1
     ·rw [if_pos c14] at H
      have c14b0 : decide (0 ≤ x9_1) = true := decide_eq_true c14
      clear c14
      replace H := Option.bind_eq_some_iff.mp H
      obtain ⟨t517, A150, H⟩ := H
      replace H : ((impl_TremauxFinds.f k1 t502 t503 t504 t505 (rd t513 x9_1)).bind fun t521 => (if t521 = true then (laws_FnMarks.l0 k1 t505 t507 t510 t513 (wrap64 (x8_1 + (t517.length : Int))) (wrap64 (x9_1 + 1)) t502 t503 t504) else (some false))) = some r := H
      have A15 := Aside0.mk A150
      clear A150
      replace H := Option.bind_eq_some_iff.mp H
      obtain ⟨t521, A160, H⟩ := H
      replace H : (if t521 = true then (laws_FnMarks.l0 k1 t505 t507 t510 t513 (wrap64 (x8_1 + (t517.length : Int))) (wrap64 (x9_1 + 1)) t502 t503 t504) else (some false)) = some r := H
      have A16 := Aside0.mk A160
      clear A160
      by_cases c17 : t521 = true
      ·subst c17
       have H1 : (laws_FnMarks.l0 k1 t505 t507 t510 t513 (wrap64 (x8_1 + (t517.length : Int))) (wrap64 (x9_1 + 1)) t502 t503 t504) = some r := by rw [if_pos rfl] at H; exact H
       clear H
       have H := H1
       clear H1
       have H' := Aside0.mk H
       clear H
       obtain ⟨Ao18, co18, eo18⟩ := Kd.R_slice HO_7.out
       subst eo18
       try go_wp2
       replace HO_5 := Aside0.mk (Kd.R_drew HO_5.out)
       replace HO_6 := Aside0.mk (Kd.R_drew HO_6.out)
       replace HO_7 := Aside0.mk (Kd.R_drew HO_7.out)
       replace BK506 := Aside0.mk (blk_drew BK506.out)
       replace HB := Aside0.mk (below_drew1 HB.out)
       have p516 : 0 ≤ (x9_1 : Int) := of_decide_eq_true (as_)
       have q516 : x9_1 < (t513.length : Int) := of_decide_eq_true (as_)
       obtain ⟨ad516, e516, hx516_0⟩ := Kd.at_int (Kd.R_reads' HO_7.out).2.2 x9_1 p516 q516
       cases e516
       replace p516 := eq_true p516
       replace q516 := eq_true q516
       refine start_ (n := 10) (S := fun w' => w'.cell? ⟨gb506, 0, none⟩ = some (.int .i64 t502) ∧ w'.cell? ⟨gb506, 1, none⟩ = some (.int .i64 t503) ∧ w'.cell? ⟨gb506, 2, none⟩ = some (.int .i64 t504) ∧ w'.cell? (ad516.add (x9_1).toNat) = some (.int .i64 (rd t513 x9_1))) (ds := []) #[false, false, false, false, false, false, false, false, false, false] (by kernel_rfl) rfl rfl ⟨(blk_cell BK506.out 0).trans rfl, (blk_cell BK506.out 1).trans rfl, (blk_cell BK506.out 2).trans rfl, hx516_0⟩ (fun hHeld => ?_); refine with_tabW laws_FnMarks.tab10 laws_FnMarks.bits10 (fun HT_ HW_ => ?_)
       generalize wr.drew = w19 at HO_5 HO_6 HO_7 BK506 HB hx516_0 hHeld ⊢
       refine pv_ (i := 0) (N := some 34) HT_.out ?_
       refine pv_ (i := 2) (N := some 36) HT_.out ?_
       refine pv_ (i := 3) (N := some 37) HT_.out ?_
       refine pv_ (i := 4) (N := some 38) HT_.out ?_
       refine tv4_ (i := 1) (N := some 35) HT_.out HW_.out hHeld ?_
       refine tv4_ (i := 5) (N := some 39) HT_.out HW_.out hHeld ?_
       refine ov_ (i := 6) (N := some 40) HT_.out (fun K hK => ?_)
       refine goes_ Try.func20 (by kernel_rfl) rfl #[.agg #[.int .i64 t502, .int .i64 t503, .int .i64 t504], .int .i64 (rd t513 x9_1)] (by rfl) rfl rfl (ml_) ?_
       with_reducible refine (spec_WaysFrom.calls k1 t502 t503 t504 (rd t513 x9_1) t517 _ A15.out).mono ?_
       rintro e w20 ⟨v518, rfl, ho0, hb⟩
       have HS3_ := (hb.cell (World.block_lt_of_cell? _ _ (hHeld.2.2.2))).trans (hHeld.2.2.2)
       refine ⟨_, rfl, ?_⟩
       have n0_ := Aside0.mk (Kd.R_elder' (kr_ HO_5.out) (Kd.R_base ho0) hb)
       have n1_ := Aside0.mk (Kd.R_elder' (kr_ HO_6.out) (Kd.R_base ho0) hb)
       have n2_ := Aside0.mk (Kd.R_elder' (kr_ HO_7.out) (Kd.R_base ho0) hb)
       have n3_ := Aside0.mk (Kd.R_lower (Kd.R_new' (Kd.R_new' (Kd.R_new' ho0 (Kd.R_lt (kr_ HO_5.out))) (Kd.R_lt (kr_ HO_6.out))) (Kd.R_lt (kr_ HO_7.out))) (below_size (hb1_ HB.out GE506.out)))
       have n4_ := Aside0.mk (bb_ BK506.out hb)
       have n5_ := Aside0.mk (below_step (hb1_ HB.out GE506.out) hb)
       clear HO_5
       clear HO_6
       clear HO_7
       clear BK506
       clear HB
       have HO_5 := n0_
       have HO_6 := n1_
       have HO_7 := n2_
       have HO519 := n3_
       have BK506 := n4_
       have HB := n5_
       clear n0_ n1_ n2_ n3_ n4_ n5_
       (try clear hb)
       (try clear hb2)
       (try clear hk)
       (try clear hi)
       (try clear ho0)
       obtain ⟨Ao21, co21, eo21⟩ := Kd.R_slice HO519.out
       (first | subst eo21 | (injection eo21 with f1_ f2_ f3_; have f4_ := f1_.symm; have f5_ := f3_.symm; clear f1_ f2_ f3_; subst f4_; subst f5_))
       refine hK.out _ _ ⟨(blk_cell BK506.out 0).trans rfl, (blk_cell BK506.out 1).trans rfl, (blk_cell BK506.out 2).trans rfl, HS3_⟩ (fun hHeld => ?_)
       clear hK K
       refine norm_ (a' := ?_) ?_ ?_
       rotate_left
       ·show Act.put _ (some 40) _ = _
        simp only [Act.put, List.setIfInBounds_toArray, List.set_cons_zero, List.set_cons_succ, i64_w, i32_w]
        rfl
       refine pv_ (i := 7) (N := some 41) HT_.out ?_
       refine pv_ (i := 8) (N := some 42) HT_.out ?_
       refine pv_ (i := 9) (N := some 8) HT_.out ?_
       refine done_ (done_of HT_.out (by kernel_rfl)) ?_
       try go_wp2
       replace HO_5 := Aside0.mk (Kd.R_drew HO_5.out)
       replace HO_6 := Aside0.mk (Kd.R_drew HO_6.out)
       replace HO_7 := Aside0.mk (Kd.R_drew HO_7.out)
       replace HO519 := Aside0.mk (Kd.R_drew HO519.out)
       replace BK506 := Aside0.mk (blk_drew BK506.out)
       replace HB := Aside0.mk (below_drew1 HB.out)
       have p520 : 0 ≤ (x9_1 : Int) := of_decide_eq_true (as_)
       have q520 : x9_1 < (t513.length : Int) := of_decide_eq_true (as_)
       obtain ⟨ad520, e520, hx520_0⟩ := Kd.at_int (Kd.R_reads' HO_7.out).2.2 x9_1 p520 q520
       obtain rfl : ad516 = ad520 := (by injection e520)
       replace p520 := eq_true p520
       replace q520 := eq_true q520
       refine start_ (n := 8) (S := fun w' => w'.cell? ⟨gb506, 0, none⟩ = some (.int .i64 t502) ∧ w'.cell? ⟨gb506, 1, none⟩ = some (.int .i64 t503) ∧ w'.cell? ⟨gb506, 2, none⟩ = some (.int .i64 t504) ∧ w'.cell? (ad516.add (x9_1).toNat) = some (.int .i64 (rd t513 x9_1))) (ds := []) #[false, false, false, false, false, false, false, false] (by kernel_rfl) rfl rfl ⟨(blk_cell BK506.out 0).trans rfl, (blk_cell BK506.out 1).trans rfl, (blk_cell BK506.out 2).trans rfl, hx520_0⟩ (fun hHeld => ?_); refine with_tabW laws_FnMarks.tab11 laws_FnMarks.bits11 (fun HT_ HW_ => ?_)
       generalize w20.drew = w22 at HO_5 HO_6 HO_7 HO519 BK506 HB hx520_0 hHeld ⊢
       refine pv_ (i := 1) (N := some 44) HT_.out ?_
       refine pv_ (i := 2) (N := some 45) HT_.out ?_
       refine pv_ (i := 3) (N := some 46) HT_.out ?_
       refine pv_ (i := 4) (N := some 47) HT_.out ?_
       refine tv4_ (i := 0) (N := some 43) HT_.out HW_.out hHeld ?_
       refine tv4_ (i := 5) (N := some 48) HT_.out HW_.out hHeld ?_
       refine ov_ (i := 6) (N := some 49) HT_.out (fun K hK => ?_)
       refine goes_ Try.func21 (by kernel_rfl) rfl #[.agg #[.int .i64 t502, .int .i64 t503, .int .i64 t504], .int .i64 t505, .int .i64 (rd t513 x9_1)] (by rfl) rfl rfl (ml_) ?_
       with_reducible refine (impl_TremauxFinds.calls k1 t502 t503 t504 t505 (rd t513 x9_1) true _ A16.out).mono ?_
       rintro e w23 ⟨rfl, hb⟩
       have HS3_ := (hb.cell (World.block_lt_of_cell? _ _ (hHeld.2.2.2))).trans (hHeld.2.2.2)
       refine ⟨_, rfl, ?_⟩
       replace HO_5 := Aside0.mk (Kd.R_below (kr_ HO_5.out) hb)
       replace HO_6 := Aside0.mk (Kd.R_below (kr_ HO_6.out) hb)
       replace HO_7 := Aside0.mk (Kd.R_below (kr_ HO_7.out) hb)
       replace HO519 := Aside0.mk (Kd.R_below (kr_ HO519.out) hb)
       replace BK506 := Aside0.mk (bb_ BK506.out hb)
       replace HB := Aside0.mk (below_step (hb1_ HB.out GE506.out) hb)
       (try clear hb)
       (try clear hb2)
       (try clear hk)
       (try clear hi)
       refine hK.out _ _ ⟨(blk_cell BK506.out 0).trans rfl, (blk_cell BK506.out 1).trans rfl, (blk_cell BK506.out 2).trans rfl, HS3_⟩ (fun hHeld => ?_)
       clear hK K
       refine norm_ (a' := ?_) ?_ ?_
       rotate_left
       ·show Act.put _ (some 49) _ = _
        simp only [Act.put, List.setIfInBounds_toArray, List.set_cons_zero, List.set_cons_succ, i64_w, i32_w]
        rfl
       refine pv_ (i := 7) (N := some 50) HT_.out ?_
       refine done_ (done_of HT_.out (by kernel_rfl)) ?_
       try go_wp2
       go_roundg k1
       case measure => have := HK1.out; omega
       case rel => exact ⟨(wrap64 (x8_1 + (t517.length : Int))), (wrap64 (x9_1 + 1)), (by first | rfl | (simp; done) | (simp [*]; done)), (by first | rfl | (simp; done) | (simp [*]; done)), H', ⟨by have := HK1.out; omega⟩, ⟨by (with_reducible repeat (first | apply Kd.R_alloc | apply Kd.R_drewN | apply Kd.R_drew)); exact Kd.R_mono HO_5.out (fun _ hk => ⟨hk.1.1, hk.1.2⟩)⟩, ⟨by (with_reducible repeat (first | apply Kd.R_alloc | apply Kd.R_drewN | apply Kd.R_drew)); exact Kd.R_mono HO_6.out (fun _ hk => ⟨hk.1.1, hk.1.2⟩)⟩, ⟨by (with_reducible repeat (first | apply Kd.R_alloc | apply Kd.R_drewN | apply Kd.R_drew)); exact Kd.R_mono HO_7.out (fun _ hk => ⟨hk.1.1, hk.1.2⟩)⟩, ⟨bk_ BK506.out⟩, ⟨hb1_ HB.out GE506.out⟩⟩
      ·replace c17 := Bool.eq_false_iff.mpr c17
       subst c17
       have H1 : (some false) = some r := by rw [if_neg (show ¬ (false = true) by decide)] at H; exact H
       clear H
       have H := H1
       clear H1
       obtain rfl := Option.some.inj H
       obtain ⟨Ao24, co24, eo24⟩ := Kd.R_slice HO_7.out
       subst eo24
       try go_wp2
       replace HO_5 := Aside0.mk (Kd.R_drew HO_5.out)
       replace HO_6 := Aside0.mk (Kd.R_drew HO_6.out)
       replace HO_7 := Aside0.mk (Kd.R_drew HO_7.out)
       replace BK506 := Aside0.mk (blk_drew BK506.out)
       replace HB := Aside0.mk (below_drew1 HB.out)
       have p516 : 0 ≤ (x9_1 : Int) := of_decide_eq_true (as_)
       have q516 : x9_1 < (t513.length : Int) := of_decide_eq_true (as_)
       obtain ⟨ad516, e516, hx516_0⟩ := Kd.at_int (Kd.R_reads' HO_7.out).2.2 x9_1 p516 q516
       cases e516
       replace p516 := eq_true p516
       replace q516 := eq_true q516
       refine start_ (n := 10) (S := fun w' => w'.cell? ⟨gb506, 0, none⟩ = some (.int .i64 t502) ∧ w'.cell? ⟨gb506, 1, none⟩ = some (.int .i64 t503) ∧ w'.cell? ⟨gb506, 2, none⟩ = some (.int .i64 t504) ∧ w'.cell? (ad516.add (x9_1).toNat) = some (.int .i64 (rd t513 x9_1))) (ds := []) #[false, false, false, false, false, false, false, false, false, false] (by kernel_rfl) rfl rfl ⟨(blk_cell BK506.out 0).trans rfl, (blk_cell BK506.out 1).trans rfl, (blk_cell BK506.out 2).trans rfl, hx516_0⟩ (fun hHeld => ?_); refine with_tabW laws_FnMarks.tab10 laws_FnMarks.bits10 (fun HT_ HW_ => ?_)
       generalize wr.drew = w25 at HO_5 HO_6 HO_7 BK506 HB hx516_0 hHeld ⊢
       refine pv_ (i := 0) (N := some 34) HT_.out ?_
       refine pv_ (i := 2) (N := some 36) HT_.out ?_
       refine pv_ (i := 3) (N := some 37) HT_.out ?_
       refine pv_ (i := 4) (N := some 38) HT_.out ?_
       refine tv4_ (i := 1) (N := some 35) HT_.out HW_.out hHeld ?_
       refine tv4_ (i := 5) (N := some 39) HT_.out HW_.out hHeld ?_
       refine ov_ (i := 6) (N := some 40) HT_.out (fun K hK => ?_)
       refine goes_ Try.func20 (by kernel_rfl) rfl #[.agg #[.int .i64 t502, .int .i64 t503, .int .i64 t504], .int .i64 (rd t513 x9_1)] (by rfl) rfl rfl (ml_) ?_
       with_reducible refine (spec_WaysFrom.calls k1 t502 t503 t504 (rd t513 x9_1) t517 _ A15.out).mono ?_
       rintro e w26 ⟨v518, rfl, ho0, hb⟩
       have HS3_ := (hb.cell (World.block_lt_of_cell? _ _ (hHeld.2.2.2))).trans (hHeld.2.2.2)
       refine ⟨_, rfl, ?_⟩
       have n0_ := Aside0.mk (Kd.R_elder' (kr_ HO_5.out) (Kd.R_base ho0) hb)
       have n1_ := Aside0.mk (Kd.R_elder' (kr_ HO_6.out) (Kd.R_base ho0) hb)
       have n2_ := Aside0.mk (Kd.R_elder' (kr_ HO_7.out) (Kd.R_base ho0) hb)
       have n3_ := Aside0.mk (Kd.R_lower (Kd.R_new' (Kd.R_new' (Kd.R_new' ho0 (Kd.R_lt (kr_ HO_5.out))) (Kd.R_lt (kr_ HO_6.out))) (Kd.R_lt (kr_ HO_7.out))) (below_size (hb1_ HB.out GE506.out)))
       have n4_ := Aside0.mk (bb_ BK506.out hb)
       have n5_ := Aside0.mk (below_step (hb1_ HB.out GE506.out) hb)
       clear HO_5
       clear HO_6
       clear HO_7
       clear BK506
       clear HB
       have HO_5 := n0_
       have HO_6 := n1_
       have HO_7 := n2_
       have HO519 := n3_
       have BK506 := n4_
       have HB := n5_
       clear n0_ n1_ n2_ n3_ n4_ n5_
       (try clear hb)
       (try clear hb2)
       (try clear hk)
       (try clear hi)
       (try clear ho0)
       obtain ⟨Ao27, co27, eo27⟩ := Kd.R_slice HO519.out
       (first | subst eo27 | (injection eo27 with f1_ f2_ f3_; have f4_ := f1_.symm; have f5_ := f3_.symm; clear f1_ f2_ f3_; subst f4_; subst f5_))
       refine hK.out _ _ ⟨(blk_cell BK506.out 0).trans rfl, (blk_cell BK506.out 1).trans rfl, (blk_cell BK506.out 2).trans rfl, HS3_⟩ (fun hHeld => ?_)
       clear hK K
       refine norm_ (a' := ?_) ?_ ?_
       rotate_left
       ·show Act.put _ (some 40) _ = _
        simp only [Act.put, List.setIfInBounds_toArray, List.set_cons_zero, List.set_cons_succ, i64_w, i32_w]
        rfl
       refine pv_ (i := 7) (N := some 41) HT_.out ?_
       refine pv_ (i := 8) (N := some 42) HT_.out ?_
       refine pv_ (i := 9) (N := some 8) HT_.out ?_
       refine done_ (done_of HT_.out (by kernel_rfl)) ?_
       try go_wp2
       replace HO_5 := Aside0.mk (Kd.R_drew HO_5.out)
       replace HO_6 := Aside0.mk (Kd.R_drew HO_6.out)
       replace HO_7 := Aside0.mk (Kd.R_drew HO_7.out)
       replace HO519 := Aside0.mk (Kd.R_drew HO519.out)
       replace BK506 := Aside0.mk (blk_drew BK506.out)
       replace HB := Aside0.mk (below_drew1 HB.out)
       have p520 : 0 ≤ (x9_1 : Int) := of_decide_eq_true (as_)
       have q520 : x9_1 < (t513.length : Int) := of_decide_eq_true (as_)
       obtain ⟨ad520, e520, hx520_0⟩ := Kd.at_int (Kd.R_reads' HO_7.out).2.2 x9_1 p520 q520
       obtain rfl : ad516 = ad520 := (by injection e520)
       replace p520 := eq_true p520
       replace q520 := eq_true q520
       refine start_ (n := 8) (S := fun w' => w'.cell? ⟨gb506, 0, none⟩ = some (.int .i64 t502) ∧ w'.cell? ⟨gb506, 1, none⟩ = some (.int .i64 t503) ∧ w'.cell? ⟨gb506, 2, none⟩ = some (.int .i64 t504) ∧ w'.cell? (ad516.add (x9_1).toNat) = some (.int .i64 (rd t513 x9_1))) (ds := []) #[false, false, false, false, false, false, false, false] (by kernel_rfl) rfl rfl ⟨(blk_cell BK506.out 0).trans rfl, (blk_cell BK506.out 1).trans rfl, (blk_cell BK506.out 2).trans rfl, hx520_0⟩ (fun hHeld => ?_); refine with_tabW laws_FnMarks.tab11 laws_FnMarks.bits11 (fun HT_ HW_ => ?_)
       generalize w26.drew = w28 at HO_5 HO_6 HO_7 HO519 BK506 HB hx520_0 hHeld ⊢
       refine pv_ (i := 1) (N := some 44) HT_.out ?_
       refine pv_ (i := 2) (N := some 45) HT_.out ?_
       refine pv_ (i := 3) (N := some 46) HT_.out ?_
       refine pv_ (i := 4) (N := some 47) HT_.out ?_
       refine tv4_ (i := 0) (N := some 43) HT_.out HW_.out hHeld ?_
       refine tv4_ (i := 5) (N := some 48) HT_.out HW_.out hHeld ?_
       refine ov_ (i := 6) (N := some 49) HT_.out (fun K hK => ?_)
       refine goes_ Try.func21 (by kernel_rfl) rfl #[.agg #[.int .i64 t502, .int .i64 t503, .int .i64 t504], .int .i64 t505, .int .i64 (rd t513 x9_1)] (by rfl) rfl rfl (ml_) ?_
       with_reducible refine (impl_TremauxFinds.calls k1 t502 t503 t504 t505 (rd t513 x9_1) false _ A16.out).mono ?_
       rintro e w29 ⟨rfl, hb⟩
       have HS3_ := (hb.cell (World.block_lt_of_cell? _ _ (hHeld.2.2.2))).trans (hHeld.2.2.2)
       refine ⟨_, rfl, ?_⟩
       replace HO_5 := Aside0.mk (Kd.R_below (kr_ HO_5.out) hb)
       replace HO_6 := Aside0.mk (Kd.R_below (kr_ HO_6.out) hb)
       replace HO_7 := Aside0.mk (Kd.R_below (kr_ HO_7.out) hb)
       replace HO519 := Aside0.mk (Kd.R_below (kr_ HO519.out) hb)
       replace BK506 := Aside0.mk (bb_ BK506.out hb)
       replace HB := Aside0.mk (below_step (hb1_ HB.out GE506.out) hb)
       (try clear hb)
       (try clear hb2)
       (try clear hk)
       (try clear hi)
       refine hK.out _ _ ⟨(blk_cell BK506.out 0).trans rfl, (blk_cell BK506.out 1).trans rfl, (blk_cell BK506.out 2).trans rfl, HS3_⟩ (fun hHeld => ?_)
       clear hK K
       refine norm_ (a' := ?_) ?_ ?_
       rotate_left
       ·show Act.put _ (some 49) _ = _
        simp only [Act.put, List.setIfInBounds_toArray, List.set_cons_zero, List.set_cons_succ, i64_w, i32_w]
        rfl
       refine pv_ (i := 7) (N := some 50) HT_.out ?_
       refine done_ (done_of HT_.out (by kernel_rfl)) ?_
       try go_wp2
       go_ret
       exact ⟨by first | rfl | (simp [errW_none, errW_some] <;> rfl) | (simp [*, errW_none, errW_some] <;> rfl), hb1_ HB.out GE506.out⟩
     ·rw [if_neg c14] at H
      exact absurd H (by simp)
    ·rw [if_neg c13] at H
     have c13b0 : decide (x9_1 < (t513.length : Int)) = false := decide_eq_false c13
     clear c13
     have HC30 := Aside0.mk H
     clear H
     obtain ⟨Ao31, co31, eo31⟩ := Kd.R_slice HO_7.out
     subst eo31
     go_upto_region 13 with (fail)
     go_cut [80] (fun v80 wc => ∃ (kq : Nat) (x80_29 : Bool), v80 = .bool x80_29 ∧ Aside0 (laws_FnMarks.j1 kq t505 t510 x8_1 x80_29 t502 t503 t504 = some r) ∧ Aside0 (kq ≤ k1) ∧ Aside0 (Kd.R (Kd.int .i64) 3 wc w.heap.size (fun _ => True) v511 t510) ∧ Aside0 (wc.heap[gb506]? = some (.cells #[.int .i64 t502, .int .i64 t503, .int .i64 t504] 36 (0, 0))) ∧ Aside0 (Below w.heap.size w wc))
     case first =>
      have H := HC30.out
      clear HC30
      by_cases c32 : (t507.length : Int) = (wrap64 (x8_1 + 1))
      ·rw [if_pos c32] at H
       have c32b0 : ((t507.length : Int) == (wrap64 (x8_1 + 1))) = true := beq_iff_eq.mpr c32
       have c32b1 : ((t507.length : Int) != (wrap64 (x8_1 + 1))) = false := bne_eq_false_iff_eq.mpr c32
       clear c32
       (first | rw [c32b0] | (simp only [i64_w, i32_w]; rw [c32b0]) | skip)
       by_cases c33 : 0 < (t507.length : Int)
       ·rw [if_pos c33] at H
        have c33b0 : decide (0 < (t507.length : Int)) = true := decide_eq_true c33
        have c33b1 : decide (0 < t507.length) = true := decide_eq_true (by omega)
        clear c33
        by_cases c34 : (rd t507 0) = t505
        ·rw [if_pos c34] at H
         have c34b0 : ((rd t507 0) == t505) = true := beq_iff_eq.mpr c34
         have c34b1 : ((rd t507 0) != t505) = false := bne_eq_false_iff_eq.mpr c34
         clear c34
         obtain ⟨ji35, hji35⟩ : ∃ j_ : Int, (wrap64 ((t507.length : Int) - 1)) = j_ := ⟨_, rfl⟩
         replace H : (if 0 ≤ (ji35) then (if (ji35) < (t507.length : Int) then (if (rd t507 (ji35)) = t505 then ((spec_CountGaps.f t502 t503).bind fun t524 => (laws_FnMarks.j1 k1 t505 t510 x8_1 ((t510.length : Int) != t524) t502 t503 t504)) else (laws_FnMarks.j1 k1 t505 t510 x8_1 true t502 t503 t504)) else (none)) else (none)) = some r := by first | (rw [hji35] at H; exact H) | (simp only [hji35] at H ⊢; exact H)
         have hji35w : (IntKind.i64.wrap ((t507.length : Int) - 1)) = ji35 := (i64_w _).trans hji35
         by_cases c36 : 0 ≤ (ji35)
         ·rw [if_pos c36] at H
          have c36b0 : decide (0 ≤ (ji35)) = true := decide_eq_true c36
          clear c36
          by_cases c37 : (ji35) < (t507.length : Int)
          ·rw [if_pos c37] at H
           have c37b0 : decide ((ji35) < (t507.length : Int)) = true := decide_eq_true c37
           clear c37
           by_cases c38 : (rd t507 (ji35)) = t505
           ·rw [if_pos c38] at H
            have c38b0 : ((rd t507 (ji35)) == t505) = true := beq_iff_eq.mpr c38
            have c38b1 : ((rd t507 (ji35)) != t505) = false := bne_eq_false_iff_eq.mpr c38
            clear c38
            replace H := Option.bind_eq_some_iff.mp H
            obtain ⟨t524, A390, H⟩ := H
            replace H : (laws_FnMarks.j1 k1 t505 t510 x8_1 ((t510.length : Int) != t524) t502 t503 t504) = some r := H
            have A39 := Aside0.mk A390
            clear A390
            have H' := Aside0.mk H
            clear H
            obtain ⟨Ao40, co40, eo40⟩ := Kd.R_slice HO_5.out
            subst eo40
            have p522 : 0 ≤ (0 : Int) := (by omega)
            have q522 : 0 < (t507.length : Int) := of_decide_eq_true (as_)
            obtain ⟨ad522, e522, hx522_0⟩ := Kd.at_int (Kd.R_reads' HO_5.out).2.2 0 p522 q522
            cases e522
            have qi522 : (0 < t507.length) = True := eq_true (by omega)
            (try rw [show ((0 : Int)).toNat = 0 from rfl] at hx522_0)
            (try rw [Addr.add_zero'] at hx522_0)
            replace p522 := eq_true p522
            replace q522 := eq_true q522
            have p523 : 0 ≤ ((ji35) : Int) := of_decide_eq_true (as_)
            have q523 : (ji35) < (t507.length : Int) := of_decide_eq_true (as_)
            obtain ⟨ad523, e523, hx523_0⟩ := Kd.at_int (Kd.R_reads' HO_5.out).2.2 (ji35) p523 q523
            obtain rfl : ad522 = ad523 := (by injection e523)
            replace p523 := eq_true p523
            replace q523 := eq_true q523
            obtain ⟨Ao41, co41, eo41⟩ := Kd.R_slice HO_6.out
            subst eo41
            obtain ⟨hcz42_0, hcz42_1, hcz42_2⟩ := cz3_ BK506.out
            obtain ⟨hfz42_0, hfz42_1, hfz42_2⟩ := fz3_ BK506.out
            go_wp2_with (first | (go_at_call 22; (with_reducible refine (spec_CountGaps.calls t502 t503 t524 _ A39.out).mono ?_); rintro e w43 ⟨rfl, hb⟩; replace HO_5 := Aside0.mk (Kd.R_below (kr_ HO_5.out) hb); replace HO_6 := Aside0.mk (Kd.R_below (kr_ HO_6.out) hb); replace HO_7 := Aside0.mk (Kd.R_below (kr_ HO_7.out) hb); replace BK506 := Aside0.mk (bb_ BK506.out hb); replace HB := Aside0.mk (below_step (hb1_ HB.out GE506.out) hb); (try clear hb); (try clear hb2); (try clear hk); (try clear hi)))
            go_meet
            case rel => exact ⟨_, (((t510.length : Int) != t524)), (by first | rfl | (simp; done) | (simp [*]; done)), H', ⟨by have := HK1.out; first | omega | exact Nat.le_refl _⟩, ⟨by (with_reducible repeat (first | apply Kd.R_alloc | apply Kd.R_drewN | apply Kd.R_drew)); exact Kd.R_mono HO_6.out (fun _ hk => trivial)⟩, ⟨bk_ BK506.out⟩, ⟨hb1_ HB.out GE506.out⟩⟩
           ·rw [if_neg c38] at H
            have c38b0 : ((rd t507 (ji35)) == t505) = false := beq_eq_false_iff_ne.mpr c38
            have c38b1 : ((rd t507 (ji35)) != t505) = true := bne_iff_ne.mpr c38
            have H' := Aside0.mk H
            clear H
            obtain ⟨Ao44, co44, eo44⟩ := Kd.R_slice HO_5.out
            subst eo44
            have p522 : 0 ≤ (0 : Int) := (by omega)
            have q522 : 0 < (t507.length : Int) := of_decide_eq_true (as_)
            obtain ⟨ad522, e522, hx522_0⟩ := Kd.at_int (Kd.R_reads' HO_5.out).2.2 0 p522 q522
            cases e522
            have qi522 : (0 < t507.length) = True := eq_true (by omega)
            (try rw [show ((0 : Int)).toNat = 0 from rfl] at hx522_0)
            (try rw [Addr.add_zero'] at hx522_0)
            replace p522 := eq_true p522
            replace q522 := eq_true q522
            have p523 : 0 ≤ ((ji35) : Int) := of_decide_eq_true (as_)
            have q523 : (ji35) < (t507.length : Int) := of_decide_eq_true (as_)
            obtain ⟨ad523, e523, hx523_0⟩ := Kd.at_int (Kd.R_reads' HO_5.out).2.2 (ji35) p523 q523
            obtain rfl : ad522 = ad523 := (by injection e523)
            replace p523 := eq_true p523
            replace q523 := eq_true q523
            go_wp2
            go_meet
            case rel => exact ⟨_, (true), (by first | rfl | (simp; done) | (simp [*]; done)), H', ⟨by have := HK1.out; first | omega | exact Nat.le_refl _⟩, ⟨by (with_reducible repeat (first | apply Kd.R_alloc | apply Kd.R_drewN | apply Kd.R_drew)); exact Kd.R_mono HO_6.out (fun _ hk => trivial)⟩, ⟨bk_ BK506.out⟩, ⟨hb1_ HB.out GE506.out⟩⟩
          ·rw [if_neg c37] at H
           exact absurd H (by simp)
         ·rw [if_neg c36] at H
          exact absurd H (by simp)
        ·rw [if_neg c34] at H
         have c34b0 : ((rd t507 0) == t505) = false := beq_eq_false_iff_ne.mpr c34
         have c34b1 : ((rd t507 0) != t505) = true := bne_iff_ne.mpr c34
         have H' := Aside0.mk H
         clear H
         obtain ⟨Ao45, co45, eo45⟩ := Kd.R_slice HO_5.out
         subst eo45
         have p522 : 0 ≤ (0 : Int) := (by omega)
         have q522 : 0 < (t507.length : Int) := of_decide_eq_true (as_)
         obtain ⟨ad522, e522, hx522_0⟩ := Kd.at_int (Kd.R_reads' HO_5.out).2.2 0 p522 q522
         cases e522
         have qi522 : (0 < t507.length) = True := eq_true (by omega)
         (try rw [show ((0 : Int)).toNat = 0 from rfl] at hx522_0)
         (try rw [Addr.add_zero'] at hx522_0)
         replace p522 := eq_true p522
         replace q522 := eq_true q522
         go_wp2
         go_meet
         case rel => exact ⟨_, (true), (by first | rfl | (simp; done) | (simp [*]; done)), H', ⟨by have := HK1.out; first | omega | exact Nat.le_refl _⟩, ⟨by (with_reducible repeat (first | apply Kd.R_alloc | apply Kd.R_drewN | apply Kd.R_drew)); exact Kd.R_mono HO_6.out (fun _ hk => trivial)⟩, ⟨bk_ BK506.out⟩, ⟨hb1_ HB.out GE506.out⟩⟩
       ·rw [if_neg c33] at H
        exact absurd H (by simp)
      ·rw [if_neg c32] at H
       have c32b0 : ((t507.length : Int) == (wrap64 (x8_1 + 1))) = false := beq_eq_false_iff_ne.mpr c32
       have c32b1 : ((t507.length : Int) != (wrap64 (x8_1 + 1))) = true := bne_iff_ne.mpr c32
       (first | rw [c32b0] | (simp only [i64_w, i32_w]; rw [c32b0]) | skip)
       have H' := Aside0.mk H
       clear H
       obtain ⟨Ao46, co46, eo46⟩ := Kd.R_slice HO_5.out
       subst eo46
       go_wp2
       go_meet
       case rel => exact ⟨_, (true), (by first | rfl | (simp; done) | (simp [*]; done)), H', ⟨by have := HK1.out; first | omega | exact Nat.le_refl _⟩, ⟨by (with_reducible repeat (first | apply Kd.R_alloc | apply Kd.R_drewN | apply Kd.R_drew)); exact Kd.R_mono HO_6.out (fun _ hk => trivial)⟩, ⟨bk_ BK506.out⟩, ⟨hb1_ HB.out GE506.out⟩⟩
     case rest =>
      clear HC30
      try clear c1
      try clear c2
      try clear p2
      try clear c3
      try clear p5
      try clear q5
      try clear hx5
      try clear qi5
      try clear p6
      try clear c13
      try clear c13b0
      try clear c14
      try clear c17
      try clear c20
      try clear c21
      try clear c32
      try clear c32b0
      try clear c32b1
      try clear c33
      try clear c33b0
      try clear c33b1
      try clear c34
      try clear c34b0
      try clear c34b1
      try clear c36
      try clear c36b0
      try clear c37
      try clear c37b0
      try clear c38
      try clear c38b0
      try clear c38b1
      try clear hcz42_0
      try clear hcz42_1
      try clear hcz42_2
      try clear hfz42_0
      try clear hfz42_1
      try clear hfz42_2
      try clear hx516_0
      try clear hx520_0
      try clear hx522_0
      try clear hx523_0
      try clear p516
      try clear p520
      try clear p522
      try clear p523
      try clear q516
      try clear q520
      try clear q522
      try clear q523
      obtain ⟨kq, x80_29, rfl, HA, HJ29, HO_6, BK506, HB⟩ := hcut
      cases kq with
      | zero => exact absurd HA.out (by simp [laws_FnMarks.j1])
      | succ kj29 =>
       have H := HA.out
       clear HA
       simp only [laws_FnMarks.j1] at H
       by_cases c47 : x80_29 = true
       ·subst c47
        have H1 : (some false) = some r := by rw [if_pos rfl] at H; exact H
        clear H
        have H := H1
        clear H1
        obtain rfl := Option.some.inj H
        go_wp2
        go_ret
        exact ⟨by first | rfl | (simp [errW_none, errW_some] <;> rfl) | (simp [*, errW_none, errW_some] <;> rfl), hb1_ HB.out GE506.out⟩
       ·replace c47 := Bool.eq_false_iff.mpr c47
        subst c47
        have H1 : (laws_FnMarks.l1 kj29 t505 t510 x8_1 0 0 t502 t503 t504) = some r := by rw [if_neg (show ¬ (false = true) by decide)] at H; exact H
        clear H
        have H := H1
        clear H1
        have H' := Aside0.mk H
        clear H
        go_wp2
        go_loopg [10, 11] kj29 (fun kq v10 v11 w' => ∃ (x10_3 : Int) (x11_3 : Int), v10 = .int .i64 x10_3 ∧ v11 = .int .i64 x11_3 ∧ Aside0 (laws_FnMarks.l1 kq t505 t510 x8_1 x10_3 x11_3 t502 t503 t504 = some r) ∧ Aside0 (kq ≤ kj29) ∧ Aside0 (Kd.R (Kd.int .i64) 3 w' w.heap.size (fun _ => True) v511 t510) ∧ Aside0 (w'.heap[gb506]? = some (.cells #[.int .i64 t502, .int .i64 t503, .int .i64 t504] 36 (0, 0))) ∧ Aside0 (Below w.heap.size w w'))
        case atStart => exact ⟨(0), (0), (by first | rfl | (simp; done) | (simp [*]; done)), (by first | rfl | (simp; done) | (simp [*]; done)), H', ⟨Nat.le_refl _⟩, ⟨kr_ HO_6.out⟩, ⟨bk_ BK506.out⟩, ⟨hb1_ HB.out GE506.out⟩⟩
        case round =>
         clear H'
         try clear c1
         try clear c2
         try clear p2
         try clear c3
         try clear c4
         try clear p5
         try clear q5
         try clear hx5
         try clear qi5
         try clear p6
         try clear c13
         try clear c13b0
         try clear c14
         try clear c17
         try clear c20
         try clear c21
         try clear c32
         try clear c32b0
         try clear c32b1
         try clear c33
         try clear c33b0
         try clear c33b1
         try clear c34
         try clear c34b0
         try clear c34b1
         try clear c36
         try clear c36b0
         try clear c37
         try clear c37b0
         try clear c38
         try clear c38b0
         try clear c38b1
         try clear c47
         try clear hcz42_0
         try clear hcz42_1
         try clear hcz42_2
         try clear hfz42_0
         try clear hfz42_1
         try clear hfz42_2
         try clear hx516_0
         try clear hx520_0
         try clear hx522_0
         try clear hx523_0
         try clear p2
         try clear p5
         try clear p516
         try clear p520
         try clear p522
         try clear p523
         try clear p6
         try clear q5
         try clear q516
         try clear q520
         try clear q522
         try clear q523
         obtain ⟨x10_3, x11_3, rfl, rfl, HA, HK3, HO_6, BK506, HB⟩ := hrel
         cases gk with
         | zero => exact absurd HA.out (by simp [laws_FnMarks.l1])
         | succ k3 =>
          have H := HA.out
          clear HA
          simp only [laws_FnMarks.l1] at H
          by_cases c48 : x11_3 < (t510.length : Int)
          ·rw [if_pos c48] at H
           have c48b0 : decide (x11_3 < (t510.length : Int)) = true := decide_eq_true c48
           clear c48
           by_cases c49 : 0 ≤ x11_3
           ·rw [if_pos c49] at H
            have c49b0 : decide (0 ≤ x11_3) = true := decide_eq_true c49
            clear c49
            have H' := Aside0.mk H
            clear H
            obtain ⟨Ao50, co50, eo50⟩ := Kd.R_slice HO_6.out
            subst eo50
            have p525 : 0 ≤ (x11_3 : Int) := of_decide_eq_true (as_)
            have q525 : x11_3 < (t510.length : Int) := of_decide_eq_true (as_)
            obtain ⟨ad525, e525, hx525_0⟩ := Kd.at_int (Kd.R_reads' HO_6.out).2.2 x11_3 p525 q525
            cases e525
            replace p525 := eq_true p525
            replace q525 := eq_true q525
            go_wp2
            go_roundg k3
            case measure => have := HK1.out; have := HJ29.out; have := HK3.out; omega
            case rel => exact ⟨(wrap64 (x10_3 + (rd t510 x11_3))), (wrap64 (x11_3 + 1)), (by first | rfl | (simp; done) | (simp [*]; done)), (by first | rfl | (simp; done) | (simp [*]; done)), H', ⟨by have := HK1.out; have := HJ29.out; have := HK3.out; omega⟩, ⟨kr_ HO_6.out⟩, ⟨bk_ BK506.out⟩, ⟨hb1_ HB.out GE506.out⟩⟩
           ·rw [if_neg c49] at H
            exact absurd H (by simp)
          ·rw [if_neg c48] at H
           have c48b0 : decide (x11_3 < (t510.length : Int)) = false := decide_eq_false c48
           clear c48
           by_cases c51 : x10_3 = x8_1
           ·rw [if_pos c51] at H
            have c51b0 : (x10_3 == x8_1) = true := beq_iff_eq.mpr c51
            have c51b1 : (x10_3 != x8_1) = false := bne_eq_false_iff_eq.mpr c51
            clear c51
            replace H := Option.bind_eq_some_iff.mp H
            obtain ⟨t526, A520, H⟩ := H
            replace H : ((laws_btoi.f (decide (x8_1 > 0))).bind fun t527 => (some (t526 == (wrap64 (2 * t527))))) = some r := H
            have A52 := Aside0.mk A520
            clear A520
            replace H := Option.bind_eq_some_iff.mp H
            obtain ⟨t527, A530, H⟩ := H
            replace H : (some (t526 == (wrap64 (2 * t527)))) = some r := H
            have A53 := Aside0.mk A530
            clear A530
            obtain rfl := Option.some.inj H
            obtain ⟨Ao54, co54, eo54⟩ := Kd.R_slice HO_6.out
            subst eo54
            obtain ⟨hcz55_0, hcz55_1, hcz55_2⟩ := cz3_ BK506.out
            obtain ⟨hfz55_0, hfz55_1, hfz55_2⟩ := fz3_ BK506.out
            go_wp2_with (first | (go_at_call 23; (with_reducible refine (impl_MostMarks.calls k3 t502 t503 t504 t505 t526 _ A52.out).mono ?_); rintro e w56 ⟨rfl, hb⟩; replace HO_6 := Aside0.mk (Kd.R_below (kr_ HO_6.out) hb); replace BK506 := Aside0.mk (bb_ BK506.out hb); replace HB := Aside0.mk (below_step (hb1_ HB.out GE506.out) hb); (try clear hb); (try clear hb2); (try clear hk); (try clear hi)) | (go_at_call 24; (with_reducible refine (laws_btoi.calls (decide (x8_1 > 0)) t527 _ A53.out).mono ?_); rintro e w' ⟨rfl, ⟨nd, rfl⟩⟩))
            go_ret
            exact ⟨by first | rfl | (simp [errW_none, errW_some] <;> rfl) | (simp [*, errW_none, errW_some] <;> rfl), hb1_ HB.out GE506.out⟩
           ·rw [if_neg c51] at H
            have c51b0 : (x10_3 == x8_1) = false := beq_eq_false_iff_ne.mpr c51
            have c51b1 : (x10_3 != x8_1) = true := bne_iff_ne.mpr c51
            obtain rfl := Option.some.inj H
            obtain ⟨Ao57, co57, eo57⟩ := Kd.R_slice HO_6.out
            subst eo57
            go_wp2
            go_ret
            exact ⟨by first | rfl | (simp [errW_none, errW_some] <;> rfl) | (simp [*, errW_none, errW_some] <;> rfl), hb1_ HB.out GE506.out⟩

/-- THE ONE PURE STATEMENT of laws_FnMarks: yours. -/
def laws_FnMarks.Pure : Prop := ∀ (l0 : List Int), l0.length ≤ maxLen → l0.length * 1 ≤ 140737488351232 → (∀ x ∈ l0, (Lit.int .u8 x).wf = true) → ∃ k, laws_FnMarks.f k l0 = some true
theorem laws_FnMarks.walk (P : laws_FnMarks.Pure) (a0 : Option Addr) (len0 cap0 : Nat) (z0 : List Int) (w : World) (w0 : (a0 = none ∧ len0 = 0 ∧ cap0 = 0 ∧ z0 = []) ∨ ∃ x, a0 = some x ∧ len0 ≤ cap0 ∧ cap0 ≤ maxLen ∧ z0.length = cap0 ∧ (∀ i, i < z0.length → w.cell? (x.add i) = some (.int .u8 (z0.getD i 0))) ∧ ∀ n ∈ z0, (Lit.int .u8 n).wf = true) (y0 : len0 * 1 ≤ 140737488351232) :
  Calls Try.prog 4 #[.slice a0 len0 cap0] w fun e w' => e = .returned (.bool true) ∧ Below w.heap.size w w' := by
 obtain ⟨l0, rfl, hr0, hm0, hw0, hc0⟩ := ReadsInt.ofRowC w0
 obtain ⟨k, h⟩ := P l0 hm0 y0 hw0
 refine (laws_FnMarks.calls k _ _ l0 true w (Kd.C_of_reads (d := (0 : Int)) (h1 := fun _ => rfl) hr0) hc0 h).mono ?_
 rintro e w' ⟨rfl, hd⟩
 exact ⟨rfl, hd⟩

end Go.Proofs.Ytdloifaaoiollac.X
