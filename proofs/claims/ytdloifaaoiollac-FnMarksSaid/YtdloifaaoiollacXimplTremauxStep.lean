-- Written by a program of this session (xprint.py), out of the translation and of hand-written contracts. Lean checks it.
import Derived.Test.YtdloifaaoiollacX0
import Derived.Test.YtdloifaaoiollacXcin
import Derived.Test.YtdloifaaoiollacXimplTremauxStep1
import Derived.Test.YtdloifaaoiollacXimplareMarks
import Derived.Test.YtdloifaaoiollacXimplmarked
namespace Go.Proofs.Ytdloifaaoiollac.X
open Go.RowKit Go.Proofs.YtdloifaaoiollacW.PrintWords Go.Proofs.YtdloifaaoiollacW.PrintLast Go.Proofs.YtdloifaaoiollacW.PrintMore
attribute [local go_sem] max2_int min2_int max_two min_two max_three min_three max_four min_four   -- for this text's walks alone
set_option linter.unusedVariables false
set_option linter.unusedSimpArgs false

/-! ### impl_TremauxStep: function 49 -/
mutual
def impl_TremauxStep.j0 : Nat → Bool → Int → Int → Int → List Int → Int → Int → Option (Int × Int × Bool)
 | 0, _, _, _, _, _, _, _ => none
 | k + 1, x27, x502000, x502001, x502002, x503000, x504000, x504001 => if x27 = true then (some (x504000, x504001, false)) else (impl_TremauxStep.l0 k (Int.tmod (wrap64 (x504001 + 2)) 4) false 0 x502000 x502001 x502002 x503000 x504000 x504001)
def impl_TremauxStep.l0 : Nat → Int → Bool → Int → Int → Int → Int → List Int → Int → Int → Option (Int × Int × Bool)
 | 0, _, _, _, _, _, _, _, _, _ => none
 | k + 1, x9, x10, x11, x502000, x502001, x502002, x503000, x504000, x504001 => if x11 ≤ 3 then (if x10 = true then (impl_TremauxStep.l0 k x9 true (wrap64 (x11 + 1)) x502000 x502001 x502002 x503000 x504000 x504001) else (if x11 = x9 then (impl_TremauxStep.l0 k x9 false (wrap64 (x11 + 1)) x502000 x502001 x502002 x503000 x504000 x504001) else ((impl_TremauxStep_1.f k x11 x502000 x502001 x502002 x504000 x504001 x503000).bind fun t507 => (impl_TremauxStep.l0 k x9 (decide (t507 > 0)) (wrap64 (x11 + 1)) x502000 x502001 x502002 x503000 x504000 x504001)))) else ((impl_TremauxStep_1.f k x9 x502000 x502001 x502002 x504000 x504001 x503000).bind fun t508 => (if t508 = 1 then (impl_TremauxStep.j2 k x9 x10 x502000 x502001 x502002 x503000 x504000 x504001) else (impl_TremauxStep.j2 k x9 false x502000 x502001 x502002 x503000 x504000 x504001)))
def impl_TremauxStep.j2 : Nat → Int → Bool → Int → Int → Int → List Int → Int → Int → Option (Int × Int × Bool)
 | 0, _, _, _, _, _, _, _, _ => none
 | k + 1, x9, x56, x502000, x502001, x502002, x503000, x504000, x504001 => if x56 = true then ((impl_marked.f k x502000 x502001 x502002 x504000 x504001 x9).bind fun bt509 => (some (bt509.1, bt509.2, true))) else ((some (([1, 0, 3] : List Int) : List Int)).bind fun y511 => (impl_TremauxStep.l1 k y511 (y511.length : Int) 0 x502000 x502001 x502002 x503000 x504000 x504001))
def impl_TremauxStep.l1 : Nat → List Int → Int → Int → Int → Int → Int → List Int → Int → Int → Option (Int × Int × Bool)
 | 0, _, _, _, _, _, _, _, _, _ => none
 | k + 1, x61, x62, x63, x502000, x502001, x502002, x503000, x504000, x504001 => if x63 < x62 then (if 0 ≤ x63 then (if x63 < (x61.length : Int) then ((impl_TremauxStep_1.f k (Int.tmod (wrap64 (x504001 + (rd x61 x63))) 4) x502000 x502001 x502002 x504000 x504001 x503000).bind fun t515 => (if t515 = 0 then ((impl_marked.f k x502000 x502001 x502002 x504000 x504001 (Int.tmod (wrap64 (x504001 + (rd x61 x63))) 4)).bind fun bt516 => (some (bt516.1, bt516.2, true))) else (impl_TremauxStep.l1 k x61 x62 (wrap64 (x63 + 1)) x502000 x502001 x502002 x503000 x504000 x504001))) else (none)) else (none)) else ((some (([1, 0, 3, 2] : List Int) : List Int)).bind fun y518 => (impl_TremauxStep.l2 k y518 (y518.length : Int) 0 x502000 x502001 x502002 x503000 x504000 x504001))
def impl_TremauxStep.l2 : Nat → List Int → Int → Int → Int → Int → Int → List Int → Int → Int → Option (Int × Int × Bool)
 | 0, _, _, _, _, _, _, _, _, _ => none
 | k + 1, x81, x82, x83, x502000, x502001, x502002, x503000, x504000, x504001 => if x83 < x82 then (if 0 ≤ x83 then (if x83 < (x81.length : Int) then ((impl_TremauxStep_1.f k (Int.tmod (wrap64 (x504001 + (rd x81 x83))) 4) x502000 x502001 x502002 x504000 x504001 x503000).bind fun t522 => (if t522 = 1 then ((impl_marked.f k x502000 x502001 x502002 x504000 x504001 (Int.tmod (wrap64 (x504001 + (rd x81 x83))) 4)).bind fun bt523 => (some (bt523.1, bt523.2, true))) else (impl_TremauxStep.l2 k x81 x82 (wrap64 (x83 + 1)) x502000 x502001 x502002 x503000 x504000 x504001))) else (none)) else (none)) else (some (x504000, x504001, false))
end
def impl_TremauxStep.f (k : Nat) (a0_0 : Int) (a0_1 : Int) (a0_2 : Int) (l1 : List Int) (a2_0 : Int) (a2_1 : Int) : Option (Int × Int × Bool) := (impl_WalkerOk.f a0_0 a0_1 a0_2 a2_0 a2_1).bind fun t505 => (if t505 = true then ((impl_areMarks.f a0_0 a0_1 a0_2 l1).bind fun t506 => (impl_TremauxStep.j0 k (!t506) a0_0 a0_1 a0_2 l1 a2_0 a2_1)) else (impl_TremauxStep.j0 k true a0_0 a0_1 a0_2 l1 a2_0 a2_1))
theorem impl_TremauxStep.mono_l : ∀ k, (∀ y0 y1 y2 y3 y4 y5 y6, LeO (impl_TremauxStep.j0 k y0 y1 y2 y3 y4 y5 y6) (impl_TremauxStep.j0 (k + 1) y0 y1 y2 y3 y4 y5 y6)) ∧ (∀ y0 y1 y2 y3 y4 y5 y6 y7 y8, LeO (impl_TremauxStep.l0 k y0 y1 y2 y3 y4 y5 y6 y7 y8) (impl_TremauxStep.l0 (k + 1) y0 y1 y2 y3 y4 y5 y6 y7 y8)) ∧ (∀ y0 y1 y2 y3 y4 y5 y6 y7, LeO (impl_TremauxStep.j2 k y0 y1 y2 y3 y4 y5 y6 y7) (impl_TremauxStep.j2 (k + 1) y0 y1 y2 y3 y4 y5 y6 y7)) ∧ (∀ y0 y1 y2 y3 y4 y5 y6 y7 y8, LeO (impl_TremauxStep.l1 k y0 y1 y2 y3 y4 y5 y6 y7 y8) (impl_TremauxStep.l1 (k + 1) y0 y1 y2 y3 y4 y5 y6 y7 y8)) ∧ (∀ y0 y1 y2 y3 y4 y5 y6 y7 y8, LeO (impl_TremauxStep.l2 k y0 y1 y2 y3 y4 y5 y6 y7 y8) (impl_TremauxStep.l2 (k + 1) y0 y1 y2 y3 y4 y5 y6 y7 y8))
 | 0 => ⟨fun _ _ _ _ _ _ _ r h => by simp [impl_TremauxStep.j0] at h, fun _ _ _ _ _ _ _ _ _ r h => by simp [impl_TremauxStep.l0] at h, fun _ _ _ _ _ _ _ _ r h => by simp [impl_TremauxStep.j2] at h, fun _ _ _ _ _ _ _ _ _ r h => by simp [impl_TremauxStep.l1] at h, fun _ _ _ _ _ _ _ _ _ r h => by simp [impl_TremauxStep.l2] at h⟩
 | k + 1 => by
  obtain ⟨ih0, ih1, ih2, ih3, ih4⟩ := impl_TremauxStep.mono_l k
  refine ⟨?_, ?_, ?_, ?_, ?_⟩
  ·intro y0 y1 y2 y3 y4 y5 y6
   unfold impl_TremauxStep.j0
   repeat' first
   | (with_reducible exact ih0 _ _ _ _ _ _ _)
   | (with_reducible exact ih1 _ _ _ _ _ _ _ _ _)
   | (with_reducible exact ih2 _ _ _ _ _ _ _ _)
   | (with_reducible exact ih3 _ _ _ _ _ _ _ _ _)
   | (with_reducible exact ih4 _ _ _ _ _ _ _ _ _)
   | (with_reducible exact impl_TremauxStep_1.mono _ _)
   | (with_reducible exact impl_marked.mono _ _ _ _ _ _ _)
   | (with_reducible exact LeO.refl _)
   | (with_reducible exact LeO.none _)
   | (with_reducible refine LeO.ite ?_ ?_)
   | (with_reducible refine LeO.bind ?_ (fun _ => ?_))
   | exact ih0 _ _ _ _ _ _ _
   | exact ih1 _ _ _ _ _ _ _ _ _
   | exact ih2 _ _ _ _ _ _ _ _
   | exact ih3 _ _ _ _ _ _ _ _ _
   | exact ih4 _ _ _ _ _ _ _ _ _
   | exact impl_TremauxStep_1.mono _ _
   | exact impl_marked.mono _ _ _ _ _ _ _
   | exact LeO.none _
   | refine LeO.ite ?_ ?_
   | refine LeO.bind ?_ (fun _ => ?_)
  ·intro y0 y1 y2 y3 y4 y5 y6 y7 y8
   unfold impl_TremauxStep.l0
   repeat' first
   | (with_reducible exact ih0 _ _ _ _ _ _ _)
   | (with_reducible exact ih1 _ _ _ _ _ _ _ _ _)
   | (with_reducible exact ih2 _ _ _ _ _ _ _ _)
   | (with_reducible exact ih3 _ _ _ _ _ _ _ _ _)
   | (with_reducible exact ih4 _ _ _ _ _ _ _ _ _)
   | (with_reducible exact impl_TremauxStep_1.mono _ _)
   | (with_reducible exact impl_marked.mono _ _ _ _ _ _ _)
   | (with_reducible exact LeO.refl _)
   | (with_reducible exact LeO.none _)
   | (with_reducible refine LeO.ite ?_ ?_)
   | (with_reducible refine LeO.bind ?_ (fun _ => ?_))
   | exact ih0 _ _ _ _ _ _ _
   | exact ih1 _ _ _ _ _ _ _ _ _
   | exact ih2 _ _ _ _ _ _ _ _
   | exact ih3 _ _ _ _ _ _ _ _ _
   | exact ih4 _ _ _ _ _ _ _ _ _
   | exact impl_TremauxStep_1.mono _ _
   | exact impl_marked.mono _ _ _ _ _ _ _
   | exact LeO.none _
   | refine LeO.ite ?_ ?_
   | refine LeO.bind ?_ (fun _ => ?_)
  ·intro y0 y1 y2 y3 y4 y5 y6 y7
   unfold impl_TremauxStep.j2
   repeat' first
   | (with_reducible exact ih0 _ _ _ _ _ _ _)
   | (with_reducible exact ih1 _ _ _ _ _ _ _ _ _)
   | (with_reducible exact ih2 _ _ _ _ _ _ _ _)
   | (with_reducible exact ih3 _ _ _ _ _ _ _ _ _)
   | (with_reducible exact ih4 _ _ _ _ _ _ _ _ _)
   | (with_reducible exact impl_TremauxStep_1.mono _ _)
   | (with_reducible exact impl_marked.mono _ _ _ _ _ _ _)
   | (with_reducible exact LeO.refl _)
   | (with_reducible exact LeO.none _)
   | (with_reducible refine LeO.ite ?_ ?_)
   | (with_reducible refine LeO.bind ?_ (fun _ => ?_))
   | exact ih0 _ _ _ _ _ _ _
   | exact ih1 _ _ _ _ _ _ _ _ _
   | exact ih2 _ _ _ _ _ _ _ _
   | exact ih3 _ _ _ _ _ _ _ _ _
   | exact ih4 _ _ _ _ _ _ _ _ _
   | exact impl_TremauxStep_1.mono _ _
   | exact impl_marked.mono _ _ _ _ _ _ _
   | exact LeO.none _
   | refine LeO.ite ?_ ?_
   | refine LeO.bind ?_ (fun _ => ?_)
  ·intro y0 y1 y2 y3 y4 y5 y6 y7 y8
   unfold impl_TremauxStep.l1
   repeat' first
   | (with_reducible exact ih0 _ _ _ _ _ _ _)
   | (with_reducible exact ih1 _ _ _ _ _ _ _ _ _)
   | (with_reducible exact ih2 _ _ _ _ _ _ _ _)
   | (with_reducible exact ih3 _ _ _ _ _ _ _ _ _)
   | (with_reducible exact ih4 _ _ _ _ _ _ _ _ _)
   | (with_reducible exact impl_TremauxStep_1.mono _ _)
   | (with_reducible exact impl_marked.mono _ _ _ _ _ _ _)
   | (with_reducible exact LeO.refl _)
   | (with_reducible exact LeO.none _)
   | (with_reducible refine LeO.ite ?_ ?_)
   | (with_reducible refine LeO.bind ?_ (fun _ => ?_))
   | exact ih0 _ _ _ _ _ _ _
   | exact ih1 _ _ _ _ _ _ _ _ _
   | exact ih2 _ _ _ _ _ _ _ _
   | exact ih3 _ _ _ _ _ _ _ _ _
   | exact ih4 _ _ _ _ _ _ _ _ _
   | exact impl_TremauxStep_1.mono _ _
   | exact impl_marked.mono _ _ _ _ _ _ _
   | exact LeO.none _
   | refine LeO.ite ?_ ?_
   | refine LeO.bind ?_ (fun _ => ?_)
  ·intro y0 y1 y2 y3 y4 y5 y6 y7 y8
   unfold impl_TremauxStep.l2
   repeat' first
   | (with_reducible exact ih0 _ _ _ _ _ _ _)
   | (with_reducible exact ih1 _ _ _ _ _ _ _ _ _)
   | (with_reducible exact ih2 _ _ _ _ _ _ _ _)
   | (with_reducible exact ih3 _ _ _ _ _ _ _ _ _)
   | (with_reducible exact ih4 _ _ _ _ _ _ _ _ _)
   | (with_reducible exact impl_TremauxStep_1.mono _ _)
   | (with_reducible exact impl_marked.mono _ _ _ _ _ _ _)
   | (with_reducible exact LeO.refl _)
   | (with_reducible exact LeO.none _)
   | (with_reducible refine LeO.ite ?_ ?_)
   | (with_reducible refine LeO.bind ?_ (fun _ => ?_))
   | exact ih0 _ _ _ _ _ _ _
   | exact ih1 _ _ _ _ _ _ _ _ _
   | exact ih2 _ _ _ _ _ _ _ _
   | exact ih3 _ _ _ _ _ _ _ _ _
   | exact ih4 _ _ _ _ _ _ _ _ _
   | exact impl_TremauxStep_1.mono _ _
   | exact impl_marked.mono _ _ _ _ _ _ _
   | exact LeO.none _
   | refine LeO.ite ?_ ?_
   | refine LeO.bind ?_ (fun _ => ?_)
theorem impl_TremauxStep.mono : ∀ a0 a1 a2 a3 a4 a5 k, LeO (impl_TremauxStep.f k a0 a1 a2 a3 a4 a5) (impl_TremauxStep.f (k + 1) a0 a1 a2 a3 a4 a5) := by
 intro a0 a1 a2 a3 a4 a5 k
 obtain ⟨ih0, ih1, ih2, ih3, ih4⟩ := impl_TremauxStep.mono_l k
 unfold impl_TremauxStep.f
 repeat' first
   | (with_reducible exact ih0 _ _ _ _ _ _ _)
   | (with_reducible exact ih1 _ _ _ _ _ _ _ _ _)
   | (with_reducible exact ih2 _ _ _ _ _ _ _ _)
   | (with_reducible exact ih3 _ _ _ _ _ _ _ _ _)
   | (with_reducible exact ih4 _ _ _ _ _ _ _ _ _)
   | (with_reducible exact impl_TremauxStep_1.mono _ _)
   | (with_reducible exact impl_marked.mono _ _ _ _ _ _ _)
   | (with_reducible exact LeO.refl _)
   | (with_reducible exact LeO.none _)
   | (with_reducible refine LeO.ite ?_ ?_)
   | (with_reducible refine LeO.bind ?_ (fun _ => ?_))
   | exact ih0 _ _ _ _ _ _ _
   | exact ih1 _ _ _ _ _ _ _ _ _
   | exact ih2 _ _ _ _ _ _ _ _
   | exact ih3 _ _ _ _ _ _ _ _ _
   | exact ih4 _ _ _ _ _ _ _ _ _
   | exact impl_TremauxStep_1.mono _ _
   | exact impl_marked.mono _ _ _ _ _ _ _
   | exact LeO.none _
   | refine LeO.ite ?_ ?_
   | refine LeO.bind ?_ (fun _ => ?_)
set_option maxHeartbeats 8000000 in
set_option maxRecDepth 100000 in
theorem impl_TremauxStep.calls (k : Nat) (a0_0 : Int) (a0_1 : Int) (a0_2 : Int) (A1 : Option Addr) (c1 : Nat) (l1 : List Int) (a2_0 : Int) (a2_1 : Int) (r1 : Int) (r2 : Int) (r3 : Bool) (w : World) (hr1 : Kd.C (Kd.int .i64) w A1 l1.length l1) (hc1 : l1.length ≤ c1) (h : impl_TremauxStep.f k a0_0 a0_1 a0_2 l1 a2_0 a2_1 = some (r1, r2, r3)) :
  Calls Try.prog 49 #[.agg #[.int .i64 a0_0, .int .i64 a0_1, .int .i64 a0_2], .slice A1 l1.length c1, .agg #[.int .i64 a2_0, .int .i64 a2_1]] w fun e w' => e = .returned (.tuple #[.agg #[.int .i64 r1, .int .i64 r2], .bool r3]) ∧ Below w.heap.size w w' := by
 have hu36 := Try.underlying36
 have hu60 := Try.underlying60
 have HR1 := Aside0.mk hr1
 have HC1 := Aside0.mk hc1
 clear hr1 hc1
 have HB := Aside0.mk (Below.refl w.heap.size w)
 have eg_ : ∀ args w, (callFunc 78 args).run Try.prog w = .ok (.enter 78 args) w := enters_of Try.func78 (by kernel_rfl) rfl
 have H : ((impl_WalkerOk.f a0_0 a0_1 a0_2 a2_0 a2_1).bind fun t505 => (if t505 = true then ((impl_areMarks.f a0_0 a0_1 a0_2 l1).bind fun t506 => (impl_TremauxStep.j0 k (!t506) a0_0 a0_1 a0_2 l1 a2_0 a2_1)) else (impl_TremauxStep.j0 k true a0_0 a0_1 a0_2 l1 a2_0 a2_1))) = some (r1, r2, r3) := h
 clear h
 have HC4 := Aside0.mk H
 clear H
 go_enter Try.func49, Try.ntmps49
 go_upto_region 1 with (first | ((with_reducible refine gate_dst (N := 3) rfl ?_); refine box_event ?hg (N := 3) ?hd (cs := #[.int .i64 a0_0, .int .i64 a0_1, .int .i64 a0_2]) (t := 36) ?hr ?_; (case hd => rfl); (case hg => rfl); (case hr => first | (go_simp; done) | (go_simp; rfl)); intro gb501 hg w5 hbox hb; have n0_ := Aside0.mk (below_step (hb0_ HB.out) hb); have n1_ := Aside0.mk (hbox); have n2_ := Aside0.mk ((gs_ hg (hb0_ HB.out))); have n3_ := Aside0.mk ((gs_ hg (hb0_ HB.out))); clear HB; have HB := n0_; have BK501 := n1_; have GW501 := n2_; have GE501 := n3_; clear n0_ n1_ n2_ n3_; clear hb hbox hg) | ((with_reducible refine gate_dst (N := 4) rfl ?_); refine box_event ?hg (N := 4) ?hd (cs := #[.slice A1 l1.length c1]) (t := 22) ?hr ?_; (case hd => rfl); (case hg => rfl); (case hr => first | (go_simp; done) | (go_simp; rfl)); intro gb502 hg w6 hbox hb; have n0_ := Aside0.mk (bb_ BK501.out hb); have n1_ := Aside0.mk (below_step (hb1_ HB.out GE501.out) hb); have n2_ := Aside0.mk (hbox); have n3_ := Aside0.mk ((gs_ hg (hb1_ HB.out GE501.out))); have n4_ := Aside0.mk ((gs_ hg (hb1_ HB.out GE501.out))); have n5_ := Aside0.mk (nl_ hg BK501.out); have n6_ := Aside0.mk (nr_ hg BK501.out); clear BK501; clear HB; have BK501 := n0_; have HB := n1_; have BK502 := n2_; have GW502 := n3_; have GE502 := n4_; have NB501_502 := n5_; have NB502_501 := n6_; clear n0_ n1_ n2_ n3_ n4_ n5_ n6_; clear hb hbox hg) | ((with_reducible refine gate_dst (N := 5) rfl ?_); refine box_event ?hg (N := 5) ?hd (cs := #[.int .i64 a2_0, .int .i64 a2_1]) (t := 60) ?hr ?_; (case hd => rfl); (case hg => rfl); (case hr => first | (go_simp; done) | (go_simp; rfl)); intro gb503 hg w7 hbox hb; have n0_ := Aside0.mk (bb_ BK501.out hb); have n1_ := Aside0.mk (bb_ BK502.out hb); have n2_ := Aside0.mk (below_step (hb2_ HB.out GE501.out GE502.out) hb); have n3_ := Aside0.mk (hbox); have n4_ := Aside0.mk ((gs_ hg (hb2_ HB.out GE501.out GE502.out))); have n5_ := Aside0.mk ((gs_ hg (hb2_ HB.out GE501.out GE502.out))); have n6_ := Aside0.mk (nl_ hg BK501.out); have n7_ := Aside0.mk (nr_ hg BK501.out); have n8_ := Aside0.mk (nl_ hg BK502.out); have n9_ := Aside0.mk (nr_ hg BK502.out); clear BK501; clear BK502; clear HB; have BK501 := n0_; have BK502 := n1_; have HB := n2_; have BK503 := n3_; have GW503 := n4_; have GE503 := n5_; have NB501_503 := n6_; have NB503_501 := n7_; have NB502_503 := n8_; have NB503_502 := n9_; clear n0_ n1_ n2_ n3_ n4_ n5_ n6_ n7_ n8_ n9_; clear hb hbox hg) | ((with_reducible refine gate_dst (N := 6) rfl ?_); refine box_event ?hg (N := 6) ?hd (cs := #[.int .i64 0, .int .i64 0]) (t := 60) ?hr ?_; (case hd => rfl); (case hg => rfl); (case hr => first | (go_simp; done) | (go_simp; rfl)); intro gb504 hg w8 hbox hb; have n0_ := Aside0.mk (bb_ BK501.out hb); have n1_ := Aside0.mk (bb_ BK502.out hb); have n2_ := Aside0.mk (bb_ BK503.out hb); have n3_ := Aside0.mk (below_step (hb3_ HB.out GE501.out GE502.out GE503.out) hb); have n4_ := Aside0.mk (hbox); have n5_ := Aside0.mk ((gs_ hg (hb3_ HB.out GE501.out GE502.out GE503.out))); have n6_ := Aside0.mk ((gs_ hg (hb3_ HB.out GE501.out GE502.out GE503.out))); have n7_ := Aside0.mk (nl_ hg BK501.out); have n8_ := Aside0.mk (nr_ hg BK501.out); have n9_ := Aside0.mk (nl_ hg BK502.out); have n10_ := Aside0.mk (nr_ hg BK502.out); have n11_ := Aside0.mk (nl_ hg BK503.out); have n12_ := Aside0.mk (nr_ hg BK503.out); clear BK501; clear BK502; clear BK503; clear HB; have BK501 := n0_; have BK502 := n1_; have BK503 := n2_; have HB := n3_; have BK504 := n4_; have GW504 := n5_; have GE504 := n6_; have NB501_504 := n7_; have NB504_501 := n8_; have NB502_504 := n9_; have NB504_502 := n10_; have NB503_504 := n11_; have NB504_503 := n12_; clear n0_ n1_ n2_ n3_ n4_ n5_ n6_ n7_ n8_ n9_ n10_ n11_ n12_; clear hb hbox hg))
 (try simp only [Act.put, List.setIfInBounds_toArray, List.set_cons_zero, List.set_cons_succ])
 go_cut [27] (fun v27 wc => ∃ (kq : Nat) (x27_3 : Bool), v27 = .bool x27_3 ∧ Aside0 (impl_TremauxStep.j0 kq x27_3 a0_0 a0_1 a0_2 l1 a2_0 a2_1 = some (r1, r2, r3)) ∧ Aside0 (kq ≤ k) ∧ Aside0 (wc.heap[gb501]? = some (.cells #[.int .i64 a0_0, .int .i64 a0_1, .int .i64 a0_2] 36 (0, 0))) ∧ Aside0 (wc.heap[gb502]? = some (.cells #[(.slice A1 l1.length c1)] 22 (0, 0))) ∧ Aside0 (wc.heap[gb503]? = some (.cells #[.int .i64 a2_0, .int .i64 a2_1] 60 (0, 0))) ∧ Aside0 (wc.heap[gb504]? = some (.cells #[.int .i64 0, .int .i64 0] 60 (0, 0))) ∧ Aside0 (Below w.heap.size w wc))
 case first =>
  have H := HC4.out
  clear HC4
  replace H := Option.bind_eq_some_iff.mp H
  obtain ⟨t505, A90, H⟩ := H
  replace H : (if t505 = true then ((impl_areMarks.f a0_0 a0_1 a0_2 l1).bind fun t506 => (impl_TremauxStep.j0 k (!t506) a0_0 a0_1 a0_2 l1 a2_0 a2_1)) else (impl_TremauxStep.j0 k true a0_0 a0_1 a0_2 l1 a2_0 a2_1)) = some (r1, r2, r3) := H
  have A9 := Aside0.mk A90
  clear A90
  by_cases c10 : t505 = true
  ·subst c10
   have H1 : ((impl_areMarks.f a0_0 a0_1 a0_2 l1).bind fun t506 => (impl_TremauxStep.j0 k (!t506) a0_0 a0_1 a0_2 l1 a2_0 a2_1)) = some (r1, r2, r3) := by rw [if_pos rfl] at H; exact H
   clear H
   have H := H1
   clear H1
   replace H := Option.bind_eq_some_iff.mp H
   obtain ⟨t506, A110, H⟩ := H
   replace H : (impl_TremauxStep.j0 k (!t506) a0_0 a0_1 a0_2 l1 a2_0 a2_1) = some (r1, r2, r3) := H
   have A11 := Aside0.mk A110
   clear A110
   have H' := Aside0.mk H
   clear H
   have hnb12 := NB501_502.out
   have hnc12 := NB502_501.out
   have hnb13 := NB501_503.out
   have hnc13 := NB503_501.out
   have hnb14 := NB501_504.out
   have hnc14 := NB504_501.out
   obtain ⟨hcz15_0, hcz15_1, hcz15_2⟩ := cz3_ BK501.out
   obtain ⟨hfz15_0, hfz15_1, hfz15_2⟩ := fz3_ BK501.out
   have hnb16 := NB503_502.out
   have hnc16 := NB502_503.out
   have hnb17 := NB503_504.out
   have hnc17 := NB504_503.out
   obtain ⟨hcz18_0, hcz18_1⟩ := cz2_ BK503.out
   obtain ⟨hfz18_0, hfz18_1⟩ := fz2_ BK503.out
   go_wp2_with (first | ((with_reducible refine gate_callee (f := 76) rfl ?_); refine goesL_ (some 20) rfl rfl Try.func76 (by kernel_rfl) rfl #[.agg #[.int .i64 a0_0, .int .i64 a0_1, .int .i64 a0_2], .agg #[.int .i64 a2_0, .int .i64 a2_1]] rfl (ml_) ?_; (with_reducible refine (impl_WalkerOk.calls a0_0 a0_1 a0_2 a2_0 a2_1 true _ A9.out).mono ?_); rintro e w19 ⟨rfl, hb⟩; refine ⟨_, rfl, ?_⟩; replace BK501 := Aside0.mk (bb_ BK501.out hb); replace BK502 := Aside0.mk (bb_ BK502.out hb); replace BK503 := Aside0.mk (bb_ BK503.out hb); replace BK504 := Aside0.mk (bb_ BK504.out hb); replace HB := Aside0.mk (below_step (hb4_ HB.out GE501.out GE502.out GE503.out GE504.out) hb); (try clear hb); (try clear hb2); (try clear hk); (try clear hi); obtain ⟨hcz20_0, hcz20_1, hcz20_2⟩ := cz3_ BK501.out; obtain ⟨hfz20_0, hfz20_1, hfz20_2⟩ := fz3_ BK501.out; have hnb21 := NB502_504.out; have hnc21 := NB504_502.out; have hcz22_0 : w19.cell? ⟨gb502, 0, none⟩ = some (.slice A1 l1.length c1) := (blk_cell BK502.out 0).trans rfl; have hfz22_0 := blk_frozen BK502.out 0) | (go_at_call 77; (with_reducible refine (impl_areMarks.calls a0_0 a0_1 a0_2 _ _ l1 t506 _ ?side1 ?side2 A11.out).mono ?_); (case side1 => repeat (first | exact (Kd.C_below HR1.out HB.out) | (with_reducible refine Kd.C_alloc ?_ _) | (with_reducible refine Kd.C_drewN ?_ _) | (with_reducible refine Kd.C_drew ?_))); (case side2 => exact HC1.out); rintro e w23 ⟨rfl, hb⟩; replace BK501 := Aside0.mk (bb_ BK501.out hb); replace BK502 := Aside0.mk (bb_ BK502.out hb); replace BK503 := Aside0.mk (bb_ BK503.out hb); replace BK504 := Aside0.mk (bb_ BK504.out hb); replace HB := Aside0.mk (below_step (hb4_ HB.out GE501.out GE502.out GE503.out GE504.out) hb); (try clear hb); (try clear hb2); (try clear hk); (try clear hi)))
   go_meet
   case rel => exact ⟨_, (!t506), (by first | rfl | (simp; done) | (simp [*]; done)), H', ⟨by first | omega | exact Nat.le_refl _⟩, ⟨bk_ BK501.out⟩, ⟨bk_ BK502.out⟩, ⟨bk_ BK503.out⟩, ⟨bk_ BK504.out⟩, ⟨hb4_ HB.out GE501.out GE502.out GE503.out GE504.out⟩⟩
  ·replace c10 := Bool.eq_false_iff.mpr c10
   subst c10
   have H1 : (impl_TremauxStep.j0 k true a0_0 a0_1 a0_2 l1 a2_0 a2_1) = some (r1, r2, r3) := by rw [if_neg (show ¬ (false = true) by decide)] at H; exact H
   clear H
   have H := H1
   clear H1
   have H' := Aside0.mk H
   clear H
   have hnb24 := NB501_502.out
   have hnc24 := NB502_501.out
   have hnb25 := NB501_503.out
   have hnc25 := NB503_501.out
   have hnb26 := NB501_504.out
   have hnc26 := NB504_501.out
   obtain ⟨hcz27_0, hcz27_1, hcz27_2⟩ := cz3_ BK501.out
   obtain ⟨hfz27_0, hfz27_1, hfz27_2⟩ := fz3_ BK501.out
   have hnb28 := NB503_502.out
   have hnc28 := NB502_503.out
   have hnb29 := NB503_504.out
   have hnc29 := NB504_503.out
   obtain ⟨hcz30_0, hcz30_1⟩ := cz2_ BK503.out
   obtain ⟨hfz30_0, hfz30_1⟩ := fz2_ BK503.out
   go_wp2_with (first | ((with_reducible refine gate_callee (f := 76) rfl ?_); refine goesL_ (some 20) rfl rfl Try.func76 (by kernel_rfl) rfl #[.agg #[.int .i64 a0_0, .int .i64 a0_1, .int .i64 a0_2], .agg #[.int .i64 a2_0, .int .i64 a2_1]] rfl (ml_) ?_; (with_reducible refine (impl_WalkerOk.calls a0_0 a0_1 a0_2 a2_0 a2_1 false _ A9.out).mono ?_); rintro e w31 ⟨rfl, hb⟩; refine ⟨_, rfl, ?_⟩; replace BK501 := Aside0.mk (bb_ BK501.out hb); replace BK502 := Aside0.mk (bb_ BK502.out hb); replace BK503 := Aside0.mk (bb_ BK503.out hb); replace BK504 := Aside0.mk (bb_ BK504.out hb); replace HB := Aside0.mk (below_step (hb4_ HB.out GE501.out GE502.out GE503.out GE504.out) hb); (try clear hb); (try clear hb2); (try clear hk); (try clear hi)))
   go_meet
   case rel => exact ⟨_, (true), (by first | rfl | (simp; done) | (simp [*]; done)), H', ⟨by first | omega | exact Nat.le_refl _⟩, ⟨bk_ BK501.out⟩, ⟨bk_ BK502.out⟩, ⟨bk_ BK503.out⟩, ⟨bk_ BK504.out⟩, ⟨hb4_ HB.out GE501.out GE502.out GE503.out GE504.out⟩⟩
 case rest =>
  clear HC4
  try clear c1
  try clear c2
  try clear p2
  try clear c4
  try clear c7
  try clear c10
  try clear c12
  try clear c13
  try clear c14
  try clear c16
  try clear c17
  try clear c21
  try clear c24
  try clear c25
  try clear c26
  try clear c28
  try clear c29
  try clear hcz15_0
  try clear hcz15_1
  try clear hcz15_2
  try clear hcz18_0
  try clear hcz18_1
  try clear hcz20_0
  try clear hcz20_1
  try clear hcz20_2
  try clear hcz22_0
  try clear hcz27_0
  try clear hcz27_1
  try clear hcz27_2
  try clear hcz30_0
  try clear hcz30_1
  try clear hfz15_0
  try clear hfz15_1
  try clear hfz15_2
  try clear hfz18_0
  try clear hfz18_1
  try clear hfz20_0
  try clear hfz20_1
  try clear hfz20_2
  try clear hfz22_0
  try clear hfz27_0
  try clear hfz27_1
  try clear hfz27_2
  try clear hfz30_0
  try clear hfz30_1
  obtain ⟨kq, x27_3, rfl, HA, HJ3, BK501, BK502, BK503, BK504, HB⟩ := hcut
  cases kq with
  | zero => exact absurd HA.out (by simp [impl_TremauxStep.j0])
  | succ kj3 =>
   have H := HA.out
   clear HA
   simp only [impl_TremauxStep.j0] at H
   by_cases c32 : x27_3 = true
   ·subst c32
    have H1 : (some (a2_0, a2_1, false)) = some (r1, r2, r3) := by rw [if_pos rfl] at H; exact H
    clear H
    have H := H1
    clear H1
    simp only [Option.some.injEq, Prod.mk.injEq] at H
    obtain ⟨rfl, rfl, rfl⟩ := H
    have hnb33 := NB503_501.out
    have hnc33 := NB501_503.out
    have hnb34 := NB503_502.out
    have hnc34 := NB502_503.out
    have hnb35 := NB503_504.out
    have hnc35 := NB504_503.out
    obtain ⟨hcz36_0, hcz36_1⟩ := cz2_ BK503.out
    obtain ⟨hfz36_0, hfz36_1⟩ := fz2_ BK503.out
    have hnb37 := NB504_501.out
    have hnc37 := NB501_504.out
    have hnb38 := NB504_502.out
    have hnc38 := NB502_504.out
    obtain ⟨hcz39_0, hcz39_1⟩ := cz2_ BK504.out
    obtain ⟨hfz39_0, hfz39_1⟩ := fz2_ BK504.out
    go_wp2
    refine bodyPost_ret (results_ct rfl _ _ gb504 60 #[.int .i64 a2_0, .int .i64 a2_1] (0, 0) _ rfl (by (with_reducible repeat (first | refine blk_drewN ?_ _ | refine blk_drew ?_ | refine blk_alloc ?_ _)); refine blk_put (cs := #[.int .i64 a2_0, .int .i64 0]) ?_ 1 _ rfl; (with_reducible repeat (first | refine blk_drewN ?_ _ | refine blk_drew ?_ | refine blk_alloc ?_ _)); refine blk_put (cs := #[.int .i64 0, .int .i64 0]) ?_ 0 _ rfl; (with_reducible repeat (first | refine blk_drewN ?_ _ | refine blk_drew ?_ | refine blk_alloc ?_ _)); exact BK504.out) Try.underlying60 rfl (by kernel_rfl)) rfl ?_
    exact ⟨by first | rfl | (simp [errW_none, errW_some] <;> rfl) | (simp [*, errW_none, errW_some] <;> rfl), hb4_ HB.out GE501.out GE502.out GE503.out GE504.out⟩
   ·replace c32 := Bool.eq_false_iff.mpr c32
    subst c32
    have H1 : (impl_TremauxStep.l0 kj3 (Int.tmod (wrap64 (a2_1 + 2)) 4) false 0 a0_0 a0_1 a0_2 l1 a2_0 a2_1) = some (r1, r2, r3) := by rw [if_neg (show ¬ (false = true) by decide)] at H; exact H
    clear H
    have H := H1
    clear H1
    have H' := Aside0.mk H
    clear H
    have hnb40 := NB503_501.out
    have hnc40 := NB501_503.out
    have hnb41 := NB503_502.out
    have hnc41 := NB502_503.out
    have hnb42 := NB503_504.out
    have hnc42 := NB504_503.out
    obtain ⟨hcz43_0, hcz43_1⟩ := cz2_ BK503.out
    obtain ⟨hfz43_0, hfz43_1⟩ := fz2_ BK503.out
    go_wp2
    go_loopg [10, 11] kj3 (fun kq v10 v11 w' => ∃ (x10_2 : Bool) (x11_2 : Int), v10 = .bool x10_2 ∧ v11 = .int .i64 x11_2 ∧ Aside0 (impl_TremauxStep.l0 kq (Int.tmod (wrap64 (a2_1 + 2)) 4) x10_2 x11_2 a0_0 a0_1 a0_2 l1 a2_0 a2_1 = some (r1, r2, r3)) ∧ Aside0 (kq ≤ kj3) ∧ Aside0 (w'.heap[gb501]? = some (.cells #[.int .i64 a0_0, .int .i64 a0_1, .int .i64 a0_2] 36 (0, 0))) ∧ Aside0 (w'.heap[gb502]? = some (.cells #[(.slice A1 l1.length c1)] 22 (0, 0))) ∧ Aside0 (w'.heap[gb503]? = some (.cells #[.int .i64 a2_0, .int .i64 a2_1] 60 (0, 0))) ∧ Aside0 (w'.heap[gb504]? = some (.cells #[.int .i64 0, .int .i64 0] 60 (0, 0))) ∧ Aside0 (Below w.heap.size w w'))
    case atStart => exact ⟨(false), (0), (by first | rfl | (simp; done) | (simp [*]; done)), (by first | rfl | (simp; done) | (simp [*]; done)), H', ⟨Nat.le_refl _⟩, ⟨bk_ BK501.out⟩, ⟨bk_ BK502.out⟩, ⟨bk_ BK503.out⟩, ⟨bk_ BK504.out⟩, ⟨hb4_ HB.out GE501.out GE502.out GE503.out GE504.out⟩⟩
    case round =>
     clear H'
     try clear c1
     try clear c2
     try clear p2
     try clear c3
     try clear c4
     try clear p6
     try clear c7
     try clear c10
     try clear c12
     try clear c13
     try clear c14
     try clear c16
     try clear c17
     try clear c21
     try clear c24
     try clear c25
     try clear c26
     try clear c28
     try clear c29
     try clear c32
     try clear c33
     try clear c34
     try clear c35
     try clear c37
     try clear c38
     try clear c40
     try clear c41
     try clear c42
     try clear hcz15_0
     try clear hcz15_1
     try clear hcz15_2
     try clear hcz18_0
     try clear hcz18_1
     try clear hcz20_0
     try clear hcz20_1
     try clear hcz20_2
     try clear hcz22_0
     try clear hcz27_0
     try clear hcz27_1
     try clear hcz27_2
     try clear hcz30_0
     try clear hcz30_1
     try clear hcz36_0
     try clear hcz36_1
     try clear hcz39_0
     try clear hcz39_1
     try clear hcz43_0
     try clear hcz43_1
     try clear hfz15_0
     try clear hfz15_1
     try clear hfz15_2
     try clear hfz18_0
     try clear hfz18_1
     try clear hfz20_0
     try clear hfz20_1
     try clear hfz20_2
     try clear hfz22_0
     try clear hfz27_0
     try clear hfz27_1
     try clear hfz27_2
     try clear hfz30_0
     try clear hfz30_1
     try clear hfz36_0
     try clear hfz36_1
     try clear hfz39_0
     try clear hfz39_1
     try clear hfz43_0
     try clear hfz43_1
     try clear p2
     obtain ⟨x10_2, x11_2, rfl, rfl, HA, HK2, BK501, BK502, BK503, BK504, HB⟩ := hrel
     cases gk with
     | zero => exact absurd HA.out (by simp [impl_TremauxStep.l0])
     | succ k2 =>
      have H := HA.out
      clear HA
      simp only [impl_TremauxStep.l0] at H
      by_cases c44 : x11_2 ≤ 3
      ·rw [if_pos c44] at H
       have c44b0 : decide (x11_2 ≤ 3) = true := decide_eq_true c44
       clear c44
       by_cases c45 : x10_2 = true
       ·subst c45
        have H1 : (impl_TremauxStep.l0 k2 (Int.tmod (wrap64 (a2_1 + 2)) 4) true (wrap64 (x11_2 + 1)) a0_0 a0_1 a0_2 l1 a2_0 a2_1) = some (r1, r2, r3) := by rw [if_pos rfl] at H; exact H
        clear H
        have H := H1
        clear H1
        have H' := Aside0.mk H
        clear H
        go_wp2
        go_roundg k2
        case measure => have := HJ3.out; have := HK2.out; omega
        case rel => exact ⟨(true), (wrap64 (x11_2 + 1)), (by first | rfl | (simp; done) | (simp [*]; done)), (by first | rfl | (simp; done) | (simp [*]; done)), H', ⟨by have := HJ3.out; have := HK2.out; omega⟩, ⟨bk_ BK501.out⟩, ⟨bk_ BK502.out⟩, ⟨bk_ BK503.out⟩, ⟨bk_ BK504.out⟩, ⟨hb4_ HB.out GE501.out GE502.out GE503.out GE504.out⟩⟩
       ·replace c45 := Bool.eq_false_iff.mpr c45
        subst c45
        have H1 : (if x11_2 = (Int.tmod (wrap64 (a2_1 + 2)) 4) then (impl_TremauxStep.l0 k2 (Int.tmod (wrap64 (a2_1 + 2)) 4) false (wrap64 (x11_2 + 1)) a0_0 a0_1 a0_2 l1 a2_0 a2_1) else ((impl_TremauxStep_1.f k2 x11_2 a0_0 a0_1 a0_2 a2_0 a2_1 l1).bind fun t507 => (impl_TremauxStep.l0 k2 (Int.tmod (wrap64 (a2_1 + 2)) 4) (decide (t507 > 0)) (wrap64 (x11_2 + 1)) a0_0 a0_1 a0_2 l1 a2_0 a2_1))) = some (r1, r2, r3) := by rw [if_neg (show ¬ (false = true) by decide)] at H; exact H
        clear H
        have H := H1
        clear H1
        by_cases c46 : x11_2 = (Int.tmod (wrap64 (a2_1 + 2)) 4)
        ·rw [if_pos c46] at H
         have c46b0 : (x11_2 == (Int.tmod (wrap64 (a2_1 + 2)) 4)) = true := beq_iff_eq.mpr c46
         have c46b1 : (x11_2 != (Int.tmod (wrap64 (a2_1 + 2)) 4)) = false := bne_eq_false_iff_eq.mpr c46
         clear c46
         have H' := Aside0.mk H
         clear H
         go_wp2
         go_roundg k2
         case measure => have := HJ3.out; have := HK2.out; omega
         case rel => exact ⟨(false), (wrap64 (x11_2 + 1)), (by first | rfl | (simp; done) | (simp [*]; done)), (by first | rfl | (simp; done) | (simp [*]; done)), H', ⟨by have := HJ3.out; have := HK2.out; omega⟩, ⟨bk_ BK501.out⟩, ⟨bk_ BK502.out⟩, ⟨bk_ BK503.out⟩, ⟨bk_ BK504.out⟩, ⟨hb4_ HB.out GE501.out GE502.out GE503.out GE504.out⟩⟩
        ·rw [if_neg c46] at H
         have c46b0 : (x11_2 == (Int.tmod (wrap64 (a2_1 + 2)) 4)) = false := beq_eq_false_iff_ne.mpr c46
         have c46b1 : (x11_2 != (Int.tmod (wrap64 (a2_1 + 2)) 4)) = true := bne_iff_ne.mpr c46
         replace H := Option.bind_eq_some_iff.mp H
         obtain ⟨t507, A470, H⟩ := H
         replace H : (impl_TremauxStep.l0 k2 (Int.tmod (wrap64 (a2_1 + 2)) 4) (decide (t507 > 0)) (wrap64 (x11_2 + 1)) a0_0 a0_1 a0_2 l1 a2_0 a2_1) = some (r1, r2, r3) := H
         have A47 := Aside0.mk A470
         clear A470
         have H' := Aside0.mk H
         clear H
         go_wp2_with (first | (go_at_call 78; (with_reducible refine (impl_TremauxStep_1.calls (A1 := A1) (c1 := c1) k2 x11_2 t507 _ A47.out ?hm_ ?hw_ ?hk_ ?hr_).mono ?_); (case hm_ => exact bk_ BK501.out); (case hw_ => exact bk_ BK503.out); (case hk_ => exact bk_ BK502.out); (case hr_ => repeat (first | exact (Kd.C_below HR1.out HB.out) | (with_reducible refine Kd.C_alloc ?_ _) | (with_reducible refine Kd.C_drewN ?_ _) | (with_reducible refine Kd.C_drew ?_))); rintro e w48 ⟨rfl, hb⟩; replace BK501 := Aside0.mk (bb_ BK501.out hb); replace BK502 := Aside0.mk (bb_ BK502.out hb); replace BK503 := Aside0.mk (bb_ BK503.out hb); replace BK504 := Aside0.mk (bb_ BK504.out hb); replace HB := Aside0.mk (below_step (hb4_ HB.out GE501.out GE502.out GE503.out GE504.out) hb); (try clear hb); (try clear hb2); (try clear hk); (try clear hi)))
         go_roundg k2
         case measure => have := HJ3.out; have := HK2.out; omega
         case rel => exact ⟨(decide (t507 > 0)), (wrap64 (x11_2 + 1)), (by first | rfl | (simp; done) | (simp [*]; done)), (by first | rfl | (simp; done) | (simp [*]; done)), H', ⟨by have := HJ3.out; have := HK2.out; omega⟩, ⟨bk_ BK501.out⟩, ⟨bk_ BK502.out⟩, ⟨bk_ BK503.out⟩, ⟨bk_ BK504.out⟩, ⟨hb4_ HB.out GE501.out GE502.out GE503.out GE504.out⟩⟩
      ·rw [if_neg c44] at H
       have c44b0 : decide (x11_2 ≤ 3) = false := decide_eq_false c44
       clear c44
       have HC49 := Aside0.mk H
       clear H
       go_upto_region 9 with (fail)
       go_cut [56] (fun v56 wc => ∃ (kq : Nat) (x56_48 : Bool), v56 = .bool x56_48 ∧ Aside0 (impl_TremauxStep.j2 kq (Int.tmod (wrap64 (a2_1 + 2)) 4) x56_48 a0_0 a0_1 a0_2 l1 a2_0 a2_1 = some (r1, r2, r3)) ∧ Aside0 (kq ≤ k2) ∧ Aside0 (wc.heap[gb501]? = some (.cells #[.int .i64 a0_0, .int .i64 a0_1, .int .i64 a0_2] 36 (0, 0))) ∧ Aside0 (wc.heap[gb502]? = some (.cells #[(.slice A1 l1.length c1)] 22 (0, 0))) ∧ Aside0 (wc.heap[gb503]? = some (.cells #[.int .i64 a2_0, .int .i64 a2_1] 60 (0, 0))) ∧ Aside0 (wc.heap[gb504]? = some (.cells #[.int .i64 0, .int .i64 0] 60 (0, 0))) ∧ Aside0 (Below w.heap.size w wc))
       case first =>
        have H := HC49.out
        clear HC49
        replace H := Option.bind_eq_some_iff.mp H
        obtain ⟨t508, A500, H⟩ := H
        replace H : (if t508 = 1 then (impl_TremauxStep.j2 k2 (Int.tmod (wrap64 (a2_1 + 2)) 4) x10_2 a0_0 a0_1 a0_2 l1 a2_0 a2_1) else (impl_TremauxStep.j2 k2 (Int.tmod (wrap64 (a2_1 + 2)) 4) false a0_0 a0_1 a0_2 l1 a2_0 a2_1)) = some (r1, r2, r3) := H
        have A50 := Aside0.mk A500
        clear A500
        by_cases c51 : t508 = 1
        ·rw [if_pos c51] at H
         have c51b0 : (t508 == 1) = true := beq_iff_eq.mpr c51
         have c51b1 : (t508 != 1) = false := bne_eq_false_iff_eq.mpr c51
         clear c51
         (first | rw [c51b0] | (simp only [i64_w, i32_w]; rw [c51b0]) | skip)
         have H' := Aside0.mk H
         clear H
         go_wp2_with (first | (go_at_call 78; (with_reducible refine (impl_TremauxStep_1.calls (A1 := A1) (c1 := c1) k2 (Int.tmod (wrap64 (a2_1 + 2)) 4) t508 _ A50.out ?hm_ ?hw_ ?hk_ ?hr_).mono ?_); (case hm_ => exact bk_ BK501.out); (case hw_ => exact bk_ BK503.out); (case hk_ => exact bk_ BK502.out); (case hr_ => repeat (first | exact (Kd.C_below HR1.out HB.out) | (with_reducible refine Kd.C_alloc ?_ _) | (with_reducible refine Kd.C_drewN ?_ _) | (with_reducible refine Kd.C_drew ?_))); rintro e w52 ⟨rfl, hb⟩; replace BK501 := Aside0.mk (bb_ BK501.out hb); replace BK502 := Aside0.mk (bb_ BK502.out hb); replace BK503 := Aside0.mk (bb_ BK503.out hb); replace BK504 := Aside0.mk (bb_ BK504.out hb); replace HB := Aside0.mk (below_step (hb4_ HB.out GE501.out GE502.out GE503.out GE504.out) hb); (try clear hb); (try clear hb2); (try clear hk); (try clear hi)))
         go_meet
         case rel => exact ⟨_, (x10_2), (by first | rfl | (simp; done) | (simp [*]; done)), H', ⟨by have := HJ3.out; have := HK2.out; first | omega | exact Nat.le_refl _⟩, ⟨bk_ BK501.out⟩, ⟨bk_ BK502.out⟩, ⟨bk_ BK503.out⟩, ⟨bk_ BK504.out⟩, ⟨hb4_ HB.out GE501.out GE502.out GE503.out GE504.out⟩⟩
        ·rw [if_neg c51] at H
         have c51b0 : (t508 == 1) = false := beq_eq_false_iff_ne.mpr c51
         have c51b1 : (t508 != 1) = true := bne_iff_ne.mpr c51
         (first | rw [c51b0] | (simp only [i64_w, i32_w]; rw [c51b0]) | skip)
         have H' := Aside0.mk H
         clear H
         go_wp2_with (first | (go_at_call 78; (with_reducible refine (impl_TremauxStep_1.calls (A1 := A1) (c1 := c1) k2 (Int.tmod (wrap64 (a2_1 + 2)) 4) t508 _ A50.out ?hm_ ?hw_ ?hk_ ?hr_).mono ?_); (case hm_ => exact bk_ BK501.out); (case hw_ => exact bk_ BK503.out); (case hk_ => exact bk_ BK502.out); (case hr_ => repeat (first | exact (Kd.C_below HR1.out HB.out) | (with_reducible refine Kd.C_alloc ?_ _) | (with_reducible refine Kd.C_drewN ?_ _) | (with_reducible refine Kd.C_drew ?_))); rintro e w53 ⟨rfl, hb⟩; replace BK501 := Aside0.mk (bb_ BK501.out hb); replace BK502 := Aside0.mk (bb_ BK502.out hb); replace BK503 := Aside0.mk (bb_ BK503.out hb); replace BK504 := Aside0.mk (bb_ BK504.out hb); replace HB := Aside0.mk (below_step (hb4_ HB.out GE501.out GE502.out GE503.out GE504.out) hb); (try clear hb); (try clear hb2); (try clear hk); (try clear hi)))
         go_meet
         case rel => exact ⟨_, (false), (by first | rfl | (simp; done) | (simp [*]; done)), H', ⟨by have := HJ3.out; have := HK2.out; first | omega | exact Nat.le_refl _⟩, ⟨bk_ BK501.out⟩, ⟨bk_ BK502.out⟩, ⟨bk_ BK503.out⟩, ⟨bk_ BK504.out⟩, ⟨hb4_ HB.out GE501.out GE502.out GE503.out GE504.out⟩⟩
       case rest =>
        clear HC49
        try clear c1
        try clear c2
        try clear p2
        try clear c3
        try clear c4
        try clear c5
        try clear p6
        try clear c7
        try clear c10
        try clear c12
        try clear c13
        try clear c14
        try clear c16
        try clear c17
        try clear c21
        try clear c24
        try clear c25
        try clear c26
        try clear c28
        try clear c29
        try clear c32
        try clear c33
        try clear c34
        try clear c35
        try clear c37
        try clear c38
        try clear c40
        try clear c41
        try clear c42
        try clear c44
        try clear c44b0
        try clear c45
        try clear c46
        try clear c46b0
        try clear c46b1
        try clear c49
        try clear c51
        try clear c51b0
        try clear c51b1
        try clear hcz15_0
        try clear hcz15_1
        try clear hcz15_2
        try clear hcz18_0
        try clear hcz18_1
        try clear hcz20_0
        try clear hcz20_1
        try clear hcz20_2
        try clear hcz22_0
        try clear hcz27_0
        try clear hcz27_1
        try clear hcz27_2
        try clear hcz30_0
        try clear hcz30_1
        try clear hcz36_0
        try clear hcz36_1
        try clear hcz39_0
        try clear hcz39_1
        try clear hcz43_0
        try clear hcz43_1
        try clear hfz15_0
        try clear hfz15_1
        try clear hfz15_2
        try clear hfz18_0
        try clear hfz18_1
        try clear hfz20_0
        try clear hfz20_1
        try clear hfz20_2
        try clear hfz22_0
        try clear hfz27_0
        try clear hfz27_1
        try clear hfz27_2
        try clear hfz30_0
        try clear hfz30_1
        try clear hfz36_0
        try clear hfz36_1
        try clear hfz39_0
        try clear hfz39_1
        try clear hfz43_0
        try clear hfz43_1
        try clear p2
        try clear p6
        obtain ⟨kq, x56_48, rfl, HA, HJ48, BK501, BK502, BK503, BK504, HB⟩ := hcut
        cases kq with
        | zero => exact absurd HA.out (by simp [impl_TremauxStep.j2])
        | succ kj48 =>
         have H := HA.out
         clear HA
         simp only [impl_TremauxStep.j2] at H
         by_cases c54 : x56_48 = true
         ·subst c54
          have H1 : ((impl_marked.f kj48 a0_0 a0_1 a0_2 a2_0 a2_1 (Int.tmod (wrap64 (a2_1 + 2)) 4)).bind fun bt509 => (some (bt509.1, bt509.2, true))) = some (r1, r2, r3) := by rw [if_pos rfl] at H; exact H
          clear H
          have H := H1
          clear H1
          replace H := Option.bind_eq_some_iff.mp H
          obtain ⟨⟨t509, t510⟩, A550, H⟩ := H
          replace H : (some (t509, t510, true)) = some (r1, r2, r3) := H
          have A55 := Aside0.mk A550
          clear A550
          simp only [Option.some.injEq, Prod.mk.injEq] at H
          obtain ⟨rfl, rfl, rfl⟩ := H
          have hnb56 := NB501_502.out
          have hnc56 := NB502_501.out
          have hnb57 := NB501_503.out
          have hnc57 := NB503_501.out
          have hnb58 := NB501_504.out
          have hnc58 := NB504_501.out
          obtain ⟨hcz59_0, hcz59_1, hcz59_2⟩ := cz3_ BK501.out
          obtain ⟨hfz59_0, hfz59_1, hfz59_2⟩ := fz3_ BK501.out
          have hnb60 := NB503_502.out
          have hnc60 := NB502_503.out
          have hnb61 := NB503_504.out
          have hnc61 := NB504_503.out
          obtain ⟨hcz62_0, hcz62_1⟩ := cz2_ BK503.out
          obtain ⟨hfz62_0, hfz62_1⟩ := fz2_ BK503.out
          go_wp2_with (first | ((with_reducible refine gate_callee (f := 47) rfl ?_); refine goesL_ (some 60) rfl rfl Try.func47 (by kernel_rfl) rfl #[.agg #[.int .i64 a0_0, .int .i64 a0_1, .int .i64 a0_2], .agg #[.int .i64 a2_0, .int .i64 a2_1], .int .i64 (Int.tmod (wrap64 (a2_1 + 2)) 4)] rfl (ml_) ?_; (with_reducible refine (impl_marked.calls kj48 a0_0 a0_1 a0_2 a2_0 a2_1 (Int.tmod (wrap64 (a2_1 + 2)) 4) t509 t510 _ A55.out).mono ?_); rintro e w63 ⟨rfl, hb⟩; refine ⟨_, rfl, ?_⟩; replace BK501 := Aside0.mk (bb_ BK501.out hb); replace BK502 := Aside0.mk (bb_ BK502.out hb); replace BK503 := Aside0.mk (bb_ BK503.out hb); replace BK504 := Aside0.mk (bb_ BK504.out hb); replace HB := Aside0.mk (below_step (hb4_ HB.out GE501.out GE502.out GE503.out GE504.out) hb); (try clear hb); (try clear hb2); (try clear hk); (try clear hi); have hnb64 := NB504_502.out; have hnc64 := NB502_504.out; obtain ⟨hcz65_0, hcz65_1⟩ := cz2_ BK504.out; obtain ⟨hfz65_0, hfz65_1⟩ := fz2_ BK504.out))
          refine bodyPost_ret (results_ct rfl _ _ gb504 60 #[.int .i64 t509, .int .i64 t510] (0, 0) _ rfl (by (with_reducible repeat (first | refine blk_drewN ?_ _ | refine blk_drew ?_ | refine blk_alloc ?_ _)); refine blk_put (cs := #[.int .i64 t509, .int .i64 0]) ?_ 1 _ rfl; (with_reducible repeat (first | refine blk_drewN ?_ _ | refine blk_drew ?_ | refine blk_alloc ?_ _)); refine blk_put (cs := #[.int .i64 0, .int .i64 0]) ?_ 0 _ rfl; (with_reducible repeat (first | refine blk_drewN ?_ _ | refine blk_drew ?_ | refine blk_alloc ?_ _)); exact BK504.out) Try.underlying60 rfl (by kernel_rfl)) rfl ?_
          exact ⟨by first | rfl | (simp [errW_none, errW_some] <;> rfl) | (simp [*, errW_none, errW_some] <;> rfl), hb4_ HB.out GE501.out GE502.out GE503.out GE504.out⟩
         ·replace c54 := Bool.eq_false_iff.mpr c54
          subst c54
          have H1 : ((some (([1, 0, 3] : List Int) : List Int)).bind fun y511 => (impl_TremauxStep.l1 kj48 y511 (y511.length : Int) 0 a0_0 a0_1 a0_2 l1 a2_0 a2_1)) = some (r1, r2, r3) := by rw [if_neg (show ¬ (false = true) by decide)] at H; exact H
          clear H
          have H := H1
          clear H1
          obtain ⟨y511, hy511⟩ : ∃ y_ : List Int, y_ = (([1, 0, 3] : List Int)) := ⟨_, rfl⟩
          replace H : (impl_TremauxStep.l1 kj48 y511 (y511.length : Int) 0 a0_0 a0_1 a0_2 l1 a2_0 a2_1) = some (r1, r2, r3) := by first | (rw [hy511]; with_reducible exact H) | (have H2_ := (Option.bind_some _ _).symm.trans H; rw [hy511]; with_reducible exact H2_) | (have H2_ := (Option.bind_some _ _).symm.trans H; with_reducible exact H2_) | with_reducible exact H | (rw [hy511]; exact H) | exact H
          have Ny511 := Aside0.mk hy511
          clear hy511
          have H' := Aside0.mk H
          clear H
          go_wp2_with (first | ((with_reducible refine gate_dst (N := 61) rfl ?_); refine Kd.R_lit (Kd.int .i64) _ 3 ?hg (N := 61) ?hd (xs := ([1, 0, 3] : List Int)) (inner := [.int .i64 1, .int .i64 0, .int .i64 3]) (ok := fun _ => True) (okp := fun _ => True) ?hr ?hp (fun _ hk => hk) trivial (Below.refl _ _) (Nat.le_refl _) (by simp) ?_; (case hd => rfl); (case hg => rfl); (case hr => first | (go_simp; done) | (go_simp; rfl)); (case hp => exact (Reps.one (show Kd.M (Kd.int .i64) _ _ _ 1 [.int .i64 1] from rfl) (Reps.one (show Kd.M (Kd.int .i64) _ _ _ 0 [.int .i64 0] from rfl) (Reps.one (show Kd.M (Kd.int .i64) _ _ _ 3 [.int .i64 3] from rfl) (Reps.none _ _))))); intro v512 w66 ho67 hb hg_ hnew_; clear hg_ hnew_; (first | rw [← Ny511.out] at ho67 | (simp only [Int.reduceToNat] at ho67; rw [← Ny511.out] at ho67)); have HO513 := Aside0.mk (Kd.R_lower ho67 (below_size (hb4_ HB.out GE501.out GE502.out GE503.out GE504.out))); replace BK501 := Aside0.mk (bb_ BK501.out hb); replace BK502 := Aside0.mk (bb_ BK502.out hb); replace BK503 := Aside0.mk (bb_ BK503.out hb); replace BK504 := Aside0.mk (bb_ BK504.out hb); replace HB := Aside0.mk (below_step (hb4_ HB.out GE501.out GE502.out GE503.out GE504.out) hb); clear hb ho67; obtain ⟨Ao68, co68, eo68⟩ := Kd.R_slice HO513.out; subst eo68))
          go_loopg [63] kj48 (fun kq v63 w' => ∃ (x63_4 : Int) (x505000_4 : Int) (x505001_4 : Int), v63 = .int .i64 x63_4 ∧ Aside0 (impl_TremauxStep.l1 kq y511 (y511.length : Int) x63_4 a0_0 a0_1 a0_2 l1 a2_0 a2_1 = some (r1, r2, r3)) ∧ Aside0 (kq ≤ kj48) ∧ Aside0 (Kd.R (Kd.int .i64) 3 w' w.heap.size (fun _ => True) (.slice Ao68 y511.length co68) y511) ∧ Aside0 (w'.heap[gb501]? = some (.cells #[.int .i64 a0_0, .int .i64 a0_1, .int .i64 a0_2] 36 (0, 0))) ∧ Aside0 (w'.heap[gb502]? = some (.cells #[(.slice A1 l1.length c1)] 22 (0, 0))) ∧ Aside0 (w'.heap[gb503]? = some (.cells #[.int .i64 a2_0, .int .i64 a2_1] 60 (0, 0))) ∧ Aside0 (w'.heap[gb504]? = some (.cells #[.int .i64 x505000_4, .int .i64 x505001_4] 60 (0, 0))) ∧ Aside0 (Below w.heap.size w w'))
          case atStart => exact ⟨(0), (0), (0), (by first | rfl | (simp; done) | (simp [*]; done)), H', ⟨Nat.le_refl _⟩, ⟨kr_ HO513.out⟩, ⟨bk_ BK501.out⟩, ⟨bk_ BK502.out⟩, ⟨bk_ BK503.out⟩, ⟨bk_ BK504.out⟩, ⟨hb4_ HB.out GE501.out GE502.out GE503.out GE504.out⟩⟩
          case round =>
           clear H'
           try clear c1
           try clear c2
           try clear p2
           try clear c3
           try clear c4
           try clear c5
           try clear c6
           try clear p6
           try clear c7
           try clear c10
           try clear c12
           try clear c13
           try clear c14
           try clear c16
           try clear c17
           try clear c21
           try clear c24
           try clear c25
           try clear c26
           try clear c28
           try clear c29
           try clear c32
           try clear c33
           try clear c34
           try clear c35
           try clear c37
           try clear c38
           try clear c40
           try clear c41
           try clear c42
           try clear c44
           try clear c44b0
           try clear c45
           try clear c46
           try clear c46b0
           try clear c46b1
           try clear c47
           try clear c49
           try clear c51
           try clear c51b0
           try clear c51b1
           try clear c54
           try clear c56
           try clear c57
           try clear c58
           try clear c60
           try clear c61
           try clear c64
           try clear p64
           try clear hcz15_0
           try clear hcz15_1
           try clear hcz15_2
           try clear hcz18_0
           try clear hcz18_1
           try clear hcz20_0
           try clear hcz20_1
           try clear hcz20_2
           try clear hcz22_0
           try clear hcz27_0
           try clear hcz27_1
           try clear hcz27_2
           try clear hcz30_0
           try clear hcz30_1
           try clear hcz36_0
           try clear hcz36_1
           try clear hcz39_0
           try clear hcz39_1
           try clear hcz43_0
           try clear hcz43_1
           try clear hcz59_0
           try clear hcz59_1
           try clear hcz59_2
           try clear hcz62_0
           try clear hcz62_1
           try clear hcz65_0
           try clear hcz65_1
           try clear hfz15_0
           try clear hfz15_1
           try clear hfz15_2
           try clear hfz18_0
           try clear hfz18_1
           try clear hfz20_0
           try clear hfz20_1
           try clear hfz20_2
           try clear hfz22_0
           try clear hfz27_0
           try clear hfz27_1
           try clear hfz27_2
           try clear hfz30_0
           try clear hfz30_1
           try clear hfz36_0
           try clear hfz36_1
           try clear hfz39_0
           try clear hfz39_1
           try clear hfz43_0
           try clear hfz43_1
           try clear hfz59_0
           try clear hfz59_1
           try clear hfz59_2
           try clear hfz62_0
           try clear hfz62_1
           try clear hfz65_0
           try clear hfz65_1
           try clear p2
           try clear p6
           obtain ⟨x63_4, x505000_4, x505001_4, rfl, HA, HK4, HO_61, BK501, BK502, BK503, BK504, HB⟩ := hrel
           cases gk with
           | zero => exact absurd HA.out (by simp [impl_TremauxStep.l1])
           | succ k4 =>
            have H := HA.out
            clear HA
            simp only [impl_TremauxStep.l1] at H
            by_cases c69 : x63_4 < (y511.length : Int)
            ·rw [if_pos c69] at H
             have c69b0 : decide (x63_4 < (y511.length : Int)) = true := decide_eq_true c69
             clear c69
             by_cases c70 : 0 ≤ x63_4
             ·rw [if_pos c70] at H
              have c70b0 : decide (0 ≤ x63_4) = true := decide_eq_true c70
              clear c70
              by_cases c71 : x63_4 < (y511.length : Int)
              ·rw [if_pos c71] at H
               have c71b0 : decide (x63_4 < (y511.length : Int)) = true := decide_eq_true c71
               clear c71
               replace H := Option.bind_eq_some_iff.mp H
               obtain ⟨t515, A720, H⟩ := H
               replace H : (if t515 = 0 then ((impl_marked.f k4 a0_0 a0_1 a0_2 a2_0 a2_1 (Int.tmod (wrap64 (a2_1 + (rd y511 x63_4))) 4)).bind fun bt516 => (some (bt516.1, bt516.2, true))) else (impl_TremauxStep.l1 k4 y511 (y511.length : Int) (wrap64 (x63_4 + 1)) a0_0 a0_1 a0_2 l1 a2_0 a2_1)) = some (r1, r2, r3) := H
               have A72 := Aside0.mk A720
               clear A720
               by_cases c73 : t515 = 0
               ·rw [if_pos c73] at H
                have c73b0 : (t515 == 0) = true := beq_iff_eq.mpr c73
                have c73b1 : (t515 != 0) = false := bne_eq_false_iff_eq.mpr c73
                clear c73
                replace H := Option.bind_eq_some_iff.mp H
                obtain ⟨⟨t516, t517⟩, A740, H⟩ := H
                replace H : (some (t516, t517, true)) = some (r1, r2, r3) := H
                have A74 := Aside0.mk A740
                clear A740
                simp only [Option.some.injEq, Prod.mk.injEq] at H
                obtain ⟨rfl, rfl, rfl⟩ := H
                have p514 : 0 ≤ (x63_4 : Int) := of_decide_eq_true (as_)
                have q514 : x63_4 < (y511.length : Int) := of_decide_eq_true (as_)
                obtain ⟨ad514, e514, hx514_0⟩ := Kd.at_int (Kd.R_reads' HO_61.out).2.2 x63_4 p514 q514
                cases e514
                replace p514 := eq_true p514
                replace q514 := eq_true q514
                have hnb75 := NB503_501.out
                have hnc75 := NB501_503.out
                have hnb76 := NB503_502.out
                have hnc76 := NB502_503.out
                have hnb77 := NB503_504.out
                have hnc77 := NB504_503.out
                obtain ⟨hcz78_0, hcz78_1⟩ := cz2_ BK503.out
                obtain ⟨hfz78_0, hfz78_1⟩ := fz2_ BK503.out
                go_wp2_with (first | (go_at_call 78; (with_reducible refine (impl_TremauxStep_1.calls (A1 := A1) (c1 := c1) k4 (Int.tmod (wrap64 (a2_1 + (rd y511 x63_4))) 4) t515 _ A72.out ?hm_ ?hw_ ?hk_ ?hr_).mono ?_); (case hm_ => exact bk_ BK501.out); (case hw_ => exact bk_ BK503.out); (case hk_ => exact bk_ BK502.out); (case hr_ => repeat (first | exact (Kd.C_below HR1.out HB.out) | (with_reducible refine Kd.C_alloc ?_ _) | (with_reducible refine Kd.C_drewN ?_ _) | (with_reducible refine Kd.C_drew ?_))); rintro e w79 ⟨rfl, hb⟩; replace HO_61 := Aside0.mk (Kd.R_below (kr_ HO_61.out) hb); replace BK501 := Aside0.mk (bb_ BK501.out hb); replace BK502 := Aside0.mk (bb_ BK502.out hb); replace BK503 := Aside0.mk (bb_ BK503.out hb); replace BK504 := Aside0.mk (bb_ BK504.out hb); replace HB := Aside0.mk (below_step (hb4_ HB.out GE501.out GE502.out GE503.out GE504.out) hb); (try clear hb); (try clear hb2); (try clear hk); (try clear hi); have hnb80 := NB501_502.out; have hnc80 := NB502_501.out; have hnb81 := NB501_504.out; have hnc81 := NB504_501.out; obtain ⟨hcz82_0, hcz82_1, hcz82_2⟩ := cz3_ BK501.out; obtain ⟨hfz82_0, hfz82_1, hfz82_2⟩ := fz3_ BK501.out; obtain ⟨hcz83_0, hcz83_1⟩ := cz2_ BK503.out; obtain ⟨hfz83_0, hfz83_1⟩ := fz2_ BK503.out) | ((with_reducible refine gate_callee (f := 47) rfl ?_); refine goesL_ (some 79) rfl rfl Try.func47 (by kernel_rfl) rfl #[.agg #[.int .i64 a0_0, .int .i64 a0_1, .int .i64 a0_2], .agg #[.int .i64 a2_0, .int .i64 a2_1], .int .i64 (Int.tmod (wrap64 (a2_1 + (rd y511 x63_4))) 4)] rfl (ml_) ?_; (with_reducible refine (impl_marked.calls k4 a0_0 a0_1 a0_2 a2_0 a2_1 (Int.tmod (wrap64 (a2_1 + (rd y511 x63_4))) 4) t516 t517 _ A74.out).mono ?_); rintro e w84 ⟨rfl, hb⟩; refine ⟨_, rfl, ?_⟩; replace HO_61 := Aside0.mk (Kd.R_below (kr_ HO_61.out) hb); replace BK501 := Aside0.mk (bb_ BK501.out hb); replace BK502 := Aside0.mk (bb_ BK502.out hb); replace BK503 := Aside0.mk (bb_ BK503.out hb); replace BK504 := Aside0.mk (bb_ BK504.out hb); replace HB := Aside0.mk (below_step (hb4_ HB.out GE501.out GE502.out GE503.out GE504.out) hb); (try clear hb); (try clear hb2); (try clear hk); (try clear hi); have hnb85 := NB504_502.out; have hnc85 := NB502_504.out; obtain ⟨hcz86_0, hcz86_1⟩ := cz2_ BK504.out; obtain ⟨hfz86_0, hfz86_1⟩ := fz2_ BK504.out))
                refine bodyPost_ret (results_ct rfl _ _ gb504 60 #[.int .i64 t516, .int .i64 t517] (0, 0) _ rfl (by (with_reducible repeat (first | refine blk_drewN ?_ _ | refine blk_drew ?_ | refine blk_alloc ?_ _)); refine blk_put (cs := #[.int .i64 t516, .int .i64 x505001_4]) ?_ 1 _ rfl; (with_reducible repeat (first | refine blk_drewN ?_ _ | refine blk_drew ?_ | refine blk_alloc ?_ _)); refine blk_put (cs := #[.int .i64 x505000_4, .int .i64 x505001_4]) ?_ 0 _ rfl; (with_reducible repeat (first | refine blk_drewN ?_ _ | refine blk_drew ?_ | refine blk_alloc ?_ _)); exact BK504.out) Try.underlying60 rfl (by kernel_rfl)) rfl ?_
                exact ⟨by first | rfl | (simp [errW_none, errW_some] <;> rfl) | (simp [*, errW_none, errW_some] <;> rfl), hb4_ HB.out GE501.out GE502.out GE503.out GE504.out⟩
               ·rw [if_neg c73] at H
                have c73b0 : (t515 == 0) = false := beq_eq_false_iff_ne.mpr c73
                have c73b1 : (t515 != 0) = true := bne_iff_ne.mpr c73
                have H' := Aside0.mk H
                clear H
                have p514 : 0 ≤ (x63_4 : Int) := of_decide_eq_true (as_)
                have q514 : x63_4 < (y511.length : Int) := of_decide_eq_true (as_)
                obtain ⟨ad514, e514, hx514_0⟩ := Kd.at_int (Kd.R_reads' HO_61.out).2.2 x63_4 p514 q514
                cases e514
                replace p514 := eq_true p514
                replace q514 := eq_true q514
                have hnb87 := NB503_501.out
                have hnc87 := NB501_503.out
                have hnb88 := NB503_502.out
                have hnc88 := NB502_503.out
                have hnb89 := NB503_504.out
                have hnc89 := NB504_503.out
                obtain ⟨hcz90_0, hcz90_1⟩ := cz2_ BK503.out
                obtain ⟨hfz90_0, hfz90_1⟩ := fz2_ BK503.out
                go_wp2_with (first | (go_at_call 78; (with_reducible refine (impl_TremauxStep_1.calls (A1 := A1) (c1 := c1) k4 (Int.tmod (wrap64 (a2_1 + (rd y511 x63_4))) 4) t515 _ A72.out ?hm_ ?hw_ ?hk_ ?hr_).mono ?_); (case hm_ => exact bk_ BK501.out); (case hw_ => exact bk_ BK503.out); (case hk_ => exact bk_ BK502.out); (case hr_ => repeat (first | exact (Kd.C_below HR1.out HB.out) | (with_reducible refine Kd.C_alloc ?_ _) | (with_reducible refine Kd.C_drewN ?_ _) | (with_reducible refine Kd.C_drew ?_))); rintro e w91 ⟨rfl, hb⟩; replace HO_61 := Aside0.mk (Kd.R_below (kr_ HO_61.out) hb); replace BK501 := Aside0.mk (bb_ BK501.out hb); replace BK502 := Aside0.mk (bb_ BK502.out hb); replace BK503 := Aside0.mk (bb_ BK503.out hb); replace BK504 := Aside0.mk (bb_ BK504.out hb); replace HB := Aside0.mk (below_step (hb4_ HB.out GE501.out GE502.out GE503.out GE504.out) hb); (try clear hb); (try clear hb2); (try clear hk); (try clear hi)))
                go_roundg k4
                case measure => have := HJ3.out; have := HK2.out; have := HJ48.out; have := HK4.out; omega
                case rel => exact ⟨(wrap64 (x63_4 + 1)), (x505000_4), (x505001_4), (by first | rfl | (simp; done) | (simp [*]; done)), H', ⟨by have := HJ3.out; have := HK2.out; have := HJ48.out; have := HK4.out; omega⟩, ⟨kr_ HO_61.out⟩, ⟨bk_ BK501.out⟩, ⟨bk_ BK502.out⟩, ⟨bk_ BK503.out⟩, ⟨bk_ BK504.out⟩, ⟨hb4_ HB.out GE501.out GE502.out GE503.out GE504.out⟩⟩
              ·rw [if_neg c71] at H
               exact absurd H (by simp)
             ·rw [if_neg c70] at H
              exact absurd H (by simp)
            ·rw [if_neg c69] at H
             have c69b0 : decide (x63_4 < (y511.length : Int)) = false := decide_eq_false c69
             clear c69
             obtain ⟨y518, hy518⟩ : ∃ y_ : List Int, y_ = (([1, 0, 3, 2] : List Int)) := ⟨_, rfl⟩
             replace H : (impl_TremauxStep.l2 k4 y518 (y518.length : Int) 0 a0_0 a0_1 a0_2 l1 a2_0 a2_1) = some (r1, r2, r3) := by first | (rw [hy518]; with_reducible exact H) | (have H2_ := (Option.bind_some _ _).symm.trans H; rw [hy518]; with_reducible exact H2_) | (have H2_ := (Option.bind_some _ _).symm.trans H; with_reducible exact H2_) | with_reducible exact H | (rw [hy518]; exact H) | exact H
             have Ny518 := Aside0.mk hy518
             clear hy518
             have H' := Aside0.mk H
             clear H
             go_wp2_with (first | ((with_reducible refine gate_dst (N := 81) rfl ?_); refine Kd.R_lit (Kd.int .i64) _ 3 ?hg (N := 81) ?hd (xs := ([1, 0, 3, 2] : List Int)) (inner := [.int .i64 1, .int .i64 0, .int .i64 3, .int .i64 2]) (ok := fun _ => True) (okp := fun _ => True) ?hr ?hp (fun _ hk => hk) trivial (Below.refl _ _) (Nat.le_refl _) (by simp) ?_; (case hd => rfl); (case hg => rfl); (case hr => first | (go_simp; done) | (go_simp; rfl)); (case hp => exact (Reps.one (show Kd.M (Kd.int .i64) _ _ _ 1 [.int .i64 1] from rfl) (Reps.one (show Kd.M (Kd.int .i64) _ _ _ 0 [.int .i64 0] from rfl) (Reps.one (show Kd.M (Kd.int .i64) _ _ _ 3 [.int .i64 3] from rfl) (Reps.one (show Kd.M (Kd.int .i64) _ _ _ 2 [.int .i64 2] from rfl) (Reps.none _ _)))))); intro v519 w92 ho93 hb hg_ hnew_; clear hg_ hnew_; (first | rw [← Ny518.out] at ho93 | (simp only [Int.reduceToNat] at ho93; rw [← Ny518.out] at ho93)); have n0_ := Aside0.mk (Kd.R_elder' (kr_ HO_61.out) (Kd.R_base ho93) hb); have n1_ := Aside0.mk (Kd.R_lower (Kd.R_new' ho93 (Kd.R_lt (kr_ HO_61.out))) (below_size (hb4_ HB.out GE501.out GE502.out GE503.out GE504.out))); have n2_ := Aside0.mk (bb_ BK501.out hb); have n3_ := Aside0.mk (bb_ BK502.out hb); have n4_ := Aside0.mk (bb_ BK503.out hb); have n5_ := Aside0.mk (bb_ BK504.out hb); have n6_ := Aside0.mk (below_step (hb4_ HB.out GE501.out GE502.out GE503.out GE504.out) hb); clear HO_61; clear BK501; clear BK502; clear BK503; clear BK504; clear HB; have HO_61 := n0_; have HO520 := n1_; have BK501 := n2_; have BK502 := n3_; have BK503 := n4_; have BK504 := n5_; have HB := n6_; clear n0_ n1_ n2_ n3_ n4_ n5_ n6_; clear hb ho93; obtain ⟨Ao94, co94, eo94⟩ := Kd.R_slice HO520.out; subst eo94))
             go_loopg [83] k4 (fun kq v83 w' => ∃ (x83_5 : Int) (x505000_5 : Int) (x505001_5 : Int), v83 = .int .i64 x83_5 ∧ Aside0 (impl_TremauxStep.l2 kq y518 (y518.length : Int) x83_5 a0_0 a0_1 a0_2 l1 a2_0 a2_1 = some (r1, r2, r3)) ∧ Aside0 (kq ≤ k4) ∧ Aside0 (Kd.R (Kd.int .i64) 3 w' w.heap.size (fun _ => True) (.slice Ao94 y518.length co94) y518) ∧ Aside0 (w'.heap[gb501]? = some (.cells #[.int .i64 a0_0, .int .i64 a0_1, .int .i64 a0_2] 36 (0, 0))) ∧ Aside0 (w'.heap[gb502]? = some (.cells #[(.slice A1 l1.length c1)] 22 (0, 0))) ∧ Aside0 (w'.heap[gb503]? = some (.cells #[.int .i64 a2_0, .int .i64 a2_1] 60 (0, 0))) ∧ Aside0 (w'.heap[gb504]? = some (.cells #[.int .i64 x505000_5, .int .i64 x505001_5] 60 (0, 0))) ∧ Aside0 (Below w.heap.size w w'))
             case atStart => exact ⟨(0), (x505000_4), (x505001_4), (by first | rfl | (simp; done) | (simp [*]; done)), H', ⟨Nat.le_refl _⟩, ⟨by (with_reducible repeat (first | apply Kd.R_alloc | apply Kd.R_drewN | apply Kd.R_drew)); exact Kd.R_mono HO520.out (fun _ hk => trivial)⟩, ⟨bk_ BK501.out⟩, ⟨bk_ BK502.out⟩, ⟨bk_ BK503.out⟩, ⟨bk_ BK504.out⟩, ⟨hb4_ HB.out GE501.out GE502.out GE503.out GE504.out⟩⟩
             case round =>
              clear H'
              try clear c1
              try clear c2
              try clear p2
              try clear c3
              try clear c4
              try clear c5
              try clear p5
              try clear q5
              try clear hx5
              try clear c6
              try clear p6
              try clear c7
              try clear c8
              try clear c10
              try clear c12
              try clear c13
              try clear c14
              try clear c16
              try clear c17
              try clear c21
              try clear c24
              try clear c25
              try clear c26
              try clear c28
              try clear c29
              try clear c32
              try clear c33
              try clear c34
              try clear c35
              try clear c37
              try clear c38
              try clear c40
              try clear c41
              try clear c42
              try clear c44
              try clear c44b0
              try clear c45
              try clear c46
              try clear c46b0
              try clear c46b1
              try clear c47
              try clear c49
              try clear c51
              try clear c51b0
              try clear c51b1
              try clear p51
              try clear q51
              try clear hx51
              try clear c54
              try clear c56
              try clear c57
              try clear c58
              try clear c60
              try clear c61
              try clear c64
              try clear p64
              try clear c69
              try clear c69b0
              try clear c70
              try clear c70b0
              try clear c71
              try clear c71b0
              try clear c73
              try clear c73b0
              try clear c73b1
              try clear c75
              try clear c76
              try clear c77
              try clear c78
              try clear c80
              try clear c81
              try clear c85
              try clear c87
              try clear c88
              try clear c89
              try clear hcz15_0
              try clear hcz15_1
              try clear hcz15_2
              try clear hcz18_0
              try clear hcz18_1
              try clear hcz20_0
              try clear hcz20_1
              try clear hcz20_2
              try clear hcz22_0
              try clear hcz27_0
              try clear hcz27_1
              try clear hcz27_2
              try clear hcz30_0
              try clear hcz30_1
              try clear hcz36_0
              try clear hcz36_1
              try clear hcz39_0
              try clear hcz39_1
              try clear hcz43_0
              try clear hcz43_1
              try clear hcz59_0
              try clear hcz59_1
              try clear hcz59_2
              try clear hcz62_0
              try clear hcz62_1
              try clear hcz65_0
              try clear hcz65_1
              try clear hcz78_0
              try clear hcz78_1
              try clear hcz82_0
              try clear hcz82_1
              try clear hcz82_2
              try clear hcz83_0
              try clear hcz83_1
              try clear hcz86_0
              try clear hcz86_1
              try clear hcz90_0
              try clear hcz90_1
              try clear hfz15_0
              try clear hfz15_1
              try clear hfz15_2
              try clear hfz18_0
              try clear hfz18_1
              try clear hfz20_0
              try clear hfz20_1
              try clear hfz20_2
              try clear hfz22_0
              try clear hfz27_0
              try clear hfz27_1
              try clear hfz27_2
              try clear hfz30_0
              try clear hfz30_1
              try clear hfz36_0
              try clear hfz36_1
              try clear hfz39_0
              try clear hfz39_1
              try clear hfz43_0
              try clear hfz43_1
              try clear hfz59_0
              try clear hfz59_1
              try clear hfz59_2
              try clear hfz62_0
              try clear hfz62_1
              try clear hfz65_0
              try clear hfz65_1
              try clear hfz78_0
              try clear hfz78_1
              try clear hfz82_0
              try clear hfz82_1
              try clear hfz82_2
              try clear hfz83_0
              try clear hfz83_1
              try clear hfz86_0
              try clear hfz86_1
              try clear hfz90_0
              try clear hfz90_1
              try clear hx514_0
              try clear p2
              try clear p514
              try clear p6
              try clear p64
              try clear q514
              obtain ⟨x83_5, x505000_5, x505001_5, rfl, HA, HK5, HO_81, BK501, BK502, BK503, BK504, HB⟩ := hrel
              cases gk with
              | zero => exact absurd HA.out (by simp [impl_TremauxStep.l2])
              | succ k5 =>
               have H := HA.out
               clear HA
               simp only [impl_TremauxStep.l2] at H
               by_cases c95 : x83_5 < (y518.length : Int)
               ·rw [if_pos c95] at H
                have c95b0 : decide (x83_5 < (y518.length : Int)) = true := decide_eq_true c95
                clear c95
                by_cases c96 : 0 ≤ x83_5
                ·rw [if_pos c96] at H
                 have c96b0 : decide (0 ≤ x83_5) = true := decide_eq_true c96
                 clear c96
                 by_cases c97 : x83_5 < (y518.length : Int)
                 ·rw [if_pos c97] at H
                  have c97b0 : decide (x83_5 < (y518.length : Int)) = true := decide_eq_true c97
                  clear c97
                  replace H := Option.bind_eq_some_iff.mp H
                  obtain ⟨t522, A980, H⟩ := H
                  replace H : (if t522 = 1 then ((impl_marked.f k5 a0_0 a0_1 a0_2 a2_0 a2_1 (Int.tmod (wrap64 (a2_1 + (rd y518 x83_5))) 4)).bind fun bt523 => (some (bt523.1, bt523.2, true))) else (impl_TremauxStep.l2 k5 y518 (y518.length : Int) (wrap64 (x83_5 + 1)) a0_0 a0_1 a0_2 l1 a2_0 a2_1)) = some (r1, r2, r3) := H
                  have A98 := Aside0.mk A980
                  clear A980
                  by_cases c99 : t522 = 1
                  ·rw [if_pos c99] at H
                   have c99b0 : (t522 == 1) = true := beq_iff_eq.mpr c99
                   have c99b1 : (t522 != 1) = false := bne_eq_false_iff_eq.mpr c99
                   clear c99
                   replace H := Option.bind_eq_some_iff.mp H
                   obtain ⟨⟨t523, t524⟩, A1000, H⟩ := H
                   replace H : (some (t523, t524, true)) = some (r1, r2, r3) := H
                   have A100 := Aside0.mk A1000
                   clear A1000
                   simp only [Option.some.injEq, Prod.mk.injEq] at H
                   obtain ⟨rfl, rfl, rfl⟩ := H
                   have p521 : 0 ≤ (x83_5 : Int) := of_decide_eq_true (as_)
                   have q521 : x83_5 < (y518.length : Int) := of_decide_eq_true (as_)
                   obtain ⟨ad521, e521, hx521_0⟩ := Kd.at_int (Kd.R_reads' HO_81.out).2.2 x83_5 p521 q521
                   cases e521
                   replace p521 := eq_true p521
                   replace q521 := eq_true q521
                   have hnb101 := NB503_501.out
                   have hnc101 := NB501_503.out
                   have hnb102 := NB503_502.out
                   have hnc102 := NB502_503.out
                   have hnb103 := NB503_504.out
                   have hnc103 := NB504_503.out
                   obtain ⟨hcz104_0, hcz104_1⟩ := cz2_ BK503.out
                   obtain ⟨hfz104_0, hfz104_1⟩ := fz2_ BK503.out
                   go_wp2_with (first | (go_at_call 78; (with_reducible refine (impl_TremauxStep_1.calls (A1 := A1) (c1 := c1) k5 (Int.tmod (wrap64 (a2_1 + (rd y518 x83_5))) 4) t522 _ A98.out ?hm_ ?hw_ ?hk_ ?hr_).mono ?_); (case hm_ => exact bk_ BK501.out); (case hw_ => exact bk_ BK503.out); (case hk_ => exact bk_ BK502.out); (case hr_ => repeat (first | exact (Kd.C_below HR1.out HB.out) | (with_reducible refine Kd.C_alloc ?_ _) | (with_reducible refine Kd.C_drewN ?_ _) | (with_reducible refine Kd.C_drew ?_))); rintro e w105 ⟨rfl, hb⟩; replace HO_81 := Aside0.mk (Kd.R_below (kr_ HO_81.out) hb); replace BK501 := Aside0.mk (bb_ BK501.out hb); replace BK502 := Aside0.mk (bb_ BK502.out hb); replace BK503 := Aside0.mk (bb_ BK503.out hb); replace BK504 := Aside0.mk (bb_ BK504.out hb); replace HB := Aside0.mk (below_step (hb4_ HB.out GE501.out GE502.out GE503.out GE504.out) hb); (try clear hb); (try clear hb2); (try clear hk); (try clear hi); have hnb106 := NB501_502.out; have hnc106 := NB502_501.out; have hnb107 := NB501_504.out; have hnc107 := NB504_501.out; obtain ⟨hcz108_0, hcz108_1, hcz108_2⟩ := cz3_ BK501.out; obtain ⟨hfz108_0, hfz108_1, hfz108_2⟩ := fz3_ BK501.out; obtain ⟨hcz109_0, hcz109_1⟩ := cz2_ BK503.out; obtain ⟨hfz109_0, hfz109_1⟩ := fz2_ BK503.out) | ((with_reducible refine gate_callee (f := 47) rfl ?_); refine goesL_ (some 99) rfl rfl Try.func47 (by kernel_rfl) rfl #[.agg #[.int .i64 a0_0, .int .i64 a0_1, .int .i64 a0_2], .agg #[.int .i64 a2_0, .int .i64 a2_1], .int .i64 (Int.tmod (wrap64 (a2_1 + (rd y518 x83_5))) 4)] rfl (ml_) ?_; (with_reducible refine (impl_marked.calls k5 a0_0 a0_1 a0_2 a2_0 a2_1 (Int.tmod (wrap64 (a2_1 + (rd y518 x83_5))) 4) t523 t524 _ A100.out).mono ?_); rintro e w110 ⟨rfl, hb⟩; refine ⟨_, rfl, ?_⟩; replace HO_81 := Aside0.mk (Kd.R_below (kr_ HO_81.out) hb); replace BK501 := Aside0.mk (bb_ BK501.out hb); replace BK502 := Aside0.mk (bb_ BK502.out hb); replace BK503 := Aside0.mk (bb_ BK503.out hb); replace BK504 := Aside0.mk (bb_ BK504.out hb); replace HB := Aside0.mk (below_step (hb4_ HB.out GE501.out GE502.out GE503.out GE504.out) hb); (try clear hb); (try clear hb2); (try clear hk); (try clear hi); have hnb111 := NB504_502.out; have hnc111 := NB502_504.out; obtain ⟨hcz112_0, hcz112_1⟩ := cz2_ BK504.out; obtain ⟨hfz112_0, hfz112_1⟩ := fz2_ BK504.out))
                   refine bodyPost_ret (results_ct rfl _ _ gb504 60 #[.int .i64 t523, .int .i64 t524] (0, 0) _ rfl (by (with_reducible repeat (first | refine blk_drewN ?_ _ | refine blk_drew ?_ | refine blk_alloc ?_ _)); refine blk_put (cs := #[.int .i64 t523, .int .i64 x505001_5]) ?_ 1 _ rfl; (with_reducible repeat (first | refine blk_drewN ?_ _ | refine blk_drew ?_ | refine blk_alloc ?_ _)); refine blk_put (cs := #[.int .i64 x505000_5, .int .i64 x505001_5]) ?_ 0 _ rfl; (with_reducible repeat (first | refine blk_drewN ?_ _ | refine blk_drew ?_ | refine blk_alloc ?_ _)); exact BK504.out) Try.underlying60 rfl (by kernel_rfl)) rfl ?_
                   exact ⟨by first | rfl | (simp [errW_none, errW_some] <;> rfl) | (simp [*, errW_none, errW_some] <;> rfl), hb4_ HB.out GE501.out GE502.out GE503.out GE504.out⟩
                  ·rw [if_neg c99] at H
                   have c99b0 : (t522 == 1) = false := beq_eq_false_iff_ne.mpr c99
                   have c99b1 : (t522 != 1) = true := bne_iff_ne.mpr c99
                   have H' := Aside0.mk H
                   clear H
                   have p521 : 0 ≤ (x83_5 : Int) := of_decide_eq_true (as_)
                   have q521 : x83_5 < (y518.length : Int) := of_decide_eq_true (as_)
                   obtain ⟨ad521, e521, hx521_0⟩ := Kd.at_int (Kd.R_reads' HO_81.out).2.2 x83_5 p521 q521
                   cases e521
                   replace p521 := eq_true p521
                   replace q521 := eq_true q521
                   have hnb113 := NB503_501.out
                   have hnc113 := NB501_503.out
                   have hnb114 := NB503_502.out
                   have hnc114 := NB502_503.out
                   have hnb115 := NB503_504.out
                   have hnc115 := NB504_503.out
                   obtain ⟨hcz116_0, hcz116_1⟩ := cz2_ BK503.out
                   obtain ⟨hfz116_0, hfz116_1⟩ := fz2_ BK503.out
                   go_wp2_with (first | (go_at_call 78; (with_reducible refine (impl_TremauxStep_1.calls (A1 := A1) (c1 := c1) k5 (Int.tmod (wrap64 (a2_1 + (rd y518 x83_5))) 4) t522 _ A98.out ?hm_ ?hw_ ?hk_ ?hr_).mono ?_); (case hm_ => exact bk_ BK501.out); (case hw_ => exact bk_ BK503.out); (case hk_ => exact bk_ BK502.out); (case hr_ => repeat (first | exact (Kd.C_below HR1.out HB.out) | (with_reducible refine Kd.C_alloc ?_ _) | (with_reducible refine Kd.C_drewN ?_ _) | (with_reducible refine Kd.C_drew ?_))); rintro e w117 ⟨rfl, hb⟩; replace HO_81 := Aside0.mk (Kd.R_below (kr_ HO_81.out) hb); replace BK501 := Aside0.mk (bb_ BK501.out hb); replace BK502 := Aside0.mk (bb_ BK502.out hb); replace BK503 := Aside0.mk (bb_ BK503.out hb); replace BK504 := Aside0.mk (bb_ BK504.out hb); replace HB := Aside0.mk (below_step (hb4_ HB.out GE501.out GE502.out GE503.out GE504.out) hb); (try clear hb); (try clear hb2); (try clear hk); (try clear hi)))
                   go_roundg k5
                   case measure => have := HJ3.out; have := HK2.out; have := HJ48.out; have := HK4.out; have := HK5.out; omega
                   case rel => exact ⟨(wrap64 (x83_5 + 1)), (x505000_5), (x505001_5), (by first | rfl | (simp; done) | (simp [*]; done)), H', ⟨by have := HJ3.out; have := HK2.out; have := HJ48.out; have := HK4.out; have := HK5.out; omega⟩, ⟨kr_ HO_81.out⟩, ⟨bk_ BK501.out⟩, ⟨bk_ BK502.out⟩, ⟨bk_ BK503.out⟩, ⟨bk_ BK504.out⟩, ⟨hb4_ HB.out GE501.out GE502.out GE503.out GE504.out⟩⟩
                 ·rw [if_neg c97] at H
                  exact absurd H (by simp)
                ·rw [if_neg c96] at H
                 exact absurd H (by simp)
               ·rw [if_neg c95] at H
                have c95b0 : decide (x83_5 < (y518.length : Int)) = false := decide_eq_false c95
                clear c95
                simp only [Option.some.injEq, Prod.mk.injEq] at H
                obtain ⟨rfl, rfl, rfl⟩ := H
                have hnb118 := NB503_501.out
                have hnc118 := NB501_503.out
                have hnb119 := NB503_502.out
                have hnc119 := NB502_503.out
                have hnb120 := NB503_504.out
                have hnc120 := NB504_503.out
                obtain ⟨hcz121_0, hcz121_1⟩ := cz2_ BK503.out
                obtain ⟨hfz121_0, hfz121_1⟩ := fz2_ BK503.out
                have hnb122 := NB504_501.out
                have hnc122 := NB501_504.out
                have hnb123 := NB504_502.out
                have hnc123 := NB502_504.out
                obtain ⟨hcz124_0, hcz124_1⟩ := cz2_ BK504.out
                obtain ⟨hfz124_0, hfz124_1⟩ := fz2_ BK504.out
                go_wp2
                refine bodyPost_ret (results_ct rfl _ _ gb504 60 #[.int .i64 a2_0, .int .i64 a2_1] (0, 0) _ rfl (by (with_reducible repeat (first | refine blk_drewN ?_ _ | refine blk_drew ?_ | refine blk_alloc ?_ _)); refine blk_put (cs := #[.int .i64 a2_0, .int .i64 x505001_5]) ?_ 1 _ rfl; (with_reducible repeat (first | refine blk_drewN ?_ _ | refine blk_drew ?_ | refine blk_alloc ?_ _)); refine blk_put (cs := #[.int .i64 x505000_5, .int .i64 x505001_5]) ?_ 0 _ rfl; (with_reducible repeat (first | refine blk_drewN ?_ _ | refine blk_drew ?_ | refine blk_alloc ?_ _)); exact BK504.out) Try.underlying60 rfl (by kernel_rfl)) rfl ?_
                exact ⟨by first | rfl | (simp [errW_none, errW_some] <;> rfl) | (simp [*, errW_none, errW_some] <;> rfl), hb4_ HB.out GE501.out GE502.out GE503.out GE504.out⟩

end Go.Proofs.Ytdloifaaoiollac.X
