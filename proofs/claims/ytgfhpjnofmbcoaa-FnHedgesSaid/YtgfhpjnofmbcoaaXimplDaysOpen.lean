-- Written by a program of this session (xprint.py), out of the translation and of hand-written contracts. Lean checks it.
import Derived.Test.YtgfhpjnofmbcoaaX0
import Derived.Test.YtgfhpjnofmbcoaaXchedge
import Derived.Test.YtgfhpjnofmbcoaaXcreach
import Derived.Test.YtgfhpjnofmbcoaaXimplOpenNow
namespace Go.Proofs.Ytgfhpjnofmbcoaa.X
open Go.RowKit Go.Proofs.YtgfhpjnofmbcoaaW.PrintWords Go.Proofs.YtgfhpjnofmbcoaaW.PrintLast Go.Proofs.YtgfhpjnofmbcoaaW.PrintMore
attribute [local go_sem] max2_int min2_int max_two min_two max_three min_three max_four min_four   -- for this text's walks alone
set_option linter.unusedVariables false
set_option linter.unusedSimpArgs false

/-! ### impl_DaysOpen: function 12 -/
mutual
def impl_DaysOpen.j0 : Nat → Int → Bool → Int → Int → Int → List Int → Int → Option (Int)
 | 0, _, _, _, _, _, _, _ => none
 | k + 1, x1, x16, x502000, x502001, x502002, x502003, x502004 => if x16 = true then (some (-1)) else ((impl_OpenNow.f k x502000 x502001 x502002 x502003 x502004).bind fun bt503 => ((impl_IsConnected.f k bt503.1 bt503.2.1 bt503.2.2).bind fun t506 => (if t506 = true then (impl_DaysOpen.l0 k x1 0 x502000 x502001 x502002 x502003 x502004) else (some 0))))
def impl_DaysOpen.l0 : Nat → Int → Int → Int → Int → Int → List Int → Int → Option (Int)
 | 0, _, _, _, _, _, _, _ => none
 | k + 1, x1, x5, x502000, x502001, x502002, x502003, x502004 => if x5 < 100 then ((impl_GrowHedge.f k x502000 x502001 x502002 x502003 x502004 x1).bind fun bt507 => ((impl_OpenNow.f k bt507.1 bt507.2.1 bt507.2.2.1 bt507.2.2.2.1 bt507.2.2.2.2.1).bind fun bt515 => ((impl_IsConnected.f k bt515.1 bt515.2.1 bt515.2.2).bind fun t518 => (if t518 = true then (impl_DaysOpen.l0 k x1 (wrap64 (x5 + 1)) bt507.1 bt507.2.1 bt507.2.2.1 bt507.2.2.2.1 bt507.2.2.2.2.1) else (some x5))))) else (some x5)
end
def impl_DaysOpen.f (k : Nat) (a0_0 : Int) (a0_1 : Int) (a0_2 : Int) (l0_3 : List Int) (a0_4 : Int) (a1 : Int) : Option (Int) := (impl_HedgeOk.f a0_0 a0_1 a0_2 l0_3 a0_4).bind fun t502 => (if t502 = true then (if a1 < 1 then (impl_DaysOpen.j0 k a1 true a0_0 a0_1 a0_2 l0_3 a0_4) else (impl_DaysOpen.j0 k a1 (decide (a1 > 20)) a0_0 a0_1 a0_2 l0_3 a0_4)) else (impl_DaysOpen.j0 k a1 true a0_0 a0_1 a0_2 l0_3 a0_4))
theorem impl_DaysOpen.mono_l : ∀ k, (∀ y0 y1 y2 y3 y4 y5 y6, LeO (impl_DaysOpen.j0 k y0 y1 y2 y3 y4 y5 y6) (impl_DaysOpen.j0 (k + 1) y0 y1 y2 y3 y4 y5 y6)) ∧ (∀ y0 y1 y2 y3 y4 y5 y6, LeO (impl_DaysOpen.l0 k y0 y1 y2 y3 y4 y5 y6) (impl_DaysOpen.l0 (k + 1) y0 y1 y2 y3 y4 y5 y6))
 | 0 => ⟨fun _ _ _ _ _ _ _ r h => by simp [impl_DaysOpen.j0] at h, fun _ _ _ _ _ _ _ r h => by simp [impl_DaysOpen.l0] at h⟩
 | k + 1 => by
  obtain ⟨ih0, ih1⟩ := impl_DaysOpen.mono_l k
  refine ⟨?_, ?_⟩
  ·intro y0 y1 y2 y3 y4 y5 y6
   unfold impl_DaysOpen.j0
   repeat' first
   | (with_reducible exact ih0 ..)
   | (with_reducible exact ih1 ..)
   | (with_reducible exact impl_GrowHedge.mono ..)
   | (with_reducible exact impl_IsConnected.mono ..)
   | (with_reducible exact impl_OpenNow.mono ..)
   | (with_reducible first | exact LeO.refl _ | exact LeO.none _ | refine LeO.ite ?_ ?_ | refine LeO.bind ?_ (fun _ => ?_))
   | exact ih0 ..
   | exact ih1 ..
   | exact impl_GrowHedge.mono ..
   | exact impl_IsConnected.mono ..
   | exact impl_OpenNow.mono ..
   | exact LeO.none _ | refine LeO.ite ?_ ?_ | refine LeO.bind ?_ (fun _ => ?_)
  ·intro y0 y1 y2 y3 y4 y5 y6
   unfold impl_DaysOpen.l0
   repeat' first
   | (with_reducible exact ih0 ..)
   | (with_reducible exact ih1 ..)
   | (with_reducible exact impl_GrowHedge.mono ..)
   | (with_reducible exact impl_IsConnected.mono ..)
   | (with_reducible exact impl_OpenNow.mono ..)
   | (with_reducible first | exact LeO.refl _ | exact LeO.none _ | refine LeO.ite ?_ ?_ | refine LeO.bind ?_ (fun _ => ?_))
   | exact ih0 ..
   | exact ih1 ..
   | exact impl_GrowHedge.mono ..
   | exact impl_IsConnected.mono ..
   | exact impl_OpenNow.mono ..
   | exact LeO.none _ | refine LeO.ite ?_ ?_ | refine LeO.bind ?_ (fun _ => ?_)
theorem impl_DaysOpen.mono : ∀ a0 a1 a2 a3 a4 a5 k, LeO (impl_DaysOpen.f k a0 a1 a2 a3 a4 a5) (impl_DaysOpen.f (k + 1) a0 a1 a2 a3 a4 a5) := by
 intro a0 a1 a2 a3 a4 a5 k
 obtain ⟨ih0, ih1⟩ := impl_DaysOpen.mono_l k
 unfold impl_DaysOpen.f
 repeat' first
   | (with_reducible exact ih0 ..)
   | (with_reducible exact ih1 ..)
   | (with_reducible exact impl_GrowHedge.mono ..)
   | (with_reducible exact impl_IsConnected.mono ..)
   | (with_reducible exact impl_OpenNow.mono ..)
   | (with_reducible first | exact LeO.refl _ | exact LeO.none _ | refine LeO.ite ?_ ?_ | refine LeO.bind ?_ (fun _ => ?_))
   | exact ih0 ..
   | exact ih1 ..
   | exact impl_GrowHedge.mono ..
   | exact impl_IsConnected.mono ..
   | exact impl_OpenNow.mono ..
   | exact LeO.none _ | refine LeO.ite ?_ ?_ | refine LeO.bind ?_ (fun _ => ?_)
set_option maxHeartbeats 8000000 in
set_option maxRecDepth 100000 in
theorem impl_DaysOpen.calls (k : Nat) (a0_0 : Int) (a0_1 : Int) (a0_2 : Int) (P0_3_ : Nat → Prop) (A0_3 : Option Addr) (c0_3 : Nat) (l0_3 : List Int) (a0_4 : Int) (a1 : Int) (r : Int) (w : World) (hs0_3 : Kd.V (Kd.int .i64) 3 w w.heap.size (fun k_ => P0_3_ k_) (.slice A0_3 l0_3.length c0_3) l0_3) (h : impl_DaysOpen.f k a0_0 a0_1 a0_2 l0_3 a0_4 a1 = some r) :
  Calls Try.prog 12 #[.agg #[.int .i64 a0_0, .int .i64 a0_1, .int .i64 a0_2, .slice A0_3 l0_3.length c0_3, .int .i64 a0_4], .int .i64 a1] w fun e w' => e = .returned (.int .i64 r) ∧ Below w.heap.size w w' := by
 have hu30 := Try.underlying30
 have HO0_3 := Aside0.mk (show Kd.V (Kd.int .i64) 3 w w.heap.size (fun k_ => (P0_3_ k_ ∨ w.heap.size ≤ k_)) (.slice A0_3 l0_3.length c0_3) l0_3 from Kd.V_mono hs0_3 (fun k_ hk => .inl hk))
 have HB := Aside0.mk (Below.refl w.heap.size w)
 have H : ((impl_HedgeOk.f a0_0 a0_1 a0_2 l0_3 a0_4).bind fun t502 => (if t502 = true then (if a1 < 1 then (impl_DaysOpen.j0 k a1 true a0_0 a0_1 a0_2 l0_3 a0_4) else (impl_DaysOpen.j0 k a1 (decide (a1 > 20)) a0_0 a0_1 a0_2 l0_3 a0_4)) else (impl_DaysOpen.j0 k a1 true a0_0 a0_1 a0_2 l0_3 a0_4))) = some r := h
 clear h
 have HC3 := Aside0.mk H
 clear H
 go_enter Try.func12, Try.ntmps12
 go_upto_region 1 with ((with_reducible refine gw_ ?_); first | (refine box_ (N := 2) (cs := #[.int .i64 a0_0, .int .i64 a0_1, .int .i64 a0_2, .slice A0_3 l0_3.length c0_3, .int .i64 a0_4]) (t := 30) ?_; intro gb501 hg w4 hbox hb; have n0_ := Aside0.mk (Kd.V_below (Kd.V_elderB (by (with_reducible repeat (first | apply Kd.V_alloc | apply Kd.V_drewN | apply Kd.V_drew)); exact HO0_3.out) gb501 (Nat.le_of_eq hg.symm)) hb); have n1_ := HB.s0 hb; have n2_ := Aside0.mk (hbox); have n3_ := HB.g0 hg; have n4_ := HB.g0 hg; clear HO0_3; clear HB; have HO0_3 := n0_; have HB := n1_; have BK501 := n2_; have GW501 := n3_; have GE501 := n4_; clear n0_ n1_ n2_ n3_ n4_; clear hb hbox hg))
 (try simp only [Act.put, List.setIfInBounds_toArray, List.set_cons_zero, List.set_cons_succ])
 go_cut [16] (fun v16 wc => ∃ (kq : Nat) (x16_2 : Bool), v16 = .bool x16_2 ∧ Aside0 (impl_DaysOpen.j0 kq a1 x16_2 a0_0 a0_1 a0_2 l0_3 a0_4 = some r) ∧ Aside0 (kq ≤ k) ∧ Aside0 (Kd.V (Kd.int .i64) 3 wc w.heap.size (fun k_ => (P0_3_ k_ ∨ w.heap.size ≤ k_) ∧ k_ ≠ gb501) (.slice A0_3 l0_3.length c0_3) l0_3) ∧ Aside0 (wc.heap[gb501]? = some (.cells #[.int .i64 a0_0, .int .i64 a0_1, .int .i64 a0_2, (.slice A0_3 l0_3.length c0_3), .int .i64 a0_4] 30 (0, 0))) ∧ Aside0 (Below w.heap.size w wc))
 case first =>
  have H := HC3.out
  clear HC3
  replace H := Option.bind_eq_some_iff.mp H
  obtain ⟨t502, A50, H⟩ := H
  replace H : (if t502 = true then (if a1 < 1 then (impl_DaysOpen.j0 k a1 true a0_0 a0_1 a0_2 l0_3 a0_4) else (impl_DaysOpen.j0 k a1 (decide (a1 > 20)) a0_0 a0_1 a0_2 l0_3 a0_4)) else (impl_DaysOpen.j0 k a1 true a0_0 a0_1 a0_2 l0_3 a0_4)) = some r := H
  have A5 := Aside0.mk A50
  clear A50
  by_cases c6 : t502 = true
  ·subst c6
   have H1 : (if a1 < 1 then (impl_DaysOpen.j0 k a1 true a0_0 a0_1 a0_2 l0_3 a0_4) else (impl_DaysOpen.j0 k a1 (decide (a1 > 20)) a0_0 a0_1 a0_2 l0_3 a0_4)) = some r := by rw [if_pos rfl] at H; exact H
   clear H
   have H := H1
   clear H1
   by_cases c7 : a1 < 1
   ·rw [if_pos c7] at H
    have c7b0 : decide (a1 < 1) = true := decide_eq_true c7
    clear c7
    (first | rw [c7b0] | (simp only [i64_w, i32_w]; rw [c7b0]) | skip)
    have H' := Aside0.mk H
    clear H
    obtain ⟨hcz8_0, hcz8_1, hcz8_2, hcz8_3, hcz8_4⟩ := cz5_ BK501.out
    obtain ⟨hfz8_0, hfz8_1, hfz8_2, hfz8_3, hfz8_4⟩ := fz5_ BK501.out
    go_wp2_with ((with_reducible refine gw_ ?_); first | (refine gl_ 7 Try.func19 #[.agg #[.int .i64 a0_0, .int .i64 a0_1, .int .i64 a0_2, .slice A0_3 l0_3.length c0_3, .int .i64 a0_4]] ?_; (with_reducible refine (impl_HedgeOk.calls a0_0 a0_1 a0_2 _ _ l0_3 a0_4 true _ ?side1 ?side2 A5.out).mono ?_); (case side1 => repeat (first | exact (Kd.V_reads' HO0_3.out).2.2 | (with_reducible refine Kd.C_alloc ?_ _) | (with_reducible refine Kd.C_drewN ?_ _) | (with_reducible refine Kd.C_drew ?_))); (case side2 => exact (Kd.V_reads' HO0_3.out).2.1); rintro e w9 ⟨rfl, hb⟩; refine ⟨_, rfl, ?_⟩; replace HO0_3 := Aside0.mk (Kd.V_below (by (with_reducible repeat (first | apply Kd.V_alloc | apply Kd.V_drewN | apply Kd.V_drew)); exact HO0_3.out) hb); replace BK501 := BK501.bb hb; replace HB := HB.s1 GE501 hb; (try clear hb)))
    go_meet
    case rel => exact ⟨_, (true), (by first | rfl | (simp; done) | (simp [*]; done)), H', ⟨by first | omega | exact Nat.le_refl _⟩, ⟨by (with_reducible repeat (first | apply Kd.V_alloc | apply Kd.V_drewN | apply Kd.V_drew)); exact HO0_3.out⟩, ⟨bk_ BK501.out⟩, ⟨hb1_ HB.out GE501.out⟩⟩
   ·rw [if_neg c7] at H
    have c7b0 : decide (a1 < 1) = false := decide_eq_false c7
    clear c7
    (first | rw [c7b0] | (simp only [i64_w, i32_w]; rw [c7b0]) | skip)
    have H' := Aside0.mk H
    clear H
    obtain ⟨hcz10_0, hcz10_1, hcz10_2, hcz10_3, hcz10_4⟩ := cz5_ BK501.out
    obtain ⟨hfz10_0, hfz10_1, hfz10_2, hfz10_3, hfz10_4⟩ := fz5_ BK501.out
    go_wp2_with ((with_reducible refine gw_ ?_); first | (refine gl_ 7 Try.func19 #[.agg #[.int .i64 a0_0, .int .i64 a0_1, .int .i64 a0_2, .slice A0_3 l0_3.length c0_3, .int .i64 a0_4]] ?_; (with_reducible refine (impl_HedgeOk.calls a0_0 a0_1 a0_2 _ _ l0_3 a0_4 true _ ?side1 ?side2 A5.out).mono ?_); (case side1 => repeat (first | exact (Kd.V_reads' HO0_3.out).2.2 | (with_reducible refine Kd.C_alloc ?_ _) | (with_reducible refine Kd.C_drewN ?_ _) | (with_reducible refine Kd.C_drew ?_))); (case side2 => exact (Kd.V_reads' HO0_3.out).2.1); rintro e w11 ⟨rfl, hb⟩; refine ⟨_, rfl, ?_⟩; replace HO0_3 := Aside0.mk (Kd.V_below (by (with_reducible repeat (first | apply Kd.V_alloc | apply Kd.V_drewN | apply Kd.V_drew)); exact HO0_3.out) hb); replace BK501 := BK501.bb hb; replace HB := HB.s1 GE501 hb; (try clear hb)))
    go_meet
    case rel => exact ⟨_, (decide (a1 > 20)), (by first | rfl | (simp; done) | (simp [*]; done)), H', ⟨by first | omega | exact Nat.le_refl _⟩, ⟨by (with_reducible repeat (first | apply Kd.V_alloc | apply Kd.V_drewN | apply Kd.V_drew)); exact HO0_3.out⟩, ⟨bk_ BK501.out⟩, ⟨hb1_ HB.out GE501.out⟩⟩
  ·replace c6 := Bool.eq_false_iff.mpr c6
   subst c6
   have H1 : (impl_DaysOpen.j0 k a1 true a0_0 a0_1 a0_2 l0_3 a0_4) = some r := by rw [if_neg (show ¬ (false = true) by decide)] at H; exact H
   clear H
   have H := H1
   clear H1
   have H' := Aside0.mk H
   clear H
   obtain ⟨hcz12_0, hcz12_1, hcz12_2, hcz12_3, hcz12_4⟩ := cz5_ BK501.out
   obtain ⟨hfz12_0, hfz12_1, hfz12_2, hfz12_3, hfz12_4⟩ := fz5_ BK501.out
   go_wp2_with ((with_reducible refine gw_ ?_); first | (refine gl_ 7 Try.func19 #[.agg #[.int .i64 a0_0, .int .i64 a0_1, .int .i64 a0_2, .slice A0_3 l0_3.length c0_3, .int .i64 a0_4]] ?_; (with_reducible refine (impl_HedgeOk.calls a0_0 a0_1 a0_2 _ _ l0_3 a0_4 false _ ?side1 ?side2 A5.out).mono ?_); (case side1 => repeat (first | exact (Kd.V_reads' HO0_3.out).2.2 | (with_reducible refine Kd.C_alloc ?_ _) | (with_reducible refine Kd.C_drewN ?_ _) | (with_reducible refine Kd.C_drew ?_))); (case side2 => exact (Kd.V_reads' HO0_3.out).2.1); rintro e w13 ⟨rfl, hb⟩; refine ⟨_, rfl, ?_⟩; replace HO0_3 := Aside0.mk (Kd.V_below (by (with_reducible repeat (first | apply Kd.V_alloc | apply Kd.V_drewN | apply Kd.V_drew)); exact HO0_3.out) hb); replace BK501 := BK501.bb hb; replace HB := HB.s1 GE501 hb; (try clear hb)))
   go_meet
   case rel => exact ⟨_, (true), (by first | rfl | (simp; done) | (simp [*]; done)), H', ⟨by first | omega | exact Nat.le_refl _⟩, ⟨by (with_reducible repeat (first | apply Kd.V_alloc | apply Kd.V_drewN | apply Kd.V_drew)); exact HO0_3.out⟩, ⟨bk_ BK501.out⟩, ⟨hb1_ HB.out GE501.out⟩⟩
 case rest =>
  clear HC3
  try clear c1
  try clear p2
  try clear c6
  try clear c7
  try clear c7b0
  try clear c12
  try clear hcz10_0
  try clear hcz10_1
  try clear hcz10_2
  try clear hcz10_3
  try clear hcz10_4
  try clear hcz12_0
  try clear hcz12_1
  try clear hcz12_2
  try clear hcz12_3
  try clear hcz12_4
  try clear hcz8_0
  try clear hcz8_1
  try clear hcz8_2
  try clear hcz8_3
  try clear hcz8_4
  try clear hfz10_0
  try clear hfz10_1
  try clear hfz10_2
  try clear hfz10_3
  try clear hfz10_4
  try clear hfz12_0
  try clear hfz12_1
  try clear hfz12_2
  try clear hfz12_3
  try clear hfz12_4
  try clear hfz8_0
  try clear hfz8_1
  try clear hfz8_2
  try clear hfz8_3
  try clear hfz8_4
  obtain ⟨kq, x16_2, rfl, HA, HJ2, HO_502003, BK501, HB⟩ := hcut
  cases kq with
  | zero => exact absurd HA.out (by simp [impl_DaysOpen.j0])
  | succ kj2 =>
   have H := HA.out
   clear HA
   simp only [impl_DaysOpen.j0] at H
   by_cases c14 : x16_2 = true
   ·subst c14
    have H1 : (some (-1)) = some r := by rw [if_pos rfl] at H; exact H
    clear H
    have H := H1
    clear H1
    obtain rfl := Option.some.inj H
    go_wp2
    go_ret
    exact ⟨ex_, hb1_ HB.out GE501.out⟩
   ·replace c14 := Bool.eq_false_iff.mpr c14
    subst c14
    have H1 : ((impl_OpenNow.f kj2 a0_0 a0_1 a0_2 l0_3 a0_4).bind fun bt503 => ((impl_IsConnected.f kj2 bt503.1 bt503.2.1 bt503.2.2).bind fun t506 => (if t506 = true then (impl_DaysOpen.l0 kj2 a1 0 a0_0 a0_1 a0_2 l0_3 a0_4) else (some 0)))) = some r := by rw [if_neg (show ¬ (false = true) by decide)] at H; exact H
    clear H
    have H := H1
    clear H1
    replace H := Option.bind_eq_some_iff.mp H
    obtain ⟨⟨t503, t504, t505⟩, A150, H⟩ := H
    replace H : ((impl_IsConnected.f kj2 t503 t504 t505).bind fun t506 => (if t506 = true then (impl_DaysOpen.l0 kj2 a1 0 a0_0 a0_1 a0_2 l0_3 a0_4) else (some 0))) = some r := H
    have A15 := Aside0.mk A150
    clear A150
    replace H := Option.bind_eq_some_iff.mp H
    obtain ⟨t506, A160, H⟩ := H
    replace H : (if t506 = true then (impl_DaysOpen.l0 kj2 a1 0 a0_0 a0_1 a0_2 l0_3 a0_4) else (some 0)) = some r := H
    have A16 := Aside0.mk A160
    clear A160
    by_cases c17 : t506 = true
    ·subst c17
     have H1 : (impl_DaysOpen.l0 kj2 a1 0 a0_0 a0_1 a0_2 l0_3 a0_4) = some r := by rw [if_pos rfl] at H; exact H
     clear H
     have H := H1
     clear H1
     have H' := Aside0.mk H
     clear H
     obtain ⟨hcz18_0, hcz18_1, hcz18_2, hcz18_3, hcz18_4⟩ := cz5_ BK501.out
     obtain ⟨hfz18_0, hfz18_1, hfz18_2, hfz18_3, hfz18_4⟩ := fz5_ BK501.out
     go_wp2_with ((with_reducible refine gw_ ?_); first | (refine gl_ 18 Try.func8 #[.agg #[.int .i64 a0_0, .int .i64 a0_1, .int .i64 a0_2, .slice A0_3 l0_3.length c0_3, .int .i64 a0_4]] ?_; (with_reducible refine (impl_OpenNow.calls kj2 a0_0 a0_1 a0_2 _ _ l0_3 a0_4 t503 t504 t505 _ ?side1 ?side2 A15.out).mono ?_); (case side1 => repeat (first | exact (Kd.V_reads' HO_502003.out).2.2 | (with_reducible refine Kd.C_alloc ?_ _) | (with_reducible refine Kd.C_drewN ?_ _) | (with_reducible refine Kd.C_drew ?_))); (case side2 => exact (Kd.V_reads' HO_502003.out).2.1); rintro e w19 ⟨rfl, hb⟩; refine ⟨_, rfl, ?_⟩; replace HO_502003 := Aside0.mk (Kd.V_below (by (with_reducible repeat (first | apply Kd.V_alloc | apply Kd.V_drewN | apply Kd.V_drew)); exact HO_502003.out) hb); replace BK501 := BK501.bb hb; replace HB := HB.s1 GE501 hb; (try clear hb)) | (refine gl_ 19 Try.func26 #[.agg #[.int .i64 t503, .int .i64 t504, .int .i64 t505]] ?_; (with_reducible refine (impl_IsConnected.calls kj2 t503 t504 t505 true _ A16.out).mono ?_); rintro e w20 ⟨rfl, hb⟩; refine ⟨_, rfl, ?_⟩; replace HO_502003 := Aside0.mk (Kd.V_below (by (with_reducible repeat (first | apply Kd.V_alloc | apply Kd.V_drewN | apply Kd.V_drew)); exact HO_502003.out) hb); replace BK501 := BK501.bb hb; replace HB := HB.s1 GE501 hb; (try clear hb)))
     go_loopg [5] kj2 (fun kq v5 w' => ∃ (x5_2 : Int) (x502000_2 : Int) (x502001_2 : Int) (x502002_2 : Int) (x502003_2 : List Int) (x502004_2 : Int) (u502003 : Value), v5 = .int .i64 x5_2 ∧ Aside0 (impl_DaysOpen.l0 kq a1 x5_2 x502000_2 x502001_2 x502002_2 x502003_2 x502004_2 = some r) ∧ Aside0 (kq ≤ kj2) ∧ Aside0 (Kd.V (Kd.int .i64) 3 w' w.heap.size (fun k_ => (P0_3_ k_ ∨ w.heap.size ≤ k_) ∧ k_ ≠ gb501) u502003 x502003_2) ∧ Aside0 (w'.heap[gb501]? = some (.cells #[.int .i64 x502000_2, .int .i64 x502001_2, .int .i64 x502002_2, u502003, .int .i64 x502004_2] 30 (0, 0))) ∧ Aside0 (Below w.heap.size w w'))
     case atStart => exact ⟨(0), (a0_0), (a0_1), (a0_2), (l0_3), (a0_4), (.slice A0_3 l0_3.length c0_3), (by first | rfl | (simp; done) | (simp [*]; done)), H', ⟨Nat.le_refl _⟩, ⟨by (with_reducible repeat (first | apply Kd.V_alloc | apply Kd.V_drewN | apply Kd.V_drew)); exact HO_502003.out⟩, ⟨bk_ BK501.out⟩, ⟨hb1_ HB.out GE501.out⟩⟩
     case round =>
      clear H'
      try clear c1
      try clear c2
      try clear p2
      try clear c6
      try clear c7
      try clear c7b0
      try clear c8
      try clear c12
      try clear c14
      try clear c17
      try clear c19
      try clear hcz10_0
      try clear hcz10_1
      try clear hcz10_2
      try clear hcz10_3
      try clear hcz10_4
      try clear hcz12_0
      try clear hcz12_1
      try clear hcz12_2
      try clear hcz12_3
      try clear hcz12_4
      try clear hcz18_0
      try clear hcz18_1
      try clear hcz18_2
      try clear hcz18_3
      try clear hcz18_4
      try clear hcz8_0
      try clear hcz8_1
      try clear hcz8_2
      try clear hcz8_3
      try clear hcz8_4
      try clear hfz10_0
      try clear hfz10_1
      try clear hfz10_2
      try clear hfz10_3
      try clear hfz10_4
      try clear hfz12_0
      try clear hfz12_1
      try clear hfz12_2
      try clear hfz12_3
      try clear hfz12_4
      try clear hfz18_0
      try clear hfz18_1
      try clear hfz18_2
      try clear hfz18_3
      try clear hfz18_4
      try clear hfz8_0
      try clear hfz8_1
      try clear hfz8_2
      try clear hfz8_3
      try clear hfz8_4
      try clear p2
      obtain ⟨x5_2, x502000_2, x502001_2, x502002_2, x502003_2, x502004_2, u502003, rfl, HA, HK2, HO_502003, BK501, HB⟩ := hrel
      cases gk with
      | zero => exact absurd HA.out (by simp [impl_DaysOpen.l0])
      | succ k2 =>
       have H := HA.out
       clear HA
       simp only [impl_DaysOpen.l0] at H
       by_cases c21 : x5_2 < 100
       ·rw [if_pos c21] at H
        have c21b0 : decide (x5_2 < 100) = true := decide_eq_true c21
        clear c21
        replace H := Option.bind_eq_some_iff.mp H
        obtain ⟨⟨t507, t508, t509, t510, t513, t514⟩, A220, H⟩ := H
        replace H : ((impl_OpenNow.f k2 t507 t508 t509 t510 t513).bind fun bt515 => ((impl_IsConnected.f k2 bt515.1 bt515.2.1 bt515.2.2).bind fun t518 => (if t518 = true then (impl_DaysOpen.l0 k2 a1 (wrap64 (x5_2 + 1)) t507 t508 t509 t510 t513) else (some x5_2)))) = some r := H
        have A22 := Aside0.mk A220
        clear A220
        replace H := Option.bind_eq_some_iff.mp H
        obtain ⟨⟨t515, t516, t517⟩, A230, H⟩ := H
        replace H : ((impl_IsConnected.f k2 t515 t516 t517).bind fun t518 => (if t518 = true then (impl_DaysOpen.l0 k2 a1 (wrap64 (x5_2 + 1)) t507 t508 t509 t510 t513) else (some x5_2))) = some r := H
        have A23 := Aside0.mk A230
        clear A230
        replace H := Option.bind_eq_some_iff.mp H
        obtain ⟨t518, A240, H⟩ := H
        replace H : (if t518 = true then (impl_DaysOpen.l0 k2 a1 (wrap64 (x5_2 + 1)) t507 t508 t509 t510 t513) else (some x5_2)) = some r := H
        have A24 := Aside0.mk A240
        clear A240
        by_cases c25 : t518 = true
        ·subst c25
         have H1 : (impl_DaysOpen.l0 k2 a1 (wrap64 (x5_2 + 1)) t507 t508 t509 t510 t513) = some r := by rw [if_pos rfl] at H; exact H
         clear H
         have H := H1
         clear H1
         have H' := Aside0.mk H
         clear H
         obtain ⟨hcz26_0, hcz26_1, hcz26_2, hcz26_3, hcz26_4⟩ := cz5_ BK501.out
         obtain ⟨hfz26_0, hfz26_1, hfz26_2, hfz26_3, hfz26_4⟩ := fz5_ BK501.out
         obtain ⟨Ao27, co27, eo27⟩ := Kd.V_slice HO_502003.out
         subst eo27
         go_wp2_with ((with_reducible refine gw_ ?_); first | (refine gl_ 26 Try.func7 #[.agg #[.int .i64 x502000_2, .int .i64 x502001_2, .int .i64 x502002_2, .slice Ao27 x502003_2.length co27, .int .i64 x502004_2], .int .i64 a1] ?_; (with_reducible refine (impl_GrowHedge.calls k2 x502000_2 x502001_2 x502002_2 _ _ x502003_2 x502004_2 a1 t507 t508 t509 t510 t513 t514 _ ?side1 ?side2 A22.out).mono ?_); (case side1 => repeat (first | exact (Kd.V_reads' HO_502003.out).2.2 | (with_reducible refine Kd.C_alloc ?_ _) | (with_reducible refine Kd.C_drewN ?_ _) | (with_reducible refine Kd.C_drew ?_))); (case side2 => exact (Kd.V_reads' HO_502003.out).2.1); rintro e w28 ⟨v511, rfl, ho0, hb⟩; refine ⟨_, rfl, ?_⟩; replace HO_502003 := Aside0.mk (Kd.V_elder' (by (with_reducible repeat (first | apply Kd.V_alloc | apply Kd.V_drewN | apply Kd.V_drew)); exact HO_502003.out) (Kd.R_base ho0) hb); have HO512 := Aside0.mk (Kd.R_lower (Kd.R_newM (M := fun k_ => (w.heap.size ≤ k_)) ho0 (below_size (hb1_ HB.out GE501.out)) (fun k_ h_ => h_)) (below_size (hb1_ HB.out GE501.out))); replace BK501 := BK501.bb hb; replace HB := HB.s1 GE501 hb; (try clear hb); (try clear ho0); obtain ⟨hcz29_0, hcz29_1, hcz29_2, hcz29_3, hcz29_4⟩ := cz5_ BK501.out; obtain ⟨hfz29_0, hfz29_1, hfz29_2, hfz29_3, hfz29_4⟩ := fz5_ BK501.out; obtain ⟨Ao30, co30, eo30⟩ := Kd.R_slice HO512.out; subst eo30) | (refine gl_ 30 Try.func8 #[.agg #[.int .i64 t507, .int .i64 t508, .int .i64 t509, .slice Ao30 t510.length co30, .int .i64 t513]] ?_; (with_reducible refine (impl_OpenNow.calls k2 t507 t508 t509 _ _ t510 t513 t515 t516 t517 _ ?side1 ?side2 A23.out).mono ?_); (case side1 => refine (Kd.R_reads' (e := 3) (base := w.heap.size) (ok := fun k_ => ((w.heap.size ≤ k_) ∧ True)) (n := t510.length) (c := co30) ?_).2.2; exact (rq5_ HO512.out BK501.out)); (case side2 => exact (Kd.R_reads' HO512.out).2.1); rintro e w31 ⟨rfl, hb⟩; refine ⟨_, rfl, ?_⟩; replace HO_502003 := Aside0.mk (Kd.V_below (by (with_reducible repeat (first | apply Kd.V_alloc | apply Kd.V_drewN | apply Kd.V_drew)); exact (Kd.V_mono (Kd.V_far (p := ⟨gb501, 4, none⟩) (Kd.V_far (p := ⟨gb501, 3, none⟩) (Kd.V_far (p := ⟨gb501, 2, none⟩) (Kd.V_far (p := ⟨gb501, 1, none⟩) (Kd.V_far (p := ⟨gb501, 0, none⟩) (Kd.V_mono HO_502003.out (fun k_ hk => (⟨hk, hk.1.2⟩ : _ ∧ k_ ≠ gb501))) (fun _ hk => hk.2) (.int .i64 t507)) (fun _ hk => hk.2) (.int .i64 t508)) (fun _ hk => hk.2) (.int .i64 t509)) (fun _ hk => hk.2) (.slice Ao30 t510.length co30)) (fun _ hk => hk.2) (.int .i64 t513)) (fun _ h_ => h_.1))) hb); replace HO512 := Aside0.mk (Kd.R_below (rq5_ HO512.out BK501.out) hb); replace BK501 := Aside0.mk (blk_below (bq5_ BK501.out) hb); replace HB := HB.s1 GE501 hb; (try clear hb)) | (refine gl_ 31 Try.func26 #[.agg #[.int .i64 t515, .int .i64 t516, .int .i64 t517]] ?_; (with_reducible refine (impl_IsConnected.calls k2 t515 t516 t517 true _ A24.out).mono ?_); rintro e w32 ⟨rfl, hb⟩; refine ⟨_, rfl, ?_⟩; replace HO_502003 := Aside0.mk (Kd.V_below (by (with_reducible repeat (first | apply Kd.V_alloc | apply Kd.V_drewN | apply Kd.V_drew)); exact HO_502003.out) hb); replace HO512 := HO512.kb hb; replace BK501 := BK501.bb hb; replace HB := HB.s1 GE501 hb; (try clear hb)))
         go_roundg k2
         case measure => have := HJ2.out; have := HK2.out; omega
         case rel => exact ⟨(wrap64 (x5_2 + 1)), (t507), (t508), (t509), (t510), (t513), (.slice Ao30 t510.length co30), (by first | rfl | (simp; done) | (simp [*]; done)), H', ⟨by have := HJ2.out; have := HK2.out; omega⟩, ⟨Kd.V_mono (Kd.R_V (by (with_reducible repeat (first | apply Kd.R_alloc | apply Kd.R_drewN | apply Kd.R_drew)); exact Kd.R_mono (ok' := fun k => w.heap.size ≤ k ∧ k ≠ gb501) (Kd.R_types HO512.out BK501.out (by decide)) (fun _ hk => ⟨hk.1.1, hk.2⟩))) (fun k_ hk => by first | exact ⟨(.inr (hk.1)), hk.2⟩ | exact (.inr (hk)))⟩, ⟨bk_ BK501.out⟩, ⟨hb1_ HB.out GE501.out⟩⟩
        ·replace c25 := Bool.eq_false_iff.mpr c25
         subst c25
         have H1 : (some x5_2) = some r := by rw [if_neg (show ¬ (false = true) by decide)] at H; exact H
         clear H
         have H := H1
         clear H1
         obtain rfl := Option.some.inj H
         obtain ⟨hcz33_0, hcz33_1, hcz33_2, hcz33_3, hcz33_4⟩ := cz5_ BK501.out
         obtain ⟨hfz33_0, hfz33_1, hfz33_2, hfz33_3, hfz33_4⟩ := fz5_ BK501.out
         obtain ⟨Ao34, co34, eo34⟩ := Kd.V_slice HO_502003.out
         subst eo34
         go_wp2_with ((with_reducible refine gw_ ?_); first | (refine gl_ 26 Try.func7 #[.agg #[.int .i64 x502000_2, .int .i64 x502001_2, .int .i64 x502002_2, .slice Ao34 x502003_2.length co34, .int .i64 x502004_2], .int .i64 a1] ?_; (with_reducible refine (impl_GrowHedge.calls k2 x502000_2 x502001_2 x502002_2 _ _ x502003_2 x502004_2 a1 t507 t508 t509 t510 t513 t514 _ ?side1 ?side2 A22.out).mono ?_); (case side1 => repeat (first | exact (Kd.V_reads' HO_502003.out).2.2 | (with_reducible refine Kd.C_alloc ?_ _) | (with_reducible refine Kd.C_drewN ?_ _) | (with_reducible refine Kd.C_drew ?_))); (case side2 => exact (Kd.V_reads' HO_502003.out).2.1); rintro e w35 ⟨v511, rfl, ho0, hb⟩; refine ⟨_, rfl, ?_⟩; replace HO_502003 := Aside0.mk (Kd.V_elder' (by (with_reducible repeat (first | apply Kd.V_alloc | apply Kd.V_drewN | apply Kd.V_drew)); exact HO_502003.out) (Kd.R_base ho0) hb); have HO512 := Aside0.mk (Kd.R_lower (Kd.R_newM (M := fun k_ => (w.heap.size ≤ k_)) ho0 (below_size (hb1_ HB.out GE501.out)) (fun k_ h_ => h_)) (below_size (hb1_ HB.out GE501.out))); replace BK501 := BK501.bb hb; replace HB := HB.s1 GE501 hb; (try clear hb); (try clear ho0); obtain ⟨hcz36_0, hcz36_1, hcz36_2, hcz36_3, hcz36_4⟩ := cz5_ BK501.out; obtain ⟨hfz36_0, hfz36_1, hfz36_2, hfz36_3, hfz36_4⟩ := fz5_ BK501.out; obtain ⟨Ao37, co37, eo37⟩ := Kd.R_slice HO512.out; subst eo37) | (refine gl_ 30 Try.func8 #[.agg #[.int .i64 t507, .int .i64 t508, .int .i64 t509, .slice Ao37 t510.length co37, .int .i64 t513]] ?_; (with_reducible refine (impl_OpenNow.calls k2 t507 t508 t509 _ _ t510 t513 t515 t516 t517 _ ?side1 ?side2 A23.out).mono ?_); (case side1 => refine (Kd.R_reads' (e := 3) (base := w.heap.size) (ok := fun k_ => ((w.heap.size ≤ k_) ∧ True)) (n := t510.length) (c := co37) ?_).2.2; exact (rq5_ HO512.out BK501.out)); (case side2 => exact (Kd.R_reads' HO512.out).2.1); rintro e w38 ⟨rfl, hb⟩; refine ⟨_, rfl, ?_⟩; replace HO_502003 := Aside0.mk (Kd.V_below (by (with_reducible repeat (first | apply Kd.V_alloc | apply Kd.V_drewN | apply Kd.V_drew)); exact (Kd.V_mono (Kd.V_far (p := ⟨gb501, 4, none⟩) (Kd.V_far (p := ⟨gb501, 3, none⟩) (Kd.V_far (p := ⟨gb501, 2, none⟩) (Kd.V_far (p := ⟨gb501, 1, none⟩) (Kd.V_far (p := ⟨gb501, 0, none⟩) (Kd.V_mono HO_502003.out (fun k_ hk => (⟨hk, hk.1.2⟩ : _ ∧ k_ ≠ gb501))) (fun _ hk => hk.2) (.int .i64 t507)) (fun _ hk => hk.2) (.int .i64 t508)) (fun _ hk => hk.2) (.int .i64 t509)) (fun _ hk => hk.2) (.slice Ao37 t510.length co37)) (fun _ hk => hk.2) (.int .i64 t513)) (fun _ h_ => h_.1))) hb); replace HO512 := Aside0.mk (Kd.R_below (rq5_ HO512.out BK501.out) hb); replace BK501 := Aside0.mk (blk_below (bq5_ BK501.out) hb); replace HB := HB.s1 GE501 hb; (try clear hb)) | (refine gl_ 31 Try.func26 #[.agg #[.int .i64 t515, .int .i64 t516, .int .i64 t517]] ?_; (with_reducible refine (impl_IsConnected.calls k2 t515 t516 t517 false _ A24.out).mono ?_); rintro e w39 ⟨rfl, hb⟩; refine ⟨_, rfl, ?_⟩; replace HO_502003 := Aside0.mk (Kd.V_below (by (with_reducible repeat (first | apply Kd.V_alloc | apply Kd.V_drewN | apply Kd.V_drew)); exact HO_502003.out) hb); replace HO512 := HO512.kb hb; replace BK501 := BK501.bb hb; replace HB := HB.s1 GE501 hb; (try clear hb)))
         go_ret
         exact ⟨ex_, hb1_ HB.out GE501.out⟩
       ·rw [if_neg c21] at H
        have c21b0 : decide (x5_2 < 100) = false := decide_eq_false c21
        clear c21
        obtain rfl := Option.some.inj H
        go_wp2
        go_ret
        exact ⟨ex_, hb1_ HB.out GE501.out⟩
    ·replace c17 := Bool.eq_false_iff.mpr c17
     subst c17
     have H1 : (some 0) = some r := by rw [if_neg (show ¬ (false = true) by decide)] at H; exact H
     clear H
     have H := H1
     clear H1
     obtain rfl := Option.some.inj H
     obtain ⟨hcz40_0, hcz40_1, hcz40_2, hcz40_3, hcz40_4⟩ := cz5_ BK501.out
     obtain ⟨hfz40_0, hfz40_1, hfz40_2, hfz40_3, hfz40_4⟩ := fz5_ BK501.out
     go_wp2_with ((with_reducible refine gw_ ?_); first | (refine gl_ 18 Try.func8 #[.agg #[.int .i64 a0_0, .int .i64 a0_1, .int .i64 a0_2, .slice A0_3 l0_3.length c0_3, .int .i64 a0_4]] ?_; (with_reducible refine (impl_OpenNow.calls kj2 a0_0 a0_1 a0_2 _ _ l0_3 a0_4 t503 t504 t505 _ ?side1 ?side2 A15.out).mono ?_); (case side1 => repeat (first | exact (Kd.V_reads' HO_502003.out).2.2 | (with_reducible refine Kd.C_alloc ?_ _) | (with_reducible refine Kd.C_drewN ?_ _) | (with_reducible refine Kd.C_drew ?_))); (case side2 => exact (Kd.V_reads' HO_502003.out).2.1); rintro e w41 ⟨rfl, hb⟩; refine ⟨_, rfl, ?_⟩; replace HO_502003 := Aside0.mk (Kd.V_below (by (with_reducible repeat (first | apply Kd.V_alloc | apply Kd.V_drewN | apply Kd.V_drew)); exact HO_502003.out) hb); replace BK501 := BK501.bb hb; replace HB := HB.s1 GE501 hb; (try clear hb)) | (refine gl_ 19 Try.func26 #[.agg #[.int .i64 t503, .int .i64 t504, .int .i64 t505]] ?_; (with_reducible refine (impl_IsConnected.calls kj2 t503 t504 t505 false _ A16.out).mono ?_); rintro e w42 ⟨rfl, hb⟩; refine ⟨_, rfl, ?_⟩; replace HO_502003 := Aside0.mk (Kd.V_below (by (with_reducible repeat (first | apply Kd.V_alloc | apply Kd.V_drewN | apply Kd.V_drew)); exact HO_502003.out) hb); replace BK501 := BK501.bb hb; replace HB := HB.s1 GE501 hb; (try clear hb)))
     go_ret
     exact ⟨ex_, hb1_ HB.out GE501.out⟩

end Go.Proofs.Ytgfhpjnofmbcoaa.X
