-- Written by a program of this session (xprint.py), out of the translation and of hand-written contracts. Lean checks it.
import Derived.Test.YtekgbinadmjapaaX0
import Derived.Test.YtekgbinadmjapaaXimplHedgeOk
import Derived.Test.YtekgbinadmjapaaXimplisOpen
namespace Go.Proofs.Ytekgbinadmjapaa.X
open Go.RowKit Go.Proofs.YtekgbinadmjapaaW.PrintWords Go.Proofs.YtekgbinadmjapaaW.PrintLast Go.Proofs.YtekgbinadmjapaaW.PrintMore
attribute [local go_sem] max2_int min2_int max_two min_two max_three min_three max_four min_four   -- for this text's walks alone
set_option linter.unusedVariables false
set_option linter.unusedSimpArgs false

/-! ### impl_NextToCut: function 18 -/
def impl_NextToCut.l0 : Nat → Int → List Int → Int → Int → Int → Int → Int → List Int → Int → Option (Int)
 | 0, _, _, _, _, _, _, _, _, _ => none
 | k + 1, x3, x10, x11, x12, x502000, x502001, x502002, x502003, x502004 => if x12 < x11 then (if 0 ≤ x12 then (if x12 < (x10.length : Int) then ((impl_isOpen.f x502000 x502001 x502002 x12).bind fun t504 => (if t504 = true then (if x3 < 0 then (impl_NextToCut.l0 k x12 x10 x11 (wrap64 (x12 + 1)) x502000 x502001 x502002 x502003 x502004) else (if 0 ≤ x3 then (if x3 < (x502003.length : Int) then (if (rd x10 x12) > (rd x502003 x3) then (impl_NextToCut.l0 k x12 x10 x11 (wrap64 (x12 + 1)) x502000 x502001 x502002 x502003 x502004) else (impl_NextToCut.l0 k x3 x10 x11 (wrap64 (x12 + 1)) x502000 x502001 x502002 x502003 x502004)) else (none)) else (none))) else (impl_NextToCut.l0 k x3 x10 x11 (wrap64 (x12 + 1)) x502000 x502001 x502002 x502003 x502004))) else (none)) else (none)) else (some x3)
def impl_NextToCut.f (k : Nat) (a0_0 : Int) (a0_1 : Int) (a0_2 : Int) (l0_3 : List Int) (a0_4 : Int) : Option (Int) := (impl_HedgeOk.f a0_0 a0_1 a0_2 l0_3 a0_4).bind fun t502 => (if t502 = true then (impl_NextToCut.l0 k (-1) l0_3 (l0_3.length : Int) 0 a0_0 a0_1 a0_2 l0_3 a0_4) else (some (-1)))
theorem impl_NextToCut.mono_l : ∀ k, (∀ y0 y1 y2 y3 y4 y5 y6 y7 y8, LeO (impl_NextToCut.l0 k y0 y1 y2 y3 y4 y5 y6 y7 y8) (impl_NextToCut.l0 (k + 1) y0 y1 y2 y3 y4 y5 y6 y7 y8))
 | 0 => fun _ _ _ _ _ _ _ _ _ r h => by simp [impl_NextToCut.l0] at h
 | k + 1 => by
  have ih0 := impl_NextToCut.mono_l k
  ·intro y0 y1 y2 y3 y4 y5 y6 y7 y8
   unfold impl_NextToCut.l0
   repeat' first
   | (with_reducible exact ih0 _ _ _ _ _ _ _ _ _)
   | (with_reducible exact LeO.refl _)
   | (with_reducible exact LeO.none _)
   | (with_reducible refine LeO.ite ?_ ?_)
   | (with_reducible refine LeO.bind ?_ (fun _ => ?_))
   | exact ih0 _ _ _ _ _ _ _ _ _
   | exact LeO.none _
   | refine LeO.ite ?_ ?_
   | refine LeO.bind ?_ (fun _ => ?_)
theorem impl_NextToCut.mono : ∀ a0 a1 a2 a3 a4 k, LeO (impl_NextToCut.f k a0 a1 a2 a3 a4) (impl_NextToCut.f (k + 1) a0 a1 a2 a3 a4) := by
 intro a0 a1 a2 a3 a4 k
 have ih0 := impl_NextToCut.mono_l k
 unfold impl_NextToCut.f
 repeat' first
   | (with_reducible exact ih0 _ _ _ _ _ _ _ _ _)
   | (with_reducible exact LeO.refl _)
   | (with_reducible exact LeO.none _)
   | (with_reducible refine LeO.ite ?_ ?_)
   | (with_reducible refine LeO.bind ?_ (fun _ => ?_))
   | exact ih0 _ _ _ _ _ _ _ _ _
   | exact LeO.none _
   | refine LeO.ite ?_ ?_
   | refine LeO.bind ?_ (fun _ => ?_)
set_option maxHeartbeats 8000000 in
set_option maxRecDepth 100000 in
theorem impl_NextToCut.calls (k : Nat) (a0_0 : Int) (a0_1 : Int) (a0_2 : Int) (A0_3 : Option Addr) (c0_3 : Nat) (l0_3 : List Int) (a0_4 : Int) (r : Int) (w : World) (hr0_3 : Kd.C (Kd.int .i64) w A0_3 l0_3.length l0_3) (hc0_3 : l0_3.length ≤ c0_3) (h : impl_NextToCut.f k a0_0 a0_1 a0_2 l0_3 a0_4 = some r) :
  Calls Try.prog 18 #[.agg #[.int .i64 a0_0, .int .i64 a0_1, .int .i64 a0_2, .slice A0_3 l0_3.length c0_3, .int .i64 a0_4]] w fun e w' => e = .returned (.int .i64 r) ∧ Below w.heap.size w w' := by
 have hu35 := Try.underlying35
 have hu33 := Try.underlying33
 have HR0_3 := Aside0.mk hr0_3
 have HC0_3 := Aside0.mk hc0_3
 clear hr0_3 hc0_3
 have HB := Aside0.mk (Below.refl w.heap.size w)
 have H : ((impl_HedgeOk.f a0_0 a0_1 a0_2 l0_3 a0_4).bind fun t502 => (if t502 = true then (impl_NextToCut.l0 k (-1) l0_3 (l0_3.length : Int) 0 a0_0 a0_1 a0_2 l0_3 a0_4) else (some (-1)))) = some r := h
 clear h
 replace H := Option.bind_eq_some_iff.mp H
 obtain ⟨t502, A20, H⟩ := H
 replace H : (if t502 = true then (impl_NextToCut.l0 k (-1) l0_3 (l0_3.length : Int) 0 a0_0 a0_1 a0_2 l0_3 a0_4) else (some (-1))) = some r := H
 have A2 := Aside0.mk A20
 clear A20
 by_cases c3 : t502 = true
 ·subst c3
  have H1 : (impl_NextToCut.l0 k (-1) l0_3 (l0_3.length : Int) 0 a0_0 a0_1 a0_2 l0_3 a0_4) = some r := by rw [if_pos rfl] at H; exact H
  clear H
  have H := H1
  clear H1
  have H' := Aside0.mk H
  clear H
  go_enter Try.func18, Try.ntmps18
  go_wp2_with (first | ((with_reducible refine gate_dst (N := 1) rfl ?_); refine box_event ?hg (N := 1) ?hd (cs := #[.int .i64 a0_0, .int .i64 a0_1, .int .i64 a0_2, .slice A0_3 l0_3.length c0_3, .int .i64 a0_4]) (t := 35) ?hr ?_; (case hd => rfl); (case hg => rfl); (case hr => first | (go_simp; done) | (go_simp; rfl)); intro gb501 hg w4 hbox hb; have n0_ := Aside0.mk (below_step (by repeat (first | (with_reducible first | exact HB.out | apply below_alloc | apply pw_below_drewN | apply below_drew1) | exact HB.out)) hb); have n1_ := Aside0.mk (hbox); have n2_ := Aside0.mk ((by rw [hg]; exact (below_size (by repeat (first | (with_reducible first | exact HB.out | apply below_alloc | apply pw_below_drewN | apply below_drew1) | exact HB.out))) : w.heap.size ≤ gb501)); have n3_ := Aside0.mk ((by rw [hg]; exact (below_size (by repeat (first | (with_reducible first | exact HB.out | apply below_alloc | apply pw_below_drewN | apply below_drew1) | exact HB.out))) : w.heap.size ≤ gb501)); clear HB; have HB := n0_; have BK501 := n1_; have GW501 := n2_; have GE501 := n3_; clear n0_ n1_ n2_ n3_; clear hb hbox hg; have hcz5_0 : w4.cell? ⟨gb501, 0, none⟩ = some (.int .i64 a0_0) := (blk_cell BK501.out 0).trans rfl; have hcz5_1 : w4.cell? ⟨gb501, 1, none⟩ = some (.int .i64 a0_1) := (blk_cell BK501.out 1).trans rfl; have hcz5_2 : w4.cell? ⟨gb501, 2, none⟩ = some (.int .i64 a0_2) := (blk_cell BK501.out 2).trans rfl; have hcz5_3 : w4.cell? ⟨gb501, 3, none⟩ = some (.slice A0_3 l0_3.length c0_3) := (blk_cell BK501.out 3).trans rfl; have hcz5_4 : w4.cell? ⟨gb501, 4, none⟩ = some (.int .i64 a0_4) := (blk_cell BK501.out 4).trans rfl; have hfz5_0 := blk_frozen BK501.out 0; have hfz5_1 := blk_frozen BK501.out 1; have hfz5_2 := blk_frozen BK501.out 2; have hfz5_3 := blk_frozen BK501.out 3; have hfz5_4 := blk_frozen BK501.out 4) | ((with_reducible refine gate_callee (f := 62) rfl ?_); refine goesL_ (some 7) rfl rfl Try.func62 (by kernel_rfl) rfl #[.agg #[.int .i64 a0_0, .int .i64 a0_1, .int .i64 a0_2, .slice A0_3 l0_3.length c0_3, .int .i64 a0_4]] rfl (by (try simp only [List.map_toArray, List.map_cons, List.map_nil]); first | done | rfl | (simp only [List.length_drop, List.length_take]; rfl)) ?_; (with_reducible refine (impl_HedgeOk.calls a0_0 a0_1 a0_2 _ _ l0_3 a0_4 true _ ?side1 ?side2 A2.out).mono ?_); (case side1 => repeat (first | exact (Kd.C_below HR0_3.out HB.out) | (with_reducible refine Kd.C_alloc ?_ _) | (with_reducible refine Kd.C_drewN ?_ _) | (with_reducible refine Kd.C_drew ?_))); (case side2 => exact HC0_3.out); rintro e w6 ⟨rfl, hb⟩; refine ⟨_, rfl, ?_⟩; have n0_ := Aside0.mk (blk_below (g := gb501) (o := .cells #[.int .i64 a0_0, .int .i64 a0_1, .int .i64 a0_2, .slice A0_3 l0_3.length c0_3, .int .i64 a0_4] 35 (0, 0)) (by (with_reducible repeat (first | refine blk_drewN ?_ _ | refine blk_drew ?_ | refine blk_alloc ?_ _)); exact BK501.out) hb); have n1_ := Aside0.mk (below_step (by repeat (first | (with_reducible first | exact HB.out | apply below_alloc | apply pw_below_drewN | apply below_drew1 | refine below_set ?_ GE501.out) | exact HB.out)) hb); clear BK501; clear HB; have BK501 := n0_; have HB := n1_; clear n0_ n1_; (try clear hb); (try clear hb2); (try clear hk); (try clear hi); have hcz7_0 : w6.cell? ⟨gb501, 0, none⟩ = some (.int .i64 a0_0) := (blk_cell BK501.out 0).trans rfl; have hcz7_1 : w6.cell? ⟨gb501, 1, none⟩ = some (.int .i64 a0_1) := (blk_cell BK501.out 1).trans rfl; have hcz7_2 : w6.cell? ⟨gb501, 2, none⟩ = some (.int .i64 a0_2) := (blk_cell BK501.out 2).trans rfl; have hcz7_3 : w6.cell? ⟨gb501, 3, none⟩ = some (.slice A0_3 l0_3.length c0_3) := (blk_cell BK501.out 3).trans rfl; have hcz7_4 : w6.cell? ⟨gb501, 4, none⟩ = some (.int .i64 a0_4) := (blk_cell BK501.out 4).trans rfl; have hfz7_0 := blk_frozen BK501.out 0; have hfz7_1 := blk_frozen BK501.out 1; have hfz7_2 := blk_frozen BK501.out 2; have hfz7_3 := blk_frozen BK501.out 3; have hfz7_4 := blk_frozen BK501.out 4))
  go_loopg [3, 12] k (fun kq v3 v12 w' => ∃ (x3_1 : Int) (x12_1 : Int), v3 = .int .i64 x3_1 ∧ v12 = .int .i64 x12_1 ∧ Aside0 (impl_NextToCut.l0 kq x3_1 l0_3 (l0_3.length : Int) x12_1 a0_0 a0_1 a0_2 l0_3 a0_4 = some r) ∧ Aside0 (kq ≤ k) ∧ Aside0 (w'.heap[gb501]? = some (.cells #[.int .i64 a0_0, .int .i64 a0_1, .int .i64 a0_2, (.slice A0_3 l0_3.length c0_3), .int .i64 a0_4] 35 (0, 0))) ∧ Aside0 (Below w.heap.size w w'))
  case atStart => exact ⟨((-1)), (0), (by first | rfl | (simp; done) | (simp [*]; done)), (by first | rfl | (simp; done) | (simp [*]; done)), H', ⟨Nat.le_refl _⟩, ⟨by (with_reducible repeat (first | refine blk_drewN ?_ _ | refine blk_drew ?_ | refine blk_alloc ?_ _)); exact BK501.out⟩, ⟨by repeat (first | (with_reducible first | exact HB.out | apply below_alloc | apply pw_below_drewN | apply below_drew1 | refine below_set ?_ GE501.out) | exact HB.out)⟩⟩
  case round =>
   clear H'
   try clear c1
   try clear p2
   try clear c3
   try clear c6
   try clear hcz5_0
   try clear hcz5_1
   try clear hcz5_2
   try clear hcz5_3
   try clear hcz5_4
   try clear hcz7_0
   try clear hcz7_1
   try clear hcz7_2
   try clear hcz7_3
   try clear hcz7_4
   try clear hfz5_0
   try clear hfz5_1
   try clear hfz5_2
   try clear hfz5_3
   try clear hfz5_4
   try clear hfz7_0
   try clear hfz7_1
   try clear hfz7_2
   try clear hfz7_3
   try clear hfz7_4
   obtain ⟨x3_1, x12_1, rfl, rfl, HA, HK1, BK501, HB⟩ := hrel
   cases gk with
   | zero => exact absurd HA.out (by simp [impl_NextToCut.l0])
   | succ k1 =>
    have H := HA.out
    clear HA
    simp only [impl_NextToCut.l0] at H
    by_cases c8 : x12_1 < (l0_3.length : Int)
    ·rw [if_pos c8] at H
     have c8b0 : decide (x12_1 < (l0_3.length : Int)) = true := decide_eq_true c8
     clear c8
     by_cases c9 : 0 ≤ x12_1
     ·rw [if_pos c9] at H
      have c9b0 : decide (0 ≤ x12_1) = true := decide_eq_true c9
      clear c9
      by_cases c10 : x12_1 < (l0_3.length : Int)
      ·rw [if_pos c10] at H
       have c10b0 : decide (x12_1 < (l0_3.length : Int)) = true := decide_eq_true c10
       clear c10
       replace H := Option.bind_eq_some_iff.mp H
       obtain ⟨t504, A110, H⟩ := H
       replace H : (if t504 = true then (if x3_1 < 0 then (impl_NextToCut.l0 k1 x12_1 l0_3 (l0_3.length : Int) (wrap64 (x12_1 + 1)) a0_0 a0_1 a0_2 l0_3 a0_4) else (if 0 ≤ x3_1 then (if x3_1 < (l0_3.length : Int) then (if (rd l0_3 x12_1) > (rd l0_3 x3_1) then (impl_NextToCut.l0 k1 x12_1 l0_3 (l0_3.length : Int) (wrap64 (x12_1 + 1)) a0_0 a0_1 a0_2 l0_3 a0_4) else (impl_NextToCut.l0 k1 x3_1 l0_3 (l0_3.length : Int) (wrap64 (x12_1 + 1)) a0_0 a0_1 a0_2 l0_3 a0_4)) else (none)) else (none))) else (impl_NextToCut.l0 k1 x3_1 l0_3 (l0_3.length : Int) (wrap64 (x12_1 + 1)) a0_0 a0_1 a0_2 l0_3 a0_4)) = some r := H
       have A11 := Aside0.mk A110
       clear A110
       by_cases c12 : t504 = true
       ·subst c12
        have H1 : (if x3_1 < 0 then (impl_NextToCut.l0 k1 x12_1 l0_3 (l0_3.length : Int) (wrap64 (x12_1 + 1)) a0_0 a0_1 a0_2 l0_3 a0_4) else (if 0 ≤ x3_1 then (if x3_1 < (l0_3.length : Int) then (if (rd l0_3 x12_1) > (rd l0_3 x3_1) then (impl_NextToCut.l0 k1 x12_1 l0_3 (l0_3.length : Int) (wrap64 (x12_1 + 1)) a0_0 a0_1 a0_2 l0_3 a0_4) else (impl_NextToCut.l0 k1 x3_1 l0_3 (l0_3.length : Int) (wrap64 (x12_1 + 1)) a0_0 a0_1 a0_2 l0_3 a0_4)) else (none)) else (none))) = some r := by rw [if_pos rfl] at H; exact H
        clear H
        have H := H1
        clear H1
        by_cases c13 : x3_1 < 0
        ·rw [if_pos c13] at H
         have c13b0 : decide (x3_1 < 0) = true := decide_eq_true c13
         clear c13
         have H' := Aside0.mk H
         clear H
         have p503 : 0 ≤ (x12_1 : Int) := of_decide_eq_true (by first | (with_reducible assumption) | assumption)
         have q503 : x12_1 < (l0_3.length : Int) := of_decide_eq_true (by first | (with_reducible assumption) | assumption)
         obtain ⟨ad503, e503, hx503_0⟩ := Kd.at_int HR0_3.out x12_1 p503 q503
         cases e503
         replace hx503_0 := (HB.out.cell (World.block_lt_of_cell? w _ hx503_0)).trans hx503_0
         replace p503 := eq_true p503
         replace q503 := eq_true q503
         have hcz14_0 : wr.cell? ⟨gb501, 0, none⟩ = some (.int .i64 a0_0) := (blk_cell BK501.out 0).trans rfl
         have hcz14_1 : wr.cell? ⟨gb501, 1, none⟩ = some (.int .i64 a0_1) := (blk_cell BK501.out 1).trans rfl
         have hcz14_2 : wr.cell? ⟨gb501, 2, none⟩ = some (.int .i64 a0_2) := (blk_cell BK501.out 2).trans rfl
         have hcz14_3 : wr.cell? ⟨gb501, 3, none⟩ = some (.slice (some ad503) l0_3.length c0_3) := (blk_cell BK501.out 3).trans rfl
         have hcz14_4 : wr.cell? ⟨gb501, 4, none⟩ = some (.int .i64 a0_4) := (blk_cell BK501.out 4).trans rfl
         have hfz14_0 := blk_frozen BK501.out 0
         have hfz14_1 := blk_frozen BK501.out 1
         have hfz14_2 := blk_frozen BK501.out 2
         have hfz14_3 := blk_frozen BK501.out 3
         have hfz14_4 := blk_frozen BK501.out 4
         go_wp2_with (first | ((with_reducible refine gate_callee (f := 63) rfl ?_); refine goesL_ (some 20) rfl rfl Try.func63 (by kernel_rfl) rfl #[.agg #[.int .i64 a0_0, .int .i64 a0_1, .int .i64 a0_2], .int .i64 x12_1] rfl (by (try simp only [List.map_toArray, List.map_cons, List.map_nil]); first | done | rfl | (simp only [List.length_drop, List.length_take]; rfl)) ?_; (with_reducible refine (impl_isOpen.calls a0_0 a0_1 a0_2 x12_1 true _ A11.out).mono ?_); rintro e w15 ⟨rfl, hb⟩; refine ⟨_, rfl, ?_⟩; have n0_ := Aside0.mk (blk_below (g := gb501) (o := .cells #[.int .i64 a0_0, .int .i64 a0_1, .int .i64 a0_2, .slice (some ad503) l0_3.length c0_3, .int .i64 a0_4] 35 (0, 0)) (by (with_reducible repeat (first | refine blk_drewN ?_ _ | refine blk_drew ?_ | refine blk_alloc ?_ _)); exact BK501.out) hb); have n1_ := Aside0.mk (below_step (by repeat (first | (with_reducible first | exact HB.out | apply below_alloc | apply pw_below_drewN | apply below_drew1 | refine below_set ?_ GE501.out) | exact HB.out)) hb); clear BK501; clear HB; have BK501 := n0_; have HB := n1_; clear n0_ n1_; (try clear hb); (try clear hb2); (try clear hk); (try clear hi)))
         go_roundg k1
         case measure => have := HK1.out; omega
         case rel => exact ⟨(x12_1), (wrap64 (x12_1 + 1)), (by first | rfl | (simp; done) | (simp [*]; done)), (by first | rfl | (simp; done) | (simp [*]; done)), H', ⟨by have := HK1.out; omega⟩, ⟨by (with_reducible repeat (first | refine blk_drewN ?_ _ | refine blk_drew ?_ | refine blk_alloc ?_ _)); exact BK501.out⟩, ⟨by repeat (first | (with_reducible first | exact HB.out | apply below_alloc | apply pw_below_drewN | apply below_drew1 | refine below_set ?_ GE501.out) | exact HB.out)⟩⟩
        ·rw [if_neg c13] at H
         have c13b0 : decide (x3_1 < 0) = false := decide_eq_false c13
         clear c13
         by_cases c16 : 0 ≤ x3_1
         ·rw [if_pos c16] at H
          have c16b0 : decide (0 ≤ x3_1) = true := decide_eq_true c16
          clear c16
          by_cases c17 : x3_1 < (l0_3.length : Int)
          ·rw [if_pos c17] at H
           have c17b0 : decide (x3_1 < (l0_3.length : Int)) = true := decide_eq_true c17
           clear c17
           by_cases c18 : (rd l0_3 x12_1) > (rd l0_3 x3_1)
           ·rw [if_pos c18] at H
            have c18b0 : decide ((rd l0_3 x3_1) < (rd l0_3 x12_1)) = true := decide_eq_true c18
            clear c18
            have H' := Aside0.mk H
            clear H
            have p503 : 0 ≤ (x12_1 : Int) := of_decide_eq_true (by first | (with_reducible assumption) | assumption)
            have q503 : x12_1 < (l0_3.length : Int) := of_decide_eq_true (by first | (with_reducible assumption) | assumption)
            obtain ⟨ad503, e503, hx503_0⟩ := Kd.at_int HR0_3.out x12_1 p503 q503
            cases e503
            replace hx503_0 := (HB.out.cell (World.block_lt_of_cell? w _ hx503_0)).trans hx503_0
            replace p503 := eq_true p503
            replace q503 := eq_true q503
            have hcz19_0 : wr.cell? ⟨gb501, 0, none⟩ = some (.int .i64 a0_0) := (blk_cell BK501.out 0).trans rfl
            have hcz19_1 : wr.cell? ⟨gb501, 1, none⟩ = some (.int .i64 a0_1) := (blk_cell BK501.out 1).trans rfl
            have hcz19_2 : wr.cell? ⟨gb501, 2, none⟩ = some (.int .i64 a0_2) := (blk_cell BK501.out 2).trans rfl
            have hcz19_3 : wr.cell? ⟨gb501, 3, none⟩ = some (.slice (some ad503) l0_3.length c0_3) := (blk_cell BK501.out 3).trans rfl
            have hcz19_4 : wr.cell? ⟨gb501, 4, none⟩ = some (.int .i64 a0_4) := (blk_cell BK501.out 4).trans rfl
            have hfz19_0 := blk_frozen BK501.out 0
            have hfz19_1 := blk_frozen BK501.out 1
            have hfz19_2 := blk_frozen BK501.out 2
            have hfz19_3 := blk_frozen BK501.out 3
            have hfz19_4 := blk_frozen BK501.out 4
            go_wp2_with (first | ((with_reducible refine gate_callee (f := 63) rfl ?_); refine goesL_ (some 20) rfl rfl Try.func63 (by kernel_rfl) rfl #[.agg #[.int .i64 a0_0, .int .i64 a0_1, .int .i64 a0_2], .int .i64 x12_1] rfl (by (try simp only [List.map_toArray, List.map_cons, List.map_nil]); first | done | rfl | (simp only [List.length_drop, List.length_take]; rfl)) ?_; (with_reducible refine (impl_isOpen.calls a0_0 a0_1 a0_2 x12_1 true _ A11.out).mono ?_); rintro e w20 ⟨rfl, hb⟩; refine ⟨_, rfl, ?_⟩; have n0_ := Aside0.mk (blk_below (g := gb501) (o := .cells #[.int .i64 a0_0, .int .i64 a0_1, .int .i64 a0_2, .slice (some ad503) l0_3.length c0_3, .int .i64 a0_4] 35 (0, 0)) (by (with_reducible repeat (first | refine blk_drewN ?_ _ | refine blk_drew ?_ | refine blk_alloc ?_ _)); exact BK501.out) hb); have n1_ := Aside0.mk (below_step (by repeat (first | (with_reducible first | exact HB.out | apply below_alloc | apply pw_below_drewN | apply below_drew1 | refine below_set ?_ GE501.out) | exact HB.out)) hb); clear BK501; clear HB; have BK501 := n0_; have HB := n1_; clear n0_ n1_; (try clear hb); (try clear hb2); (try clear hk); (try clear hi); have hcz21_0 : w20.cell? ⟨gb501, 0, none⟩ = some (.int .i64 a0_0) := (blk_cell BK501.out 0).trans rfl; have hcz21_1 : w20.cell? ⟨gb501, 1, none⟩ = some (.int .i64 a0_1) := (blk_cell BK501.out 1).trans rfl; have hcz21_2 : w20.cell? ⟨gb501, 2, none⟩ = some (.int .i64 a0_2) := (blk_cell BK501.out 2).trans rfl; have hcz21_3 : w20.cell? ⟨gb501, 3, none⟩ = some (.slice (some ad503) l0_3.length c0_3) := (blk_cell BK501.out 3).trans rfl; have hcz21_4 : w20.cell? ⟨gb501, 4, none⟩ = some (.int .i64 a0_4) := (blk_cell BK501.out 4).trans rfl; have hfz21_0 := blk_frozen BK501.out 0; have hfz21_1 := blk_frozen BK501.out 1; have hfz21_2 := blk_frozen BK501.out 2; have hfz21_3 := blk_frozen BK501.out 3; have hfz21_4 := blk_frozen BK501.out 4; have p505 : 0 ≤ (x3_1 : Int) := of_decide_eq_true (by first | (with_reducible assumption) | assumption); have q505 : x3_1 < (l0_3.length : Int) := of_decide_eq_true (by first | (with_reducible assumption) | assumption); obtain ⟨ad505, e505, hx505_0⟩ := Kd.at_int HR0_3.out x3_1 p505 q505; obtain rfl : ad503 = ad505 := (by injection e505); replace hx505_0 := (HB.out.cell (World.block_lt_of_cell? w _ hx505_0)).trans hx505_0; replace p505 := eq_true p505; replace q505 := eq_true q505))
            go_roundg k1
            case measure => have := HK1.out; omega
            case rel => exact ⟨(x12_1), (wrap64 (x12_1 + 1)), (by first | rfl | (simp; done) | (simp [*]; done)), (by first | rfl | (simp; done) | (simp [*]; done)), H', ⟨by have := HK1.out; omega⟩, ⟨by (with_reducible repeat (first | refine blk_drewN ?_ _ | refine blk_drew ?_ | refine blk_alloc ?_ _)); exact BK501.out⟩, ⟨by repeat (first | (with_reducible first | exact HB.out | apply below_alloc | apply pw_below_drewN | apply below_drew1 | refine below_set ?_ GE501.out) | exact HB.out)⟩⟩
           ·rw [if_neg c18] at H
            have c18b0 : decide ((rd l0_3 x3_1) < (rd l0_3 x12_1)) = false := decide_eq_false c18
            clear c18
            have H' := Aside0.mk H
            clear H
            have p503 : 0 ≤ (x12_1 : Int) := of_decide_eq_true (by first | (with_reducible assumption) | assumption)
            have q503 : x12_1 < (l0_3.length : Int) := of_decide_eq_true (by first | (with_reducible assumption) | assumption)
            obtain ⟨ad503, e503, hx503_0⟩ := Kd.at_int HR0_3.out x12_1 p503 q503
            cases e503
            replace hx503_0 := (HB.out.cell (World.block_lt_of_cell? w _ hx503_0)).trans hx503_0
            replace p503 := eq_true p503
            replace q503 := eq_true q503
            have hcz22_0 : wr.cell? ⟨gb501, 0, none⟩ = some (.int .i64 a0_0) := (blk_cell BK501.out 0).trans rfl
            have hcz22_1 : wr.cell? ⟨gb501, 1, none⟩ = some (.int .i64 a0_1) := (blk_cell BK501.out 1).trans rfl
            have hcz22_2 : wr.cell? ⟨gb501, 2, none⟩ = some (.int .i64 a0_2) := (blk_cell BK501.out 2).trans rfl
            have hcz22_3 : wr.cell? ⟨gb501, 3, none⟩ = some (.slice (some ad503) l0_3.length c0_3) := (blk_cell BK501.out 3).trans rfl
            have hcz22_4 : wr.cell? ⟨gb501, 4, none⟩ = some (.int .i64 a0_4) := (blk_cell BK501.out 4).trans rfl
            have hfz22_0 := blk_frozen BK501.out 0
            have hfz22_1 := blk_frozen BK501.out 1
            have hfz22_2 := blk_frozen BK501.out 2
            have hfz22_3 := blk_frozen BK501.out 3
            have hfz22_4 := blk_frozen BK501.out 4
            go_wp2_with (first | ((with_reducible refine gate_callee (f := 63) rfl ?_); refine goesL_ (some 20) rfl rfl Try.func63 (by kernel_rfl) rfl #[.agg #[.int .i64 a0_0, .int .i64 a0_1, .int .i64 a0_2], .int .i64 x12_1] rfl (by (try simp only [List.map_toArray, List.map_cons, List.map_nil]); first | done | rfl | (simp only [List.length_drop, List.length_take]; rfl)) ?_; (with_reducible refine (impl_isOpen.calls a0_0 a0_1 a0_2 x12_1 true _ A11.out).mono ?_); rintro e w23 ⟨rfl, hb⟩; refine ⟨_, rfl, ?_⟩; have n0_ := Aside0.mk (blk_below (g := gb501) (o := .cells #[.int .i64 a0_0, .int .i64 a0_1, .int .i64 a0_2, .slice (some ad503) l0_3.length c0_3, .int .i64 a0_4] 35 (0, 0)) (by (with_reducible repeat (first | refine blk_drewN ?_ _ | refine blk_drew ?_ | refine blk_alloc ?_ _)); exact BK501.out) hb); have n1_ := Aside0.mk (below_step (by repeat (first | (with_reducible first | exact HB.out | apply below_alloc | apply pw_below_drewN | apply below_drew1 | refine below_set ?_ GE501.out) | exact HB.out)) hb); clear BK501; clear HB; have BK501 := n0_; have HB := n1_; clear n0_ n1_; (try clear hb); (try clear hb2); (try clear hk); (try clear hi); have hcz24_0 : w23.cell? ⟨gb501, 0, none⟩ = some (.int .i64 a0_0) := (blk_cell BK501.out 0).trans rfl; have hcz24_1 : w23.cell? ⟨gb501, 1, none⟩ = some (.int .i64 a0_1) := (blk_cell BK501.out 1).trans rfl; have hcz24_2 : w23.cell? ⟨gb501, 2, none⟩ = some (.int .i64 a0_2) := (blk_cell BK501.out 2).trans rfl; have hcz24_3 : w23.cell? ⟨gb501, 3, none⟩ = some (.slice (some ad503) l0_3.length c0_3) := (blk_cell BK501.out 3).trans rfl; have hcz24_4 : w23.cell? ⟨gb501, 4, none⟩ = some (.int .i64 a0_4) := (blk_cell BK501.out 4).trans rfl; have hfz24_0 := blk_frozen BK501.out 0; have hfz24_1 := blk_frozen BK501.out 1; have hfz24_2 := blk_frozen BK501.out 2; have hfz24_3 := blk_frozen BK501.out 3; have hfz24_4 := blk_frozen BK501.out 4; have p505 : 0 ≤ (x3_1 : Int) := of_decide_eq_true (by first | (with_reducible assumption) | assumption); have q505 : x3_1 < (l0_3.length : Int) := of_decide_eq_true (by first | (with_reducible assumption) | assumption); obtain ⟨ad505, e505, hx505_0⟩ := Kd.at_int HR0_3.out x3_1 p505 q505; obtain rfl : ad503 = ad505 := (by injection e505); replace hx505_0 := (HB.out.cell (World.block_lt_of_cell? w _ hx505_0)).trans hx505_0; replace p505 := eq_true p505; replace q505 := eq_true q505))
            go_roundg k1
            case measure => have := HK1.out; omega
            case rel => exact ⟨(x3_1), (wrap64 (x12_1 + 1)), (by first | rfl | (simp; done) | (simp [*]; done)), (by first | rfl | (simp; done) | (simp [*]; done)), H', ⟨by have := HK1.out; omega⟩, ⟨by (with_reducible repeat (first | refine blk_drewN ?_ _ | refine blk_drew ?_ | refine blk_alloc ?_ _)); exact BK501.out⟩, ⟨by repeat (first | (with_reducible first | exact HB.out | apply below_alloc | apply pw_below_drewN | apply below_drew1 | refine below_set ?_ GE501.out) | exact HB.out)⟩⟩
          ·rw [if_neg c17] at H
           exact absurd H (by simp)
         ·rw [if_neg c16] at H
          exact absurd H (by simp)
       ·replace c12 := Bool.eq_false_iff.mpr c12
        subst c12
        have H1 : (impl_NextToCut.l0 k1 x3_1 l0_3 (l0_3.length : Int) (wrap64 (x12_1 + 1)) a0_0 a0_1 a0_2 l0_3 a0_4) = some r := by rw [if_neg (show ¬ (false = true) by decide)] at H; exact H
        clear H
        have H := H1
        clear H1
        have H' := Aside0.mk H
        clear H
        have p503 : 0 ≤ (x12_1 : Int) := of_decide_eq_true (by first | (with_reducible assumption) | assumption)
        have q503 : x12_1 < (l0_3.length : Int) := of_decide_eq_true (by first | (with_reducible assumption) | assumption)
        obtain ⟨ad503, e503, hx503_0⟩ := Kd.at_int HR0_3.out x12_1 p503 q503
        cases e503
        replace hx503_0 := (HB.out.cell (World.block_lt_of_cell? w _ hx503_0)).trans hx503_0
        replace p503 := eq_true p503
        replace q503 := eq_true q503
        have hcz25_0 : wr.cell? ⟨gb501, 0, none⟩ = some (.int .i64 a0_0) := (blk_cell BK501.out 0).trans rfl
        have hcz25_1 : wr.cell? ⟨gb501, 1, none⟩ = some (.int .i64 a0_1) := (blk_cell BK501.out 1).trans rfl
        have hcz25_2 : wr.cell? ⟨gb501, 2, none⟩ = some (.int .i64 a0_2) := (blk_cell BK501.out 2).trans rfl
        have hcz25_3 : wr.cell? ⟨gb501, 3, none⟩ = some (.slice (some ad503) l0_3.length c0_3) := (blk_cell BK501.out 3).trans rfl
        have hcz25_4 : wr.cell? ⟨gb501, 4, none⟩ = some (.int .i64 a0_4) := (blk_cell BK501.out 4).trans rfl
        have hfz25_0 := blk_frozen BK501.out 0
        have hfz25_1 := blk_frozen BK501.out 1
        have hfz25_2 := blk_frozen BK501.out 2
        have hfz25_3 := blk_frozen BK501.out 3
        have hfz25_4 := blk_frozen BK501.out 4
        go_wp2_with (first | ((with_reducible refine gate_callee (f := 63) rfl ?_); refine goesL_ (some 20) rfl rfl Try.func63 (by kernel_rfl) rfl #[.agg #[.int .i64 a0_0, .int .i64 a0_1, .int .i64 a0_2], .int .i64 x12_1] rfl (by (try simp only [List.map_toArray, List.map_cons, List.map_nil]); first | done | rfl | (simp only [List.length_drop, List.length_take]; rfl)) ?_; (with_reducible refine (impl_isOpen.calls a0_0 a0_1 a0_2 x12_1 false _ A11.out).mono ?_); rintro e w26 ⟨rfl, hb⟩; refine ⟨_, rfl, ?_⟩; have n0_ := Aside0.mk (blk_below (g := gb501) (o := .cells #[.int .i64 a0_0, .int .i64 a0_1, .int .i64 a0_2, .slice (some ad503) l0_3.length c0_3, .int .i64 a0_4] 35 (0, 0)) (by (with_reducible repeat (first | refine blk_drewN ?_ _ | refine blk_drew ?_ | refine blk_alloc ?_ _)); exact BK501.out) hb); have n1_ := Aside0.mk (below_step (by repeat (first | (with_reducible first | exact HB.out | apply below_alloc | apply pw_below_drewN | apply below_drew1 | refine below_set ?_ GE501.out) | exact HB.out)) hb); clear BK501; clear HB; have BK501 := n0_; have HB := n1_; clear n0_ n1_; (try clear hb); (try clear hb2); (try clear hk); (try clear hi)))
        go_roundg k1
        case measure => have := HK1.out; omega
        case rel => exact ⟨(x3_1), (wrap64 (x12_1 + 1)), (by first | rfl | (simp; done) | (simp [*]; done)), (by first | rfl | (simp; done) | (simp [*]; done)), H', ⟨by have := HK1.out; omega⟩, ⟨by (with_reducible repeat (first | refine blk_drewN ?_ _ | refine blk_drew ?_ | refine blk_alloc ?_ _)); exact BK501.out⟩, ⟨by repeat (first | (with_reducible first | exact HB.out | apply below_alloc | apply pw_below_drewN | apply below_drew1 | refine below_set ?_ GE501.out) | exact HB.out)⟩⟩
      ·rw [if_neg c10] at H
       exact absurd H (by simp)
     ·rw [if_neg c9] at H
      exact absurd H (by simp)
    ·rw [if_neg c8] at H
     have c8b0 : decide (x12_1 < (l0_3.length : Int)) = false := decide_eq_false c8
     clear c8
     obtain rfl := Option.some.inj H
     go_wp2
     go_ret
     exact ⟨by first | rfl | (simp [errW_none, errW_some] <;> rfl) | (simp [*, errW_none, errW_some] <;> rfl), by repeat (first | (with_reducible first | exact HB.out | apply below_alloc | apply pw_below_drewN | apply below_drew1 | refine below_set ?_ GE501.out) | exact HB.out)⟩
 ·replace c3 := Bool.eq_false_iff.mpr c3
  subst c3
  have H1 : (some (-1)) = some r := by rw [if_neg (show ¬ (false = true) by decide)] at H; exact H
  clear H
  have H := H1
  clear H1
  obtain rfl := Option.some.inj H
  go_enter Try.func18, Try.ntmps18
  go_wp2_with (first | ((with_reducible refine gate_dst (N := 1) rfl ?_); refine box_event ?hg (N := 1) ?hd (cs := #[.int .i64 a0_0, .int .i64 a0_1, .int .i64 a0_2, .slice A0_3 l0_3.length c0_3, .int .i64 a0_4]) (t := 35) ?hr ?_; (case hd => rfl); (case hg => rfl); (case hr => first | (go_simp; done) | (go_simp; rfl)); intro gb501 hg w27 hbox hb; have n0_ := Aside0.mk (below_step (by repeat (first | (with_reducible first | exact HB.out | apply below_alloc | apply pw_below_drewN | apply below_drew1) | exact HB.out)) hb); have n1_ := Aside0.mk (hbox); have n2_ := Aside0.mk ((by rw [hg]; exact (below_size (by repeat (first | (with_reducible first | exact HB.out | apply below_alloc | apply pw_below_drewN | apply below_drew1) | exact HB.out))) : w.heap.size ≤ gb501)); have n3_ := Aside0.mk ((by rw [hg]; exact (below_size (by repeat (first | (with_reducible first | exact HB.out | apply below_alloc | apply pw_below_drewN | apply below_drew1) | exact HB.out))) : w.heap.size ≤ gb501)); clear HB; have HB := n0_; have BK501 := n1_; have GW501 := n2_; have GE501 := n3_; clear n0_ n1_ n2_ n3_; clear hb hbox hg; have hcz28_0 : w27.cell? ⟨gb501, 0, none⟩ = some (.int .i64 a0_0) := (blk_cell BK501.out 0).trans rfl; have hcz28_1 : w27.cell? ⟨gb501, 1, none⟩ = some (.int .i64 a0_1) := (blk_cell BK501.out 1).trans rfl; have hcz28_2 : w27.cell? ⟨gb501, 2, none⟩ = some (.int .i64 a0_2) := (blk_cell BK501.out 2).trans rfl; have hcz28_3 : w27.cell? ⟨gb501, 3, none⟩ = some (.slice A0_3 l0_3.length c0_3) := (blk_cell BK501.out 3).trans rfl; have hcz28_4 : w27.cell? ⟨gb501, 4, none⟩ = some (.int .i64 a0_4) := (blk_cell BK501.out 4).trans rfl; have hfz28_0 := blk_frozen BK501.out 0; have hfz28_1 := blk_frozen BK501.out 1; have hfz28_2 := blk_frozen BK501.out 2; have hfz28_3 := blk_frozen BK501.out 3; have hfz28_4 := blk_frozen BK501.out 4) | ((with_reducible refine gate_callee (f := 62) rfl ?_); refine goesL_ (some 7) rfl rfl Try.func62 (by kernel_rfl) rfl #[.agg #[.int .i64 a0_0, .int .i64 a0_1, .int .i64 a0_2, .slice A0_3 l0_3.length c0_3, .int .i64 a0_4]] rfl (by (try simp only [List.map_toArray, List.map_cons, List.map_nil]); first | done | rfl | (simp only [List.length_drop, List.length_take]; rfl)) ?_; (with_reducible refine (impl_HedgeOk.calls a0_0 a0_1 a0_2 _ _ l0_3 a0_4 false _ ?side1 ?side2 A2.out).mono ?_); (case side1 => repeat (first | exact (Kd.C_below HR0_3.out HB.out) | (with_reducible refine Kd.C_alloc ?_ _) | (with_reducible refine Kd.C_drewN ?_ _) | (with_reducible refine Kd.C_drew ?_))); (case side2 => exact HC0_3.out); rintro e w29 ⟨rfl, hb⟩; refine ⟨_, rfl, ?_⟩; have n0_ := Aside0.mk (blk_below (g := gb501) (o := .cells #[.int .i64 a0_0, .int .i64 a0_1, .int .i64 a0_2, .slice A0_3 l0_3.length c0_3, .int .i64 a0_4] 35 (0, 0)) (by (with_reducible repeat (first | refine blk_drewN ?_ _ | refine blk_drew ?_ | refine blk_alloc ?_ _)); exact BK501.out) hb); have n1_ := Aside0.mk (below_step (by repeat (first | (with_reducible first | exact HB.out | apply below_alloc | apply pw_below_drewN | apply below_drew1 | refine below_set ?_ GE501.out) | exact HB.out)) hb); clear BK501; clear HB; have BK501 := n0_; have HB := n1_; clear n0_ n1_; (try clear hb); (try clear hb2); (try clear hk); (try clear hi)))
  go_ret
  exact ⟨by first | rfl | (simp [errW_none, errW_some] <;> rfl) | (simp [*, errW_none, errW_some] <;> rfl), by repeat (first | (with_reducible first | exact HB.out | apply below_alloc | apply pw_below_drewN | apply below_drew1 | refine below_set ?_ GE501.out) | exact HB.out)⟩

end Go.Proofs.Ytekgbinadmjapaa.X
