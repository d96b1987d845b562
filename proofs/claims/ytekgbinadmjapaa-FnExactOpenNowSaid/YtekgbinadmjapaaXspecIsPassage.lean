-- Written by a program of this session (xprint.py), out of the translation and of hand-written contracts. Lean checks it.
import Derived.Test.YtekgbinadmjapaaX0
import Derived.Test.YtekgbinadmjapaaXspecCountGaps
import Derived.Test.YtekgbinadmjapaaXspecMazeOk
import Derived.Test.YtekgbinadmjapaaXspecl01In
import Derived.Test.YtekgbinadmjapaaXspecl03Bit
namespace Go.Proofs.Ytekgbinadmjapaa.X
open Go.RowKit Go.Proofs.YtekgbinadmjapaaW.PrintWords Go.Proofs.YtekgbinadmjapaaW.PrintLast Go.Proofs.YtekgbinadmjapaaW.PrintMore
attribute [local go_sem] max2_int min2_int max_two min_two max_three min_three max_four min_four   -- for this text's walks alone
set_option linter.unusedVariables false
set_option linter.unusedSimpArgs false

/-! ### spec_IsPassage: function 89 -/
def spec_IsPassage.f (a0_0 : Int) (a0_1 : Int) (a0_2 : Int) (a1 : Int) : Option (Bool) := (spec_MazeOk.f a0_0 a0_1 a0_2).bind fun t502 => (if t502 = true then ((spec_CountGaps.f a0_0 a0_1).bind fun t503 => ((spec_l01In.f a1 0 (wrap64 (t503 - 1))).bind fun t504 => (if t504 = true then ((spec_l03Bit.f a0_2 a1).bind fun t505 => (some t505)) else (some false)))) else (some false))
set_option maxHeartbeats 8000000 in
set_option maxRecDepth 100000 in
theorem spec_IsPassage.calls (a0_0 : Int) (a0_1 : Int) (a0_2 : Int) (a1 : Int) (r : Bool) (w : World) (h : spec_IsPassage.f a0_0 a0_1 a0_2 a1 = some r) :
  Calls Try.prog 89 #[.agg #[.int .i64 a0_0, .int .i64 a0_1, .int .i64 a0_2], .int .i64 a1] w fun e w' => e = .returned (.bool r) ∧ Below w.heap.size w w' := by
 have hu33 := Try.underlying33
 have hu31 := Try.underlying31
 have HB := Aside0.mk (Below.refl w.heap.size w)
 have H : ((spec_MazeOk.f a0_0 a0_1 a0_2).bind fun t502 => (if t502 = true then ((spec_CountGaps.f a0_0 a0_1).bind fun t503 => ((spec_l01In.f a1 0 (wrap64 (t503 - 1))).bind fun t504 => (if t504 = true then ((spec_l03Bit.f a0_2 a1).bind fun t505 => (some t505)) else (some false)))) else (some false))) = some r := h
 clear h
 replace H := Option.bind_eq_some_iff.mp H
 obtain ⟨t502, A30, H⟩ := H
 replace H : (if t502 = true then ((spec_CountGaps.f a0_0 a0_1).bind fun t503 => ((spec_l01In.f a1 0 (wrap64 (t503 - 1))).bind fun t504 => (if t504 = true then ((spec_l03Bit.f a0_2 a1).bind fun t505 => (some t505)) else (some false)))) else (some false)) = some r := H
 have A3 := Aside0.mk A30
 clear A30
 by_cases c4 : t502 = true
 ·subst c4
  have H1 : ((spec_CountGaps.f a0_0 a0_1).bind fun t503 => ((spec_l01In.f a1 0 (wrap64 (t503 - 1))).bind fun t504 => (if t504 = true then ((spec_l03Bit.f a0_2 a1).bind fun t505 => (some t505)) else (some false)))) = some r := by rw [if_pos rfl] at H; exact H
  clear H
  have H := H1
  clear H1
  replace H := Option.bind_eq_some_iff.mp H
  obtain ⟨t503, A50, H⟩ := H
  replace H : ((spec_l01In.f a1 0 (wrap64 (t503 - 1))).bind fun t504 => (if t504 = true then ((spec_l03Bit.f a0_2 a1).bind fun t505 => (some t505)) else (some false))) = some r := H
  have A5 := Aside0.mk A50
  clear A50
  replace H := Option.bind_eq_some_iff.mp H
  obtain ⟨t504, A60, H⟩ := H
  replace H : (if t504 = true then ((spec_l03Bit.f a0_2 a1).bind fun t505 => (some t505)) else (some false)) = some r := H
  have A6 := Aside0.mk A60
  clear A60
  by_cases c7 : t504 = true
  ·subst c7
   have H1 : ((spec_l03Bit.f a0_2 a1).bind fun t505 => (some t505)) = some r := by rw [if_pos rfl] at H; exact H
   clear H
   have H := H1
   clear H1
   replace H := Option.bind_eq_some_iff.mp H
   obtain ⟨t505, A80, H⟩ := H
   replace H : (some t505) = some r := H
   have A8 := Aside0.mk A80
   clear A80
   obtain rfl := Option.some.inj H
   go_enter Try.func89, Try.ntmps89
   go_wp2_with (first | ((with_reducible refine gate_dst (N := 2) rfl ?_); refine box_event ?hg (N := 2) ?hd (cs := #[.int .i64 a0_0, .int .i64 a0_1, .int .i64 a0_2]) (t := 33) ?hr ?_; (case hd => rfl); (case hg => rfl); (case hr => first | (go_simp; done) | (go_simp; rfl)); intro gb501 hg w9 hbox hb; have n0_ := Aside0.mk (below_step (by repeat (first | (with_reducible first | exact HB.out | apply below_alloc | apply pw_below_drewN | apply below_drew1) | exact HB.out)) hb); have n1_ := Aside0.mk (hbox); have n2_ := Aside0.mk ((by rw [hg]; exact (below_size (by repeat (first | (with_reducible first | exact HB.out | apply below_alloc | apply pw_below_drewN | apply below_drew1) | exact HB.out))) : w.heap.size ≤ gb501)); have n3_ := Aside0.mk ((by rw [hg]; exact (below_size (by repeat (first | (with_reducible first | exact HB.out | apply below_alloc | apply pw_below_drewN | apply below_drew1) | exact HB.out))) : w.heap.size ≤ gb501)); clear HB; have HB := n0_; have BK501 := n1_; have GW501 := n2_; have GE501 := n3_; clear n0_ n1_ n2_ n3_; clear hb hbox hg; have hcz10_0 : w9.cell? ⟨gb501, 0, none⟩ = some (.int .i64 a0_0) := (blk_cell BK501.out 0).trans rfl; have hcz10_1 : w9.cell? ⟨gb501, 1, none⟩ = some (.int .i64 a0_1) := (blk_cell BK501.out 1).trans rfl; have hcz10_2 : w9.cell? ⟨gb501, 2, none⟩ = some (.int .i64 a0_2) := (blk_cell BK501.out 2).trans rfl; have hfz10_0 := blk_frozen BK501.out 0; have hfz10_1 := blk_frozen BK501.out 1; have hfz10_2 := blk_frozen BK501.out 2) | ((with_reducible refine gate_callee (f := 105) rfl ?_); refine goesL_ (some 6) rfl rfl Try.func105 (by kernel_rfl) rfl #[.agg #[.int .i64 a0_0, .int .i64 a0_1, .int .i64 a0_2]] rfl (by (try simp only [List.map_toArray, List.map_cons, List.map_nil]); first | done | rfl | (simp only [List.length_drop, List.length_take]; rfl)) ?_; (with_reducible refine (spec_MazeOk.calls a0_0 a0_1 a0_2 true _ A3.out).mono ?_); rintro e w11 ⟨rfl, hb⟩; refine ⟨_, rfl, ?_⟩; have n0_ := Aside0.mk (blk_below (g := gb501) (o := .cells #[.int .i64 a0_0, .int .i64 a0_1, .int .i64 a0_2] 33 (0, 0)) (by (with_reducible repeat (first | refine blk_drewN ?_ _ | refine blk_drew ?_ | refine blk_alloc ?_ _)); exact BK501.out) hb); have n1_ := Aside0.mk (below_step (by repeat (first | (with_reducible first | exact HB.out | apply below_alloc | apply pw_below_drewN | apply below_drew1 | refine below_set ?_ GE501.out) | exact HB.out)) hb); clear BK501; clear HB; have BK501 := n0_; have HB := n1_; clear n0_ n1_; (try clear hb); (try clear hb2); (try clear hk); (try clear hi); have hcz12_0 : w11.cell? ⟨gb501, 0, none⟩ = some (.int .i64 a0_0) := (blk_cell BK501.out 0).trans rfl; have hcz12_1 : w11.cell? ⟨gb501, 1, none⟩ = some (.int .i64 a0_1) := (blk_cell BK501.out 1).trans rfl; have hcz12_2 : w11.cell? ⟨gb501, 2, none⟩ = some (.int .i64 a0_2) := (blk_cell BK501.out 2).trans rfl; have hfz12_0 := blk_frozen BK501.out 0; have hfz12_1 := blk_frozen BK501.out 1; have hfz12_2 := blk_frozen BK501.out 2) | (go_at_call 57; (with_reducible refine (spec_CountGaps.calls a0_0 a0_1 t503 _ A5.out).mono ?_); rintro e w13 ⟨rfl, hb⟩; have n0_ := Aside0.mk (blk_below (g := gb501) (o := .cells #[.int .i64 a0_0, .int .i64 a0_1, .int .i64 a0_2] 33 (0, 0)) (by (with_reducible repeat (first | refine blk_drewN ?_ _ | refine blk_drew ?_ | refine blk_alloc ?_ _)); exact BK501.out) hb); have n1_ := Aside0.mk (below_step (by repeat (first | (with_reducible first | exact HB.out | apply below_alloc | apply pw_below_drewN | apply below_drew1 | refine below_set ?_ GE501.out) | exact HB.out)) hb); clear BK501; clear HB; have BK501 := n0_; have HB := n1_; clear n0_ n1_; (try clear hb); (try clear hb2); (try clear hk); (try clear hi)) | (go_at_call 73; (with_reducible refine (spec_l01In.calls a1 0 (wrap64 (t503 - 1)) true _ A6.out).mono ?_); rintro e w' ⟨rfl, ⟨nd, rfl⟩⟩; have hcz14_0 : w13.cell? ⟨gb501, 0, none⟩ = some (.int .i64 a0_0) := (blk_cell BK501.out 0).trans rfl; have hcz14_1 : w13.cell? ⟨gb501, 1, none⟩ = some (.int .i64 a0_1) := (blk_cell BK501.out 1).trans rfl; have hcz14_2 : w13.cell? ⟨gb501, 2, none⟩ = some (.int .i64 a0_2) := (blk_cell BK501.out 2).trans rfl; have hfz14_0 := blk_frozen BK501.out 0; have hfz14_1 := blk_frozen BK501.out 1; have hfz14_2 := blk_frozen BK501.out 2) | (go_at_call 61; (with_reducible refine (spec_l03Bit.calls a0_2 a1 t505 _ A8.out).mono ?_); rintro e w' ⟨rfl, ⟨nd, rfl⟩⟩))
   go_ret
   exact ⟨by first | rfl | (simp [errW_none, errW_some] <;> rfl) | (simp [*, errW_none, errW_some] <;> rfl), by repeat (first | (with_reducible first | exact HB.out | apply below_alloc | apply pw_below_drewN | apply below_drew1 | refine below_set ?_ GE501.out) | exact HB.out)⟩
  ·replace c7 := Bool.eq_false_iff.mpr c7
   subst c7
   have H1 : (some false) = some r := by rw [if_neg (show ¬ (false = true) by decide)] at H; exact H
   clear H
   have H := H1
   clear H1
   obtain rfl := Option.some.inj H
   go_enter Try.func89, Try.ntmps89
   go_wp2_with (first | ((with_reducible refine gate_dst (N := 2) rfl ?_); refine box_event ?hg (N := 2) ?hd (cs := #[.int .i64 a0_0, .int .i64 a0_1, .int .i64 a0_2]) (t := 33) ?hr ?_; (case hd => rfl); (case hg => rfl); (case hr => first | (go_simp; done) | (go_simp; rfl)); intro gb501 hg w15 hbox hb; have n0_ := Aside0.mk (below_step (by repeat (first | (with_reducible first | exact HB.out | apply below_alloc | apply pw_below_drewN | apply below_drew1) | exact HB.out)) hb); have n1_ := Aside0.mk (hbox); have n2_ := Aside0.mk ((by rw [hg]; exact (below_size (by repeat (first | (with_reducible first | exact HB.out | apply below_alloc | apply pw_below_drewN | apply below_drew1) | exact HB.out))) : w.heap.size ≤ gb501)); have n3_ := Aside0.mk ((by rw [hg]; exact (below_size (by repeat (first | (with_reducible first | exact HB.out | apply below_alloc | apply pw_below_drewN | apply below_drew1) | exact HB.out))) : w.heap.size ≤ gb501)); clear HB; have HB := n0_; have BK501 := n1_; have GW501 := n2_; have GE501 := n3_; clear n0_ n1_ n2_ n3_; clear hb hbox hg; have hcz16_0 : w15.cell? ⟨gb501, 0, none⟩ = some (.int .i64 a0_0) := (blk_cell BK501.out 0).trans rfl; have hcz16_1 : w15.cell? ⟨gb501, 1, none⟩ = some (.int .i64 a0_1) := (blk_cell BK501.out 1).trans rfl; have hcz16_2 : w15.cell? ⟨gb501, 2, none⟩ = some (.int .i64 a0_2) := (blk_cell BK501.out 2).trans rfl; have hfz16_0 := blk_frozen BK501.out 0; have hfz16_1 := blk_frozen BK501.out 1; have hfz16_2 := blk_frozen BK501.out 2) | ((with_reducible refine gate_callee (f := 105) rfl ?_); refine goesL_ (some 6) rfl rfl Try.func105 (by kernel_rfl) rfl #[.agg #[.int .i64 a0_0, .int .i64 a0_1, .int .i64 a0_2]] rfl (by (try simp only [List.map_toArray, List.map_cons, List.map_nil]); first | done | rfl | (simp only [List.length_drop, List.length_take]; rfl)) ?_; (with_reducible refine (spec_MazeOk.calls a0_0 a0_1 a0_2 true _ A3.out).mono ?_); rintro e w17 ⟨rfl, hb⟩; refine ⟨_, rfl, ?_⟩; have n0_ := Aside0.mk (blk_below (g := gb501) (o := .cells #[.int .i64 a0_0, .int .i64 a0_1, .int .i64 a0_2] 33 (0, 0)) (by (with_reducible repeat (first | refine blk_drewN ?_ _ | refine blk_drew ?_ | refine blk_alloc ?_ _)); exact BK501.out) hb); have n1_ := Aside0.mk (below_step (by repeat (first | (with_reducible first | exact HB.out | apply below_alloc | apply pw_below_drewN | apply below_drew1 | refine below_set ?_ GE501.out) | exact HB.out)) hb); clear BK501; clear HB; have BK501 := n0_; have HB := n1_; clear n0_ n1_; (try clear hb); (try clear hb2); (try clear hk); (try clear hi); have hcz18_0 : w17.cell? ⟨gb501, 0, none⟩ = some (.int .i64 a0_0) := (blk_cell BK501.out 0).trans rfl; have hcz18_1 : w17.cell? ⟨gb501, 1, none⟩ = some (.int .i64 a0_1) := (blk_cell BK501.out 1).trans rfl; have hcz18_2 : w17.cell? ⟨gb501, 2, none⟩ = some (.int .i64 a0_2) := (blk_cell BK501.out 2).trans rfl; have hfz18_0 := blk_frozen BK501.out 0; have hfz18_1 := blk_frozen BK501.out 1; have hfz18_2 := blk_frozen BK501.out 2) | (go_at_call 57; (with_reducible refine (spec_CountGaps.calls a0_0 a0_1 t503 _ A5.out).mono ?_); rintro e w19 ⟨rfl, hb⟩; have n0_ := Aside0.mk (blk_below (g := gb501) (o := .cells #[.int .i64 a0_0, .int .i64 a0_1, .int .i64 a0_2] 33 (0, 0)) (by (with_reducible repeat (first | refine blk_drewN ?_ _ | refine blk_drew ?_ | refine blk_alloc ?_ _)); exact BK501.out) hb); have n1_ := Aside0.mk (below_step (by repeat (first | (with_reducible first | exact HB.out | apply below_alloc | apply pw_below_drewN | apply below_drew1 | refine below_set ?_ GE501.out) | exact HB.out)) hb); clear BK501; clear HB; have BK501 := n0_; have HB := n1_; clear n0_ n1_; (try clear hb); (try clear hb2); (try clear hk); (try clear hi)) | (go_at_call 73; (with_reducible refine (spec_l01In.calls a1 0 (wrap64 (t503 - 1)) false _ A6.out).mono ?_); rintro e w' ⟨rfl, ⟨nd, rfl⟩⟩))
   go_ret
   exact ⟨by first | rfl | (simp [errW_none, errW_some] <;> rfl) | (simp [*, errW_none, errW_some] <;> rfl), by repeat (first | (with_reducible first | exact HB.out | apply below_alloc | apply pw_below_drewN | apply below_drew1 | refine below_set ?_ GE501.out) | exact HB.out)⟩
 ·replace c4 := Bool.eq_false_iff.mpr c4
  subst c4
  have H1 : (some false) = some r := by rw [if_neg (show ¬ (false = true) by decide)] at H; exact H
  clear H
  have H := H1
  clear H1
  obtain rfl := Option.some.inj H
  go_enter Try.func89, Try.ntmps89
  go_wp2_with (first | ((with_reducible refine gate_dst (N := 2) rfl ?_); refine box_event ?hg (N := 2) ?hd (cs := #[.int .i64 a0_0, .int .i64 a0_1, .int .i64 a0_2]) (t := 33) ?hr ?_; (case hd => rfl); (case hg => rfl); (case hr => first | (go_simp; done) | (go_simp; rfl)); intro gb501 hg w20 hbox hb; have n0_ := Aside0.mk (below_step (by repeat (first | (with_reducible first | exact HB.out | apply below_alloc | apply pw_below_drewN | apply below_drew1) | exact HB.out)) hb); have n1_ := Aside0.mk (hbox); have n2_ := Aside0.mk ((by rw [hg]; exact (below_size (by repeat (first | (with_reducible first | exact HB.out | apply below_alloc | apply pw_below_drewN | apply below_drew1) | exact HB.out))) : w.heap.size ≤ gb501)); have n3_ := Aside0.mk ((by rw [hg]; exact (below_size (by repeat (first | (with_reducible first | exact HB.out | apply below_alloc | apply pw_below_drewN | apply below_drew1) | exact HB.out))) : w.heap.size ≤ gb501)); clear HB; have HB := n0_; have BK501 := n1_; have GW501 := n2_; have GE501 := n3_; clear n0_ n1_ n2_ n3_; clear hb hbox hg; have hcz21_0 : w20.cell? ⟨gb501, 0, none⟩ = some (.int .i64 a0_0) := (blk_cell BK501.out 0).trans rfl; have hcz21_1 : w20.cell? ⟨gb501, 1, none⟩ = some (.int .i64 a0_1) := (blk_cell BK501.out 1).trans rfl; have hcz21_2 : w20.cell? ⟨gb501, 2, none⟩ = some (.int .i64 a0_2) := (blk_cell BK501.out 2).trans rfl; have hfz21_0 := blk_frozen BK501.out 0; have hfz21_1 := blk_frozen BK501.out 1; have hfz21_2 := blk_frozen BK501.out 2) | ((with_reducible refine gate_callee (f := 105) rfl ?_); refine goesL_ (some 6) rfl rfl Try.func105 (by kernel_rfl) rfl #[.agg #[.int .i64 a0_0, .int .i64 a0_1, .int .i64 a0_2]] rfl (by (try simp only [List.map_toArray, List.map_cons, List.map_nil]); first | done | rfl | (simp only [List.length_drop, List.length_take]; rfl)) ?_; (with_reducible refine (spec_MazeOk.calls a0_0 a0_1 a0_2 false _ A3.out).mono ?_); rintro e w22 ⟨rfl, hb⟩; refine ⟨_, rfl, ?_⟩; have n0_ := Aside0.mk (blk_below (g := gb501) (o := .cells #[.int .i64 a0_0, .int .i64 a0_1, .int .i64 a0_2] 33 (0, 0)) (by (with_reducible repeat (first | refine blk_drewN ?_ _ | refine blk_drew ?_ | refine blk_alloc ?_ _)); exact BK501.out) hb); have n1_ := Aside0.mk (below_step (by repeat (first | (with_reducible first | exact HB.out | apply below_alloc | apply pw_below_drewN | apply below_drew1 | refine below_set ?_ GE501.out) | exact HB.out)) hb); clear BK501; clear HB; have BK501 := n0_; have HB := n1_; clear n0_ n1_; (try clear hb); (try clear hb2); (try clear hk); (try clear hi)))
  go_ret
  exact ⟨by first | rfl | (simp [errW_none, errW_some] <;> rfl) | (simp [*, errW_none, errW_some] <;> rfl), by repeat (first | (with_reducible first | exact HB.out | apply below_alloc | apply pw_below_drewN | apply below_drew1 | refine below_set ?_ GE501.out) | exact HB.out)⟩

end Go.Proofs.Ytekgbinadmjapaa.X
