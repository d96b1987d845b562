-- Written by a program of this session (xprint.py), out of the translation and of hand-written contracts. Lean checks it.
import Derived.Test.YtdloifaaoiollaaX0
import Derived.Test.YtdloifaaoiollaaXcgrid
namespace Go.Proofs.Ytdloifaaoiollaa.X
open Go.RowKit Go.Proofs.YtdloifaaoiollaaW.PrintWords Go.Proofs.YtdloifaaoiollaaW.PrintLast Go.Proofs.YtdloifaaoiollaaW.PrintMore
attribute [local go_sem] max2_int min2_int max_two min_two max_three min_three max_four min_four   -- for this text's walks alone
set_option linter.unusedVariables false
set_option linter.unusedSimpArgs false

/-! ### spec_WishOk: function 86 -/
def spec_WishOk.f (a0_0 : Int) (a0_1 : Int) (a1_0 : Int) (a1_1 : Int) (a1_2 : Int) (a1_3 : Int) : Option (Bool) := (spec_CountCells.f a0_0 a0_1).bind fun t503 => ((spec_GridOk.f a0_0 a0_1).bind fun t504 => (if t504 = true then ((spec_l01In.f a1_0 0 (wrap64 (t503 - 1))).bind fun t505 => (if t505 = true then ((spec_l01In.f a1_1 0 (wrap64 (t503 - 1))).bind fun t506 => (if t506 = true then ((spec_l01In.f a1_2 0 20).bind fun t507 => (if t507 = true then ((spec_l01In.f a1_3 0 20).bind fun t508 => (some t508)) else (some false))) else (some false))) else (some false))) else (some false)))
set_option maxHeartbeats 8000000 in
set_option maxRecDepth 100000 in
theorem spec_WishOk.calls (a0_0 : Int) (a0_1 : Int) (a1_0 : Int) (a1_1 : Int) (a1_2 : Int) (a1_3 : Int) (r : Bool) (w : World) (h : spec_WishOk.f a0_0 a0_1 a1_0 a1_1 a1_2 a1_3 = some r) :
  Calls Try.prog 86 #[.agg #[.int .i64 a0_0, .int .i64 a0_1], .agg #[.int .i64 a1_0, .int .i64 a1_1, .int .i64 a1_2, .int .i64 a1_3]] w fun e w' => e = .returned (.bool r) ∧ Below w.heap.size w w' := by
 have hu27 := Try.underlying27
 have hu51 := Try.underlying51
 have HB := Aside0.mk (Below.refl w.heap.size w)
 have H : ((spec_CountCells.f a0_0 a0_1).bind fun t503 => ((spec_GridOk.f a0_0 a0_1).bind fun t504 => (if t504 = true then ((spec_l01In.f a1_0 0 (wrap64 (t503 - 1))).bind fun t505 => (if t505 = true then ((spec_l01In.f a1_1 0 (wrap64 (t503 - 1))).bind fun t506 => (if t506 = true then ((spec_l01In.f a1_2 0 20).bind fun t507 => (if t507 = true then ((spec_l01In.f a1_3 0 20).bind fun t508 => (some t508)) else (some false))) else (some false))) else (some false))) else (some false)))) = some r := h
 clear h
 replace H := Option.bind_eq_some_iff.mp H
 obtain ⟨t503, A30, H⟩ := H
 replace H : ((spec_GridOk.f a0_0 a0_1).bind fun t504 => (if t504 = true then ((spec_l01In.f a1_0 0 (wrap64 (t503 - 1))).bind fun t505 => (if t505 = true then ((spec_l01In.f a1_1 0 (wrap64 (t503 - 1))).bind fun t506 => (if t506 = true then ((spec_l01In.f a1_2 0 20).bind fun t507 => (if t507 = true then ((spec_l01In.f a1_3 0 20).bind fun t508 => (some t508)) else (some false))) else (some false))) else (some false))) else (some false))) = some r := H
 have A3 := Aside0.mk A30
 clear A30
 replace H := Option.bind_eq_some_iff.mp H
 obtain ⟨t504, A40, H⟩ := H
 replace H : (if t504 = true then ((spec_l01In.f a1_0 0 (wrap64 (t503 - 1))).bind fun t505 => (if t505 = true then ((spec_l01In.f a1_1 0 (wrap64 (t503 - 1))).bind fun t506 => (if t506 = true then ((spec_l01In.f a1_2 0 20).bind fun t507 => (if t507 = true then ((spec_l01In.f a1_3 0 20).bind fun t508 => (some t508)) else (some false))) else (some false))) else (some false))) else (some false)) = some r := H
 have A4 := Aside0.mk A40
 clear A40
 by_cases c5 : t504 = true
 ·subst c5
  have H1 : ((spec_l01In.f a1_0 0 (wrap64 (t503 - 1))).bind fun t505 => (if t505 = true then ((spec_l01In.f a1_1 0 (wrap64 (t503 - 1))).bind fun t506 => (if t506 = true then ((spec_l01In.f a1_2 0 20).bind fun t507 => (if t507 = true then ((spec_l01In.f a1_3 0 20).bind fun t508 => (some t508)) else (some false))) else (some false))) else (some false))) = some r := by rw [if_pos rfl] at H; exact H
  clear H
  have H := H1
  clear H1
  replace H := Option.bind_eq_some_iff.mp H
  obtain ⟨t505, A60, H⟩ := H
  replace H : (if t505 = true then ((spec_l01In.f a1_1 0 (wrap64 (t503 - 1))).bind fun t506 => (if t506 = true then ((spec_l01In.f a1_2 0 20).bind fun t507 => (if t507 = true then ((spec_l01In.f a1_3 0 20).bind fun t508 => (some t508)) else (some false))) else (some false))) else (some false)) = some r := H
  have A6 := Aside0.mk A60
  clear A60
  by_cases c7 : t505 = true
  ·subst c7
   have H1 : ((spec_l01In.f a1_1 0 (wrap64 (t503 - 1))).bind fun t506 => (if t506 = true then ((spec_l01In.f a1_2 0 20).bind fun t507 => (if t507 = true then ((spec_l01In.f a1_3 0 20).bind fun t508 => (some t508)) else (some false))) else (some false))) = some r := by rw [if_pos rfl] at H; exact H
   clear H
   have H := H1
   clear H1
   replace H := Option.bind_eq_some_iff.mp H
   obtain ⟨t506, A80, H⟩ := H
   replace H : (if t506 = true then ((spec_l01In.f a1_2 0 20).bind fun t507 => (if t507 = true then ((spec_l01In.f a1_3 0 20).bind fun t508 => (some t508)) else (some false))) else (some false)) = some r := H
   have A8 := Aside0.mk A80
   clear A80
   by_cases c9 : t506 = true
   ·subst c9
    have H1 : ((spec_l01In.f a1_2 0 20).bind fun t507 => (if t507 = true then ((spec_l01In.f a1_3 0 20).bind fun t508 => (some t508)) else (some false))) = some r := by rw [if_pos rfl] at H; exact H
    clear H
    have H := H1
    clear H1
    replace H := Option.bind_eq_some_iff.mp H
    obtain ⟨t507, A100, H⟩ := H
    replace H : (if t507 = true then ((spec_l01In.f a1_3 0 20).bind fun t508 => (some t508)) else (some false)) = some r := H
    have A10 := Aside0.mk A100
    clear A100
    by_cases c11 : t507 = true
    ·subst c11
     have H1 : ((spec_l01In.f a1_3 0 20).bind fun t508 => (some t508)) = some r := by rw [if_pos rfl] at H; exact H
     clear H
     have H := H1
     clear H1
     replace H := Option.bind_eq_some_iff.mp H
     obtain ⟨t508, A120, H⟩ := H
     replace H : (some t508) = some r := H
     have A12 := Aside0.mk A120
     clear A120
     obtain rfl := Option.some.inj H
     go_enter Try.func86, Try.ntmps86
     go_wp2_with (first | ((with_reducible refine gate_dst (N := 2) rfl ?_); refine box_event ?hg (N := 2) ?hd (cs := #[.int .i64 a0_0, .int .i64 a0_1]) (t := 27) ?hr ?_; (case hd => rfl); (case hg => rfl); (case hr => first | (go_simp; done) | (go_simp; rfl)); intro gb501 hg w13 hbox hb; have n0_ := Aside0.mk (below_step (hb0_ HB.out) hb); have n1_ := Aside0.mk (hbox); have n2_ := Aside0.mk ((gs_ hg (hb0_ HB.out))); have n3_ := Aside0.mk ((gs_ hg (hb0_ HB.out))); clear HB; have HB := n0_; have BK501 := n1_; have GW501 := n2_; have GE501 := n3_; clear n0_ n1_ n2_ n3_; clear hb hbox hg) | ((with_reducible refine gate_dst (N := 3) rfl ?_); refine box_event ?hg (N := 3) ?hd (cs := #[.int .i64 a1_0, .int .i64 a1_1, .int .i64 a1_2, .int .i64 a1_3]) (t := 51) ?hr ?_; (case hd => rfl); (case hg => rfl); (case hr => first | (go_simp; done) | (go_simp; rfl)); intro gb502 hg w14 hbox hb; have n0_ := Aside0.mk (bb_ BK501.out hb); have n1_ := Aside0.mk (below_step (hb1_ HB.out GE501.out) hb); have n2_ := Aside0.mk (hbox); have n3_ := Aside0.mk ((gs_ hg (hb1_ HB.out GE501.out))); have n4_ := Aside0.mk ((gs_ hg (hb1_ HB.out GE501.out))); have n5_ := Aside0.mk (nl_ hg BK501.out); have n6_ := Aside0.mk (nr_ hg BK501.out); clear BK501; clear HB; have BK501 := n0_; have HB := n1_; have BK502 := n2_; have GW502 := n3_; have GE502 := n4_; have NB501_502 := n5_; have NB502_501 := n6_; clear n0_ n1_ n2_ n3_ n4_ n5_ n6_; clear hb hbox hg; have hnb15 := NB501_502.out; have hnc15 := NB502_501.out; obtain ⟨hcz16_0, hcz16_1⟩ := cz2_ BK501.out; obtain ⟨hfz16_0, hfz16_1⟩ := fz2_ BK501.out) | ((with_reducible refine gate_callee (f := 36) rfl ?_); refine goesL_ (some 7) rfl rfl Try.func36 (by kernel_rfl) rfl #[.agg #[.int .i64 a0_0, .int .i64 a0_1]] rfl (ml_) ?_; (with_reducible refine (spec_CountCells.calls a0_0 a0_1 t503 _ A3.out).mono ?_); rintro e w17 ⟨rfl, hb⟩; refine ⟨_, rfl, ?_⟩; replace BK501 := Aside0.mk (bb_ BK501.out hb); replace BK502 := Aside0.mk (bb_ BK502.out hb); replace HB := Aside0.mk (below_step (hb2_ HB.out GE501.out GE502.out) hb); (try clear hb); (try clear hb2); (try clear hk); (try clear hi); obtain ⟨hcz18_0, hcz18_1⟩ := cz2_ BK501.out; obtain ⟨hfz18_0, hfz18_1⟩ := fz2_ BK501.out) | ((with_reducible refine gate_callee (f := 85) rfl ?_); refine goesL_ (some 9) rfl rfl Try.func85 (by kernel_rfl) rfl #[.agg #[.int .i64 a0_0, .int .i64 a0_1]] rfl (ml_) ?_; (with_reducible refine (spec_GridOk.calls a0_0 a0_1 true _ A4.out).mono ?_); rintro e w19 ⟨rfl, hb⟩; refine ⟨_, rfl, ?_⟩; replace BK501 := Aside0.mk (bb_ BK501.out hb); replace BK502 := Aside0.mk (bb_ BK502.out hb); replace HB := Aside0.mk (below_step (hb2_ HB.out GE501.out GE502.out) hb); (try clear hb); (try clear hb2); (try clear hk); (try clear hi); obtain ⟨hcz20_0, hcz20_1, hcz20_2, hcz20_3⟩ := cz4_ BK502.out; obtain ⟨hfz20_0, hfz20_1, hfz20_2, hfz20_3⟩ := fz4_ BK502.out) | (go_at_call 102; (with_reducible refine (spec_l01In.calls a1_0 0 (wrap64 (t503 - 1)) true _ A6.out).mono ?_); rintro e w' ⟨rfl, ⟨nd, rfl⟩⟩) | (go_at_call 102; (with_reducible refine (spec_l01In.calls a1_1 0 (wrap64 (t503 - 1)) true _ A8.out).mono ?_); rintro e w' ⟨rfl, ⟨nd, rfl⟩⟩) | (go_at_call 102; (with_reducible refine (spec_l01In.calls a1_2 0 20 true _ A10.out).mono ?_); rintro e w' ⟨rfl, ⟨nd, rfl⟩⟩) | (go_at_call 102; (with_reducible refine (spec_l01In.calls a1_3 0 20 t508 _ A12.out).mono ?_); rintro e w' ⟨rfl, ⟨nd, rfl⟩⟩))
     go_ret
     exact ⟨by first | rfl | (simp [errW_none, errW_some] <;> rfl) | (simp [*, errW_none, errW_some] <;> rfl), hb2_ HB.out GE501.out GE502.out⟩
    ·replace c11 := Bool.eq_false_iff.mpr c11
     subst c11
     have H1 : (some false) = some r := by rw [if_neg (show ¬ (false = true) by decide)] at H; exact H
     clear H
     have H := H1
     clear H1
     obtain rfl := Option.some.inj H
     go_enter Try.func86, Try.ntmps86
     go_wp2_with (first | ((with_reducible refine gate_dst (N := 2) rfl ?_); refine box_event ?hg (N := 2) ?hd (cs := #[.int .i64 a0_0, .int .i64 a0_1]) (t := 27) ?hr ?_; (case hd => rfl); (case hg => rfl); (case hr => first | (go_simp; done) | (go_simp; rfl)); intro gb501 hg w21 hbox hb; have n0_ := Aside0.mk (below_step (hb0_ HB.out) hb); have n1_ := Aside0.mk (hbox); have n2_ := Aside0.mk ((gs_ hg (hb0_ HB.out))); have n3_ := Aside0.mk ((gs_ hg (hb0_ HB.out))); clear HB; have HB := n0_; have BK501 := n1_; have GW501 := n2_; have GE501 := n3_; clear n0_ n1_ n2_ n3_; clear hb hbox hg) | ((with_reducible refine gate_dst (N := 3) rfl ?_); refine box_event ?hg (N := 3) ?hd (cs := #[.int .i64 a1_0, .int .i64 a1_1, .int .i64 a1_2, .int .i64 a1_3]) (t := 51) ?hr ?_; (case hd => rfl); (case hg => rfl); (case hr => first | (go_simp; done) | (go_simp; rfl)); intro gb502 hg w22 hbox hb; have n0_ := Aside0.mk (bb_ BK501.out hb); have n1_ := Aside0.mk (below_step (hb1_ HB.out GE501.out) hb); have n2_ := Aside0.mk (hbox); have n3_ := Aside0.mk ((gs_ hg (hb1_ HB.out GE501.out))); have n4_ := Aside0.mk ((gs_ hg (hb1_ HB.out GE501.out))); have n5_ := Aside0.mk (nl_ hg BK501.out); have n6_ := Aside0.mk (nr_ hg BK501.out); clear BK501; clear HB; have BK501 := n0_; have HB := n1_; have BK502 := n2_; have GW502 := n3_; have GE502 := n4_; have NB501_502 := n5_; have NB502_501 := n6_; clear n0_ n1_ n2_ n3_ n4_ n5_ n6_; clear hb hbox hg; have hnb23 := NB501_502.out; have hnc23 := NB502_501.out; obtain ⟨hcz24_0, hcz24_1⟩ := cz2_ BK501.out; obtain ⟨hfz24_0, hfz24_1⟩ := fz2_ BK501.out) | ((with_reducible refine gate_callee (f := 36) rfl ?_); refine goesL_ (some 7) rfl rfl Try.func36 (by kernel_rfl) rfl #[.agg #[.int .i64 a0_0, .int .i64 a0_1]] rfl (ml_) ?_; (with_reducible refine (spec_CountCells.calls a0_0 a0_1 t503 _ A3.out).mono ?_); rintro e w25 ⟨rfl, hb⟩; refine ⟨_, rfl, ?_⟩; replace BK501 := Aside0.mk (bb_ BK501.out hb); replace BK502 := Aside0.mk (bb_ BK502.out hb); replace HB := Aside0.mk (below_step (hb2_ HB.out GE501.out GE502.out) hb); (try clear hb); (try clear hb2); (try clear hk); (try clear hi); obtain ⟨hcz26_0, hcz26_1⟩ := cz2_ BK501.out; obtain ⟨hfz26_0, hfz26_1⟩ := fz2_ BK501.out) | ((with_reducible refine gate_callee (f := 85) rfl ?_); refine goesL_ (some 9) rfl rfl Try.func85 (by kernel_rfl) rfl #[.agg #[.int .i64 a0_0, .int .i64 a0_1]] rfl (ml_) ?_; (with_reducible refine (spec_GridOk.calls a0_0 a0_1 true _ A4.out).mono ?_); rintro e w27 ⟨rfl, hb⟩; refine ⟨_, rfl, ?_⟩; replace BK501 := Aside0.mk (bb_ BK501.out hb); replace BK502 := Aside0.mk (bb_ BK502.out hb); replace HB := Aside0.mk (below_step (hb2_ HB.out GE501.out GE502.out) hb); (try clear hb); (try clear hb2); (try clear hk); (try clear hi); obtain ⟨hcz28_0, hcz28_1, hcz28_2, hcz28_3⟩ := cz4_ BK502.out; obtain ⟨hfz28_0, hfz28_1, hfz28_2, hfz28_3⟩ := fz4_ BK502.out) | (go_at_call 102; (with_reducible refine (spec_l01In.calls a1_0 0 (wrap64 (t503 - 1)) true _ A6.out).mono ?_); rintro e w' ⟨rfl, ⟨nd, rfl⟩⟩) | (go_at_call 102; (with_reducible refine (spec_l01In.calls a1_1 0 (wrap64 (t503 - 1)) true _ A8.out).mono ?_); rintro e w' ⟨rfl, ⟨nd, rfl⟩⟩) | (go_at_call 102; (with_reducible refine (spec_l01In.calls a1_2 0 20 false _ A10.out).mono ?_); rintro e w' ⟨rfl, ⟨nd, rfl⟩⟩))
     go_ret
     exact ⟨by first | rfl | (simp [errW_none, errW_some] <;> rfl) | (simp [*, errW_none, errW_some] <;> rfl), hb2_ HB.out GE501.out GE502.out⟩
   ·replace c9 := Bool.eq_false_iff.mpr c9
    subst c9
    have H1 : (some false) = some r := by rw [if_neg (show ¬ (false = true) by decide)] at H; exact H
    clear H
    have H := H1
    clear H1
    obtain rfl := Option.some.inj H
    go_enter Try.func86, Try.ntmps86
    go_wp2_with (first | ((with_reducible refine gate_dst (N := 2) rfl ?_); refine box_event ?hg (N := 2) ?hd (cs := #[.int .i64 a0_0, .int .i64 a0_1]) (t := 27) ?hr ?_; (case hd => rfl); (case hg => rfl); (case hr => first | (go_simp; done) | (go_simp; rfl)); intro gb501 hg w29 hbox hb; have n0_ := Aside0.mk (below_step (hb0_ HB.out) hb); have n1_ := Aside0.mk (hbox); have n2_ := Aside0.mk ((gs_ hg (hb0_ HB.out))); have n3_ := Aside0.mk ((gs_ hg (hb0_ HB.out))); clear HB; have HB := n0_; have BK501 := n1_; have GW501 := n2_; have GE501 := n3_; clear n0_ n1_ n2_ n3_; clear hb hbox hg) | ((with_reducible refine gate_dst (N := 3) rfl ?_); refine box_event ?hg (N := 3) ?hd (cs := #[.int .i64 a1_0, .int .i64 a1_1, .int .i64 a1_2, .int .i64 a1_3]) (t := 51) ?hr ?_; (case hd => rfl); (case hg => rfl); (case hr => first | (go_simp; done) | (go_simp; rfl)); intro gb502 hg w30 hbox hb; have n0_ := Aside0.mk (bb_ BK501.out hb); have n1_ := Aside0.mk (below_step (hb1_ HB.out GE501.out) hb); have n2_ := Aside0.mk (hbox); have n3_ := Aside0.mk ((gs_ hg (hb1_ HB.out GE501.out))); have n4_ := Aside0.mk ((gs_ hg (hb1_ HB.out GE501.out))); have n5_ := Aside0.mk (nl_ hg BK501.out); have n6_ := Aside0.mk (nr_ hg BK501.out); clear BK501; clear HB; have BK501 := n0_; have HB := n1_; have BK502 := n2_; have GW502 := n3_; have GE502 := n4_; have NB501_502 := n5_; have NB502_501 := n6_; clear n0_ n1_ n2_ n3_ n4_ n5_ n6_; clear hb hbox hg; have hnb31 := NB501_502.out; have hnc31 := NB502_501.out; obtain ⟨hcz32_0, hcz32_1⟩ := cz2_ BK501.out; obtain ⟨hfz32_0, hfz32_1⟩ := fz2_ BK501.out) | ((with_reducible refine gate_callee (f := 36) rfl ?_); refine goesL_ (some 7) rfl rfl Try.func36 (by kernel_rfl) rfl #[.agg #[.int .i64 a0_0, .int .i64 a0_1]] rfl (ml_) ?_; (with_reducible refine (spec_CountCells.calls a0_0 a0_1 t503 _ A3.out).mono ?_); rintro e w33 ⟨rfl, hb⟩; refine ⟨_, rfl, ?_⟩; replace BK501 := Aside0.mk (bb_ BK501.out hb); replace BK502 := Aside0.mk (bb_ BK502.out hb); replace HB := Aside0.mk (below_step (hb2_ HB.out GE501.out GE502.out) hb); (try clear hb); (try clear hb2); (try clear hk); (try clear hi); obtain ⟨hcz34_0, hcz34_1⟩ := cz2_ BK501.out; obtain ⟨hfz34_0, hfz34_1⟩ := fz2_ BK501.out) | ((with_reducible refine gate_callee (f := 85) rfl ?_); refine goesL_ (some 9) rfl rfl Try.func85 (by kernel_rfl) rfl #[.agg #[.int .i64 a0_0, .int .i64 a0_1]] rfl (ml_) ?_; (with_reducible refine (spec_GridOk.calls a0_0 a0_1 true _ A4.out).mono ?_); rintro e w35 ⟨rfl, hb⟩; refine ⟨_, rfl, ?_⟩; replace BK501 := Aside0.mk (bb_ BK501.out hb); replace BK502 := Aside0.mk (bb_ BK502.out hb); replace HB := Aside0.mk (below_step (hb2_ HB.out GE501.out GE502.out) hb); (try clear hb); (try clear hb2); (try clear hk); (try clear hi); obtain ⟨hcz36_0, hcz36_1, hcz36_2, hcz36_3⟩ := cz4_ BK502.out; obtain ⟨hfz36_0, hfz36_1, hfz36_2, hfz36_3⟩ := fz4_ BK502.out) | (go_at_call 102; (with_reducible refine (spec_l01In.calls a1_0 0 (wrap64 (t503 - 1)) true _ A6.out).mono ?_); rintro e w' ⟨rfl, ⟨nd, rfl⟩⟩) | (go_at_call 102; (with_reducible refine (spec_l01In.calls a1_1 0 (wrap64 (t503 - 1)) false _ A8.out).mono ?_); rintro e w' ⟨rfl, ⟨nd, rfl⟩⟩))
    go_ret
    exact ⟨by first | rfl | (simp [errW_none, errW_some] <;> rfl) | (simp [*, errW_none, errW_some] <;> rfl), hb2_ HB.out GE501.out GE502.out⟩
  ·replace c7 := Bool.eq_false_iff.mpr c7
   subst c7
   have H1 : (some false) = some r := by rw [if_neg (show ¬ (false = true) by decide)] at H; exact H
   clear H
   have H := H1
   clear H1
   obtain rfl := Option.some.inj H
   go_enter Try.func86, Try.ntmps86
   go_wp2_with (first | ((with_reducible refine gate_dst (N := 2) rfl ?_); refine box_event ?hg (N := 2) ?hd (cs := #[.int .i64 a0_0, .int .i64 a0_1]) (t := 27) ?hr ?_; (case hd => rfl); (case hg => rfl); (case hr => first | (go_simp; done) | (go_simp; rfl)); intro gb501 hg w37 hbox hb; have n0_ := Aside0.mk (below_step (hb0_ HB.out) hb); have n1_ := Aside0.mk (hbox); have n2_ := Aside0.mk ((gs_ hg (hb0_ HB.out))); have n3_ := Aside0.mk ((gs_ hg (hb0_ HB.out))); clear HB; have HB := n0_; have BK501 := n1_; have GW501 := n2_; have GE501 := n3_; clear n0_ n1_ n2_ n3_; clear hb hbox hg) | ((with_reducible refine gate_dst (N := 3) rfl ?_); refine box_event ?hg (N := 3) ?hd (cs := #[.int .i64 a1_0, .int .i64 a1_1, .int .i64 a1_2, .int .i64 a1_3]) (t := 51) ?hr ?_; (case hd => rfl); (case hg => rfl); (case hr => first | (go_simp; done) | (go_simp; rfl)); intro gb502 hg w38 hbox hb; have n0_ := Aside0.mk (bb_ BK501.out hb); have n1_ := Aside0.mk (below_step (hb1_ HB.out GE501.out) hb); have n2_ := Aside0.mk (hbox); have n3_ := Aside0.mk ((gs_ hg (hb1_ HB.out GE501.out))); have n4_ := Aside0.mk ((gs_ hg (hb1_ HB.out GE501.out))); have n5_ := Aside0.mk (nl_ hg BK501.out); have n6_ := Aside0.mk (nr_ hg BK501.out); clear BK501; clear HB; have BK501 := n0_; have HB := n1_; have BK502 := n2_; have GW502 := n3_; have GE502 := n4_; have NB501_502 := n5_; have NB502_501 := n6_; clear n0_ n1_ n2_ n3_ n4_ n5_ n6_; clear hb hbox hg; have hnb39 := NB501_502.out; have hnc39 := NB502_501.out; obtain ⟨hcz40_0, hcz40_1⟩ := cz2_ BK501.out; obtain ⟨hfz40_0, hfz40_1⟩ := fz2_ BK501.out) | ((with_reducible refine gate_callee (f := 36) rfl ?_); refine goesL_ (some 7) rfl rfl Try.func36 (by kernel_rfl) rfl #[.agg #[.int .i64 a0_0, .int .i64 a0_1]] rfl (ml_) ?_; (with_reducible refine (spec_CountCells.calls a0_0 a0_1 t503 _ A3.out).mono ?_); rintro e w41 ⟨rfl, hb⟩; refine ⟨_, rfl, ?_⟩; replace BK501 := Aside0.mk (bb_ BK501.out hb); replace BK502 := Aside0.mk (bb_ BK502.out hb); replace HB := Aside0.mk (below_step (hb2_ HB.out GE501.out GE502.out) hb); (try clear hb); (try clear hb2); (try clear hk); (try clear hi); obtain ⟨hcz42_0, hcz42_1⟩ := cz2_ BK501.out; obtain ⟨hfz42_0, hfz42_1⟩ := fz2_ BK501.out) | ((with_reducible refine gate_callee (f := 85) rfl ?_); refine goesL_ (some 9) rfl rfl Try.func85 (by kernel_rfl) rfl #[.agg #[.int .i64 a0_0, .int .i64 a0_1]] rfl (ml_) ?_; (with_reducible refine (spec_GridOk.calls a0_0 a0_1 true _ A4.out).mono ?_); rintro e w43 ⟨rfl, hb⟩; refine ⟨_, rfl, ?_⟩; replace BK501 := Aside0.mk (bb_ BK501.out hb); replace BK502 := Aside0.mk (bb_ BK502.out hb); replace HB := Aside0.mk (below_step (hb2_ HB.out GE501.out GE502.out) hb); (try clear hb); (try clear hb2); (try clear hk); (try clear hi); obtain ⟨hcz44_0, hcz44_1, hcz44_2, hcz44_3⟩ := cz4_ BK502.out; obtain ⟨hfz44_0, hfz44_1, hfz44_2, hfz44_3⟩ := fz4_ BK502.out) | (go_at_call 102; (with_reducible refine (spec_l01In.calls a1_0 0 (wrap64 (t503 - 1)) false _ A6.out).mono ?_); rintro e w' ⟨rfl, ⟨nd, rfl⟩⟩))
   go_ret
   exact ⟨by first | rfl | (simp [errW_none, errW_some] <;> rfl) | (simp [*, errW_none, errW_some] <;> rfl), hb2_ HB.out GE501.out GE502.out⟩
 ·replace c5 := Bool.eq_false_iff.mpr c5
  subst c5
  have H1 : (some false) = some r := by rw [if_neg (show ¬ (false = true) by decide)] at H; exact H
  clear H
  have H := H1
  clear H1
  obtain rfl := Option.some.inj H
  go_enter Try.func86, Try.ntmps86
  go_wp2_with (first | ((with_reducible refine gate_dst (N := 2) rfl ?_); refine box_event ?hg (N := 2) ?hd (cs := #[.int .i64 a0_0, .int .i64 a0_1]) (t := 27) ?hr ?_; (case hd => rfl); (case hg => rfl); (case hr => first | (go_simp; done) | (go_simp; rfl)); intro gb501 hg w45 hbox hb; have n0_ := Aside0.mk (below_step (hb0_ HB.out) hb); have n1_ := Aside0.mk (hbox); have n2_ := Aside0.mk ((gs_ hg (hb0_ HB.out))); have n3_ := Aside0.mk ((gs_ hg (hb0_ HB.out))); clear HB; have HB := n0_; have BK501 := n1_; have GW501 := n2_; have GE501 := n3_; clear n0_ n1_ n2_ n3_; clear hb hbox hg) | ((with_reducible refine gate_dst (N := 3) rfl ?_); refine box_event ?hg (N := 3) ?hd (cs := #[.int .i64 a1_0, .int .i64 a1_1, .int .i64 a1_2, .int .i64 a1_3]) (t := 51) ?hr ?_; (case hd => rfl); (case hg => rfl); (case hr => first | (go_simp; done) | (go_simp; rfl)); intro gb502 hg w46 hbox hb; have n0_ := Aside0.mk (bb_ BK501.out hb); have n1_ := Aside0.mk (below_step (hb1_ HB.out GE501.out) hb); have n2_ := Aside0.mk (hbox); have n3_ := Aside0.mk ((gs_ hg (hb1_ HB.out GE501.out))); have n4_ := Aside0.mk ((gs_ hg (hb1_ HB.out GE501.out))); have n5_ := Aside0.mk (nl_ hg BK501.out); have n6_ := Aside0.mk (nr_ hg BK501.out); clear BK501; clear HB; have BK501 := n0_; have HB := n1_; have BK502 := n2_; have GW502 := n3_; have GE502 := n4_; have NB501_502 := n5_; have NB502_501 := n6_; clear n0_ n1_ n2_ n3_ n4_ n5_ n6_; clear hb hbox hg; have hnb47 := NB501_502.out; have hnc47 := NB502_501.out; obtain ⟨hcz48_0, hcz48_1⟩ := cz2_ BK501.out; obtain ⟨hfz48_0, hfz48_1⟩ := fz2_ BK501.out) | ((with_reducible refine gate_callee (f := 36) rfl ?_); refine goesL_ (some 7) rfl rfl Try.func36 (by kernel_rfl) rfl #[.agg #[.int .i64 a0_0, .int .i64 a0_1]] rfl (ml_) ?_; (with_reducible refine (spec_CountCells.calls a0_0 a0_1 t503 _ A3.out).mono ?_); rintro e w49 ⟨rfl, hb⟩; refine ⟨_, rfl, ?_⟩; replace BK501 := Aside0.mk (bb_ BK501.out hb); replace BK502 := Aside0.mk (bb_ BK502.out hb); replace HB := Aside0.mk (below_step (hb2_ HB.out GE501.out GE502.out) hb); (try clear hb); (try clear hb2); (try clear hk); (try clear hi); obtain ⟨hcz50_0, hcz50_1⟩ := cz2_ BK501.out; obtain ⟨hfz50_0, hfz50_1⟩ := fz2_ BK501.out) | ((with_reducible refine gate_callee (f := 85) rfl ?_); refine goesL_ (some 9) rfl rfl Try.func85 (by kernel_rfl) rfl #[.agg #[.int .i64 a0_0, .int .i64 a0_1]] rfl (ml_) ?_; (with_reducible refine (spec_GridOk.calls a0_0 a0_1 false _ A4.out).mono ?_); rintro e w51 ⟨rfl, hb⟩; refine ⟨_, rfl, ?_⟩; replace BK501 := Aside0.mk (bb_ BK501.out hb); replace BK502 := Aside0.mk (bb_ BK502.out hb); replace HB := Aside0.mk (below_step (hb2_ HB.out GE501.out GE502.out) hb); (try clear hb); (try clear hb2); (try clear hk); (try clear hi)))
  go_ret
  exact ⟨by first | rfl | (simp [errW_none, errW_some] <;> rfl) | (simp [*, errW_none, errW_some] <;> rfl), hb2_ HB.out GE501.out GE502.out⟩

end Go.Proofs.Ytdloifaaoiollaa.X
