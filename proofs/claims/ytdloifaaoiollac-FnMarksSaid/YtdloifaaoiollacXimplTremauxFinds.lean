-- Written by a program of this session (xprint.py), out of the translation and of hand-written contracts. Lean checks it.
import Derived.Test.YtdloifaaoiollacX0
import Derived.Test.YtdloifaaoiollacXcints
import Derived.Test.YtdloifaaoiollacXimplTremauxWalk
namespace Go.Proofs.Ytdloifaaoiollac.X
open Go.RowKit Go.Proofs.YtdloifaaoiollacW.PrintWords Go.Proofs.YtdloifaaoiollacW.PrintLast Go.Proofs.YtdloifaaoiollacW.PrintMore
attribute [local go_sem] max2_int min2_int max_two min_two max_three min_three max_four min_four   -- for this text's walks alone
set_option linter.unusedVariables false
set_option linter.unusedSimpArgs false

/-! ### impl_TremauxFinds: function 21 -/
def impl_TremauxFinds.f (k : Nat) (a0_0 : Int) (a0_1 : Int) (a0_2 : Int) (a1 : Int) (a2 : Int) : Option (Bool) := (impl_TremauxWalk.f k a0_0 a0_1 a0_2 a1).bind fun bt502 => ((slices_Contains_int_int.f k bt502.1 a2).bind fun t508 => (some t508))
theorem impl_TremauxFinds.mono : ∀ a0 a1 a2 a3 a4 k, LeO (impl_TremauxFinds.f k a0 a1 a2 a3 a4) (impl_TremauxFinds.f (k + 1) a0 a1 a2 a3 a4) := by
 intro a0 a1 a2 a3 a4 k
 unfold impl_TremauxFinds.f
 repeat' first
   | (with_reducible exact impl_TremauxWalk.mono _ _ _ _ _)
   | (with_reducible exact slices_Contains_int_int.mono _ _ _)
   | (with_reducible exact LeO.refl _)
   | (with_reducible exact LeO.none _)
   | (with_reducible refine LeO.ite ?_ ?_)
   | (with_reducible refine LeO.bind ?_ (fun _ => ?_))
   | exact impl_TremauxWalk.mono _ _ _ _ _
   | exact slices_Contains_int_int.mono _ _ _
   | exact LeO.none _
   | refine LeO.ite ?_ ?_
   | refine LeO.bind ?_ (fun _ => ?_)
set_option maxHeartbeats 8000000 in
set_option maxRecDepth 100000 in
theorem impl_TremauxFinds.calls (k : Nat) (a0_0 : Int) (a0_1 : Int) (a0_2 : Int) (a1 : Int) (a2 : Int) (r : Bool) (w : World) (h : impl_TremauxFinds.f k a0_0 a0_1 a0_2 a1 a2 = some r) :
  Calls Try.prog 21 #[.agg #[.int .i64 a0_0, .int .i64 a0_1, .int .i64 a0_2], .int .i64 a1, .int .i64 a2] w fun e w' => e = .returned (.bool r) ∧ Below w.heap.size w w' := by
 have hu36 := Try.underlying36
 have HB := Aside0.mk (Below.refl w.heap.size w)
 have H : ((impl_TremauxWalk.f k a0_0 a0_1 a0_2 a1).bind fun bt502 => ((slices_Contains_int_int.f k bt502.1 a2).bind fun t508 => (some t508))) = some r := h
 clear h
 replace H := Option.bind_eq_some_iff.mp H
 obtain ⟨⟨t502, t505⟩, A40, H⟩ := H
 replace H : ((slices_Contains_int_int.f k t502 a2).bind fun t508 => (some t508)) = some r := H
 have A4 := Aside0.mk A40
 clear A40
 replace H := Option.bind_eq_some_iff.mp H
 obtain ⟨t508, A50, H⟩ := H
 replace H : (some t508) = some r := H
 have A5 := Aside0.mk A50
 clear A50
 obtain rfl := Option.some.inj H
 go_enter Try.func21, Try.ntmps21
 go_wp2_with (first | ((with_reducible refine gate_dst (N := 3) rfl ?_); refine box_event ?hg (N := 3) ?hd (cs := #[.int .i64 a0_0, .int .i64 a0_1, .int .i64 a0_2]) (t := 36) ?hr ?_; (case hd => rfl); (case hg => rfl); (case hr => first | (go_simp; done) | (go_simp; rfl)); intro gb501 hg w6 hbox hb; have n0_ := Aside0.mk (below_step (hb0_ HB.out) hb); have n1_ := Aside0.mk (hbox); have n2_ := Aside0.mk ((gs_ hg (hb0_ HB.out))); have n3_ := Aside0.mk ((gs_ hg (hb0_ HB.out))); clear HB; have HB := n0_; have BK501 := n1_; have GW501 := n2_; have GE501 := n3_; clear n0_ n1_ n2_ n3_; clear hb hbox hg; obtain ⟨hcz7_0, hcz7_1, hcz7_2⟩ := cz3_ BK501.out; obtain ⟨hfz7_0, hfz7_1, hfz7_2⟩ := fz3_ BK501.out) | ((with_reducible refine gate_callee (f := 18) rfl ?_); refine goesL_ (some 12) rfl rfl Try.func18 (by kernel_rfl) rfl #[.agg #[.int .i64 a0_0, .int .i64 a0_1, .int .i64 a0_2], .int .i64 a1] rfl (ml_) ?_; (with_reducible refine (impl_TremauxWalk.calls k a0_0 a0_1 a0_2 a1 t502 t505 _ A4.out).mono ?_); rintro e w8 ⟨v503, v506, rfl, ho0, ho1, hb⟩; refine ⟨_, rfl, ?_⟩; have HO504 := Aside0.mk (Kd.R_lower ho0 (below_size (hb1_ HB.out GE501.out))); have HO507 := Aside0.mk (Kd.R_lower ho1 (below_size (hb1_ HB.out GE501.out))); replace BK501 := Aside0.mk (bb_ BK501.out hb); replace HB := Aside0.mk (below_step (hb1_ HB.out GE501.out) hb); (try clear hb); (try clear hb2); (try clear hk); (try clear hi); (try clear ho0); (try clear ho1); obtain ⟨Ao9, co9, eo9⟩ := Kd.R_slice HO504.out; subst eo9) | ((with_reducible refine gate_callee (f := 53) rfl ?_); refine goesL_ (some 17) rfl rfl Try.func53 (by kernel_rfl) rfl #[.slice Ao9 t502.length co9, .int .i64 a2] rfl (ml_) ?_; (with_reducible refine (slices_Contains_int_int.calls k _ _ t502 a2 t508 _ ?side1 ?side2 A5.out).mono ?_); (case side1 => repeat (first | exact (Kd.R_reads' HO504.out).2.2 | (with_reducible refine Kd.C_alloc ?_ _) | (with_reducible refine Kd.C_drewN ?_ _) | (with_reducible refine Kd.C_drew ?_))); (case side2 => exact (Kd.R_reads' HO504.out).2.1); rintro e w' ⟨rfl, ⟨nd, rfl⟩⟩; refine ⟨_, rfl, ?_⟩))
 go_ret
 exact ⟨by first | rfl | (simp [errW_none, errW_some] <;> rfl) | (simp [*, errW_none, errW_some] <;> rfl), hb1_ HB.out GE501.out⟩

end Go.Proofs.Ytdloifaaoiollac.X
