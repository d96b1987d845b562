-- Written by a program of this session (xprint.py), out of the translation and of hand-written contracts. Lean checks it.
import Derived.Test.YtbdodiaedocmjaaDoorX0
import Derived.Test.YtbdodiaedocmjaaDoorXcints
import Derived.Test.YtbdodiaedocmjaaDoorXimplLoopGaps
import Derived.Test.YtbdodiaedocmjaaDoorXimplwith
namespace Go.Proofs.YtbdodiaedocmjaaDoor.X
open Go.RowKit Go.Proofs.YtbdodiaedocmjaaDoorW.PrintWords Go.Proofs.YtbdodiaedocmjaaDoorW.PrintLast Go.Proofs.YtbdodiaedocmjaaDoorW.PrintMore
attribute [local go_sem] max2_int min2_int max_two min_two max_three min_three max_four min_four   -- for this text's walks alone
set_option linter.unusedVariables false
set_option linter.unusedSimpArgs false

/-! ### impl_SwapGaps: function 21 -/
def impl_SwapGaps.f (k : Nat) (a0_0 : Int) (a0_1 : Int) (a0_2 : Int) (a1 : Int) (a2 : Int) : Option (Int × Int × Int × Bool) := (impl_LoopGaps.f k a0_0 a0_1 a0_2 a1).bind fun t503 => ((slices_Contains_int_int.f k t503 a2).bind fun t506 => (if t506 = true then ((impl_with.f a0_0 a0_1 a0_2 a1 true).bind fun bt507 => ((impl_with.f bt507.1 bt507.2.1 bt507.2.2 a2 false).bind fun bt510 => (some (bt510.1, bt510.2.1, bt510.2.2, true)))) else (some (a0_0, a0_1, a0_2, false))))
theorem impl_SwapGaps.mono : ∀ a0 a1 a2 a3 a4 k, LeO (impl_SwapGaps.f k a0 a1 a2 a3 a4) (impl_SwapGaps.f (k + 1) a0 a1 a2 a3 a4) := by
 intro a0 a1 a2 a3 a4 k
 unfold impl_SwapGaps.f
 repeat' first
   | (with_reducible exact impl_LoopGaps.mono ..)
   | (with_reducible exact slices_Contains_int_int.mono ..)
   | (with_reducible first | exact lr_ _ | exact ln_ _ | refine li_ ?_ ?_ | refine lb_ ?_ fun _ => ?_)
   | exact impl_LoopGaps.mono ..
   | exact slices_Contains_int_int.mono ..
   | exact ln_ _ | refine li_ ?_ ?_ | refine lb_ ?_ fun _ => ?_
set_option maxHeartbeats 8000000 in
set_option maxRecDepth 100000 in
theorem impl_SwapGaps.calls (k : Nat) (a0_0 : Int) (a0_1 : Int) (a0_2 : Int) (a1 : Int) (a2 : Int) (r1 : Int) (r2 : Int) (r3 : Int) (r4 : Bool) (w : World) (h : impl_SwapGaps.f k a0_0 a0_1 a0_2 a1 a2 = some (r1, r2, r3, r4)) :
  Calls Tryd.prog 21 #[.agg #[.int .i64 a0_0, .int .i64 a0_1, .int .i64 a0_2], .int .i64 a1, .int .i64 a2] w fun e w' => e = .returned (.tuple #[.agg #[.int .i64 r1, .int .i64 r2, .int .i64 r3], .bool r4]) ∧ Below w.heap.size w w' := by
 have hu28 := Tryd.underlying28
 have HB := Aside0.mk (Below.refl w.heap.size w)
 have H : ((impl_LoopGaps.f k a0_0 a0_1 a0_2 a1).bind fun t503 => ((slices_Contains_int_int.f k t503 a2).bind fun t506 => (if t506 = true then ((impl_with.f a0_0 a0_1 a0_2 a1 true).bind fun bt507 => ((impl_with.f bt507.1 bt507.2.1 bt507.2.2 a2 false).bind fun bt510 => (some (bt510.1, bt510.2.1, bt510.2.2, true)))) else (some (a0_0, a0_1, a0_2, false))))) = some (r1, r2, r3, r4) := h
 clear h
 replace H := Option.bind_eq_some_iff.mp H
 obtain ⟨t503, A40, H⟩ := H
 replace H : ((slices_Contains_int_int.f k t503 a2).bind fun t506 => (if t506 = true then ((impl_with.f a0_0 a0_1 a0_2 a1 true).bind fun bt507 => ((impl_with.f bt507.1 bt507.2.1 bt507.2.2 a2 false).bind fun bt510 => (some (bt510.1, bt510.2.1, bt510.2.2, true)))) else (some (a0_0, a0_1, a0_2, false)))) = some (r1, r2, r3, r4) := H
 have A4 := Aside0.mk A40
 clear A40
 replace H := Option.bind_eq_some_iff.mp H
 obtain ⟨t506, A50, H⟩ := H
 replace H : (if t506 = true then ((impl_with.f a0_0 a0_1 a0_2 a1 true).bind fun bt507 => ((impl_with.f bt507.1 bt507.2.1 bt507.2.2 a2 false).bind fun bt510 => (some (bt510.1, bt510.2.1, bt510.2.2, true)))) else (some (a0_0, a0_1, a0_2, false))) = some (r1, r2, r3, r4) := H
 have A5 := Aside0.mk A50
 clear A50
 by_cases c6 : t506 = true
 ·subst c6
  have H1 : ((impl_with.f a0_0 a0_1 a0_2 a1 true).bind fun bt507 => ((impl_with.f bt507.1 bt507.2.1 bt507.2.2 a2 false).bind fun bt510 => (some (bt510.1, bt510.2.1, bt510.2.2, true)))) = some (r1, r2, r3, r4) := by rw [if_pos rfl] at H; exact H
  clear H
  have H := H1
  clear H1
  replace H := Option.bind_eq_some_iff.mp H
  obtain ⟨⟨t507, t508, t509⟩, A70, H⟩ := H
  replace H : ((impl_with.f t507 t508 t509 a2 false).bind fun bt510 => (some (bt510.1, bt510.2.1, bt510.2.2, true))) = some (r1, r2, r3, r4) := H
  have A7 := Aside0.mk A70
  clear A70
  replace H := Option.bind_eq_some_iff.mp H
  obtain ⟨⟨t510, t511, t512⟩, A80, H⟩ := H
  replace H : (some (t510, t511, t512, true)) = some (r1, r2, r3, r4) := H
  have A8 := Aside0.mk A80
  clear A80
  simp only [Option.some.injEq, Prod.mk.injEq] at H
  obtain ⟨rfl, rfl, rfl, rfl⟩ := H
  go_enter Tryd.func21, Tryd.ntmps21
  go_wp2_with (first | (refine box_ (N := 3) (cs := #[.int .i64 a0_0, .int .i64 a0_1, .int .i64 a0_2]) (t := 28) ?_; intro gb501 hg w9 hbox hb; have BK501 := Aside0.mk (hbox); have GW501 := HB.g0 hg; have GE501 := HB.g0 hg; replace HB := HB.s0 hb; clear hb hbox hg) | (refine box_ (N := 6) (cs := #[.int .i64 0, .int .i64 0, .int .i64 0]) (t := 28) ?_; intro gb502 hg w10 hbox hb; have BK502 := Aside0.mk (hbox); have GW502 := HB.g1 GE501 hg; have GE502 := HB.g1 GE501 hg; replace HB := HB.s1 GE501 hb; have NB501_502 := BK501.nl hg; have NB502_501 := BK501.nr hg; replace BK501 := BK501.bb hb; clear hb hbox hg; have hnb11 := NB501_502.out; have hnc11 := NB502_501.out; obtain ⟨hcz12_0, hcz12_1, hcz12_2⟩ := cz3_ BK501.out; obtain ⟨hfz12_0, hfz12_1, hfz12_2⟩ := fz3_ BK501.out) | (refine gl_ 10 Tryd.func19 #[.agg #[.int .i64 a0_0, .int .i64 a0_1, .int .i64 a0_2], .int .i64 a1] ?_; (with_reducible refine (impl_LoopGaps.calls k a0_0 a0_1 a0_2 a1 t503 _ A4.out).mono ?_); rintro e w13 ⟨v504, rfl, ho0, hb⟩; refine ⟨_, rfl, ?_⟩; have HO505 := Aside0.mk (Kd.R_lower ho0 (below_size (hb2_ HB.out GE501.out GE502.out))); replace BK501 := BK501.bb hb; replace BK502 := BK502.bb hb; replace HB := HB.s2 GE501 GE502 hb; (try clear hb); (try clear ho0); obtain ⟨Ao14, co14, eo14⟩ := Kd.R_slice HO505.out; subst eo14) | (refine gl_ 12 Tryd.func39 #[.slice Ao14 t503.length co14, .int .i64 a2] ?_; (with_reducible refine (slices_Contains_int_int.calls k _ _ t503 a2 true _ ?side1 ?side2 A5.out).mono ?_); (case side1 => repeat (first | exact (Kd.R_reads' HO505.out).2.2 | (with_reducible refine Kd.C_alloc ?_ _) | (with_reducible refine Kd.C_drewN ?_ _) | (with_reducible refine Kd.C_drew ?_))); (case side2 => exact (Kd.R_reads' HO505.out).2.1); rintro e w' ⟨rfl, ⟨nd, rfl⟩⟩; refine ⟨_, rfl, ?_⟩; (try (rw [drewN_self w13]; generalize hq_ : World.drewN w13 _ = w13; have n0_ : Aside0 (Kd.R (Kd.int .i64) 3 w13 w.heap.size (fun _ => True) (.slice Ao14 t503.length co14) t503) := ⟨by rw [← hq_]; exact (kr_ HO505.out)⟩; have n1_ : Aside0 (w13.heap[gb501]? = some (.cells #[.int .i64 a0_0, .int .i64 a0_1, .int .i64 a0_2] 28 (0, 0))) := ⟨by rw [← hq_]; exact (bk_ BK501.out)⟩; have n2_ : Aside0 (w13.heap[gb502]? = some (.cells #[.int .i64 0, .int .i64 0, .int .i64 0] 28 (0, 0))) := ⟨by rw [← hq_]; exact (bk_ BK502.out)⟩; have n3_ : Aside0 (Below w.heap.size w w13) := ⟨by rw [← hq_]; exact (hb2_ HB.out GE501.out GE502.out)⟩; clear HO505 BK501 BK502 HB hq_; have HO505 := n0_; have BK501 := n1_; have BK502 := n2_; have HB := n3_; clear n0_ n1_ n2_ n3_)); obtain ⟨hcz15_0, hcz15_1, hcz15_2⟩ := cz3_ BK501.out; obtain ⟨hfz15_0, hfz15_1, hfz15_2⟩ := fz3_ BK501.out) | (refine gl_ 17 Tryd.func40 #[.agg #[.int .i64 a0_0, .int .i64 a0_1, .int .i64 a0_2], .int .i64 a1, .bool true] ?_; (with_reducible refine (impl_with.calls a0_0 a0_1 a0_2 a1 true t507 t508 t509 _ A7.out).mono ?_); rintro e w16 ⟨rfl, hb⟩; refine ⟨_, rfl, ?_⟩; replace HO505 := HO505.kb hb; replace BK501 := BK501.bb hb; replace BK502 := BK502.bb hb; replace HB := HB.s2 GE501 GE502 hb; (try clear hb)) | (refine gl_ 19 Tryd.func40 #[.agg #[.int .i64 t507, .int .i64 t508, .int .i64 t509], .int .i64 a2, .bool false] ?_; (with_reducible refine (impl_with.calls t507 t508 t509 a2 false t510 t511 t512 _ A8.out).mono ?_); rintro e w17 ⟨rfl, hb⟩; refine ⟨_, rfl, ?_⟩; replace HO505 := HO505.kb hb; replace BK501 := BK501.bb hb; replace BK502 := BK502.bb hb; replace HB := HB.s2 GE501 GE502 hb; (try clear hb); obtain ⟨hcz18_0, hcz18_1, hcz18_2⟩ := cz3_ BK502.out; obtain ⟨hfz18_0, hfz18_1, hfz18_2⟩ := fz3_ BK502.out))
  refine bodyPost_ret (results_ct rfl _ _ gb502 28 #[.int .i64 t510, .int .i64 t511, .int .i64 t512] (0, 0) _ rfl (bq3_ BK502.out) Tryd.underlying28 rfl (by kernel_rfl)) rfl ?_
  exact ⟨ex_, hb2_ HB.out GE501.out GE502.out⟩
 ·replace c6 := Bool.eq_false_iff.mpr c6
  subst c6
  have H1 : (some (a0_0, a0_1, a0_2, false)) = some (r1, r2, r3, r4) := by rw [if_neg (show ¬ (false = true) by decide)] at H; exact H
  clear H
  have H := H1
  clear H1
  simp only [Option.some.injEq, Prod.mk.injEq] at H
  obtain ⟨rfl, rfl, rfl, rfl⟩ := H
  go_enter Tryd.func21, Tryd.ntmps21
  go_wp2_with (first | (refine box_ (N := 3) (cs := #[.int .i64 a0_0, .int .i64 a0_1, .int .i64 a0_2]) (t := 28) ?_; intro gb501 hg w19 hbox hb; have BK501 := Aside0.mk (hbox); have GW501 := HB.g0 hg; have GE501 := HB.g0 hg; replace HB := HB.s0 hb; clear hb hbox hg) | (refine box_ (N := 6) (cs := #[.int .i64 0, .int .i64 0, .int .i64 0]) (t := 28) ?_; intro gb502 hg w20 hbox hb; have BK502 := Aside0.mk (hbox); have GW502 := HB.g1 GE501 hg; have GE502 := HB.g1 GE501 hg; replace HB := HB.s1 GE501 hb; have NB501_502 := BK501.nl hg; have NB502_501 := BK501.nr hg; replace BK501 := BK501.bb hb; clear hb hbox hg; have hnb21 := NB501_502.out; have hnc21 := NB502_501.out; obtain ⟨hcz22_0, hcz22_1, hcz22_2⟩ := cz3_ BK501.out; obtain ⟨hfz22_0, hfz22_1, hfz22_2⟩ := fz3_ BK501.out) | (refine gl_ 10 Tryd.func19 #[.agg #[.int .i64 a0_0, .int .i64 a0_1, .int .i64 a0_2], .int .i64 a1] ?_; (with_reducible refine (impl_LoopGaps.calls k a0_0 a0_1 a0_2 a1 t503 _ A4.out).mono ?_); rintro e w23 ⟨v504, rfl, ho0, hb⟩; refine ⟨_, rfl, ?_⟩; have HO505 := Aside0.mk (Kd.R_lower ho0 (below_size (hb2_ HB.out GE501.out GE502.out))); replace BK501 := BK501.bb hb; replace BK502 := BK502.bb hb; replace HB := HB.s2 GE501 GE502 hb; (try clear hb); (try clear ho0); obtain ⟨Ao24, co24, eo24⟩ := Kd.R_slice HO505.out; subst eo24) | (refine gl_ 12 Tryd.func39 #[.slice Ao24 t503.length co24, .int .i64 a2] ?_; (with_reducible refine (slices_Contains_int_int.calls k _ _ t503 a2 false _ ?side1 ?side2 A5.out).mono ?_); (case side1 => repeat (first | exact (Kd.R_reads' HO505.out).2.2 | (with_reducible refine Kd.C_alloc ?_ _) | (with_reducible refine Kd.C_drewN ?_ _) | (with_reducible refine Kd.C_drew ?_))); (case side2 => exact (Kd.R_reads' HO505.out).2.1); rintro e w' ⟨rfl, ⟨nd, rfl⟩⟩; refine ⟨_, rfl, ?_⟩; (try (rw [drewN_self w23]; generalize hq_ : World.drewN w23 _ = w23; have n0_ : Aside0 (Kd.R (Kd.int .i64) 3 w23 w.heap.size (fun _ => True) (.slice Ao24 t503.length co24) t503) := ⟨by rw [← hq_]; exact (kr_ HO505.out)⟩; have n1_ : Aside0 (w23.heap[gb501]? = some (.cells #[.int .i64 a0_0, .int .i64 a0_1, .int .i64 a0_2] 28 (0, 0))) := ⟨by rw [← hq_]; exact (bk_ BK501.out)⟩; have n2_ : Aside0 (w23.heap[gb502]? = some (.cells #[.int .i64 0, .int .i64 0, .int .i64 0] 28 (0, 0))) := ⟨by rw [← hq_]; exact (bk_ BK502.out)⟩; have n3_ : Aside0 (Below w.heap.size w w23) := ⟨by rw [← hq_]; exact (hb2_ HB.out GE501.out GE502.out)⟩; clear HO505 BK501 BK502 HB hq_; have HO505 := n0_; have BK501 := n1_; have BK502 := n2_; have HB := n3_; clear n0_ n1_ n2_ n3_)); obtain ⟨hcz25_0, hcz25_1, hcz25_2⟩ := cz3_ BK501.out; obtain ⟨hfz25_0, hfz25_1, hfz25_2⟩ := fz3_ BK501.out; obtain ⟨hcz26_0, hcz26_1, hcz26_2⟩ := cz3_ BK502.out; obtain ⟨hfz26_0, hfz26_1, hfz26_2⟩ := fz3_ BK502.out))
  refine bodyPost_ret (results_ct rfl _ _ gb502 28 #[.int .i64 a0_0, .int .i64 a0_1, .int .i64 a0_2] (0, 0) _ rfl (bq3_ BK502.out) Tryd.underlying28 rfl (by kernel_rfl)) rfl ?_
  exact ⟨ex_, hb2_ HB.out GE501.out GE502.out⟩

end Go.Proofs.YtbdodiaedocmjaaDoor.X
