-- Written by a program of this session (xprint.py), out of the translation and of hand-written contracts. Lean checks it.
import Derived.Test.YtdloifaaoiollaaX0
import Derived.Test.YtdloifaaoiollaaXcin
import Derived.Test.YtdloifaaoiollaaXcreach
namespace Go.Proofs.Ytdloifaaoiollaa.X
open Go.RowKit Go.Proofs.YtdloifaaoiollaaW.PrintWords Go.Proofs.YtdloifaaoiollaaW.PrintLast Go.Proofs.YtdloifaaoiollaaW.PrintMore
attribute [local go_sem] max2_int min2_int max_two min_two max_three min_three max_four min_four   -- for this text's walks alone
set_option linter.unusedVariables false
set_option linter.unusedSimpArgs false

/-! ### impl_DistanceOf: function 31 -/
def impl_DistanceOf.f (k : Nat) (a0_0 : Int) (a0_1 : Int) (a0_2 : Int) (a1 : Int) (a2 : Int) : Option (Int) := (impl_isIn.f a0_0 a0_1 a0_2 (([a1, a2] : List Int))).bind fun t505 => (if t505 = true then ((impl_distances.f k a0_0 a0_1 a0_2 a1).bind fun t506 => (if 0 ≤ a2 then (if a2 < (t506.length : Int) then (some (rd t506 a2)) else (none)) else (none))) else (some (-1)))
theorem impl_DistanceOf.mono : ∀ a0 a1 a2 a3 a4 k, LeO (impl_DistanceOf.f k a0 a1 a2 a3 a4) (impl_DistanceOf.f (k + 1) a0 a1 a2 a3 a4) := by
 intro a0 a1 a2 a3 a4 k
 unfold impl_DistanceOf.f
 repeat' first
   | (with_reducible exact impl_distances.mono _ _ _ _ _)
   | (with_reducible exact LeO.refl _)
   | (with_reducible exact LeO.none _)
   | (with_reducible refine LeO.ite ?_ ?_)
   | (with_reducible refine LeO.bind ?_ (fun _ => ?_))
   | exact impl_distances.mono _ _ _ _ _
   | exact LeO.none _
   | refine LeO.ite ?_ ?_
   | refine LeO.bind ?_ (fun _ => ?_)
set_option maxHeartbeats 8000000 in
set_option maxRecDepth 100000 in
theorem impl_DistanceOf.calls (k : Nat) (a0_0 : Int) (a0_1 : Int) (a0_2 : Int) (a1 : Int) (a2 : Int) (r : Int) (w : World) (h : impl_DistanceOf.f k a0_0 a0_1 a0_2 a1 a2 = some r) :
  Calls Try.prog 31 #[.agg #[.int .i64 a0_0, .int .i64 a0_1, .int .i64 a0_2], .int .i64 a1, .int .i64 a2] w fun e w' => e = .returned (.int .i64 r) ∧ Below w.heap.size w w' := by
 have hu29 := Try.underlying29
 have HB := Aside0.mk (Below.refl w.heap.size w)
 have H : ((impl_isIn.f a0_0 a0_1 a0_2 (([a1, a2] : List Int))).bind fun t505 => (if t505 = true then ((impl_distances.f k a0_0 a0_1 a0_2 a1).bind fun t506 => (if 0 ≤ a2 then (if a2 < (t506.length : Int) then (some (rd t506 a2)) else (none)) else (none))) else (some (-1)))) = some r := h
 clear h
 obtain ⟨y502, hy502⟩ : ∃ y_ : List Int, y_ = (([a1, a2] : List Int)) := ⟨_, rfl⟩
 replace H : ((impl_isIn.f a0_0 a0_1 a0_2 y502).bind fun t505 => (if t505 = true then ((impl_distances.f k a0_0 a0_1 a0_2 a1).bind fun t506 => (if 0 ≤ a2 then (if a2 < (t506.length : Int) then (some (rd t506 a2)) else (none)) else (none))) else (some (-1)))) = some r := by first | (rw [hy502]; with_reducible exact H) | (have H2_ := (Option.bind_some _ _).symm.trans H; rw [hy502]; with_reducible exact H2_) | (have H2_ := (Option.bind_some _ _).symm.trans H; with_reducible exact H2_) | with_reducible exact H | (rw [hy502]; exact H) | exact H
 have Ny502 := Aside0.mk hy502
 clear hy502
 replace H := Option.bind_eq_some_iff.mp H
 obtain ⟨t505, A40, H⟩ := H
 replace H : (if t505 = true then ((impl_distances.f k a0_0 a0_1 a0_2 a1).bind fun t506 => (if 0 ≤ a2 then (if a2 < (t506.length : Int) then (some (rd t506 a2)) else (none)) else (none))) else (some (-1))) = some r := H
 have A4 := Aside0.mk A40
 clear A40
 by_cases c5 : t505 = true
 ·subst c5
  have H1 : ((impl_distances.f k a0_0 a0_1 a0_2 a1).bind fun t506 => (if 0 ≤ a2 then (if a2 < (t506.length : Int) then (some (rd t506 a2)) else (none)) else (none))) = some r := by rw [if_pos rfl] at H; exact H
  clear H
  have H := H1
  clear H1
  replace H := Option.bind_eq_some_iff.mp H
  obtain ⟨t506, A60, H⟩ := H
  replace H : (if 0 ≤ a2 then (if a2 < (t506.length : Int) then (some (rd t506 a2)) else (none)) else (none)) = some r := H
  have A6 := Aside0.mk A60
  clear A60
  by_cases c7 : 0 ≤ a2
  ·rw [if_pos c7] at H
   have c7b0 : decide (0 ≤ a2) = true := decide_eq_true c7
   clear c7
   by_cases c8 : a2 < (t506.length : Int)
   ·rw [if_pos c8] at H
    have c8b0 : decide (a2 < (t506.length : Int)) = true := decide_eq_true c8
    clear c8
    obtain rfl := Option.some.inj H
    go_enter Try.func31, Try.ntmps31
    go_wp2_with (first | ((with_reducible refine gate_dst (N := 3) rfl ?_); refine box_event ?hg (N := 3) ?hd (cs := #[.int .i64 a0_0, .int .i64 a0_1, .int .i64 a0_2]) (t := 29) ?hr ?_; (case hd => rfl); (case hg => rfl); (case hr => first | (go_simp; done) | (go_simp; rfl)); intro gb501 hg w9 hbox hb; have n0_ := Aside0.mk (below_step (hb0_ HB.out) hb); have n1_ := Aside0.mk (hbox); have n2_ := Aside0.mk ((gs_ hg (hb0_ HB.out))); have n3_ := Aside0.mk ((gs_ hg (hb0_ HB.out))); clear HB; have HB := n0_; have BK501 := n1_; have GW501 := n2_; have GE501 := n3_; clear n0_ n1_ n2_ n3_; clear hb hbox hg; obtain ⟨hcz10_0, hcz10_1, hcz10_2⟩ := cz3_ BK501.out; obtain ⟨hfz10_0, hfz10_1, hfz10_2⟩ := fz3_ BK501.out) | ((with_reducible refine gate_dst (N := 10) rfl ?_); refine Kd.R_lit (Kd.int .i64) _ 3 ?hg (N := 10) ?hd (xs := ([a1, a2] : List Int)) (inner := [.int .i64 a1, .int .i64 a2]) (ok := fun _ => True) (okp := fun _ => True) ?hr ?hp (fun _ hk => hk) trivial (Below.refl _ _) (Nat.le_refl _) (by simp) ?_; (case hd => rfl); (case hg => rfl); (case hr => first | (go_simp; done) | (go_simp; rfl)); (case hp => exact (Reps.one (show Kd.M (Kd.int .i64) _ _ _ a1 [.int .i64 a1] from rfl) (Reps.one (show Kd.M (Kd.int .i64) _ _ _ a2 [.int .i64 a2] from rfl) (Reps.none _ _)))); intro v503 w11 ho12 hb hg_ hnew_; clear hg_ hnew_; (first | rw [← Ny502.out] at ho12 | (simp only [Int.reduceToNat] at ho12; rw [← Ny502.out] at ho12)); have HO504 := Aside0.mk (Kd.R_lower ho12 (below_size (hb1_ HB.out GE501.out))); replace BK501 := Aside0.mk (bb_ BK501.out hb); replace HB := Aside0.mk (below_step (hb1_ HB.out GE501.out) hb); clear hb ho12; obtain ⟨Ao13, co13, eo13⟩ := Kd.R_slice HO504.out; subst eo13) | ((with_reducible refine gate_callee (f := 80) rfl ?_); refine goesL_ (some 11) rfl rfl Try.func80 (by kernel_rfl) rfl #[.agg #[.int .i64 a0_0, .int .i64 a0_1, .int .i64 a0_2], .slice Ao13 y502.length co13] rfl (ml_) ?_; (with_reducible refine (impl_isIn.calls a0_0 a0_1 a0_2 _ _ y502 true _ ?side1 ?side2 A4.out).mono ?_); (case side1 => repeat (first | exact (Kd.R_reads' HO504.out).2.2 | (with_reducible refine Kd.C_alloc ?_ _) | (with_reducible refine Kd.C_drewN ?_ _) | (with_reducible refine Kd.C_drew ?_))); (case side2 => exact (Kd.R_reads' HO504.out).2.1); rintro e w14 ⟨rfl, hb⟩; refine ⟨_, rfl, ?_⟩; replace HO504 := Aside0.mk (Kd.R_below (kr_ HO504.out) hb); replace BK501 := Aside0.mk (bb_ BK501.out hb); replace HB := Aside0.mk (below_step (hb1_ HB.out GE501.out) hb); (try clear hb); (try clear hb2); (try clear hk); (try clear hi); obtain ⟨hcz15_0, hcz15_1, hcz15_2⟩ := cz3_ BK501.out; obtain ⟨hfz15_0, hfz15_1, hfz15_2⟩ := fz3_ BK501.out) | ((with_reducible refine gate_callee (f := 81) rfl ?_); refine goesL_ (some 15) rfl rfl Try.func81 (by kernel_rfl) rfl #[.agg #[.int .i64 a0_0, .int .i64 a0_1, .int .i64 a0_2], .int .i64 a1] rfl (ml_) ?_; (with_reducible refine (impl_distances.calls k a0_0 a0_1 a0_2 a1 t506 _ A6.out).mono ?_); rintro e w16 ⟨v507, rfl, ho0, hb⟩; refine ⟨_, rfl, ?_⟩; have n0_ := Aside0.mk (Kd.R_elder' (kr_ HO504.out) (Kd.R_base ho0) hb); have n1_ := Aside0.mk (Kd.R_lower (Kd.R_new' ho0 (Kd.R_lt (kr_ HO504.out))) (below_size (hb1_ HB.out GE501.out))); have n2_ := Aside0.mk (bb_ BK501.out hb); have n3_ := Aside0.mk (below_step (hb1_ HB.out GE501.out) hb); clear HO504; clear BK501; clear HB; have HO504 := n0_; have HO508 := n1_; have BK501 := n2_; have HB := n3_; clear n0_ n1_ n2_ n3_; (try clear hb); (try clear hb2); (try clear hk); (try clear hi); (try clear ho0); obtain ⟨Ao17, co17, eo17⟩ := Kd.R_slice HO508.out; subst eo17; have p509 : 0 ≤ (a2 : Int) := of_decide_eq_true (as_); have q509 : a2 < (t506.length : Int) := of_decide_eq_true (as_); obtain ⟨ad509, e509, hx509_0⟩ := Kd.at_int (Kd.R_reads' HO508.out).2.2 a2 p509 q509; cases e509; replace p509 := eq_true p509; replace q509 := eq_true q509))
    go_ret
    exact ⟨by first | rfl | (simp [errW_none, errW_some] <;> rfl) | (simp [*, errW_none, errW_some] <;> rfl), hb1_ HB.out GE501.out⟩
   ·rw [if_neg c8] at H
    exact absurd H (by simp)
  ·rw [if_neg c7] at H
   exact absurd H (by simp)
 ·replace c5 := Bool.eq_false_iff.mpr c5
  subst c5
  have H1 : (some (-1)) = some r := by rw [if_neg (show ¬ (false = true) by decide)] at H; exact H
  clear H
  have H := H1
  clear H1
  obtain rfl := Option.some.inj H
  go_enter Try.func31, Try.ntmps31
  go_wp2_with (first | ((with_reducible refine gate_dst (N := 3) rfl ?_); refine box_event ?hg (N := 3) ?hd (cs := #[.int .i64 a0_0, .int .i64 a0_1, .int .i64 a0_2]) (t := 29) ?hr ?_; (case hd => rfl); (case hg => rfl); (case hr => first | (go_simp; done) | (go_simp; rfl)); intro gb501 hg w18 hbox hb; have n0_ := Aside0.mk (below_step (hb0_ HB.out) hb); have n1_ := Aside0.mk (hbox); have n2_ := Aside0.mk ((gs_ hg (hb0_ HB.out))); have n3_ := Aside0.mk ((gs_ hg (hb0_ HB.out))); clear HB; have HB := n0_; have BK501 := n1_; have GW501 := n2_; have GE501 := n3_; clear n0_ n1_ n2_ n3_; clear hb hbox hg; obtain ⟨hcz19_0, hcz19_1, hcz19_2⟩ := cz3_ BK501.out; obtain ⟨hfz19_0, hfz19_1, hfz19_2⟩ := fz3_ BK501.out) | ((with_reducible refine gate_dst (N := 10) rfl ?_); refine Kd.R_lit (Kd.int .i64) _ 3 ?hg (N := 10) ?hd (xs := ([a1, a2] : List Int)) (inner := [.int .i64 a1, .int .i64 a2]) (ok := fun _ => True) (okp := fun _ => True) ?hr ?hp (fun _ hk => hk) trivial (Below.refl _ _) (Nat.le_refl _) (by simp) ?_; (case hd => rfl); (case hg => rfl); (case hr => first | (go_simp; done) | (go_simp; rfl)); (case hp => exact (Reps.one (show Kd.M (Kd.int .i64) _ _ _ a1 [.int .i64 a1] from rfl) (Reps.one (show Kd.M (Kd.int .i64) _ _ _ a2 [.int .i64 a2] from rfl) (Reps.none _ _)))); intro v503 w20 ho21 hb hg_ hnew_; clear hg_ hnew_; (first | rw [← Ny502.out] at ho21 | (simp only [Int.reduceToNat] at ho21; rw [← Ny502.out] at ho21)); have HO504 := Aside0.mk (Kd.R_lower ho21 (below_size (hb1_ HB.out GE501.out))); replace BK501 := Aside0.mk (bb_ BK501.out hb); replace HB := Aside0.mk (below_step (hb1_ HB.out GE501.out) hb); clear hb ho21; obtain ⟨Ao22, co22, eo22⟩ := Kd.R_slice HO504.out; subst eo22) | ((with_reducible refine gate_callee (f := 80) rfl ?_); refine goesL_ (some 11) rfl rfl Try.func80 (by kernel_rfl) rfl #[.agg #[.int .i64 a0_0, .int .i64 a0_1, .int .i64 a0_2], .slice Ao22 y502.length co22] rfl (ml_) ?_; (with_reducible refine (impl_isIn.calls a0_0 a0_1 a0_2 _ _ y502 false _ ?side1 ?side2 A4.out).mono ?_); (case side1 => repeat (first | exact (Kd.R_reads' HO504.out).2.2 | (with_reducible refine Kd.C_alloc ?_ _) | (with_reducible refine Kd.C_drewN ?_ _) | (with_reducible refine Kd.C_drew ?_))); (case side2 => exact (Kd.R_reads' HO504.out).2.1); rintro e w23 ⟨rfl, hb⟩; refine ⟨_, rfl, ?_⟩; replace HO504 := Aside0.mk (Kd.R_below (kr_ HO504.out) hb); replace BK501 := Aside0.mk (bb_ BK501.out hb); replace HB := Aside0.mk (below_step (hb1_ HB.out GE501.out) hb); (try clear hb); (try clear hb2); (try clear hk); (try clear hi)))
  go_ret
  exact ⟨by first | rfl | (simp [errW_none, errW_some] <;> rfl) | (simp [*, errW_none, errW_some] <;> rfl), hb1_ HB.out GE501.out⟩

end Go.Proofs.Ytdloifaaoiollaa.X
