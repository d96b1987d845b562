-- Written by a program of this session (xprint.py), out of the translation and of hand-written contracts. Lean checks it.
import Derived.Test.YtnfclfpicemojaaX0
import Derived.Test.YtnfclfpicemojaaXcin
import Derived.Test.YtnfclfpicemojaaXcreach
namespace Go.Proofs.Ytnfclfpicemojaa.X
open Go.RowKit Go.Proofs.YtnfclfpicemojaaW.PrintWords Go.Proofs.YtnfclfpicemojaaW.PrintLast Go.Proofs.YtnfclfpicemojaaW.PrintMore
attribute [local go_sem] max2_int min2_int max_two min_two max_three min_three max_four min_four   -- for this text's walks alone
set_option linter.unusedVariables false
set_option linter.unusedSimpArgs false

/-! ### impl_DistanceOf: function 10 -/
def impl_DistanceOf.f (k : Nat) (a0_0 : Int) (a0_1 : Int) (a0_2 : Int) (a1 : Int) (a2 : Int) : Option (Int) := (impl_isIn.f a0_0 a0_1 a0_2 (([a1, a2] : List Int))).bind fun t505 => (if t505 = true then ((impl_distances.f k a0_0 a0_1 a0_2 a1).bind fun t506 => (if 0 ≤ a2 then (if a2 < (t506.length : Int) then (some (rd t506 a2)) else (none)) else (none))) else (some (-1)))
theorem impl_DistanceOf.mono : ∀ a0 a1 a2 a3 a4 k, LeO (impl_DistanceOf.f k a0 a1 a2 a3 a4) (impl_DistanceOf.f (k + 1) a0 a1 a2 a3 a4) := by
 intro a0 a1 a2 a3 a4 k
 unfold impl_DistanceOf.f
 repeat' first
   | (with_reducible exact impl_distances.mono ..)
   | (with_reducible first | exact lr_ _ | exact ln_ _ | refine li_ ?_ ?_ | refine lb_ ?_ fun _ => ?_)
   | exact impl_distances.mono ..
   | exact ln_ _ | refine li_ ?_ ?_ | refine lb_ ?_ fun _ => ?_
set_option maxHeartbeats 8000000 in
set_option maxRecDepth 100000 in
theorem impl_DistanceOf.calls (k : Nat) (a0_0 : Int) (a0_1 : Int) (a0_2 : Int) (a1 : Int) (a2 : Int) (r : Int) (w : World) (h : impl_DistanceOf.f k a0_0 a0_1 a0_2 a1 a2 = some r) :
  Calls Try.prog 10 #[.agg #[.int .i64 a0_0, .int .i64 a0_1, .int .i64 a0_2], .int .i64 a1, .int .i64 a2] w fun e w' => e = .returned (.int .i64 r) ∧ Below w.heap.size w w' := by
 have hu32 := Try.underlying32
 have HB := Aside0.mk (Below.refl w.heap.size w)
 have H : ((impl_isIn.f a0_0 a0_1 a0_2 (([a1, a2] : List Int))).bind fun t505 => (if t505 = true then ((impl_distances.f k a0_0 a0_1 a0_2 a1).bind fun t506 => (if 0 ≤ a2 then (if a2 < (t506.length : Int) then (some (rd t506 a2)) else (none)) else (none))) else (some (-1)))) = some r := h
 clear h
 obtain ⟨y502, hy502⟩ : ∃ y_ : List Int, y_ = (([a1, a2] : List Int)) := ⟨_, rfl⟩
 replace H : ((impl_isIn.f a0_0 a0_1 a0_2 y502).bind fun t505 => (if t505 = true then ((impl_distances.f k a0_0 a0_1 a0_2 a1).bind fun t506 => (if 0 ≤ a2 then (if a2 < (t506.length : Int) then (some (rd t506 a2)) else (none)) else (none))) else (some (-1)))) = some r := by first | (rw [hy502]; with_reducible exact H) | (have H2_ := (Option.bind_some _ _).symm.trans H; rw [hy502]; with_reducible exact H2_) | (have H2_ := (Option.bind_some _ _).symm.trans H; with_reducible exact H2_) | with_reducible exact H | (rw [hy502]; exact H) | exact H
 have Ny502 := Aside0.mk hy502
 clear hy502
 replace H := Option.bind_eq_some_iff.mp H
 obtain ⟨t505, A40, H⟩ := H
 replace H : (if t505 = true then ((impl_distances.f k a0_0 a0_1 a0_2 a1).bind fun t506 => (if 0 ≤ a2 then (if a2 < (t506.length : Int) then (some (rd t506 a2)) else (none)) else (none))) else (some (-1))) = some r := H
 have A4 := Aside0.mk A40
 clear A40
 by_cases c5 : t505 = true
 ·subst c5
  have H1 : ((impl_distances.f k a0_0 a0_1 a0_2 a1).bind fun t506 => (if 0 ≤ a2 then (if a2 < (t506.length : Int) then (some (rd t506 a2)) else (none)) else (none))) = some r := by rw [if_pos rfl] at H; exact H
  clear H
  have H := H1
  clear H1
  replace H := Option.bind_eq_some_iff.mp H
  obtain ⟨t506, A60, H⟩ := H
  replace H : (if 0 ≤ a2 then (if a2 < (t506.length : Int) then (some (rd t506 a2)) else (none)) else (none)) = some r := H
  have A6 := Aside0.mk A60
  clear A60
  by_cases c7 : 0 ≤ a2
  ·rw [if_pos c7] at H
   have c7b0 : decide (0 ≤ a2) = true := decide_eq_true c7
   clear c7
   by_cases c8 : a2 < (t506.length : Int)
   ·rw [if_pos c8] at H
    have c8b0 : decide (a2 < (t506.length : Int)) = true := decide_eq_true c8
    clear c8
    obtain rfl := Option.some.inj H
    go_enter Try.func10, Try.ntmps10
    go_wp2_with (first | (refine box_ (N := 3) (cs := #[.int .i64 a0_0, .int .i64 a0_1, .int .i64 a0_2]) (t := 32) ?_; intro gb501 hg w9 hbox hb; have BK501 := Aside0.mk (hbox); have GW501 := HB.g0 hg; have GE501 := HB.g0 hg; replace HB := HB.s0 hb; clear hb hbox hg; obtain ⟨hcz10_0, hcz10_1, hcz10_2⟩ := cz3_ BK501.out; obtain ⟨hfz10_0, hfz10_1, hfz10_2⟩ := fz3_ BK501.out) | ((with_reducible refine gate_dst (N := 10) rfl ?_); refine Kd.R_lit (Kd.int .i64) _ 3 ?hg (N := 10) ?hd (xs := ([a1, a2] : List Int)) (inner := [.int .i64 a1, .int .i64 a2]) (ok := fun _ => True) (okp := fun _ => True) ?hr ?hp (fun _ hk => hk) trivial (Below.refl _ _) (Nat.le_refl _) (by simp) ?_; (case hd => rfl); (case hg => rfl); (case hr => first | (go_simp; done) | (go_simp; rfl)); (case hp => exact (Reps.one (show Kd.M (Kd.int .i64) _ _ _ a1 [.int .i64 a1] from rfl) (Reps.one (show Kd.M (Kd.int .i64) _ _ _ a2 [.int .i64 a2] from rfl) (Reps.none _ _)))); intro v503 w11 ho12 hb hg_ hnew_; clear hg_ hnew_; (first | rw [← Ny502.out] at ho12 | (simp only [Int.reduceToNat] at ho12; rw [← Ny502.out] at ho12)); have HO504 := Aside0.mk (Kd.R_lower ho12 (below_size (hb1_ HB.out GE501.out))); replace BK501 := BK501.bb hb; replace HB := HB.s1 GE501 hb; clear hb ho12; obtain ⟨Ao13, co13, eo13⟩ := Kd.R_slice HO504.out; subst eo13) | (refine gl_ 11 Try.func21 #[.agg #[.int .i64 a0_0, .int .i64 a0_1, .int .i64 a0_2], .slice Ao13 y502.length co13] ?_; (with_reducible refine (impl_isIn.calls a0_0 a0_1 a0_2 _ _ y502 true _ ?side1 ?side2 A4.out).mono ?_); (case side1 => repeat (first | exact (Kd.R_reads' HO504.out).2.2 | (with_reducible refine Kd.C_alloc ?_ _) | (with_reducible refine Kd.C_drewN ?_ _) | (with_reducible refine Kd.C_drew ?_))); (case side2 => exact (Kd.R_reads' HO504.out).2.1); rintro e w14 ⟨rfl, hb⟩; refine ⟨_, rfl, ?_⟩; replace HO504 := HO504.kb hb; replace BK501 := BK501.bb hb; replace HB := HB.s1 GE501 hb; (try clear hb); obtain ⟨hcz15_0, hcz15_1, hcz15_2⟩ := cz3_ BK501.out; obtain ⟨hfz15_0, hfz15_1, hfz15_2⟩ := fz3_ BK501.out) | (refine gl_ 15 Try.func22 #[.agg #[.int .i64 a0_0, .int .i64 a0_1, .int .i64 a0_2], .int .i64 a1] ?_; (with_reducible refine (impl_distances.calls k a0_0 a0_1 a0_2 a1 t506 _ A6.out).mono ?_); rintro e w16 ⟨v507, rfl, ho0, hb⟩; refine ⟨_, rfl, ?_⟩; have HO508 := Aside0.mk (Kd.R_lower (Kd.R_new' ho0 (Kd.R_lt (kr_ HO504.out))) (below_size (hb1_ HB.out GE501.out))); replace HO504 := Aside0.mk (Kd.R_elder' (kr_ HO504.out) (Kd.R_base ho0) hb); replace BK501 := BK501.bb hb; replace HB := HB.s1 GE501 hb; (try clear hb); (try clear ho0); obtain ⟨Ao17, co17, eo17⟩ := Kd.R_slice HO508.out; subst eo17; have p509 : 0 ≤ (a2 : Int) := of_decide_eq_true (as_); have q509 : a2 < (t506.length : Int) := of_decide_eq_true (as_); obtain ⟨ad509, e509, hx509_0⟩ := Kd.at_int (Kd.R_reads' HO508.out).2.2 a2 p509 q509; cases e509; replace p509 := eq_true p509; replace q509 := eq_true q509))
    go_ret
    exact ⟨ex_, hb1_ HB.out GE501.out⟩
   ·rw [if_neg c8] at H
    exact absurd H (by simp)
  ·rw [if_neg c7] at H
   exact absurd H (by simp)
 ·replace c5 := Bool.eq_false_iff.mpr c5
  subst c5
  have H1 : (some (-1)) = some r := by rw [if_neg (show ¬ (false = true) by decide)] at H; exact H
  clear H
  have H := H1
  clear H1
  obtain rfl := Option.some.inj H
  go_enter Try.func10, Try.ntmps10
  go_wp2_with (first | (refine box_ (N := 3) (cs := #[.int .i64 a0_0, .int .i64 a0_1, .int .i64 a0_2]) (t := 32) ?_; intro gb501 hg w18 hbox hb; have BK501 := Aside0.mk (hbox); have GW501 := HB.g0 hg; have GE501 := HB.g0 hg; replace HB := HB.s0 hb; clear hb hbox hg; obtain ⟨hcz19_0, hcz19_1, hcz19_2⟩ := cz3_ BK501.out; obtain ⟨hfz19_0, hfz19_1, hfz19_2⟩ := fz3_ BK501.out) | ((with_reducible refine gate_dst (N := 10) rfl ?_); refine Kd.R_lit (Kd.int .i64) _ 3 ?hg (N := 10) ?hd (xs := ([a1, a2] : List Int)) (inner := [.int .i64 a1, .int .i64 a2]) (ok := fun _ => True) (okp := fun _ => True) ?hr ?hp (fun _ hk => hk) trivial (Below.refl _ _) (Nat.le_refl _) (by simp) ?_; (case hd => rfl); (case hg => rfl); (case hr => first | (go_simp; done) | (go_simp; rfl)); (case hp => exact (Reps.one (show Kd.M (Kd.int .i64) _ _ _ a1 [.int .i64 a1] from rfl) (Reps.one (show Kd.M (Kd.int .i64) _ _ _ a2 [.int .i64 a2] from rfl) (Reps.none _ _)))); intro v503 w20 ho21 hb hg_ hnew_; clear hg_ hnew_; (first | rw [← Ny502.out] at ho21 | (simp only [Int.reduceToNat] at ho21; rw [← Ny502.out] at ho21)); have HO504 := Aside0.mk (Kd.R_lower ho21 (below_size (hb1_ HB.out GE501.out))); replace BK501 := BK501.bb hb; replace HB := HB.s1 GE501 hb; clear hb ho21; obtain ⟨Ao22, co22, eo22⟩ := Kd.R_slice HO504.out; subst eo22) | (refine gl_ 11 Try.func21 #[.agg #[.int .i64 a0_0, .int .i64 a0_1, .int .i64 a0_2], .slice Ao22 y502.length co22] ?_; (with_reducible refine (impl_isIn.calls a0_0 a0_1 a0_2 _ _ y502 false _ ?side1 ?side2 A4.out).mono ?_); (case side1 => repeat (first | exact (Kd.R_reads' HO504.out).2.2 | (with_reducible refine Kd.C_alloc ?_ _) | (with_reducible refine Kd.C_drewN ?_ _) | (with_reducible refine Kd.C_drew ?_))); (case side2 => exact (Kd.R_reads' HO504.out).2.1); rintro e w23 ⟨rfl, hb⟩; refine ⟨_, rfl, ?_⟩; replace HO504 := HO504.kb hb; replace BK501 := BK501.bb hb; replace HB := HB.s1 GE501 hb; (try clear hb)))
  go_ret
  exact ⟨ex_, hb1_ HB.out GE501.out⟩

end Go.Proofs.Ytnfclfpicemojaa.X
