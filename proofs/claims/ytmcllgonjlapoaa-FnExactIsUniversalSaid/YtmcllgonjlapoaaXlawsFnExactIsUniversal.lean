-- Written by a program of this session (xprint.py), out of the translation and of hand-written contracts. Lean checks it.
import Derived.Test.YtmcllgonjlapoaaX0
import Derived.Test.YtmcllgonjlapoaaXcints
import Derived.Test.YtmcllgonjlapoaaXcto
import Derived.Test.YtmcllgonjlapoaaXimplIsUniversal
import Derived.Test.YtmcllgonjlapoaaXspecIsUniversal
namespace Go.Proofs.Ytmcllgonjlapoaa.X
open Go.RowKit Go.Proofs.YtmcllgonjlapoaaW.PrintWords Go.Proofs.YtmcllgonjlapoaaW.PrintLast Go.Proofs.YtmcllgonjlapoaaW.PrintMore
attribute [local go_sem] max2_int min2_int max_two min_two max_three min_three max_four min_four   -- for this text's walks alone
set_option linter.unusedVariables false
set_option linter.unusedSimpArgs false

/-! ### laws_FnExactIsUniversal: function 12 -/
def laws_FnExactIsUniversal.f (k : Nat) (a0_0 : Int) (a0_1 : Int) (l1 : List Int) : Option (Bool) := if (l1.length : Int) > 1048576 then (some true) else ((laws_toGrid.f a0_0 a0_1).bind fun bt502 => ((laws_toIntS.f k l1).bind fun t504 => ((spec_IsUniversal.f k bt502.1 bt502.2 t504).bind fun t507 => ((laws_toIntS.f k l1).bind fun t508 => ((laws_toGrid.f a0_0 a0_1).bind fun bt511 => ((impl_IsUniversal.f k bt511.1 bt511.2 t508).bind fun t513 => (if (t513 != t507) = true then (some false) else ((laws_toIntS.f k l1).bind fun t514 => ((laws_eqIntS.f k t508 t514).bind fun t517 => (if t517 = true then (some true) else (some false)))))))))))
theorem laws_FnExactIsUniversal.mono : ∀ a0 a1 a2 k, LeO (laws_FnExactIsUniversal.f k a0 a1 a2) (laws_FnExactIsUniversal.f (k + 1) a0 a1 a2) := by
 intro a0 a1 a2 k
 unfold laws_FnExactIsUniversal.f
 repeat' first
   | (with_reducible exact impl_IsUniversal.mono ..)
   | (with_reducible exact laws_eqIntS.mono ..)
   | (with_reducible exact laws_toIntS.mono ..)
   | (with_reducible exact spec_IsUniversal.mono ..)
   | (with_reducible first | exact lr_ _ | exact ln_ _ | refine li_ ?_ ?_ | refine lb_ ?_ fun _ => ?_)
   | exact impl_IsUniversal.mono ..
   | exact laws_eqIntS.mono ..
   | exact laws_toIntS.mono ..
   | exact spec_IsUniversal.mono ..
   | exact ln_ _ | refine li_ ?_ ?_ | refine lb_ ?_ fun _ => ?_
set_option maxHeartbeats 8000000 in
set_option maxRecDepth 100000 in
theorem laws_FnExactIsUniversal.calls (k : Nat) (a0_0 : Int) (a0_1 : Int) (A1 : Option Addr) (c1 : Nat) (l1 : List Int) (r : Bool) (w : World) (hr1 : Kd.C (Kd.int .i64) w A1 l1.length l1) (hc1 : l1.length ≤ c1) (h : laws_FnExactIsUniversal.f k a0_0 a0_1 l1 = some r) :
  Calls Try.prog 12 #[.agg #[.int .i64 a0_0, .int .i64 a0_1], .slice A1 l1.length c1] w fun e w' => e = .returned (.bool r) ∧ Below w.heap.size w w' := by
 have hu23 := Try.underlying23
 have HR1 := Aside0.mk hr1
 have HC1 := Aside0.mk hc1
 clear hr1 hc1
 have HB := Aside0.mk (Below.refl w.heap.size w)
 have H : (if (l1.length : Int) > 1048576 then (some true) else ((laws_toGrid.f a0_0 a0_1).bind fun bt502 => ((laws_toIntS.f k l1).bind fun t504 => ((spec_IsUniversal.f k bt502.1 bt502.2 t504).bind fun t507 => ((laws_toIntS.f k l1).bind fun t508 => ((laws_toGrid.f a0_0 a0_1).bind fun bt511 => ((impl_IsUniversal.f k bt511.1 bt511.2 t508).bind fun t513 => (if (t513 != t507) = true then (some false) else ((laws_toIntS.f k l1).bind fun t514 => ((laws_eqIntS.f k t508 t514).bind fun t517 => (if t517 = true then (some true) else (some false)))))))))))) = some r := h
 clear h
 by_cases c3 : (l1.length : Int) > 1048576
 ·rw [if_pos c3] at H
  have c3b0 : decide (1048576 < (l1.length : Int)) = true := decide_eq_true c3
  have c3b1 : decide (1048576 < l1.length) = true := decide_eq_true (by omega)
  clear c3
  obtain rfl := Option.some.inj H
  go_enter Try.func12, Try.ntmps12
  go_wp2_with ((with_reducible refine gw_ ?_); first | (refine box_ (N := 2) (cs := #[.int .i64 a0_0, .int .i64 a0_1]) (t := 23) ?_; intro gb501 hg w4 hbox hb; have BK501 := Aside0.mk (hbox); have GW501 := HB.g0 hg; have GE501 := HB.g0 hg; replace HB := HB.s0 hb; clear hb hbox hg))
  go_ret
  exact ⟨ex_, hb1_ HB.out GE501.out⟩
 ·rw [if_neg c3] at H
  have c3b0 : decide (1048576 < (l1.length : Int)) = false := decide_eq_false c3
  have c3b1 : decide (1048576 < l1.length) = false := decide_eq_false (by omega)
  clear c3
  replace H := Option.bind_eq_some_iff.mp H
  obtain ⟨⟨t502, t503⟩, A50, H⟩ := H
  replace H : ((laws_toIntS.f k l1).bind fun t504 => ((spec_IsUniversal.f k t502 t503 t504).bind fun t507 => ((laws_toIntS.f k l1).bind fun t508 => ((laws_toGrid.f a0_0 a0_1).bind fun bt511 => ((impl_IsUniversal.f k bt511.1 bt511.2 t508).bind fun t513 => (if (t513 != t507) = true then (some false) else ((laws_toIntS.f k l1).bind fun t514 => ((laws_eqIntS.f k t508 t514).bind fun t517 => (if t517 = true then (some true) else (some false)))))))))) = some r := H
  have A5 := Aside0.mk A50
  clear A50
  replace H := Option.bind_eq_some_iff.mp H
  obtain ⟨t504, A60, H⟩ := H
  replace H : ((spec_IsUniversal.f k t502 t503 t504).bind fun t507 => ((laws_toIntS.f k l1).bind fun t508 => ((laws_toGrid.f a0_0 a0_1).bind fun bt511 => ((impl_IsUniversal.f k bt511.1 bt511.2 t508).bind fun t513 => (if (t513 != t507) = true then (some false) else ((laws_toIntS.f k l1).bind fun t514 => ((laws_eqIntS.f k t508 t514).bind fun t517 => (if t517 = true then (some true) else (some false))))))))) = some r := H
  have A6 := Aside0.mk A60
  clear A60
  replace H := Option.bind_eq_some_iff.mp H
  obtain ⟨t507, A70, H⟩ := H
  replace H : ((laws_toIntS.f k l1).bind fun t508 => ((laws_toGrid.f a0_0 a0_1).bind fun bt511 => ((impl_IsUniversal.f k bt511.1 bt511.2 t508).bind fun t513 => (if (t513 != t507) = true then (some false) else ((laws_toIntS.f k l1).bind fun t514 => ((laws_eqIntS.f k t508 t514).bind fun t517 => (if t517 = true then (some true) else (some false)))))))) = some r := H
  have A7 := Aside0.mk A70
  clear A70
  replace H := Option.bind_eq_some_iff.mp H
  obtain ⟨t508, A80, H⟩ := H
  replace H : ((laws_toGrid.f a0_0 a0_1).bind fun bt511 => ((impl_IsUniversal.f k bt511.1 bt511.2 t508).bind fun t513 => (if (t513 != t507) = true then (some false) else ((laws_toIntS.f k l1).bind fun t514 => ((laws_eqIntS.f k t508 t514).bind fun t517 => (if t517 = true then (some true) else (some false))))))) = some r := H
  have A8 := Aside0.mk A80
  clear A80
  replace H := Option.bind_eq_some_iff.mp H
  obtain ⟨⟨t511, t512⟩, A90, H⟩ := H
  replace H : ((impl_IsUniversal.f k t511 t512 t508).bind fun t513 => (if (t513 != t507) = true then (some false) else ((laws_toIntS.f k l1).bind fun t514 => ((laws_eqIntS.f k t508 t514).bind fun t517 => (if t517 = true then (some true) else (some false)))))) = some r := H
  have A9 := Aside0.mk A90
  clear A90
  replace H := Option.bind_eq_some_iff.mp H
  obtain ⟨t513, A100, H⟩ := H
  replace H : (if (t513 != t507) = true then (some false) else ((laws_toIntS.f k l1).bind fun t514 => ((laws_eqIntS.f k t508 t514).bind fun t517 => (if t517 = true then (some true) else (some false))))) = some r := H
  have A10 := Aside0.mk A100
  clear A100
  by_cases c11 : (t513 != t507) = true
  ·rw [if_pos c11] at H
   have c11b0 : (t513 != t507) = true := c11
   (try (have c11b1 : decide (t513 = t507) = false := by simpa using c11))
   (try (have c11b2 : (t513 == t507) = false := by simpa using c11))
   (try (have c11b3 : ¬ (t513 = t507) := by simpa using c11))
   clear c11
   obtain rfl := Option.some.inj H
   go_enter Try.func12, Try.ntmps12
   go_wp2_with ((with_reducible refine gw_ ?_); first | (refine box_ (N := 2) (cs := #[.int .i64 a0_0, .int .i64 a0_1]) (t := 23) ?_; intro gb501 hg w12 hbox hb; have BK501 := Aside0.mk (hbox); have GW501 := HB.g0 hg; have GE501 := HB.g0 hg; replace HB := HB.s0 hb; clear hb hbox hg; obtain ⟨hcz13_0, hcz13_1⟩ := cz2_ BK501.out; obtain ⟨hfz13_0, hfz13_1⟩ := fz2_ BK501.out) | (refine gl_ 12 Try.func43 #[.agg #[.int .i64 a0_0, .int .i64 a0_1]] ?_; (with_reducible refine (laws_toGrid.calls a0_0 a0_1 t502 t503 _ A5.out).mono ?_); rintro e w14 ⟨rfl, hb⟩; refine ⟨_, rfl, ?_⟩; replace BK501 := BK501.bb hb; replace HB := HB.s1 GE501 hb; (try clear hb)) | (refine gl_ 14 Try.func16 #[.slice A1 l1.length c1] ?_; (with_reducible refine (laws_toIntS.calls k _ _ l1 t504 _ ?side1 ?side2 A6.out).mono ?_); (case side1 => repeat (first | exact (Kd.C_below HR1.out HB.out) | (with_reducible refine Kd.C_alloc ?_ _) | (with_reducible refine Kd.C_drewN ?_ _) | (with_reducible refine Kd.C_drew ?_))); (case side2 => exact HC1.out); rintro e w15 ⟨v505, rfl, ho0, hb⟩; refine ⟨_, rfl, ?_⟩; have HO506 := Aside0.mk (Kd.R_lower ho0 (below_size (hb1_ HB.out GE501.out))); replace BK501 := BK501.bb hb; replace HB := HB.s1 GE501 hb; (try clear hb); (try clear ho0); obtain ⟨Ao16, co16, eo16⟩ := Kd.R_slice HO506.out; subst eo16) | (refine gl_ 15 Try.func42 #[.agg #[.int .i64 t502, .int .i64 t503], .slice Ao16 t504.length co16] ?_; (with_reducible refine (spec_IsUniversal.calls k t502 t503 _ _ t504 t507 _ ?side1 ?side2 A7.out).mono ?_); (case side1 => repeat (first | exact (Kd.R_reads' HO506.out).2.2 | (with_reducible refine Kd.C_alloc ?_ _) | (with_reducible refine Kd.C_drewN ?_ _) | (with_reducible refine Kd.C_drew ?_))); (case side2 => exact (Kd.R_reads' HO506.out).2.1); rintro e w17 ⟨rfl, hb⟩; refine ⟨_, rfl, ?_⟩; replace HO506 := HO506.kb hb; replace BK501 := BK501.bb hb; replace HB := HB.s1 GE501 hb; (try clear hb)) | (refine gl_ 17 Try.func16 #[.slice A1 l1.length c1] ?_; (with_reducible refine (laws_toIntS.calls k _ _ l1 t508 _ ?side1 ?side2 A8.out).mono ?_); (case side1 => repeat (first | exact (Kd.C_below HR1.out HB.out) | (with_reducible refine Kd.C_alloc ?_ _) | (with_reducible refine Kd.C_drewN ?_ _) | (with_reducible refine Kd.C_drew ?_))); (case side2 => exact HC1.out); rintro e w18 ⟨v509, rfl, ho0, hb⟩; refine ⟨_, rfl, ?_⟩; have HO510 := Aside0.mk (Kd.R_lower (Kd.R_new' ho0 (Kd.R_lt (kr_ HO506.out))) (below_size (hb1_ HB.out GE501.out))); replace HO506 := Aside0.mk (Kd.R_elder' (kr_ HO506.out) (Kd.R_base ho0) hb); replace BK501 := BK501.bb hb; replace HB := HB.s1 GE501 hb; (try clear hb); (try clear ho0); obtain ⟨hcz19_0, hcz19_1⟩ := cz2_ BK501.out; obtain ⟨hfz19_0, hfz19_1⟩ := fz2_ BK501.out) | (refine gl_ 19 Try.func43 #[.agg #[.int .i64 a0_0, .int .i64 a0_1]] ?_; (with_reducible refine (laws_toGrid.calls a0_0 a0_1 t511 t512 _ A9.out).mono ?_); rintro e w20 ⟨rfl, hb⟩; refine ⟨_, rfl, ?_⟩; replace HO506 := HO506.kb hb; replace HO510 := HO510.kb hb; replace BK501 := BK501.bb hb; replace HB := HB.s1 GE501 hb; (try clear hb); obtain ⟨Ao21, co21, eo21⟩ := Kd.R_slice HO510.out; subst eo21) | (refine gl_ 21 Try.func44 #[.agg #[.int .i64 t511, .int .i64 t512], .slice Ao21 t508.length co21] ?_; (with_reducible refine (impl_IsUniversal.calls k t511 t512 _ _ t508 t513 _ ?side1 ?side2 A10.out).mono ?_); (case side1 => repeat (first | exact (Kd.R_reads' HO510.out).2.2 | (with_reducible refine Kd.C_alloc ?_ _) | (with_reducible refine Kd.C_drewN ?_ _) | (with_reducible refine Kd.C_drew ?_))); (case side2 => exact (Kd.R_reads' HO510.out).2.1); rintro e w22 ⟨rfl, hb⟩; refine ⟨_, rfl, ?_⟩; replace HO506 := HO506.kb hb; replace HO510 := HO510.kb hb; replace BK501 := BK501.bb hb; replace HB := HB.s1 GE501 hb; (try clear hb)))
   go_ret
   exact ⟨ex_, hb1_ HB.out GE501.out⟩
  ·rw [if_neg c11] at H
   have c11b0 : (t513 != t507) = false := by simpa using c11
   (try (have c11b1 : decide (t513 = t507) = true := by simpa using c11))
   (try (have c11b2 : (t513 == t507) = true := by simpa using c11))
   clear c11
   replace H := Option.bind_eq_some_iff.mp H
   obtain ⟨t514, A230, H⟩ := H
   replace H : ((laws_eqIntS.f k t508 t514).bind fun t517 => (if t517 = true then (some true) else (some false))) = some r := H
   have A23 := Aside0.mk A230
   clear A230
   replace H := Option.bind_eq_some_iff.mp H
   obtain ⟨t517, A240, H⟩ := H
   replace H : (if t517 = true then (some true) else (some false)) = some r := H
   have A24 := Aside0.mk A240
   clear A240
   by_cases c25 : t517 = true
   ·subst c25
    have H1 : (some true) = some r := by rw [if_pos rfl] at H; exact H
    clear H
    have H := H1
    clear H1
    obtain rfl := Option.some.inj H
    go_enter Try.func12, Try.ntmps12
    go_wp2_with ((with_reducible refine gw_ ?_); first | (refine box_ (N := 2) (cs := #[.int .i64 a0_0, .int .i64 a0_1]) (t := 23) ?_; intro gb501 hg w26 hbox hb; have BK501 := Aside0.mk (hbox); have GW501 := HB.g0 hg; have GE501 := HB.g0 hg; replace HB := HB.s0 hb; clear hb hbox hg; obtain ⟨hcz27_0, hcz27_1⟩ := cz2_ BK501.out; obtain ⟨hfz27_0, hfz27_1⟩ := fz2_ BK501.out) | (refine gl_ 12 Try.func43 #[.agg #[.int .i64 a0_0, .int .i64 a0_1]] ?_; (with_reducible refine (laws_toGrid.calls a0_0 a0_1 t502 t503 _ A5.out).mono ?_); rintro e w28 ⟨rfl, hb⟩; refine ⟨_, rfl, ?_⟩; replace BK501 := BK501.bb hb; replace HB := HB.s1 GE501 hb; (try clear hb)) | (refine gl_ 14 Try.func16 #[.slice A1 l1.length c1] ?_; (with_reducible refine (laws_toIntS.calls k _ _ l1 t504 _ ?side1 ?side2 A6.out).mono ?_); (case side1 => repeat (first | exact (Kd.C_below HR1.out HB.out) | (with_reducible refine Kd.C_alloc ?_ _) | (with_reducible refine Kd.C_drewN ?_ _) | (with_reducible refine Kd.C_drew ?_))); (case side2 => exact HC1.out); rintro e w29 ⟨v505, rfl, ho0, hb⟩; refine ⟨_, rfl, ?_⟩; have HO506 := Aside0.mk (Kd.R_lower ho0 (below_size (hb1_ HB.out GE501.out))); replace BK501 := BK501.bb hb; replace HB := HB.s1 GE501 hb; (try clear hb); (try clear ho0); obtain ⟨Ao30, co30, eo30⟩ := Kd.R_slice HO506.out; subst eo30) | (refine gl_ 15 Try.func42 #[.agg #[.int .i64 t502, .int .i64 t503], .slice Ao30 t504.length co30] ?_; (with_reducible refine (spec_IsUniversal.calls k t502 t503 _ _ t504 t507 _ ?side1 ?side2 A7.out).mono ?_); (case side1 => repeat (first | exact (Kd.R_reads' HO506.out).2.2 | (with_reducible refine Kd.C_alloc ?_ _) | (with_reducible refine Kd.C_drewN ?_ _) | (with_reducible refine Kd.C_drew ?_))); (case side2 => exact (Kd.R_reads' HO506.out).2.1); rintro e w31 ⟨rfl, hb⟩; refine ⟨_, rfl, ?_⟩; replace HO506 := HO506.kb hb; replace BK501 := BK501.bb hb; replace HB := HB.s1 GE501 hb; (try clear hb)) | (refine gl_ 17 Try.func16 #[.slice A1 l1.length c1] ?_; (with_reducible refine (laws_toIntS.calls k _ _ l1 t508 _ ?side1 ?side2 A8.out).mono ?_); (case side1 => repeat (first | exact (Kd.C_below HR1.out HB.out) | (with_reducible refine Kd.C_alloc ?_ _) | (with_reducible refine Kd.C_drewN ?_ _) | (with_reducible refine Kd.C_drew ?_))); (case side2 => exact HC1.out); rintro e w32 ⟨v509, rfl, ho0, hb⟩; refine ⟨_, rfl, ?_⟩; have HO510 := Aside0.mk (Kd.R_lower (Kd.R_new' ho0 (Kd.R_lt (kr_ HO506.out))) (below_size (hb1_ HB.out GE501.out))); replace HO506 := Aside0.mk (Kd.R_elder' (kr_ HO506.out) (Kd.R_base ho0) hb); replace BK501 := BK501.bb hb; replace HB := HB.s1 GE501 hb; (try clear hb); (try clear ho0); obtain ⟨hcz33_0, hcz33_1⟩ := cz2_ BK501.out; obtain ⟨hfz33_0, hfz33_1⟩ := fz2_ BK501.out) | (refine gl_ 19 Try.func43 #[.agg #[.int .i64 a0_0, .int .i64 a0_1]] ?_; (with_reducible refine (laws_toGrid.calls a0_0 a0_1 t511 t512 _ A9.out).mono ?_); rintro e w34 ⟨rfl, hb⟩; refine ⟨_, rfl, ?_⟩; replace HO506 := HO506.kb hb; replace HO510 := HO510.kb hb; replace BK501 := BK501.bb hb; replace HB := HB.s1 GE501 hb; (try clear hb); obtain ⟨Ao35, co35, eo35⟩ := Kd.R_slice HO510.out; subst eo35) | (refine gl_ 21 Try.func44 #[.agg #[.int .i64 t511, .int .i64 t512], .slice Ao35 t508.length co35] ?_; (with_reducible refine (impl_IsUniversal.calls k t511 t512 _ _ t508 t513 _ ?side1 ?side2 A10.out).mono ?_); (case side1 => repeat (first | exact (Kd.R_reads' HO510.out).2.2 | (with_reducible refine Kd.C_alloc ?_ _) | (with_reducible refine Kd.C_drewN ?_ _) | (with_reducible refine Kd.C_drew ?_))); (case side2 => exact (Kd.R_reads' HO510.out).2.1); rintro e w36 ⟨rfl, hb⟩; refine ⟨_, rfl, ?_⟩; replace HO506 := HO506.kb hb; replace HO510 := HO510.kb hb; replace BK501 := BK501.bb hb; replace HB := HB.s1 GE501 hb; (try clear hb)) | (refine gl_ 27 Try.func16 #[.slice A1 l1.length c1] ?_; (with_reducible refine (laws_toIntS.calls k _ _ l1 t514 _ ?side1 ?side2 A23.out).mono ?_); (case side1 => repeat (first | exact (Kd.C_below HR1.out HB.out) | (with_reducible refine Kd.C_alloc ?_ _) | (with_reducible refine Kd.C_drewN ?_ _) | (with_reducible refine Kd.C_drew ?_))); (case side2 => exact HC1.out); rintro e w37 ⟨v515, rfl, ho0, hb⟩; refine ⟨_, rfl, ?_⟩; have HO516 := Aside0.mk (Kd.R_lower (Kd.R_new' (Kd.R_new' ho0 (Kd.R_lt (kr_ HO506.out))) (Kd.R_lt (kr_ HO510.out))) (below_size (hb1_ HB.out GE501.out))); replace HO506 := Aside0.mk (Kd.R_elder' (kr_ HO506.out) (Kd.R_base ho0) hb); replace HO510 := Aside0.mk (Kd.R_elder' (kr_ HO510.out) (Kd.R_base ho0) hb); replace BK501 := BK501.bb hb; replace HB := HB.s1 GE501 hb; (try clear hb); (try clear ho0); obtain ⟨Ao38, co38, eo38⟩ := Kd.R_slice HO516.out; subst eo38) | (refine gl_ 28 Try.func18 #[.slice Ao35 t508.length co35, .slice Ao38 t514.length co38] ?_; (with_reducible refine (laws_eqIntS.calls k _ _ t508 _ _ t514 true _ ?side1 ?side2 ?side3 ?side4 A24.out).mono ?_); (case side1 => repeat (first | exact (Kd.R_reads' HO510.out).2.2 | (with_reducible refine Kd.C_alloc ?_ _) | (with_reducible refine Kd.C_drewN ?_ _) | (with_reducible refine Kd.C_drew ?_))); (case side2 => exact (Kd.R_reads' HO510.out).2.1); (case side3 => repeat (first | exact (Kd.R_reads' HO516.out).2.2 | (with_reducible refine Kd.C_alloc ?_ _) | (with_reducible refine Kd.C_drewN ?_ _) | (with_reducible refine Kd.C_drew ?_))); (case side4 => exact (Kd.R_reads' HO516.out).2.1); rintro e w' ⟨rfl, ⟨nd, rfl⟩⟩; refine ⟨_, rfl, ?_⟩))
    go_ret
    exact ⟨ex_, hb1_ HB.out GE501.out⟩
   ·replace c25 := Bool.eq_false_iff.mpr c25
    subst c25
    have H1 : (some false) = some r := by rw [if_neg (show ¬ (false = true) by decide)] at H; exact H
    clear H
    have H := H1
    clear H1
    obtain rfl := Option.some.inj H
    go_enter Try.func12, Try.ntmps12
    go_wp2_with ((with_reducible refine gw_ ?_); first | (refine box_ (N := 2) (cs := #[.int .i64 a0_0, .int .i64 a0_1]) (t := 23) ?_; intro gb501 hg w39 hbox hb; have BK501 := Aside0.mk (hbox); have GW501 := HB.g0 hg; have GE501 := HB.g0 hg; replace HB := HB.s0 hb; clear hb hbox hg; obtain ⟨hcz40_0, hcz40_1⟩ := cz2_ BK501.out; obtain ⟨hfz40_0, hfz40_1⟩ := fz2_ BK501.out) | (refine gl_ 12 Try.func43 #[.agg #[.int .i64 a0_0, .int .i64 a0_1]] ?_; (with_reducible refine (laws_toGrid.calls a0_0 a0_1 t502 t503 _ A5.out).mono ?_); rintro e w41 ⟨rfl, hb⟩; refine ⟨_, rfl, ?_⟩; replace BK501 := BK501.bb hb; replace HB := HB.s1 GE501 hb; (try clear hb)) | (refine gl_ 14 Try.func16 #[.slice A1 l1.length c1] ?_; (with_reducible refine (laws_toIntS.calls k _ _ l1 t504 _ ?side1 ?side2 A6.out).mono ?_); (case side1 => repeat (first | exact (Kd.C_below HR1.out HB.out) | (with_reducible refine Kd.C_alloc ?_ _) | (with_reducible refine Kd.C_drewN ?_ _) | (with_reducible refine Kd.C_drew ?_))); (case side2 => exact HC1.out); rintro e w42 ⟨v505, rfl, ho0, hb⟩; refine ⟨_, rfl, ?_⟩; have HO506 := Aside0.mk (Kd.R_lower ho0 (below_size (hb1_ HB.out GE501.out))); replace BK501 := BK501.bb hb; replace HB := HB.s1 GE501 hb; (try clear hb); (try clear ho0); obtain ⟨Ao43, co43, eo43⟩ := Kd.R_slice HO506.out; subst eo43) | (refine gl_ 15 Try.func42 #[.agg #[.int .i64 t502, .int .i64 t503], .slice Ao43 t504.length co43] ?_; (with_reducible refine (spec_IsUniversal.calls k t502 t503 _ _ t504 t507 _ ?side1 ?side2 A7.out).mono ?_); (case side1 => repeat (first | exact (Kd.R_reads' HO506.out).2.2 | (with_reducible refine Kd.C_alloc ?_ _) | (with_reducible refine Kd.C_drewN ?_ _) | (with_reducible refine Kd.C_drew ?_))); (case side2 => exact (Kd.R_reads' HO506.out).2.1); rintro e w44 ⟨rfl, hb⟩; refine ⟨_, rfl, ?_⟩; replace HO506 := HO506.kb hb; replace BK501 := BK501.bb hb; replace HB := HB.s1 GE501 hb; (try clear hb)) | (refine gl_ 17 Try.func16 #[.slice A1 l1.length c1] ?_; (with_reducible refine (laws_toIntS.calls k _ _ l1 t508 _ ?side1 ?side2 A8.out).mono ?_); (case side1 => repeat (first | exact (Kd.C_below HR1.out HB.out) | (with_reducible refine Kd.C_alloc ?_ _) | (with_reducible refine Kd.C_drewN ?_ _) | (with_reducible refine Kd.C_drew ?_))); (case side2 => exact HC1.out); rintro e w45 ⟨v509, rfl, ho0, hb⟩; refine ⟨_, rfl, ?_⟩; have HO510 := Aside0.mk (Kd.R_lower (Kd.R_new' ho0 (Kd.R_lt (kr_ HO506.out))) (below_size (hb1_ HB.out GE501.out))); replace HO506 := Aside0.mk (Kd.R_elder' (kr_ HO506.out) (Kd.R_base ho0) hb); replace BK501 := BK501.bb hb; replace HB := HB.s1 GE501 hb; (try clear hb); (try clear ho0); obtain ⟨hcz46_0, hcz46_1⟩ := cz2_ BK501.out; obtain ⟨hfz46_0, hfz46_1⟩ := fz2_ BK501.out) | (refine gl_ 19 Try.func43 #[.agg #[.int .i64 a0_0, .int .i64 a0_1]] ?_; (with_reducible refine (laws_toGrid.calls a0_0 a0_1 t511 t512 _ A9.out).mono ?_); rintro e w47 ⟨rfl, hb⟩; refine ⟨_, rfl, ?_⟩; replace HO506 := HO506.kb hb; replace HO510 := HO510.kb hb; replace BK501 := BK501.bb hb; replace HB := HB.s1 GE501 hb; (try clear hb); obtain ⟨Ao48, co48, eo48⟩ := Kd.R_slice HO510.out; subst eo48) | (refine gl_ 21 Try.func44 #[.agg #[.int .i64 t511, .int .i64 t512], .slice Ao48 t508.length co48] ?_; (with_reducible refine (impl_IsUniversal.calls k t511 t512 _ _ t508 t513 _ ?side1 ?side2 A10.out).mono ?_); (case side1 => repeat (first | exact (Kd.R_reads' HO510.out).2.2 | (with_reducible refine Kd.C_alloc ?_ _) | (with_reducible refine Kd.C_drewN ?_ _) | (with_reducible refine Kd.C_drew ?_))); (case side2 => exact (Kd.R_reads' HO510.out).2.1); rintro e w49 ⟨rfl, hb⟩; refine ⟨_, rfl, ?_⟩; replace HO506 := HO506.kb hb; replace HO510 := HO510.kb hb; replace BK501 := BK501.bb hb; replace HB := HB.s1 GE501 hb; (try clear hb)) | (refine gl_ 27 Try.func16 #[.slice A1 l1.length c1] ?_; (with_reducible refine (laws_toIntS.calls k _ _ l1 t514 _ ?side1 ?side2 A23.out).mono ?_); (case side1 => repeat (first | exact (Kd.C_below HR1.out HB.out) | (with_reducible refine Kd.C_alloc ?_ _) | (with_reducible refine Kd.C_drewN ?_ _) | (with_reducible refine Kd.C_drew ?_))); (case side2 => exact HC1.out); rintro e w50 ⟨v515, rfl, ho0, hb⟩; refine ⟨_, rfl, ?_⟩; have HO516 := Aside0.mk (Kd.R_lower (Kd.R_new' (Kd.R_new' ho0 (Kd.R_lt (kr_ HO506.out))) (Kd.R_lt (kr_ HO510.out))) (below_size (hb1_ HB.out GE501.out))); replace HO506 := Aside0.mk (Kd.R_elder' (kr_ HO506.out) (Kd.R_base ho0) hb); replace HO510 := Aside0.mk (Kd.R_elder' (kr_ HO510.out) (Kd.R_base ho0) hb); replace BK501 := BK501.bb hb; replace HB := HB.s1 GE501 hb; (try clear hb); (try clear ho0); obtain ⟨Ao51, co51, eo51⟩ := Kd.R_slice HO516.out; subst eo51) | (refine gl_ 28 Try.func18 #[.slice Ao48 t508.length co48, .slice Ao51 t514.length co51] ?_; (with_reducible refine (laws_eqIntS.calls k _ _ t508 _ _ t514 false _ ?side1 ?side2 ?side3 ?side4 A24.out).mono ?_); (case side1 => repeat (first | exact (Kd.R_reads' HO510.out).2.2 | (with_reducible refine Kd.C_alloc ?_ _) | (with_reducible refine Kd.C_drewN ?_ _) | (with_reducible refine Kd.C_drew ?_))); (case side2 => exact (Kd.R_reads' HO510.out).2.1); (case side3 => repeat (first | exact (Kd.R_reads' HO516.out).2.2 | (with_reducible refine Kd.C_alloc ?_ _) | (with_reducible refine Kd.C_drewN ?_ _) | (with_reducible refine Kd.C_drew ?_))); (case side4 => exact (Kd.R_reads' HO516.out).2.1); rintro e w' ⟨rfl, ⟨nd, rfl⟩⟩; refine ⟨_, rfl, ?_⟩))
    go_ret
    exact ⟨ex_, hb1_ HB.out GE501.out⟩

/-- THE ONE PURE STATEMENT of laws_FnExactIsUniversal: yours. -/
def laws_FnExactIsUniversal.Pure : Prop := ∀ (a0_0 : Int) (a0_1 : Int) (l1 : List Int), (Lit.int .i64 a0_0).wf = true → (Lit.int .i64 a0_1).wf = true → l1.length ≤ maxLen → l1.length * 8 ≤ 140737488351232 → (∀ x ∈ l1, (Lit.int .i64 x).wf = true) → ∃ k, laws_FnExactIsUniversal.f k a0_0 a0_1 l1 = some true
theorem laws_FnExactIsUniversal.walk (P : laws_FnExactIsUniversal.Pure) (a0_0 : Int) (a0_1 : Int) (a1 : Option Addr) (len1 cap1 : Nat) (z1 : List Int) (w : World) (w0_0 : (Lit.int .i64 a0_0).wf = true) (w0_1 : (Lit.int .i64 a0_1).wf = true) (w1 : (a1 = none ∧ len1 = 0 ∧ cap1 = 0 ∧ z1 = []) ∨ ∃ x, a1 = some x ∧ len1 ≤ cap1 ∧ cap1 ≤ maxLen ∧ z1.length = cap1 ∧ (∀ i, i < z1.length → w.cell? (x.add i) = some (.int .i64 (z1.getD i 0))) ∧ ∀ n ∈ z1, (Lit.int .i64 n).wf = true) (y1 : len1 * 8 ≤ 140737488351232) :
  Calls Try.prog 12 #[.agg #[.int .i64 a0_0, .int .i64 a0_1], .slice a1 len1 cap1] w fun e w' => e = .returned (.bool true) ∧ Below w.heap.size w w' := by
 obtain ⟨l1, rfl, hr1, hm1, hw1, hc1⟩ := ReadsInt.ofRowC w1
 obtain ⟨k, h⟩ := P a0_0 a0_1 l1 w0_0 w0_1 hm1 y1 hw1
 refine (laws_FnExactIsUniversal.calls k a0_0 a0_1 _ _ l1 true w (Kd.C_of_reads (d := (0 : Int)) (h1 := fun _ => rfl) hr1) hc1 h).mono ?_
 rintro e w' ⟨rfl, hd⟩
 exact ⟨rfl, hd⟩

end Go.Proofs.Ytmcllgonjlapoaa.X
