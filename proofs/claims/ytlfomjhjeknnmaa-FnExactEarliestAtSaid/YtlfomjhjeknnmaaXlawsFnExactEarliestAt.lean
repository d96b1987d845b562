-- Written by a program of this session (xprint.py), out of the translation and of hand-written contracts. Lean checks it.
import Derived.Test.YtlfomjhjeknnmaaX0
import Derived.Test.YtlfomjhjeknnmaaXctimed
import Derived.Test.YtlfomjhjeknnmaaXimplEarliestAt
import Derived.Test.YtlfomjhjeknnmaaXspecEarliestAt
namespace Go.Proofs.Ytlfomjhjeknnmaa.X
open Go.RowKit Go.Proofs.YtlfomjhjeknnmaaW.PrintWords Go.Proofs.YtlfomjhjeknnmaaW.PrintLast Go.Proofs.YtlfomjhjeknnmaaW.PrintMore
attribute [local go_sem] max2_int min2_int max_two min_two max_three min_three max_four min_four   -- for this text's walks alone
set_option linter.unusedVariables false
set_option linter.unusedSimpArgs false

/-! ### laws_FnExactEarliestAt: function 3 -/
def laws_FnExactEarliestAt.f (k : Nat) (a0_0 : Int) (a0_1 : Int) (a0_2 : Int) (a0_3 : Int) (l0_4 : List (S85)) (a1 : Int) (a2 : Int) (a3 : Int) : Option (Bool) := (laws_szTimed.f a0_0 a0_1 a0_2 a0_3 l0_4 1048576).bind fun t502 => (if t502 < 0 then (some true) else ((laws_toTimed.f k a0_0 a0_1 a0_2 a0_3 l0_4).bind fun bt503 => ((spec_EarliestAt.f k bt503.1 bt503.2.1 bt503.2.2.1 bt503.2.2.2.1 bt503.2.2.2.2 a1 a2 a3).bind fun t510 => ((laws_toTimed.f k a0_0 a0_1 a0_2 a0_3 l0_4).bind fun bt511 => ((impl_EarliestAt.f k bt511.1 bt511.2.1 bt511.2.2.1 bt511.2.2.2.1 bt511.2.2.2.2 a1 a2 a3).bind fun t519 => (if t519 = t510 then ((laws_toTimed.f k a0_0 a0_1 a0_2 a0_3 l0_4).bind fun bt520 => ((laws_eqTimed.f k bt511.1 bt511.2.1 bt511.2.2.1 bt511.2.2.2.1 bt511.2.2.2.2 bt520.1 bt520.2.1 bt520.2.2.1 bt520.2.2.2.1 bt520.2.2.2.2).bind fun t527 => (if t527 = true then (some true) else (some false)))) else (some false)))))))
theorem laws_FnExactEarliestAt.mono : ∀ a0 a1 a2 a3 a4 a5 a6 a7 k, LeO (laws_FnExactEarliestAt.f k a0 a1 a2 a3 a4 a5 a6 a7) (laws_FnExactEarliestAt.f (k + 1) a0 a1 a2 a3 a4 a5 a6 a7) := by
 intro a0 a1 a2 a3 a4 a5 a6 a7 k
 unfold laws_FnExactEarliestAt.f
 repeat' first
   | (with_reducible exact impl_EarliestAt.mono ..)
   | (with_reducible exact laws_eqTimed.mono ..)
   | (with_reducible exact laws_toTimed.mono ..)
   | (with_reducible exact spec_EarliestAt.mono ..)
   | (with_reducible first | exact lr_ _ | exact ln_ _ | refine li_ ?_ ?_ | refine lb_ ?_ fun _ => ?_)
   | exact impl_EarliestAt.mono ..
   | exact laws_eqTimed.mono ..
   | exact laws_toTimed.mono ..
   | exact spec_EarliestAt.mono ..
   | exact ln_ _ | refine li_ ?_ ?_ | refine lb_ ?_ fun _ => ?_
set_option maxHeartbeats 8000000 in
set_option maxRecDepth 100000 in
theorem laws_FnExactEarliestAt.calls (k : Nat) (a0_0 : Int) (a0_1 : Int) (a0_2 : Int) (a0_3 : Int) (A0_4 : Option Addr) (c0_4 : Nat) (l0_4 : List (S85)) (a1 : Int) (a2 : Int) (a3 : Int) (r : Bool) (w : World) (hr0_4 : Kd.C k85 w A0_4 l0_4.length l0_4) (hc0_4 : l0_4.length ≤ c0_4) (h : laws_FnExactEarliestAt.f k a0_0 a0_1 a0_2 a0_3 l0_4 a1 a2 a3 = some r) :
  Calls Try.prog 3 #[.agg #[.int .i64 a0_0, .int .i64 a0_1, .int .i64 a0_2, .int .i64 a0_3, .slice A0_4 l0_4.length c0_4], .int .i64 a1, .int .i64 a2, .int .i64 a3] w fun e w' => e = .returned (.bool r) ∧ Below w.heap.size w w' := by
 have hu28 := Try.underlying28
 have hu36 := Try.underlying36
 have HR0_4 := Aside0.mk hr0_4
 have HC0_4 := Aside0.mk hc0_4
 clear hr0_4 hc0_4
 have HB := Aside0.mk (Below.refl w.heap.size w)
 have H : ((laws_szTimed.f a0_0 a0_1 a0_2 a0_3 l0_4 1048576).bind fun t502 => (if t502 < 0 then (some true) else ((laws_toTimed.f k a0_0 a0_1 a0_2 a0_3 l0_4).bind fun bt503 => ((spec_EarliestAt.f k bt503.1 bt503.2.1 bt503.2.2.1 bt503.2.2.2.1 bt503.2.2.2.2 a1 a2 a3).bind fun t510 => ((laws_toTimed.f k a0_0 a0_1 a0_2 a0_3 l0_4).bind fun bt511 => ((impl_EarliestAt.f k bt511.1 bt511.2.1 bt511.2.2.1 bt511.2.2.2.1 bt511.2.2.2.2 a1 a2 a3).bind fun t519 => (if t519 = t510 then ((laws_toTimed.f k a0_0 a0_1 a0_2 a0_3 l0_4).bind fun bt520 => ((laws_eqTimed.f k bt511.1 bt511.2.1 bt511.2.2.1 bt511.2.2.2.1 bt511.2.2.2.2 bt520.1 bt520.2.1 bt520.2.2.1 bt520.2.2.2.1 bt520.2.2.2.2).bind fun t527 => (if t527 = true then (some true) else (some false)))) else (some false)))))))) = some r := h
 clear h
 replace H := Option.bind_eq_some_iff.mp H
 obtain ⟨t502, A50, H⟩ := H
 replace H : (if t502 < 0 then (some true) else ((laws_toTimed.f k a0_0 a0_1 a0_2 a0_3 l0_4).bind fun bt503 => ((spec_EarliestAt.f k bt503.1 bt503.2.1 bt503.2.2.1 bt503.2.2.2.1 bt503.2.2.2.2 a1 a2 a3).bind fun t510 => ((laws_toTimed.f k a0_0 a0_1 a0_2 a0_3 l0_4).bind fun bt511 => ((impl_EarliestAt.f k bt511.1 bt511.2.1 bt511.2.2.1 bt511.2.2.2.1 bt511.2.2.2.2 a1 a2 a3).bind fun t519 => (if t519 = t510 then ((laws_toTimed.f k a0_0 a0_1 a0_2 a0_3 l0_4).bind fun bt520 => ((laws_eqTimed.f k bt511.1 bt511.2.1 bt511.2.2.1 bt511.2.2.2.1 bt511.2.2.2.2 bt520.1 bt520.2.1 bt520.2.2.1 bt520.2.2.2.1 bt520.2.2.2.2).bind fun t527 => (if t527 = true then (some true) else (some false)))) else (some false))))))) = some r := H
 have A5 := Aside0.mk A50
 clear A50
 by_cases c6 : t502 < 0
 ·rw [if_pos c6] at H
  have c6b0 : decide (t502 < 0) = true := decide_eq_true c6
  clear c6
  obtain rfl := Option.some.inj H
  go_enter Try.func3, Try.ntmps3
  go_wp2_with ((with_reducible refine gw_ ?_); first | (refine box_ (N := 4) (cs := #[.int .i64 a0_0, .int .i64 a0_1, .int .i64 a0_2, .int .i64 a0_3, .slice A0_4 l0_4.length c0_4]) (t := 28) ?_; intro gb501 hg w7 hbox hb; have BK501 := Aside0.mk (hbox); have GW501 := HB.g0 hg; have GE501 := HB.g0 hg; replace HB := HB.s0 hb; clear hb hbox hg; obtain ⟨hcz8_0, hcz8_1, hcz8_2, hcz8_3, hcz8_4⟩ := cz5_ BK501.out; obtain ⟨hfz8_0, hfz8_1, hfz8_2, hfz8_3, hfz8_4⟩ := fz5_ BK501.out) | (refine gl_ 15 Try.func8 #[.agg #[.int .i64 a0_0, .int .i64 a0_1, .int .i64 a0_2, .int .i64 a0_3, .slice A0_4 l0_4.length c0_4], .int .i64 1048576] ?_; (with_reducible refine (laws_szTimed.calls a0_0 a0_1 a0_2 a0_3 _ _ l0_4 1048576 t502 _ ?side1 ?side2 A5.out).mono ?_); (case side1 => repeat (first | exact (Kd.C_below HR0_4.out HB.out) | (with_reducible refine Kd.C_alloc ?_ _) | (with_reducible refine Kd.C_drewN ?_ _) | (with_reducible refine Kd.C_drew ?_))); (case side2 => exact HC0_4.out); rintro e w9 ⟨rfl, hb⟩; refine ⟨_, rfl, ?_⟩; replace BK501 := BK501.bb hb; replace HB := HB.s1 GE501 hb; (try clear hb)))
  go_ret
  exact ⟨ex_, hb1_ HB.out GE501.out⟩
 ·rw [if_neg c6] at H
  have c6b0 : decide (t502 < 0) = false := decide_eq_false c6
  clear c6
  replace H := Option.bind_eq_some_iff.mp H
  obtain ⟨⟨t503, t504, t505, t506, t507⟩, A100, H⟩ := H
  replace H : ((spec_EarliestAt.f k t503 t504 t505 t506 t507 a1 a2 a3).bind fun t510 => ((laws_toTimed.f k a0_0 a0_1 a0_2 a0_3 l0_4).bind fun bt511 => ((impl_EarliestAt.f k bt511.1 bt511.2.1 bt511.2.2.1 bt511.2.2.2.1 bt511.2.2.2.2 a1 a2 a3).bind fun t519 => (if t519 = t510 then ((laws_toTimed.f k a0_0 a0_1 a0_2 a0_3 l0_4).bind fun bt520 => ((laws_eqTimed.f k bt511.1 bt511.2.1 bt511.2.2.1 bt511.2.2.2.1 bt511.2.2.2.2 bt520.1 bt520.2.1 bt520.2.2.1 bt520.2.2.2.1 bt520.2.2.2.2).bind fun t527 => (if t527 = true then (some true) else (some false)))) else (some false))))) = some r := H
  have A10 := Aside0.mk A100
  clear A100
  replace H := Option.bind_eq_some_iff.mp H
  obtain ⟨t510, A110, H⟩ := H
  replace H : ((laws_toTimed.f k a0_0 a0_1 a0_2 a0_3 l0_4).bind fun bt511 => ((impl_EarliestAt.f k bt511.1 bt511.2.1 bt511.2.2.1 bt511.2.2.2.1 bt511.2.2.2.2 a1 a2 a3).bind fun t519 => (if t519 = t510 then ((laws_toTimed.f k a0_0 a0_1 a0_2 a0_3 l0_4).bind fun bt520 => ((laws_eqTimed.f k bt511.1 bt511.2.1 bt511.2.2.1 bt511.2.2.2.1 bt511.2.2.2.2 bt520.1 bt520.2.1 bt520.2.2.1 bt520.2.2.2.1 bt520.2.2.2.2).bind fun t527 => (if t527 = true then (some true) else (some false)))) else (some false)))) = some r := H
  have A11 := Aside0.mk A110
  clear A110
  replace H := Option.bind_eq_some_iff.mp H
  obtain ⟨⟨t511, t512, t513, t514, t515⟩, A120, H⟩ := H
  replace H : ((impl_EarliestAt.f k t511 t512 t513 t514 t515 a1 a2 a3).bind fun t519 => (if t519 = t510 then ((laws_toTimed.f k a0_0 a0_1 a0_2 a0_3 l0_4).bind fun bt520 => ((laws_eqTimed.f k t511 t512 t513 t514 t515 bt520.1 bt520.2.1 bt520.2.2.1 bt520.2.2.2.1 bt520.2.2.2.2).bind fun t527 => (if t527 = true then (some true) else (some false)))) else (some false))) = some r := H
  have A12 := Aside0.mk A120
  clear A120
  replace H := Option.bind_eq_some_iff.mp H
  obtain ⟨t519, A130, H⟩ := H
  replace H : (if t519 = t510 then ((laws_toTimed.f k a0_0 a0_1 a0_2 a0_3 l0_4).bind fun bt520 => ((laws_eqTimed.f k t511 t512 t513 t514 t515 bt520.1 bt520.2.1 bt520.2.2.1 bt520.2.2.2.1 bt520.2.2.2.2).bind fun t527 => (if t527 = true then (some true) else (some false)))) else (some false)) = some r := H
  have A13 := Aside0.mk A130
  clear A130
  by_cases c14 : t519 = t510
  ·rw [if_pos c14] at H
   have c14b0 : (t519 == t510) = true := beq_iff_eq.mpr c14
   have c14b1 : (t519 != t510) = false := bne_eq_false_iff_eq.mpr c14
   clear c14
   replace H := Option.bind_eq_some_iff.mp H
   obtain ⟨⟨t520, t521, t522, t523, t524⟩, A150, H⟩ := H
   replace H : ((laws_eqTimed.f k t511 t512 t513 t514 t515 t520 t521 t522 t523 t524).bind fun t527 => (if t527 = true then (some true) else (some false))) = some r := H
   have A15 := Aside0.mk A150
   clear A150
   replace H := Option.bind_eq_some_iff.mp H
   obtain ⟨t527, A160, H⟩ := H
   replace H : (if t527 = true then (some true) else (some false)) = some r := H
   have A16 := Aside0.mk A160
   clear A160
   by_cases c17 : t527 = true
   ·subst c17
    have H1 : (some true) = some r := by rw [if_pos rfl] at H; exact H
    clear H
    have H := H1
    clear H1
    obtain rfl := Option.some.inj H
    go_enter Try.func3, Try.ntmps3
    try go_wp2_with ((with_reducible refine gw_ ?_); first | (refine box_ (N := 4) (cs := #[.int .i64 a0_0, .int .i64 a0_1, .int .i64 a0_2, .int .i64 a0_3, .slice A0_4 l0_4.length c0_4]) (t := 28) ?_; intro gb501 hg w18 hbox hb; have BK501 := Aside0.mk (hbox); have GW501 := HB.g0 hg; have GE501 := HB.g0 hg; replace HB := HB.s0 hb; clear hb hbox hg; obtain ⟨hcz19_0, hcz19_1, hcz19_2, hcz19_3, hcz19_4⟩ := cz5_ BK501.out; obtain ⟨hfz19_0, hfz19_1, hfz19_2, hfz19_3, hfz19_4⟩ := fz5_ BK501.out) | (refine gl_ 15 Try.func8 #[.agg #[.int .i64 a0_0, .int .i64 a0_1, .int .i64 a0_2, .int .i64 a0_3, .slice A0_4 l0_4.length c0_4], .int .i64 1048576] ?_; (with_reducible refine (laws_szTimed.calls a0_0 a0_1 a0_2 a0_3 _ _ l0_4 1048576 t502 _ ?side1 ?side2 A5.out).mono ?_); (case side1 => repeat (first | exact (Kd.C_below HR0_4.out HB.out) | (with_reducible refine Kd.C_alloc ?_ _) | (with_reducible refine Kd.C_drewN ?_ _) | (with_reducible refine Kd.C_drew ?_))); (case side2 => exact HC0_4.out); rintro e w20 ⟨rfl, hb⟩; refine ⟨_, rfl, ?_⟩; replace BK501 := BK501.bb hb; replace HB := HB.s1 GE501 hb; (try clear hb); obtain ⟨hcz21_0, hcz21_1, hcz21_2, hcz21_3, hcz21_4⟩ := cz5_ BK501.out; obtain ⟨hfz21_0, hfz21_1, hfz21_2, hfz21_3, hfz21_4⟩ := fz5_ BK501.out) | (refine gl_ 19 Try.func10 #[.agg #[.int .i64 a0_0, .int .i64 a0_1, .int .i64 a0_2, .int .i64 a0_3, .slice A0_4 l0_4.length c0_4]] ?_; (with_reducible refine (laws_toTimed.calls k a0_0 a0_1 a0_2 a0_3 _ _ l0_4 t503 t504 t505 t506 t507 _ ?side1 ?side2 A10.out).mono ?_); (case side1 => repeat (first | exact (Kd.C_below HR0_4.out HB.out) | (with_reducible refine Kd.C_alloc ?_ _) | (with_reducible refine Kd.C_drewN ?_ _) | (with_reducible refine Kd.C_drew ?_))); (case side2 => exact HC0_4.out); rintro e w22 ⟨v508, rfl, ho0, hb⟩; refine ⟨_, rfl, ?_⟩; have HO509 := Aside0.mk (Kd.R_lower ho0 (below_size (hb1_ HB.out GE501.out))); replace BK501 := BK501.bb hb; replace HB := HB.s1 GE501 hb; (try clear hb); (try clear ho0); obtain ⟨Ao23, co23, eo23⟩ := Kd.R_slice HO509.out; subst eo23) | (refine gl_ 23 Try.func9 #[.agg #[.int .i64 t503, .int .i64 t504, .int .i64 t505, .int .i64 t506, .slice Ao23 t507.length co23], .int .i64 a1, .int .i64 a2, .int .i64 a3] ?_; (with_reducible refine (spec_EarliestAt.calls k t503 t504 t505 t506 _ _ t507 a1 a2 a3 t510 _ ?side1 ?side2 A11.out).mono ?_); (case side1 => repeat (first | exact (Kd.R_reads' HO509.out).2.2 | (with_reducible refine Kd.C_alloc ?_ _) | (with_reducible refine Kd.C_drewN ?_ _) | (with_reducible refine Kd.C_drew ?_))); (case side2 => exact (Kd.R_reads' HO509.out).2.1); rintro e w24 ⟨rfl, hb⟩; refine ⟨_, rfl, ?_⟩; replace HO509 := HO509.kb hb; replace BK501 := BK501.bb hb; replace HB := HB.s1 GE501 hb; (try clear hb); obtain ⟨hcz25_0, hcz25_1, hcz25_2, hcz25_3, hcz25_4⟩ := cz5_ BK501.out; obtain ⟨hfz25_0, hfz25_1, hfz25_2, hfz25_3, hfz25_4⟩ := fz5_ BK501.out) | (refine gl_ 25 Try.func10 #[.agg #[.int .i64 a0_0, .int .i64 a0_1, .int .i64 a0_2, .int .i64 a0_3, .slice A0_4 l0_4.length c0_4]] ?_; (with_reducible refine (laws_toTimed.calls k a0_0 a0_1 a0_2 a0_3 _ _ l0_4 t511 t512 t513 t514 t515 _ ?side1 ?side2 A12.out).mono ?_); (case side1 => repeat (first | exact (Kd.C_below HR0_4.out HB.out) | (with_reducible refine Kd.C_alloc ?_ _) | (with_reducible refine Kd.C_drewN ?_ _) | (with_reducible refine Kd.C_drew ?_))); (case side2 => exact HC0_4.out); rintro e w26 ⟨v516, rfl, ho0, hb⟩; refine ⟨_, rfl, ?_⟩; have HO517 := Aside0.mk (Kd.R_lower (Kd.R_new' ho0 (Kd.R_lt (kr_ HO509.out))) (below_size (hb1_ HB.out GE501.out))); replace HO509 := Aside0.mk (Kd.R_elder' (kr_ HO509.out) (Kd.R_base ho0) hb); replace BK501 := BK501.bb hb; replace HB := HB.s1 GE501 hb; (try clear hb); (try clear ho0)) | (refine box_ (N := 11) (cs := #[.int .i64 0, .int .i64 0, .int .i64 0, .int .i64 0, .slice none 0 0]) (t := 36) ?_; intro gb518 hg w27 hbox hb; replace HO509 := HO509.kb hb; replace HO517 := HO517.kb hb; have BK518 := Aside0.mk (hbox); have GW518 := HB.g1 GE501 hg; have GE518 := HB.g1 GE501 hg; replace HB := HB.s1 GE501 hb; have NB501_518 := BK501.nl hg; have NB518_501 := BK501.nr hg; replace BK501 := BK501.bb hb; clear hb hbox hg; have hnb28 := NB518_501.out; have hnc28 := NB501_518.out; obtain ⟨hcz29_0, hcz29_1, hcz29_2, hcz29_3, hcz29_4⟩ := cz5_ BK518.out; obtain ⟨hfz29_0, hfz29_1, hfz29_2, hfz29_3, hfz29_4⟩ := fz5_ BK518.out; obtain ⟨Ao30, co30, eo30⟩ := Kd.R_slice HO517.out; subst eo30) | (refine gl_ 30 Try.func11 #[.agg #[.int .i64 t511, .int .i64 t512, .int .i64 t513, .int .i64 t514, .slice Ao30 t515.length co30], .int .i64 a1, .int .i64 a2, .int .i64 a3] ?_; (with_reducible refine (impl_EarliestAt.calls k t511 t512 t513 t514 _ _ t515 a1 a2 a3 t519 _ ?side1 ?side2 A13.out).mono ?_); (case side1 => refine (Kd.R_reads' (e := 56) (base := w.heap.size) (ok := fun k_ => (True ∧ some k_ ≠ (.slice Ao23 t507.length co23 : Value).ownBlock)) (n := t515.length) (c := co30) ?_).2.2; exact (rq5_ HO517.out BK518.out)); (case side2 => exact (Kd.R_reads' HO517.out).2.1); rintro e w31 ⟨rfl, hb⟩; refine ⟨_, rfl, ?_⟩; replace HO509 := Aside0.mk (Kd.R_below (rq5_ HO509.out BK518.out) hb); replace HO517 := Aside0.mk (Kd.R_below (rq5_ HO517.out BK518.out) hb); replace BK501 := Aside0.mk (blk_below (g := gb501) (o := .cells #[.int .i64 a0_0, .int .i64 a0_1, .int .i64 a0_2, .int .i64 a0_3, .slice A0_4 l0_4.length c0_4] 28 (0, 0)) (by (with_reducible repeat (first | refine blk_drewN ?_ _ | refine blk_drew ?_ | refine blk_alloc ?_ _)); refine blk_far ?_ NB501_518.out _; (with_reducible repeat (first | refine blk_drewN ?_ _ | refine blk_drew ?_ | refine blk_alloc ?_ _)); refine blk_far ?_ NB501_518.out _; (with_reducible repeat (first | refine blk_drewN ?_ _ | refine blk_drew ?_ | refine blk_alloc ?_ _)); refine blk_far ?_ NB501_518.out _; (with_reducible repeat (first | refine blk_drewN ?_ _ | refine blk_drew ?_ | refine blk_alloc ?_ _)); refine blk_far ?_ NB501_518.out _; (with_reducible repeat (first | refine blk_drewN ?_ _ | refine blk_drew ?_ | refine blk_alloc ?_ _)); refine blk_far ?_ NB501_518.out _; (with_reducible repeat (first | refine blk_drewN ?_ _ | refine blk_drew ?_ | refine blk_alloc ?_ _)); exact BK501.out) hb); replace BK518 := Aside0.mk (blk_below (bq5_ BK518.out) hb); replace HB := HB.s2 GE501 GE518 hb; (try clear hb)))
    replace HO509 := Aside0.mk (Kd.R_drew HO509.out)
    replace HO517 := Aside0.mk (Kd.R_drew HO517.out)
    replace BK501 := Aside0.mk (blk_drew BK501.out)
    replace BK518 := Aside0.mk (blk_drew BK518.out)
    replace HB := Aside0.mk (below_drew1 HB.out)
    refine start_ (n := 5) (S := fun w' => w'.cell? ⟨gb518, 0, none⟩ = some (.int .i64 t511) ∧ w'.cell? ⟨gb518, 1, none⟩ = some (.int .i64 t512) ∧ w'.cell? ⟨gb518, 2, none⟩ = some (.int .i64 t513) ∧ w'.cell? ⟨gb518, 3, none⟩ = some (.int .i64 t514) ∧ w'.cell? ⟨gb518, 4, none⟩ = some (.slice Ao30 t515.length co30) ∧ w'.cell? ⟨gb501, 0, none⟩ = some (.int .i64 a0_0) ∧ w'.cell? ⟨gb501, 1, none⟩ = some (.int .i64 a0_1) ∧ w'.cell? ⟨gb501, 2, none⟩ = some (.int .i64 a0_2) ∧ w'.cell? ⟨gb501, 3, none⟩ = some (.int .i64 a0_3) ∧ w'.cell? ⟨gb501, 4, none⟩ = some (.slice A0_4 l0_4.length c0_4)) (ds := []) #[false, false, false, false, false] (by kernel_rfl) rfl rfl ⟨BK518.c 0, BK518.c 1, BK518.c 2, BK518.c 3, BK518.c 4, BK501.c 0, BK501.c 1, BK501.c 2, BK501.c 3, BK501.c 4⟩ (fun hHeld => ?_)
    generalize w31.drew = w32 at HO509 HO517 BK501 BK518 HB hHeld ⊢
    refine take_ (i := 0) (N := some 34) (v := ?_) (a' := ?_) #[true, false, false, false, false] rfl rfl (by kernel_rfl) (fun _ _ _ h => h) (Or.inl ⟨by rfl, ?_⟩) hHeld ?_ ?_
    rotate_left
    ·rintro w' ⟨s0, s1, s2, s3, s4, s5, s6, s7, s8, s9⟩
     go_simp
     with_reducible rfl
    rotate_left
    ·simp only [Act.put, List.setIfInBounds_toArray, List.set_cons_zero, List.set_cons_succ, i64_w, i32_w]
     rfl
    refine take_ (i := 1) (N := some 35) (v := ?_) (a' := ?_) #[true, true, false, false, false] rfl rfl (by kernel_rfl) (fun _ _ _ h => h) (Or.inl ⟨by rfl, ?_⟩) hHeld ?_ ?_
    rotate_left
    ·rintro w' ⟨s0, s1, s2, s3, s4, s5, s6, s7, s8, s9⟩
     go_simp
     with_reducible rfl
    rotate_left
    ·simp only [Act.put, List.setIfInBounds_toArray, List.set_cons_zero, List.set_cons_succ, i64_w, i32_w]
     rfl
    refine one_ (i := 2) (N := some 36) #[true, true, true, false, false] rfl rfl (by kernel_rfl) (by decide) (fun K hK => ?_)
    refine gq_ Try.func10 #[.agg #[.int .i64 a0_0, .int .i64 a0_1, .int .i64 a0_2, .int .i64 a0_3, .slice A0_4 l0_4.length c0_4]] ?_
    with_reducible refine (laws_toTimed.calls k a0_0 a0_1 a0_2 a0_3 _ _ l0_4 t520 t521 t522 t523 t524 _ ?side1 ?side2 A15.out).mono ?_
    (case side1 => repeat (first | exact (Kd.C_below HR0_4.out HB.out) | (with_reducible refine Kd.C_alloc ?_ _) | (with_reducible refine Kd.C_drewN ?_ _) | (with_reducible refine Kd.C_drew ?_)))
    (case side2 => exact HC0_4.out)
    rintro e w33 ⟨v525, rfl, ho0, hb⟩
    refine ⟨_, rfl, ?_⟩
    have n0_ := Aside0.mk (Kd.R_elder' (kr_ HO509.out) (Kd.R_base ho0) hb)
    have n1_ := Aside0.mk (Kd.R_elder' (kr_ HO517.out) (Kd.R_base ho0) hb)
    have n2_ := Aside0.mk (Kd.R_lower (Kd.R_new' (Kd.R_new' ho0 (Kd.R_lt (kr_ HO509.out))) (Kd.R_lt (kr_ HO517.out))) (below_size (hb2_ HB.out GE501.out GE518.out)))
    have n3_ := BK501.bb hb
    have n4_ := BK518.bb hb
    have n5_ := HB.s2 GE501 GE518 hb
    clear HO509
    clear HO517
    clear BK501
    clear BK518
    clear HB
    have HO509 := n0_
    have HO517 := n1_
    have HO526 := n2_
    have BK501 := n3_
    have BK518 := n4_
    have HB := n5_
    clear n0_ n1_ n2_ n3_ n4_ n5_
    skip
    (try clear hb2)
    (try clear hk)
    (try clear hi)
    (try clear ho0)
    obtain ⟨Ao34, co34, eo34⟩ := Kd.R_slice HO526.out
    (first | subst eo34 | (injection eo34 with f1_ f2_ f3_; have f4_ := f1_.symm; have f5_ := f3_.symm; clear f1_ f2_ f3_; subst f4_; subst f5_))
    refine hK.out _ _ ⟨BK518.c 0, BK518.c 1, BK518.c 2, BK518.c 3, BK518.c 4, BK501.c 0, BK501.c 1, BK501.c 2, BK501.c 3, BK501.c 4⟩ (fun hHeld => ?_)
    clear hK K
    refine nm_ ?_
    refine one_ (i := 3) (N := some 37) #[true, true, true, true, false] rfl rfl (by kernel_rfl) (by decide) (fun K hK => ?_)
    refine gq_ Try.func12 #[.agg #[.int .i64 t511, .int .i64 t512, .int .i64 t513, .int .i64 t514, .slice Ao30 t515.length co30], .agg #[.int .i64 t520, .int .i64 t521, .int .i64 t522, .int .i64 t523, .slice Ao34 t524.length co34]] ?_
    with_reducible refine (laws_eqTimed.calls k t511 t512 t513 t514 _ _ t515 t520 t521 t522 t523 _ _ t524 true _ ?side1 ?side2 ?side3 ?side4 A16.out).mono ?_
    (case side1 => repeat (first | exact (Kd.R_reads' HO517.out).2.2 | (with_reducible refine Kd.C_alloc ?_ _) | (with_reducible refine Kd.C_drewN ?_ _) | (with_reducible refine Kd.C_drew ?_)))
    (case side2 => exact (Kd.R_reads' HO517.out).2.1)
    (case side3 => repeat (first | exact (Kd.R_reads' HO526.out).2.2 | (with_reducible refine Kd.C_alloc ?_ _) | (with_reducible refine Kd.C_drewN ?_ _) | (with_reducible refine Kd.C_drew ?_)))
    (case side4 => exact (Kd.R_reads' HO526.out).2.1)
    rintro e w35 ⟨rfl, hb⟩
    refine ⟨_, rfl, ?_⟩
    replace HO509 := HO509.kb hb
    replace HO517 := HO517.kb hb
    replace HO526 := HO526.kb hb
    replace BK501 := BK501.bb hb
    replace BK518 := BK518.bb hb
    replace HB := HB.s2 GE501 GE518 hb
    skip
    (try clear hb2)
    (try clear hk)
    (try clear hi)
    refine hK.out _ _ ⟨BK518.c 0, BK518.c 1, BK518.c 2, BK518.c 3, BK518.c 4, BK501.c 0, BK501.c 1, BK501.c 2, BK501.c 3, BK501.c 4⟩ (fun hHeld => ?_)
    clear hK K
    refine nm_ ?_
    refine pure_ (i := 4) (N := some 38) (v := ?_) (a' := ?_) #[true, true, true, true, true] rfl rfl (by kernel_rfl) (fun _ _ _ h => h) (Or.inl ⟨by rfl, ?_⟩) ?_ ?_
    rotate_left
    ·intro w'
     go_simp
     with_reducible rfl
    rotate_left
    ·simp only [Act.put, List.setIfInBounds_toArray, List.set_cons_zero, List.set_cons_succ, i64_w, i32_w]
     rfl
    refine done_ (by kernel_rfl) ?_
    try go_wp2
    go_ret
    exact ⟨ex_, hb2_ HB.out GE501.out GE518.out⟩
   ·replace c17 := Bool.eq_false_iff.mpr c17
    subst c17
    have H1 : (some false) = some r := by rw [if_neg (show ¬ (false = true) by decide)] at H; exact H
    clear H
    have H := H1
    clear H1
    obtain rfl := Option.some.inj H
    go_enter Try.func3, Try.ntmps3
    try go_wp2_with ((with_reducible refine gw_ ?_); first | (refine box_ (N := 4) (cs := #[.int .i64 a0_0, .int .i64 a0_1, .int .i64 a0_2, .int .i64 a0_3, .slice A0_4 l0_4.length c0_4]) (t := 28) ?_; intro gb501 hg w36 hbox hb; have BK501 := Aside0.mk (hbox); have GW501 := HB.g0 hg; have GE501 := HB.g0 hg; replace HB := HB.s0 hb; clear hb hbox hg; obtain ⟨hcz37_0, hcz37_1, hcz37_2, hcz37_3, hcz37_4⟩ := cz5_ BK501.out; obtain ⟨hfz37_0, hfz37_1, hfz37_2, hfz37_3, hfz37_4⟩ := fz5_ BK501.out) | (refine gl_ 15 Try.func8 #[.agg #[.int .i64 a0_0, .int .i64 a0_1, .int .i64 a0_2, .int .i64 a0_3, .slice A0_4 l0_4.length c0_4], .int .i64 1048576] ?_; (with_reducible refine (laws_szTimed.calls a0_0 a0_1 a0_2 a0_3 _ _ l0_4 1048576 t502 _ ?side1 ?side2 A5.out).mono ?_); (case side1 => repeat (first | exact (Kd.C_below HR0_4.out HB.out) | (with_reducible refine Kd.C_alloc ?_ _) | (with_reducible refine Kd.C_drewN ?_ _) | (with_reducible refine Kd.C_drew ?_))); (case side2 => exact HC0_4.out); rintro e w38 ⟨rfl, hb⟩; refine ⟨_, rfl, ?_⟩; replace BK501 := BK501.bb hb; replace HB := HB.s1 GE501 hb; (try clear hb); obtain ⟨hcz39_0, hcz39_1, hcz39_2, hcz39_3, hcz39_4⟩ := cz5_ BK501.out; obtain ⟨hfz39_0, hfz39_1, hfz39_2, hfz39_3, hfz39_4⟩ := fz5_ BK501.out) | (refine gl_ 19 Try.func10 #[.agg #[.int .i64 a0_0, .int .i64 a0_1, .int .i64 a0_2, .int .i64 a0_3, .slice A0_4 l0_4.length c0_4]] ?_; (with_reducible refine (laws_toTimed.calls k a0_0 a0_1 a0_2 a0_3 _ _ l0_4 t503 t504 t505 t506 t507 _ ?side1 ?side2 A10.out).mono ?_); (case side1 => repeat (first | exact (Kd.C_below HR0_4.out HB.out) | (with_reducible refine Kd.C_alloc ?_ _) | (with_reducible refine Kd.C_drewN ?_ _) | (with_reducible refine Kd.C_drew ?_))); (case side2 => exact HC0_4.out); rintro e w40 ⟨v508, rfl, ho0, hb⟩; refine ⟨_, rfl, ?_⟩; have HO509 := Aside0.mk (Kd.R_lower ho0 (below_size (hb1_ HB.out GE501.out))); replace BK501 := BK501.bb hb; replace HB := HB.s1 GE501 hb; (try clear hb); (try clear ho0); obtain ⟨Ao41, co41, eo41⟩ := Kd.R_slice HO509.out; subst eo41) | (refine gl_ 23 Try.func9 #[.agg #[.int .i64 t503, .int .i64 t504, .int .i64 t505, .int .i64 t506, .slice Ao41 t507.length co41], .int .i64 a1, .int .i64 a2, .int .i64 a3] ?_; (with_reducible refine (spec_EarliestAt.calls k t503 t504 t505 t506 _ _ t507 a1 a2 a3 t510 _ ?side1 ?side2 A11.out).mono ?_); (case side1 => repeat (first | exact (Kd.R_reads' HO509.out).2.2 | (with_reducible refine Kd.C_alloc ?_ _) | (with_reducible refine Kd.C_drewN ?_ _) | (with_reducible refine Kd.C_drew ?_))); (case side2 => exact (Kd.R_reads' HO509.out).2.1); rintro e w42 ⟨rfl, hb⟩; refine ⟨_, rfl, ?_⟩; replace HO509 := HO509.kb hb; replace BK501 := BK501.bb hb; replace HB := HB.s1 GE501 hb; (try clear hb); obtain ⟨hcz43_0, hcz43_1, hcz43_2, hcz43_3, hcz43_4⟩ := cz5_ BK501.out; obtain ⟨hfz43_0, hfz43_1, hfz43_2, hfz43_3, hfz43_4⟩ := fz5_ BK501.out) | (refine gl_ 25 Try.func10 #[.agg #[.int .i64 a0_0, .int .i64 a0_1, .int .i64 a0_2, .int .i64 a0_3, .slice A0_4 l0_4.length c0_4]] ?_; (with_reducible refine (laws_toTimed.calls k a0_0 a0_1 a0_2 a0_3 _ _ l0_4 t511 t512 t513 t514 t515 _ ?side1 ?side2 A12.out).mono ?_); (case side1 => repeat (first | exact (Kd.C_below HR0_4.out HB.out) | (with_reducible refine Kd.C_alloc ?_ _) | (with_reducible refine Kd.C_drewN ?_ _) | (with_reducible refine Kd.C_drew ?_))); (case side2 => exact HC0_4.out); rintro e w44 ⟨v516, rfl, ho0, hb⟩; refine ⟨_, rfl, ?_⟩; have HO517 := Aside0.mk (Kd.R_lower (Kd.R_new' ho0 (Kd.R_lt (kr_ HO509.out))) (below_size (hb1_ HB.out GE501.out))); replace HO509 := Aside0.mk (Kd.R_elder' (kr_ HO509.out) (Kd.R_base ho0) hb); replace BK501 := BK501.bb hb; replace HB := HB.s1 GE501 hb; (try clear hb); (try clear ho0)) | (refine box_ (N := 11) (cs := #[.int .i64 0, .int .i64 0, .int .i64 0, .int .i64 0, .slice none 0 0]) (t := 36) ?_; intro gb518 hg w45 hbox hb; replace HO509 := HO509.kb hb; replace HO517 := HO517.kb hb; have BK518 := Aside0.mk (hbox); have GW518 := HB.g1 GE501 hg; have GE518 := HB.g1 GE501 hg; replace HB := HB.s1 GE501 hb; have NB501_518 := BK501.nl hg; have NB518_501 := BK501.nr hg; replace BK501 := BK501.bb hb; clear hb hbox hg; have hnb46 := NB518_501.out; have hnc46 := NB501_518.out; obtain ⟨hcz47_0, hcz47_1, hcz47_2, hcz47_3, hcz47_4⟩ := cz5_ BK518.out; obtain ⟨hfz47_0, hfz47_1, hfz47_2, hfz47_3, hfz47_4⟩ := fz5_ BK518.out; obtain ⟨Ao48, co48, eo48⟩ := Kd.R_slice HO517.out; subst eo48) | (refine gl_ 30 Try.func11 #[.agg #[.int .i64 t511, .int .i64 t512, .int .i64 t513, .int .i64 t514, .slice Ao48 t515.length co48], .int .i64 a1, .int .i64 a2, .int .i64 a3] ?_; (with_reducible refine (impl_EarliestAt.calls k t511 t512 t513 t514 _ _ t515 a1 a2 a3 t519 _ ?side1 ?side2 A13.out).mono ?_); (case side1 => refine (Kd.R_reads' (e := 56) (base := w.heap.size) (ok := fun k_ => (True ∧ some k_ ≠ (.slice Ao41 t507.length co41 : Value).ownBlock)) (n := t515.length) (c := co48) ?_).2.2; exact (rq5_ HO517.out BK518.out)); (case side2 => exact (Kd.R_reads' HO517.out).2.1); rintro e w49 ⟨rfl, hb⟩; refine ⟨_, rfl, ?_⟩; replace HO509 := Aside0.mk (Kd.R_below (rq5_ HO509.out BK518.out) hb); replace HO517 := Aside0.mk (Kd.R_below (rq5_ HO517.out BK518.out) hb); replace BK501 := Aside0.mk (blk_below (g := gb501) (o := .cells #[.int .i64 a0_0, .int .i64 a0_1, .int .i64 a0_2, .int .i64 a0_3, .slice A0_4 l0_4.length c0_4] 28 (0, 0)) (by (with_reducible repeat (first | refine blk_drewN ?_ _ | refine blk_drew ?_ | refine blk_alloc ?_ _)); refine blk_far ?_ NB501_518.out _; (with_reducible repeat (first | refine blk_drewN ?_ _ | refine blk_drew ?_ | refine blk_alloc ?_ _)); refine blk_far ?_ NB501_518.out _; (with_reducible repeat (first | refine blk_drewN ?_ _ | refine blk_drew ?_ | refine blk_alloc ?_ _)); refine blk_far ?_ NB501_518.out _; (with_reducible repeat (first | refine blk_drewN ?_ _ | refine blk_drew ?_ | refine blk_alloc ?_ _)); refine blk_far ?_ NB501_518.out _; (with_reducible repeat (first | refine blk_drewN ?_ _ | refine blk_drew ?_ | refine blk_alloc ?_ _)); refine blk_far ?_ NB501_518.out _; (with_reducible repeat (first | refine blk_drewN ?_ _ | refine blk_drew ?_ | refine blk_alloc ?_ _)); exact BK501.out) hb); replace BK518 := Aside0.mk (blk_below (bq5_ BK518.out) hb); replace HB := HB.s2 GE501 GE518 hb; (try clear hb)))
    replace HO509 := Aside0.mk (Kd.R_drew HO509.out)
    replace HO517 := Aside0.mk (Kd.R_drew HO517.out)
    replace BK501 := Aside0.mk (blk_drew BK501.out)
    replace BK518 := Aside0.mk (blk_drew BK518.out)
    replace HB := Aside0.mk (below_drew1 HB.out)
    refine start_ (n := 5) (S := fun w' => w'.cell? ⟨gb518, 0, none⟩ = some (.int .i64 t511) ∧ w'.cell? ⟨gb518, 1, none⟩ = some (.int .i64 t512) ∧ w'.cell? ⟨gb518, 2, none⟩ = some (.int .i64 t513) ∧ w'.cell? ⟨gb518, 3, none⟩ = some (.int .i64 t514) ∧ w'.cell? ⟨gb518, 4, none⟩ = some (.slice Ao48 t515.length co48) ∧ w'.cell? ⟨gb501, 0, none⟩ = some (.int .i64 a0_0) ∧ w'.cell? ⟨gb501, 1, none⟩ = some (.int .i64 a0_1) ∧ w'.cell? ⟨gb501, 2, none⟩ = some (.int .i64 a0_2) ∧ w'.cell? ⟨gb501, 3, none⟩ = some (.int .i64 a0_3) ∧ w'.cell? ⟨gb501, 4, none⟩ = some (.slice A0_4 l0_4.length c0_4)) (ds := []) #[false, false, false, false, false] (by kernel_rfl) rfl rfl ⟨BK518.c 0, BK518.c 1, BK518.c 2, BK518.c 3, BK518.c 4, BK501.c 0, BK501.c 1, BK501.c 2, BK501.c 3, BK501.c 4⟩ (fun hHeld => ?_)
    generalize w49.drew = w50 at HO509 HO517 BK501 BK518 HB hHeld ⊢
    refine take_ (i := 0) (N := some 34) (v := ?_) (a' := ?_) #[true, false, false, false, false] rfl rfl (by kernel_rfl) (fun _ _ _ h => h) (Or.inl ⟨by rfl, ?_⟩) hHeld ?_ ?_
    rotate_left
    ·rintro w' ⟨s0, s1, s2, s3, s4, s5, s6, s7, s8, s9⟩
     go_simp
     with_reducible rfl
    rotate_left
    ·simp only [Act.put, List.setIfInBounds_toArray, List.set_cons_zero, List.set_cons_succ, i64_w, i32_w]
     rfl
    refine take_ (i := 1) (N := some 35) (v := ?_) (a' := ?_) #[true, true, false, false, false] rfl rfl (by kernel_rfl) (fun _ _ _ h => h) (Or.inl ⟨by rfl, ?_⟩) hHeld ?_ ?_
    rotate_left
    ·rintro w' ⟨s0, s1, s2, s3, s4, s5, s6, s7, s8, s9⟩
     go_simp
     with_reducible rfl
    rotate_left
    ·simp only [Act.put, List.setIfInBounds_toArray, List.set_cons_zero, List.set_cons_succ, i64_w, i32_w]
     rfl
    refine one_ (i := 2) (N := some 36) #[true, true, true, false, false] rfl rfl (by kernel_rfl) (by decide) (fun K hK => ?_)
    refine gq_ Try.func10 #[.agg #[.int .i64 a0_0, .int .i64 a0_1, .int .i64 a0_2, .int .i64 a0_3, .slice A0_4 l0_4.length c0_4]] ?_
    with_reducible refine (laws_toTimed.calls k a0_0 a0_1 a0_2 a0_3 _ _ l0_4 t520 t521 t522 t523 t524 _ ?side1 ?side2 A15.out).mono ?_
    (case side1 => repeat (first | exact (Kd.C_below HR0_4.out HB.out) | (with_reducible refine Kd.C_alloc ?_ _) | (with_reducible refine Kd.C_drewN ?_ _) | (with_reducible refine Kd.C_drew ?_)))
    (case side2 => exact HC0_4.out)
    rintro e w51 ⟨v525, rfl, ho0, hb⟩
    refine ⟨_, rfl, ?_⟩
    have n0_ := Aside0.mk (Kd.R_elder' (kr_ HO509.out) (Kd.R_base ho0) hb)
    have n1_ := Aside0.mk (Kd.R_elder' (kr_ HO517.out) (Kd.R_base ho0) hb)
    have n2_ := Aside0.mk (Kd.R_lower (Kd.R_new' (Kd.R_new' ho0 (Kd.R_lt (kr_ HO509.out))) (Kd.R_lt (kr_ HO517.out))) (below_size (hb2_ HB.out GE501.out GE518.out)))
    have n3_ := BK501.bb hb
    have n4_ := BK518.bb hb
    have n5_ := HB.s2 GE501 GE518 hb
    clear HO509
    clear HO517
    clear BK501
    clear BK518
    clear HB
    have HO509 := n0_
    have HO517 := n1_
    have HO526 := n2_
    have BK501 := n3_
    have BK518 := n4_
    have HB := n5_
    clear n0_ n1_ n2_ n3_ n4_ n5_
    skip
    (try clear hb2)
    (try clear hk)
    (try clear hi)
    (try clear ho0)
    obtain ⟨Ao52, co52, eo52⟩ := Kd.R_slice HO526.out
    (first | subst eo52 | (injection eo52 with f1_ f2_ f3_; have f4_ := f1_.symm; have f5_ := f3_.symm; clear f1_ f2_ f3_; subst f4_; subst f5_))
    refine hK.out _ _ ⟨BK518.c 0, BK518.c 1, BK518.c 2, BK518.c 3, BK518.c 4, BK501.c 0, BK501.c 1, BK501.c 2, BK501.c 3, BK501.c 4⟩ (fun hHeld => ?_)
    clear hK K
    refine nm_ ?_
    refine one_ (i := 3) (N := some 37) #[true, true, true, true, false] rfl rfl (by kernel_rfl) (by decide) (fun K hK => ?_)
    refine gq_ Try.func12 #[.agg #[.int .i64 t511, .int .i64 t512, .int .i64 t513, .int .i64 t514, .slice Ao48 t515.length co48], .agg #[.int .i64 t520, .int .i64 t521, .int .i64 t522, .int .i64 t523, .slice Ao52 t524.length co52]] ?_
    with_reducible refine (laws_eqTimed.calls k t511 t512 t513 t514 _ _ t515 t520 t521 t522 t523 _ _ t524 false _ ?side1 ?side2 ?side3 ?side4 A16.out).mono ?_
    (case side1 => repeat (first | exact (Kd.R_reads' HO517.out).2.2 | (with_reducible refine Kd.C_alloc ?_ _) | (with_reducible refine Kd.C_drewN ?_ _) | (with_reducible refine Kd.C_drew ?_)))
    (case side2 => exact (Kd.R_reads' HO517.out).2.1)
    (case side3 => repeat (first | exact (Kd.R_reads' HO526.out).2.2 | (with_reducible refine Kd.C_alloc ?_ _) | (with_reducible refine Kd.C_drewN ?_ _) | (with_reducible refine Kd.C_drew ?_)))
    (case side4 => exact (Kd.R_reads' HO526.out).2.1)
    rintro e w53 ⟨rfl, hb⟩
    refine ⟨_, rfl, ?_⟩
    replace HO509 := HO509.kb hb
    replace HO517 := HO517.kb hb
    replace HO526 := HO526.kb hb
    replace BK501 := BK501.bb hb
    replace BK518 := BK518.bb hb
    replace HB := HB.s2 GE501 GE518 hb
    skip
    (try clear hb2)
    (try clear hk)
    (try clear hi)
    refine hK.out _ _ ⟨BK518.c 0, BK518.c 1, BK518.c 2, BK518.c 3, BK518.c 4, BK501.c 0, BK501.c 1, BK501.c 2, BK501.c 3, BK501.c 4⟩ (fun hHeld => ?_)
    clear hK K
    refine nm_ ?_
    refine pure_ (i := 4) (N := some 38) (v := ?_) (a' := ?_) #[true, true, true, true, true] rfl rfl (by kernel_rfl) (fun _ _ _ h => h) (Or.inl ⟨by rfl, ?_⟩) ?_ ?_
    rotate_left
    ·intro w'
     go_simp
     with_reducible rfl
    rotate_left
    ·simp only [Act.put, List.setIfInBounds_toArray, List.set_cons_zero, List.set_cons_succ, i64_w, i32_w]
     rfl
    refine done_ (by kernel_rfl) ?_
    try go_wp2
    go_ret
    exact ⟨ex_, hb2_ HB.out GE501.out GE518.out⟩
  ·rw [if_neg c14] at H
   have c14b0 : (t519 == t510) = false := beq_eq_false_iff_ne.mpr c14
   have c14b1 : (t519 != t510) = true := bne_iff_ne.mpr c14
   obtain rfl := Option.some.inj H
   go_enter Try.func3, Try.ntmps3
   go_wp2_with ((with_reducible refine gw_ ?_); first | (refine box_ (N := 4) (cs := #[.int .i64 a0_0, .int .i64 a0_1, .int .i64 a0_2, .int .i64 a0_3, .slice A0_4 l0_4.length c0_4]) (t := 28) ?_; intro gb501 hg w54 hbox hb; have BK501 := Aside0.mk (hbox); have GW501 := HB.g0 hg; have GE501 := HB.g0 hg; replace HB := HB.s0 hb; clear hb hbox hg; obtain ⟨hcz55_0, hcz55_1, hcz55_2, hcz55_3, hcz55_4⟩ := cz5_ BK501.out; obtain ⟨hfz55_0, hfz55_1, hfz55_2, hfz55_3, hfz55_4⟩ := fz5_ BK501.out) | (refine gl_ 15 Try.func8 #[.agg #[.int .i64 a0_0, .int .i64 a0_1, .int .i64 a0_2, .int .i64 a0_3, .slice A0_4 l0_4.length c0_4], .int .i64 1048576] ?_; (with_reducible refine (laws_szTimed.calls a0_0 a0_1 a0_2 a0_3 _ _ l0_4 1048576 t502 _ ?side1 ?side2 A5.out).mono ?_); (case side1 => repeat (first | exact (Kd.C_below HR0_4.out HB.out) | (with_reducible refine Kd.C_alloc ?_ _) | (with_reducible refine Kd.C_drewN ?_ _) | (with_reducible refine Kd.C_drew ?_))); (case side2 => exact HC0_4.out); rintro e w56 ⟨rfl, hb⟩; refine ⟨_, rfl, ?_⟩; replace BK501 := BK501.bb hb; replace HB := HB.s1 GE501 hb; (try clear hb); obtain ⟨hcz57_0, hcz57_1, hcz57_2, hcz57_3, hcz57_4⟩ := cz5_ BK501.out; obtain ⟨hfz57_0, hfz57_1, hfz57_2, hfz57_3, hfz57_4⟩ := fz5_ BK501.out) | (refine gl_ 19 Try.func10 #[.agg #[.int .i64 a0_0, .int .i64 a0_1, .int .i64 a0_2, .int .i64 a0_3, .slice A0_4 l0_4.length c0_4]] ?_; (with_reducible refine (laws_toTimed.calls k a0_0 a0_1 a0_2 a0_3 _ _ l0_4 t503 t504 t505 t506 t507 _ ?side1 ?side2 A10.out).mono ?_); (case side1 => repeat (first | exact (Kd.C_below HR0_4.out HB.out) | (with_reducible refine Kd.C_alloc ?_ _) | (with_reducible refine Kd.C_drewN ?_ _) | (with_reducible refine Kd.C_drew ?_))); (case side2 => exact HC0_4.out); rintro e w58 ⟨v508, rfl, ho0, hb⟩; refine ⟨_, rfl, ?_⟩; have HO509 := Aside0.mk (Kd.R_lower ho0 (below_size (hb1_ HB.out GE501.out))); replace BK501 := BK501.bb hb; replace HB := HB.s1 GE501 hb; (try clear hb); (try clear ho0); obtain ⟨Ao59, co59, eo59⟩ := Kd.R_slice HO509.out; subst eo59) | (refine gl_ 23 Try.func9 #[.agg #[.int .i64 t503, .int .i64 t504, .int .i64 t505, .int .i64 t506, .slice Ao59 t507.length co59], .int .i64 a1, .int .i64 a2, .int .i64 a3] ?_; (with_reducible refine (spec_EarliestAt.calls k t503 t504 t505 t506 _ _ t507 a1 a2 a3 t510 _ ?side1 ?side2 A11.out).mono ?_); (case side1 => repeat (first | exact (Kd.R_reads' HO509.out).2.2 | (with_reducible refine Kd.C_alloc ?_ _) | (with_reducible refine Kd.C_drewN ?_ _) | (with_reducible refine Kd.C_drew ?_))); (case side2 => exact (Kd.R_reads' HO509.out).2.1); rintro e w60 ⟨rfl, hb⟩; refine ⟨_, rfl, ?_⟩; replace HO509 := HO509.kb hb; replace BK501 := BK501.bb hb; replace HB := HB.s1 GE501 hb; (try clear hb); obtain ⟨hcz61_0, hcz61_1, hcz61_2, hcz61_3, hcz61_4⟩ := cz5_ BK501.out; obtain ⟨hfz61_0, hfz61_1, hfz61_2, hfz61_3, hfz61_4⟩ := fz5_ BK501.out) | (refine gl_ 25 Try.func10 #[.agg #[.int .i64 a0_0, .int .i64 a0_1, .int .i64 a0_2, .int .i64 a0_3, .slice A0_4 l0_4.length c0_4]] ?_; (with_reducible refine (laws_toTimed.calls k a0_0 a0_1 a0_2 a0_3 _ _ l0_4 t511 t512 t513 t514 t515 _ ?side1 ?side2 A12.out).mono ?_); (case side1 => repeat (first | exact (Kd.C_below HR0_4.out HB.out) | (with_reducible refine Kd.C_alloc ?_ _) | (with_reducible refine Kd.C_drewN ?_ _) | (with_reducible refine Kd.C_drew ?_))); (case side2 => exact HC0_4.out); rintro e w62 ⟨v516, rfl, ho0, hb⟩; refine ⟨_, rfl, ?_⟩; have HO517 := Aside0.mk (Kd.R_lower (Kd.R_new' ho0 (Kd.R_lt (kr_ HO509.out))) (below_size (hb1_ HB.out GE501.out))); replace HO509 := Aside0.mk (Kd.R_elder' (kr_ HO509.out) (Kd.R_base ho0) hb); replace BK501 := BK501.bb hb; replace HB := HB.s1 GE501 hb; (try clear hb); (try clear ho0)) | (refine box_ (N := 11) (cs := #[.int .i64 0, .int .i64 0, .int .i64 0, .int .i64 0, .slice none 0 0]) (t := 36) ?_; intro gb518 hg w63 hbox hb; replace HO509 := HO509.kb hb; replace HO517 := HO517.kb hb; have BK518 := Aside0.mk (hbox); have GW518 := HB.g1 GE501 hg; have GE518 := HB.g1 GE501 hg; replace HB := HB.s1 GE501 hb; have NB501_518 := BK501.nl hg; have NB518_501 := BK501.nr hg; replace BK501 := BK501.bb hb; clear hb hbox hg; have hnb64 := NB518_501.out; have hnc64 := NB501_518.out; obtain ⟨hcz65_0, hcz65_1, hcz65_2, hcz65_3, hcz65_4⟩ := cz5_ BK518.out; obtain ⟨hfz65_0, hfz65_1, hfz65_2, hfz65_3, hfz65_4⟩ := fz5_ BK518.out; obtain ⟨Ao66, co66, eo66⟩ := Kd.R_slice HO517.out; subst eo66) | (refine gl_ 30 Try.func11 #[.agg #[.int .i64 t511, .int .i64 t512, .int .i64 t513, .int .i64 t514, .slice Ao66 t515.length co66], .int .i64 a1, .int .i64 a2, .int .i64 a3] ?_; (with_reducible refine (impl_EarliestAt.calls k t511 t512 t513 t514 _ _ t515 a1 a2 a3 t519 _ ?side1 ?side2 A13.out).mono ?_); (case side1 => refine (Kd.R_reads' (e := 56) (base := w.heap.size) (ok := fun k_ => (True ∧ some k_ ≠ (.slice Ao59 t507.length co59 : Value).ownBlock)) (n := t515.length) (c := co66) ?_).2.2; exact (rq5_ HO517.out BK518.out)); (case side2 => exact (Kd.R_reads' HO517.out).2.1); rintro e w67 ⟨rfl, hb⟩; refine ⟨_, rfl, ?_⟩; replace HO509 := Aside0.mk (Kd.R_below (rq5_ HO509.out BK518.out) hb); replace HO517 := Aside0.mk (Kd.R_below (rq5_ HO517.out BK518.out) hb); replace BK501 := Aside0.mk (blk_below (g := gb501) (o := .cells #[.int .i64 a0_0, .int .i64 a0_1, .int .i64 a0_2, .int .i64 a0_3, .slice A0_4 l0_4.length c0_4] 28 (0, 0)) (by (with_reducible repeat (first | refine blk_drewN ?_ _ | refine blk_drew ?_ | refine blk_alloc ?_ _)); refine blk_far ?_ NB501_518.out _; (with_reducible repeat (first | refine blk_drewN ?_ _ | refine blk_drew ?_ | refine blk_alloc ?_ _)); refine blk_far ?_ NB501_518.out _; (with_reducible repeat (first | refine blk_drewN ?_ _ | refine blk_drew ?_ | refine blk_alloc ?_ _)); refine blk_far ?_ NB501_518.out _; (with_reducible repeat (first | refine blk_drewN ?_ _ | refine blk_drew ?_ | refine blk_alloc ?_ _)); refine blk_far ?_ NB501_518.out _; (with_reducible repeat (first | refine blk_drewN ?_ _ | refine blk_drew ?_ | refine blk_alloc ?_ _)); refine blk_far ?_ NB501_518.out _; (with_reducible repeat (first | refine blk_drewN ?_ _ | refine blk_drew ?_ | refine blk_alloc ?_ _)); exact BK501.out) hb); replace BK518 := Aside0.mk (blk_below (bq5_ BK518.out) hb); replace HB := HB.s2 GE501 GE518 hb; (try clear hb)))
   go_ret
   exact ⟨ex_, hb2_ HB.out GE501.out GE518.out⟩

/-- THE ONE PURE STATEMENT of laws_FnExactEarliestAt: yours. -/
def laws_FnExactEarliestAt.Pure : Prop := ∀ (a0_0 : Int) (a0_1 : Int) (a0_2 : Int) (a0_3 : Int) (l0_4 : List (S85)) (a1 : Int) (a2 : Int) (a3 : Int), (Lit.int .i64 a0_0).wf = true → (Lit.int .i64 a0_1).wf = true → (Lit.int .i64 a0_2).wf = true → (Lit.int .i64 a0_3).wf = true → l0_4.length ≤ maxLen → (Lit.int .i64 a1).wf = true → (Lit.int .i64 a2).wf = true → (Lit.int .i64 a3).wf = true → ∃ k, laws_FnExactEarliestAt.f k a0_0 a0_1 a0_2 a0_3 l0_4 a1 a2 a3 = some true
theorem laws_FnExactEarliestAt.walk (P : laws_FnExactEarliestAt.Pure) (a0_0 : Int) (a0_1 : Int) (a0_2 : Int) (a0_3 : Int) (a0_4 : Option Addr) (len0_4 cap0_4 : Nat) (l0_4 : List (S85)) (a1 : Int) (a2 : Int) (a3 : Int) (w : World) (w0_0 : (Lit.int .i64 a0_0).wf = true) (w0_1 : (Lit.int .i64 a0_1).wf = true) (w0_2 : (Lit.int .i64 a0_2).wf = true) (w0_3 : (Lit.int .i64 a0_3).wf = true) (w0_4 : Kd.C k85 w a0_4 len0_4 l0_4 ∧ len0_4 ≤ cap0_4 ∧ len0_4 ≤ maxLen ∧ l0_4.length = len0_4) (w1 : (Lit.int .i64 a1).wf = true) (w2 : (Lit.int .i64 a2).wf = true) (w3 : (Lit.int .i64 a3).wf = true) :
  Calls Try.prog 3 #[.agg #[.int .i64 a0_0, .int .i64 a0_1, .int .i64 a0_2, .int .i64 a0_3, .slice a0_4 len0_4 cap0_4], .int .i64 a1, .int .i64 a2, .int .i64 a3] w fun e w' => e = .returned (.bool true) ∧ Below w.heap.size w w' := by
 obtain ⟨hr0_4, hc0_4, hm0_4, rfl⟩ := w0_4
 obtain ⟨k, h⟩ := P a0_0 a0_1 a0_2 a0_3 l0_4 a1 a2 a3 w0_0 w0_1 w0_2 w0_3 hm0_4 w1 w2 w3
 refine (laws_FnExactEarliestAt.calls k a0_0 a0_1 a0_2 a0_3 _ _ l0_4 a1 a2 a3 true w hr0_4 hc0_4 h).mono ?_
 rintro e w' ⟨rfl, hd⟩
 exact ⟨rfl, hd⟩

end Go.Proofs.Ytlfomjhjeknnmaa.X
