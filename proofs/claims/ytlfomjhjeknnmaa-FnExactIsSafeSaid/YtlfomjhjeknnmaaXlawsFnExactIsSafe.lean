-- Written by a program of this session (xprint.py), out of the translation and of hand-written contracts. Lean checks it.
import Derived.Test.YtlfomjhjeknnmaaX0
import Derived.Test.YtlfomjhjeknnmaaXctimed
import Derived.Test.YtlfomjhjeknnmaaXimplIsSafe
import Derived.Test.YtlfomjhjeknnmaaXspecIsSafe
namespace Go.Proofs.Ytlfomjhjeknnmaa.X
open Go.RowKit Go.Proofs.YtlfomjhjeknnmaaW.PrintWords Go.Proofs.YtlfomjhjeknnmaaW.PrintLast Go.Proofs.YtlfomjhjeknnmaaW.PrintMore
attribute [local go_sem] max2_int min2_int max_two min_two max_three min_three max_four min_four   -- for this text's walks alone
set_option linter.unusedVariables false
set_option linter.unusedSimpArgs false

/-! ### laws_FnExactIsSafe: function 4 -/
def laws_FnExactIsSafe.f (k : Nat) (a0_0 : Int) (a0_1 : Int) (a0_2 : Int) (a0_3 : Int) (l0_4 : List (S85)) (a1 : Int) : Option (Bool) := (laws_szTimed.f a0_0 a0_1 a0_2 a0_3 l0_4 1048576).bind fun t502 => (if t502 < 0 then (some true) else ((laws_toTimed.f k a0_0 a0_1 a0_2 a0_3 l0_4).bind fun bt503 => ((spec_IsSafe.f k bt503.1 bt503.2.1 bt503.2.2.1 bt503.2.2.2.1 bt503.2.2.2.2 a1).bind fun t510 => ((laws_toTimed.f k a0_0 a0_1 a0_2 a0_3 l0_4).bind fun bt511 => ((impl_IsSafe.f k bt511.1 bt511.2.1 bt511.2.2.1 bt511.2.2.2.1 bt511.2.2.2.2 a1).bind fun t519 => (if (t519 != t510) = true then (some false) else ((laws_toTimed.f k a0_0 a0_1 a0_2 a0_3 l0_4).bind fun bt520 => ((laws_eqTimed.f k bt511.1 bt511.2.1 bt511.2.2.1 bt511.2.2.2.1 bt511.2.2.2.2 bt520.1 bt520.2.1 bt520.2.2.1 bt520.2.2.2.1 bt520.2.2.2.2).bind fun t527 => (if t527 = true then (some true) else (some false))))))))))
theorem laws_FnExactIsSafe.mono : ∀ a0 a1 a2 a3 a4 a5 k, LeO (laws_FnExactIsSafe.f k a0 a1 a2 a3 a4 a5) (laws_FnExactIsSafe.f (k + 1) a0 a1 a2 a3 a4 a5) := by
 intro a0 a1 a2 a3 a4 a5 k
 unfold laws_FnExactIsSafe.f
 repeat' first
   | (with_reducible exact impl_IsSafe.mono ..)
   | (with_reducible exact laws_eqTimed.mono ..)
   | (with_reducible exact laws_toTimed.mono ..)
   | (with_reducible exact spec_IsSafe.mono ..)
   | (with_reducible first | exact lr_ _ | exact ln_ _ | refine li_ ?_ ?_ | refine lb_ ?_ fun _ => ?_)
   | exact impl_IsSafe.mono ..
   | exact laws_eqTimed.mono ..
   | exact laws_toTimed.mono ..
   | exact spec_IsSafe.mono ..
   | exact ln_ _ | refine li_ ?_ ?_ | refine lb_ ?_ fun _ => ?_
set_option maxHeartbeats 8000000 in
set_option maxRecDepth 100000 in
theorem laws_FnExactIsSafe.calls (k : Nat) (a0_0 : Int) (a0_1 : Int) (a0_2 : Int) (a0_3 : Int) (A0_4 : Option Addr) (c0_4 : Nat) (l0_4 : List (S85)) (a1 : Int) (r : Bool) (w : World) (hr0_4 : Kd.C k85 w A0_4 l0_4.length l0_4) (hc0_4 : l0_4.length ≤ c0_4) (h : laws_FnExactIsSafe.f k a0_0 a0_1 a0_2 a0_3 l0_4 a1 = some r) :
  Calls Try.prog 4 #[.agg #[.int .i64 a0_0, .int .i64 a0_1, .int .i64 a0_2, .int .i64 a0_3, .slice A0_4 l0_4.length c0_4], .int .i64 a1] w fun e w' => e = .returned (.bool r) ∧ Below w.heap.size w w' := by
 have hu28 := Try.underlying28
 have hu36 := Try.underlying36
 have HR0_4 := Aside0.mk hr0_4
 have HC0_4 := Aside0.mk hc0_4
 clear hr0_4 hc0_4
 have HB := Aside0.mk (Below.refl w.heap.size w)
 have H : ((laws_szTimed.f a0_0 a0_1 a0_2 a0_3 l0_4 1048576).bind fun t502 => (if t502 < 0 then (some true) else ((laws_toTimed.f k a0_0 a0_1 a0_2 a0_3 l0_4).bind fun bt503 => ((spec_IsSafe.f k bt503.1 bt503.2.1 bt503.2.2.1 bt503.2.2.2.1 bt503.2.2.2.2 a1).bind fun t510 => ((laws_toTimed.f k a0_0 a0_1 a0_2 a0_3 l0_4).bind fun bt511 => ((impl_IsSafe.f k bt511.1 bt511.2.1 bt511.2.2.1 bt511.2.2.2.1 bt511.2.2.2.2 a1).bind fun t519 => (if (t519 != t510) = true then (some false) else ((laws_toTimed.f k a0_0 a0_1 a0_2 a0_3 l0_4).bind fun bt520 => ((laws_eqTimed.f k bt511.1 bt511.2.1 bt511.2.2.1 bt511.2.2.2.1 bt511.2.2.2.2 bt520.1 bt520.2.1 bt520.2.2.1 bt520.2.2.2.1 bt520.2.2.2.2).bind fun t527 => (if t527 = true then (some true) else (some false))))))))))) = some r := h
 clear h
 replace H := Option.bind_eq_some_iff.mp H
 obtain ⟨t502, A30, H⟩ := H
 replace H : (if t502 < 0 then (some true) else ((laws_toTimed.f k a0_0 a0_1 a0_2 a0_3 l0_4).bind fun bt503 => ((spec_IsSafe.f k bt503.1 bt503.2.1 bt503.2.2.1 bt503.2.2.2.1 bt503.2.2.2.2 a1).bind fun t510 => ((laws_toTimed.f k a0_0 a0_1 a0_2 a0_3 l0_4).bind fun bt511 => ((impl_IsSafe.f k bt511.1 bt511.2.1 bt511.2.2.1 bt511.2.2.2.1 bt511.2.2.2.2 a1).bind fun t519 => (if (t519 != t510) = true then (some false) else ((laws_toTimed.f k a0_0 a0_1 a0_2 a0_3 l0_4).bind fun bt520 => ((laws_eqTimed.f k bt511.1 bt511.2.1 bt511.2.2.1 bt511.2.2.2.1 bt511.2.2.2.2 bt520.1 bt520.2.1 bt520.2.2.1 bt520.2.2.2.1 bt520.2.2.2.2).bind fun t527 => (if t527 = true then (some true) else (some false)))))))))) = some r := H
 have A3 := Aside0.mk A30
 clear A30
 by_cases c4 : t502 < 0
 ·rw [if_pos c4] at H
  have c4b0 : decide (t502 < 0) = true := decide_eq_true c4
  clear c4
  obtain rfl := Option.some.inj H
  go_enter Try.func4, Try.ntmps4
  go_wp2_with ((with_reducible refine gw_ ?_); first | (refine box_ (N := 2) (cs := #[.int .i64 a0_0, .int .i64 a0_1, .int .i64 a0_2, .int .i64 a0_3, .slice A0_4 l0_4.length c0_4]) (t := 28) ?_; intro gb501 hg w5 hbox hb; have BK501 := Aside0.mk (hbox); have GW501 := HB.g0 hg; have GE501 := HB.g0 hg; replace HB := HB.s0 hb; clear hb hbox hg; obtain ⟨hcz6_0, hcz6_1, hcz6_2, hcz6_3, hcz6_4⟩ := cz5_ BK501.out; obtain ⟨hfz6_0, hfz6_1, hfz6_2, hfz6_3, hfz6_4⟩ := fz5_ BK501.out) | (refine gl_ 11 Try.func8 #[.agg #[.int .i64 a0_0, .int .i64 a0_1, .int .i64 a0_2, .int .i64 a0_3, .slice A0_4 l0_4.length c0_4], .int .i64 1048576] ?_; (with_reducible refine (laws_szTimed.calls a0_0 a0_1 a0_2 a0_3 _ _ l0_4 1048576 t502 _ ?side1 ?side2 A3.out).mono ?_); (case side1 => repeat (first | exact (Kd.C_below HR0_4.out HB.out) | (with_reducible refine Kd.C_alloc ?_ _) | (with_reducible refine Kd.C_drewN ?_ _) | (with_reducible refine Kd.C_drew ?_))); (case side2 => exact HC0_4.out); rintro e w7 ⟨rfl, hb⟩; refine ⟨_, rfl, ?_⟩; replace BK501 := BK501.bb hb; replace HB := HB.s1 GE501 hb; (try clear hb)))
  go_ret
  exact ⟨ex_, hb1_ HB.out GE501.out⟩
 ·rw [if_neg c4] at H
  have c4b0 : decide (t502 < 0) = false := decide_eq_false c4
  clear c4
  replace H := Option.bind_eq_some_iff.mp H
  obtain ⟨⟨t503, t504, t505, t506, t507⟩, A80, H⟩ := H
  replace H : ((spec_IsSafe.f k t503 t504 t505 t506 t507 a1).bind fun t510 => ((laws_toTimed.f k a0_0 a0_1 a0_2 a0_3 l0_4).bind fun bt511 => ((impl_IsSafe.f k bt511.1 bt511.2.1 bt511.2.2.1 bt511.2.2.2.1 bt511.2.2.2.2 a1).bind fun t519 => (if (t519 != t510) = true then (some false) else ((laws_toTimed.f k a0_0 a0_1 a0_2 a0_3 l0_4).bind fun bt520 => ((laws_eqTimed.f k bt511.1 bt511.2.1 bt511.2.2.1 bt511.2.2.2.1 bt511.2.2.2.2 bt520.1 bt520.2.1 bt520.2.2.1 bt520.2.2.2.1 bt520.2.2.2.2).bind fun t527 => (if t527 = true then (some true) else (some false)))))))) = some r := H
  have A8 := Aside0.mk A80
  clear A80
  replace H := Option.bind_eq_some_iff.mp H
  obtain ⟨t510, A90, H⟩ := H
  replace H : ((laws_toTimed.f k a0_0 a0_1 a0_2 a0_3 l0_4).bind fun bt511 => ((impl_IsSafe.f k bt511.1 bt511.2.1 bt511.2.2.1 bt511.2.2.2.1 bt511.2.2.2.2 a1).bind fun t519 => (if (t519 != t510) = true then (some false) else ((laws_toTimed.f k a0_0 a0_1 a0_2 a0_3 l0_4).bind fun bt520 => ((laws_eqTimed.f k bt511.1 bt511.2.1 bt511.2.2.1 bt511.2.2.2.1 bt511.2.2.2.2 bt520.1 bt520.2.1 bt520.2.2.1 bt520.2.2.2.1 bt520.2.2.2.2).bind fun t527 => (if t527 = true then (some true) else (some false))))))) = some r := H
  have A9 := Aside0.mk A90
  clear A90
  replace H := Option.bind_eq_some_iff.mp H
  obtain ⟨⟨t511, t512, t513, t514, t515⟩, A100, H⟩ := H
  replace H : ((impl_IsSafe.f k t511 t512 t513 t514 t515 a1).bind fun t519 => (if (t519 != t510) = true then (some false) else ((laws_toTimed.f k a0_0 a0_1 a0_2 a0_3 l0_4).bind fun bt520 => ((laws_eqTimed.f k t511 t512 t513 t514 t515 bt520.1 bt520.2.1 bt520.2.2.1 bt520.2.2.2.1 bt520.2.2.2.2).bind fun t527 => (if t527 = true then (some true) else (some false)))))) = some r := H
  have A10 := Aside0.mk A100
  clear A100
  replace H := Option.bind_eq_some_iff.mp H
  obtain ⟨t519, A110, H⟩ := H
  replace H : (if (t519 != t510) = true then (some false) else ((laws_toTimed.f k a0_0 a0_1 a0_2 a0_3 l0_4).bind fun bt520 => ((laws_eqTimed.f k t511 t512 t513 t514 t515 bt520.1 bt520.2.1 bt520.2.2.1 bt520.2.2.2.1 bt520.2.2.2.2).bind fun t527 => (if t527 = true then (some true) else (some false))))) = some r := H
  have A11 := Aside0.mk A110
  clear A110
  by_cases c12 : (t519 != t510) = true
  ·rw [if_pos c12] at H
   have c12b0 : (t519 != t510) = true := c12
   (try (have c12b1 : decide (t519 = t510) = false := by simpa using c12))
   (try (have c12b2 : (t519 == t510) = false := by simpa using c12))
   (try (have c12b3 : ¬ (t519 = t510) := by simpa using c12))
   clear c12
   obtain rfl := Option.some.inj H
   go_enter Try.func4, Try.ntmps4
   go_wp2_with ((with_reducible refine gw_ ?_); first | (refine box_ (N := 2) (cs := #[.int .i64 a0_0, .int .i64 a0_1, .int .i64 a0_2, .int .i64 a0_3, .slice A0_4 l0_4.length c0_4]) (t := 28) ?_; intro gb501 hg w13 hbox hb; have BK501 := Aside0.mk (hbox); have GW501 := HB.g0 hg; have GE501 := HB.g0 hg; replace HB := HB.s0 hb; clear hb hbox hg; obtain ⟨hcz14_0, hcz14_1, hcz14_2, hcz14_3, hcz14_4⟩ := cz5_ BK501.out; obtain ⟨hfz14_0, hfz14_1, hfz14_2, hfz14_3, hfz14_4⟩ := fz5_ BK501.out) | (refine gl_ 11 Try.func8 #[.agg #[.int .i64 a0_0, .int .i64 a0_1, .int .i64 a0_2, .int .i64 a0_3, .slice A0_4 l0_4.length c0_4], .int .i64 1048576] ?_; (with_reducible refine (laws_szTimed.calls a0_0 a0_1 a0_2 a0_3 _ _ l0_4 1048576 t502 _ ?side1 ?side2 A3.out).mono ?_); (case side1 => repeat (first | exact (Kd.C_below HR0_4.out HB.out) | (with_reducible refine Kd.C_alloc ?_ _) | (with_reducible refine Kd.C_drewN ?_ _) | (with_reducible refine Kd.C_drew ?_))); (case side2 => exact HC0_4.out); rintro e w15 ⟨rfl, hb⟩; refine ⟨_, rfl, ?_⟩; replace BK501 := BK501.bb hb; replace HB := HB.s1 GE501 hb; (try clear hb); obtain ⟨hcz16_0, hcz16_1, hcz16_2, hcz16_3, hcz16_4⟩ := cz5_ BK501.out; obtain ⟨hfz16_0, hfz16_1, hfz16_2, hfz16_3, hfz16_4⟩ := fz5_ BK501.out) | (refine gl_ 15 Try.func10 #[.agg #[.int .i64 a0_0, .int .i64 a0_1, .int .i64 a0_2, .int .i64 a0_3, .slice A0_4 l0_4.length c0_4]] ?_; (with_reducible refine (laws_toTimed.calls k a0_0 a0_1 a0_2 a0_3 _ _ l0_4 t503 t504 t505 t506 t507 _ ?side1 ?side2 A8.out).mono ?_); (case side1 => repeat (first | exact (Kd.C_below HR0_4.out HB.out) | (with_reducible refine Kd.C_alloc ?_ _) | (with_reducible refine Kd.C_drewN ?_ _) | (with_reducible refine Kd.C_drew ?_))); (case side2 => exact HC0_4.out); rintro e w17 ⟨v508, rfl, ho0, hb⟩; refine ⟨_, rfl, ?_⟩; have HO509 := Aside0.mk (Kd.R_lower ho0 (below_size (hb1_ HB.out GE501.out))); replace BK501 := BK501.bb hb; replace HB := HB.s1 GE501 hb; (try clear hb); (try clear ho0); obtain ⟨Ao18, co18, eo18⟩ := Kd.R_slice HO509.out; subst eo18) | (refine gl_ 17 Try.func13 #[.agg #[.int .i64 t503, .int .i64 t504, .int .i64 t505, .int .i64 t506, .slice Ao18 t507.length co18], .int .i64 a1] ?_; (with_reducible refine (spec_IsSafe.calls k t503 t504 t505 t506 _ _ t507 a1 t510 _ ?side1 ?side2 A9.out).mono ?_); (case side1 => repeat (first | exact (Kd.R_reads' HO509.out).2.2 | (with_reducible refine Kd.C_alloc ?_ _) | (with_reducible refine Kd.C_drewN ?_ _) | (with_reducible refine Kd.C_drew ?_))); (case side2 => exact (Kd.R_reads' HO509.out).2.1); rintro e w19 ⟨rfl, hb⟩; refine ⟨_, rfl, ?_⟩; replace HO509 := HO509.kb hb; replace BK501 := BK501.bb hb; replace HB := HB.s1 GE501 hb; (try clear hb); obtain ⟨hcz20_0, hcz20_1, hcz20_2, hcz20_3, hcz20_4⟩ := cz5_ BK501.out; obtain ⟨hfz20_0, hfz20_1, hfz20_2, hfz20_3, hfz20_4⟩ := fz5_ BK501.out) | (refine gl_ 19 Try.func10 #[.agg #[.int .i64 a0_0, .int .i64 a0_1, .int .i64 a0_2, .int .i64 a0_3, .slice A0_4 l0_4.length c0_4]] ?_; (with_reducible refine (laws_toTimed.calls k a0_0 a0_1 a0_2 a0_3 _ _ l0_4 t511 t512 t513 t514 t515 _ ?side1 ?side2 A10.out).mono ?_); (case side1 => repeat (first | exact (Kd.C_below HR0_4.out HB.out) | (with_reducible refine Kd.C_alloc ?_ _) | (with_reducible refine Kd.C_drewN ?_ _) | (with_reducible refine Kd.C_drew ?_))); (case side2 => exact HC0_4.out); rintro e w21 ⟨v516, rfl, ho0, hb⟩; refine ⟨_, rfl, ?_⟩; have HO517 := Aside0.mk (Kd.R_lower (Kd.R_new' ho0 (Kd.R_lt (kr_ HO509.out))) (below_size (hb1_ HB.out GE501.out))); replace HO509 := Aside0.mk (Kd.R_elder' (kr_ HO509.out) (Kd.R_base ho0) hb); replace BK501 := BK501.bb hb; replace HB := HB.s1 GE501 hb; (try clear hb); (try clear ho0)) | (refine box_ (N := 7) (cs := #[.int .i64 0, .int .i64 0, .int .i64 0, .int .i64 0, .slice none 0 0]) (t := 36) ?_; intro gb518 hg w22 hbox hb; replace HO509 := HO509.kb hb; replace HO517 := HO517.kb hb; have BK518 := Aside0.mk (hbox); have GW518 := HB.g1 GE501 hg; have GE518 := HB.g1 GE501 hg; replace HB := HB.s1 GE501 hb; have NB501_518 := BK501.nl hg; have NB518_501 := BK501.nr hg; replace BK501 := BK501.bb hb; clear hb hbox hg; have hnb23 := NB518_501.out; have hnc23 := NB501_518.out; obtain ⟨hcz24_0, hcz24_1, hcz24_2, hcz24_3, hcz24_4⟩ := cz5_ BK518.out; obtain ⟨hfz24_0, hfz24_1, hfz24_2, hfz24_3, hfz24_4⟩ := fz5_ BK518.out; obtain ⟨Ao25, co25, eo25⟩ := Kd.R_slice HO517.out; subst eo25) | (refine gl_ 22 Try.func14 #[.agg #[.int .i64 t511, .int .i64 t512, .int .i64 t513, .int .i64 t514, .slice Ao25 t515.length co25], .int .i64 a1] ?_; (with_reducible refine (impl_IsSafe.calls k t511 t512 t513 t514 _ _ t515 a1 t519 _ ?side1 ?side2 A11.out).mono ?_); (case side1 => refine (Kd.R_reads' (e := 56) (base := w.heap.size) (ok := fun k_ => (True ∧ some k_ ≠ (.slice Ao18 t507.length co18 : Value).ownBlock)) (n := t515.length) (c := co25) ?_).2.2; exact (rq5_ HO517.out BK518.out)); (case side2 => exact (Kd.R_reads' HO517.out).2.1); rintro e w26 ⟨rfl, hb⟩; refine ⟨_, rfl, ?_⟩; replace HO509 := Aside0.mk (Kd.R_below (rq5_ HO509.out BK518.out) hb); replace HO517 := Aside0.mk (Kd.R_below (rq5_ HO517.out BK518.out) hb); replace BK501 := Aside0.mk (blk_below (g := gb501) (o := .cells #[.int .i64 a0_0, .int .i64 a0_1, .int .i64 a0_2, .int .i64 a0_3, .slice A0_4 l0_4.length c0_4] 28 (0, 0)) (by (with_reducible repeat (first | refine blk_drewN ?_ _ | refine blk_drew ?_ | refine blk_alloc ?_ _)); refine blk_far ?_ NB501_518.out _; (with_reducible repeat (first | refine blk_drewN ?_ _ | refine blk_drew ?_ | refine blk_alloc ?_ _)); refine blk_far ?_ NB501_518.out _; (with_reducible repeat (first | refine blk_drewN ?_ _ | refine blk_drew ?_ | refine blk_alloc ?_ _)); refine blk_far ?_ NB501_518.out _; (with_reducible repeat (first | refine blk_drewN ?_ _ | refine blk_drew ?_ | refine blk_alloc ?_ _)); refine blk_far ?_ NB501_518.out _; (with_reducible repeat (first | refine blk_drewN ?_ _ | refine blk_drew ?_ | refine blk_alloc ?_ _)); refine blk_far ?_ NB501_518.out _; (with_reducible repeat (first | refine blk_drewN ?_ _ | refine blk_drew ?_ | refine blk_alloc ?_ _)); exact BK501.out) hb); replace BK518 := Aside0.mk (blk_below (bq5_ BK518.out) hb); replace HB := HB.s2 GE501 GE518 hb; (try clear hb)))
   go_ret
   exact ⟨ex_, hb2_ HB.out GE501.out GE518.out⟩
  ·rw [if_neg c12] at H
   have c12b0 : (t519 != t510) = false := by simpa using c12
   (try (have c12b1 : decide (t519 = t510) = true := by simpa using c12))
   (try (have c12b2 : (t519 == t510) = true := by simpa using c12))
   clear c12
   replace H := Option.bind_eq_some_iff.mp H
   obtain ⟨⟨t520, t521, t522, t523, t524⟩, A270, H⟩ := H
   replace H : ((laws_eqTimed.f k t511 t512 t513 t514 t515 t520 t521 t522 t523 t524).bind fun t527 => (if t527 = true then (some true) else (some false))) = some r := H
   have A27 := Aside0.mk A270
   clear A270
   replace H := Option.bind_eq_some_iff.mp H
   obtain ⟨t527, A280, H⟩ := H
   replace H : (if t527 = true then (some true) else (some false)) = some r := H
   have A28 := Aside0.mk A280
   clear A280
   by_cases c29 : t527 = true
   ·subst c29
    have H1 : (some true) = some r := by rw [if_pos rfl] at H; exact H
    clear H
    have H := H1
    clear H1
    obtain rfl := Option.some.inj H
    go_enter Try.func4, Try.ntmps4
    try go_wp2_with ((with_reducible refine gw_ ?_); first | (refine box_ (N := 2) (cs := #[.int .i64 a0_0, .int .i64 a0_1, .int .i64 a0_2, .int .i64 a0_3, .slice A0_4 l0_4.length c0_4]) (t := 28) ?_; intro gb501 hg w30 hbox hb; have BK501 := Aside0.mk (hbox); have GW501 := HB.g0 hg; have GE501 := HB.g0 hg; replace HB := HB.s0 hb; clear hb hbox hg; obtain ⟨hcz31_0, hcz31_1, hcz31_2, hcz31_3, hcz31_4⟩ := cz5_ BK501.out; obtain ⟨hfz31_0, hfz31_1, hfz31_2, hfz31_3, hfz31_4⟩ := fz5_ BK501.out) | (refine gl_ 11 Try.func8 #[.agg #[.int .i64 a0_0, .int .i64 a0_1, .int .i64 a0_2, .int .i64 a0_3, .slice A0_4 l0_4.length c0_4], .int .i64 1048576] ?_; (with_reducible refine (laws_szTimed.calls a0_0 a0_1 a0_2 a0_3 _ _ l0_4 1048576 t502 _ ?side1 ?side2 A3.out).mono ?_); (case side1 => repeat (first | exact (Kd.C_below HR0_4.out HB.out) | (with_reducible refine Kd.C_alloc ?_ _) | (with_reducible refine Kd.C_drewN ?_ _) | (with_reducible refine Kd.C_drew ?_))); (case side2 => exact HC0_4.out); rintro e w32 ⟨rfl, hb⟩; refine ⟨_, rfl, ?_⟩; replace BK501 := BK501.bb hb; replace HB := HB.s1 GE501 hb; (try clear hb); obtain ⟨hcz33_0, hcz33_1, hcz33_2, hcz33_3, hcz33_4⟩ := cz5_ BK501.out; obtain ⟨hfz33_0, hfz33_1, hfz33_2, hfz33_3, hfz33_4⟩ := fz5_ BK501.out) | (refine gl_ 15 Try.func10 #[.agg #[.int .i64 a0_0, .int .i64 a0_1, .int .i64 a0_2, .int .i64 a0_3, .slice A0_4 l0_4.length c0_4]] ?_; (with_reducible refine (laws_toTimed.calls k a0_0 a0_1 a0_2 a0_3 _ _ l0_4 t503 t504 t505 t506 t507 _ ?side1 ?side2 A8.out).mono ?_); (case side1 => repeat (first | exact (Kd.C_below HR0_4.out HB.out) | (with_reducible refine Kd.C_alloc ?_ _) | (with_reducible refine Kd.C_drewN ?_ _) | (with_reducible refine Kd.C_drew ?_))); (case side2 => exact HC0_4.out); rintro e w34 ⟨v508, rfl, ho0, hb⟩; refine ⟨_, rfl, ?_⟩; have HO509 := Aside0.mk (Kd.R_lower ho0 (below_size (hb1_ HB.out GE501.out))); replace BK501 := BK501.bb hb; replace HB := HB.s1 GE501 hb; (try clear hb); (try clear ho0); obtain ⟨Ao35, co35, eo35⟩ := Kd.R_slice HO509.out; subst eo35) | (refine gl_ 17 Try.func13 #[.agg #[.int .i64 t503, .int .i64 t504, .int .i64 t505, .int .i64 t506, .slice Ao35 t507.length co35], .int .i64 a1] ?_; (with_reducible refine (spec_IsSafe.calls k t503 t504 t505 t506 _ _ t507 a1 t510 _ ?side1 ?side2 A9.out).mono ?_); (case side1 => repeat (first | exact (Kd.R_reads' HO509.out).2.2 | (with_reducible refine Kd.C_alloc ?_ _) | (with_reducible refine Kd.C_drewN ?_ _) | (with_reducible refine Kd.C_drew ?_))); (case side2 => exact (Kd.R_reads' HO509.out).2.1); rintro e w36 ⟨rfl, hb⟩; refine ⟨_, rfl, ?_⟩; replace HO509 := HO509.kb hb; replace BK501 := BK501.bb hb; replace HB := HB.s1 GE501 hb; (try clear hb); obtain ⟨hcz37_0, hcz37_1, hcz37_2, hcz37_3, hcz37_4⟩ := cz5_ BK501.out; obtain ⟨hfz37_0, hfz37_1, hfz37_2, hfz37_3, hfz37_4⟩ := fz5_ BK501.out) | (refine gl_ 19 Try.func10 #[.agg #[.int .i64 a0_0, .int .i64 a0_1, .int .i64 a0_2, .int .i64 a0_3, .slice A0_4 l0_4.length c0_4]] ?_; (with_reducible refine (laws_toTimed.calls k a0_0 a0_1 a0_2 a0_3 _ _ l0_4 t511 t512 t513 t514 t515 _ ?side1 ?side2 A10.out).mono ?_); (case side1 => repeat (first | exact (Kd.C_below HR0_4.out HB.out) | (with_reducible refine Kd.C_alloc ?_ _) | (with_reducible refine Kd.C_drewN ?_ _) | (with_reducible refine Kd.C_drew ?_))); (case side2 => exact HC0_4.out); rintro e w38 ⟨v516, rfl, ho0, hb⟩; refine ⟨_, rfl, ?_⟩; have HO517 := Aside0.mk (Kd.R_lower (Kd.R_new' ho0 (Kd.R_lt (kr_ HO509.out))) (below_size (hb1_ HB.out GE501.out))); replace HO509 := Aside0.mk (Kd.R_elder' (kr_ HO509.out) (Kd.R_base ho0) hb); replace BK501 := BK501.bb hb; replace HB := HB.s1 GE501 hb; (try clear hb); (try clear ho0)) | (refine box_ (N := 7) (cs := #[.int .i64 0, .int .i64 0, .int .i64 0, .int .i64 0, .slice none 0 0]) (t := 36) ?_; intro gb518 hg w39 hbox hb; replace HO509 := HO509.kb hb; replace HO517 := HO517.kb hb; have BK518 := Aside0.mk (hbox); have GW518 := HB.g1 GE501 hg; have GE518 := HB.g1 GE501 hg; replace HB := HB.s1 GE501 hb; have NB501_518 := BK501.nl hg; have NB518_501 := BK501.nr hg; replace BK501 := BK501.bb hb; clear hb hbox hg; have hnb40 := NB518_501.out; have hnc40 := NB501_518.out; obtain ⟨hcz41_0, hcz41_1, hcz41_2, hcz41_3, hcz41_4⟩ := cz5_ BK518.out; obtain ⟨hfz41_0, hfz41_1, hfz41_2, hfz41_3, hfz41_4⟩ := fz5_ BK518.out; obtain ⟨Ao42, co42, eo42⟩ := Kd.R_slice HO517.out; subst eo42) | (refine gl_ 22 Try.func14 #[.agg #[.int .i64 t511, .int .i64 t512, .int .i64 t513, .int .i64 t514, .slice Ao42 t515.length co42], .int .i64 a1] ?_; (with_reducible refine (impl_IsSafe.calls k t511 t512 t513 t514 _ _ t515 a1 t519 _ ?side1 ?side2 A11.out).mono ?_); (case side1 => refine (Kd.R_reads' (e := 56) (base := w.heap.size) (ok := fun k_ => (True ∧ some k_ ≠ (.slice Ao35 t507.length co35 : Value).ownBlock)) (n := t515.length) (c := co42) ?_).2.2; exact (rq5_ HO517.out BK518.out)); (case side2 => exact (Kd.R_reads' HO517.out).2.1); rintro e w43 ⟨rfl, hb⟩; refine ⟨_, rfl, ?_⟩; replace HO509 := Aside0.mk (Kd.R_below (rq5_ HO509.out BK518.out) hb); replace HO517 := Aside0.mk (Kd.R_below (rq5_ HO517.out BK518.out) hb); replace BK501 := Aside0.mk (blk_below (g := gb501) (o := .cells #[.int .i64 a0_0, .int .i64 a0_1, .int .i64 a0_2, .int .i64 a0_3, .slice A0_4 l0_4.length c0_4] 28 (0, 0)) (by (with_reducible repeat (first | refine blk_drewN ?_ _ | refine blk_drew ?_ | refine blk_alloc ?_ _)); refine blk_far ?_ NB501_518.out _; (with_reducible repeat (first | refine blk_drewN ?_ _ | refine blk_drew ?_ | refine blk_alloc ?_ _)); refine blk_far ?_ NB501_518.out _; (with_reducible repeat (first | refine blk_drewN ?_ _ | refine blk_drew ?_ | refine blk_alloc ?_ _)); refine blk_far ?_ NB501_518.out _; (with_reducible repeat (first | refine blk_drewN ?_ _ | refine blk_drew ?_ | refine blk_alloc ?_ _)); refine blk_far ?_ NB501_518.out _; (with_reducible repeat (first | refine blk_drewN ?_ _ | refine blk_drew ?_ | refine blk_alloc ?_ _)); refine blk_far ?_ NB501_518.out _; (with_reducible repeat (first | refine blk_drewN ?_ _ | refine blk_drew ?_ | refine blk_alloc ?_ _)); exact BK501.out) hb); replace BK518 := Aside0.mk (blk_below (bq5_ BK518.out) hb); replace HB := HB.s2 GE501 GE518 hb; (try clear hb)))
    replace HO509 := Aside0.mk (Kd.R_drew HO509.out)
    replace HO517 := Aside0.mk (Kd.R_drew HO517.out)
    replace BK501 := Aside0.mk (blk_drew BK501.out)
    replace BK518 := Aside0.mk (blk_drew BK518.out)
    replace HB := Aside0.mk (below_drew1 HB.out)
    refine start_ (n := 5) (S := fun w' => w'.cell? ⟨gb518, 0, none⟩ = some (.int .i64 t511) ∧ w'.cell? ⟨gb518, 1, none⟩ = some (.int .i64 t512) ∧ w'.cell? ⟨gb518, 2, none⟩ = some (.int .i64 t513) ∧ w'.cell? ⟨gb518, 3, none⟩ = some (.int .i64 t514) ∧ w'.cell? ⟨gb518, 4, none⟩ = some (.slice Ao42 t515.length co42) ∧ w'.cell? ⟨gb501, 0, none⟩ = some (.int .i64 a0_0) ∧ w'.cell? ⟨gb501, 1, none⟩ = some (.int .i64 a0_1) ∧ w'.cell? ⟨gb501, 2, none⟩ = some (.int .i64 a0_2) ∧ w'.cell? ⟨gb501, 3, none⟩ = some (.int .i64 a0_3) ∧ w'.cell? ⟨gb501, 4, none⟩ = some (.slice A0_4 l0_4.length c0_4)) (ds := []) #[false, false, false, false, false] (by kernel_rfl) rfl rfl ⟨BK518.c 0, BK518.c 1, BK518.c 2, BK518.c 3, BK518.c 4, BK501.c 0, BK501.c 1, BK501.c 2, BK501.c 3, BK501.c 4⟩ (fun hHeld => ?_)
    generalize w43.drew = w44 at HO509 HO517 BK501 BK518 HB hHeld ⊢
    refine take_ (i := 0) (N := some 26) (v := ?_) (a' := ?_) #[true, false, false, false, false] rfl rfl (by kernel_rfl) (fun _ _ _ h => h) (Or.inl ⟨by rfl, ?_⟩) hHeld ?_ ?_
    rotate_left
    ·rintro w' ⟨s0, s1, s2, s3, s4, s5, s6, s7, s8, s9⟩
     go_simp
     with_reducible rfl
    rotate_left
    ·simp only [Act.put, List.setIfInBounds_toArray, List.set_cons_zero, List.set_cons_succ, i64_w, i32_w]
     rfl
    refine take_ (i := 1) (N := some 27) (v := ?_) (a' := ?_) #[true, true, false, false, false] rfl rfl (by kernel_rfl) (fun _ _ _ h => h) (Or.inl ⟨by rfl, ?_⟩) hHeld ?_ ?_
    rotate_left
    ·rintro w' ⟨s0, s1, s2, s3, s4, s5, s6, s7, s8, s9⟩
     go_simp
     with_reducible rfl
    rotate_left
    ·simp only [Act.put, List.setIfInBounds_toArray, List.set_cons_zero, List.set_cons_succ, i64_w, i32_w]
     rfl
    refine one_ (i := 2) (N := some 28) #[true, true, true, false, false] rfl rfl (by kernel_rfl) (by decide) (fun K hK => ?_)
    refine gq_ Try.func10 #[.agg #[.int .i64 a0_0, .int .i64 a0_1, .int .i64 a0_2, .int .i64 a0_3, .slice A0_4 l0_4.length c0_4]] ?_
    with_reducible refine (laws_toTimed.calls k a0_0 a0_1 a0_2 a0_3 _ _ l0_4 t520 t521 t522 t523 t524 _ ?side1 ?side2 A27.out).mono ?_
    (case side1 => repeat (first | exact (Kd.C_below HR0_4.out HB.out) | (with_reducible refine Kd.C_alloc ?_ _) | (with_reducible refine Kd.C_drewN ?_ _) | (with_reducible refine Kd.C_drew ?_)))
    (case side2 => exact HC0_4.out)
    rintro e w45 ⟨v525, rfl, ho0, hb⟩
    refine ⟨_, rfl, ?_⟩
    have n0_ := Aside0.mk (Kd.R_elder' (kr_ HO509.out) (Kd.R_base ho0) hb)
    have n1_ := Aside0.mk (Kd.R_elder' (kr_ HO517.out) (Kd.R_base ho0) hb)
    have n2_ := Aside0.mk (Kd.R_lower (Kd.R_new' (Kd.R_new' ho0 (Kd.R_lt (kr_ HO509.out))) (Kd.R_lt (kr_ HO517.out))) (below_size (hb2_ HB.out GE501.out GE518.out)))
    have n3_ := BK501.bb hb
    have n4_ := BK518.bb hb
    have n5_ := HB.s2 GE501 GE518 hb
    clear HO509
    clear HO517
    clear BK501
    clear BK518
    clear HB
    have HO509 := n0_
    have HO517 := n1_
    have HO526 := n2_
    have BK501 := n3_
    have BK518 := n4_
    have HB := n5_
    clear n0_ n1_ n2_ n3_ n4_ n5_
    skip
    (try clear hb2)
    (try clear hk)
    (try clear hi)
    (try clear ho0)
    obtain ⟨Ao46, co46, eo46⟩ := Kd.R_slice HO526.out
    (first | subst eo46 | (injection eo46 with f1_ f2_ f3_; have f4_ := f1_.symm; have f5_ := f3_.symm; clear f1_ f2_ f3_; subst f4_; subst f5_))
    refine hK.out _ _ ⟨BK518.c 0, BK518.c 1, BK518.c 2, BK518.c 3, BK518.c 4, BK501.c 0, BK501.c 1, BK501.c 2, BK501.c 3, BK501.c 4⟩ (fun hHeld => ?_)
    clear hK K
    refine nm_ ?_
    refine one_ (i := 3) (N := some 29) #[true, true, true, true, false] rfl rfl (by kernel_rfl) (by decide) (fun K hK => ?_)
    refine gq_ Try.func12 #[.agg #[.int .i64 t511, .int .i64 t512, .int .i64 t513, .int .i64 t514, .slice Ao42 t515.length co42], .agg #[.int .i64 t520, .int .i64 t521, .int .i64 t522, .int .i64 t523, .slice Ao46 t524.length co46]] ?_
    with_reducible refine (laws_eqTimed.calls k t511 t512 t513 t514 _ _ t515 t520 t521 t522 t523 _ _ t524 true _ ?side1 ?side2 ?side3 ?side4 A28.out).mono ?_
    (case side1 => repeat (first | exact (Kd.R_reads' HO517.out).2.2 | (with_reducible refine Kd.C_alloc ?_ _) | (with_reducible refine Kd.C_drewN ?_ _) | (with_reducible refine Kd.C_drew ?_)))
    (case side2 => exact (Kd.R_reads' HO517.out).2.1)
    (case side3 => repeat (first | exact (Kd.R_reads' HO526.out).2.2 | (with_reducible refine Kd.C_alloc ?_ _) | (with_reducible refine Kd.C_drewN ?_ _) | (with_reducible refine Kd.C_drew ?_)))
    (case side4 => exact (Kd.R_reads' HO526.out).2.1)
    rintro e w47 ⟨rfl, hb⟩
    refine ⟨_, rfl, ?_⟩
    replace HO509 := HO509.kb hb
    replace HO517 := HO517.kb hb
    replace HO526 := HO526.kb hb
    replace BK501 := BK501.bb hb
    replace BK518 := BK518.bb hb
    replace HB := HB.s2 GE501 GE518 hb
    skip
    (try clear hb2)
    (try clear hk)
    (try clear hi)
    refine hK.out _ _ ⟨BK518.c 0, BK518.c 1, BK518.c 2, BK518.c 3, BK518.c 4, BK501.c 0, BK501.c 1, BK501.c 2, BK501.c 3, BK501.c 4⟩ (fun hHeld => ?_)
    clear hK K
    refine nm_ ?_
    refine pure_ (i := 4) (N := some 30) (v := ?_) (a' := ?_) #[true, true, true, true, true] rfl rfl (by kernel_rfl) (fun _ _ _ h => h) (Or.inl ⟨by rfl, ?_⟩) ?_ ?_
    rotate_left
    ·intro w'
     go_simp
     with_reducible rfl
    rotate_left
    ·simp only [Act.put, List.setIfInBounds_toArray, List.set_cons_zero, List.set_cons_succ, i64_w, i32_w]
     rfl
    refine done_ (by kernel_rfl) ?_
    try go_wp2
    go_ret
    exact ⟨ex_, hb2_ HB.out GE501.out GE518.out⟩
   ·replace c29 := Bool.eq_false_iff.mpr c29
    subst c29
    have H1 : (some false) = some r := by rw [if_neg (show ¬ (false = true) by decide)] at H; exact H
    clear H
    have H := H1
    clear H1
    obtain rfl := Option.some.inj H
    go_enter Try.func4, Try.ntmps4
    try go_wp2_with ((with_reducible refine gw_ ?_); first | (refine box_ (N := 2) (cs := #[.int .i64 a0_0, .int .i64 a0_1, .int .i64 a0_2, .int .i64 a0_3, .slice A0_4 l0_4.length c0_4]) (t := 28) ?_; intro gb501 hg w48 hbox hb; have BK501 := Aside0.mk (hbox); have GW501 := HB.g0 hg; have GE501 := HB.g0 hg; replace HB := HB.s0 hb; clear hb hbox hg; obtain ⟨hcz49_0, hcz49_1, hcz49_2, hcz49_3, hcz49_4⟩ := cz5_ BK501.out; obtain ⟨hfz49_0, hfz49_1, hfz49_2, hfz49_3, hfz49_4⟩ := fz5_ BK501.out) | (refine gl_ 11 Try.func8 #[.agg #[.int .i64 a0_0, .int .i64 a0_1, .int .i64 a0_2, .int .i64 a0_3, .slice A0_4 l0_4.length c0_4], .int .i64 1048576] ?_; (with_reducible refine (laws_szTimed.calls a0_0 a0_1 a0_2 a0_3 _ _ l0_4 1048576 t502 _ ?side1 ?side2 A3.out).mono ?_); (case side1 => repeat (first | exact (Kd.C_below HR0_4.out HB.out) | (with_reducible refine Kd.C_alloc ?_ _) | (with_reducible refine Kd.C_drewN ?_ _) | (with_reducible refine Kd.C_drew ?_))); (case side2 => exact HC0_4.out); rintro e w50 ⟨rfl, hb⟩; refine ⟨_, rfl, ?_⟩; replace BK501 := BK501.bb hb; replace HB := HB.s1 GE501 hb; (try clear hb); obtain ⟨hcz51_0, hcz51_1, hcz51_2, hcz51_3, hcz51_4⟩ := cz5_ BK501.out; obtain ⟨hfz51_0, hfz51_1, hfz51_2, hfz51_3, hfz51_4⟩ := fz5_ BK501.out) | (refine gl_ 15 Try.func10 #[.agg #[.int .i64 a0_0, .int .i64 a0_1, .int .i64 a0_2, .int .i64 a0_3, .slice A0_4 l0_4.length c0_4]] ?_; (with_reducible refine (laws_toTimed.calls k a0_0 a0_1 a0_2 a0_3 _ _ l0_4 t503 t504 t505 t506 t507 _ ?side1 ?side2 A8.out).mono ?_); (case side1 => repeat (first | exact (Kd.C_below HR0_4.out HB.out) | (with_reducible refine Kd.C_alloc ?_ _) | (with_reducible refine Kd.C_drewN ?_ _) | (with_reducible refine Kd.C_drew ?_))); (case side2 => exact HC0_4.out); rintro e w52 ⟨v508, rfl, ho0, hb⟩; refine ⟨_, rfl, ?_⟩; have HO509 := Aside0.mk (Kd.R_lower ho0 (below_size (hb1_ HB.out GE501.out))); replace BK501 := BK501.bb hb; replace HB := HB.s1 GE501 hb; (try clear hb); (try clear ho0); obtain ⟨Ao53, co53, eo53⟩ := Kd.R_slice HO509.out; subst eo53) | (refine gl_ 17 Try.func13 #[.agg #[.int .i64 t503, .int .i64 t504, .int .i64 t505, .int .i64 t506, .slice Ao53 t507.length co53], .int .i64 a1] ?_; (with_reducible refine (spec_IsSafe.calls k t503 t504 t505 t506 _ _ t507 a1 t510 _ ?side1 ?side2 A9.out).mono ?_); (case side1 => repeat (first | exact (Kd.R_reads' HO509.out).2.2 | (with_reducible refine Kd.C_alloc ?_ _) | (with_reducible refine Kd.C_drewN ?_ _) | (with_reducible refine Kd.C_drew ?_))); (case side2 => exact (Kd.R_reads' HO509.out).2.1); rintro e w54 ⟨rfl, hb⟩; refine ⟨_, rfl, ?_⟩; replace HO509 := HO509.kb hb; replace BK501 := BK501.bb hb; replace HB := HB.s1 GE501 hb; (try clear hb); obtain ⟨hcz55_0, hcz55_1, hcz55_2, hcz55_3, hcz55_4⟩ := cz5_ BK501.out; obtain ⟨hfz55_0, hfz55_1, hfz55_2, hfz55_3, hfz55_4⟩ := fz5_ BK501.out) | (refine gl_ 19 Try.func10 #[.agg #[.int .i64 a0_0, .int .i64 a0_1, .int .i64 a0_2, .int .i64 a0_3, .slice A0_4 l0_4.length c0_4]] ?_; (with_reducible refine (laws_toTimed.calls k a0_0 a0_1 a0_2 a0_3 _ _ l0_4 t511 t512 t513 t514 t515 _ ?side1 ?side2 A10.out).mono ?_); (case side1 => repeat (first | exact (Kd.C_below HR0_4.out HB.out) | (with_reducible refine Kd.C_alloc ?_ _) | (with_reducible refine Kd.C_drewN ?_ _) | (with_reducible refine Kd.C_drew ?_))); (case side2 => exact HC0_4.out); rintro e w56 ⟨v516, rfl, ho0, hb⟩; refine ⟨_, rfl, ?_⟩; have HO517 := Aside0.mk (Kd.R_lower (Kd.R_new' ho0 (Kd.R_lt (kr_ HO509.out))) (below_size (hb1_ HB.out GE501.out))); replace HO509 := Aside0.mk (Kd.R_elder' (kr_ HO509.out) (Kd.R_base ho0) hb); replace BK501 := BK501.bb hb; replace HB := HB.s1 GE501 hb; (try clear hb); (try clear ho0)) | (refine box_ (N := 7) (cs := #[.int .i64 0, .int .i64 0, .int .i64 0, .int .i64 0, .slice none 0 0]) (t := 36) ?_; intro gb518 hg w57 hbox hb; replace HO509 := HO509.kb hb; replace HO517 := HO517.kb hb; have BK518 := Aside0.mk (hbox); have GW518 := HB.g1 GE501 hg; have GE518 := HB.g1 GE501 hg; replace HB := HB.s1 GE501 hb; have NB501_518 := BK501.nl hg; have NB518_501 := BK501.nr hg; replace BK501 := BK501.bb hb; clear hb hbox hg; have hnb58 := NB518_501.out; have hnc58 := NB501_518.out; obtain ⟨hcz59_0, hcz59_1, hcz59_2, hcz59_3, hcz59_4⟩ := cz5_ BK518.out; obtain ⟨hfz59_0, hfz59_1, hfz59_2, hfz59_3, hfz59_4⟩ := fz5_ BK518.out; obtain ⟨Ao60, co60, eo60⟩ := Kd.R_slice HO517.out; subst eo60) | (refine gl_ 22 Try.func14 #[.agg #[.int .i64 t511, .int .i64 t512, .int .i64 t513, .int .i64 t514, .slice Ao60 t515.length co60], .int .i64 a1] ?_; (with_reducible refine (impl_IsSafe.calls k t511 t512 t513 t514 _ _ t515 a1 t519 _ ?side1 ?side2 A11.out).mono ?_); (case side1 => refine (Kd.R_reads' (e := 56) (base := w.heap.size) (ok := fun k_ => (True ∧ some k_ ≠ (.slice Ao53 t507.length co53 : Value).ownBlock)) (n := t515.length) (c := co60) ?_).2.2; exact (rq5_ HO517.out BK518.out)); (case side2 => exact (Kd.R_reads' HO517.out).2.1); rintro e w61 ⟨rfl, hb⟩; refine ⟨_, rfl, ?_⟩; replace HO509 := Aside0.mk (Kd.R_below (rq5_ HO509.out BK518.out) hb); replace HO517 := Aside0.mk (Kd.R_below (rq5_ HO517.out BK518.out) hb); replace BK501 := Aside0.mk (blk_below (g := gb501) (o := .cells #[.int .i64 a0_0, .int .i64 a0_1, .int .i64 a0_2, .int .i64 a0_3, .slice A0_4 l0_4.length c0_4] 28 (0, 0)) (by (with_reducible repeat (first | refine blk_drewN ?_ _ | refine blk_drew ?_ | refine blk_alloc ?_ _)); refine blk_far ?_ NB501_518.out _; (with_reducible repeat (first | refine blk_drewN ?_ _ | refine blk_drew ?_ | refine blk_alloc ?_ _)); refine blk_far ?_ NB501_518.out _; (with_reducible repeat (first | refine blk_drewN ?_ _ | refine blk_drew ?_ | refine blk_alloc ?_ _)); refine blk_far ?_ NB501_518.out _; (with_reducible repeat (first | refine blk_drewN ?_ _ | refine blk_drew ?_ | refine blk_alloc ?_ _)); refine blk_far ?_ NB501_518.out _; (with_reducible repeat (first | refine blk_drewN ?_ _ | refine blk_drew ?_ | refine blk_alloc ?_ _)); refine blk_far ?_ NB501_518.out _; (with_reducible repeat (first | refine blk_drewN ?_ _ | refine blk_drew ?_ | refine blk_alloc ?_ _)); exact BK501.out) hb); replace BK518 := Aside0.mk (blk_below (bq5_ BK518.out) hb); replace HB := HB.s2 GE501 GE518 hb; (try clear hb)))
    replace HO509 := Aside0.mk (Kd.R_drew HO509.out)
    replace HO517 := Aside0.mk (Kd.R_drew HO517.out)
    replace BK501 := Aside0.mk (blk_drew BK501.out)
    replace BK518 := Aside0.mk (blk_drew BK518.out)
    replace HB := Aside0.mk (below_drew1 HB.out)
    refine start_ (n := 5) (S := fun w' => w'.cell? ⟨gb518, 0, none⟩ = some (.int .i64 t511) ∧ w'.cell? ⟨gb518, 1, none⟩ = some (.int .i64 t512) ∧ w'.cell? ⟨gb518, 2, none⟩ = some (.int .i64 t513) ∧ w'.cell? ⟨gb518, 3, none⟩ = some (.int .i64 t514) ∧ w'.cell? ⟨gb518, 4, none⟩ = some (.slice Ao60 t515.length co60) ∧ w'.cell? ⟨gb501, 0, none⟩ = some (.int .i64 a0_0) ∧ w'.cell? ⟨gb501, 1, none⟩ = some (.int .i64 a0_1) ∧ w'.cell? ⟨gb501, 2, none⟩ = some (.int .i64 a0_2) ∧ w'.cell? ⟨gb501, 3, none⟩ = some (.int .i64 a0_3) ∧ w'.cell? ⟨gb501, 4, none⟩ = some (.slice A0_4 l0_4.length c0_4)) (ds := []) #[false, false, false, false, false] (by kernel_rfl) rfl rfl ⟨BK518.c 0, BK518.c 1, BK518.c 2, BK518.c 3, BK518.c 4, BK501.c 0, BK501.c 1, BK501.c 2, BK501.c 3, BK501.c 4⟩ (fun hHeld => ?_)
    generalize w61.drew = w62 at HO509 HO517 BK501 BK518 HB hHeld ⊢
    refine take_ (i := 0) (N := some 26) (v := ?_) (a' := ?_) #[true, false, false, false, false] rfl rfl (by kernel_rfl) (fun _ _ _ h => h) (Or.inl ⟨by rfl, ?_⟩) hHeld ?_ ?_
    rotate_left
    ·rintro w' ⟨s0, s1, s2, s3, s4, s5, s6, s7, s8, s9⟩
     go_simp
     with_reducible rfl
    rotate_left
    ·simp only [Act.put, List.setIfInBounds_toArray, List.set_cons_zero, List.set_cons_succ, i64_w, i32_w]
     rfl
    refine take_ (i := 1) (N := some 27) (v := ?_) (a' := ?_) #[true, true, false, false, false] rfl rfl (by kernel_rfl) (fun _ _ _ h => h) (Or.inl ⟨by rfl, ?_⟩) hHeld ?_ ?_
    rotate_left
    ·rintro w' ⟨s0, s1, s2, s3, s4, s5, s6, s7, s8, s9⟩
     go_simp
     with_reducible rfl
    rotate_left
    ·simp only [Act.put, List.setIfInBounds_toArray, List.set_cons_zero, List.set_cons_succ, i64_w, i32_w]
     rfl
    refine one_ (i := 2) (N := some 28) #[true, true, true, false, false] rfl rfl (by kernel_rfl) (by decide) (fun K hK => ?_)
    refine gq_ Try.func10 #[.agg #[.int .i64 a0_0, .int .i64 a0_1, .int .i64 a0_2, .int .i64 a0_3, .slice A0_4 l0_4.length c0_4]] ?_
    with_reducible refine (laws_toTimed.calls k a0_0 a0_1 a0_2 a0_3 _ _ l0_4 t520 t521 t522 t523 t524 _ ?side1 ?side2 A27.out).mono ?_
    (case side1 => repeat (first | exact (Kd.C_below HR0_4.out HB.out) | (with_reducible refine Kd.C_alloc ?_ _) | (with_reducible refine Kd.C_drewN ?_ _) | (with_reducible refine Kd.C_drew ?_)))
    (case side2 => exact HC0_4.out)
    rintro e w63 ⟨v525, rfl, ho0, hb⟩
    refine ⟨_, rfl, ?_⟩
    have n0_ := Aside0.mk (Kd.R_elder' (kr_ HO509.out) (Kd.R_base ho0) hb)
    have n1_ := Aside0.mk (Kd.R_elder' (kr_ HO517.out) (Kd.R_base ho0) hb)
    have n2_ := Aside0.mk (Kd.R_lower (Kd.R_new' (Kd.R_new' ho0 (Kd.R_lt (kr_ HO509.out))) (Kd.R_lt (kr_ HO517.out))) (below_size (hb2_ HB.out GE501.out GE518.out)))
    have n3_ := BK501.bb hb
    have n4_ := BK518.bb hb
    have n5_ := HB.s2 GE501 GE518 hb
    clear HO509
    clear HO517
    clear BK501
    clear BK518
    clear HB
    have HO509 := n0_
    have HO517 := n1_
    have HO526 := n2_
    have BK501 := n3_
    have BK518 := n4_
    have HB := n5_
    clear n0_ n1_ n2_ n3_ n4_ n5_
    skip
    (try clear hb2)
    (try clear hk)
    (try clear hi)
    (try clear ho0)
    obtain ⟨Ao64, co64, eo64⟩ := Kd.R_slice HO526.out
    (first | subst eo64 | (injection eo64 with f1_ f2_ f3_; have f4_ := f1_.symm; have f5_ := f3_.symm; clear f1_ f2_ f3_; subst f4_; subst f5_))
    refine hK.out _ _ ⟨BK518.c 0, BK518.c 1, BK518.c 2, BK518.c 3, BK518.c 4, BK501.c 0, BK501.c 1, BK501.c 2, BK501.c 3, BK501.c 4⟩ (fun hHeld => ?_)
    clear hK K
    refine nm_ ?_
    refine one_ (i := 3) (N := some 29) #[true, true, true, true, false] rfl rfl (by kernel_rfl) (by decide) (fun K hK => ?_)
    refine gq_ Try.func12 #[.agg #[.int .i64 t511, .int .i64 t512, .int .i64 t513, .int .i64 t514, .slice Ao60 t515.length co60], .agg #[.int .i64 t520, .int .i64 t521, .int .i64 t522, .int .i64 t523, .slice Ao64 t524.length co64]] ?_
    with_reducible refine (laws_eqTimed.calls k t511 t512 t513 t514 _ _ t515 t520 t521 t522 t523 _ _ t524 false _ ?side1 ?side2 ?side3 ?side4 A28.out).mono ?_
    (case side1 => repeat (first | exact (Kd.R_reads' HO517.out).2.2 | (with_reducible refine Kd.C_alloc ?_ _) | (with_reducible refine Kd.C_drewN ?_ _) | (with_reducible refine Kd.C_drew ?_)))
    (case side2 => exact (Kd.R_reads' HO517.out).2.1)
    (case side3 => repeat (first | exact (Kd.R_reads' HO526.out).2.2 | (with_reducible refine Kd.C_alloc ?_ _) | (with_reducible refine Kd.C_drewN ?_ _) | (with_reducible refine Kd.C_drew ?_)))
    (case side4 => exact (Kd.R_reads' HO526.out).2.1)
    rintro e w65 ⟨rfl, hb⟩
    refine ⟨_, rfl, ?_⟩
    replace HO509 := HO509.kb hb
    replace HO517 := HO517.kb hb
    replace HO526 := HO526.kb hb
    replace BK501 := BK501.bb hb
    replace BK518 := BK518.bb hb
    replace HB := HB.s2 GE501 GE518 hb
    skip
    (try clear hb2)
    (try clear hk)
    (try clear hi)
    refine hK.out _ _ ⟨BK518.c 0, BK518.c 1, BK518.c 2, BK518.c 3, BK518.c 4, BK501.c 0, BK501.c 1, BK501.c 2, BK501.c 3, BK501.c 4⟩ (fun hHeld => ?_)
    clear hK K
    refine nm_ ?_
    refine pure_ (i := 4) (N := some 30) (v := ?_) (a' := ?_) #[true, true, true, true, true] rfl rfl (by kernel_rfl) (fun _ _ _ h => h) (Or.inl ⟨by rfl, ?_⟩) ?_ ?_
    rotate_left
    ·intro w'
     go_simp
     with_reducible rfl
    rotate_left
    ·simp only [Act.put, List.setIfInBounds_toArray, List.set_cons_zero, List.set_cons_succ, i64_w, i32_w]
     rfl
    refine done_ (by kernel_rfl) ?_
    try go_wp2
    go_ret
    exact ⟨ex_, hb2_ HB.out GE501.out GE518.out⟩

/-- THE ONE PURE STATEMENT of laws_FnExactIsSafe: yours. -/
def laws_FnExactIsSafe.Pure : Prop := ∀ (a0_0 : Int) (a0_1 : Int) (a0_2 : Int) (a0_3 : Int) (l0_4 : List (S85)) (a1 : Int), (Lit.int .i64 a0_0).wf = true → (Lit.int .i64 a0_1).wf = true → (Lit.int .i64 a0_2).wf = true → (Lit.int .i64 a0_3).wf = true → l0_4.length ≤ maxLen → (Lit.int .i64 a1).wf = true → ∃ k, laws_FnExactIsSafe.f k a0_0 a0_1 a0_2 a0_3 l0_4 a1 = some true
theorem laws_FnExactIsSafe.walk (P : laws_FnExactIsSafe.Pure) (a0_0 : Int) (a0_1 : Int) (a0_2 : Int) (a0_3 : Int) (a0_4 : Option Addr) (len0_4 cap0_4 : Nat) (l0_4 : List (S85)) (a1 : Int) (w : World) (w0_0 : (Lit.int .i64 a0_0).wf = true) (w0_1 : (Lit.int .i64 a0_1).wf = true) (w0_2 : (Lit.int .i64 a0_2).wf = true) (w0_3 : (Lit.int .i64 a0_3).wf = true) (w0_4 : Kd.C k85 w a0_4 len0_4 l0_4 ∧ len0_4 ≤ cap0_4 ∧ len0_4 ≤ maxLen ∧ l0_4.length = len0_4) (w1 : (Lit.int .i64 a1).wf = true) :
  Calls Try.prog 4 #[.agg #[.int .i64 a0_0, .int .i64 a0_1, .int .i64 a0_2, .int .i64 a0_3, .slice a0_4 len0_4 cap0_4], .int .i64 a1] w fun e w' => e = .returned (.bool true) ∧ Below w.heap.size w w' := by
 obtain ⟨hr0_4, hc0_4, hm0_4, rfl⟩ := w0_4
 obtain ⟨k, h⟩ := P a0_0 a0_1 a0_2 a0_3 l0_4 a1 w0_0 w0_1 w0_2 w0_3 hm0_4 w1
 refine (laws_FnExactIsSafe.calls k a0_0 a0_1 a0_2 a0_3 _ _ l0_4 a1 true w hr0_4 hc0_4 h).mono ?_
 rintro e w' ⟨rfl, hd⟩
 exact ⟨rfl, hd⟩

end Go.Proofs.Ytlfomjhjeknnmaa.X
