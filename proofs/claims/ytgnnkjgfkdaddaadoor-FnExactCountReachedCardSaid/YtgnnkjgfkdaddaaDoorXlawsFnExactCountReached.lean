-- Written by a program of this session (xprint.py), out of the translation and of hand-written contracts. Lean checks it.
import Derived.Test.YtgnnkjgfkdaddaaDoorX0
import Derived.Test.YtgnnkjgfkdaddaaDoorXcints
import Derived.Test.YtgnnkjgfkdaddaaDoorXcto
import Derived.Test.YtgnnkjgfkdaddaaDoorXimplCountReached
import Derived.Test.YtgnnkjgfkdaddaaDoorXspecCountReached
namespace Go.Proofs.YtgnnkjgfkdaddaaDoor.X
open Go.RowKit Go.Proofs.YtgnnkjgfkdaddaaDoorW.PrintWords Go.Proofs.YtgnnkjgfkdaddaaDoorW.PrintLast Go.Proofs.YtgnnkjgfkdaddaaDoorW.PrintMore
attribute [local go_sem] max2_int min2_int max_two min_two max_three min_three max_four min_four   -- for this text's walks alone
set_option linter.unusedVariables false
set_option linter.unusedSimpArgs false

/-! ### laws_FnExactCountReached: function 3 -/
def laws_FnExactCountReached.f (k : Nat) (a0_0 : Int) (a0_1 : Int) (a0_2 : Int) (l1 : List Int) : Option (Bool) := if (l1.length : Int) > 1048576 then (some true) else ((laws_toMaze.f a0_0 a0_1 a0_2).bind fun bt502 => ((laws_toIntS.f k l1).bind fun t505 => ((spec_CountReached.f k bt502.1 bt502.2.1 bt502.2.2 t505).bind fun t508 => ((laws_toIntS.f k l1).bind fun t509 => ((laws_toMaze.f a0_0 a0_1 a0_2).bind fun bt512 => ((impl_CountReached.f k bt512.1 bt512.2.1 bt512.2.2 t509).bind fun t515 => (if t515 = t508 then ((laws_toIntS.f k l1).bind fun t516 => ((laws_eqIntS.f k t509 t516).bind fun t519 => (if t519 = true then (some true) else (some false)))) else (some false))))))))
theorem laws_FnExactCountReached.mono : ∀ a0 a1 a2 a3 k, LeO (laws_FnExactCountReached.f k a0 a1 a2 a3) (laws_FnExactCountReached.f (k + 1) a0 a1 a2 a3) := by
 intro a0 a1 a2 a3 k
 unfold laws_FnExactCountReached.f
 repeat' first
   | (with_reducible exact impl_CountReached.mono ..)
   | (with_reducible exact laws_eqIntS.mono ..)
   | (with_reducible exact laws_toIntS.mono ..)
   | (with_reducible exact spec_CountReached.mono ..)
   | (with_reducible first | exact lr_ _ | exact ln_ _ | refine li_ ?_ ?_ | refine lb_ ?_ fun _ => ?_)
   | exact impl_CountReached.mono ..
   | exact laws_eqIntS.mono ..
   | exact laws_toIntS.mono ..
   | exact spec_CountReached.mono ..
   | exact ln_ _ | refine li_ ?_ ?_ | refine lb_ ?_ fun _ => ?_
set_option maxHeartbeats 8000000 in
set_option maxRecDepth 100000 in
theorem laws_FnExactCountReached.calls (k : Nat) (a0_0 : Int) (a0_1 : Int) (a0_2 : Int) (A1 : Option Addr) (c1 : Nat) (l1 : List Int) (r : Bool) (w : World) (hr1 : Kd.C (Kd.int .i64) w A1 l1.length l1) (hc1 : l1.length ≤ c1) (h : laws_FnExactCountReached.f k a0_0 a0_1 a0_2 l1 = some r) :
  Calls Tryd.prog 3 #[.agg #[.int .i64 a0_0, .int .i64 a0_1, .int .i64 a0_2], .slice A1 l1.length c1] w fun e w' => e = .returned (.bool r) ∧ Below w.heap.size w w' := by
 have hu25 := Tryd.underlying25
 have HR1 := Aside0.mk hr1
 have HC1 := Aside0.mk hc1
 clear hr1 hc1
 have HB := Aside0.mk (Below.refl w.heap.size w)
 have H : (if (l1.length : Int) > 1048576 then (some true) else ((laws_toMaze.f a0_0 a0_1 a0_2).bind fun bt502 => ((laws_toIntS.f k l1).bind fun t505 => ((spec_CountReached.f k bt502.1 bt502.2.1 bt502.2.2 t505).bind fun t508 => ((laws_toIntS.f k l1).bind fun t509 => ((laws_toMaze.f a0_0 a0_1 a0_2).bind fun bt512 => ((impl_CountReached.f k bt512.1 bt512.2.1 bt512.2.2 t509).bind fun t515 => (if t515 = t508 then ((laws_toIntS.f k l1).bind fun t516 => ((laws_eqIntS.f k t509 t516).bind fun t519 => (if t519 = true then (some true) else (some false)))) else (some false))))))))) = some r := h
 clear h
 by_cases c3 : (l1.length : Int) > 1048576
 ·rw [if_pos c3] at H
  have c3b0 : decide (1048576 < (l1.length : Int)) = true := decide_eq_true c3
  have c3b1 : decide (1048576 < l1.length) = true := decide_eq_true (by omega)
  clear c3
  obtain rfl := Option.some.inj H
  go_enter Tryd.func3, Tryd.ntmps3
  go_wp2_with ((with_reducible refine gw_ ?_); first | (refine box_ (N := 2) (cs := #[.int .i64 a0_0, .int .i64 a0_1, .int .i64 a0_2]) (t := 25) ?_; intro gb501 hg w4 hbox hb; have BK501 := Aside0.mk (hbox); have GW501 := HB.g0 hg; have GE501 := HB.g0 hg; replace HB := HB.s0 hb; clear hb hbox hg))
  go_ret
  exact ⟨ex_, hb1_ HB.out GE501.out⟩
 ·rw [if_neg c3] at H
  have c3b0 : decide (1048576 < (l1.length : Int)) = false := decide_eq_false c3
  have c3b1 : decide (1048576 < l1.length) = false := decide_eq_false (by omega)
  clear c3
  replace H := Option.bind_eq_some_iff.mp H
  obtain ⟨⟨t502, t503, t504⟩, A50, H⟩ := H
  replace H : ((laws_toIntS.f k l1).bind fun t505 => ((spec_CountReached.f k t502 t503 t504 t505).bind fun t508 => ((laws_toIntS.f k l1).bind fun t509 => ((laws_toMaze.f a0_0 a0_1 a0_2).bind fun bt512 => ((impl_CountReached.f k bt512.1 bt512.2.1 bt512.2.2 t509).bind fun t515 => (if t515 = t508 then ((laws_toIntS.f k l1).bind fun t516 => ((laws_eqIntS.f k t509 t516).bind fun t519 => (if t519 = true then (some true) else (some false)))) else (some false))))))) = some r := H
  have A5 := Aside0.mk A50
  clear A50
  replace H := Option.bind_eq_some_iff.mp H
  obtain ⟨t505, A60, H⟩ := H
  replace H : ((spec_CountReached.f k t502 t503 t504 t505).bind fun t508 => ((laws_toIntS.f k l1).bind fun t509 => ((laws_toMaze.f a0_0 a0_1 a0_2).bind fun bt512 => ((impl_CountReached.f k bt512.1 bt512.2.1 bt512.2.2 t509).bind fun t515 => (if t515 = t508 then ((laws_toIntS.f k l1).bind fun t516 => ((laws_eqIntS.f k t509 t516).bind fun t519 => (if t519 = true then (some true) else (some false)))) else (some false)))))) = some r := H
  have A6 := Aside0.mk A60
  clear A60
  replace H := Option.bind_eq_some_iff.mp H
  obtain ⟨t508, A70, H⟩ := H
  replace H : ((laws_toIntS.f k l1).bind fun t509 => ((laws_toMaze.f a0_0 a0_1 a0_2).bind fun bt512 => ((impl_CountReached.f k bt512.1 bt512.2.1 bt512.2.2 t509).bind fun t515 => (if t515 = t508 then ((laws_toIntS.f k l1).bind fun t516 => ((laws_eqIntS.f k t509 t516).bind fun t519 => (if t519 = true then (some true) else (some false)))) else (some false))))) = some r := H
  have A7 := Aside0.mk A70
  clear A70
  replace H := Option.bind_eq_some_iff.mp H
  obtain ⟨t509, A80, H⟩ := H
  replace H : ((laws_toMaze.f a0_0 a0_1 a0_2).bind fun bt512 => ((impl_CountReached.f k bt512.1 bt512.2.1 bt512.2.2 t509).bind fun t515 => (if t515 = t508 then ((laws_toIntS.f k l1).bind fun t516 => ((laws_eqIntS.f k t509 t516).bind fun t519 => (if t519 = true then (some true) else (some false)))) else (some false)))) = some r := H
  have A8 := Aside0.mk A80
  clear A80
  replace H := Option.bind_eq_some_iff.mp H
  obtain ⟨⟨t512, t513, t514⟩, A90, H⟩ := H
  replace H : ((impl_CountReached.f k t512 t513 t514 t509).bind fun t515 => (if t515 = t508 then ((laws_toIntS.f k l1).bind fun t516 => ((laws_eqIntS.f k t509 t516).bind fun t519 => (if t519 = true then (some true) else (some false)))) else (some false))) = some r := H
  have A9 := Aside0.mk A90
  clear A90
  replace H := Option.bind_eq_some_iff.mp H
  obtain ⟨t515, A100, H⟩ := H
  replace H : (if t515 = t508 then ((laws_toIntS.f k l1).bind fun t516 => ((laws_eqIntS.f k t509 t516).bind fun t519 => (if t519 = true then (some true) else (some false)))) else (some false)) = some r := H
  have A10 := Aside0.mk A100
  clear A100
  by_cases c11 : t515 = t508
  ·rw [if_pos c11] at H
   have c11b0 : (t515 == t508) = true := beq_iff_eq.mpr c11
   have c11b1 : (t515 != t508) = false := bne_eq_false_iff_eq.mpr c11
   clear c11
   replace H := Option.bind_eq_some_iff.mp H
   obtain ⟨t516, A120, H⟩ := H
   replace H : ((laws_eqIntS.f k t509 t516).bind fun t519 => (if t519 = true then (some true) else (some false))) = some r := H
   have A12 := Aside0.mk A120
   clear A120
   replace H := Option.bind_eq_some_iff.mp H
   obtain ⟨t519, A130, H⟩ := H
   replace H : (if t519 = true then (some true) else (some false)) = some r := H
   have A13 := Aside0.mk A130
   clear A130
   by_cases c14 : t519 = true
   ·subst c14
    have H1 : (some true) = some r := by rw [if_pos rfl] at H; exact H
    clear H
    have H := H1
    clear H1
    obtain rfl := Option.some.inj H
    go_enter Tryd.func3, Tryd.ntmps3
    go_wp2_with ((with_reducible refine gw_ ?_); first | (refine box_ (N := 2) (cs := #[.int .i64 a0_0, .int .i64 a0_1, .int .i64 a0_2]) (t := 25) ?_; intro gb501 hg w15 hbox hb; have BK501 := Aside0.mk (hbox); have GW501 := HB.g0 hg; have GE501 := HB.g0 hg; replace HB := HB.s0 hb; clear hb hbox hg; obtain ⟨hcz16_0, hcz16_1, hcz16_2⟩ := cz3_ BK501.out; obtain ⟨hfz16_0, hfz16_1, hfz16_2⟩ := fz3_ BK501.out) | (refine gl_ 12 Tryd.func5 #[.agg #[.int .i64 a0_0, .int .i64 a0_1, .int .i64 a0_2]] ?_; (with_reducible refine (laws_toMaze.calls a0_0 a0_1 a0_2 t502 t503 t504 _ A5.out).mono ?_); rintro e w17 ⟨rfl, hb⟩; refine ⟨_, rfl, ?_⟩; replace BK501 := BK501.bb hb; replace HB := HB.s1 GE501 hb; (try clear hb)) | (refine gl_ 14 Tryd.func6 #[.slice A1 l1.length c1] ?_; (with_reducible refine (laws_toIntS.calls k _ _ l1 t505 _ ?side1 ?side2 A6.out).mono ?_); (case side1 => repeat (first | exact (Kd.C_below HR1.out HB.out) | (with_reducible refine Kd.C_alloc ?_ _) | (with_reducible refine Kd.C_drewN ?_ _) | (with_reducible refine Kd.C_drew ?_))); (case side2 => exact HC1.out); rintro e w18 ⟨v506, rfl, ho0, hb⟩; refine ⟨_, rfl, ?_⟩; have HO507 := Aside0.mk (Kd.R_lower ho0 (below_size (hb1_ HB.out GE501.out))); replace BK501 := BK501.bb hb; replace HB := HB.s1 GE501 hb; (try clear hb); (try clear ho0); obtain ⟨Ao19, co19, eo19⟩ := Kd.R_slice HO507.out; subst eo19) | (refine gl_ 15 Tryd.func4 #[.agg #[.int .i64 t502, .int .i64 t503, .int .i64 t504], .slice Ao19 t505.length co19] ?_; (with_reducible refine (spec_CountReached.calls k t502 t503 t504 _ _ t505 t508 _ ?side1 ?side2 A7.out).mono ?_); (case side1 => repeat (first | exact (Kd.R_reads' HO507.out).2.2 | (with_reducible refine Kd.C_alloc ?_ _) | (with_reducible refine Kd.C_drewN ?_ _) | (with_reducible refine Kd.C_drew ?_))); (case side2 => exact (Kd.R_reads' HO507.out).2.1); rintro e w20 ⟨rfl, hb⟩; refine ⟨_, rfl, ?_⟩; replace HO507 := HO507.kb hb; replace BK501 := BK501.bb hb; replace HB := HB.s1 GE501 hb; (try clear hb)) | (refine gl_ 17 Tryd.func6 #[.slice A1 l1.length c1] ?_; (with_reducible refine (laws_toIntS.calls k _ _ l1 t509 _ ?side1 ?side2 A8.out).mono ?_); (case side1 => repeat (first | exact (Kd.C_below HR1.out HB.out) | (with_reducible refine Kd.C_alloc ?_ _) | (with_reducible refine Kd.C_drewN ?_ _) | (with_reducible refine Kd.C_drew ?_))); (case side2 => exact HC1.out); rintro e w21 ⟨v510, rfl, ho0, hb⟩; refine ⟨_, rfl, ?_⟩; have HO511 := Aside0.mk (Kd.R_lower (Kd.R_new' ho0 (Kd.R_lt (kr_ HO507.out))) (below_size (hb1_ HB.out GE501.out))); replace HO507 := Aside0.mk (Kd.R_elder' (kr_ HO507.out) (Kd.R_base ho0) hb); replace BK501 := BK501.bb hb; replace HB := HB.s1 GE501 hb; (try clear hb); (try clear ho0); obtain ⟨hcz22_0, hcz22_1, hcz22_2⟩ := cz3_ BK501.out; obtain ⟨hfz22_0, hfz22_1, hfz22_2⟩ := fz3_ BK501.out) | (refine gl_ 19 Tryd.func5 #[.agg #[.int .i64 a0_0, .int .i64 a0_1, .int .i64 a0_2]] ?_; (with_reducible refine (laws_toMaze.calls a0_0 a0_1 a0_2 t512 t513 t514 _ A9.out).mono ?_); rintro e w23 ⟨rfl, hb⟩; refine ⟨_, rfl, ?_⟩; replace HO507 := HO507.kb hb; replace HO511 := HO511.kb hb; replace BK501 := BK501.bb hb; replace HB := HB.s1 GE501 hb; (try clear hb); obtain ⟨Ao24, co24, eo24⟩ := Kd.R_slice HO511.out; subst eo24) | (refine gl_ 21 Tryd.func7 #[.agg #[.int .i64 t512, .int .i64 t513, .int .i64 t514], .slice Ao24 t509.length co24] ?_; (with_reducible refine (impl_CountReached.calls k t512 t513 t514 _ _ t509 t515 _ ?side1 ?side2 A10.out).mono ?_); (case side1 => repeat (first | exact (Kd.R_reads' HO511.out).2.2 | (with_reducible refine Kd.C_alloc ?_ _) | (with_reducible refine Kd.C_drewN ?_ _) | (with_reducible refine Kd.C_drew ?_))); (case side2 => exact (Kd.R_reads' HO511.out).2.1); rintro e w25 ⟨rfl, hb⟩; refine ⟨_, rfl, ?_⟩; replace HO507 := HO507.kb hb; replace HO511 := HO511.kb hb; replace BK501 := BK501.bb hb; replace HB := HB.s1 GE501 hb; (try clear hb)) | (refine gl_ 27 Tryd.func6 #[.slice A1 l1.length c1] ?_; (with_reducible refine (laws_toIntS.calls k _ _ l1 t516 _ ?side1 ?side2 A12.out).mono ?_); (case side1 => repeat (first | exact (Kd.C_below HR1.out HB.out) | (with_reducible refine Kd.C_alloc ?_ _) | (with_reducible refine Kd.C_drewN ?_ _) | (with_reducible refine Kd.C_drew ?_))); (case side2 => exact HC1.out); rintro e w26 ⟨v517, rfl, ho0, hb⟩; refine ⟨_, rfl, ?_⟩; have HO518 := Aside0.mk (Kd.R_lower (Kd.R_new' (Kd.R_new' ho0 (Kd.R_lt (kr_ HO507.out))) (Kd.R_lt (kr_ HO511.out))) (below_size (hb1_ HB.out GE501.out))); replace HO507 := Aside0.mk (Kd.R_elder' (kr_ HO507.out) (Kd.R_base ho0) hb); replace HO511 := Aside0.mk (Kd.R_elder' (kr_ HO511.out) (Kd.R_base ho0) hb); replace BK501 := BK501.bb hb; replace HB := HB.s1 GE501 hb; (try clear hb); (try clear ho0); obtain ⟨Ao27, co27, eo27⟩ := Kd.R_slice HO518.out; subst eo27) | (refine gl_ 28 Tryd.func8 #[.slice Ao24 t509.length co24, .slice Ao27 t516.length co27] ?_; (with_reducible refine (laws_eqIntS.calls k _ _ t509 _ _ t516 true _ ?side1 ?side2 ?side3 ?side4 A13.out).mono ?_); (case side1 => repeat (first | exact (Kd.R_reads' HO511.out).2.2 | (with_reducible refine Kd.C_alloc ?_ _) | (with_reducible refine Kd.C_drewN ?_ _) | (with_reducible refine Kd.C_drew ?_))); (case side2 => exact (Kd.R_reads' HO511.out).2.1); (case side3 => repeat (first | exact (Kd.R_reads' HO518.out).2.2 | (with_reducible refine Kd.C_alloc ?_ _) | (with_reducible refine Kd.C_drewN ?_ _) | (with_reducible refine Kd.C_drew ?_))); (case side4 => exact (Kd.R_reads' HO518.out).2.1); rintro e w' ⟨rfl, ⟨nd, rfl⟩⟩; refine ⟨_, rfl, ?_⟩))
    go_ret
    exact ⟨ex_, hb1_ HB.out GE501.out⟩
   ·replace c14 := Bool.eq_false_iff.mpr c14
    subst c14
    have H1 : (some false) = some r := by rw [if_neg (show ¬ (false = true) by decide)] at H; exact H
    clear H
    have H := H1
    clear H1
    obtain rfl := Option.some.inj H
    go_enter Tryd.func3, Tryd.ntmps3
    go_wp2_with ((with_reducible refine gw_ ?_); first | (refine box_ (N := 2) (cs := #[.int .i64 a0_0, .int .i64 a0_1, .int .i64 a0_2]) (t := 25) ?_; intro gb501 hg w28 hbox hb; have BK501 := Aside0.mk (hbox); have GW501 := HB.g0 hg; have GE501 := HB.g0 hg; replace HB := HB.s0 hb; clear hb hbox hg; obtain ⟨hcz29_0, hcz29_1, hcz29_2⟩ := cz3_ BK501.out; obtain ⟨hfz29_0, hfz29_1, hfz29_2⟩ := fz3_ BK501.out) | (refine gl_ 12 Tryd.func5 #[.agg #[.int .i64 a0_0, .int .i64 a0_1, .int .i64 a0_2]] ?_; (with_reducible refine (laws_toMaze.calls a0_0 a0_1 a0_2 t502 t503 t504 _ A5.out).mono ?_); rintro e w30 ⟨rfl, hb⟩; refine ⟨_, rfl, ?_⟩; replace BK501 := BK501.bb hb; replace HB := HB.s1 GE501 hb; (try clear hb)) | (refine gl_ 14 Tryd.func6 #[.slice A1 l1.length c1] ?_; (with_reducible refine (laws_toIntS.calls k _ _ l1 t505 _ ?side1 ?side2 A6.out).mono ?_); (case side1 => repeat (first | exact (Kd.C_below HR1.out HB.out) | (with_reducible refine Kd.C_alloc ?_ _) | (with_reducible refine Kd.C_drewN ?_ _) | (with_reducible refine Kd.C_drew ?_))); (case side2 => exact HC1.out); rintro e w31 ⟨v506, rfl, ho0, hb⟩; refine ⟨_, rfl, ?_⟩; have HO507 := Aside0.mk (Kd.R_lower ho0 (below_size (hb1_ HB.out GE501.out))); replace BK501 := BK501.bb hb; replace HB := HB.s1 GE501 hb; (try clear hb); (try clear ho0); obtain ⟨Ao32, co32, eo32⟩ := Kd.R_slice HO507.out; subst eo32) | (refine gl_ 15 Tryd.func4 #[.agg #[.int .i64 t502, .int .i64 t503, .int .i64 t504], .slice Ao32 t505.length co32] ?_; (with_reducible refine (spec_CountReached.calls k t502 t503 t504 _ _ t505 t508 _ ?side1 ?side2 A7.out).mono ?_); (case side1 => repeat (first | exact (Kd.R_reads' HO507.out).2.2 | (with_reducible refine Kd.C_alloc ?_ _) | (with_reducible refine Kd.C_drewN ?_ _) | (with_reducible refine Kd.C_drew ?_))); (case side2 => exact (Kd.R_reads' HO507.out).2.1); rintro e w33 ⟨rfl, hb⟩; refine ⟨_, rfl, ?_⟩; replace HO507 := HO507.kb hb; replace BK501 := BK501.bb hb; replace HB := HB.s1 GE501 hb; (try clear hb)) | (refine gl_ 17 Tryd.func6 #[.slice A1 l1.length c1] ?_; (with_reducible refine (laws_toIntS.calls k _ _ l1 t509 _ ?side1 ?side2 A8.out).mono ?_); (case side1 => repeat (first | exact (Kd.C_below HR1.out HB.out) | (with_reducible refine Kd.C_alloc ?_ _) | (with_reducible refine Kd.C_drewN ?_ _) | (with_reducible refine Kd.C_drew ?_))); (case side2 => exact HC1.out); rintro e w34 ⟨v510, rfl, ho0, hb⟩; refine ⟨_, rfl, ?_⟩; have HO511 := Aside0.mk (Kd.R_lower (Kd.R_new' ho0 (Kd.R_lt (kr_ HO507.out))) (below_size (hb1_ HB.out GE501.out))); replace HO507 := Aside0.mk (Kd.R_elder' (kr_ HO507.out) (Kd.R_base ho0) hb); replace BK501 := BK501.bb hb; replace HB := HB.s1 GE501 hb; (try clear hb); (try clear ho0); obtain ⟨hcz35_0, hcz35_1, hcz35_2⟩ := cz3_ BK501.out; obtain ⟨hfz35_0, hfz35_1, hfz35_2⟩ := fz3_ BK501.out) | (refine gl_ 19 Tryd.func5 #[.agg #[.int .i64 a0_0, .int .i64 a0_1, .int .i64 a0_2]] ?_; (with_reducible refine (laws_toMaze.calls a0_0 a0_1 a0_2 t512 t513 t514 _ A9.out).mono ?_); rintro e w36 ⟨rfl, hb⟩; refine ⟨_, rfl, ?_⟩; replace HO507 := HO507.kb hb; replace HO511 := HO511.kb hb; replace BK501 := BK501.bb hb; replace HB := HB.s1 GE501 hb; (try clear hb); obtain ⟨Ao37, co37, eo37⟩ := Kd.R_slice HO511.out; subst eo37) | (refine gl_ 21 Tryd.func7 #[.agg #[.int .i64 t512, .int .i64 t513, .int .i64 t514], .slice Ao37 t509.length co37] ?_; (with_reducible refine (impl_CountReached.calls k t512 t513 t514 _ _ t509 t515 _ ?side1 ?side2 A10.out).mono ?_); (case side1 => repeat (first | exact (Kd.R_reads' HO511.out).2.2 | (with_reducible refine Kd.C_alloc ?_ _) | (with_reducible refine Kd.C_drewN ?_ _) | (with_reducible refine Kd.C_drew ?_))); (case side2 => exact (Kd.R_reads' HO511.out).2.1); rintro e w38 ⟨rfl, hb⟩; refine ⟨_, rfl, ?_⟩; replace HO507 := HO507.kb hb; replace HO511 := HO511.kb hb; replace BK501 := BK501.bb hb; replace HB := HB.s1 GE501 hb; (try clear hb)) | (refine gl_ 27 Tryd.func6 #[.slice A1 l1.length c1] ?_; (with_reducible refine (laws_toIntS.calls k _ _ l1 t516 _ ?side1 ?side2 A12.out).mono ?_); (case side1 => repeat (first | exact (Kd.C_below HR1.out HB.out) | (with_reducible refine Kd.C_alloc ?_ _) | (with_reducible refine Kd.C_drewN ?_ _) | (with_reducible refine Kd.C_drew ?_))); (case side2 => exact HC1.out); rintro e w39 ⟨v517, rfl, ho0, hb⟩; refine ⟨_, rfl, ?_⟩; have HO518 := Aside0.mk (Kd.R_lower (Kd.R_new' (Kd.R_new' ho0 (Kd.R_lt (kr_ HO507.out))) (Kd.R_lt (kr_ HO511.out))) (below_size (hb1_ HB.out GE501.out))); replace HO507 := Aside0.mk (Kd.R_elder' (kr_ HO507.out) (Kd.R_base ho0) hb); replace HO511 := Aside0.mk (Kd.R_elder' (kr_ HO511.out) (Kd.R_base ho0) hb); replace BK501 := BK501.bb hb; replace HB := HB.s1 GE501 hb; (try clear hb); (try clear ho0); obtain ⟨Ao40, co40, eo40⟩ := Kd.R_slice HO518.out; subst eo40) | (refine gl_ 28 Tryd.func8 #[.slice Ao37 t509.length co37, .slice Ao40 t516.length co40] ?_; (with_reducible refine (laws_eqIntS.calls k _ _ t509 _ _ t516 false _ ?side1 ?side2 ?side3 ?side4 A13.out).mono ?_); (case side1 => repeat (first | exact (Kd.R_reads' HO511.out).2.2 | (with_reducible refine Kd.C_alloc ?_ _) | (with_reducible refine Kd.C_drewN ?_ _) | (with_reducible refine Kd.C_drew ?_))); (case side2 => exact (Kd.R_reads' HO511.out).2.1); (case side3 => repeat (first | exact (Kd.R_reads' HO518.out).2.2 | (with_reducible refine Kd.C_alloc ?_ _) | (with_reducible refine Kd.C_drewN ?_ _) | (with_reducible refine Kd.C_drew ?_))); (case side4 => exact (Kd.R_reads' HO518.out).2.1); rintro e w' ⟨rfl, ⟨nd, rfl⟩⟩; refine ⟨_, rfl, ?_⟩))
    go_ret
    exact ⟨ex_, hb1_ HB.out GE501.out⟩
  ·rw [if_neg c11] at H
   have c11b0 : (t515 == t508) = false := beq_eq_false_iff_ne.mpr c11
   have c11b1 : (t515 != t508) = true := bne_iff_ne.mpr c11
   obtain rfl := Option.some.inj H
   go_enter Tryd.func3, Tryd.ntmps3
   go_wp2_with ((with_reducible refine gw_ ?_); first | (refine box_ (N := 2) (cs := #[.int .i64 a0_0, .int .i64 a0_1, .int .i64 a0_2]) (t := 25) ?_; intro gb501 hg w41 hbox hb; have BK501 := Aside0.mk (hbox); have GW501 := HB.g0 hg; have GE501 := HB.g0 hg; replace HB := HB.s0 hb; clear hb hbox hg; obtain ⟨hcz42_0, hcz42_1, hcz42_2⟩ := cz3_ BK501.out; obtain ⟨hfz42_0, hfz42_1, hfz42_2⟩ := fz3_ BK501.out) | (refine gl_ 12 Tryd.func5 #[.agg #[.int .i64 a0_0, .int .i64 a0_1, .int .i64 a0_2]] ?_; (with_reducible refine (laws_toMaze.calls a0_0 a0_1 a0_2 t502 t503 t504 _ A5.out).mono ?_); rintro e w43 ⟨rfl, hb⟩; refine ⟨_, rfl, ?_⟩; replace BK501 := BK501.bb hb; replace HB := HB.s1 GE501 hb; (try clear hb)) | (refine gl_ 14 Tryd.func6 #[.slice A1 l1.length c1] ?_; (with_reducible refine (laws_toIntS.calls k _ _ l1 t505 _ ?side1 ?side2 A6.out).mono ?_); (case side1 => repeat (first | exact (Kd.C_below HR1.out HB.out) | (with_reducible refine Kd.C_alloc ?_ _) | (with_reducible refine Kd.C_drewN ?_ _) | (with_reducible refine Kd.C_drew ?_))); (case side2 => exact HC1.out); rintro e w44 ⟨v506, rfl, ho0, hb⟩; refine ⟨_, rfl, ?_⟩; have HO507 := Aside0.mk (Kd.R_lower ho0 (below_size (hb1_ HB.out GE501.out))); replace BK501 := BK501.bb hb; replace HB := HB.s1 GE501 hb; (try clear hb); (try clear ho0); obtain ⟨Ao45, co45, eo45⟩ := Kd.R_slice HO507.out; subst eo45) | (refine gl_ 15 Tryd.func4 #[.agg #[.int .i64 t502, .int .i64 t503, .int .i64 t504], .slice Ao45 t505.length co45] ?_; (with_reducible refine (spec_CountReached.calls k t502 t503 t504 _ _ t505 t508 _ ?side1 ?side2 A7.out).mono ?_); (case side1 => repeat (first | exact (Kd.R_reads' HO507.out).2.2 | (with_reducible refine Kd.C_alloc ?_ _) | (with_reducible refine Kd.C_drewN ?_ _) | (with_reducible refine Kd.C_drew ?_))); (case side2 => exact (Kd.R_reads' HO507.out).2.1); rintro e w46 ⟨rfl, hb⟩; refine ⟨_, rfl, ?_⟩; replace HO507 := HO507.kb hb; replace BK501 := BK501.bb hb; replace HB := HB.s1 GE501 hb; (try clear hb)) | (refine gl_ 17 Tryd.func6 #[.slice A1 l1.length c1] ?_; (with_reducible refine (laws_toIntS.calls k _ _ l1 t509 _ ?side1 ?side2 A8.out).mono ?_); (case side1 => repeat (first | exact (Kd.C_below HR1.out HB.out) | (with_reducible refine Kd.C_alloc ?_ _) | (with_reducible refine Kd.C_drewN ?_ _) | (with_reducible refine Kd.C_drew ?_))); (case side2 => exact HC1.out); rintro e w47 ⟨v510, rfl, ho0, hb⟩; refine ⟨_, rfl, ?_⟩; have HO511 := Aside0.mk (Kd.R_lower (Kd.R_new' ho0 (Kd.R_lt (kr_ HO507.out))) (below_size (hb1_ HB.out GE501.out))); replace HO507 := Aside0.mk (Kd.R_elder' (kr_ HO507.out) (Kd.R_base ho0) hb); replace BK501 := BK501.bb hb; replace HB := HB.s1 GE501 hb; (try clear hb); (try clear ho0); obtain ⟨hcz48_0, hcz48_1, hcz48_2⟩ := cz3_ BK501.out; obtain ⟨hfz48_0, hfz48_1, hfz48_2⟩ := fz3_ BK501.out) | (refine gl_ 19 Tryd.func5 #[.agg #[.int .i64 a0_0, .int .i64 a0_1, .int .i64 a0_2]] ?_; (with_reducible refine (laws_toMaze.calls a0_0 a0_1 a0_2 t512 t513 t514 _ A9.out).mono ?_); rintro e w49 ⟨rfl, hb⟩; refine ⟨_, rfl, ?_⟩; replace HO507 := HO507.kb hb; replace HO511 := HO511.kb hb; replace BK501 := BK501.bb hb; replace HB := HB.s1 GE501 hb; (try clear hb); obtain ⟨Ao50, co50, eo50⟩ := Kd.R_slice HO511.out; subst eo50) | (refine gl_ 21 Tryd.func7 #[.agg #[.int .i64 t512, .int .i64 t513, .int .i64 t514], .slice Ao50 t509.length co50] ?_; (with_reducible refine (impl_CountReached.calls k t512 t513 t514 _ _ t509 t515 _ ?side1 ?side2 A10.out).mono ?_); (case side1 => repeat (first | exact (Kd.R_reads' HO511.out).2.2 | (with_reducible refine Kd.C_alloc ?_ _) | (with_reducible refine Kd.C_drewN ?_ _) | (with_reducible refine Kd.C_drew ?_))); (case side2 => exact (Kd.R_reads' HO511.out).2.1); rintro e w51 ⟨rfl, hb⟩; refine ⟨_, rfl, ?_⟩; replace HO507 := HO507.kb hb; replace HO511 := HO511.kb hb; replace BK501 := BK501.bb hb; replace HB := HB.s1 GE501 hb; (try clear hb)))
   go_ret
   exact ⟨ex_, hb1_ HB.out GE501.out⟩

/-- THE ONE PURE STATEMENT of laws_FnExactCountReached: yours. -/
def laws_FnExactCountReached.Pure : Prop := ∀ (a0_0 : Int) (a0_1 : Int) (a0_2 : Int) (l1 : List Int), (Lit.int .i64 a0_0).wf = true → (Lit.int .i64 a0_1).wf = true → (Lit.int .i64 a0_2).wf = true → l1.length ≤ maxLen → l1.length * 8 ≤ 140737488351232 → (∀ x ∈ l1, (Lit.int .i64 x).wf = true) → ∃ k, laws_FnExactCountReached.f k a0_0 a0_1 a0_2 l1 = some true
theorem laws_FnExactCountReached.walk (P : laws_FnExactCountReached.Pure) (a0_0 : Int) (a0_1 : Int) (a0_2 : Int) (a1 : Option Addr) (len1 cap1 : Nat) (z1 : List Int) (w : World) (w0_0 : (Lit.int .i64 a0_0).wf = true) (w0_1 : (Lit.int .i64 a0_1).wf = true) (w0_2 : (Lit.int .i64 a0_2).wf = true) (w1 : (a1 = none ∧ len1 = 0 ∧ cap1 = 0 ∧ z1 = []) ∨ ∃ x, a1 = some x ∧ len1 ≤ cap1 ∧ cap1 ≤ maxLen ∧ z1.length = cap1 ∧ (∀ i, i < z1.length → w.cell? (x.add i) = some (.int .i64 (z1.getD i 0))) ∧ ∀ n ∈ z1, (Lit.int .i64 n).wf = true) (y1 : len1 * 8 ≤ 140737488351232) :
  Calls Tryd.prog 3 #[.agg #[.int .i64 a0_0, .int .i64 a0_1, .int .i64 a0_2], .slice a1 len1 cap1] w fun e w' => e = .returned (.bool true) ∧ Below w.heap.size w w' := by
 obtain ⟨l1, rfl, hr1, hm1, hw1, hc1⟩ := ReadsInt.ofRowC w1
 obtain ⟨k, h⟩ := P a0_0 a0_1 a0_2 l1 w0_0 w0_1 w0_2 hm1 y1 hw1
 refine (laws_FnExactCountReached.calls k a0_0 a0_1 a0_2 _ _ l1 true w (Kd.C_of_reads (d := (0 : Int)) (h1 := fun _ => rfl) hr1) hc1 h).mono ?_
 rintro e w' ⟨rfl, hd⟩
 exact ⟨rfl, hd⟩

end Go.Proofs.YtgnnkjgfkdaddaaDoor.X
