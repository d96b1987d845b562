-- Written by a program of this session (xprint.py), out of the translation and of hand-written contracts. Lean checks it.
import Derived.Test.YtmcllgonjlapoaaX0
import Derived.Test.YtmcllgonjlapoaaXcfollow
import Derived.Test.YtmcllgonjlapoaaXcints
import Derived.Test.YtmcllgonjlapoaaXcto
namespace Go.Proofs.Ytmcllgonjlapoaa.X
open Go.RowKit Go.Proofs.YtmcllgonjlapoaaW.PrintWords Go.Proofs.YtmcllgonjlapoaaW.PrintLast Go.Proofs.YtmcllgonjlapoaaW.PrintMore
attribute [local go_sem] max2_int min2_int max_two min_two max_three min_three max_four min_four   -- for this text's walks alone
set_option linter.unusedVariables false
set_option linter.unusedSimpArgs false

/-! ### laws_FnExactCoversAll: function 9 -/
def laws_FnExactCoversAll.f (k : Nat) (a0_0 : Int) (a0_1 : Int) (a0_2 : Int) (a1_0 : Int) (a1_1 : Int) (l2 : List Int) : Option (Bool) := if (l2.length : Int) > 1048576 then (some true) else ((laws_toMaze.f a0_0 a0_1 a0_2).bind fun bt503 => ((laws_toWalker.f a1_0 a1_1).bind fun bt506 => ((laws_toIntS.f k l2).bind fun t508 => ((spec_CoversAll.f k bt503.1 bt503.2.1 bt503.2.2 bt506.1 bt506.2 t508).bind fun t511 => ((laws_toIntS.f k l2).bind fun t512 => ((laws_toMaze.f a0_0 a0_1 a0_2).bind fun bt515 => ((laws_toWalker.f a1_0 a1_1).bind fun bt518 => ((impl_CoversAll.f k bt515.1 bt515.2.1 bt515.2.2 bt518.1 bt518.2 t512).bind fun t520 => (if (t520 != t511) = true then (some false) else ((laws_toIntS.f k l2).bind fun t521 => ((laws_eqIntS.f k t512 t521).bind fun t524 => (if t524 = true then (some true) else (some false)))))))))))))
theorem laws_FnExactCoversAll.mono : ∀ a0 a1 a2 a3 a4 a5 k, LeO (laws_FnExactCoversAll.f k a0 a1 a2 a3 a4 a5) (laws_FnExactCoversAll.f (k + 1) a0 a1 a2 a3 a4 a5) := by
 intro a0 a1 a2 a3 a4 a5 k
 unfold laws_FnExactCoversAll.f
 repeat' first
   | (with_reducible exact impl_CoversAll.mono ..)
   | (with_reducible exact laws_eqIntS.mono ..)
   | (with_reducible exact laws_toIntS.mono ..)
   | (with_reducible exact spec_CoversAll.mono ..)
   | (with_reducible first | exact lr_ _ | exact ln_ _ | refine li_ ?_ ?_ | refine lb_ ?_ fun _ => ?_)
   | exact impl_CoversAll.mono ..
   | exact laws_eqIntS.mono ..
   | exact laws_toIntS.mono ..
   | exact spec_CoversAll.mono ..
   | exact ln_ _ | refine li_ ?_ ?_ | refine lb_ ?_ fun _ => ?_
def laws_FnExactCoversAll.T3 : Bool × List (List Nat × List Nat) := (true, [([], []), ([0], [0]), ([], []), ([2, 1], [2]), ([], []), ([4, 3], [4]), ([1, 3, 5, 5], [1, 3, 5]), ([6, 6, 0, 1, 2, 3, 4, 5, 6], [6])])
def laws_FnExactCoversAll.B3 : List Nat := [0, 1, 0, 7, 0, 31, 63, 127]
theorem laws_FnExactCoversAll.tab3 : rtab .any (opsOf Try.f9 3) = laws_FnExactCoversAll.T3 := by kernel_rfl
theorem laws_FnExactCoversAll.bits3 : waitsOk laws_FnExactCoversAll.T3.2 laws_FnExactCoversAll.B3 = true := by kernel_rfl
set_option maxHeartbeats 8000000 in
set_option maxRecDepth 100000 in
theorem laws_FnExactCoversAll.calls (k : Nat) (a0_0 : Int) (a0_1 : Int) (a0_2 : Int) (a1_0 : Int) (a1_1 : Int) (A2 : Option Addr) (c2 : Nat) (l2 : List Int) (r : Bool) (w : World) (hr2 : Kd.C (Kd.int .i64) w A2 l2.length l2) (hc2 : l2.length ≤ c2) (h : laws_FnExactCoversAll.f k a0_0 a0_1 a0_2 a1_0 a1_1 l2 = some r) :
  Calls Try.prog 9 #[.agg #[.int .i64 a0_0, .int .i64 a0_1, .int .i64 a0_2], .agg #[.int .i64 a1_0, .int .i64 a1_1], .slice A2 l2.length c2] w fun e w' => e = .returned (.bool r) ∧ Below w.heap.size w w' := by
 have hu25 := Try.underlying25
 have hu46 := Try.underlying46
 have HR2 := Aside0.mk hr2
 have HC2 := Aside0.mk hc2
 clear hr2 hc2
 have HB := Aside0.mk (Below.refl w.heap.size w)
 have H : (if (l2.length : Int) > 1048576 then (some true) else ((laws_toMaze.f a0_0 a0_1 a0_2).bind fun bt503 => ((laws_toWalker.f a1_0 a1_1).bind fun bt506 => ((laws_toIntS.f k l2).bind fun t508 => ((spec_CoversAll.f k bt503.1 bt503.2.1 bt503.2.2 bt506.1 bt506.2 t508).bind fun t511 => ((laws_toIntS.f k l2).bind fun t512 => ((laws_toMaze.f a0_0 a0_1 a0_2).bind fun bt515 => ((laws_toWalker.f a1_0 a1_1).bind fun bt518 => ((impl_CoversAll.f k bt515.1 bt515.2.1 bt515.2.2 bt518.1 bt518.2 t512).bind fun t520 => (if (t520 != t511) = true then (some false) else ((laws_toIntS.f k l2).bind fun t521 => ((laws_eqIntS.f k t512 t521).bind fun t524 => (if t524 = true then (some true) else (some false)))))))))))))) = some r := h
 clear h
 by_cases c4 : (l2.length : Int) > 1048576
 ·rw [if_pos c4] at H
  have c4b0 : decide (1048576 < (l2.length : Int)) = true := decide_eq_true c4
  have c4b1 : decide (1048576 < l2.length) = true := decide_eq_true (by omega)
  clear c4
  obtain rfl := Option.some.inj H
  go_enter Try.func9, Try.ntmps9
  go_wp2_with ((with_reducible refine gw_ ?_); first | (refine box_ (N := 3) (cs := #[.int .i64 a0_0, .int .i64 a0_1, .int .i64 a0_2]) (t := 25) ?_; intro gb501 hg w5 hbox hb; have BK501 := Aside0.mk (hbox); have GW501 := HB.g0 hg; have GE501 := HB.g0 hg; replace HB := HB.s0 hb; clear hb hbox hg) | (refine box_ (N := 4) (cs := #[.int .i64 a1_0, .int .i64 a1_1]) (t := 46) ?_; intro gb502 hg w6 hbox hb; have BK502 := Aside0.mk (hbox); have GW502 := HB.g1 GE501 hg; have GE502 := HB.g1 GE501 hg; replace HB := HB.s1 GE501 hb; have NB501_502 := BK501.nl hg; have NB502_501 := BK501.nr hg; replace BK501 := BK501.bb hb; clear hb hbox hg))
  go_ret
  exact ⟨ex_, hb2_ HB.out GE501.out GE502.out⟩
 ·rw [if_neg c4] at H
  have c4b0 : decide (1048576 < (l2.length : Int)) = false := decide_eq_false c4
  have c4b1 : decide (1048576 < l2.length) = false := decide_eq_false (by omega)
  clear c4
  replace H := Option.bind_eq_some_iff.mp H
  obtain ⟨⟨t503, t504, t505⟩, A70, H⟩ := H
  replace H : ((laws_toWalker.f a1_0 a1_1).bind fun bt506 => ((laws_toIntS.f k l2).bind fun t508 => ((spec_CoversAll.f k t503 t504 t505 bt506.1 bt506.2 t508).bind fun t511 => ((laws_toIntS.f k l2).bind fun t512 => ((laws_toMaze.f a0_0 a0_1 a0_2).bind fun bt515 => ((laws_toWalker.f a1_0 a1_1).bind fun bt518 => ((impl_CoversAll.f k bt515.1 bt515.2.1 bt515.2.2 bt518.1 bt518.2 t512).bind fun t520 => (if (t520 != t511) = true then (some false) else ((laws_toIntS.f k l2).bind fun t521 => ((laws_eqIntS.f k t512 t521).bind fun t524 => (if t524 = true then (some true) else (some false)))))))))))) = some r := H
  have A7 := Aside0.mk A70
  clear A70
  replace H := Option.bind_eq_some_iff.mp H
  obtain ⟨⟨t506, t507⟩, A80, H⟩ := H
  replace H : ((laws_toIntS.f k l2).bind fun t508 => ((spec_CoversAll.f k t503 t504 t505 t506 t507 t508).bind fun t511 => ((laws_toIntS.f k l2).bind fun t512 => ((laws_toMaze.f a0_0 a0_1 a0_2).bind fun bt515 => ((laws_toWalker.f a1_0 a1_1).bind fun bt518 => ((impl_CoversAll.f k bt515.1 bt515.2.1 bt515.2.2 bt518.1 bt518.2 t512).bind fun t520 => (if (t520 != t511) = true then (some false) else ((laws_toIntS.f k l2).bind fun t521 => ((laws_eqIntS.f k t512 t521).bind fun t524 => (if t524 = true then (some true) else (some false))))))))))) = some r := H
  have A8 := Aside0.mk A80
  clear A80
  replace H := Option.bind_eq_some_iff.mp H
  obtain ⟨t508, A90, H⟩ := H
  replace H : ((spec_CoversAll.f k t503 t504 t505 t506 t507 t508).bind fun t511 => ((laws_toIntS.f k l2).bind fun t512 => ((laws_toMaze.f a0_0 a0_1 a0_2).bind fun bt515 => ((laws_toWalker.f a1_0 a1_1).bind fun bt518 => ((impl_CoversAll.f k bt515.1 bt515.2.1 bt515.2.2 bt518.1 bt518.2 t512).bind fun t520 => (if (t520 != t511) = true then (some false) else ((laws_toIntS.f k l2).bind fun t521 => ((laws_eqIntS.f k t512 t521).bind fun t524 => (if t524 = true then (some true) else (some false)))))))))) = some r := H
  have A9 := Aside0.mk A90
  clear A90
  replace H := Option.bind_eq_some_iff.mp H
  obtain ⟨t511, A100, H⟩ := H
  replace H : ((laws_toIntS.f k l2).bind fun t512 => ((laws_toMaze.f a0_0 a0_1 a0_2).bind fun bt515 => ((laws_toWalker.f a1_0 a1_1).bind fun bt518 => ((impl_CoversAll.f k bt515.1 bt515.2.1 bt515.2.2 bt518.1 bt518.2 t512).bind fun t520 => (if (t520 != t511) = true then (some false) else ((laws_toIntS.f k l2).bind fun t521 => ((laws_eqIntS.f k t512 t521).bind fun t524 => (if t524 = true then (some true) else (some false))))))))) = some r := H
  have A10 := Aside0.mk A100
  clear A100
  replace H := Option.bind_eq_some_iff.mp H
  obtain ⟨t512, A110, H⟩ := H
  replace H : ((laws_toMaze.f a0_0 a0_1 a0_2).bind fun bt515 => ((laws_toWalker.f a1_0 a1_1).bind fun bt518 => ((impl_CoversAll.f k bt515.1 bt515.2.1 bt515.2.2 bt518.1 bt518.2 t512).bind fun t520 => (if (t520 != t511) = true then (some false) else ((laws_toIntS.f k l2).bind fun t521 => ((laws_eqIntS.f k t512 t521).bind fun t524 => (if t524 = true then (some true) else (some false)))))))) = some r := H
  have A11 := Aside0.mk A110
  clear A110
  replace H := Option.bind_eq_some_iff.mp H
  obtain ⟨⟨t515, t516, t517⟩, A120, H⟩ := H
  replace H : ((laws_toWalker.f a1_0 a1_1).bind fun bt518 => ((impl_CoversAll.f k t515 t516 t517 bt518.1 bt518.2 t512).bind fun t520 => (if (t520 != t511) = true then (some false) else ((laws_toIntS.f k l2).bind fun t521 => ((laws_eqIntS.f k t512 t521).bind fun t524 => (if t524 = true then (some true) else (some false))))))) = some r := H
  have A12 := Aside0.mk A120
  clear A120
  replace H := Option.bind_eq_some_iff.mp H
  obtain ⟨⟨t518, t519⟩, A130, H⟩ := H
  replace H : ((impl_CoversAll.f k t515 t516 t517 t518 t519 t512).bind fun t520 => (if (t520 != t511) = true then (some false) else ((laws_toIntS.f k l2).bind fun t521 => ((laws_eqIntS.f k t512 t521).bind fun t524 => (if t524 = true then (some true) else (some false)))))) = some r := H
  have A13 := Aside0.mk A130
  clear A130
  replace H := Option.bind_eq_some_iff.mp H
  obtain ⟨t520, A140, H⟩ := H
  replace H : (if (t520 != t511) = true then (some false) else ((laws_toIntS.f k l2).bind fun t521 => ((laws_eqIntS.f k t512 t521).bind fun t524 => (if t524 = true then (some true) else (some false))))) = some r := H
  have A14 := Aside0.mk A140
  clear A140
  by_cases c15 : (t520 != t511) = true
  ·rw [if_pos c15] at H
   have c15b0 : (t520 != t511) = true := c15
   (try (have c15b1 : decide (t520 = t511) = false := by simpa using c15))
   (try (have c15b2 : (t520 == t511) = false := by simpa using c15))
   (try (have c15b3 : ¬ (t520 = t511) := by simpa using c15))
   clear c15
   obtain rfl := Option.some.inj H
   go_enter Try.func9, Try.ntmps9
   try go_wp2_with ((with_reducible refine gw_ ?_); first | (refine box_ (N := 3) (cs := #[.int .i64 a0_0, .int .i64 a0_1, .int .i64 a0_2]) (t := 25) ?_; intro gb501 hg w16 hbox hb; have BK501 := Aside0.mk (hbox); have GW501 := HB.g0 hg; have GE501 := HB.g0 hg; replace HB := HB.s0 hb; clear hb hbox hg) | (refine box_ (N := 4) (cs := #[.int .i64 a1_0, .int .i64 a1_1]) (t := 46) ?_; intro gb502 hg w17 hbox hb; have BK502 := Aside0.mk (hbox); have GW502 := HB.g1 GE501 hg; have GE502 := HB.g1 GE501 hg; replace HB := HB.s1 GE501 hb; have NB501_502 := BK501.nl hg; have NB502_501 := BK501.nr hg; replace BK501 := BK501.bb hb; clear hb hbox hg))
   replace BK501 := Aside0.mk (blk_drew BK501.out)
   replace BK502 := Aside0.mk (blk_drew BK502.out)
   replace HB := Aside0.mk (below_drew1 HB.out)
   refine start_ (n := 8) (S := fun w' => w'.cell? ⟨gb501, 0, none⟩ = some (.int .i64 a0_0) ∧ w'.cell? ⟨gb501, 1, none⟩ = some (.int .i64 a0_1) ∧ w'.cell? ⟨gb501, 2, none⟩ = some (.int .i64 a0_2) ∧ w'.cell? ⟨gb502, 0, none⟩ = some (.int .i64 a1_0) ∧ w'.cell? ⟨gb502, 1, none⟩ = some (.int .i64 a1_1)) (ds := []) #[false, false, false, false, false, false, false, false] (by kernel_rfl) rfl rfl ⟨BK501.c 0, BK501.c 1, BK501.c 2, BK502.c 0, BK502.c 1⟩ (fun hHeld => ?_); refine with_tabW laws_FnExactCoversAll.tab3 laws_FnExactCoversAll.bits3 (fun HT_ HW_ => ?_)
   generalize w17.drew = w18 at BK501 BK502 HB hHeld ⊢
   refine pv_ (i := 4) (N := some 17) HT_.out ?_
   refine tv5_ (i := 0) (N := some 13) HT_.out HW_.out hHeld ?_
   refine tv5_ (i := 2) (N := some 15) HT_.out HW_.out hHeld ?_
   refine ov_ (i := 1) (N := some 14) HT_.out (fun K hK => ?_)
   refine gq_ Try.func15 #[.agg #[.int .i64 a0_0, .int .i64 a0_1, .int .i64 a0_2]] ?_
   with_reducible refine (laws_toMaze.calls a0_0 a0_1 a0_2 t503 t504 t505 _ A7.out).mono ?_
   rintro e w19 ⟨rfl, hb⟩
   refine ⟨_, rfl, ?_⟩
   replace BK501 := BK501.bb hb
   replace BK502 := BK502.bb hb
   replace HB := HB.s2 GE501 GE502 hb
   skip
   (try clear hb2)
   (try clear hk)
   (try clear hi)
   refine hK.out _ _ ⟨BK501.c 0, BK501.c 1, BK501.c 2, BK502.c 0, BK502.c 1⟩ (fun hHeld => ?_)
   clear hK K
   refine nm_ ?_
   refine ov_ (i := 3) (N := some 16) HT_.out (fun K hK => ?_)
   refine gq_ Try.func32 #[.agg #[.int .i64 a1_0, .int .i64 a1_1]] ?_
   with_reducible refine (laws_toWalker.calls a1_0 a1_1 t506 t507 _ A8.out).mono ?_
   rintro e w20 ⟨rfl, hb⟩
   refine ⟨_, rfl, ?_⟩
   replace BK501 := BK501.bb hb
   replace BK502 := BK502.bb hb
   replace HB := HB.s2 GE501 GE502 hb
   skip
   (try clear hb2)
   (try clear hk)
   (try clear hi)
   refine hK.out _ _ ⟨BK501.c 0, BK501.c 1, BK501.c 2, BK502.c 0, BK502.c 1⟩ (fun hHeld => ?_)
   clear hK K
   refine nm_ ?_
   refine ov_ (i := 5) (N := some 18) HT_.out (fun K hK => ?_)
   refine gq_ Try.func16 #[.slice A2 l2.length c2] ?_
   with_reducible refine (laws_toIntS.calls k _ _ l2 t508 _ ?side1 ?side2 A9.out).mono ?_
   (case side1 => repeat (first | exact (Kd.C_below HR2.out HB.out) | (with_reducible refine Kd.C_alloc ?_ _) | (with_reducible refine Kd.C_drewN ?_ _) | (with_reducible refine Kd.C_drew ?_)))
   (case side2 => exact HC2.out)
   rintro e w21 ⟨v509, rfl, ho0, hb⟩
   refine ⟨_, rfl, ?_⟩
   have HO510 := Aside0.mk (Kd.R_lower ho0 (below_size (hb2_ HB.out GE501.out GE502.out)))
   replace BK501 := BK501.bb hb
   replace BK502 := BK502.bb hb
   replace HB := HB.s2 GE501 GE502 hb
   skip
   (try clear hb2)
   (try clear hk)
   (try clear hi)
   (try clear ho0)
   obtain ⟨Ao22, co22, eo22⟩ := Kd.R_slice HO510.out
   (first | subst eo22 | (injection eo22 with f1_ f2_ f3_; have f4_ := f1_.symm; have f5_ := f3_.symm; clear f1_ f2_ f3_; subst f4_; subst f5_))
   refine hK.out _ _ ⟨BK501.c 0, BK501.c 1, BK501.c 2, BK502.c 0, BK502.c 1⟩ (fun hHeld => ?_)
   clear hK K
   refine nm_ ?_
   refine ov_ (i := 6) (N := some 19) HT_.out (fun K hK => ?_)
   refine gq_ Try.func31 #[.agg #[.int .i64 t503, .int .i64 t504, .int .i64 t505], .agg #[.int .i64 t506, .int .i64 t507], .slice Ao22 t508.length co22] ?_
   with_reducible refine (spec_CoversAll.calls k t503 t504 t505 t506 t507 _ _ t508 t511 _ ?side1 ?side2 A10.out).mono ?_
   (case side1 => repeat (first | exact (Kd.R_reads' HO510.out).2.2 | (with_reducible refine Kd.C_alloc ?_ _) | (with_reducible refine Kd.C_drewN ?_ _) | (with_reducible refine Kd.C_drew ?_)))
   (case side2 => exact (Kd.R_reads' HO510.out).2.1)
   rintro e w23 ⟨rfl, hb⟩
   refine ⟨_, rfl, ?_⟩
   replace HO510 := HO510.kb hb
   replace BK501 := BK501.bb hb
   replace BK502 := BK502.bb hb
   replace HB := HB.s2 GE501 GE502 hb
   skip
   (try clear hb2)
   (try clear hk)
   (try clear hi)
   refine hK.out _ _ ⟨BK501.c 0, BK501.c 1, BK501.c 2, BK502.c 0, BK502.c 1⟩ (fun hHeld => ?_)
   clear hK K
   refine nm_ ?_
   refine pv_ (i := 7) (N := some 7) HT_.out ?_
   refine done_ (done_of HT_.out (by kernel_rfl)) ?_
   try go_wp2_with ((with_reducible refine gw_ ?_); first | (refine gl_ 21 Try.func16 #[.slice A2 l2.length c2] ?_; (with_reducible refine (laws_toIntS.calls k _ _ l2 t512 _ ?side1 ?side2 A11.out).mono ?_); (case side1 => repeat (first | exact (Kd.C_below HR2.out HB.out) | (with_reducible refine Kd.C_alloc ?_ _) | (with_reducible refine Kd.C_drewN ?_ _) | (with_reducible refine Kd.C_drew ?_))); (case side2 => exact HC2.out); rintro e w24 ⟨v513, rfl, ho0, hb⟩; refine ⟨_, rfl, ?_⟩; have HO514 := Aside0.mk (Kd.R_lower (Kd.R_new' ho0 (Kd.R_lt (kr_ HO510.out))) (below_size (hb2_ HB.out GE501.out GE502.out))); replace HO510 := Aside0.mk (Kd.R_elder' (kr_ HO510.out) (Kd.R_base ho0) hb); replace BK501 := BK501.bb hb; replace BK502 := BK502.bb hb; replace HB := HB.s2 GE501 GE502 hb; (try clear hb); (try clear ho0)))
   replace HO510 := Aside0.mk (Kd.R_drew HO510.out)
   replace HO514 := Aside0.mk (Kd.R_drew HO514.out)
   replace BK501 := Aside0.mk (blk_drew BK501.out)
   replace BK502 := Aside0.mk (blk_drew BK502.out)
   replace HB := Aside0.mk (below_drew1 HB.out)
   refine start_ (n := 7) (S := fun w' => w'.cell? ⟨gb501, 0, none⟩ = some (.int .i64 a0_0) ∧ w'.cell? ⟨gb501, 1, none⟩ = some (.int .i64 a0_1) ∧ w'.cell? ⟨gb501, 2, none⟩ = some (.int .i64 a0_2) ∧ w'.cell? ⟨gb502, 0, none⟩ = some (.int .i64 a1_0) ∧ w'.cell? ⟨gb502, 1, none⟩ = some (.int .i64 a1_1)) (ds := []) #[false, false, false, false, false, false, false] (by kernel_rfl) rfl rfl ⟨BK501.c 0, BK501.c 1, BK501.c 2, BK502.c 0, BK502.c 1⟩ (fun hHeld => ?_)
   generalize w24.drew = w25 at HO510 HO514 BK501 BK502 HB hHeld ⊢
   refine pure_ (i := 4) (N := some 26) (v := ?_) (a' := ?_) #[false, false, false, false, true, false, false] rfl rfl (by kernel_rfl) (fun _ _ _ h => h) (Or.inl ⟨by rfl, ?_⟩) ?_ ?_
   rotate_left
   ·intro w'
    go_simp
    with_reducible rfl
   rotate_left
   ·simp only [Act.put, List.setIfInBounds_toArray, List.set_cons_zero, List.set_cons_succ, i64_w, i32_w]
    rfl
   refine take_ (i := 0) (N := some 22) (v := ?_) (a' := ?_) #[true, false, false, false, true, false, false] rfl rfl (by kernel_rfl) (fun _ _ _ h => h) (Or.inl ⟨by rfl, ?_⟩) hHeld ?_ ?_
   rotate_left
   ·rintro w' ⟨s0, s1, s2, s3, s4⟩
    go_simp
    with_reducible rfl
   rotate_left
   ·simp only [Act.put, List.setIfInBounds_toArray, List.set_cons_zero, List.set_cons_succ, i64_w, i32_w]
    rfl
   refine take_ (i := 2) (N := some 24) (v := ?_) (a' := ?_) #[true, false, true, false, true, false, false] rfl rfl (by kernel_rfl) (fun _ _ _ h => h) (Or.inl ⟨by rfl, ?_⟩) hHeld ?_ ?_
   rotate_left
   ·rintro w' ⟨s0, s1, s2, s3, s4⟩
    go_simp
    with_reducible rfl
   rotate_left
   ·simp only [Act.put, List.setIfInBounds_toArray, List.set_cons_zero, List.set_cons_succ, i64_w, i32_w]
    rfl
   refine one_ (i := 1) (N := some 23) #[true, true, true, false, true, false, false] rfl rfl (by kernel_rfl) (by decide) (fun K hK => ?_)
   refine gq_ Try.func15 #[.agg #[.int .i64 a0_0, .int .i64 a0_1, .int .i64 a0_2]] ?_
   with_reducible refine (laws_toMaze.calls a0_0 a0_1 a0_2 t515 t516 t517 _ A12.out).mono ?_
   rintro e w26 ⟨rfl, hb⟩
   refine ⟨_, rfl, ?_⟩
   replace HO510 := HO510.kb hb
   replace HO514 := HO514.kb hb
   replace BK501 := BK501.bb hb
   replace BK502 := BK502.bb hb
   replace HB := HB.s2 GE501 GE502 hb
   skip
   (try clear hb2)
   (try clear hk)
   (try clear hi)
   refine hK.out _ _ ⟨BK501.c 0, BK501.c 1, BK501.c 2, BK502.c 0, BK502.c 1⟩ (fun hHeld => ?_)
   clear hK K
   refine nm_ ?_
   refine one_ (i := 3) (N := some 25) #[true, true, true, true, true, false, false] rfl rfl (by kernel_rfl) (by decide) (fun K hK => ?_)
   refine gq_ Try.func32 #[.agg #[.int .i64 a1_0, .int .i64 a1_1]] ?_
   with_reducible refine (laws_toWalker.calls a1_0 a1_1 t518 t519 _ A13.out).mono ?_
   rintro e w27 ⟨rfl, hb⟩
   refine ⟨_, rfl, ?_⟩
   replace HO510 := HO510.kb hb
   replace HO514 := HO514.kb hb
   replace BK501 := BK501.bb hb
   replace BK502 := BK502.bb hb
   replace HB := HB.s2 GE501 GE502 hb
   skip
   (try clear hb2)
   (try clear hk)
   (try clear hi)
   obtain ⟨Ao28, co28, eo28⟩ := Kd.R_slice HO514.out
   (first | subst eo28 | (injection eo28 with f1_ f2_ f3_; have f4_ := f1_.symm; have f5_ := f3_.symm; clear f1_ f2_ f3_; subst f4_; subst f5_))
   refine hK.out _ _ ⟨BK501.c 0, BK501.c 1, BK501.c 2, BK502.c 0, BK502.c 1⟩ (fun hHeld => ?_)
   clear hK K
   refine nm_ ?_
   refine one_ (i := 5) (N := some 27) #[true, true, true, true, true, true, false] rfl rfl (by kernel_rfl) (by decide) (fun K hK => ?_)
   refine gq_ Try.func33 #[.agg #[.int .i64 t515, .int .i64 t516, .int .i64 t517], .agg #[.int .i64 t518, .int .i64 t519], .slice Ao28 t512.length co28] ?_
   with_reducible refine (impl_CoversAll.calls k t515 t516 t517 t518 t519 _ _ t512 t520 _ ?side1 ?side2 A14.out).mono ?_
   (case side1 => repeat (first | exact (Kd.R_reads' HO514.out).2.2 | (with_reducible refine Kd.C_alloc ?_ _) | (with_reducible refine Kd.C_drewN ?_ _) | (with_reducible refine Kd.C_drew ?_)))
   (case side2 => exact (Kd.R_reads' HO514.out).2.1)
   rintro e w29 ⟨rfl, hb⟩
   refine ⟨_, rfl, ?_⟩
   replace HO510 := HO510.kb hb
   replace HO514 := HO514.kb hb
   replace BK501 := BK501.bb hb
   replace BK502 := BK502.bb hb
   replace HB := HB.s2 GE501 GE502 hb
   skip
   (try clear hb2)
   (try clear hk)
   (try clear hi)
   refine hK.out _ _ ⟨BK501.c 0, BK501.c 1, BK501.c 2, BK502.c 0, BK502.c 1⟩ (fun hHeld => ?_)
   clear hK K
   refine nm_ ?_
   refine pure_ (i := 6) (N := some 9) (v := ?_) (a' := ?_) #[true, true, true, true, true, true, true] rfl rfl (by kernel_rfl) (fun _ _ _ h => h) (Or.inl ⟨by rfl, ?_⟩) ?_ ?_
   rotate_left
   ·intro w'
    go_simp
    with_reducible rfl
   rotate_left
   ·simp only [Act.put, List.setIfInBounds_toArray, List.set_cons_zero, List.set_cons_succ, i64_w, i32_w]
    rfl
   refine done_ (by kernel_rfl) ?_
   try go_wp2
   go_ret
   exact ⟨ex_, hb2_ HB.out GE501.out GE502.out⟩
  ·rw [if_neg c15] at H
   have c15b0 : (t520 != t511) = false := by simpa using c15
   (try (have c15b1 : decide (t520 = t511) = true := by simpa using c15))
   (try (have c15b2 : (t520 == t511) = true := by simpa using c15))
   clear c15
   replace H := Option.bind_eq_some_iff.mp H
   obtain ⟨t521, A300, H⟩ := H
   replace H : ((laws_eqIntS.f k t512 t521).bind fun t524 => (if t524 = true then (some true) else (some false))) = some r := H
   have A30 := Aside0.mk A300
   clear A300
   replace H := Option.bind_eq_some_iff.mp H
   obtain ⟨t524, A310, H⟩ := H
   replace H : (if t524 = true then (some true) else (some false)) = some r := H
   have A31 := Aside0.mk A310
   clear A310
   by_cases c32 : t524 = true
   ·subst c32
    have H1 : (some true) = some r := by rw [if_pos rfl] at H; exact H
    clear H
    have H := H1
    clear H1
    obtain rfl := Option.some.inj H
    go_enter Try.func9, Try.ntmps9
    try go_wp2_with ((with_reducible refine gw_ ?_); first | (refine box_ (N := 3) (cs := #[.int .i64 a0_0, .int .i64 a0_1, .int .i64 a0_2]) (t := 25) ?_; intro gb501 hg w33 hbox hb; have BK501 := Aside0.mk (hbox); have GW501 := HB.g0 hg; have GE501 := HB.g0 hg; replace HB := HB.s0 hb; clear hb hbox hg) | (refine box_ (N := 4) (cs := #[.int .i64 a1_0, .int .i64 a1_1]) (t := 46) ?_; intro gb502 hg w34 hbox hb; have BK502 := Aside0.mk (hbox); have GW502 := HB.g1 GE501 hg; have GE502 := HB.g1 GE501 hg; replace HB := HB.s1 GE501 hb; have NB501_502 := BK501.nl hg; have NB502_501 := BK501.nr hg; replace BK501 := BK501.bb hb; clear hb hbox hg))
    replace BK501 := Aside0.mk (blk_drew BK501.out)
    replace BK502 := Aside0.mk (blk_drew BK502.out)
    replace HB := Aside0.mk (below_drew1 HB.out)
    refine start_ (n := 8) (S := fun w' => w'.cell? ⟨gb501, 0, none⟩ = some (.int .i64 a0_0) ∧ w'.cell? ⟨gb501, 1, none⟩ = some (.int .i64 a0_1) ∧ w'.cell? ⟨gb501, 2, none⟩ = some (.int .i64 a0_2) ∧ w'.cell? ⟨gb502, 0, none⟩ = some (.int .i64 a1_0) ∧ w'.cell? ⟨gb502, 1, none⟩ = some (.int .i64 a1_1)) (ds := []) #[false, false, false, false, false, false, false, false] (by kernel_rfl) rfl rfl ⟨BK501.c 0, BK501.c 1, BK501.c 2, BK502.c 0, BK502.c 1⟩ (fun hHeld => ?_); refine with_tabW laws_FnExactCoversAll.tab3 laws_FnExactCoversAll.bits3 (fun HT_ HW_ => ?_)
    generalize w34.drew = w35 at BK501 BK502 HB hHeld ⊢
    refine pv_ (i := 4) (N := some 17) HT_.out ?_
    refine tv5_ (i := 0) (N := some 13) HT_.out HW_.out hHeld ?_
    refine tv5_ (i := 2) (N := some 15) HT_.out HW_.out hHeld ?_
    refine ov_ (i := 1) (N := some 14) HT_.out (fun K hK => ?_)
    refine gq_ Try.func15 #[.agg #[.int .i64 a0_0, .int .i64 a0_1, .int .i64 a0_2]] ?_
    with_reducible refine (laws_toMaze.calls a0_0 a0_1 a0_2 t503 t504 t505 _ A7.out).mono ?_
    rintro e w36 ⟨rfl, hb⟩
    refine ⟨_, rfl, ?_⟩
    replace BK501 := BK501.bb hb
    replace BK502 := BK502.bb hb
    replace HB := HB.s2 GE501 GE502 hb
    skip
    (try clear hb2)
    (try clear hk)
    (try clear hi)
    refine hK.out _ _ ⟨BK501.c 0, BK501.c 1, BK501.c 2, BK502.c 0, BK502.c 1⟩ (fun hHeld => ?_)
    clear hK K
    refine nm_ ?_
    refine ov_ (i := 3) (N := some 16) HT_.out (fun K hK => ?_)
    refine gq_ Try.func32 #[.agg #[.int .i64 a1_0, .int .i64 a1_1]] ?_
    with_reducible refine (laws_toWalker.calls a1_0 a1_1 t506 t507 _ A8.out).mono ?_
    rintro e w37 ⟨rfl, hb⟩
    refine ⟨_, rfl, ?_⟩
    replace BK501 := BK501.bb hb
    replace BK502 := BK502.bb hb
    replace HB := HB.s2 GE501 GE502 hb
    skip
    (try clear hb2)
    (try clear hk)
    (try clear hi)
    refine hK.out _ _ ⟨BK501.c 0, BK501.c 1, BK501.c 2, BK502.c 0, BK502.c 1⟩ (fun hHeld => ?_)
    clear hK K
    refine nm_ ?_
    refine ov_ (i := 5) (N := some 18) HT_.out (fun K hK => ?_)
    refine gq_ Try.func16 #[.slice A2 l2.length c2] ?_
    with_reducible refine (laws_toIntS.calls k _ _ l2 t508 _ ?side1 ?side2 A9.out).mono ?_
    (case side1 => repeat (first | exact (Kd.C_below HR2.out HB.out) | (with_reducible refine Kd.C_alloc ?_ _) | (with_reducible refine Kd.C_drewN ?_ _) | (with_reducible refine Kd.C_drew ?_)))
    (case side2 => exact HC2.out)
    rintro e w38 ⟨v509, rfl, ho0, hb⟩
    refine ⟨_, rfl, ?_⟩
    have HO510 := Aside0.mk (Kd.R_lower ho0 (below_size (hb2_ HB.out GE501.out GE502.out)))
    replace BK501 := BK501.bb hb
    replace BK502 := BK502.bb hb
    replace HB := HB.s2 GE501 GE502 hb
    skip
    (try clear hb2)
    (try clear hk)
    (try clear hi)
    (try clear ho0)
    obtain ⟨Ao39, co39, eo39⟩ := Kd.R_slice HO510.out
    (first | subst eo39 | (injection eo39 with f1_ f2_ f3_; have f4_ := f1_.symm; have f5_ := f3_.symm; clear f1_ f2_ f3_; subst f4_; subst f5_))
    refine hK.out _ _ ⟨BK501.c 0, BK501.c 1, BK501.c 2, BK502.c 0, BK502.c 1⟩ (fun hHeld => ?_)
    clear hK K
    refine nm_ ?_
    refine ov_ (i := 6) (N := some 19) HT_.out (fun K hK => ?_)
    refine gq_ Try.func31 #[.agg #[.int .i64 t503, .int .i64 t504, .int .i64 t505], .agg #[.int .i64 t506, .int .i64 t507], .slice Ao39 t508.length co39] ?_
    with_reducible refine (spec_CoversAll.calls k t503 t504 t505 t506 t507 _ _ t508 t511 _ ?side1 ?side2 A10.out).mono ?_
    (case side1 => repeat (first | exact (Kd.R_reads' HO510.out).2.2 | (with_reducible refine Kd.C_alloc ?_ _) | (with_reducible refine Kd.C_drewN ?_ _) | (with_reducible refine Kd.C_drew ?_)))
    (case side2 => exact (Kd.R_reads' HO510.out).2.1)
    rintro e w40 ⟨rfl, hb⟩
    refine ⟨_, rfl, ?_⟩
    replace HO510 := HO510.kb hb
    replace BK501 := BK501.bb hb
    replace BK502 := BK502.bb hb
    replace HB := HB.s2 GE501 GE502 hb
    skip
    (try clear hb2)
    (try clear hk)
    (try clear hi)
    refine hK.out _ _ ⟨BK501.c 0, BK501.c 1, BK501.c 2, BK502.c 0, BK502.c 1⟩ (fun hHeld => ?_)
    clear hK K
    refine nm_ ?_
    refine pv_ (i := 7) (N := some 7) HT_.out ?_
    refine done_ (done_of HT_.out (by kernel_rfl)) ?_
    try go_wp2_with ((with_reducible refine gw_ ?_); first | (refine gl_ 21 Try.func16 #[.slice A2 l2.length c2] ?_; (with_reducible refine (laws_toIntS.calls k _ _ l2 t512 _ ?side1 ?side2 A11.out).mono ?_); (case side1 => repeat (first | exact (Kd.C_below HR2.out HB.out) | (with_reducible refine Kd.C_alloc ?_ _) | (with_reducible refine Kd.C_drewN ?_ _) | (with_reducible refine Kd.C_drew ?_))); (case side2 => exact HC2.out); rintro e w41 ⟨v513, rfl, ho0, hb⟩; refine ⟨_, rfl, ?_⟩; have HO514 := Aside0.mk (Kd.R_lower (Kd.R_new' ho0 (Kd.R_lt (kr_ HO510.out))) (below_size (hb2_ HB.out GE501.out GE502.out))); replace HO510 := Aside0.mk (Kd.R_elder' (kr_ HO510.out) (Kd.R_base ho0) hb); replace BK501 := BK501.bb hb; replace BK502 := BK502.bb hb; replace HB := HB.s2 GE501 GE502 hb; (try clear hb); (try clear ho0)))
    replace HO510 := Aside0.mk (Kd.R_drew HO510.out)
    replace HO514 := Aside0.mk (Kd.R_drew HO514.out)
    replace BK501 := Aside0.mk (blk_drew BK501.out)
    replace BK502 := Aside0.mk (blk_drew BK502.out)
    replace HB := Aside0.mk (below_drew1 HB.out)
    refine start_ (n := 7) (S := fun w' => w'.cell? ⟨gb501, 0, none⟩ = some (.int .i64 a0_0) ∧ w'.cell? ⟨gb501, 1, none⟩ = some (.int .i64 a0_1) ∧ w'.cell? ⟨gb501, 2, none⟩ = some (.int .i64 a0_2) ∧ w'.cell? ⟨gb502, 0, none⟩ = some (.int .i64 a1_0) ∧ w'.cell? ⟨gb502, 1, none⟩ = some (.int .i64 a1_1)) (ds := []) #[false, false, false, false, false, false, false] (by kernel_rfl) rfl rfl ⟨BK501.c 0, BK501.c 1, BK501.c 2, BK502.c 0, BK502.c 1⟩ (fun hHeld => ?_)
    generalize w41.drew = w42 at HO510 HO514 BK501 BK502 HB hHeld ⊢
    refine pure_ (i := 4) (N := some 26) (v := ?_) (a' := ?_) #[false, false, false, false, true, false, false] rfl rfl (by kernel_rfl) (fun _ _ _ h => h) (Or.inl ⟨by rfl, ?_⟩) ?_ ?_
    rotate_left
    ·intro w'
     go_simp
     with_reducible rfl
    rotate_left
    ·simp only [Act.put, List.setIfInBounds_toArray, List.set_cons_zero, List.set_cons_succ, i64_w, i32_w]
     rfl
    refine take_ (i := 0) (N := some 22) (v := ?_) (a' := ?_) #[true, false, false, false, true, false, false] rfl rfl (by kernel_rfl) (fun _ _ _ h => h) (Or.inl ⟨by rfl, ?_⟩) hHeld ?_ ?_
    rotate_left
    ·rintro w' ⟨s0, s1, s2, s3, s4⟩
     go_simp
     with_reducible rfl
    rotate_left
    ·simp only [Act.put, List.setIfInBounds_toArray, List.set_cons_zero, List.set_cons_succ, i64_w, i32_w]
     rfl
    refine take_ (i := 2) (N := some 24) (v := ?_) (a' := ?_) #[true, false, true, false, true, false, false] rfl rfl (by kernel_rfl) (fun _ _ _ h => h) (Or.inl ⟨by rfl, ?_⟩) hHeld ?_ ?_
    rotate_left
    ·rintro w' ⟨s0, s1, s2, s3, s4⟩
     go_simp
     with_reducible rfl
    rotate_left
    ·simp only [Act.put, List.setIfInBounds_toArray, List.set_cons_zero, List.set_cons_succ, i64_w, i32_w]
     rfl
    refine one_ (i := 1) (N := some 23) #[true, true, true, false, true, false, false] rfl rfl (by kernel_rfl) (by decide) (fun K hK => ?_)
    refine gq_ Try.func15 #[.agg #[.int .i64 a0_0, .int .i64 a0_1, .int .i64 a0_2]] ?_
    with_reducible refine (laws_toMaze.calls a0_0 a0_1 a0_2 t515 t516 t517 _ A12.out).mono ?_
    rintro e w43 ⟨rfl, hb⟩
    refine ⟨_, rfl, ?_⟩
    replace HO510 := HO510.kb hb
    replace HO514 := HO514.kb hb
    replace BK501 := BK501.bb hb
    replace BK502 := BK502.bb hb
    replace HB := HB.s2 GE501 GE502 hb
    skip
    (try clear hb2)
    (try clear hk)
    (try clear hi)
    refine hK.out _ _ ⟨BK501.c 0, BK501.c 1, BK501.c 2, BK502.c 0, BK502.c 1⟩ (fun hHeld => ?_)
    clear hK K
    refine nm_ ?_
    refine one_ (i := 3) (N := some 25) #[true, true, true, true, true, false, false] rfl rfl (by kernel_rfl) (by decide) (fun K hK => ?_)
    refine gq_ Try.func32 #[.agg #[.int .i64 a1_0, .int .i64 a1_1]] ?_
    with_reducible refine (laws_toWalker.calls a1_0 a1_1 t518 t519 _ A13.out).mono ?_
    rintro e w44 ⟨rfl, hb⟩
    refine ⟨_, rfl, ?_⟩
    replace HO510 := HO510.kb hb
    replace HO514 := HO514.kb hb
    replace BK501 := BK501.bb hb
    replace BK502 := BK502.bb hb
    replace HB := HB.s2 GE501 GE502 hb
    skip
    (try clear hb2)
    (try clear hk)
    (try clear hi)
    obtain ⟨Ao45, co45, eo45⟩ := Kd.R_slice HO514.out
    (first | subst eo45 | (injection eo45 with f1_ f2_ f3_; have f4_ := f1_.symm; have f5_ := f3_.symm; clear f1_ f2_ f3_; subst f4_; subst f5_))
    refine hK.out _ _ ⟨BK501.c 0, BK501.c 1, BK501.c 2, BK502.c 0, BK502.c 1⟩ (fun hHeld => ?_)
    clear hK K
    refine nm_ ?_
    refine one_ (i := 5) (N := some 27) #[true, true, true, true, true, true, false] rfl rfl (by kernel_rfl) (by decide) (fun K hK => ?_)
    refine gq_ Try.func33 #[.agg #[.int .i64 t515, .int .i64 t516, .int .i64 t517], .agg #[.int .i64 t518, .int .i64 t519], .slice Ao45 t512.length co45] ?_
    with_reducible refine (impl_CoversAll.calls k t515 t516 t517 t518 t519 _ _ t512 t520 _ ?side1 ?side2 A14.out).mono ?_
    (case side1 => repeat (first | exact (Kd.R_reads' HO514.out).2.2 | (with_reducible refine Kd.C_alloc ?_ _) | (with_reducible refine Kd.C_drewN ?_ _) | (with_reducible refine Kd.C_drew ?_)))
    (case side2 => exact (Kd.R_reads' HO514.out).2.1)
    rintro e w46 ⟨rfl, hb⟩
    refine ⟨_, rfl, ?_⟩
    replace HO510 := HO510.kb hb
    replace HO514 := HO514.kb hb
    replace BK501 := BK501.bb hb
    replace BK502 := BK502.bb hb
    replace HB := HB.s2 GE501 GE502 hb
    skip
    (try clear hb2)
    (try clear hk)
    (try clear hi)
    refine hK.out _ _ ⟨BK501.c 0, BK501.c 1, BK501.c 2, BK502.c 0, BK502.c 1⟩ (fun hHeld => ?_)
    clear hK K
    refine nm_ ?_
    refine pure_ (i := 6) (N := some 9) (v := ?_) (a' := ?_) #[true, true, true, true, true, true, true] rfl rfl (by kernel_rfl) (fun _ _ _ h => h) (Or.inl ⟨by rfl, ?_⟩) ?_ ?_
    rotate_left
    ·intro w'
     go_simp
     with_reducible rfl
    rotate_left
    ·simp only [Act.put, List.setIfInBounds_toArray, List.set_cons_zero, List.set_cons_succ, i64_w, i32_w]
     rfl
    refine done_ (by kernel_rfl) ?_
    try go_wp2_with ((with_reducible refine gw_ ?_); first | (refine gl_ 33 Try.func16 #[.slice A2 l2.length c2] ?_; (with_reducible refine (laws_toIntS.calls k _ _ l2 t521 _ ?side1 ?side2 A30.out).mono ?_); (case side1 => repeat (first | exact (Kd.C_below HR2.out HB.out) | (with_reducible refine Kd.C_alloc ?_ _) | (with_reducible refine Kd.C_drewN ?_ _) | (with_reducible refine Kd.C_drew ?_))); (case side2 => exact HC2.out); rintro e w47 ⟨v522, rfl, ho0, hb⟩; refine ⟨_, rfl, ?_⟩; have HO523 := Aside0.mk (Kd.R_lower (Kd.R_new' (Kd.R_new' ho0 (Kd.R_lt (kr_ HO510.out))) (Kd.R_lt (kr_ HO514.out))) (below_size (hb2_ HB.out GE501.out GE502.out))); replace HO510 := Aside0.mk (Kd.R_elder' (kr_ HO510.out) (Kd.R_base ho0) hb); replace HO514 := Aside0.mk (Kd.R_elder' (kr_ HO514.out) (Kd.R_base ho0) hb); replace BK501 := BK501.bb hb; replace BK502 := BK502.bb hb; replace HB := HB.s2 GE501 GE502 hb; (try clear hb); (try clear ho0); obtain ⟨Ao48, co48, eo48⟩ := Kd.R_slice HO523.out; subst eo48) | (refine gl_ 34 Try.func18 #[.slice Ao45 t512.length co45, .slice Ao48 t521.length co48] ?_; (with_reducible refine (laws_eqIntS.calls k _ _ t512 _ _ t521 true _ ?side1 ?side2 ?side3 ?side4 A31.out).mono ?_); (case side1 => repeat (first | exact (Kd.R_reads' HO514.out).2.2 | (with_reducible refine Kd.C_alloc ?_ _) | (with_reducible refine Kd.C_drewN ?_ _) | (with_reducible refine Kd.C_drew ?_))); (case side2 => exact (Kd.R_reads' HO514.out).2.1); (case side3 => repeat (first | exact (Kd.R_reads' HO523.out).2.2 | (with_reducible refine Kd.C_alloc ?_ _) | (with_reducible refine Kd.C_drewN ?_ _) | (with_reducible refine Kd.C_drew ?_))); (case side4 => exact (Kd.R_reads' HO523.out).2.1); rintro e w' ⟨rfl, ⟨nd, rfl⟩⟩; refine ⟨_, rfl, ?_⟩))
    go_ret
    exact ⟨ex_, hb2_ HB.out GE501.out GE502.out⟩
   ·replace c32 := Bool.eq_false_iff.mpr c32
    subst c32
    have H1 : (some false) = some r := by rw [if_neg (show ¬ (false = true) by decide)] at H; exact H
    clear H
    have H := H1
    clear H1
    obtain rfl := Option.some.inj H
    go_enter Try.func9, Try.ntmps9
    try go_wp2_with ((with_reducible refine gw_ ?_); first | (refine box_ (N := 3) (cs := #[.int .i64 a0_0, .int .i64 a0_1, .int .i64 a0_2]) (t := 25) ?_; intro gb501 hg w49 hbox hb; have BK501 := Aside0.mk (hbox); have GW501 := HB.g0 hg; have GE501 := HB.g0 hg; replace HB := HB.s0 hb; clear hb hbox hg) | (refine box_ (N := 4) (cs := #[.int .i64 a1_0, .int .i64 a1_1]) (t := 46) ?_; intro gb502 hg w50 hbox hb; have BK502 := Aside0.mk (hbox); have GW502 := HB.g1 GE501 hg; have GE502 := HB.g1 GE501 hg; replace HB := HB.s1 GE501 hb; have NB501_502 := BK501.nl hg; have NB502_501 := BK501.nr hg; replace BK501 := BK501.bb hb; clear hb hbox hg))
    replace BK501 := Aside0.mk (blk_drew BK501.out)
    replace BK502 := Aside0.mk (blk_drew BK502.out)
    replace HB := Aside0.mk (below_drew1 HB.out)
    refine start_ (n := 8) (S := fun w' => w'.cell? ⟨gb501, 0, none⟩ = some (.int .i64 a0_0) ∧ w'.cell? ⟨gb501, 1, none⟩ = some (.int .i64 a0_1) ∧ w'.cell? ⟨gb501, 2, none⟩ = some (.int .i64 a0_2) ∧ w'.cell? ⟨gb502, 0, none⟩ = some (.int .i64 a1_0) ∧ w'.cell? ⟨gb502, 1, none⟩ = some (.int .i64 a1_1)) (ds := []) #[false, false, false, false, false, false, false, false] (by kernel_rfl) rfl rfl ⟨BK501.c 0, BK501.c 1, BK501.c 2, BK502.c 0, BK502.c 1⟩ (fun hHeld => ?_); refine with_tabW laws_FnExactCoversAll.tab3 laws_FnExactCoversAll.bits3 (fun HT_ HW_ => ?_)
    generalize w50.drew = w51 at BK501 BK502 HB hHeld ⊢
    refine pv_ (i := 4) (N := some 17) HT_.out ?_
    refine tv5_ (i := 0) (N := some 13) HT_.out HW_.out hHeld ?_
    refine tv5_ (i := 2) (N := some 15) HT_.out HW_.out hHeld ?_
    refine ov_ (i := 1) (N := some 14) HT_.out (fun K hK => ?_)
    refine gq_ Try.func15 #[.agg #[.int .i64 a0_0, .int .i64 a0_1, .int .i64 a0_2]] ?_
    with_reducible refine (laws_toMaze.calls a0_0 a0_1 a0_2 t503 t504 t505 _ A7.out).mono ?_
    rintro e w52 ⟨rfl, hb⟩
    refine ⟨_, rfl, ?_⟩
    replace BK501 := BK501.bb hb
    replace BK502 := BK502.bb hb
    replace HB := HB.s2 GE501 GE502 hb
    skip
    (try clear hb2)
    (try clear hk)
    (try clear hi)
    refine hK.out _ _ ⟨BK501.c 0, BK501.c 1, BK501.c 2, BK502.c 0, BK502.c 1⟩ (fun hHeld => ?_)
    clear hK K
    refine nm_ ?_
    refine ov_ (i := 3) (N := some 16) HT_.out (fun K hK => ?_)
    refine gq_ Try.func32 #[.agg #[.int .i64 a1_0, .int .i64 a1_1]] ?_
    with_reducible refine (laws_toWalker.calls a1_0 a1_1 t506 t507 _ A8.out).mono ?_
    rintro e w53 ⟨rfl, hb⟩
    refine ⟨_, rfl, ?_⟩
    replace BK501 := BK501.bb hb
    replace BK502 := BK502.bb hb
    replace HB := HB.s2 GE501 GE502 hb
    skip
    (try clear hb2)
    (try clear hk)
    (try clear hi)
    refine hK.out _ _ ⟨BK501.c 0, BK501.c 1, BK501.c 2, BK502.c 0, BK502.c 1⟩ (fun hHeld => ?_)
    clear hK K
    refine nm_ ?_
    refine ov_ (i := 5) (N := some 18) HT_.out (fun K hK => ?_)
    refine gq_ Try.func16 #[.slice A2 l2.length c2] ?_
    with_reducible refine (laws_toIntS.calls k _ _ l2 t508 _ ?side1 ?side2 A9.out).mono ?_
    (case side1 => repeat (first | exact (Kd.C_below HR2.out HB.out) | (with_reducible refine Kd.C_alloc ?_ _) | (with_reducible refine Kd.C_drewN ?_ _) | (with_reducible refine Kd.C_drew ?_)))
    (case side2 => exact HC2.out)
    rintro e w54 ⟨v509, rfl, ho0, hb⟩
    refine ⟨_, rfl, ?_⟩
    have HO510 := Aside0.mk (Kd.R_lower ho0 (below_size (hb2_ HB.out GE501.out GE502.out)))
    replace BK501 := BK501.bb hb
    replace BK502 := BK502.bb hb
    replace HB := HB.s2 GE501 GE502 hb
    skip
    (try clear hb2)
    (try clear hk)
    (try clear hi)
    (try clear ho0)
    obtain ⟨Ao55, co55, eo55⟩ := Kd.R_slice HO510.out
    (first | subst eo55 | (injection eo55 with f1_ f2_ f3_; have f4_ := f1_.symm; have f5_ := f3_.symm; clear f1_ f2_ f3_; subst f4_; subst f5_))
    refine hK.out _ _ ⟨BK501.c 0, BK501.c 1, BK501.c 2, BK502.c 0, BK502.c 1⟩ (fun hHeld => ?_)
    clear hK K
    refine nm_ ?_
    refine ov_ (i := 6) (N := some 19) HT_.out (fun K hK => ?_)
    refine gq_ Try.func31 #[.agg #[.int .i64 t503, .int .i64 t504, .int .i64 t505], .agg #[.int .i64 t506, .int .i64 t507], .slice Ao55 t508.length co55] ?_
    with_reducible refine (spec_CoversAll.calls k t503 t504 t505 t506 t507 _ _ t508 t511 _ ?side1 ?side2 A10.out).mono ?_
    (case side1 => repeat (first | exact (Kd.R_reads' HO510.out).2.2 | (with_reducible refine Kd.C_alloc ?_ _) | (with_reducible refine Kd.C_drewN ?_ _) | (with_reducible refine Kd.C_drew ?_)))
    (case side2 => exact (Kd.R_reads' HO510.out).2.1)
    rintro e w56 ⟨rfl, hb⟩
    refine ⟨_, rfl, ?_⟩
    replace HO510 := HO510.kb hb
    replace BK501 := BK501.bb hb
    replace BK502 := BK502.bb hb
    replace HB := HB.s2 GE501 GE502 hb
    skip
    (try clear hb2)
    (try clear hk)
    (try clear hi)
    refine hK.out _ _ ⟨BK501.c 0, BK501.c 1, BK501.c 2, BK502.c 0, BK502.c 1⟩ (fun hHeld => ?_)
    clear hK K
    refine nm_ ?_
    refine pv_ (i := 7) (N := some 7) HT_.out ?_
    refine done_ (done_of HT_.out (by kernel_rfl)) ?_
    try go_wp2_with ((with_reducible refine gw_ ?_); first | (refine gl_ 21 Try.func16 #[.slice A2 l2.length c2] ?_; (with_reducible refine (laws_toIntS.calls k _ _ l2 t512 _ ?side1 ?side2 A11.out).mono ?_); (case side1 => repeat (first | exact (Kd.C_below HR2.out HB.out) | (with_reducible refine Kd.C_alloc ?_ _) | (with_reducible refine Kd.C_drewN ?_ _) | (with_reducible refine Kd.C_drew ?_))); (case side2 => exact HC2.out); rintro e w57 ⟨v513, rfl, ho0, hb⟩; refine ⟨_, rfl, ?_⟩; have HO514 := Aside0.mk (Kd.R_lower (Kd.R_new' ho0 (Kd.R_lt (kr_ HO510.out))) (below_size (hb2_ HB.out GE501.out GE502.out))); replace HO510 := Aside0.mk (Kd.R_elder' (kr_ HO510.out) (Kd.R_base ho0) hb); replace BK501 := BK501.bb hb; replace BK502 := BK502.bb hb; replace HB := HB.s2 GE501 GE502 hb; (try clear hb); (try clear ho0)))
    replace HO510 := Aside0.mk (Kd.R_drew HO510.out)
    replace HO514 := Aside0.mk (Kd.R_drew HO514.out)
    replace BK501 := Aside0.mk (blk_drew BK501.out)
    replace BK502 := Aside0.mk (blk_drew BK502.out)
    replace HB := Aside0.mk (below_drew1 HB.out)
    refine start_ (n := 7) (S := fun w' => w'.cell? ⟨gb501, 0, none⟩ = some (.int .i64 a0_0) ∧ w'.cell? ⟨gb501, 1, none⟩ = some (.int .i64 a0_1) ∧ w'.cell? ⟨gb501, 2, none⟩ = some (.int .i64 a0_2) ∧ w'.cell? ⟨gb502, 0, none⟩ = some (.int .i64 a1_0) ∧ w'.cell? ⟨gb502, 1, none⟩ = some (.int .i64 a1_1)) (ds := []) #[false, false, false, false, false, false, false] (by kernel_rfl) rfl rfl ⟨BK501.c 0, BK501.c 1, BK501.c 2, BK502.c 0, BK502.c 1⟩ (fun hHeld => ?_)
    generalize w57.drew = w58 at HO510 HO514 BK501 BK502 HB hHeld ⊢
    refine pure_ (i := 4) (N := some 26) (v := ?_) (a' := ?_) #[false, false, false, false, true, false, false] rfl rfl (by kernel_rfl) (fun _ _ _ h => h) (Or.inl ⟨by rfl, ?_⟩) ?_ ?_
    rotate_left
    ·intro w'
     go_simp
     with_reducible rfl
    rotate_left
    ·simp only [Act.put, List.setIfInBounds_toArray, List.set_cons_zero, List.set_cons_succ, i64_w, i32_w]
     rfl
    refine take_ (i := 0) (N := some 22) (v := ?_) (a' := ?_) #[true, false, false, false, true, false, false] rfl rfl (by kernel_rfl) (fun _ _ _ h => h) (Or.inl ⟨by rfl, ?_⟩) hHeld ?_ ?_
    rotate_left
    ·rintro w' ⟨s0, s1, s2, s3, s4⟩
     go_simp
     with_reducible rfl
    rotate_left
    ·simp only [Act.put, List.setIfInBounds_toArray, List.set_cons_zero, List.set_cons_succ, i64_w, i32_w]
     rfl
    refine take_ (i := 2) (N := some 24) (v := ?_) (a' := ?_) #[true, false, true, false, true, false, false] rfl rfl (by kernel_rfl) (fun _ _ _ h => h) (Or.inl ⟨by rfl, ?_⟩) hHeld ?_ ?_
    rotate_left
    ·rintro w' ⟨s0, s1, s2, s3, s4⟩
     go_simp
     with_reducible rfl
    rotate_left
    ·simp only [Act.put, List.setIfInBounds_toArray, List.set_cons_zero, List.set_cons_succ, i64_w, i32_w]
     rfl
    refine one_ (i := 1) (N := some 23) #[true, true, true, false, true, false, false] rfl rfl (by kernel_rfl) (by decide) (fun K hK => ?_)
    refine gq_ Try.func15 #[.agg #[.int .i64 a0_0, .int .i64 a0_1, .int .i64 a0_2]] ?_
    with_reducible refine (laws_toMaze.calls a0_0 a0_1 a0_2 t515 t516 t517 _ A12.out).mono ?_
    rintro e w59 ⟨rfl, hb⟩
    refine ⟨_, rfl, ?_⟩
    replace HO510 := HO510.kb hb
    replace HO514 := HO514.kb hb
    replace BK501 := BK501.bb hb
    replace BK502 := BK502.bb hb
    replace HB := HB.s2 GE501 GE502 hb
    skip
    (try clear hb2)
    (try clear hk)
    (try clear hi)
    refine hK.out _ _ ⟨BK501.c 0, BK501.c 1, BK501.c 2, BK502.c 0, BK502.c 1⟩ (fun hHeld => ?_)
    clear hK K
    refine nm_ ?_
    refine one_ (i := 3) (N := some 25) #[true, true, true, true, true, false, false] rfl rfl (by kernel_rfl) (by decide) (fun K hK => ?_)
    refine gq_ Try.func32 #[.agg #[.int .i64 a1_0, .int .i64 a1_1]] ?_
    with_reducible refine (laws_toWalker.calls a1_0 a1_1 t518 t519 _ A13.out).mono ?_
    rintro e w60 ⟨rfl, hb⟩
    refine ⟨_, rfl, ?_⟩
    replace HO510 := HO510.kb hb
    replace HO514 := HO514.kb hb
    replace BK501 := BK501.bb hb
    replace BK502 := BK502.bb hb
    replace HB := HB.s2 GE501 GE502 hb
    skip
    (try clear hb2)
    (try clear hk)
    (try clear hi)
    obtain ⟨Ao61, co61, eo61⟩ := Kd.R_slice HO514.out
    (first | subst eo61 | (injection eo61 with f1_ f2_ f3_; have f4_ := f1_.symm; have f5_ := f3_.symm; clear f1_ f2_ f3_; subst f4_; subst f5_))
    refine hK.out _ _ ⟨BK501.c 0, BK501.c 1, BK501.c 2, BK502.c 0, BK502.c 1⟩ (fun hHeld => ?_)
    clear hK K
    refine nm_ ?_
    refine one_ (i := 5) (N := some 27) #[true, true, true, true, true, true, false] rfl rfl (by kernel_rfl) (by decide) (fun K hK => ?_)
    refine gq_ Try.func33 #[.agg #[.int .i64 t515, .int .i64 t516, .int .i64 t517], .agg #[.int .i64 t518, .int .i64 t519], .slice Ao61 t512.length co61] ?_
    with_reducible refine (impl_CoversAll.calls k t515 t516 t517 t518 t519 _ _ t512 t520 _ ?side1 ?side2 A14.out).mono ?_
    (case side1 => repeat (first | exact (Kd.R_reads' HO514.out).2.2 | (with_reducible refine Kd.C_alloc ?_ _) | (with_reducible refine Kd.C_drewN ?_ _) | (with_reducible refine Kd.C_drew ?_)))
    (case side2 => exact (Kd.R_reads' HO514.out).2.1)
    rintro e w62 ⟨rfl, hb⟩
    refine ⟨_, rfl, ?_⟩
    replace HO510 := HO510.kb hb
    replace HO514 := HO514.kb hb
    replace BK501 := BK501.bb hb
    replace BK502 := BK502.bb hb
    replace HB := HB.s2 GE501 GE502 hb
    skip
    (try clear hb2)
    (try clear hk)
    (try clear hi)
    refine hK.out _ _ ⟨BK501.c 0, BK501.c 1, BK501.c 2, BK502.c 0, BK502.c 1⟩ (fun hHeld => ?_)
    clear hK K
    refine nm_ ?_
    refine pure_ (i := 6) (N := some 9) (v := ?_) (a' := ?_) #[true, true, true, true, true, true, true] rfl rfl (by kernel_rfl) (fun _ _ _ h => h) (Or.inl ⟨by rfl, ?_⟩) ?_ ?_
    rotate_left
    ·intro w'
     go_simp
     with_reducible rfl
    rotate_left
    ·simp only [Act.put, List.setIfInBounds_toArray, List.set_cons_zero, List.set_cons_succ, i64_w, i32_w]
     rfl
    refine done_ (by kernel_rfl) ?_
    try go_wp2_with ((with_reducible refine gw_ ?_); first | (refine gl_ 33 Try.func16 #[.slice A2 l2.length c2] ?_; (with_reducible refine (laws_toIntS.calls k _ _ l2 t521 _ ?side1 ?side2 A30.out).mono ?_); (case side1 => repeat (first | exact (Kd.C_below HR2.out HB.out) | (with_reducible refine Kd.C_alloc ?_ _) | (with_reducible refine Kd.C_drewN ?_ _) | (with_reducible refine Kd.C_drew ?_))); (case side2 => exact HC2.out); rintro e w63 ⟨v522, rfl, ho0, hb⟩; refine ⟨_, rfl, ?_⟩; have HO523 := Aside0.mk (Kd.R_lower (Kd.R_new' (Kd.R_new' ho0 (Kd.R_lt (kr_ HO510.out))) (Kd.R_lt (kr_ HO514.out))) (below_size (hb2_ HB.out GE501.out GE502.out))); replace HO510 := Aside0.mk (Kd.R_elder' (kr_ HO510.out) (Kd.R_base ho0) hb); replace HO514 := Aside0.mk (Kd.R_elder' (kr_ HO514.out) (Kd.R_base ho0) hb); replace BK501 := BK501.bb hb; replace BK502 := BK502.bb hb; replace HB := HB.s2 GE501 GE502 hb; (try clear hb); (try clear ho0); obtain ⟨Ao64, co64, eo64⟩ := Kd.R_slice HO523.out; subst eo64) | (refine gl_ 34 Try.func18 #[.slice Ao61 t512.length co61, .slice Ao64 t521.length co64] ?_; (with_reducible refine (laws_eqIntS.calls k _ _ t512 _ _ t521 false _ ?side1 ?side2 ?side3 ?side4 A31.out).mono ?_); (case side1 => repeat (first | exact (Kd.R_reads' HO514.out).2.2 | (with_reducible refine Kd.C_alloc ?_ _) | (with_reducible refine Kd.C_drewN ?_ _) | (with_reducible refine Kd.C_drew ?_))); (case side2 => exact (Kd.R_reads' HO514.out).2.1); (case side3 => repeat (first | exact (Kd.R_reads' HO523.out).2.2 | (with_reducible refine Kd.C_alloc ?_ _) | (with_reducible refine Kd.C_drewN ?_ _) | (with_reducible refine Kd.C_drew ?_))); (case side4 => exact (Kd.R_reads' HO523.out).2.1); rintro e w' ⟨rfl, ⟨nd, rfl⟩⟩; refine ⟨_, rfl, ?_⟩))
    go_ret
    exact ⟨ex_, hb2_ HB.out GE501.out GE502.out⟩

/-- THE ONE PURE STATEMENT of laws_FnExactCoversAll: yours. -/
def laws_FnExactCoversAll.Pure : Prop := ∀ (a0_0 : Int) (a0_1 : Int) (a0_2 : Int) (a1_0 : Int) (a1_1 : Int) (l2 : List Int), (Lit.int .i64 a0_0).wf = true → (Lit.int .i64 a0_1).wf = true → (Lit.int .i64 a0_2).wf = true → (Lit.int .i64 a1_0).wf = true → (Lit.int .i64 a1_1).wf = true → l2.length ≤ maxLen → l2.length * 8 ≤ 140737488351232 → (∀ x ∈ l2, (Lit.int .i64 x).wf = true) → ∃ k, laws_FnExactCoversAll.f k a0_0 a0_1 a0_2 a1_0 a1_1 l2 = some true
theorem laws_FnExactCoversAll.walk (P : laws_FnExactCoversAll.Pure) (a0_0 : Int) (a0_1 : Int) (a0_2 : Int) (a1_0 : Int) (a1_1 : Int) (a2 : Option Addr) (len2 cap2 : Nat) (z2 : List Int) (w : World) (w0_0 : (Lit.int .i64 a0_0).wf = true) (w0_1 : (Lit.int .i64 a0_1).wf = true) (w0_2 : (Lit.int .i64 a0_2).wf = true) (w1_0 : (Lit.int .i64 a1_0).wf = true) (w1_1 : (Lit.int .i64 a1_1).wf = true) (w2 : (a2 = none ∧ len2 = 0 ∧ cap2 = 0 ∧ z2 = []) ∨ ∃ x, a2 = some x ∧ len2 ≤ cap2 ∧ cap2 ≤ maxLen ∧ z2.length = cap2 ∧ (∀ i, i < z2.length → w.cell? (x.add i) = some (.int .i64 (z2.getD i 0))) ∧ ∀ n ∈ z2, (Lit.int .i64 n).wf = true) (y2 : len2 * 8 ≤ 140737488351232) :
  Calls Try.prog 9 #[.agg #[.int .i64 a0_0, .int .i64 a0_1, .int .i64 a0_2], .agg #[.int .i64 a1_0, .int .i64 a1_1], .slice a2 len2 cap2] w fun e w' => e = .returned (.bool true) ∧ Below w.heap.size w w' := by
 obtain ⟨l2, rfl, hr2, hm2, hw2, hc2⟩ := ReadsInt.ofRowC w2
 obtain ⟨k, h⟩ := P a0_0 a0_1 a0_2 a1_0 a1_1 l2 w0_0 w0_1 w0_2 w1_0 w1_1 hm2 y2 hw2
 refine (laws_FnExactCoversAll.calls k a0_0 a0_1 a0_2 a1_0 a1_1 _ _ l2 true w (Kd.C_of_reads (d := (0 : Int)) (h1 := fun _ => rfl) hr2) hc2 h).mono ?_
 rintro e w' ⟨rfl, hd⟩
 exact ⟨rfl, hd⟩

end Go.Proofs.Ytmcllgonjlapoaa.X
