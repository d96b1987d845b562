-- Written by a program of this session (xprint.py), out of the translation and of hand-written contracts. Lean checks it.
import Derived.Test.YtmcllgonjlapoaaX0
import Derived.Test.YtmcllgonjlapoaaXcfail
import Derived.Test.YtmcllgonjlapoaaXcints
import Derived.Test.YtmcllgonjlapoaaXcto
namespace Go.Proofs.Ytmcllgonjlapoaa.X
open Go.RowKit Go.Proofs.YtmcllgonjlapoaaW.PrintWords Go.Proofs.YtmcllgonjlapoaaW.PrintLast Go.Proofs.YtmcllgonjlapoaaW.PrintMore
attribute [local go_sem] max2_int min2_int max_two min_two max_three min_three max_four min_four   -- for this text's walks alone
set_option linter.unusedVariables false
set_option linter.unusedSimpArgs false

/-! ### laws_FnExactFirstFailure: function 13 -/
def laws_FnExactFirstFailure.j0 : Nat → List Int → List Int → Bool → Option (Bool)
 | 0, _, _, _ => none
 | k + 1, x1, x8, x48 => if x48 = true then (some false) else ((laws_toIntS.f k x1).bind fun t530 => ((laws_eqIntS.f k x8 t530).bind fun t533 => (if t533 = true then (some true) else (some false))))
def laws_FnExactFirstFailure.f (k : Nat) (a0_0 : Int) (a0_1 : Int) (l1 : List Int) : Option (Bool) := if (l1.length : Int) > 1048576 then (some true) else ((laws_toGrid.f a0_0 a0_1).bind fun bt502 => ((laws_toIntS.f k l1).bind fun t504 => ((spec_FirstFailure.f k bt502.1 bt502.2 t504).bind fun bt507 => ((laws_toIntS.f k l1).bind fun t515 => ((laws_toGrid.f a0_0 a0_1).bind fun bt518 => ((impl_FirstFailure.f k bt518.1 bt518.2 t515).bind fun bt520 => ((laws_eqMaze.f bt520.1 bt520.2.1 bt520.2.2.1 bt507.1 bt507.2.1 bt507.2.2.1).bind fun t528 => (if t528 = true then ((laws_eqWalker.f bt520.2.2.2.1 bt520.2.2.2.2.1 bt507.2.2.2.1 bt507.2.2.2.2.1).bind fun t529 => (if t529 = true then (laws_FnExactFirstFailure.j0 k l1 t515 (bt520.2.2.2.2.2 != bt507.2.2.2.2.2)) else (laws_FnExactFirstFailure.j0 k l1 t515 true))) else (laws_FnExactFirstFailure.j0 k l1 t515 true)))))))))
theorem laws_FnExactFirstFailure.mono_l : ∀ k, (∀ y0 y1 y2, LeO (laws_FnExactFirstFailure.j0 k y0 y1 y2) (laws_FnExactFirstFailure.j0 (k + 1) y0 y1 y2))
 | 0 => fun _ _ _ r h => by simp [laws_FnExactFirstFailure.j0] at h
 | k + 1 => by
  have ih0 := laws_FnExactFirstFailure.mono_l k
  ·intro y0 y1 y2
   unfold laws_FnExactFirstFailure.j0
   repeat' first
   | (with_reducible exact ih0 ..)
   | (with_reducible exact impl_FirstFailure.mono ..)
   | (with_reducible exact laws_eqIntS.mono ..)
   | (with_reducible exact laws_toIntS.mono ..)
   | (with_reducible exact spec_FirstFailure.mono ..)
   | (with_reducible first | exact lr_ _ | exact ln_ _ | refine li_ ?_ ?_ | refine lb_ ?_ fun _ => ?_)
   | exact ih0 ..
   | exact impl_FirstFailure.mono ..
   | exact laws_eqIntS.mono ..
   | exact laws_toIntS.mono ..
   | exact spec_FirstFailure.mono ..
   | exact ln_ _ | refine li_ ?_ ?_ | refine lb_ ?_ fun _ => ?_
theorem laws_FnExactFirstFailure.mono : ∀ a0 a1 a2 k, LeO (laws_FnExactFirstFailure.f k a0 a1 a2) (laws_FnExactFirstFailure.f (k + 1) a0 a1 a2) := by
 intro a0 a1 a2 k
 have ih0 := laws_FnExactFirstFailure.mono_l k
 unfold laws_FnExactFirstFailure.f
 repeat' first
   | (with_reducible exact ih0 ..)
   | (with_reducible exact impl_FirstFailure.mono ..)
   | (with_reducible exact laws_eqIntS.mono ..)
   | (with_reducible exact laws_toIntS.mono ..)
   | (with_reducible exact spec_FirstFailure.mono ..)
   | (with_reducible first | exact lr_ _ | exact ln_ _ | refine li_ ?_ ?_ | refine lb_ ?_ fun _ => ?_)
   | exact ih0 ..
   | exact impl_FirstFailure.mono ..
   | exact laws_eqIntS.mono ..
   | exact laws_toIntS.mono ..
   | exact spec_FirstFailure.mono ..
   | exact ln_ _ | refine li_ ?_ ?_ | refine lb_ ?_ fun _ => ?_
set_option maxHeartbeats 8000000 in
set_option maxRecDepth 100000 in
theorem laws_FnExactFirstFailure.calls (k : Nat) (a0_0 : Int) (a0_1 : Int) (A1 : Option Addr) (c1 : Nat) (l1 : List Int) (r : Bool) (w : World) (hr1 : Kd.C (Kd.int .i64) w A1 l1.length l1) (hc1 : l1.length ≤ c1) (h : laws_FnExactFirstFailure.f k a0_0 a0_1 l1 = some r) :
  Calls Try.prog 13 #[.agg #[.int .i64 a0_0, .int .i64 a0_1], .slice A1 l1.length c1] w fun e w' => e = .returned (.bool r) ∧ Below w.heap.size w w' := by
 have hu23 := Try.underlying23
 have hu30 := Try.underlying30
 have hu48 := Try.underlying48
 have HR1 := Aside0.mk hr1
 have HC1 := Aside0.mk hc1
 clear hr1 hc1
 have HB := Aside0.mk (Below.refl w.heap.size w)
 have H : (if (l1.length : Int) > 1048576 then (some true) else ((laws_toGrid.f a0_0 a0_1).bind fun bt502 => ((laws_toIntS.f k l1).bind fun t504 => ((spec_FirstFailure.f k bt502.1 bt502.2 t504).bind fun bt507 => ((laws_toIntS.f k l1).bind fun t515 => ((laws_toGrid.f a0_0 a0_1).bind fun bt518 => ((impl_FirstFailure.f k bt518.1 bt518.2 t515).bind fun bt520 => ((laws_eqMaze.f bt520.1 bt520.2.1 bt520.2.2.1 bt507.1 bt507.2.1 bt507.2.2.1).bind fun t528 => (if t528 = true then ((laws_eqWalker.f bt520.2.2.2.1 bt520.2.2.2.2.1 bt507.2.2.2.1 bt507.2.2.2.2.1).bind fun t529 => (if t529 = true then (laws_FnExactFirstFailure.j0 k l1 t515 (bt520.2.2.2.2.2 != bt507.2.2.2.2.2)) else (laws_FnExactFirstFailure.j0 k l1 t515 true))) else (laws_FnExactFirstFailure.j0 k l1 t515 true)))))))))) = some r := h
 clear h
 by_cases c3 : (l1.length : Int) > 1048576
 ·rw [if_pos c3] at H
  have c3b0 : decide (1048576 < (l1.length : Int)) = true := decide_eq_true c3
  have c3b1 : decide (1048576 < l1.length) = true := decide_eq_true (by omega)
  clear c3
  obtain rfl := Option.some.inj H
  go_enter Try.func13, Try.ntmps13
  go_wp2_with ((with_reducible refine gw_ ?_); first | (refine box_ (N := 2) (cs := #[.int .i64 a0_0, .int .i64 a0_1]) (t := 23) ?_; intro gb501 hg w4 hbox hb; have BK501 := Aside0.mk (hbox); have GW501 := HB.g0 hg; have GE501 := HB.g0 hg; replace HB := HB.s0 hb; clear hb hbox hg))
  go_ret
  exact ⟨ex_, hb1_ HB.out GE501.out⟩
 ·rw [if_neg c3] at H
  have c3b0 : decide (1048576 < (l1.length : Int)) = false := decide_eq_false c3
  have c3b1 : decide (1048576 < l1.length) = false := decide_eq_false (by omega)
  clear c3
  replace H := Option.bind_eq_some_iff.mp H
  obtain ⟨⟨t502, t503⟩, A50, H⟩ := H
  replace H : ((laws_toIntS.f k l1).bind fun t504 => ((spec_FirstFailure.f k t502 t503 t504).bind fun bt507 => ((laws_toIntS.f k l1).bind fun t515 => ((laws_toGrid.f a0_0 a0_1).bind fun bt518 => ((impl_FirstFailure.f k bt518.1 bt518.2 t515).bind fun bt520 => ((laws_eqMaze.f bt520.1 bt520.2.1 bt520.2.2.1 bt507.1 bt507.2.1 bt507.2.2.1).bind fun t528 => (if t528 = true then ((laws_eqWalker.f bt520.2.2.2.1 bt520.2.2.2.2.1 bt507.2.2.2.1 bt507.2.2.2.2.1).bind fun t529 => (if t529 = true then (laws_FnExactFirstFailure.j0 k l1 t515 (bt520.2.2.2.2.2 != bt507.2.2.2.2.2)) else (laws_FnExactFirstFailure.j0 k l1 t515 true))) else (laws_FnExactFirstFailure.j0 k l1 t515 true)))))))) = some r := H
  have A5 := Aside0.mk A50
  clear A50
  replace H := Option.bind_eq_some_iff.mp H
  obtain ⟨t504, A60, H⟩ := H
  replace H : ((spec_FirstFailure.f k t502 t503 t504).bind fun bt507 => ((laws_toIntS.f k l1).bind fun t515 => ((laws_toGrid.f a0_0 a0_1).bind fun bt518 => ((impl_FirstFailure.f k bt518.1 bt518.2 t515).bind fun bt520 => ((laws_eqMaze.f bt520.1 bt520.2.1 bt520.2.2.1 bt507.1 bt507.2.1 bt507.2.2.1).bind fun t528 => (if t528 = true then ((laws_eqWalker.f bt520.2.2.2.1 bt520.2.2.2.2.1 bt507.2.2.2.1 bt507.2.2.2.2.1).bind fun t529 => (if t529 = true then (laws_FnExactFirstFailure.j0 k l1 t515 (bt520.2.2.2.2.2 != bt507.2.2.2.2.2)) else (laws_FnExactFirstFailure.j0 k l1 t515 true))) else (laws_FnExactFirstFailure.j0 k l1 t515 true))))))) = some r := H
  have A6 := Aside0.mk A60
  clear A60
  replace H := Option.bind_eq_some_iff.mp H
  obtain ⟨⟨t507, t508, t509, t510, t511, t512⟩, A70, H⟩ := H
  replace H : ((laws_toIntS.f k l1).bind fun t515 => ((laws_toGrid.f a0_0 a0_1).bind fun bt518 => ((impl_FirstFailure.f k bt518.1 bt518.2 t515).bind fun bt520 => ((laws_eqMaze.f bt520.1 bt520.2.1 bt520.2.2.1 t507 t508 t509).bind fun t528 => (if t528 = true then ((laws_eqWalker.f bt520.2.2.2.1 bt520.2.2.2.2.1 t510 t511).bind fun t529 => (if t529 = true then (laws_FnExactFirstFailure.j0 k l1 t515 (bt520.2.2.2.2.2 != t512)) else (laws_FnExactFirstFailure.j0 k l1 t515 true))) else (laws_FnExactFirstFailure.j0 k l1 t515 true)))))) = some r := H
  have A7 := Aside0.mk A70
  clear A70
  replace H := Option.bind_eq_some_iff.mp H
  obtain ⟨t515, A80, H⟩ := H
  replace H : ((laws_toGrid.f a0_0 a0_1).bind fun bt518 => ((impl_FirstFailure.f k bt518.1 bt518.2 t515).bind fun bt520 => ((laws_eqMaze.f bt520.1 bt520.2.1 bt520.2.2.1 t507 t508 t509).bind fun t528 => (if t528 = true then ((laws_eqWalker.f bt520.2.2.2.1 bt520.2.2.2.2.1 t510 t511).bind fun t529 => (if t529 = true then (laws_FnExactFirstFailure.j0 k l1 t515 (bt520.2.2.2.2.2 != t512)) else (laws_FnExactFirstFailure.j0 k l1 t515 true))) else (laws_FnExactFirstFailure.j0 k l1 t515 true))))) = some r := H
  have A8 := Aside0.mk A80
  clear A80
  replace H := Option.bind_eq_some_iff.mp H
  obtain ⟨⟨t518, t519⟩, A90, H⟩ := H
  replace H : ((impl_FirstFailure.f k t518 t519 t515).bind fun bt520 => ((laws_eqMaze.f bt520.1 bt520.2.1 bt520.2.2.1 t507 t508 t509).bind fun t528 => (if t528 = true then ((laws_eqWalker.f bt520.2.2.2.1 bt520.2.2.2.2.1 t510 t511).bind fun t529 => (if t529 = true then (laws_FnExactFirstFailure.j0 k l1 t515 (bt520.2.2.2.2.2 != t512)) else (laws_FnExactFirstFailure.j0 k l1 t515 true))) else (laws_FnExactFirstFailure.j0 k l1 t515 true)))) = some r := H
  have A9 := Aside0.mk A90
  clear A90
  replace H := Option.bind_eq_some_iff.mp H
  obtain ⟨⟨t520, t521, t522, t523, t524, t525⟩, A100, H⟩ := H
  replace H : ((laws_eqMaze.f t520 t521 t522 t507 t508 t509).bind fun t528 => (if t528 = true then ((laws_eqWalker.f t523 t524 t510 t511).bind fun t529 => (if t529 = true then (laws_FnExactFirstFailure.j0 k l1 t515 (t525 != t512)) else (laws_FnExactFirstFailure.j0 k l1 t515 true))) else (laws_FnExactFirstFailure.j0 k l1 t515 true))) = some r := H
  have A10 := Aside0.mk A100
  clear A100
  have HC11 := Aside0.mk H
  clear H
  go_enter Try.func13, Try.ntmps13
  go_upto_region 6 with ((with_reducible refine gw_ ?_); first | (refine box_ (N := 2) (cs := #[.int .i64 a0_0, .int .i64 a0_1]) (t := 23) ?_; intro gb501 hg w12 hbox hb; have BK501 := Aside0.mk (hbox); have GW501 := HB.g0 hg; have GE501 := HB.g0 hg; replace HB := HB.s0 hb; clear hb hbox hg; obtain ⟨hcz13_0, hcz13_1⟩ := cz2_ BK501.out; obtain ⟨hfz13_0, hfz13_1⟩ := fz2_ BK501.out) | (refine gl_ 17 Try.func43 #[.agg #[.int .i64 a0_0, .int .i64 a0_1]] ?_; (with_reducible refine (laws_toGrid.calls a0_0 a0_1 t502 t503 _ A5.out).mono ?_); rintro e w14 ⟨rfl, hb⟩; refine ⟨_, rfl, ?_⟩; replace BK501 := BK501.bb hb; replace HB := HB.s1 GE501 hb; (try clear hb)) | (refine gl_ 19 Try.func16 #[.slice A1 l1.length c1] ?_; (with_reducible refine (laws_toIntS.calls k _ _ l1 t504 _ ?side1 ?side2 A6.out).mono ?_); (case side1 => repeat (first | exact (Kd.C_below HR1.out HB.out) | (with_reducible refine Kd.C_alloc ?_ _) | (with_reducible refine Kd.C_drewN ?_ _) | (with_reducible refine Kd.C_drew ?_))); (case side2 => exact HC1.out); rintro e w15 ⟨v505, rfl, ho0, hb⟩; refine ⟨_, rfl, ?_⟩; have HO506 := Aside0.mk (Kd.R_lower ho0 (below_size (hb1_ HB.out GE501.out))); replace BK501 := BK501.bb hb; replace HB := HB.s1 GE501 hb; (try clear hb); (try clear ho0); obtain ⟨Ao16, co16, eo16⟩ := Kd.R_slice HO506.out; subst eo16) | (refine gl_ 20 Try.func45 #[.agg #[.int .i64 t502, .int .i64 t503], .slice Ao16 t504.length co16] ?_; (with_reducible refine (spec_FirstFailure.calls k t502 t503 _ _ t504 t507 t508 t509 t510 t511 t512 _ ?side1 ?side2 A7.out).mono ?_); (case side1 => repeat (first | exact (Kd.R_reads' HO506.out).2.2 | (with_reducible refine Kd.C_alloc ?_ _) | (with_reducible refine Kd.C_drewN ?_ _) | (with_reducible refine Kd.C_drew ?_))); (case side2 => exact (Kd.R_reads' HO506.out).2.1); rintro e w17 ⟨rfl, hb⟩; refine ⟨_, rfl, ?_⟩; replace HO506 := HO506.kb hb; replace BK501 := BK501.bb hb; replace HB := HB.s1 GE501 hb; (try clear hb)) | (refine box_ (N := 5) (cs := #[.int .i64 0, .int .i64 0, .int .i64 0]) (t := 30) ?_; intro gb513 hg w18 hbox hb; replace HO506 := HO506.kb hb; have BK513 := Aside0.mk (hbox); have GW513 := HB.g1 GE501 hg; have GE513 := HB.g1 GE501 hg; replace HB := HB.s1 GE501 hb; have NB501_513 := BK501.nl hg; have NB513_501 := BK501.nr hg; replace BK501 := BK501.bb hb; clear hb hbox hg) | (refine box_ (N := 6) (cs := #[.int .i64 0, .int .i64 0]) (t := 48) ?_; intro gb514 hg w19 hbox hb; replace HO506 := HO506.kb hb; have BK514 := Aside0.mk (hbox); have GW514 := HB.g2 GE501 GE513 hg; have GE514 := HB.g2 GE501 GE513 hg; replace HB := HB.s2 GE501 GE513 hb; have NB501_514 := BK501.nl hg; have NB514_501 := BK501.nr hg; replace BK501 := BK501.bb hb; have NB513_514 := BK513.nl hg; have NB514_513 := BK513.nr hg; replace BK513 := BK513.bb hb; clear hb hbox hg; have hnb20 := NB513_501.out; have hnc20 := NB501_513.out; have hnb21 := NB513_514.out; have hnc21 := NB514_513.out; obtain ⟨hcz22_0, hcz22_1, hcz22_2⟩ := cz3_ BK513.out; obtain ⟨hfz22_0, hfz22_1, hfz22_2⟩ := fz3_ BK513.out; have hnb23 := NB514_501.out; have hnc23 := NB501_514.out; obtain ⟨hcz24_0, hcz24_1⟩ := cz2_ BK514.out; obtain ⟨hfz24_0, hfz24_1⟩ := fz2_ BK514.out) | (refine gl_ 25 Try.func16 #[.slice A1 l1.length c1] ?_; (with_reducible refine (laws_toIntS.calls k _ _ l1 t515 _ ?side1 ?side2 A8.out).mono ?_); (case side1 => exact Kd.C_below HR1.out (hb3_ HB.out GE501.out GE513.out GE514.out)); (case side2 => exact HC1.out); rintro e w25 ⟨v516, rfl, ho0, hb⟩; refine ⟨_, rfl, ?_⟩; have n0_ := Aside0.mk (Kd.R_elder' (by (with_reducible repeat (first | apply Kd.R_alloc | apply Kd.R_drewN | apply Kd.R_drew)); exact (Kd.R_mono (Kd.R_mono (Kd.R_far (p := ⟨gb514, 1, none⟩) (Kd.R_far (p := ⟨gb514, 0, none⟩) (Kd.R_far (p := ⟨gb513, 2, none⟩) (Kd.R_far (p := ⟨gb513, 1, none⟩) (Kd.R_far (p := ⟨gb513, 0, none⟩) (Kd.R_types (Kd.R_types HO506.out BK513.out (by decide)) BK514.out (by decide)) (fun _ hk => hk.1.2) (.int .i64 t507)) (fun _ hk => hk.1.2) (.int .i64 t508)) (fun _ hk => hk.1.2) (.int .i64 t509)) (fun _ hk => hk.2) (.int .i64 t510)) (fun _ hk => hk.2) (.int .i64 t511)) (fun _ h_ => h_.1)) (fun _ h_ => h_.1))) (Kd.R_base ho0) hb); have n1_ := Aside0.mk (Kd.R_lower (Kd.R_new' ho0 (Kd.R_lt (by (with_reducible repeat (first | apply Kd.R_alloc | apply Kd.R_drewN | apply Kd.R_drew)); exact (Kd.R_mono (Kd.R_mono (Kd.R_far (p := ⟨gb514, 1, none⟩) (Kd.R_far (p := ⟨gb514, 0, none⟩) (Kd.R_far (p := ⟨gb513, 2, none⟩) (Kd.R_far (p := ⟨gb513, 1, none⟩) (Kd.R_far (p := ⟨gb513, 0, none⟩) (Kd.R_types (Kd.R_types HO506.out BK513.out (by decide)) BK514.out (by decide)) (fun _ hk => hk.1.2) (.int .i64 t507)) (fun _ hk => hk.1.2) (.int .i64 t508)) (fun _ hk => hk.1.2) (.int .i64 t509)) (fun _ hk => hk.2) (.int .i64 t510)) (fun _ hk => hk.2) (.int .i64 t511)) (fun _ h_ => h_.1)) (fun _ h_ => h_.1))))) (below_size (hb3_ HB.out GE501.out GE513.out GE514.out))); have n2_ := Aside0.mk (blk_below (g := gb501) (o := .cells #[.int .i64 a0_0, .int .i64 a0_1] 23 (0, 0)) (by (with_reducible repeat (first | refine blk_drewN ?_ _ | refine blk_drew ?_ | refine blk_alloc ?_ _)); refine blk_far ?_ NB501_514.out _; (with_reducible repeat (first | refine blk_drewN ?_ _ | refine blk_drew ?_ | refine blk_alloc ?_ _)); refine blk_far ?_ NB501_514.out _; (with_reducible repeat (first | refine blk_drewN ?_ _ | refine blk_drew ?_ | refine blk_alloc ?_ _)); refine blk_far ?_ NB501_513.out _; (with_reducible repeat (first | refine blk_drewN ?_ _ | refine blk_drew ?_ | refine blk_alloc ?_ _)); refine blk_far ?_ NB501_513.out _; (with_reducible repeat (first | refine blk_drewN ?_ _ | refine blk_drew ?_ | refine blk_alloc ?_ _)); refine blk_far ?_ NB501_513.out _; (with_reducible repeat (first | refine blk_drewN ?_ _ | refine blk_drew ?_ | refine blk_alloc ?_ _)); exact BK501.out) hb); have n3_ := Aside0.mk (blk_below (g := gb513) (o := .cells #[.int .i64 t507, .int .i64 t508, .int .i64 t509] 30 (0, 0)) (by (with_reducible repeat (first | refine blk_drewN ?_ _ | refine blk_drew ?_ | refine blk_alloc ?_ _)); refine blk_far ?_ NB513_514.out _; (with_reducible repeat (first | refine blk_drewN ?_ _ | refine blk_drew ?_ | refine blk_alloc ?_ _)); refine blk_far ?_ NB513_514.out _; (with_reducible repeat (first | refine blk_drewN ?_ _ | refine blk_drew ?_ | refine blk_alloc ?_ _)); refine blk_put (cs := #[.int .i64 t507, .int .i64 t508, .int .i64 0]) ?_ 2 _ rfl; (with_reducible repeat (first | refine blk_drewN ?_ _ | refine blk_drew ?_ | refine blk_alloc ?_ _)); refine blk_put (cs := #[.int .i64 t507, .int .i64 0, .int .i64 0]) ?_ 1 _ rfl; (with_reducible repeat (first | refine blk_drewN ?_ _ | refine blk_drew ?_ | refine blk_alloc ?_ _)); refine blk_put (cs := #[.int .i64 0, .int .i64 0, .int .i64 0]) ?_ 0 _ rfl; (with_reducible repeat (first | refine blk_drewN ?_ _ | refine blk_drew ?_ | refine blk_alloc ?_ _)); exact BK513.out) hb); have n4_ := Aside0.mk (blk_below (g := gb514) (o := .cells #[.int .i64 t510, .int .i64 t511] 48 (0, 0)) (by (with_reducible repeat (first | refine blk_drewN ?_ _ | refine blk_drew ?_ | refine blk_alloc ?_ _)); refine blk_put (cs := #[.int .i64 t510, .int .i64 0]) ?_ 1 _ rfl; (with_reducible repeat (first | refine blk_drewN ?_ _ | refine blk_drew ?_ | refine blk_alloc ?_ _)); refine blk_put (cs := #[.int .i64 0, .int .i64 0]) ?_ 0 _ rfl; (with_reducible repeat (first | refine blk_drewN ?_ _ | refine blk_drew ?_ | refine blk_alloc ?_ _)); refine blk_far ?_ NB514_513.out _; (with_reducible repeat (first | refine blk_drewN ?_ _ | refine blk_drew ?_ | refine blk_alloc ?_ _)); refine blk_far ?_ NB514_513.out _; (with_reducible repeat (first | refine blk_drewN ?_ _ | refine blk_drew ?_ | refine blk_alloc ?_ _)); refine blk_far ?_ NB514_513.out _; (with_reducible repeat (first | refine blk_drewN ?_ _ | refine blk_drew ?_ | refine blk_alloc ?_ _)); exact BK514.out) hb); have n5_ := HB.s3 GE501 GE513 GE514 hb; clear HO506; clear BK501; clear BK513; clear BK514; clear HB; have HO506 := n0_; have HO517 := n1_; have BK501 := n2_; have BK513 := n3_; have BK514 := n4_; have HB := n5_; clear n0_ n1_ n2_ n3_ n4_ n5_; (try clear hb); (try clear ho0); obtain ⟨hcz26_0, hcz26_1⟩ := cz2_ BK501.out; obtain ⟨hfz26_0, hfz26_1⟩ := fz2_ BK501.out) | (refine gl_ 28 Try.func43 #[.agg #[.int .i64 a0_0, .int .i64 a0_1]] ?_; (with_reducible refine (laws_toGrid.calls a0_0 a0_1 t518 t519 _ A9.out).mono ?_); rintro e w27 ⟨rfl, hb⟩; refine ⟨_, rfl, ?_⟩; replace HO506 := HO506.kb hb; replace HO517 := HO517.kb hb; replace BK501 := BK501.bb hb; replace BK513 := BK513.bb hb; replace BK514 := BK514.bb hb; replace HB := HB.s3 GE501 GE513 GE514 hb; (try clear hb); obtain ⟨Ao28, co28, eo28⟩ := Kd.R_slice HO517.out; subst eo28) | (refine gl_ 30 Try.func46 #[.agg #[.int .i64 t518, .int .i64 t519], .slice Ao28 t515.length co28] ?_; (with_reducible refine (impl_FirstFailure.calls k t518 t519 _ _ t515 t520 t521 t522 t523 t524 t525 _ ?side1 ?side2 A10.out).mono ?_); (case side1 => repeat (first | exact (Kd.R_reads' HO517.out).2.2 | (with_reducible refine Kd.C_alloc ?_ _) | (with_reducible refine Kd.C_drewN ?_ _) | (with_reducible refine Kd.C_drew ?_))); (case side2 => exact (Kd.R_reads' HO517.out).2.1); rintro e w29 ⟨rfl, hb⟩; refine ⟨_, rfl, ?_⟩; replace HO506 := HO506.kb hb; replace HO517 := HO517.kb hb; replace BK501 := BK501.bb hb; replace BK513 := BK513.bb hb; replace BK514 := BK514.bb hb; replace HB := HB.s3 GE501 GE513 GE514 hb; (try clear hb)) | (refine box_ (N := 9) (cs := #[.int .i64 0, .int .i64 0, .int .i64 0]) (t := 30) ?_; intro gb526 hg w30 hbox hb; replace HO506 := HO506.kb hb; replace HO517 := HO517.kb hb; have BK526 := Aside0.mk (hbox); have GW526 := HB.g3 GE501 GE513 GE514 hg; have GE526 := HB.g3 GE501 GE513 GE514 hg; replace HB := HB.s3 GE501 GE513 GE514 hb; have NB501_526 := BK501.nl hg; have NB526_501 := BK501.nr hg; replace BK501 := BK501.bb hb; have NB513_526 := BK513.nl hg; have NB526_513 := BK513.nr hg; replace BK513 := BK513.bb hb; have NB514_526 := BK514.nl hg; have NB526_514 := BK514.nr hg; replace BK514 := BK514.bb hb; clear hb hbox hg) | (refine box_ (N := 10) (cs := #[.int .i64 0, .int .i64 0]) (t := 48) ?_; intro gb527 hg w31 hbox hb; replace HO506 := HO506.kb hb; replace HO517 := HO517.kb hb; have BK527 := Aside0.mk (hbox); have GW527 := HB.g4 GE501 GE513 GE514 GE526 hg; have GE527 := HB.g4 GE501 GE513 GE514 GE526 hg; replace HB := HB.s4 GE501 GE513 GE514 GE526 hb; have NB501_527 := BK501.nl hg; have NB527_501 := BK501.nr hg; replace BK501 := BK501.bb hb; have NB513_527 := BK513.nl hg; have NB527_513 := BK513.nr hg; replace BK513 := BK513.bb hb; have NB514_527 := BK514.nl hg; have NB527_514 := BK514.nr hg; replace BK514 := BK514.bb hb; have NB526_527 := BK526.nl hg; have NB527_526 := BK526.nr hg; replace BK526 := BK526.bb hb; clear hb hbox hg; have hnb32 := NB526_501.out; have hnc32 := NB501_526.out; have hnb33 := NB526_513.out; have hnc33 := NB513_526.out; have hnb34 := NB526_514.out; have hnc34 := NB514_526.out; have hnb35 := NB526_527.out; have hnc35 := NB527_526.out; obtain ⟨hcz36_0, hcz36_1, hcz36_2⟩ := cz3_ BK526.out; obtain ⟨hfz36_0, hfz36_1, hfz36_2⟩ := fz3_ BK526.out; have hnb37 := NB527_501.out; have hnc37 := NB501_527.out; have hnb38 := NB527_513.out; have hnc38 := NB513_527.out; have hnb39 := NB527_514.out; have hnc39 := NB514_527.out; obtain ⟨hcz40_0, hcz40_1⟩ := cz2_ BK527.out; obtain ⟨hfz40_0, hfz40_1⟩ := fz2_ BK527.out))
  (try simp only [Act.put, List.setIfInBounds_toArray, List.set_cons_zero, List.set_cons_succ])
  go_cut [48] (fun v48 wc => ∃ (kq : Nat) (x48_10 : Bool), v48 = .bool x48_10 ∧ Aside0 (laws_FnExactFirstFailure.j0 kq l1 t515 x48_10 = some r) ∧ Aside0 (kq ≤ k) ∧ Aside0 (Kd.R (Kd.int .i64) 3 wc w.heap.size (fun _ => True) (.slice Ao28 t515.length co28) t515) ∧ Aside0 (wc.heap[gb501]? = some (.cells #[.int .i64 a0_0, .int .i64 a0_1] 23 (0, 0))) ∧ Aside0 (wc.heap[gb513]? = some (.cells #[.int .i64 t507, .int .i64 t508, .int .i64 t509] 30 (0, 0))) ∧ Aside0 (wc.heap[gb514]? = some (.cells #[.int .i64 t510, .int .i64 t511] 48 (0, 0))) ∧ Aside0 (wc.heap[gb526]? = some (.cells #[.int .i64 t520, .int .i64 t521, .int .i64 t522] 30 (0, 0))) ∧ Aside0 (wc.heap[gb527]? = some (.cells #[.int .i64 t523, .int .i64 t524] 48 (0, 0))) ∧ Aside0 (Below w.heap.size w wc))
  case first =>
   have H := HC11.out
   clear HC11
   replace H := Option.bind_eq_some_iff.mp H
   obtain ⟨t528, A410, H⟩ := H
   replace H : (if t528 = true then ((laws_eqWalker.f t523 t524 t510 t511).bind fun t529 => (if t529 = true then (laws_FnExactFirstFailure.j0 k l1 t515 (t525 != t512)) else (laws_FnExactFirstFailure.j0 k l1 t515 true))) else (laws_FnExactFirstFailure.j0 k l1 t515 true)) = some r := H
   have A41 := Aside0.mk A410
   clear A410
   by_cases c42 : t528 = true
   ·subst c42
    have H1 : ((laws_eqWalker.f t523 t524 t510 t511).bind fun t529 => (if t529 = true then (laws_FnExactFirstFailure.j0 k l1 t515 (t525 != t512)) else (laws_FnExactFirstFailure.j0 k l1 t515 true))) = some r := by rw [if_pos rfl] at H; exact H
    clear H
    have H := H1
    clear H1
    replace H := Option.bind_eq_some_iff.mp H
    obtain ⟨t529, A430, H⟩ := H
    replace H : (if t529 = true then (laws_FnExactFirstFailure.j0 k l1 t515 (t525 != t512)) else (laws_FnExactFirstFailure.j0 k l1 t515 true)) = some r := H
    have A43 := Aside0.mk A430
    clear A430
    by_cases c44 : t529 = true
    ·subst c44
     have H1 : (laws_FnExactFirstFailure.j0 k l1 t515 (t525 != t512)) = some r := by rw [if_pos rfl] at H; exact H
     clear H
     have H := H1
     clear H1
     have H' := Aside0.mk H
     clear H
     have hnb45 := NB526_501.out
     have hnc45 := NB501_526.out
     have hnb46 := NB526_513.out
     have hnc46 := NB513_526.out
     have hnb47 := NB526_514.out
     have hnc47 := NB514_526.out
     have hnb48 := NB526_527.out
     have hnc48 := NB527_526.out
     obtain ⟨hcz49_0, hcz49_1, hcz49_2⟩ := cz3_ BK526.out
     obtain ⟨hfz49_0, hfz49_1, hfz49_2⟩ := fz3_ BK526.out
     have hnb50 := NB513_501.out
     have hnc50 := NB501_513.out
     have hnb51 := NB513_514.out
     have hnc51 := NB514_513.out
     have hnb52 := NB513_527.out
     have hnc52 := NB527_513.out
     obtain ⟨hcz53_0, hcz53_1, hcz53_2⟩ := cz3_ BK513.out
     obtain ⟨hfz53_0, hfz53_1, hfz53_2⟩ := fz3_ BK513.out
     go_wp2_with (first | (refine gl_ 36 Try.func47 #[.agg #[.int .i64 t520, .int .i64 t521, .int .i64 t522], .agg #[.int .i64 t507, .int .i64 t508, .int .i64 t509]] ?_; (with_reducible refine (laws_eqMaze.calls t520 t521 t522 t507 t508 t509 true _ A41.out).mono ?_); rintro e w54 ⟨rfl, hb⟩; refine ⟨_, rfl, ?_⟩; replace HO506 := Aside0.mk (Kd.R_below (by (with_reducible repeat (first | apply Kd.R_alloc | apply Kd.R_drewN | apply Kd.R_drew)); exact (Kd.R_mono (Kd.R_mono (Kd.R_far (p := ⟨gb527, 1, none⟩) (Kd.R_far (p := ⟨gb527, 0, none⟩) (Kd.R_far (p := ⟨gb526, 2, none⟩) (Kd.R_far (p := ⟨gb526, 1, none⟩) (Kd.R_far (p := ⟨gb526, 0, none⟩) (Kd.R_types (Kd.R_types HO506.out BK526.out (by decide)) BK527.out (by decide)) (fun _ hk => hk.1.2) (.int .i64 t520)) (fun _ hk => hk.1.2) (.int .i64 t521)) (fun _ hk => hk.1.2) (.int .i64 t522)) (fun _ hk => hk.2) (.int .i64 t523)) (fun _ hk => hk.2) (.int .i64 t524)) (fun _ h_ => h_.1)) (fun _ h_ => h_.1))) hb); replace HO517 := Aside0.mk (Kd.R_below (by (with_reducible repeat (first | apply Kd.R_alloc | apply Kd.R_drewN | apply Kd.R_drew)); exact (Kd.R_mono (Kd.R_mono (Kd.R_far (p := ⟨gb527, 1, none⟩) (Kd.R_far (p := ⟨gb527, 0, none⟩) (Kd.R_far (p := ⟨gb526, 2, none⟩) (Kd.R_far (p := ⟨gb526, 1, none⟩) (Kd.R_far (p := ⟨gb526, 0, none⟩) (Kd.R_types (Kd.R_types HO517.out BK526.out (by decide)) BK527.out (by decide)) (fun _ hk => hk.1.2) (.int .i64 t520)) (fun _ hk => hk.1.2) (.int .i64 t521)) (fun _ hk => hk.1.2) (.int .i64 t522)) (fun _ hk => hk.2) (.int .i64 t523)) (fun _ hk => hk.2) (.int .i64 t524)) (fun _ h_ => h_.1)) (fun _ h_ => h_.1))) hb); replace BK501 := Aside0.mk (blk_below (g := gb501) (o := .cells #[.int .i64 a0_0, .int .i64 a0_1] 23 (0, 0)) (by (with_reducible repeat (first | refine blk_drewN ?_ _ | refine blk_drew ?_ | refine blk_alloc ?_ _)); refine blk_far ?_ NB501_527.out _; (with_reducible repeat (first | refine blk_drewN ?_ _ | refine blk_drew ?_ | refine blk_alloc ?_ _)); refine blk_far ?_ NB501_527.out _; (with_reducible repeat (first | refine blk_drewN ?_ _ | refine blk_drew ?_ | refine blk_alloc ?_ _)); refine blk_far ?_ NB501_526.out _; (with_reducible repeat (first | refine blk_drewN ?_ _ | refine blk_drew ?_ | refine blk_alloc ?_ _)); refine blk_far ?_ NB501_526.out _; (with_reducible repeat (first | refine blk_drewN ?_ _ | refine blk_drew ?_ | refine blk_alloc ?_ _)); refine blk_far ?_ NB501_526.out _; (with_reducible repeat (first | refine blk_drewN ?_ _ | refine blk_drew ?_ | refine blk_alloc ?_ _)); exact BK501.out) hb); replace BK513 := Aside0.mk (blk_below (g := gb513) (o := .cells #[.int .i64 t507, .int .i64 t508, .int .i64 t509] 30 (0, 0)) (by (with_reducible repeat (first | refine blk_drewN ?_ _ | refine blk_drew ?_ | refine blk_alloc ?_ _)); refine blk_far ?_ NB513_527.out _; (with_reducible repeat (first | refine blk_drewN ?_ _ | refine blk_drew ?_ | refine blk_alloc ?_ _)); refine blk_far ?_ NB513_527.out _; (with_reducible repeat (first | refine blk_drewN ?_ _ | refine blk_drew ?_ | refine blk_alloc ?_ _)); refine blk_far ?_ NB513_526.out _; (with_reducible repeat (first | refine blk_drewN ?_ _ | refine blk_drew ?_ | refine blk_alloc ?_ _)); refine blk_far ?_ NB513_526.out _; (with_reducible repeat (first | refine blk_drewN ?_ _ | refine blk_drew ?_ | refine blk_alloc ?_ _)); refine blk_far ?_ NB513_526.out _; (with_reducible repeat (first | refine blk_drewN ?_ _ | refine blk_drew ?_ | refine blk_alloc ?_ _)); exact BK513.out) hb); replace BK514 := Aside0.mk (blk_below (g := gb514) (o := .cells #[.int .i64 t510, .int .i64 t511] 48 (0, 0)) (by (with_reducible repeat (first | refine blk_drewN ?_ _ | refine blk_drew ?_ | refine blk_alloc ?_ _)); refine blk_far ?_ NB514_527.out _; (with_reducible repeat (first | refine blk_drewN ?_ _ | refine blk_drew ?_ | refine blk_alloc ?_ _)); refine blk_far ?_ NB514_527.out _; (with_reducible repeat (first | refine blk_drewN ?_ _ | refine blk_drew ?_ | refine blk_alloc ?_ _)); refine blk_far ?_ NB514_526.out _; (with_reducible repeat (first | refine blk_drewN ?_ _ | refine blk_drew ?_ | refine blk_alloc ?_ _)); refine blk_far ?_ NB514_526.out _; (with_reducible repeat (first | refine blk_drewN ?_ _ | refine blk_drew ?_ | refine blk_alloc ?_ _)); refine blk_far ?_ NB514_526.out _; (with_reducible repeat (first | refine blk_drewN ?_ _ | refine blk_drew ?_ | refine blk_alloc ?_ _)); exact BK514.out) hb); replace BK526 := Aside0.mk (blk_below (g := gb526) (o := .cells #[.int .i64 t520, .int .i64 t521, .int .i64 t522] 30 (0, 0)) (by (with_reducible repeat (first | refine blk_drewN ?_ _ | refine blk_drew ?_ | refine blk_alloc ?_ _)); refine blk_far ?_ NB526_527.out _; (with_reducible repeat (first | refine blk_drewN ?_ _ | refine blk_drew ?_ | refine blk_alloc ?_ _)); refine blk_far ?_ NB526_527.out _; (with_reducible repeat (first | refine blk_drewN ?_ _ | refine blk_drew ?_ | refine blk_alloc ?_ _)); refine blk_put (cs := #[.int .i64 t520, .int .i64 t521, .int .i64 0]) ?_ 2 _ rfl; (with_reducible repeat (first | refine blk_drewN ?_ _ | refine blk_drew ?_ | refine blk_alloc ?_ _)); refine blk_put (cs := #[.int .i64 t520, .int .i64 0, .int .i64 0]) ?_ 1 _ rfl; (with_reducible repeat (first | refine blk_drewN ?_ _ | refine blk_drew ?_ | refine blk_alloc ?_ _)); refine blk_put (cs := #[.int .i64 0, .int .i64 0, .int .i64 0]) ?_ 0 _ rfl; (with_reducible repeat (first | refine blk_drewN ?_ _ | refine blk_drew ?_ | refine blk_alloc ?_ _)); exact BK526.out) hb); replace BK527 := Aside0.mk (blk_below (g := gb527) (o := .cells #[.int .i64 t523, .int .i64 t524] 48 (0, 0)) (by (with_reducible repeat (first | refine blk_drewN ?_ _ | refine blk_drew ?_ | refine blk_alloc ?_ _)); refine blk_put (cs := #[.int .i64 t523, .int .i64 0]) ?_ 1 _ rfl; (with_reducible repeat (first | refine blk_drewN ?_ _ | refine blk_drew ?_ | refine blk_alloc ?_ _)); refine blk_put (cs := #[.int .i64 0, .int .i64 0]) ?_ 0 _ rfl; (with_reducible repeat (first | refine blk_drewN ?_ _ | refine blk_drew ?_ | refine blk_alloc ?_ _)); refine blk_far ?_ NB527_526.out _; (with_reducible repeat (first | refine blk_drewN ?_ _ | refine blk_drew ?_ | refine blk_alloc ?_ _)); refine blk_far ?_ NB527_526.out _; (with_reducible repeat (first | refine blk_drewN ?_ _ | refine blk_drew ?_ | refine blk_alloc ?_ _)); refine blk_far ?_ NB527_526.out _; (with_reducible repeat (first | refine blk_drewN ?_ _ | refine blk_drew ?_ | refine blk_alloc ?_ _)); exact BK527.out) hb); replace HB := HB.s5 GE501 GE513 GE514 GE526 GE527 hb; (try clear hb); have hnb55 := NB527_501.out; have hnc55 := NB501_527.out; have hnb56 := NB527_514.out; have hnc56 := NB514_527.out; obtain ⟨hcz57_0, hcz57_1⟩ := cz2_ BK527.out; obtain ⟨hfz57_0, hfz57_1⟩ := fz2_ BK527.out; have hnb58 := NB514_501.out; have hnc58 := NB501_514.out; obtain ⟨hcz59_0, hcz59_1⟩ := cz2_ BK514.out; obtain ⟨hfz59_0, hfz59_1⟩ := fz2_ BK514.out) | (go_at_call 48; (with_reducible refine (laws_eqWalker.calls t523 t524 t510 t511 true _ A43.out).mono ?_); rintro e w60 ⟨rfl, hb⟩; replace HO506 := HO506.kb hb; replace HO517 := HO517.kb hb; replace BK501 := BK501.bb hb; replace BK513 := BK513.bb hb; replace BK514 := BK514.bb hb; replace BK526 := BK526.bb hb; replace BK527 := BK527.bb hb; replace HB := HB.s5 GE501 GE513 GE514 GE526 GE527 hb; (try clear hb)))
     go_meet
     case rel => exact ⟨_, ((t525 != t512)), (by first | rfl | (simp; done) | (simp [*]; done)), H', ⟨by first | omega | exact Nat.le_refl _⟩, ⟨by (with_reducible repeat (first | apply Kd.R_alloc | apply Kd.R_drewN | apply Kd.R_drew)); exact Kd.R_mono HO517.out (fun _ hk => trivial)⟩, ⟨bk_ BK501.out⟩, ⟨bk_ BK513.out⟩, ⟨bk_ BK514.out⟩, ⟨bk_ BK526.out⟩, ⟨bk_ BK527.out⟩, ⟨hb5_ HB.out GE501.out GE513.out GE514.out GE526.out GE527.out⟩⟩
    ·replace c44 := Bool.eq_false_iff.mpr c44
     subst c44
     have H1 : (laws_FnExactFirstFailure.j0 k l1 t515 true) = some r := by rw [if_neg (show ¬ (false = true) by decide)] at H; exact H
     clear H
     have H := H1
     clear H1
     have H' := Aside0.mk H
     clear H
     have hnb61 := NB526_501.out
     have hnc61 := NB501_526.out
     have hnb62 := NB526_513.out
     have hnc62 := NB513_526.out
     have hnb63 := NB526_514.out
     have hnc63 := NB514_526.out
     have hnb64 := NB526_527.out
     have hnc64 := NB527_526.out
     obtain ⟨hcz65_0, hcz65_1, hcz65_2⟩ := cz3_ BK526.out
     obtain ⟨hfz65_0, hfz65_1, hfz65_2⟩ := fz3_ BK526.out
     have hnb66 := NB513_501.out
     have hnc66 := NB501_513.out
     have hnb67 := NB513_514.out
     have hnc67 := NB514_513.out
     have hnb68 := NB513_527.out
     have hnc68 := NB527_513.out
     obtain ⟨hcz69_0, hcz69_1, hcz69_2⟩ := cz3_ BK513.out
     obtain ⟨hfz69_0, hfz69_1, hfz69_2⟩ := fz3_ BK513.out
     go_wp2_with (first | (refine gl_ 36 Try.func47 #[.agg #[.int .i64 t520, .int .i64 t521, .int .i64 t522], .agg #[.int .i64 t507, .int .i64 t508, .int .i64 t509]] ?_; (with_reducible refine (laws_eqMaze.calls t520 t521 t522 t507 t508 t509 true _ A41.out).mono ?_); rintro e w70 ⟨rfl, hb⟩; refine ⟨_, rfl, ?_⟩; replace HO506 := Aside0.mk (Kd.R_below (by (with_reducible repeat (first | apply Kd.R_alloc | apply Kd.R_drewN | apply Kd.R_drew)); exact (Kd.R_mono (Kd.R_mono (Kd.R_far (p := ⟨gb527, 1, none⟩) (Kd.R_far (p := ⟨gb527, 0, none⟩) (Kd.R_far (p := ⟨gb526, 2, none⟩) (Kd.R_far (p := ⟨gb526, 1, none⟩) (Kd.R_far (p := ⟨gb526, 0, none⟩) (Kd.R_types (Kd.R_types HO506.out BK526.out (by decide)) BK527.out (by decide)) (fun _ hk => hk.1.2) (.int .i64 t520)) (fun _ hk => hk.1.2) (.int .i64 t521)) (fun _ hk => hk.1.2) (.int .i64 t522)) (fun _ hk => hk.2) (.int .i64 t523)) (fun _ hk => hk.2) (.int .i64 t524)) (fun _ h_ => h_.1)) (fun _ h_ => h_.1))) hb); replace HO517 := Aside0.mk (Kd.R_below (by (with_reducible repeat (first | apply Kd.R_alloc | apply Kd.R_drewN | apply Kd.R_drew)); exact (Kd.R_mono (Kd.R_mono (Kd.R_far (p := ⟨gb527, 1, none⟩) (Kd.R_far (p := ⟨gb527, 0, none⟩) (Kd.R_far (p := ⟨gb526, 2, none⟩) (Kd.R_far (p := ⟨gb526, 1, none⟩) (Kd.R_far (p := ⟨gb526, 0, none⟩) (Kd.R_types (Kd.R_types HO517.out BK526.out (by decide)) BK527.out (by decide)) (fun _ hk => hk.1.2) (.int .i64 t520)) (fun _ hk => hk.1.2) (.int .i64 t521)) (fun _ hk => hk.1.2) (.int .i64 t522)) (fun _ hk => hk.2) (.int .i64 t523)) (fun _ hk => hk.2) (.int .i64 t524)) (fun _ h_ => h_.1)) (fun _ h_ => h_.1))) hb); replace BK501 := Aside0.mk (blk_below (g := gb501) (o := .cells #[.int .i64 a0_0, .int .i64 a0_1] 23 (0, 0)) (by (with_reducible repeat (first | refine blk_drewN ?_ _ | refine blk_drew ?_ | refine blk_alloc ?_ _)); refine blk_far ?_ NB501_527.out _; (with_reducible repeat (first | refine blk_drewN ?_ _ | refine blk_drew ?_ | refine blk_alloc ?_ _)); refine blk_far ?_ NB501_527.out _; (with_reducible repeat (first | refine blk_drewN ?_ _ | refine blk_drew ?_ | refine blk_alloc ?_ _)); refine blk_far ?_ NB501_526.out _; (with_reducible repeat (first | refine blk_drewN ?_ _ | refine blk_drew ?_ | refine blk_alloc ?_ _)); refine blk_far ?_ NB501_526.out _; (with_reducible repeat (first | refine blk_drewN ?_ _ | refine blk_drew ?_ | refine blk_alloc ?_ _)); refine blk_far ?_ NB501_526.out _; (with_reducible repeat (first | refine blk_drewN ?_ _ | refine blk_drew ?_ | refine blk_alloc ?_ _)); exact BK501.out) hb); replace BK513 := Aside0.mk (blk_below (g := gb513) (o := .cells #[.int .i64 t507, .int .i64 t508, .int .i64 t509] 30 (0, 0)) (by (with_reducible repeat (first | refine blk_drewN ?_ _ | refine blk_drew ?_ | refine blk_alloc ?_ _)); refine blk_far ?_ NB513_527.out _; (with_reducible repeat (first | refine blk_drewN ?_ _ | refine blk_drew ?_ | refine blk_alloc ?_ _)); refine blk_far ?_ NB513_527.out _; (with_reducible repeat (first | refine blk_drewN ?_ _ | refine blk_drew ?_ | refine blk_alloc ?_ _)); refine blk_far ?_ NB513_526.out _; (with_reducible repeat (first | refine blk_drewN ?_ _ | refine blk_drew ?_ | refine blk_alloc ?_ _)); refine blk_far ?_ NB513_526.out _; (with_reducible repeat (first | refine blk_drewN ?_ _ | refine blk_drew ?_ | refine blk_alloc ?_ _)); refine blk_far ?_ NB513_526.out _; (with_reducible repeat (first | refine blk_drewN ?_ _ | refine blk_drew ?_ | refine blk_alloc ?_ _)); exact BK513.out) hb); replace BK514 := Aside0.mk (blk_below (g := gb514) (o := .cells #[.int .i64 t510, .int .i64 t511] 48 (0, 0)) (by (with_reducible repeat (first | refine blk_drewN ?_ _ | refine blk_drew ?_ | refine blk_alloc ?_ _)); refine blk_far ?_ NB514_527.out _; (with_reducible repeat (first | refine blk_drewN ?_ _ | refine blk_drew ?_ | refine blk_alloc ?_ _)); refine blk_far ?_ NB514_527.out _; (with_reducible repeat (first | refine blk_drewN ?_ _ | refine blk_drew ?_ | refine blk_alloc ?_ _)); refine blk_far ?_ NB514_526.out _; (with_reducible repeat (first | refine blk_drewN ?_ _ | refine blk_drew ?_ | refine blk_alloc ?_ _)); refine blk_far ?_ NB514_526.out _; (with_reducible repeat (first | refine blk_drewN ?_ _ | refine blk_drew ?_ | refine blk_alloc ?_ _)); refine blk_far ?_ NB514_526.out _; (with_reducible repeat (first | refine blk_drewN ?_ _ | refine blk_drew ?_ | refine blk_alloc ?_ _)); exact BK514.out) hb); replace BK526 := Aside0.mk (blk_below (g := gb526) (o := .cells #[.int .i64 t520, .int .i64 t521, .int .i64 t522] 30 (0, 0)) (by (with_reducible repeat (first | refine blk_drewN ?_ _ | refine blk_drew ?_ | refine blk_alloc ?_ _)); refine blk_far ?_ NB526_527.out _; (with_reducible repeat (first | refine blk_drewN ?_ _ | refine blk_drew ?_ | refine blk_alloc ?_ _)); refine blk_far ?_ NB526_527.out _; (with_reducible repeat (first | refine blk_drewN ?_ _ | refine blk_drew ?_ | refine blk_alloc ?_ _)); refine blk_put (cs := #[.int .i64 t520, .int .i64 t521, .int .i64 0]) ?_ 2 _ rfl; (with_reducible repeat (first | refine blk_drewN ?_ _ | refine blk_drew ?_ | refine blk_alloc ?_ _)); refine blk_put (cs := #[.int .i64 t520, .int .i64 0, .int .i64 0]) ?_ 1 _ rfl; (with_reducible repeat (first | refine blk_drewN ?_ _ | refine blk_drew ?_ | refine blk_alloc ?_ _)); refine blk_put (cs := #[.int .i64 0, .int .i64 0, .int .i64 0]) ?_ 0 _ rfl; (with_reducible repeat (first | refine blk_drewN ?_ _ | refine blk_drew ?_ | refine blk_alloc ?_ _)); exact BK526.out) hb); replace BK527 := Aside0.mk (blk_below (g := gb527) (o := .cells #[.int .i64 t523, .int .i64 t524] 48 (0, 0)) (by (with_reducible repeat (first | refine blk_drewN ?_ _ | refine blk_drew ?_ | refine blk_alloc ?_ _)); refine blk_put (cs := #[.int .i64 t523, .int .i64 0]) ?_ 1 _ rfl; (with_reducible repeat (first | refine blk_drewN ?_ _ | refine blk_drew ?_ | refine blk_alloc ?_ _)); refine blk_put (cs := #[.int .i64 0, .int .i64 0]) ?_ 0 _ rfl; (with_reducible repeat (first | refine blk_drewN ?_ _ | refine blk_drew ?_ | refine blk_alloc ?_ _)); refine blk_far ?_ NB527_526.out _; (with_reducible repeat (first | refine blk_drewN ?_ _ | refine blk_drew ?_ | refine blk_alloc ?_ _)); refine blk_far ?_ NB527_526.out _; (with_reducible repeat (first | refine blk_drewN ?_ _ | refine blk_drew ?_ | refine blk_alloc ?_ _)); refine blk_far ?_ NB527_526.out _; (with_reducible repeat (first | refine blk_drewN ?_ _ | refine blk_drew ?_ | refine blk_alloc ?_ _)); exact BK527.out) hb); replace HB := HB.s5 GE501 GE513 GE514 GE526 GE527 hb; (try clear hb); have hnb71 := NB527_501.out; have hnc71 := NB501_527.out; have hnb72 := NB527_514.out; have hnc72 := NB514_527.out; obtain ⟨hcz73_0, hcz73_1⟩ := cz2_ BK527.out; obtain ⟨hfz73_0, hfz73_1⟩ := fz2_ BK527.out; have hnb74 := NB514_501.out; have hnc74 := NB501_514.out; obtain ⟨hcz75_0, hcz75_1⟩ := cz2_ BK514.out; obtain ⟨hfz75_0, hfz75_1⟩ := fz2_ BK514.out) | (go_at_call 48; (with_reducible refine (laws_eqWalker.calls t523 t524 t510 t511 false _ A43.out).mono ?_); rintro e w76 ⟨rfl, hb⟩; replace HO506 := HO506.kb hb; replace HO517 := HO517.kb hb; replace BK501 := BK501.bb hb; replace BK513 := BK513.bb hb; replace BK514 := BK514.bb hb; replace BK526 := BK526.bb hb; replace BK527 := BK527.bb hb; replace HB := HB.s5 GE501 GE513 GE514 GE526 GE527 hb; (try clear hb)))
     go_meet
     case rel => exact ⟨_, (true), (by first | rfl | (simp; done) | (simp [*]; done)), H', ⟨by first | omega | exact Nat.le_refl _⟩, ⟨by (with_reducible repeat (first | apply Kd.R_alloc | apply Kd.R_drewN | apply Kd.R_drew)); exact Kd.R_mono HO517.out (fun _ hk => trivial)⟩, ⟨bk_ BK501.out⟩, ⟨bk_ BK513.out⟩, ⟨bk_ BK514.out⟩, ⟨bk_ BK526.out⟩, ⟨bk_ BK527.out⟩, ⟨hb5_ HB.out GE501.out GE513.out GE514.out GE526.out GE527.out⟩⟩
   ·replace c42 := Bool.eq_false_iff.mpr c42
    subst c42
    have H1 : (laws_FnExactFirstFailure.j0 k l1 t515 true) = some r := by rw [if_neg (show ¬ (false = true) by decide)] at H; exact H
    clear H
    have H := H1
    clear H1
    have H' := Aside0.mk H
    clear H
    have hnb77 := NB526_501.out
    have hnc77 := NB501_526.out
    have hnb78 := NB526_513.out
    have hnc78 := NB513_526.out
    have hnb79 := NB526_514.out
    have hnc79 := NB514_526.out
    have hnb80 := NB526_527.out
    have hnc80 := NB527_526.out
    obtain ⟨hcz81_0, hcz81_1, hcz81_2⟩ := cz3_ BK526.out
    obtain ⟨hfz81_0, hfz81_1, hfz81_2⟩ := fz3_ BK526.out
    have hnb82 := NB513_501.out
    have hnc82 := NB501_513.out
    have hnb83 := NB513_514.out
    have hnc83 := NB514_513.out
    have hnb84 := NB513_527.out
    have hnc84 := NB527_513.out
    obtain ⟨hcz85_0, hcz85_1, hcz85_2⟩ := cz3_ BK513.out
    obtain ⟨hfz85_0, hfz85_1, hfz85_2⟩ := fz3_ BK513.out
    go_wp2_with ((with_reducible refine gw_ ?_); first | (refine gl_ 36 Try.func47 #[.agg #[.int .i64 t520, .int .i64 t521, .int .i64 t522], .agg #[.int .i64 t507, .int .i64 t508, .int .i64 t509]] ?_; (with_reducible refine (laws_eqMaze.calls t520 t521 t522 t507 t508 t509 false _ A41.out).mono ?_); rintro e w86 ⟨rfl, hb⟩; refine ⟨_, rfl, ?_⟩; replace HO506 := Aside0.mk (Kd.R_below (by (with_reducible repeat (first | apply Kd.R_alloc | apply Kd.R_drewN | apply Kd.R_drew)); exact (Kd.R_mono (Kd.R_mono (Kd.R_far (p := ⟨gb527, 1, none⟩) (Kd.R_far (p := ⟨gb527, 0, none⟩) (Kd.R_far (p := ⟨gb526, 2, none⟩) (Kd.R_far (p := ⟨gb526, 1, none⟩) (Kd.R_far (p := ⟨gb526, 0, none⟩) (Kd.R_types (Kd.R_types HO506.out BK526.out (by decide)) BK527.out (by decide)) (fun _ hk => hk.1.2) (.int .i64 t520)) (fun _ hk => hk.1.2) (.int .i64 t521)) (fun _ hk => hk.1.2) (.int .i64 t522)) (fun _ hk => hk.2) (.int .i64 t523)) (fun _ hk => hk.2) (.int .i64 t524)) (fun _ h_ => h_.1)) (fun _ h_ => h_.1))) hb); replace HO517 := Aside0.mk (Kd.R_below (by (with_reducible repeat (first | apply Kd.R_alloc | apply Kd.R_drewN | apply Kd.R_drew)); exact (Kd.R_mono (Kd.R_mono (Kd.R_far (p := ⟨gb527, 1, none⟩) (Kd.R_far (p := ⟨gb527, 0, none⟩) (Kd.R_far (p := ⟨gb526, 2, none⟩) (Kd.R_far (p := ⟨gb526, 1, none⟩) (Kd.R_far (p := ⟨gb526, 0, none⟩) (Kd.R_types (Kd.R_types HO517.out BK526.out (by decide)) BK527.out (by decide)) (fun _ hk => hk.1.2) (.int .i64 t520)) (fun _ hk => hk.1.2) (.int .i64 t521)) (fun _ hk => hk.1.2) (.int .i64 t522)) (fun _ hk => hk.2) (.int .i64 t523)) (fun _ hk => hk.2) (.int .i64 t524)) (fun _ h_ => h_.1)) (fun _ h_ => h_.1))) hb); replace BK501 := Aside0.mk (blk_below (g := gb501) (o := .cells #[.int .i64 a0_0, .int .i64 a0_1] 23 (0, 0)) (by (with_reducible repeat (first | refine blk_drewN ?_ _ | refine blk_drew ?_ | refine blk_alloc ?_ _)); refine blk_far ?_ NB501_527.out _; (with_reducible repeat (first | refine blk_drewN ?_ _ | refine blk_drew ?_ | refine blk_alloc ?_ _)); refine blk_far ?_ NB501_527.out _; (with_reducible repeat (first | refine blk_drewN ?_ _ | refine blk_drew ?_ | refine blk_alloc ?_ _)); refine blk_far ?_ NB501_526.out _; (with_reducible repeat (first | refine blk_drewN ?_ _ | refine blk_drew ?_ | refine blk_alloc ?_ _)); refine blk_far ?_ NB501_526.out _; (with_reducible repeat (first | refine blk_drewN ?_ _ | refine blk_drew ?_ | refine blk_alloc ?_ _)); refine blk_far ?_ NB501_526.out _; (with_reducible repeat (first | refine blk_drewN ?_ _ | refine blk_drew ?_ | refine blk_alloc ?_ _)); exact BK501.out) hb); replace BK513 := Aside0.mk (blk_below (g := gb513) (o := .cells #[.int .i64 t507, .int .i64 t508, .int .i64 t509] 30 (0, 0)) (by (with_reducible repeat (first | refine blk_drewN ?_ _ | refine blk_drew ?_ | refine blk_alloc ?_ _)); refine blk_far ?_ NB513_527.out _; (with_reducible repeat (first | refine blk_drewN ?_ _ | refine blk_drew ?_ | refine blk_alloc ?_ _)); refine blk_far ?_ NB513_527.out _; (with_reducible repeat (first | refine blk_drewN ?_ _ | refine blk_drew ?_ | refine blk_alloc ?_ _)); refine blk_far ?_ NB513_526.out _; (with_reducible repeat (first | refine blk_drewN ?_ _ | refine blk_drew ?_ | refine blk_alloc ?_ _)); refine blk_far ?_ NB513_526.out _; (with_reducible repeat (first | refine blk_drewN ?_ _ | refine blk_drew ?_ | refine blk_alloc ?_ _)); refine blk_far ?_ NB513_526.out _; (with_reducible repeat (first | refine blk_drewN ?_ _ | refine blk_drew ?_ | refine blk_alloc ?_ _)); exact BK513.out) hb); replace BK514 := Aside0.mk (blk_below (g := gb514) (o := .cells #[.int .i64 t510, .int .i64 t511] 48 (0, 0)) (by (with_reducible repeat (first | refine blk_drewN ?_ _ | refine blk_drew ?_ | refine blk_alloc ?_ _)); refine blk_far ?_ NB514_527.out _; (with_reducible repeat (first | refine blk_drewN ?_ _ | refine blk_drew ?_ | refine blk_alloc ?_ _)); refine blk_far ?_ NB514_527.out _; (with_reducible repeat (first | refine blk_drewN ?_ _ | refine blk_drew ?_ | refine blk_alloc ?_ _)); refine blk_far ?_ NB514_526.out _; (with_reducible repeat (first | refine blk_drewN ?_ _ | refine blk_drew ?_ | refine blk_alloc ?_ _)); refine blk_far ?_ NB514_526.out _; (with_reducible repeat (first | refine blk_drewN ?_ _ | refine blk_drew ?_ | refine blk_alloc ?_ _)); refine blk_far ?_ NB514_526.out _; (with_reducible repeat (first | refine blk_drewN ?_ _ | refine blk_drew ?_ | refine blk_alloc ?_ _)); exact BK514.out) hb); replace BK526 := Aside0.mk (blk_below (g := gb526) (o := .cells #[.int .i64 t520, .int .i64 t521, .int .i64 t522] 30 (0, 0)) (by (with_reducible repeat (first | refine blk_drewN ?_ _ | refine blk_drew ?_ | refine blk_alloc ?_ _)); refine blk_far ?_ NB526_527.out _; (with_reducible repeat (first | refine blk_drewN ?_ _ | refine blk_drew ?_ | refine blk_alloc ?_ _)); refine blk_far ?_ NB526_527.out _; (with_reducible repeat (first | refine blk_drewN ?_ _ | refine blk_drew ?_ | refine blk_alloc ?_ _)); refine blk_put (cs := #[.int .i64 t520, .int .i64 t521, .int .i64 0]) ?_ 2 _ rfl; (with_reducible repeat (first | refine blk_drewN ?_ _ | refine blk_drew ?_ | refine blk_alloc ?_ _)); refine blk_put (cs := #[.int .i64 t520, .int .i64 0, .int .i64 0]) ?_ 1 _ rfl; (with_reducible repeat (first | refine blk_drewN ?_ _ | refine blk_drew ?_ | refine blk_alloc ?_ _)); refine blk_put (cs := #[.int .i64 0, .int .i64 0, .int .i64 0]) ?_ 0 _ rfl; (with_reducible repeat (first | refine blk_drewN ?_ _ | refine blk_drew ?_ | refine blk_alloc ?_ _)); exact BK526.out) hb); replace BK527 := Aside0.mk (blk_below (g := gb527) (o := .cells #[.int .i64 t523, .int .i64 t524] 48 (0, 0)) (by (with_reducible repeat (first | refine blk_drewN ?_ _ | refine blk_drew ?_ | refine blk_alloc ?_ _)); refine blk_put (cs := #[.int .i64 t523, .int .i64 0]) ?_ 1 _ rfl; (with_reducible repeat (first | refine blk_drewN ?_ _ | refine blk_drew ?_ | refine blk_alloc ?_ _)); refine blk_put (cs := #[.int .i64 0, .int .i64 0]) ?_ 0 _ rfl; (with_reducible repeat (first | refine blk_drewN ?_ _ | refine blk_drew ?_ | refine blk_alloc ?_ _)); refine blk_far ?_ NB527_526.out _; (with_reducible repeat (first | refine blk_drewN ?_ _ | refine blk_drew ?_ | refine blk_alloc ?_ _)); refine blk_far ?_ NB527_526.out _; (with_reducible repeat (first | refine blk_drewN ?_ _ | refine blk_drew ?_ | refine blk_alloc ?_ _)); refine blk_far ?_ NB527_526.out _; (with_reducible repeat (first | refine blk_drewN ?_ _ | refine blk_drew ?_ | refine blk_alloc ?_ _)); exact BK527.out) hb); replace HB := HB.s5 GE501 GE513 GE514 GE526 GE527 hb; (try clear hb)))
    go_meet
    case rel => exact ⟨_, (true), (by first | rfl | (simp; done) | (simp [*]; done)), H', ⟨by first | omega | exact Nat.le_refl _⟩, ⟨by (with_reducible repeat (first | apply Kd.R_alloc | apply Kd.R_drewN | apply Kd.R_drew)); exact Kd.R_mono HO517.out (fun _ hk => trivial)⟩, ⟨bk_ BK501.out⟩, ⟨bk_ BK513.out⟩, ⟨bk_ BK514.out⟩, ⟨bk_ BK526.out⟩, ⟨bk_ BK527.out⟩, ⟨hb5_ HB.out GE501.out GE513.out GE514.out GE526.out GE527.out⟩⟩
  case rest =>
   clear HC11
   try clear c1
   try clear c2
   try clear p2
   try clear c3
   try clear c3b0
   try clear c3b1
   try clear c4
   try clear c5
   try clear c6
   try clear c7
   try clear c8
   try clear c13
   try clear c16
   try clear c20
   try clear c21
   try clear c23
   try clear c32
   try clear c33
   try clear c34
   try clear c35
   try clear c37
   try clear c38
   try clear c39
   try clear c42
   try clear c43
   try clear c44
   try clear c45
   try clear c46
   try clear c47
   try clear c48
   try clear c50
   try clear c51
   try clear c52
   try clear c55
   try clear c56
   try clear c58
   try clear c61
   try clear c62
   try clear c63
   try clear c64
   try clear c66
   try clear c67
   try clear c68
   try clear c71
   try clear c72
   try clear c74
   try clear c77
   try clear c78
   try clear c79
   try clear c80
   try clear c82
   try clear c83
   try clear c84
   try clear hcz13_0
   try clear hcz13_1
   try clear hcz22_0
   try clear hcz22_1
   try clear hcz22_2
   try clear hcz24_0
   try clear hcz24_1
   try clear hcz26_0
   try clear hcz26_1
   try clear hcz36_0
   try clear hcz36_1
   try clear hcz36_2
   try clear hcz40_0
   try clear hcz40_1
   try clear hcz49_0
   try clear hcz49_1
   try clear hcz49_2
   try clear hcz53_0
   try clear hcz53_1
   try clear hcz53_2
   try clear hcz57_0
   try clear hcz57_1
   try clear hcz59_0
   try clear hcz59_1
   try clear hcz65_0
   try clear hcz65_1
   try clear hcz65_2
   try clear hcz69_0
   try clear hcz69_1
   try clear hcz69_2
   try clear hcz73_0
   try clear hcz73_1
   try clear hcz75_0
   try clear hcz75_1
   try clear hcz81_0
   try clear hcz81_1
   try clear hcz81_2
   try clear hcz85_0
   try clear hcz85_1
   try clear hcz85_2
   try clear hfz13_0
   try clear hfz13_1
   try clear hfz22_0
   try clear hfz22_1
   try clear hfz22_2
   try clear hfz24_0
   try clear hfz24_1
   try clear hfz26_0
   try clear hfz26_1
   try clear hfz36_0
   try clear hfz36_1
   try clear hfz36_2
   try clear hfz40_0
   try clear hfz40_1
   try clear hfz49_0
   try clear hfz49_1
   try clear hfz49_2
   try clear hfz53_0
   try clear hfz53_1
   try clear hfz53_2
   try clear hfz57_0
   try clear hfz57_1
   try clear hfz59_0
   try clear hfz59_1
   try clear hfz65_0
   try clear hfz65_1
   try clear hfz65_2
   try clear hfz69_0
   try clear hfz69_1
   try clear hfz69_2
   try clear hfz73_0
   try clear hfz73_1
   try clear hfz75_0
   try clear hfz75_1
   try clear hfz81_0
   try clear hfz81_1
   try clear hfz81_2
   try clear hfz85_0
   try clear hfz85_1
   try clear hfz85_2
   obtain ⟨kq, x48_10, rfl, HA, HJ10, HO_8, BK501, BK513, BK514, BK526, BK527, HB⟩ := hcut
   cases kq with
   | zero => exact absurd HA.out (by simp [laws_FnExactFirstFailure.j0])
   | succ kj10 =>
    have H := HA.out
    clear HA
    simp only [laws_FnExactFirstFailure.j0] at H
    by_cases c87 : x48_10 = true
    ·subst c87
     have H1 : (some false) = some r := by rw [if_pos rfl] at H; exact H
     clear H
     have H := H1
     clear H1
     obtain rfl := Option.some.inj H
     go_wp2
     go_ret
     exact ⟨ex_, hb5_ HB.out GE501.out GE513.out GE514.out GE526.out GE527.out⟩
    ·replace c87 := Bool.eq_false_iff.mpr c87
     subst c87
     have H1 : ((laws_toIntS.f kj10 l1).bind fun t530 => ((laws_eqIntS.f kj10 t515 t530).bind fun t533 => (if t533 = true then (some true) else (some false)))) = some r := by rw [if_neg (show ¬ (false = true) by decide)] at H; exact H
     clear H
     have H := H1
     clear H1
     replace H := Option.bind_eq_some_iff.mp H
     obtain ⟨t530, A880, H⟩ := H
     replace H : ((laws_eqIntS.f kj10 t515 t530).bind fun t533 => (if t533 = true then (some true) else (some false))) = some r := H
     have A88 := Aside0.mk A880
     clear A880
     replace H := Option.bind_eq_some_iff.mp H
     obtain ⟨t533, A890, H⟩ := H
     replace H : (if t533 = true then (some true) else (some false)) = some r := H
     have A89 := Aside0.mk A890
     clear A890
     by_cases c90 : t533 = true
     ·subst c90
      have H1 : (some true) = some r := by rw [if_pos rfl] at H; exact H
      clear H
      have H := H1
      clear H1
      obtain rfl := Option.some.inj H
      go_wp2_with ((with_reducible refine gw_ ?_); first | (refine gl_ 51 Try.func16 #[.slice A1 l1.length c1] ?_; (with_reducible refine (laws_toIntS.calls kj10 _ _ l1 t530 _ ?side1 ?side2 A88.out).mono ?_); (case side1 => repeat (first | exact (Kd.C_below HR1.out HB.out) | (with_reducible refine Kd.C_alloc ?_ _) | (with_reducible refine Kd.C_drewN ?_ _) | (with_reducible refine Kd.C_drew ?_))); (case side2 => exact HC1.out); rintro e w91 ⟨v531, rfl, ho0, hb⟩; refine ⟨_, rfl, ?_⟩; have HO532 := Aside0.mk (Kd.R_lower (Kd.R_new' ho0 (Kd.R_lt (kr_ HO_8.out))) (below_size (hb5_ HB.out GE501.out GE513.out GE514.out GE526.out GE527.out))); replace HO_8 := Aside0.mk (Kd.R_elder' (kr_ HO_8.out) (Kd.R_base ho0) hb); replace BK501 := BK501.bb hb; replace BK513 := BK513.bb hb; replace BK514 := BK514.bb hb; replace BK526 := BK526.bb hb; replace BK527 := BK527.bb hb; replace HB := HB.s5 GE501 GE513 GE514 GE526 GE527 hb; (try clear hb); (try clear ho0); obtain ⟨Ao92, co92, eo92⟩ := Kd.R_slice HO532.out; subst eo92) | (refine gl_ 52 Try.func18 #[.slice Ao28 t515.length co28, .slice Ao92 t530.length co92] ?_; (with_reducible refine (laws_eqIntS.calls kj10 _ _ t515 _ _ t530 true _ ?side1 ?side2 ?side3 ?side4 A89.out).mono ?_); (case side1 => repeat (first | exact (Kd.R_reads' HO_8.out).2.2 | (with_reducible refine Kd.C_alloc ?_ _) | (with_reducible refine Kd.C_drewN ?_ _) | (with_reducible refine Kd.C_drew ?_))); (case side2 => exact (Kd.R_reads' HO_8.out).2.1); (case side3 => repeat (first | exact (Kd.R_reads' HO532.out).2.2 | (with_reducible refine Kd.C_alloc ?_ _) | (with_reducible refine Kd.C_drewN ?_ _) | (with_reducible refine Kd.C_drew ?_))); (case side4 => exact (Kd.R_reads' HO532.out).2.1); rintro e w' ⟨rfl, ⟨nd, rfl⟩⟩; refine ⟨_, rfl, ?_⟩))
      go_ret
      exact ⟨ex_, hb5_ HB.out GE501.out GE513.out GE514.out GE526.out GE527.out⟩
     ·replace c90 := Bool.eq_false_iff.mpr c90
      subst c90
      have H1 : (some false) = some r := by rw [if_neg (show ¬ (false = true) by decide)] at H; exact H
      clear H
      have H := H1
      clear H1
      obtain rfl := Option.some.inj H
      go_wp2_with ((with_reducible refine gw_ ?_); first | (refine gl_ 51 Try.func16 #[.slice A1 l1.length c1] ?_; (with_reducible refine (laws_toIntS.calls kj10 _ _ l1 t530 _ ?side1 ?side2 A88.out).mono ?_); (case side1 => repeat (first | exact (Kd.C_below HR1.out HB.out) | (with_reducible refine Kd.C_alloc ?_ _) | (with_reducible refine Kd.C_drewN ?_ _) | (with_reducible refine Kd.C_drew ?_))); (case side2 => exact HC1.out); rintro e w93 ⟨v531, rfl, ho0, hb⟩; refine ⟨_, rfl, ?_⟩; have HO532 := Aside0.mk (Kd.R_lower (Kd.R_new' ho0 (Kd.R_lt (kr_ HO_8.out))) (below_size (hb5_ HB.out GE501.out GE513.out GE514.out GE526.out GE527.out))); replace HO_8 := Aside0.mk (Kd.R_elder' (kr_ HO_8.out) (Kd.R_base ho0) hb); replace BK501 := BK501.bb hb; replace BK513 := BK513.bb hb; replace BK514 := BK514.bb hb; replace BK526 := BK526.bb hb; replace BK527 := BK527.bb hb; replace HB := HB.s5 GE501 GE513 GE514 GE526 GE527 hb; (try clear hb); (try clear ho0); obtain ⟨Ao94, co94, eo94⟩ := Kd.R_slice HO532.out; subst eo94) | (refine gl_ 52 Try.func18 #[.slice Ao28 t515.length co28, .slice Ao94 t530.length co94] ?_; (with_reducible refine (laws_eqIntS.calls kj10 _ _ t515 _ _ t530 false _ ?side1 ?side2 ?side3 ?side4 A89.out).mono ?_); (case side1 => repeat (first | exact (Kd.R_reads' HO_8.out).2.2 | (with_reducible refine Kd.C_alloc ?_ _) | (with_reducible refine Kd.C_drewN ?_ _) | (with_reducible refine Kd.C_drew ?_))); (case side2 => exact (Kd.R_reads' HO_8.out).2.1); (case side3 => repeat (first | exact (Kd.R_reads' HO532.out).2.2 | (with_reducible refine Kd.C_alloc ?_ _) | (with_reducible refine Kd.C_drewN ?_ _) | (with_reducible refine Kd.C_drew ?_))); (case side4 => exact (Kd.R_reads' HO532.out).2.1); rintro e w' ⟨rfl, ⟨nd, rfl⟩⟩; refine ⟨_, rfl, ?_⟩))
      go_ret
      exact ⟨ex_, hb5_ HB.out GE501.out GE513.out GE514.out GE526.out GE527.out⟩

/-- THE ONE PURE STATEMENT of laws_FnExactFirstFailure: yours. -/
def laws_FnExactFirstFailure.Pure : Prop := ∀ (a0_0 : Int) (a0_1 : Int) (l1 : List Int), (Lit.int .i64 a0_0).wf = true → (Lit.int .i64 a0_1).wf = true → l1.length ≤ maxLen → l1.length * 8 ≤ 140737488351232 → (∀ x ∈ l1, (Lit.int .i64 x).wf = true) → ∃ k, laws_FnExactFirstFailure.f k a0_0 a0_1 l1 = some true
theorem laws_FnExactFirstFailure.walk (P : laws_FnExactFirstFailure.Pure) (a0_0 : Int) (a0_1 : Int) (a1 : Option Addr) (len1 cap1 : Nat) (z1 : List Int) (w : World) (w0_0 : (Lit.int .i64 a0_0).wf = true) (w0_1 : (Lit.int .i64 a0_1).wf = true) (w1 : (a1 = none ∧ len1 = 0 ∧ cap1 = 0 ∧ z1 = []) ∨ ∃ x, a1 = some x ∧ len1 ≤ cap1 ∧ cap1 ≤ maxLen ∧ z1.length = cap1 ∧ (∀ i, i < z1.length → w.cell? (x.add i) = some (.int .i64 (z1.getD i 0))) ∧ ∀ n ∈ z1, (Lit.int .i64 n).wf = true) (y1 : len1 * 8 ≤ 140737488351232) :
  Calls Try.prog 13 #[.agg #[.int .i64 a0_0, .int .i64 a0_1], .slice a1 len1 cap1] w fun e w' => e = .returned (.bool true) ∧ Below w.heap.size w w' := by
 obtain ⟨l1, rfl, hr1, hm1, hw1, hc1⟩ := ReadsInt.ofRowC w1
 obtain ⟨k, h⟩ := P a0_0 a0_1 l1 w0_0 w0_1 hm1 y1 hw1
 refine (laws_FnExactFirstFailure.calls k a0_0 a0_1 _ _ l1 true w (Kd.C_of_reads (d := (0 : Int)) (h1 := fun _ => rfl) hr1) hc1 h).mono ?_
 rintro e w' ⟨rfl, hd⟩
 exact ⟨rfl, hd⟩

end Go.Proofs.Ytmcllgonjlapoaa.X
