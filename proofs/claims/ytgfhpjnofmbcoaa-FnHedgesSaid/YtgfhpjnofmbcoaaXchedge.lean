-- Written by a program of this session (xprint.py), out of the translation and of hand-written contracts. Lean checks it.
import Derived.Test.YtgfhpjnofmbcoaaX0
import Derived.Test.YtgfhpjnofmbcoaaXcgrid
import Derived.Test.YtgfhpjnofmbcoaaXchof
import Derived.Test.YtgfhpjnofmbcoaaXcmaze
namespace Go.Proofs.Ytgfhpjnofmbcoaa.X
open Go.RowKit Go.Proofs.YtgfhpjnofmbcoaaW.PrintWords Go.Proofs.YtgfhpjnofmbcoaaW.PrintLast Go.Proofs.YtgfhpjnofmbcoaaW.PrintMore
attribute [local go_sem] max2_int min2_int max_two min_two max_three min_three max_four min_four   -- for this text's walks alone
set_option linter.unusedVariables false
set_option linter.unusedSimpArgs false

/-! ### impl_copyHedge: function 18 -/
def impl_copyHedge.f (a0_0 : Int) (a0_1 : Int) (a0_2 : Int) (l0_3 : List Int) (a0_4 : Int) : Option (Int × Int × Int × List Int × Int) := (slices_Clone_int_int.f l0_3).bind fun t503 => (some (a0_0, a0_1, a0_2, t503, a0_4))
set_option maxHeartbeats 8000000 in
set_option maxRecDepth 100000 in
theorem impl_copyHedge.calls (a0_0 : Int) (a0_1 : Int) (a0_2 : Int) (A0_3 : Option Addr) (c0_3 : Nat) (l0_3 : List Int) (a0_4 : Int) (r1 : Int) (r2 : Int) (r3 : Int) (r4 : List Int) (r5 : Int) (w : World) (hr0_3 : Kd.C (Kd.int .i64) w A0_3 l0_3.length l0_3) (hc0_3 : l0_3.length ≤ c0_3) (h : impl_copyHedge.f a0_0 a0_1 a0_2 l0_3 a0_4 = some (r1, r2, r3, r4, r5)) :
  Calls Try.prog 18 #[.agg #[.int .i64 a0_0, .int .i64 a0_1, .int .i64 a0_2, .slice A0_3 l0_3.length c0_3, .int .i64 a0_4]] w fun e w' => ∃ v3_ : Value, e = .returned (.agg #[.int .i64 r1, .int .i64 r2, .int .i64 r3, v3_, .int .i64 r5]) ∧ Kd.R (Kd.int .i64) 3 w' w.heap.size (fun _ => True) v3_ r4 ∧ Below w.heap.size w w' := by
 have hu30 := Try.underlying30
 have HR0_3 := Aside0.mk hr0_3
 have HC0_3 := Aside0.mk hc0_3
 clear hr0_3 hc0_3
 have HB := Aside0.mk (Below.refl w.heap.size w)
 have H : ((slices_Clone_int_int.f l0_3).bind fun t503 => (some (a0_0, a0_1, a0_2, t503, a0_4))) = some (r1, r2, r3, r4, r5) := h
 clear h
 replace H := Option.bind_eq_some_iff.mp H
 obtain ⟨t503, A20, H⟩ := H
 replace H : (some (a0_0, a0_1, a0_2, t503, a0_4)) = some (r1, r2, r3, r4, r5) := H
 have A2 := Aside0.mk A20
 clear A20
 simp only [Option.some.injEq, Prod.mk.injEq] at H
 obtain ⟨rfl, rfl, rfl, rfl, rfl⟩ := H
 go_enter Try.func18, Try.ntmps18
 go_wp2_with ((with_reducible refine gw_ ?_); first | (refine box_ (N := 1) (cs := #[.int .i64 a0_0, .int .i64 a0_1, .int .i64 a0_2, .slice A0_3 l0_3.length c0_3, .int .i64 a0_4]) (t := 30) ?_; intro gb501 hg w3 hbox hb; have BK501 := Aside0.mk (hbox); have GW501 := HB.g0 hg; have GE501 := HB.g0 hg; replace HB := HB.s0 hb; clear hb hbox hg) | (refine box_ (N := 2) (cs := #[.int .i64 0, .int .i64 0, .int .i64 0, .slice none 0 0, .int .i64 0]) (t := 30) ?_; intro gb502 hg w4 hbox hb; have BK502 := Aside0.mk (hbox); have GW502 := HB.g1 GE501 hg; have GE502 := HB.g1 GE501 hg; replace HB := HB.s1 GE501 hb; have NB501_502 := BK501.nl hg; have NB502_501 := BK501.nr hg; replace BK501 := BK501.bb hb; clear hb hbox hg; have hnb5 := NB501_502.out; have hnc5 := NB502_501.out; obtain ⟨hcz6_0, hcz6_1, hcz6_2, hcz6_3, hcz6_4⟩ := cz5_ BK501.out; obtain ⟨hfz6_0, hfz6_1, hfz6_2, hfz6_3, hfz6_4⟩ := fz5_ BK501.out) | (refine gl_ 5 Try.func32 #[.slice A0_3 l0_3.length c0_3] ?_; (with_reducible refine (slices_Clone_int_int.calls _ _ l0_3 t503 _ ?side1 ?side2 A2.out).mono ?_); (case side1 => repeat (first | exact (Kd.C_below HR0_3.out HB.out) | (with_reducible refine Kd.C_alloc ?_ _) | (with_reducible refine Kd.C_drewN ?_ _) | (with_reducible refine Kd.C_drew ?_))); (case side2 => exact HC0_3.out); rintro e w7 ⟨v504, rfl, ho0, hb⟩; refine ⟨_, rfl, ?_⟩; have HO505 := Aside0.mk (Kd.R_lower ho0 (below_size (hb2_ HB.out GE501.out GE502.out))); replace BK501 := BK501.bb hb; replace BK502 := BK502.bb hb; replace HB := HB.s2 GE501 GE502 hb; (try clear hb); (try clear ho0); obtain ⟨Ao8, co8, eo8⟩ := Kd.R_slice HO505.out; subst eo8; obtain ⟨hcz9_0, hcz9_1, hcz9_2, hcz9_3, hcz9_4⟩ := cz5_ BK501.out; obtain ⟨hfz9_0, hfz9_1, hfz9_2, hfz9_3, hfz9_4⟩ := fz5_ BK501.out; obtain ⟨hcz10_0, hcz10_1, hcz10_2, hcz10_3, hcz10_4⟩ := cz5_ BK502.out; obtain ⟨hfz10_0, hfz10_1, hfz10_2, hfz10_3, hfz10_4⟩ := fz5_ BK502.out))
 refine bodyPost_ret (results_cell_row rfl _ _ gb502 30 #[.int .i64 a0_0, .int .i64 a0_1, .int .i64 a0_2, .slice Ao8 t503.length co8, .int .i64 a0_4] (0, 0) _ rfl (by (with_reducible repeat (first | refine blk_drewN ?_ _ | refine blk_drew ?_ | refine blk_alloc ?_ _)); refine blk_put (cs := #[.int .i64 a0_0, .int .i64 a0_1, .int .i64 a0_2, .slice Ao8 t503.length co8, .int .i64 0]) ?_ 4 _ rfl; (with_reducible repeat (first | refine blk_drewN ?_ _ | refine blk_drew ?_ | refine blk_alloc ?_ _)); refine blk_put (cs := #[.int .i64 a0_0, .int .i64 a0_1, .int .i64 a0_2, .slice none 0 0, .int .i64 0]) ?_ 3 _ rfl; (with_reducible repeat (first | refine blk_drewN ?_ _ | refine blk_drew ?_ | refine blk_alloc ?_ _)); refine blk_put (cs := #[.int .i64 a0_0, .int .i64 a0_1, .int .i64 0, .slice none 0 0, .int .i64 0]) ?_ 2 _ rfl; (with_reducible repeat (first | refine blk_drewN ?_ _ | refine blk_drew ?_ | refine blk_alloc ?_ _)); refine blk_put (cs := #[.int .i64 a0_0, .int .i64 0, .int .i64 0, .slice none 0 0, .int .i64 0]) ?_ 1 _ rfl; (with_reducible repeat (first | refine blk_drewN ?_ _ | refine blk_drew ?_ | refine blk_alloc ?_ _)); refine blk_put (cs := #[.int .i64 0, .int .i64 0, .int .i64 0, .slice none 0 0, .int .i64 0]) ?_ 0 _ rfl; (with_reducible repeat (first | refine blk_drewN ?_ _ | refine blk_drew ?_ | refine blk_alloc ?_ _)); refine blk_far ?_ NB502_501.out _; (with_reducible repeat (first | refine blk_drewN ?_ _ | refine blk_drew ?_ | refine blk_alloc ?_ _)); exact BK502.out) Try.underlying30 rfl (by kernel_rfl)) rfl ?_
 exact ⟨_, ex_, by (with_reducible repeat (first | apply Kd.R_alloc | apply Kd.R_drewN | apply Kd.R_drew)); exact Kd.R_mono (Kd.R_far (p := ⟨gb502, 4, none⟩) (Kd.R_far (p := ⟨gb502, 3, none⟩) (Kd.R_far (p := ⟨gb502, 2, none⟩) (Kd.R_far (p := ⟨gb502, 1, none⟩) (Kd.R_far (p := ⟨gb502, 0, none⟩) (Kd.R_far (p := ⟨gb501, 3, none⟩) (Kd.R_types (Kd.R_types HO505.out BK501.out (by decide)) BK502.out (by decide)) (fun _ hk => hk.1.2) (.slice Ao8 t503.length co8)) (fun _ hk => hk.2) (.int .i64 a0_0)) (fun _ hk => hk.2) (.int .i64 a0_1)) (fun _ hk => hk.2) (.int .i64 a0_2)) (fun _ hk => hk.2) (.slice Ao8 t503.length co8)) (fun _ hk => hk.2) (.int .i64 a0_4)) (fun _ hk => trivial), hb2_ HB.out GE501.out GE502.out⟩

/-! ### impl_HedgeOk_1: function 35 (by hand) -/
set_option maxHeartbeats 1000000 in
theorem impl_HedgeOk_1.calls (x : Int) (w : World) :
  Calls Try.prog 35 #[.int .i64 x] w fun e w' => e = .returned (.bool (decide (x < 0) || decide (x > 1000))) ∧ w' = w := by
 by_cases c : x < 0
 ·go_enter Try.func35, Try.ntmps35
  go_wp2
  go_ret
  exact ⟨by simp <;> omega, rfl⟩
 ·by_cases d : 1000 < x
  all_goals
   go_enter Try.func35, Try.ntmps35
   go_wp2
   go_ret
   exact ⟨by simp <;> omega, rfl⟩
def contains_HedgeOk.f (l0 : List Int) : Option Bool := some (l0.any fun x => decide (x < 0) || decide (x > 1000))
theorem contains_HedgeOk.calls (A0 : Option Addr) (c0 : Nat) (l0 : List Int) (r : Bool) (w : World) (hr0 : Kd.C (Kd.int .i64) w A0 l0.length l0) (hc0 : l0.length ≤ c0) (h : contains_HedgeOk.f l0 = some r) :
  Calls Try.prog 34 #[.slice A0 l0.length c0, .func (.func 35) #[] #[]] w fun e w' => e = .returned (.bool r) ∧ Below w.heap.size w w' := by
 obtain rfl := Option.some.inj h
 refine slices_ContainsFunc.gen (fun x => decide (x < 0) || decide (x > 1000)) 35 #[] (enters_of Try.func35 (by kernel_rfl) rfl) A0 c0 l0 w hr0 (fun W x hW hx => ?_)
 refine (impl_HedgeOk_1.calls x W).mono ?_
 rintro e w' ⟨rfl, rfl⟩
 exact ⟨rfl, hW⟩

/-! ### impl_HedgeOk: function 19 -/
def impl_HedgeOk.f (a0_0 : Int) (a0_1 : Int) (a0_2 : Int) (l0_3 : List Int) (a0_4 : Int) : Option (Bool) := (impl_MazeOk.f a0_0 a0_1 a0_2).bind fun t502 => (if t502 = true then (if a0_4 < 1 then (some false) else (if a0_4 > 20 then (some false) else ((impl_CountGaps.f a0_0 a0_1).bind fun t503 => (if (l0_3.length : Int) = t503 then ((contains_HedgeOk.f l0_3).bind fun t504 => (some (!t504))) else (some false))))) else (some false))
def impl_HedgeOk.T1 : Bool × List (List Nat × List Nat) := (true, [([], []), ([0], [0]), ([1], [1]), ([2], [2]), ([3, 2], [3]), ([4], [4]), ([5, 4], [4, 5]), ([6, 4], [4, 6]), ([4, 7], [4, 7]), ([8, 4], [8]), ([9], [9]), ([10, 9], [9, 10]), ([11, 9], [9, 11]), ([9, 12], [9, 12]), ([13, 9], [13]), ([14], [14]), ([15, 14], [14, 15]), ([16, 14], [14, 16]), ([14], [14]), ([18, 14], [14, 18]), ([19, 14], [14, 19]), ([20, 14, 14], [14, 20]), ([17, 21, 14], [14, 17, 21]), ([14, 22], [14, 22])])
def impl_HedgeOk.B1 : List Nat := [0, 1, 3, 7, 15, 31, 63, 127, 255, 511, 1023, 2047, 4095, 8191, 16383, 32767, 65535, 131071, 32767, 294911, 819199, 1867775, 4194303, 8388607]
theorem impl_HedgeOk.tab1 : rtab .any (opsOf Try.f19 1) = impl_HedgeOk.T1 := by kernel_rfl
theorem impl_HedgeOk.bits1 : waitsOk impl_HedgeOk.T1.2 impl_HedgeOk.B1 = true := by kernel_rfl
set_option maxHeartbeats 8000000 in
set_option maxRecDepth 100000 in
theorem impl_HedgeOk.calls (a0_0 : Int) (a0_1 : Int) (a0_2 : Int) (A0_3 : Option Addr) (c0_3 : Nat) (l0_3 : List Int) (a0_4 : Int) (r : Bool) (w : World) (hr0_3 : Kd.C (Kd.int .i64) w A0_3 l0_3.length l0_3) (hc0_3 : l0_3.length ≤ c0_3) (h : impl_HedgeOk.f a0_0 a0_1 a0_2 l0_3 a0_4 = some r) :
  Calls Try.prog 19 #[.agg #[.int .i64 a0_0, .int .i64 a0_1, .int .i64 a0_2, .slice A0_3 l0_3.length c0_3, .int .i64 a0_4]] w fun e w' => e = .returned (.bool r) ∧ Below w.heap.size w w' := by
 have hu30 := Try.underlying30
 have hu27 := Try.underlying27
 have hu25 := Try.underlying25
 have HR0_3 := Aside0.mk hr0_3
 have HC0_3 := Aside0.mk hc0_3
 clear hr0_3 hc0_3
 have HB := Aside0.mk (Below.refl w.heap.size w)
 have H : ((impl_MazeOk.f a0_0 a0_1 a0_2).bind fun t502 => (if t502 = true then (if a0_4 < 1 then (some false) else (if a0_4 > 20 then (some false) else ((impl_CountGaps.f a0_0 a0_1).bind fun t503 => (if (l0_3.length : Int) = t503 then ((contains_HedgeOk.f l0_3).bind fun t504 => (some (!t504))) else (some false))))) else (some false))) = some r := h
 clear h
 replace H := Option.bind_eq_some_iff.mp H
 obtain ⟨t502, A20, H⟩ := H
 replace H : (if t502 = true then (if a0_4 < 1 then (some false) else (if a0_4 > 20 then (some false) else ((impl_CountGaps.f a0_0 a0_1).bind fun t503 => (if (l0_3.length : Int) = t503 then ((contains_HedgeOk.f l0_3).bind fun t504 => (some (!t504))) else (some false))))) else (some false)) = some r := H
 have A2 := Aside0.mk A20
 clear A20
 by_cases c3 : t502 = true
 ·subst c3
  have H1 : (if a0_4 < 1 then (some false) else (if a0_4 > 20 then (some false) else ((impl_CountGaps.f a0_0 a0_1).bind fun t503 => (if (l0_3.length : Int) = t503 then ((contains_HedgeOk.f l0_3).bind fun t504 => (some (!t504))) else (some false))))) = some r := by rw [if_pos rfl] at H; exact H
  clear H
  have H := H1
  clear H1
  by_cases c4 : a0_4 < 1
  ·rw [if_pos c4] at H
   have c4b0 : decide (a0_4 < 1) = true := decide_eq_true c4
   clear c4
   obtain rfl := Option.some.inj H
   go_enter Try.func19, Try.ntmps19
   try go_wp2_with ((with_reducible refine gw_ ?_); first | ((with_reducible refine gate_dst (N := 1) rfl ?_); (try (refine gate_guard (by rfl) ?_; dsimp only)); refine box_event ?hg (N := 1) ?hd (cs := #[.int .i64 a0_0, .int .i64 a0_1, .int .i64 a0_2, .slice A0_3 l0_3.length c0_3, .int .i64 a0_4]) (t := 30) ?hr ?_; (case hd => rfl); (case hg => rfl); (case hr => first | (go_simp; done) | (go_simp; rfl)); intro gb501 hg w5 hbox hb; have BK501 := Aside0.mk (hbox); have GW501 := HB.g0 hg; have GE501 := HB.g0 hg; replace HB := HB.s0 hb; clear hb hbox hg))
   replace BK501 := Aside0.mk (blk_drew BK501.out)
   replace HB := Aside0.mk (below_drew1 HB.out)
   refine start_ (n := 24) (S := fun w' => w'.cell? ⟨gb501, 0, none⟩ = some (.int .i64 a0_0) ∧ w'.cell? ⟨gb501, 1, none⟩ = some (.int .i64 a0_1) ∧ w'.cell? ⟨gb501, 2, none⟩ = some (.int .i64 a0_2) ∧ w'.cell? ⟨gb501, 3, none⟩ = some (.slice A0_3 l0_3.length c0_3) ∧ w'.cell? ⟨gb501, 4, none⟩ = some (.int .i64 a0_4)) (ds := []) #[false, false, false, false, false, false, false, false, false, false, false, false, false, false, false, false, false, false, false, false, false, false, false, false] (by kernel_rfl) rfl rfl ⟨BK501.c 0, BK501.c 1, BK501.c 2, BK501.c 3, BK501.c 4⟩ (fun hHeld => ?_); refine with_tabW impl_HedgeOk.tab1 impl_HedgeOk.bits1 (fun HT_ HW_ => ?_)
   generalize w5.drew = w6 at BK501 HB hHeld ⊢
   refine pv_ (i := 0) (N := some 3) HT_.out ?_
   refine tv5_ (i := 1) (N := some 4) HT_.out HW_.out hHeld ?_
   refine ov_ (i := 2) (N := some 5) HT_.out (fun K hK => ?_)
   refine gq_ Try.func28 #[.agg #[.int .i64 a0_0, .int .i64 a0_1, .int .i64 a0_2]] ?_
   with_reducible refine (impl_MazeOk.calls a0_0 a0_1 a0_2 true _ A2.out).mono ?_
   rintro e w7 ⟨rfl, hb⟩
   refine ⟨_, rfl, ?_⟩
   replace BK501 := BK501.bb hb
   replace HB := HB.s1 GE501 hb
   skip
   (try clear hb2)
   (try clear hk)
   (try clear hi)
   refine hK.out _ _ ⟨BK501.c 0, BK501.c 1, BK501.c 2, BK501.c 3, BK501.c 4⟩ (fun hHeld => ?_)
   clear hK K
   refine nm_ ?_
   refine pv_ (i := 3) (N := some 6) HT_.out ?_
   refine pv_ (i := 4) (N := some 7) HT_.out ?_
   refine pv_ (i := 5) (N := some 8) HT_.out ?_
   refine tv5_ (i := 6) (N := some 9) HT_.out HW_.out hHeld ?_
   refine pv_ (i := 7) (N := some 10) HT_.out ?_
   refine pv_ (i := 8) (N := some 11) HT_.out ?_
   refine pv_ (i := 9) (N := some 12) HT_.out ?_
   refine pu_ (i := 10) (N := some 13) HT_.out ?_
   refine pu_ (i := 11) (N := some 14) HT_.out ?_
   refine pu_ (i := 12) (N := some 15) HT_.out ?_
   refine pv_ (i := 13) (N := some 16) HT_.out ?_
   refine pv_ (i := 14) (N := some 17) HT_.out ?_
   refine pu_ (i := 15) (N := some 18) HT_.out ?_
   refine pu_ (i := 16) (N := some 19) HT_.out ?_
   refine pu_ (i := 17) (N := some 20) HT_.out ?_
   refine pu_ (i := 18) (N := some 21) HT_.out ?_
   refine pu_ (i := 19) (N := some 22) HT_.out ?_
   refine pu_ (i := 20) (N := some 23) HT_.out ?_
   refine pu_ (i := 21) (N := some 24) HT_.out ?_
   refine pu_ (i := 22) (N := some 25) HT_.out ?_
   refine pv_ (i := 23) (N := some 26) HT_.out ?_
   refine done_ (done_of HT_.out (by kernel_rfl)) ?_
   try go_wp2
   go_ret
   exact ⟨ex_, hb1_ HB.out GE501.out⟩
  ·rw [if_neg c4] at H
   have c4b0 : decide (a0_4 < 1) = false := decide_eq_false c4
   clear c4
   by_cases c8 : a0_4 > 20
   ·rw [if_pos c8] at H
    have c8b0 : decide (20 < a0_4) = true := decide_eq_true c8
    clear c8
    obtain rfl := Option.some.inj H
    go_enter Try.func19, Try.ntmps19
    try go_wp2_with ((with_reducible refine gw_ ?_); first | ((with_reducible refine gate_dst (N := 1) rfl ?_); (try (refine gate_guard (by rfl) ?_; dsimp only)); refine box_event ?hg (N := 1) ?hd (cs := #[.int .i64 a0_0, .int .i64 a0_1, .int .i64 a0_2, .slice A0_3 l0_3.length c0_3, .int .i64 a0_4]) (t := 30) ?hr ?_; (case hd => rfl); (case hg => rfl); (case hr => first | (go_simp; done) | (go_simp; rfl)); intro gb501 hg w9 hbox hb; have BK501 := Aside0.mk (hbox); have GW501 := HB.g0 hg; have GE501 := HB.g0 hg; replace HB := HB.s0 hb; clear hb hbox hg))
    replace BK501 := Aside0.mk (blk_drew BK501.out)
    replace HB := Aside0.mk (below_drew1 HB.out)
    refine start_ (n := 24) (S := fun w' => w'.cell? ⟨gb501, 0, none⟩ = some (.int .i64 a0_0) ∧ w'.cell? ⟨gb501, 1, none⟩ = some (.int .i64 a0_1) ∧ w'.cell? ⟨gb501, 2, none⟩ = some (.int .i64 a0_2) ∧ w'.cell? ⟨gb501, 3, none⟩ = some (.slice A0_3 l0_3.length c0_3) ∧ w'.cell? ⟨gb501, 4, none⟩ = some (.int .i64 a0_4)) (ds := []) #[false, false, false, false, false, false, false, false, false, false, false, false, false, false, false, false, false, false, false, false, false, false, false, false] (by kernel_rfl) rfl rfl ⟨BK501.c 0, BK501.c 1, BK501.c 2, BK501.c 3, BK501.c 4⟩ (fun hHeld => ?_); refine with_tabW impl_HedgeOk.tab1 impl_HedgeOk.bits1 (fun HT_ HW_ => ?_)
    generalize w9.drew = w10 at BK501 HB hHeld ⊢
    refine pv_ (i := 0) (N := some 3) HT_.out ?_
    refine tv5_ (i := 1) (N := some 4) HT_.out HW_.out hHeld ?_
    refine ov_ (i := 2) (N := some 5) HT_.out (fun K hK => ?_)
    refine gq_ Try.func28 #[.agg #[.int .i64 a0_0, .int .i64 a0_1, .int .i64 a0_2]] ?_
    with_reducible refine (impl_MazeOk.calls a0_0 a0_1 a0_2 true _ A2.out).mono ?_
    rintro e w11 ⟨rfl, hb⟩
    refine ⟨_, rfl, ?_⟩
    replace BK501 := BK501.bb hb
    replace HB := HB.s1 GE501 hb
    skip
    (try clear hb2)
    (try clear hk)
    (try clear hi)
    refine hK.out _ _ ⟨BK501.c 0, BK501.c 1, BK501.c 2, BK501.c 3, BK501.c 4⟩ (fun hHeld => ?_)
    clear hK K
    refine nm_ ?_
    refine pv_ (i := 3) (N := some 6) HT_.out ?_
    refine pv_ (i := 4) (N := some 7) HT_.out ?_
    refine pv_ (i := 5) (N := some 8) HT_.out ?_
    refine tv5_ (i := 6) (N := some 9) HT_.out HW_.out hHeld ?_
    refine pv_ (i := 7) (N := some 10) HT_.out ?_
    refine pv_ (i := 8) (N := some 11) HT_.out ?_
    refine pv_ (i := 9) (N := some 12) HT_.out ?_
    refine pv_ (i := 10) (N := some 13) HT_.out ?_
    refine tv5_ (i := 11) (N := some 14) HT_.out HW_.out hHeld ?_
    refine pv_ (i := 12) (N := some 15) HT_.out ?_
    refine pv_ (i := 13) (N := some 16) HT_.out ?_
    refine pv_ (i := 14) (N := some 17) HT_.out ?_
    refine pu_ (i := 15) (N := some 18) HT_.out ?_
    refine pu_ (i := 16) (N := some 19) HT_.out ?_
    refine pu_ (i := 17) (N := some 20) HT_.out ?_
    refine pu_ (i := 18) (N := some 21) HT_.out ?_
    refine pu_ (i := 19) (N := some 22) HT_.out ?_
    refine pu_ (i := 20) (N := some 23) HT_.out ?_
    refine pu_ (i := 21) (N := some 24) HT_.out ?_
    refine pu_ (i := 22) (N := some 25) HT_.out ?_
    refine pv_ (i := 23) (N := some 26) HT_.out ?_
    refine done_ (done_of HT_.out (by kernel_rfl)) ?_
    try go_wp2
    go_ret
    exact ⟨ex_, hb1_ HB.out GE501.out⟩
   ·rw [if_neg c8] at H
    have c8b0 : decide (20 < a0_4) = false := decide_eq_false c8
    clear c8
    replace H := Option.bind_eq_some_iff.mp H
    obtain ⟨t503, A120, H⟩ := H
    replace H : (if (l0_3.length : Int) = t503 then ((contains_HedgeOk.f l0_3).bind fun t504 => (some (!t504))) else (some false)) = some r := H
    have A12 := Aside0.mk A120
    clear A120
    by_cases c13 : (l0_3.length : Int) = t503
    ·rw [if_pos c13] at H
     have c13b0 : ((l0_3.length : Int) == t503) = true := beq_iff_eq.mpr c13
     have c13b1 : ((l0_3.length : Int) != t503) = false := bne_eq_false_iff_eq.mpr c13
     clear c13
     replace H := Option.bind_eq_some_iff.mp H
     obtain ⟨t504, A140, H⟩ := H
     replace H : (some (!t504)) = some r := H
     have A14 := Aside0.mk A140
     clear A140
     obtain rfl := Option.some.inj H
     go_enter Try.func19, Try.ntmps19
     try go_wp2_with ((with_reducible refine gw_ ?_); first | ((with_reducible refine gate_dst (N := 1) rfl ?_); (try (refine gate_guard (by rfl) ?_; dsimp only)); refine box_event ?hg (N := 1) ?hd (cs := #[.int .i64 a0_0, .int .i64 a0_1, .int .i64 a0_2, .slice A0_3 l0_3.length c0_3, .int .i64 a0_4]) (t := 30) ?hr ?_; (case hd => rfl); (case hg => rfl); (case hr => first | (go_simp; done) | (go_simp; rfl)); intro gb501 hg w15 hbox hb; have BK501 := Aside0.mk (hbox); have GW501 := HB.g0 hg; have GE501 := HB.g0 hg; replace HB := HB.s0 hb; clear hb hbox hg))
     replace BK501 := Aside0.mk (blk_drew BK501.out)
     replace HB := Aside0.mk (below_drew1 HB.out)
     refine start_ (n := 24) (S := fun w' => w'.cell? ⟨gb501, 0, none⟩ = some (.int .i64 a0_0) ∧ w'.cell? ⟨gb501, 1, none⟩ = some (.int .i64 a0_1) ∧ w'.cell? ⟨gb501, 2, none⟩ = some (.int .i64 a0_2) ∧ w'.cell? ⟨gb501, 3, none⟩ = some (.slice A0_3 l0_3.length c0_3) ∧ w'.cell? ⟨gb501, 4, none⟩ = some (.int .i64 a0_4)) (ds := []) #[false, false, false, false, false, false, false, false, false, false, false, false, false, false, false, false, false, false, false, false, false, false, false, false] (by kernel_rfl) rfl rfl ⟨BK501.c 0, BK501.c 1, BK501.c 2, BK501.c 3, BK501.c 4⟩ (fun hHeld => ?_); refine with_tabW impl_HedgeOk.tab1 impl_HedgeOk.bits1 (fun HT_ HW_ => ?_)
     generalize w15.drew = w16 at BK501 HB hHeld ⊢
     refine pv_ (i := 0) (N := some 3) HT_.out ?_
     refine tv5_ (i := 1) (N := some 4) HT_.out HW_.out hHeld ?_
     refine ov_ (i := 2) (N := some 5) HT_.out (fun K hK => ?_)
     refine gq_ Try.func28 #[.agg #[.int .i64 a0_0, .int .i64 a0_1, .int .i64 a0_2]] ?_
     with_reducible refine (impl_MazeOk.calls a0_0 a0_1 a0_2 true _ A2.out).mono ?_
     rintro e w17 ⟨rfl, hb⟩
     refine ⟨_, rfl, ?_⟩
     replace BK501 := BK501.bb hb
     replace HB := HB.s1 GE501 hb
     skip
     (try clear hb2)
     (try clear hk)
     (try clear hi)
     refine hK.out _ _ ⟨BK501.c 0, BK501.c 1, BK501.c 2, BK501.c 3, BK501.c 4⟩ (fun hHeld => ?_)
     clear hK K
     refine nm_ ?_
     refine pv_ (i := 3) (N := some 6) HT_.out ?_
     refine pv_ (i := 4) (N := some 7) HT_.out ?_
     refine pv_ (i := 5) (N := some 8) HT_.out ?_
     refine tv5_ (i := 6) (N := some 9) HT_.out HW_.out hHeld ?_
     refine pv_ (i := 7) (N := some 10) HT_.out ?_
     refine pv_ (i := 8) (N := some 11) HT_.out ?_
     refine pv_ (i := 9) (N := some 12) HT_.out ?_
     refine pv_ (i := 10) (N := some 13) HT_.out ?_
     refine tv5_ (i := 11) (N := some 14) HT_.out HW_.out hHeld ?_
     refine pv_ (i := 12) (N := some 15) HT_.out ?_
     refine pv_ (i := 13) (N := some 16) HT_.out ?_
     refine pv_ (i := 14) (N := some 17) HT_.out ?_
     refine pv_ (i := 15) (N := some 18) HT_.out ?_
     refine pv_ (i := 18) (N := some 21) HT_.out ?_
     refine pv_ (i := 19) (N := some 22) HT_.out ?_
     refine tv5_ (i := 16) (N := some 19) HT_.out HW_.out hHeld ?_
     refine pv_ (i := 17) (N := some 20) HT_.out ?_
     refine tv5_ (i := 20) (N := some 23) HT_.out HW_.out hHeld ?_
     refine ov_ (i := 21) (N := some 24) HT_.out (fun K hK => ?_)
     refine gq_ Try.func33 #[.agg #[.int .i64 a0_0, .int .i64 a0_1]] ?_
     with_reducible refine (impl_CountGaps.calls a0_0 a0_1 t503 _ A12.out).mono ?_
     rintro e w18 ⟨rfl, hb⟩
     refine ⟨_, rfl, ?_⟩
     replace BK501 := BK501.bb hb
     replace HB := HB.s1 GE501 hb
     skip
     (try clear hb2)
     (try clear hk)
     (try clear hi)
     refine hK.out _ _ ⟨BK501.c 0, BK501.c 1, BK501.c 2, BK501.c 3, BK501.c 4⟩ (fun hHeld => ?_)
     clear hK K
     refine nm_ ?_
     refine pv_ (i := 22) (N := some 25) HT_.out ?_
     refine pv_ (i := 23) (N := some 26) HT_.out ?_
     refine done_ (done_of HT_.out (by kernel_rfl)) ?_
     obtain ⟨hcz19_0, hcz19_1, hcz19_2, hcz19_3, hcz19_4⟩ := cz5_ BK501.out
     obtain ⟨hfz19_0, hfz19_1, hfz19_2, hfz19_3, hfz19_4⟩ := fz5_ BK501.out
     try go_wp2_with ((with_reducible refine gw_ ?_); first | (refine gl_ 29 Try.func34 #[.slice A0_3 l0_3.length c0_3, .func (.func 35) #[] #[]] ?_; (with_reducible refine (contains_HedgeOk.calls _ _ l0_3 t504 _ ?side1 ?side2 A14.out).mono ?_); (case side1 => repeat (first | exact (Kd.C_below HR0_3.out HB.out) | (with_reducible refine Kd.C_alloc ?_ _) | (with_reducible refine Kd.C_drewN ?_ _) | (with_reducible refine Kd.C_drew ?_))); (case side2 => exact HC0_3.out); rintro e w20 ⟨rfl, hb⟩; refine ⟨_, rfl, ?_⟩; replace BK501 := BK501.bb hb; replace HB := HB.s1 GE501 hb; (try clear hb)))
     go_ret
     exact ⟨ex_, hb1_ HB.out GE501.out⟩
    ·rw [if_neg c13] at H
     have c13b0 : ((l0_3.length : Int) == t503) = false := beq_eq_false_iff_ne.mpr c13
     have c13b1 : ((l0_3.length : Int) != t503) = true := bne_iff_ne.mpr c13
     obtain rfl := Option.some.inj H
     go_enter Try.func19, Try.ntmps19
     try go_wp2_with ((with_reducible refine gw_ ?_); first | ((with_reducible refine gate_dst (N := 1) rfl ?_); (try (refine gate_guard (by rfl) ?_; dsimp only)); refine box_event ?hg (N := 1) ?hd (cs := #[.int .i64 a0_0, .int .i64 a0_1, .int .i64 a0_2, .slice A0_3 l0_3.length c0_3, .int .i64 a0_4]) (t := 30) ?hr ?_; (case hd => rfl); (case hg => rfl); (case hr => first | (go_simp; done) | (go_simp; rfl)); intro gb501 hg w21 hbox hb; have BK501 := Aside0.mk (hbox); have GW501 := HB.g0 hg; have GE501 := HB.g0 hg; replace HB := HB.s0 hb; clear hb hbox hg))
     replace BK501 := Aside0.mk (blk_drew BK501.out)
     replace HB := Aside0.mk (below_drew1 HB.out)
     refine start_ (n := 24) (S := fun w' => w'.cell? ⟨gb501, 0, none⟩ = some (.int .i64 a0_0) ∧ w'.cell? ⟨gb501, 1, none⟩ = some (.int .i64 a0_1) ∧ w'.cell? ⟨gb501, 2, none⟩ = some (.int .i64 a0_2) ∧ w'.cell? ⟨gb501, 3, none⟩ = some (.slice A0_3 l0_3.length c0_3) ∧ w'.cell? ⟨gb501, 4, none⟩ = some (.int .i64 a0_4)) (ds := []) #[false, false, false, false, false, false, false, false, false, false, false, false, false, false, false, false, false, false, false, false, false, false, false, false] (by kernel_rfl) rfl rfl ⟨BK501.c 0, BK501.c 1, BK501.c 2, BK501.c 3, BK501.c 4⟩ (fun hHeld => ?_); refine with_tabW impl_HedgeOk.tab1 impl_HedgeOk.bits1 (fun HT_ HW_ => ?_)
     generalize w21.drew = w22 at BK501 HB hHeld ⊢
     refine pv_ (i := 0) (N := some 3) HT_.out ?_
     refine tv5_ (i := 1) (N := some 4) HT_.out HW_.out hHeld ?_
     refine ov_ (i := 2) (N := some 5) HT_.out (fun K hK => ?_)
     refine gq_ Try.func28 #[.agg #[.int .i64 a0_0, .int .i64 a0_1, .int .i64 a0_2]] ?_
     with_reducible refine (impl_MazeOk.calls a0_0 a0_1 a0_2 true _ A2.out).mono ?_
     rintro e w23 ⟨rfl, hb⟩
     refine ⟨_, rfl, ?_⟩
     replace BK501 := BK501.bb hb
     replace HB := HB.s1 GE501 hb
     skip
     (try clear hb2)
     (try clear hk)
     (try clear hi)
     refine hK.out _ _ ⟨BK501.c 0, BK501.c 1, BK501.c 2, BK501.c 3, BK501.c 4⟩ (fun hHeld => ?_)
     clear hK K
     refine nm_ ?_
     refine pv_ (i := 3) (N := some 6) HT_.out ?_
     refine pv_ (i := 4) (N := some 7) HT_.out ?_
     refine pv_ (i := 5) (N := some 8) HT_.out ?_
     refine tv5_ (i := 6) (N := some 9) HT_.out HW_.out hHeld ?_
     refine pv_ (i := 7) (N := some 10) HT_.out ?_
     refine pv_ (i := 8) (N := some 11) HT_.out ?_
     refine pv_ (i := 9) (N := some 12) HT_.out ?_
     refine pv_ (i := 10) (N := some 13) HT_.out ?_
     refine tv5_ (i := 11) (N := some 14) HT_.out HW_.out hHeld ?_
     refine pv_ (i := 12) (N := some 15) HT_.out ?_
     refine pv_ (i := 13) (N := some 16) HT_.out ?_
     refine pv_ (i := 14) (N := some 17) HT_.out ?_
     refine pv_ (i := 15) (N := some 18) HT_.out ?_
     refine pv_ (i := 18) (N := some 21) HT_.out ?_
     refine pv_ (i := 19) (N := some 22) HT_.out ?_
     refine tv5_ (i := 16) (N := some 19) HT_.out HW_.out hHeld ?_
     refine pv_ (i := 17) (N := some 20) HT_.out ?_
     refine tv5_ (i := 20) (N := some 23) HT_.out HW_.out hHeld ?_
     refine ov_ (i := 21) (N := some 24) HT_.out (fun K hK => ?_)
     refine gq_ Try.func33 #[.agg #[.int .i64 a0_0, .int .i64 a0_1]] ?_
     with_reducible refine (impl_CountGaps.calls a0_0 a0_1 t503 _ A12.out).mono ?_
     rintro e w24 ⟨rfl, hb⟩
     refine ⟨_, rfl, ?_⟩
     replace BK501 := BK501.bb hb
     replace HB := HB.s1 GE501 hb
     skip
     (try clear hb2)
     (try clear hk)
     (try clear hi)
     refine hK.out _ _ ⟨BK501.c 0, BK501.c 1, BK501.c 2, BK501.c 3, BK501.c 4⟩ (fun hHeld => ?_)
     clear hK K
     refine nm_ ?_
     refine pv_ (i := 22) (N := some 25) HT_.out ?_
     refine pv_ (i := 23) (N := some 26) HT_.out ?_
     refine done_ (done_of HT_.out (by kernel_rfl)) ?_
     try go_wp2
     go_ret
     exact ⟨ex_, hb1_ HB.out GE501.out⟩
 ·replace c3 := Bool.eq_false_iff.mpr c3
  subst c3
  have H1 : (some false) = some r := by rw [if_neg (show ¬ (false = true) by decide)] at H; exact H
  clear H
  have H := H1
  clear H1
  obtain rfl := Option.some.inj H
  go_enter Try.func19, Try.ntmps19
  try go_wp2_with ((with_reducible refine gw_ ?_); first | ((with_reducible refine gate_dst (N := 1) rfl ?_); (try (refine gate_guard (by rfl) ?_; dsimp only)); refine box_event ?hg (N := 1) ?hd (cs := #[.int .i64 a0_0, .int .i64 a0_1, .int .i64 a0_2, .slice A0_3 l0_3.length c0_3, .int .i64 a0_4]) (t := 30) ?hr ?_; (case hd => rfl); (case hg => rfl); (case hr => first | (go_simp; done) | (go_simp; rfl)); intro gb501 hg w25 hbox hb; have BK501 := Aside0.mk (hbox); have GW501 := HB.g0 hg; have GE501 := HB.g0 hg; replace HB := HB.s0 hb; clear hb hbox hg))
  replace BK501 := Aside0.mk (blk_drew BK501.out)
  replace HB := Aside0.mk (below_drew1 HB.out)
  refine start_ (n := 24) (S := fun w' => w'.cell? ⟨gb501, 0, none⟩ = some (.int .i64 a0_0) ∧ w'.cell? ⟨gb501, 1, none⟩ = some (.int .i64 a0_1) ∧ w'.cell? ⟨gb501, 2, none⟩ = some (.int .i64 a0_2) ∧ w'.cell? ⟨gb501, 3, none⟩ = some (.slice A0_3 l0_3.length c0_3) ∧ w'.cell? ⟨gb501, 4, none⟩ = some (.int .i64 a0_4)) (ds := []) #[false, false, false, false, false, false, false, false, false, false, false, false, false, false, false, false, false, false, false, false, false, false, false, false] (by kernel_rfl) rfl rfl ⟨BK501.c 0, BK501.c 1, BK501.c 2, BK501.c 3, BK501.c 4⟩ (fun hHeld => ?_); refine with_tabW impl_HedgeOk.tab1 impl_HedgeOk.bits1 (fun HT_ HW_ => ?_)
  generalize w25.drew = w26 at BK501 HB hHeld ⊢
  refine pv_ (i := 0) (N := some 3) HT_.out ?_
  refine tv5_ (i := 1) (N := some 4) HT_.out HW_.out hHeld ?_
  refine ov_ (i := 2) (N := some 5) HT_.out (fun K hK => ?_)
  refine gq_ Try.func28 #[.agg #[.int .i64 a0_0, .int .i64 a0_1, .int .i64 a0_2]] ?_
  with_reducible refine (impl_MazeOk.calls a0_0 a0_1 a0_2 false _ A2.out).mono ?_
  rintro e w27 ⟨rfl, hb⟩
  refine ⟨_, rfl, ?_⟩
  replace BK501 := BK501.bb hb
  replace HB := HB.s1 GE501 hb
  skip
  (try clear hb2)
  (try clear hk)
  (try clear hi)
  refine hK.out _ _ ⟨BK501.c 0, BK501.c 1, BK501.c 2, BK501.c 3, BK501.c 4⟩ (fun hHeld => ?_)
  clear hK K
  refine nm_ ?_
  refine pv_ (i := 3) (N := some 6) HT_.out ?_
  refine pv_ (i := 4) (N := some 7) HT_.out ?_
  refine pu_ (i := 5) (N := some 8) HT_.out ?_
  refine pu_ (i := 6) (N := some 9) HT_.out ?_
  refine pu_ (i := 7) (N := some 10) HT_.out ?_
  refine pv_ (i := 8) (N := some 11) HT_.out ?_
  refine pv_ (i := 9) (N := some 12) HT_.out ?_
  refine pu_ (i := 10) (N := some 13) HT_.out ?_
  refine pu_ (i := 11) (N := some 14) HT_.out ?_
  refine pu_ (i := 12) (N := some 15) HT_.out ?_
  refine pv_ (i := 13) (N := some 16) HT_.out ?_
  refine pv_ (i := 14) (N := some 17) HT_.out ?_
  refine pu_ (i := 15) (N := some 18) HT_.out ?_
  refine pu_ (i := 16) (N := some 19) HT_.out ?_
  refine pu_ (i := 17) (N := some 20) HT_.out ?_
  refine pu_ (i := 18) (N := some 21) HT_.out ?_
  refine pu_ (i := 19) (N := some 22) HT_.out ?_
  refine pu_ (i := 20) (N := some 23) HT_.out ?_
  refine pu_ (i := 21) (N := some 24) HT_.out ?_
  refine pu_ (i := 22) (N := some 25) HT_.out ?_
  refine pv_ (i := 23) (N := some 26) HT_.out ?_
  refine done_ (done_of HT_.out (by kernel_rfl)) ?_
  try go_wp2
  go_ret
  exact ⟨ex_, hb1_ HB.out GE501.out⟩

/-! ### impl_isFew: function 20 -/
def impl_isFew.f (a0 : Int) : Option (Bool) := if a0 ≥ 0 then (some (decide (a0 ≤ 20))) else (some false)
set_option maxHeartbeats 8000000 in
set_option maxRecDepth 100000 in
theorem impl_isFew.calls (a0 : Int) (r : Bool) (w : World) (h : impl_isFew.f a0 = some r) :
  Calls Try.prog 20 #[.int .i64 a0] w fun e w' => e = .returned (.bool r) ∧ Drawn0 w w' := by
 have H : (if a0 ≥ 0 then (some (decide (a0 ≤ 20))) else (some false)) = some r := h
 clear h
 by_cases c2 : a0 ≥ 0
 ·rw [if_pos c2] at H
  have c2b0 : decide (0 ≤ a0) = true := decide_eq_true c2
  clear c2
  obtain rfl := Option.some.inj H
  go_enter Try.func20, Try.ntmps20
  go_wp2
  go_ret
  exact ⟨by first | rfl | (simp; done) | (simp [*]; done), dr_⟩
 ·rw [if_neg c2] at H
  have c2b0 : decide (0 ≤ a0) = false := decide_eq_false c2
  clear c2
  obtain rfl := Option.some.inj H
  go_enter Try.func20, Try.ntmps20
  go_wp2
  go_ret
  exact ⟨by first | rfl | (simp; done) | (simp [*]; done), dr_⟩

/-! ### impl_GrowHedge: function 7 -/
mutual
def impl_GrowHedge.j0 : Nat → Int → Bool → Int → Int → Int → List Int → Int → Option (Int × Int × Int × List Int × Int × Bool)
 | 0, _, _, _, _, _, _, _ => none
 | k + 1, x1, x17, x511000, x511001, x511002, x511003, x511004 => if x17 = true then (some (x511000, x511001, x511002, x511003, x511004, false)) else (impl_GrowHedge.l0 k x1 (x511003.length : Int) 0 x511000 x511001 x511002 x511003 x511004)
def impl_GrowHedge.l0 : Nat → Int → Int → Int → Int → Int → Int → List Int → Int → Option (Int × Int × Int × List Int × Int × Bool)
 | 0, _, _, _, _, _, _, _, _ => none
 | k + 1, x1, x21, x22, x511000, x511001, x511002, x511003, x511004 => if x22 < x21 then (if 0 ≤ x22 then (if x22 < (x511003.length : Int) then (impl_GrowHedge.l0 k x1 x21 (wrap64 (x22 + 1)) x511000 x511001 x511002 (x511003.set (x22 : Int).toNat (mn (wrap64 ((rd x511003 x22) + x1)) 1000)) x511004) else (none)) else (none)) else (some (x511000, x511001, x511002, x511003, x511004, true))
end
def impl_GrowHedge.f (k : Nat) (a0_0 : Int) (a0_1 : Int) (a0_2 : Int) (l0_3 : List Int) (a0_4 : Int) (a1 : Int) : Option (Int × Int × Int × List Int × Int × Bool) := (impl_copyHedge.f a0_0 a0_1 a0_2 l0_3 a0_4).bind fun bt503 => ((impl_HedgeOk.f a0_0 a0_1 a0_2 l0_3 a0_4).bind fun t511 => (if t511 = true then ((impl_isFew.f a1).bind fun t512 => (impl_GrowHedge.j0 k a1 (!t512) bt503.1 bt503.2.1 bt503.2.2.1 bt503.2.2.2.1 bt503.2.2.2.2)) else (impl_GrowHedge.j0 k a1 true bt503.1 bt503.2.1 bt503.2.2.1 bt503.2.2.2.1 bt503.2.2.2.2)))
theorem impl_GrowHedge.mono_l : ∀ k, (∀ y0 y1 y2 y3 y4 y5 y6, LeO (impl_GrowHedge.j0 k y0 y1 y2 y3 y4 y5 y6) (impl_GrowHedge.j0 (k + 1) y0 y1 y2 y3 y4 y5 y6)) ∧ (∀ y0 y1 y2 y3 y4 y5 y6 y7, LeO (impl_GrowHedge.l0 k y0 y1 y2 y3 y4 y5 y6 y7) (impl_GrowHedge.l0 (k + 1) y0 y1 y2 y3 y4 y5 y6 y7))
 | 0 => ⟨fun _ _ _ _ _ _ _ r h => by simp [impl_GrowHedge.j0] at h, fun _ _ _ _ _ _ _ _ r h => by simp [impl_GrowHedge.l0] at h⟩
 | k + 1 => by
  obtain ⟨ih0, ih1⟩ := impl_GrowHedge.mono_l k
  refine ⟨?_, ?_⟩
  ·intro y0 y1 y2 y3 y4 y5 y6
   unfold impl_GrowHedge.j0
   repeat' first
   | (with_reducible exact ih0 ..)
   | (with_reducible exact ih1 ..)
   | (with_reducible first | exact LeO.refl _ | exact LeO.none _ | refine LeO.ite ?_ ?_ | refine LeO.bind ?_ (fun _ => ?_))
   | exact ih0 ..
   | exact ih1 ..
   | exact LeO.none _ | refine LeO.ite ?_ ?_ | refine LeO.bind ?_ (fun _ => ?_)
  ·intro y0 y1 y2 y3 y4 y5 y6 y7
   unfold impl_GrowHedge.l0
   repeat' first
   | (with_reducible exact ih0 ..)
   | (with_reducible exact ih1 ..)
   | (with_reducible first | exact LeO.refl _ | exact LeO.none _ | refine LeO.ite ?_ ?_ | refine LeO.bind ?_ (fun _ => ?_))
   | exact ih0 ..
   | exact ih1 ..
   | exact LeO.none _ | refine LeO.ite ?_ ?_ | refine LeO.bind ?_ (fun _ => ?_)
theorem impl_GrowHedge.mono : ∀ a0 a1 a2 a3 a4 a5 k, LeO (impl_GrowHedge.f k a0 a1 a2 a3 a4 a5) (impl_GrowHedge.f (k + 1) a0 a1 a2 a3 a4 a5) := by
 intro a0 a1 a2 a3 a4 a5 k
 obtain ⟨ih0, ih1⟩ := impl_GrowHedge.mono_l k
 unfold impl_GrowHedge.f
 repeat' first
   | (with_reducible exact ih0 ..)
   | (with_reducible exact ih1 ..)
   | (with_reducible first | exact LeO.refl _ | exact LeO.none _ | refine LeO.ite ?_ ?_ | refine LeO.bind ?_ (fun _ => ?_))
   | exact ih0 ..
   | exact ih1 ..
   | exact LeO.none _ | refine LeO.ite ?_ ?_ | refine LeO.bind ?_ (fun _ => ?_)
def impl_GrowHedge.T7 : Bool × List (List Nat × List Nat) := (true, [([], []), ([0], [0]), ([], []), ([], []), ([3], [3]), ([], []), ([4, 5], [4, 5]), ([6], [6]), ([], []), ([7, 8], [7, 8]), ([9], [9]), ([1, 2, 0, 1, 2, 3, 4, 5, 6, 7, 8, 9, 10], [1, 2]), ([11, 10, 0, 1, 2, 3, 4, 5, 6, 7, 8, 9, 10], [10, 11])])
def impl_GrowHedge.B7 : List Nat := [0, 1, 0, 0, 8, 0, 56, 120, 0, 504, 1016, 2047, 4095]
theorem impl_GrowHedge.tab7 : rtab .any (opsOf Try.f7 7) = impl_GrowHedge.T7 := by kernel_rfl
theorem impl_GrowHedge.bits7 : waitsOk impl_GrowHedge.T7.2 impl_GrowHedge.B7 = true := by kernel_rfl
set_option maxHeartbeats 8000000 in
set_option maxRecDepth 100000 in
theorem impl_GrowHedge.calls (k : Nat) (a0_0 : Int) (a0_1 : Int) (a0_2 : Int) (A0_3 : Option Addr) (c0_3 : Nat) (l0_3 : List Int) (a0_4 : Int) (a1 : Int) (r1 : Int) (r2 : Int) (r3 : Int) (r4 : List Int) (r5 : Int) (r6 : Bool) (w : World) (hr0_3 : Kd.C (Kd.int .i64) w A0_3 l0_3.length l0_3) (hc0_3 : l0_3.length ≤ c0_3) (h : impl_GrowHedge.f k a0_0 a0_1 a0_2 l0_3 a0_4 a1 = some (r1, r2, r3, r4, r5, r6)) :
  Calls Try.prog 7 #[.agg #[.int .i64 a0_0, .int .i64 a0_1, .int .i64 a0_2, .slice A0_3 l0_3.length c0_3, .int .i64 a0_4], .int .i64 a1] w fun e w' => ∃ v3_ : Value, e = .returned (.tuple #[.agg #[.int .i64 r1, .int .i64 r2, .int .i64 r3, v3_, .int .i64 r5], .bool r6]) ∧ Kd.R (Kd.int .i64) 3 w' w.heap.size (fun _ => True) v3_ r4 ∧ Below w.heap.size w w' := by
 have hu30 := Try.underlying30
 have HR0_3 := Aside0.mk hr0_3
 have HC0_3 := Aside0.mk hc0_3
 clear hr0_3 hc0_3
 have HB := Aside0.mk (Below.refl w.heap.size w)
 have H : ((impl_copyHedge.f a0_0 a0_1 a0_2 l0_3 a0_4).bind fun bt503 => ((impl_HedgeOk.f a0_0 a0_1 a0_2 l0_3 a0_4).bind fun t511 => (if t511 = true then ((impl_isFew.f a1).bind fun t512 => (impl_GrowHedge.j0 k a1 (!t512) bt503.1 bt503.2.1 bt503.2.2.1 bt503.2.2.2.1 bt503.2.2.2.2)) else (impl_GrowHedge.j0 k a1 true bt503.1 bt503.2.1 bt503.2.2.1 bt503.2.2.2.1 bt503.2.2.2.2)))) = some (r1, r2, r3, r4, r5, r6) := h
 clear h
 replace H := Option.bind_eq_some_iff.mp H
 obtain ⟨⟨t503, t504, t505, t506, t509⟩, A30, H⟩ := H
 replace H : ((impl_HedgeOk.f a0_0 a0_1 a0_2 l0_3 a0_4).bind fun t511 => (if t511 = true then ((impl_isFew.f a1).bind fun t512 => (impl_GrowHedge.j0 k a1 (!t512) t503 t504 t505 t506 t509)) else (impl_GrowHedge.j0 k a1 true t503 t504 t505 t506 t509))) = some (r1, r2, r3, r4, r5, r6) := H
 have A3 := Aside0.mk A30
 clear A30
 have HC4 := Aside0.mk H
 clear H
 go_enter Try.func7, Try.ntmps7
 go_upto_region 2 with ((with_reducible refine gw_ ?_); first | (refine box_ (N := 2) (cs := #[.int .i64 a0_0, .int .i64 a0_1, .int .i64 a0_2, .slice A0_3 l0_3.length c0_3, .int .i64 a0_4]) (t := 30) ?_; intro gb501 hg w5 hbox hb; have BK501 := Aside0.mk (hbox); have GW501 := HB.g0 hg; have GE501 := HB.g0 hg; replace HB := HB.s0 hb; clear hb hbox hg) | (refine box_ (N := 4) (cs := #[.int .i64 0, .int .i64 0, .int .i64 0, .slice none 0 0, .int .i64 0]) (t := 30) ?_; intro gb502 hg w6 hbox hb; have BK502 := Aside0.mk (hbox); have GW502 := HB.g1 GE501 hg; have GE502 := HB.g1 GE501 hg; replace HB := HB.s1 GE501 hb; have NB501_502 := BK501.nl hg; have NB502_501 := BK501.nr hg; replace BK501 := BK501.bb hb; clear hb hbox hg; have hnb7 := NB501_502.out; have hnc7 := NB502_501.out; obtain ⟨hcz8_0, hcz8_1, hcz8_2, hcz8_3, hcz8_4⟩ := cz5_ BK501.out; obtain ⟨hfz8_0, hfz8_1, hfz8_2, hfz8_3, hfz8_4⟩ := fz5_ BK501.out) | (refine gl_ 9 Try.func18 #[.agg #[.int .i64 a0_0, .int .i64 a0_1, .int .i64 a0_2, .slice A0_3 l0_3.length c0_3, .int .i64 a0_4]] ?_; (with_reducible refine (impl_copyHedge.calls a0_0 a0_1 a0_2 _ _ l0_3 a0_4 t503 t504 t505 t506 t509 _ ?side1 ?side2 A3.out).mono ?_); (case side1 => repeat (first | exact (Kd.C_below HR0_3.out HB.out) | (with_reducible refine Kd.C_alloc ?_ _) | (with_reducible refine Kd.C_drewN ?_ _) | (with_reducible refine Kd.C_drew ?_))); (case side2 => exact HC0_3.out); rintro e w9 ⟨v507, rfl, ho0, hb⟩; refine ⟨_, rfl, ?_⟩; have HO508 := Aside0.mk (Kd.R_lower ho0 (below_size (hb2_ HB.out GE501.out GE502.out))); replace BK501 := BK501.bb hb; replace BK502 := BK502.bb hb; replace HB := HB.s2 GE501 GE502 hb; (try clear hb); (try clear ho0)) | (refine box_ (N := 6) (cs := #[.int .i64 0, .int .i64 0, .int .i64 0, .slice none 0 0, .int .i64 0]) (t := 30) ?_; intro gb510 hg w10 hbox hb; replace HO508 := HO508.kb hb; have BK510 := Aside0.mk (hbox); have GW510 := HB.g2 GE501 GE502 hg; have GE510 := HB.g2 GE501 GE502 hg; replace HB := HB.s2 GE501 GE502 hb; have NB501_510 := BK501.nl hg; have NB510_501 := BK501.nr hg; replace BK501 := BK501.bb hb; have NB502_510 := BK502.nl hg; have NB510_502 := BK502.nr hg; replace BK502 := BK502.bb hb; clear hb hbox hg; have hnb11 := NB510_501.out; have hnc11 := NB501_510.out; have hnb12 := NB510_502.out; have hnc12 := NB502_510.out; obtain ⟨hcz13_0, hcz13_1, hcz13_2, hcz13_3, hcz13_4⟩ := cz5_ BK510.out; obtain ⟨hfz13_0, hfz13_1, hfz13_2, hfz13_3, hfz13_4⟩ := fz5_ BK510.out; obtain ⟨Ao14, co14, eo14⟩ := Kd.R_slice HO508.out; subst eo14))
 (try simp only [Act.put, List.setIfInBounds_toArray, List.set_cons_zero, List.set_cons_succ])
 go_cut [17] (fun v17 wc => ∃ (kq : Nat) (x17_3 : Bool), v17 = .bool x17_3 ∧ Aside0 (impl_GrowHedge.j0 kq a1 x17_3 t503 t504 t505 t506 t509 = some (r1, r2, r3, r4, r5, r6)) ∧ Aside0 (kq ≤ k) ∧ Aside0 (Kd.R (Kd.int .i64) 3 wc w.heap.size (fun _ => True) (.slice Ao14 t506.length co14) t506) ∧ Aside0 (wc.heap[gb501]? = some (.cells #[.int .i64 a0_0, .int .i64 a0_1, .int .i64 a0_2, (.slice A0_3 l0_3.length c0_3), .int .i64 a0_4] 30 (0, 0))) ∧ Aside0 (wc.heap[gb502]? = some (.cells #[.int .i64 0, .int .i64 0, .int .i64 0, (.slice none 0 0), .int .i64 0] 30 (0, 0))) ∧ Aside0 (wc.heap[gb510]? = some (.cells #[.int .i64 t503, .int .i64 t504, .int .i64 t505, (.slice Ao14 t506.length co14), .int .i64 t509] 30 (0, 0))) ∧ Aside0 (Below w.heap.size w wc))
 case first =>
  have H := HC4.out
  clear HC4
  replace H := Option.bind_eq_some_iff.mp H
  obtain ⟨t511, A150, H⟩ := H
  replace H : (if t511 = true then ((impl_isFew.f a1).bind fun t512 => (impl_GrowHedge.j0 k a1 (!t512) t503 t504 t505 t506 t509)) else (impl_GrowHedge.j0 k a1 true t503 t504 t505 t506 t509)) = some (r1, r2, r3, r4, r5, r6) := H
  have A15 := Aside0.mk A150
  clear A150
  by_cases c16 : t511 = true
  ·subst c16
   have H1 : ((impl_isFew.f a1).bind fun t512 => (impl_GrowHedge.j0 k a1 (!t512) t503 t504 t505 t506 t509)) = some (r1, r2, r3, r4, r5, r6) := by rw [if_pos rfl] at H; exact H
   clear H
   have H := H1
   clear H1
   replace H := Option.bind_eq_some_iff.mp H
   obtain ⟨t512, A170, H⟩ := H
   replace H : (impl_GrowHedge.j0 k a1 (!t512) t503 t504 t505 t506 t509) = some (r1, r2, r3, r4, r5, r6) := H
   have A17 := Aside0.mk A170
   clear A170
   have H' := Aside0.mk H
   clear H
   have hnb18 := NB501_502.out
   have hnc18 := NB502_501.out
   have hnb19 := NB501_510.out
   have hnc19 := NB510_501.out
   obtain ⟨hcz20_0, hcz20_1, hcz20_2, hcz20_3, hcz20_4⟩ := cz5_ BK501.out
   obtain ⟨hfz20_0, hfz20_1, hfz20_2, hfz20_3, hfz20_4⟩ := fz5_ BK501.out
   go_wp2_with (first | (refine gl_ 11 Try.func19 #[.agg #[.int .i64 a0_0, .int .i64 a0_1, .int .i64 a0_2, .slice A0_3 l0_3.length c0_3, .int .i64 a0_4]] ?_; (with_reducible refine (impl_HedgeOk.calls a0_0 a0_1 a0_2 _ _ l0_3 a0_4 true _ ?side1 ?side2 A15.out).mono ?_); (case side1 => exact Kd.C_below HR0_3.out (hb3_ HB.out GE501.out GE502.out GE510.out)); (case side2 => exact HC0_3.out); rintro e w21 ⟨rfl, hb⟩; refine ⟨_, rfl, ?_⟩; replace HO508 := Aside0.mk (Kd.R_below (rq5_ HO508.out BK510.out) hb); replace BK501 := Aside0.mk (blk_below (g := gb501) (o := .cells #[.int .i64 a0_0, .int .i64 a0_1, .int .i64 a0_2, .slice A0_3 l0_3.length c0_3, .int .i64 a0_4] 30 (0, 0)) (by (with_reducible repeat (first | refine blk_drewN ?_ _ | refine blk_drew ?_ | refine blk_alloc ?_ _)); refine blk_far ?_ NB501_510.out _; (with_reducible repeat (first | refine blk_drewN ?_ _ | refine blk_drew ?_ | refine blk_alloc ?_ _)); refine blk_far ?_ NB501_510.out _; (with_reducible repeat (first | refine blk_drewN ?_ _ | refine blk_drew ?_ | refine blk_alloc ?_ _)); refine blk_far ?_ NB501_510.out _; (with_reducible repeat (first | refine blk_drewN ?_ _ | refine blk_drew ?_ | refine blk_alloc ?_ _)); refine blk_far ?_ NB501_510.out _; (with_reducible repeat (first | refine blk_drewN ?_ _ | refine blk_drew ?_ | refine blk_alloc ?_ _)); refine blk_far ?_ NB501_510.out _; (with_reducible repeat (first | refine blk_drewN ?_ _ | refine blk_drew ?_ | refine blk_alloc ?_ _)); exact BK501.out) hb); replace BK502 := Aside0.mk (blk_below (g := gb502) (o := .cells #[.int .i64 0, .int .i64 0, .int .i64 0, .slice none 0 0, .int .i64 0] 30 (0, 0)) (by (with_reducible repeat (first | refine blk_drewN ?_ _ | refine blk_drew ?_ | refine blk_alloc ?_ _)); refine blk_far ?_ NB502_510.out _; (with_reducible repeat (first | refine blk_drewN ?_ _ | refine blk_drew ?_ | refine blk_alloc ?_ _)); refine blk_far ?_ NB502_510.out _; (with_reducible repeat (first | refine blk_drewN ?_ _ | refine blk_drew ?_ | refine blk_alloc ?_ _)); refine blk_far ?_ NB502_510.out _; (with_reducible repeat (first | refine blk_drewN ?_ _ | refine blk_drew ?_ | refine blk_alloc ?_ _)); refine blk_far ?_ NB502_510.out _; (with_reducible repeat (first | refine blk_drewN ?_ _ | refine blk_drew ?_ | refine blk_alloc ?_ _)); refine blk_far ?_ NB502_510.out _; (with_reducible repeat (first | refine blk_drewN ?_ _ | refine blk_drew ?_ | refine blk_alloc ?_ _)); exact BK502.out) hb); replace BK510 := Aside0.mk (blk_below (bq5_ BK510.out) hb); replace HB := HB.s3 GE501 GE502 GE510 hb; (try clear hb)) | (go_at_call 20; (with_reducible refine (impl_isFew.calls a1 t512 _ A17.out).mono ?_); rintro e w' ⟨rfl, ⟨nd, rfl⟩⟩))
   go_meet
   case rel => exact ⟨_, (!t512), (by first | rfl | (simp; done) | (simp [*]; done)), H', ⟨by first | omega | exact Nat.le_refl _⟩, ⟨kr_ HO508.out⟩, ⟨bk_ BK501.out⟩, ⟨bk_ BK502.out⟩, ⟨bk_ BK510.out⟩, ⟨hb3_ HB.out GE501.out GE502.out GE510.out⟩⟩
  ·replace c16 := Bool.eq_false_iff.mpr c16
   subst c16
   have H1 : (impl_GrowHedge.j0 k a1 true t503 t504 t505 t506 t509) = some (r1, r2, r3, r4, r5, r6) := by rw [if_neg (show ¬ (false = true) by decide)] at H; exact H
   clear H
   have H := H1
   clear H1
   have H' := Aside0.mk H
   clear H
   have hnb22 := NB501_502.out
   have hnc22 := NB502_501.out
   have hnb23 := NB501_510.out
   have hnc23 := NB510_501.out
   obtain ⟨hcz24_0, hcz24_1, hcz24_2, hcz24_3, hcz24_4⟩ := cz5_ BK501.out
   obtain ⟨hfz24_0, hfz24_1, hfz24_2, hfz24_3, hfz24_4⟩ := fz5_ BK501.out
   go_wp2_with ((with_reducible refine gw_ ?_); first | (refine gl_ 11 Try.func19 #[.agg #[.int .i64 a0_0, .int .i64 a0_1, .int .i64 a0_2, .slice A0_3 l0_3.length c0_3, .int .i64 a0_4]] ?_; (with_reducible refine (impl_HedgeOk.calls a0_0 a0_1 a0_2 _ _ l0_3 a0_4 false _ ?side1 ?side2 A15.out).mono ?_); (case side1 => exact Kd.C_below HR0_3.out (hb3_ HB.out GE501.out GE502.out GE510.out)); (case side2 => exact HC0_3.out); rintro e w25 ⟨rfl, hb⟩; refine ⟨_, rfl, ?_⟩; replace HO508 := Aside0.mk (Kd.R_below (rq5_ HO508.out BK510.out) hb); replace BK501 := Aside0.mk (blk_below (g := gb501) (o := .cells #[.int .i64 a0_0, .int .i64 a0_1, .int .i64 a0_2, .slice A0_3 l0_3.length c0_3, .int .i64 a0_4] 30 (0, 0)) (by (with_reducible repeat (first | refine blk_drewN ?_ _ | refine blk_drew ?_ | refine blk_alloc ?_ _)); refine blk_far ?_ NB501_510.out _; (with_reducible repeat (first | refine blk_drewN ?_ _ | refine blk_drew ?_ | refine blk_alloc ?_ _)); refine blk_far ?_ NB501_510.out _; (with_reducible repeat (first | refine blk_drewN ?_ _ | refine blk_drew ?_ | refine blk_alloc ?_ _)); refine blk_far ?_ NB501_510.out _; (with_reducible repeat (first | refine blk_drewN ?_ _ | refine blk_drew ?_ | refine blk_alloc ?_ _)); refine blk_far ?_ NB501_510.out _; (with_reducible repeat (first | refine blk_drewN ?_ _ | refine blk_drew ?_ | refine blk_alloc ?_ _)); refine blk_far ?_ NB501_510.out _; (with_reducible repeat (first | refine blk_drewN ?_ _ | refine blk_drew ?_ | refine blk_alloc ?_ _)); exact BK501.out) hb); replace BK502 := Aside0.mk (blk_below (g := gb502) (o := .cells #[.int .i64 0, .int .i64 0, .int .i64 0, .slice none 0 0, .int .i64 0] 30 (0, 0)) (by (with_reducible repeat (first | refine blk_drewN ?_ _ | refine blk_drew ?_ | refine blk_alloc ?_ _)); refine blk_far ?_ NB502_510.out _; (with_reducible repeat (first | refine blk_drewN ?_ _ | refine blk_drew ?_ | refine blk_alloc ?_ _)); refine blk_far ?_ NB502_510.out _; (with_reducible repeat (first | refine blk_drewN ?_ _ | refine blk_drew ?_ | refine blk_alloc ?_ _)); refine blk_far ?_ NB502_510.out _; (with_reducible repeat (first | refine blk_drewN ?_ _ | refine blk_drew ?_ | refine blk_alloc ?_ _)); refine blk_far ?_ NB502_510.out _; (with_reducible repeat (first | refine blk_drewN ?_ _ | refine blk_drew ?_ | refine blk_alloc ?_ _)); refine blk_far ?_ NB502_510.out _; (with_reducible repeat (first | refine blk_drewN ?_ _ | refine blk_drew ?_ | refine blk_alloc ?_ _)); exact BK502.out) hb); replace BK510 := Aside0.mk (blk_below (bq5_ BK510.out) hb); replace HB := HB.s3 GE501 GE502 GE510 hb; (try clear hb)))
   go_meet
   case rel => exact ⟨_, (true), (by first | rfl | (simp; done) | (simp [*]; done)), H', ⟨by first | omega | exact Nat.le_refl _⟩, ⟨kr_ HO508.out⟩, ⟨bk_ BK501.out⟩, ⟨bk_ BK502.out⟩, ⟨bk_ BK510.out⟩, ⟨hb3_ HB.out GE501.out GE502.out GE510.out⟩⟩
 case rest =>
  clear HC4
  try clear c1
  try clear c2
  try clear p2
  try clear c7
  try clear c11
  try clear c12
  try clear c16
  try clear c18
  try clear c19
  try clear c22
  try clear c23
  try clear hcz13_0
  try clear hcz13_1
  try clear hcz13_2
  try clear hcz13_3
  try clear hcz13_4
  try clear hcz20_0
  try clear hcz20_1
  try clear hcz20_2
  try clear hcz20_3
  try clear hcz20_4
  try clear hcz24_0
  try clear hcz24_1
  try clear hcz24_2
  try clear hcz24_3
  try clear hcz24_4
  try clear hcz8_0
  try clear hcz8_1
  try clear hcz8_2
  try clear hcz8_3
  try clear hcz8_4
  try clear hfz13_0
  try clear hfz13_1
  try clear hfz13_2
  try clear hfz13_3
  try clear hfz13_4
  try clear hfz20_0
  try clear hfz20_1
  try clear hfz20_2
  try clear hfz20_3
  try clear hfz20_4
  try clear hfz24_0
  try clear hfz24_1
  try clear hfz24_2
  try clear hfz24_3
  try clear hfz24_4
  try clear hfz8_0
  try clear hfz8_1
  try clear hfz8_2
  try clear hfz8_3
  try clear hfz8_4
  obtain ⟨kq, x17_3, rfl, HA, HJ3, HO_511003, BK501, BK502, BK510, HB⟩ := hcut
  cases kq with
  | zero => exact absurd HA.out (by simp [impl_GrowHedge.j0])
  | succ kj3 =>
   have H := HA.out
   clear HA
   simp only [impl_GrowHedge.j0] at H
   by_cases c26 : x17_3 = true
   ·subst c26
    have H1 : (some (t503, t504, t505, t506, t509, false)) = some (r1, r2, r3, r4, r5, r6) := by rw [if_pos rfl] at H; exact H
    clear H
    have H := H1
    clear H1
    simp only [Option.some.injEq, Prod.mk.injEq] at H
    obtain ⟨rfl, rfl, rfl, rfl, rfl, rfl⟩ := H
    have hnb27 := NB510_501.out
    have hnc27 := NB501_510.out
    have hnb28 := NB510_502.out
    have hnc28 := NB502_510.out
    obtain ⟨hcz29_0, hcz29_1, hcz29_2, hcz29_3, hcz29_4⟩ := cz5_ BK510.out
    obtain ⟨hfz29_0, hfz29_1, hfz29_2, hfz29_3, hfz29_4⟩ := fz5_ BK510.out
    have hnb30 := NB502_501.out
    have hnc30 := NB501_502.out
    obtain ⟨hcz31_0, hcz31_1, hcz31_2, hcz31_3, hcz31_4⟩ := cz5_ BK502.out
    obtain ⟨hfz31_0, hfz31_1, hfz31_2, hfz31_3, hfz31_4⟩ := fz5_ BK502.out
    go_wp2
    refine bodyPost_ret (results_ct rfl _ _ gb502 30 #[.int .i64 t503, .int .i64 t504, .int .i64 t505, .slice Ao14 t506.length co14, .int .i64 t509] (0, 0) _ rfl (bq5_ BK502.out) Try.underlying30 rfl (by kernel_rfl)) rfl ?_
    exact ⟨_, ex_, by (with_reducible repeat (first | apply Kd.R_alloc | apply Kd.R_drewN | apply Kd.R_drew)); exact Kd.R_mono (Kd.R_far (p := ⟨gb502, 4, none⟩) (Kd.R_far (p := ⟨gb502, 3, none⟩) (Kd.R_far (p := ⟨gb502, 2, none⟩) (Kd.R_far (p := ⟨gb502, 1, none⟩) (Kd.R_far (p := ⟨gb502, 0, none⟩) (Kd.R_types HO_511003.out BK502.out (by decide)) (fun _ hk => hk.2) (.int .i64 t503)) (fun _ hk => hk.2) (.int .i64 t504)) (fun _ hk => hk.2) (.int .i64 t505)) (fun _ hk => hk.2) (.slice Ao14 t506.length co14)) (fun _ hk => hk.2) (.int .i64 t509)) (fun _ hk => trivial), hb3_ HB.out GE501.out GE502.out GE510.out⟩
   ·replace c26 := Bool.eq_false_iff.mpr c26
    subst c26
    have H1 : (impl_GrowHedge.l0 kj3 a1 (t506.length : Int) 0 t503 t504 t505 t506 t509) = some (r1, r2, r3, r4, r5, r6) := by rw [if_neg (show ¬ (false = true) by decide)] at H; exact H
    clear H
    have H := H1
    clear H1
    have H' := Aside0.mk H
    clear H
    have hnb32 := NB510_501.out
    have hnc32 := NB501_510.out
    have hnb33 := NB510_502.out
    have hnc33 := NB502_510.out
    obtain ⟨hcz34_0, hcz34_1, hcz34_2, hcz34_3, hcz34_4⟩ := cz5_ BK510.out
    obtain ⟨hfz34_0, hfz34_1, hfz34_2, hfz34_3, hfz34_4⟩ := fz5_ BK510.out
    go_wp2
    go_loopg [22] kj3 (fun kq v22 w' => ∃ (x22_2 : Int) (x511003_2 : List Int) (u511003 : Value), v22 = .int .i64 x22_2 ∧ Aside0 (impl_GrowHedge.l0 kq a1 (t506.length : Int) x22_2 t503 t504 t505 x511003_2 t509 = some (r1, r2, r3, r4, r5, r6)) ∧ Aside0 (kq ≤ kj3) ∧ Aside0 (Kd.R (Kd.int .i64) 3 w' w.heap.size (fun _ => True) u511003 x511003_2) ∧ Aside0 (w'.heap[gb501]? = some (.cells #[.int .i64 a0_0, .int .i64 a0_1, .int .i64 a0_2, (.slice A0_3 l0_3.length c0_3), .int .i64 a0_4] 30 (0, 0))) ∧ Aside0 (w'.heap[gb502]? = some (.cells #[.int .i64 0, .int .i64 0, .int .i64 0, (.slice none 0 0), .int .i64 0] 30 (0, 0))) ∧ Aside0 (w'.heap[gb510]? = some (.cells #[.int .i64 t503, .int .i64 t504, .int .i64 t505, u511003, .int .i64 t509] 30 (0, 0))) ∧ Aside0 (Below w.heap.size w w'))
    case atStart => exact ⟨(0), (t506), (.slice Ao14 t506.length co14), (by first | rfl | (simp; done) | (simp [*]; done)), H', ⟨Nat.le_refl _⟩, ⟨kr_ HO_511003.out⟩, ⟨bk_ BK501.out⟩, ⟨bk_ BK502.out⟩, ⟨bk_ BK510.out⟩, ⟨hb3_ HB.out GE501.out GE502.out GE510.out⟩⟩
    case round =>
     clear H'
     try clear c1
     try clear c2
     try clear p2
     try clear c3
     try clear c7
     try clear c11
     try clear c12
     try clear c16
     try clear c18
     try clear c19
     try clear c22
     try clear c23
     try clear c26
     try clear c27
     try clear c28
     try clear c30
     try clear c32
     try clear c33
     try clear hcz13_0
     try clear hcz13_1
     try clear hcz13_2
     try clear hcz13_3
     try clear hcz13_4
     try clear hcz20_0
     try clear hcz20_1
     try clear hcz20_2
     try clear hcz20_3
     try clear hcz20_4
     try clear hcz24_0
     try clear hcz24_1
     try clear hcz24_2
     try clear hcz24_3
     try clear hcz24_4
     try clear hcz29_0
     try clear hcz29_1
     try clear hcz29_2
     try clear hcz29_3
     try clear hcz29_4
     try clear hcz31_0
     try clear hcz31_1
     try clear hcz31_2
     try clear hcz31_3
     try clear hcz31_4
     try clear hcz34_0
     try clear hcz34_1
     try clear hcz34_2
     try clear hcz34_3
     try clear hcz34_4
     try clear hcz8_0
     try clear hcz8_1
     try clear hcz8_2
     try clear hcz8_3
     try clear hcz8_4
     try clear hfz13_0
     try clear hfz13_1
     try clear hfz13_2
     try clear hfz13_3
     try clear hfz13_4
     try clear hfz20_0
     try clear hfz20_1
     try clear hfz20_2
     try clear hfz20_3
     try clear hfz20_4
     try clear hfz24_0
     try clear hfz24_1
     try clear hfz24_2
     try clear hfz24_3
     try clear hfz24_4
     try clear hfz29_0
     try clear hfz29_1
     try clear hfz29_2
     try clear hfz29_3
     try clear hfz29_4
     try clear hfz31_0
     try clear hfz31_1
     try clear hfz31_2
     try clear hfz31_3
     try clear hfz31_4
     try clear hfz34_0
     try clear hfz34_1
     try clear hfz34_2
     try clear hfz34_3
     try clear hfz34_4
     try clear hfz8_0
     try clear hfz8_1
     try clear hfz8_2
     try clear hfz8_3
     try clear hfz8_4
     try clear p2
     obtain ⟨x22_2, x511003_2, u511003, rfl, HA, HK2, HO_511003, BK501, BK502, BK510, HB⟩ := hrel
     cases gk with
     | zero => exact absurd HA.out (by simp [impl_GrowHedge.l0])
     | succ k2 =>
      have H := HA.out
      clear HA
      simp only [impl_GrowHedge.l0] at H
      by_cases c35 : x22_2 < (t506.length : Int)
      ·rw [if_pos c35] at H
       have c35b0 : decide (x22_2 < (t506.length : Int)) = true := decide_eq_true c35
       clear c35
       by_cases c36 : 0 ≤ x22_2
       ·rw [if_pos c36] at H
        have c36b0 : decide (0 ≤ x22_2) = true := decide_eq_true c36
        clear c36
        by_cases c37 : x22_2 < (x511003_2.length : Int)
        ·rw [if_pos c37] at H
         have c37b0 : decide (x22_2 < (x511003_2.length : Int)) = true := decide_eq_true c37
         clear c37
         obtain ⟨ji38, hji38⟩ : ∃ j_ : Int, (mn (wrap64 ((rd x511003_2 x22_2) + a1)) 1000) = j_ := ⟨_, rfl⟩
         replace H : (impl_GrowHedge.l0 k2 a1 (t506.length : Int) (wrap64 (x22_2 + 1)) t503 t504 t505 (x511003_2.set (x22_2 : Int).toNat (ji38)) t509) = some (r1, r2, r3, r4, r5, r6) := by first | (rw [hji38] at H; exact H) | (simp only [hji38] at H ⊢; exact H)
         have hji38_ : (if 1000 < (wrap64 ((rd x511003_2 x22_2) + a1)) then 1000 else (wrap64 ((rd x511003_2 x22_2) + a1))) = ji38 := hji38
         obtain ⟨y514, hy514⟩ : ∃ y_ : List Int, y_ = (x511003_2.set (x22_2 : Int).toNat (ji38)) := ⟨_, rfl⟩
         replace H : (impl_GrowHedge.l0 k2 a1 (t506.length : Int) (wrap64 (x22_2 + 1)) t503 t504 t505 y514 t509) = some (r1, r2, r3, r4, r5, r6) := by first | (rw [hy514]; with_reducible exact H) | (have H2_ := (Option.bind_some _ _).symm.trans H; rw [hy514]; with_reducible exact H2_) | (have H2_ := (Option.bind_some _ _).symm.trans H; with_reducible exact H2_) | with_reducible exact H | (rw [hy514]; exact H) | exact H
         have Ny514 := Aside0.mk hy514
         clear hy514
         have H' := Aside0.mk H
         clear H
         try go_wp2
         replace HO_511003 := Aside0.mk (Kd.R_drew HO_511003.out)
         replace BK501 := Aside0.mk (blk_drew BK501.out)
         replace BK502 := Aside0.mk (blk_drew BK502.out)
         replace BK510 := Aside0.mk (blk_drew BK510.out)
         replace HB := Aside0.mk (below_drew1 HB.out)
         obtain ⟨Ao41, co41, eo41⟩ := Kd.R_slice HO_511003.out
         (first | subst eo41 | (injection eo41 with f1_ f2_ f3_; have f4_ := f1_.symm; have f5_ := f3_.symm; clear f1_ f2_ f3_; subst f4_; subst f5_))
         have p513 : 0 ≤ (x22_2 : Int) := of_decide_eq_true (as_)
         have q513 : x22_2 < (x511003_2.length : Int) := of_decide_eq_true (as_)
         obtain ⟨ad513, e513, hx513_0⟩ := Kd.at_int (Kd.R_reads' HO_511003.out).2.2 x22_2 p513 q513
         cases e513
         replace p513 := eq_true p513
         replace q513 := eq_true q513
         have p39 : 0 ≤ (x22_2 : Int) := of_decide_eq_true (as_)
         have q39 : (x22_2 : Int) < ((x511003_2.length : Int) : Int) := of_decide_eq_true (as_)
         obtain ⟨go39, co39, eo39, gb39, gl39, cl39, HG39⟩ := Kd.R_form HO_511003.out (by omega)
         (first | cases eo39 | (injection eo39 with ea_ en_ ec_; (first | subst ea_ | (injection ea_ with ea_; subst ea_)); subst ec_; clear en_))
         have GB39 := Aside0.mk gb39
         have GG39 := Aside0.mk HG39
         clear gb39 gl39 HG39
         (first | simp only [add_plain] at hx513_0 | skip)
         obtain ⟨hx39_0, hf39_0⟩ := Kd.R_celln 0 HO_511003.out (x22_2 : Int) p39 q39
         replace p39 := eq_true p39
         replace q39 := eq_true q39
         have HP42 := Kd.R_putn HO_511003.out (x22_2 : Int) ji38
         rw [← Ny514.out] at HP42
         have HQ42 := Aside0.mk HP42
         clear HP42
         refine start_ (n := 13) (S := fun w' => w'.cell? ⟨gb510, 0, none⟩ = some (.int .i64 t503) ∧ w'.cell? ⟨gb510, 1, none⟩ = some (.int .i64 t504) ∧ w'.cell? ⟨gb510, 2, none⟩ = some (.int .i64 t505) ∧ w'.cell? ⟨gb510, 3, none⟩ = some (.slice (some ⟨go39, 0, none⟩) x511003_2.length co41) ∧ w'.cell? ⟨gb510, 4, none⟩ = some (.int .i64 t509) ∧ w'.cell? ⟨go39, (x22_2).toNat, none⟩ = some (.int .i64 (rd x511003_2 x22_2))) (ds := [12]) #[false, false, false, false, false, false, false, false, false, false, false, false, false] (by kernel_rfl) rfl rfl ⟨BK510.c 0, BK510.c 1, BK510.c 2, BK510.c 3, BK510.c 4, hx513_0⟩ (fun hHeld => ?_); refine with_tabW impl_GrowHedge.tab7 impl_GrowHedge.bits7 (fun HT_ HW_ => ?_)
         generalize wr.drew = w40 at HO_511003 BK501 BK502 BK510 HB GG39 HQ42 hf39_0 hx39_0 hx513_0 hHeld ⊢
         refine pv_ (i := 0) (N := some 25) HT_.out ?_
         refine pv_ (i := 2) (N := some 27) HT_.out ?_
         refine pv_ (i := 3) (N := some 28) HT_.out ?_
         refine pv_ (i := 5) (N := some 30) HT_.out ?_
         refine pv_ (i := 8) (N := some 33) HT_.out ?_
         refine tv6_ (i := 1) (N := some 26) HT_.out HW_.out hHeld ?_
         refine tv6_ (i := 4) (N := some 29) HT_.out HW_.out hHeld ?_
         refine pv_ (i := 6) (N := some 31) HT_.out ?_
         refine tv6_ (i := 7) (N := some 32) HT_.out HW_.out hHeld ?_
         refine pv_ (i := 9) (N := some 34) HT_.out ?_
         refine pv_ (i := 10) (N := some 35) HT_.out ?_
         refine pv_ (i := 11) (N := some 36) HT_.out ?_
         refine last_ (i := 12) (N := none) #[true, true, true, true, true, true, true, true, true, true, true, true, true] rfl rfl (one_of HT_.out (by kernel_rfl)) (by decide) (fun K hK => ?_)
         refine skip_ (w1 := ?_) (by rfl) rfl ?_ ?_
         rotate_left
         ·go_simp
          rfl
         refine hK.out _ _ ?_
         clear hK K
         refine done_ (done_of HT_.out (by kernel_rfl)) ?_
         try go_wp2
         go_roundg k2
         case measure => have := HJ3.out; have := HK2.out; omega
         case rel => exact ⟨(wrap64 (x22_2 + 1)), (y514), (.slice (some ⟨go39, 0, none⟩) x511003_2.length co41), (by first | rfl | (simp; done) | (simp [*]; done)), H', ⟨by have := HJ3.out; have := HK2.out; omega⟩, ⟨kr_ HQ42.out⟩, ⟨by (with_reducible repeat (first | refine blk_drewN ?_ _ | refine blk_drew ?_ | refine blk_alloc ?_ _)); refine blk_far ?_ (by have h_ := Kd.R_ne HO_511003.out BK501.out (by decide); intro e_; exact h_ (by rw [e_]; rfl)) _; (with_reducible repeat (first | refine blk_drewN ?_ _ | refine blk_drew ?_ | refine blk_alloc ?_ _)); exact BK501.out⟩, ⟨by (with_reducible repeat (first | refine blk_drewN ?_ _ | refine blk_drew ?_ | refine blk_alloc ?_ _)); refine blk_far ?_ (by have h_ := Kd.R_ne HO_511003.out BK502.out (by decide); intro e_; exact h_ (by rw [e_]; rfl)) _; (with_reducible repeat (first | refine blk_drewN ?_ _ | refine blk_drew ?_ | refine blk_alloc ?_ _)); exact BK502.out⟩, ⟨by (with_reducible repeat (first | refine blk_drewN ?_ _ | refine blk_drew ?_ | refine blk_alloc ?_ _)); refine blk_far ?_ (by have h_ := Kd.R_ne HO_511003.out BK510.out (by decide); intro e_; exact h_ (by rw [e_]; rfl)) _; (with_reducible repeat (first | refine blk_drewN ?_ _ | refine blk_drew ?_ | refine blk_alloc ?_ _)); exact BK510.out⟩, ⟨hb4_ HB.out GB39.out GE501.out GE502.out GE510.out⟩⟩
        ·rw [if_neg c37] at H
         exact absurd H (by simp)
       ·rw [if_neg c36] at H
        exact absurd H (by simp)
      ·rw [if_neg c35] at H
       have c35b0 : decide (x22_2 < (t506.length : Int)) = false := decide_eq_false c35
       clear c35
       simp only [Option.some.injEq, Prod.mk.injEq] at H
       obtain ⟨rfl, rfl, rfl, rfl, rfl, rfl⟩ := H
       have hnb43 := NB510_501.out
       have hnc43 := NB501_510.out
       have hnb44 := NB510_502.out
       have hnc44 := NB502_510.out
       obtain ⟨hcz45_0, hcz45_1, hcz45_2, hcz45_3, hcz45_4⟩ := cz5_ BK510.out
       obtain ⟨hfz45_0, hfz45_1, hfz45_2, hfz45_3, hfz45_4⟩ := fz5_ BK510.out
       have hnb46 := NB502_501.out
       have hnc46 := NB501_502.out
       obtain ⟨hcz47_0, hcz47_1, hcz47_2, hcz47_3, hcz47_4⟩ := cz5_ BK502.out
       obtain ⟨hfz47_0, hfz47_1, hfz47_2, hfz47_3, hfz47_4⟩ := fz5_ BK502.out
       obtain ⟨Ao48, co48, eo48⟩ := Kd.R_slice HO_511003.out
       subst eo48
       go_wp2
       refine bodyPost_ret (results_ct rfl _ _ gb502 30 #[.int .i64 t503, .int .i64 t504, .int .i64 t505, .slice Ao48 x511003_2.length co48, .int .i64 t509] (0, 0) _ rfl (bq5_ BK502.out) Try.underlying30 rfl (by kernel_rfl)) rfl ?_
       exact ⟨_, ex_, by (with_reducible repeat (first | apply Kd.R_alloc | apply Kd.R_drewN | apply Kd.R_drew)); exact Kd.R_mono (Kd.R_far (p := ⟨gb502, 4, none⟩) (Kd.R_far (p := ⟨gb502, 3, none⟩) (Kd.R_far (p := ⟨gb502, 2, none⟩) (Kd.R_far (p := ⟨gb502, 1, none⟩) (Kd.R_far (p := ⟨gb502, 0, none⟩) (Kd.R_types HO_511003.out BK502.out (by decide)) (fun _ hk => hk.2) (.int .i64 t503)) (fun _ hk => hk.2) (.int .i64 t504)) (fun _ hk => hk.2) (.int .i64 t505)) (fun _ hk => hk.2) (.slice Ao48 x511003_2.length co48)) (fun _ hk => hk.2) (.int .i64 t509)) (fun _ hk => trivial), hb3_ HB.out GE501.out GE502.out GE510.out⟩

end Go.Proofs.Ytgfhpjnofmbcoaa.X
