-- Written by a program of this session (xprint.py), out of the translation and of hand-written contracts. Lean checks it.
import Derived.Test.YtbdodiaedocmjaaDoorX0
import Derived.Test.YtbdodiaedocmjaaDoorXcto
import Derived.Test.YtbdodiaedocmjaaDoorXimplSwapTowards
import Derived.Test.YtbdodiaedocmjaaDoorXmathbitsTrailingZeros
import Derived.Test.YtbdodiaedocmjaaDoorXspecSwapTowards
namespace Go.Proofs.YtbdodiaedocmjaaDoor.X
open Go.RowKit Go.Proofs.YtbdodiaedocmjaaDoorW.PrintWords Go.Proofs.YtbdodiaedocmjaaDoorW.PrintLast Go.Proofs.YtbdodiaedocmjaaDoorW.PrintMore
attribute [local go_sem] max2_int min2_int max_two min_two max_three min_three max_four min_four   -- for this text's walks alone
set_option linter.unusedVariables false
set_option linter.unusedSimpArgs false

/-! ### laws_FnExactSwapTowards: function 3 -/
def laws_FnExactSwapTowards.f (k : Nat) (a0_0 : Int) (a0_1 : Int) (a0_2 : Int) (a1_0 : Int) (a1_1 : Int) (a1_2 : Int) : Option (Bool) := (laws_toMaze.f a0_0 a0_1 a0_2).bind fun bt503 => ((laws_toMaze.f a1_0 a1_1 a1_2).bind fun bt506 => ((spec_SwapTowards.f k bt503.1 bt503.2.1 bt503.2.2 bt506.1 bt506.2.1 bt506.2.2).bind fun bt509 => ((laws_toMaze.f a0_0 a0_1 a0_2).bind fun bt514 => ((laws_toMaze.f a1_0 a1_1 a1_2).bind fun bt517 => ((impl_SwapTowards.f k bt514.1 bt514.2.1 bt514.2.2 bt517.1 bt517.2.1 bt517.2.2).bind fun bt520 => ((laws_eqMaze.f bt520.1 bt520.2.1 bt520.2.2.1 bt509.1 bt509.2.1 bt509.2.2.1).bind fun t525 => (if t525 = true then (if (bt520.2.2.2 != bt509.2.2.2) = true then (some false) else (some true)) else (some false))))))))
theorem laws_FnExactSwapTowards.mono : ∀ a0 a1 a2 a3 a4 a5 k, LeO (laws_FnExactSwapTowards.f k a0 a1 a2 a3 a4 a5) (laws_FnExactSwapTowards.f (k + 1) a0 a1 a2 a3 a4 a5) := by
 intro a0 a1 a2 a3 a4 a5 k
 unfold laws_FnExactSwapTowards.f
 repeat' first
   | (with_reducible exact impl_SwapTowards.mono ..)
   | (with_reducible exact spec_SwapTowards.mono ..)
   | (with_reducible first | exact lr_ _ | exact ln_ _ | refine li_ ?_ ?_ | refine lb_ ?_ fun _ => ?_)
   | exact impl_SwapTowards.mono ..
   | exact spec_SwapTowards.mono ..
   | exact ln_ _ | refine li_ ?_ ?_ | refine lb_ ?_ fun _ => ?_
def laws_FnExactSwapTowards.T1 : Bool × List (List Nat × List Nat) := (true, [([], []), ([0], [0]), ([], []), ([2, 1], [2]), ([1, 3, 3], [1, 3]), ([4], [4]), ([5], [5]), ([5], [5]), ([], []), ([8, 6, 4, 0, 1, 2, 3, 4, 5, 6, 8], [6, 8]), ([7, 9, 0, 1, 2, 3, 4, 5, 6, 7, 8, 9], [7])])
def laws_FnExactSwapTowards.B1 : List Nat := [0, 1, 0, 7, 15, 31, 63, 63, 0, 383, 1023]
theorem laws_FnExactSwapTowards.tab1 : rtab .any (opsOf Tryd.f3 1) = laws_FnExactSwapTowards.T1 := by kernel_rfl
theorem laws_FnExactSwapTowards.bits1 : waitsOk laws_FnExactSwapTowards.T1.2 laws_FnExactSwapTowards.B1 = true := by kernel_rfl
def laws_FnExactSwapTowards.T2 : Bool × List (List Nat × List Nat) := (true, [([], []), ([0], [0]), ([], []), ([2, 1], [2]), ([1, 3, 3], [1, 3]), ([4], [4]), ([5], [5]), ([5], [5]), ([], []), ([8, 6, 4, 0, 1, 2, 3, 4, 5, 6, 8], [6, 8]), ([7, 9, 0, 1, 2, 3, 4, 5, 6, 7, 8, 9], [7])])
def laws_FnExactSwapTowards.B2 : List Nat := [0, 1, 0, 7, 15, 31, 63, 63, 0, 383, 1023]
theorem laws_FnExactSwapTowards.tab2 : rtab .any (opsOf Tryd.f3 2) = laws_FnExactSwapTowards.T2 := by kernel_rfl
theorem laws_FnExactSwapTowards.bits2 : waitsOk laws_FnExactSwapTowards.T2.2 laws_FnExactSwapTowards.B2 = true := by kernel_rfl
set_option maxHeartbeats 8000000 in
set_option maxRecDepth 100000 in
theorem laws_FnExactSwapTowards.calls (k : Nat) (a0_0 : Int) (a0_1 : Int) (a0_2 : Int) (a1_0 : Int) (a1_1 : Int) (a1_2 : Int) (r : Bool) (w : World) (h : laws_FnExactSwapTowards.f k a0_0 a0_1 a0_2 a1_0 a1_1 a1_2 = some r) (ht : TzTab w) :
  Calls Tryd.prog 3 #[.agg #[.int .i64 a0_0, .int .i64 a0_1, .int .i64 a0_2], .agg #[.int .i64 a1_0, .int .i64 a1_1, .int .i64 a1_2]] w fun e w' => e = .returned (.bool r) ∧ Below w.heap.size w w' := by
 have HZ := Aside0.mk ht
 clear ht
 have hu25 := Tryd.underlying25
 have hu28 := Tryd.underlying28
 have HB := Aside0.mk (Below.refl w.heap.size w)
 have H : ((laws_toMaze.f a0_0 a0_1 a0_2).bind fun bt503 => ((laws_toMaze.f a1_0 a1_1 a1_2).bind fun bt506 => ((spec_SwapTowards.f k bt503.1 bt503.2.1 bt503.2.2 bt506.1 bt506.2.1 bt506.2.2).bind fun bt509 => ((laws_toMaze.f a0_0 a0_1 a0_2).bind fun bt514 => ((laws_toMaze.f a1_0 a1_1 a1_2).bind fun bt517 => ((impl_SwapTowards.f k bt514.1 bt514.2.1 bt514.2.2 bt517.1 bt517.2.1 bt517.2.2).bind fun bt520 => ((laws_eqMaze.f bt520.1 bt520.2.1 bt520.2.2.1 bt509.1 bt509.2.1 bt509.2.2.1).bind fun t525 => (if t525 = true then (if (bt520.2.2.2 != bt509.2.2.2) = true then (some false) else (some true)) else (some false))))))))) = some r := h
 clear h
 replace H := Option.bind_eq_some_iff.mp H
 obtain ⟨⟨t503, t504, t505⟩, A30, H⟩ := H
 replace H : ((laws_toMaze.f a1_0 a1_1 a1_2).bind fun bt506 => ((spec_SwapTowards.f k t503 t504 t505 bt506.1 bt506.2.1 bt506.2.2).bind fun bt509 => ((laws_toMaze.f a0_0 a0_1 a0_2).bind fun bt514 => ((laws_toMaze.f a1_0 a1_1 a1_2).bind fun bt517 => ((impl_SwapTowards.f k bt514.1 bt514.2.1 bt514.2.2 bt517.1 bt517.2.1 bt517.2.2).bind fun bt520 => ((laws_eqMaze.f bt520.1 bt520.2.1 bt520.2.2.1 bt509.1 bt509.2.1 bt509.2.2.1).bind fun t525 => (if t525 = true then (if (bt520.2.2.2 != bt509.2.2.2) = true then (some false) else (some true)) else (some false)))))))) = some r := H
 have A3 := Aside0.mk A30
 clear A30
 replace H := Option.bind_eq_some_iff.mp H
 obtain ⟨⟨t506, t507, t508⟩, A40, H⟩ := H
 replace H : ((spec_SwapTowards.f k t503 t504 t505 t506 t507 t508).bind fun bt509 => ((laws_toMaze.f a0_0 a0_1 a0_2).bind fun bt514 => ((laws_toMaze.f a1_0 a1_1 a1_2).bind fun bt517 => ((impl_SwapTowards.f k bt514.1 bt514.2.1 bt514.2.2 bt517.1 bt517.2.1 bt517.2.2).bind fun bt520 => ((laws_eqMaze.f bt520.1 bt520.2.1 bt520.2.2.1 bt509.1 bt509.2.1 bt509.2.2.1).bind fun t525 => (if t525 = true then (if (bt520.2.2.2 != bt509.2.2.2) = true then (some false) else (some true)) else (some false))))))) = some r := H
 have A4 := Aside0.mk A40
 clear A40
 replace H := Option.bind_eq_some_iff.mp H
 obtain ⟨⟨t509, t510, t511, t512⟩, A50, H⟩ := H
 replace H : ((laws_toMaze.f a0_0 a0_1 a0_2).bind fun bt514 => ((laws_toMaze.f a1_0 a1_1 a1_2).bind fun bt517 => ((impl_SwapTowards.f k bt514.1 bt514.2.1 bt514.2.2 bt517.1 bt517.2.1 bt517.2.2).bind fun bt520 => ((laws_eqMaze.f bt520.1 bt520.2.1 bt520.2.2.1 t509 t510 t511).bind fun t525 => (if t525 = true then (if (bt520.2.2.2 != t512) = true then (some false) else (some true)) else (some false)))))) = some r := H
 have A5 := Aside0.mk A50
 clear A50
 replace H := Option.bind_eq_some_iff.mp H
 obtain ⟨⟨t514, t515, t516⟩, A60, H⟩ := H
 replace H : ((laws_toMaze.f a1_0 a1_1 a1_2).bind fun bt517 => ((impl_SwapTowards.f k t514 t515 t516 bt517.1 bt517.2.1 bt517.2.2).bind fun bt520 => ((laws_eqMaze.f bt520.1 bt520.2.1 bt520.2.2.1 t509 t510 t511).bind fun t525 => (if t525 = true then (if (bt520.2.2.2 != t512) = true then (some false) else (some true)) else (some false))))) = some r := H
 have A6 := Aside0.mk A60
 clear A60
 replace H := Option.bind_eq_some_iff.mp H
 obtain ⟨⟨t517, t518, t519⟩, A70, H⟩ := H
 replace H : ((impl_SwapTowards.f k t514 t515 t516 t517 t518 t519).bind fun bt520 => ((laws_eqMaze.f bt520.1 bt520.2.1 bt520.2.2.1 t509 t510 t511).bind fun t525 => (if t525 = true then (if (bt520.2.2.2 != t512) = true then (some false) else (some true)) else (some false)))) = some r := H
 have A7 := Aside0.mk A70
 clear A70
 replace H := Option.bind_eq_some_iff.mp H
 obtain ⟨⟨t520, t521, t522, t523⟩, A80, H⟩ := H
 replace H : ((laws_eqMaze.f t520 t521 t522 t509 t510 t511).bind fun t525 => (if t525 = true then (if (t523 != t512) = true then (some false) else (some true)) else (some false))) = some r := H
 have A8 := Aside0.mk A80
 clear A80
 replace H := Option.bind_eq_some_iff.mp H
 obtain ⟨t525, A90, H⟩ := H
 replace H : (if t525 = true then (if (t523 != t512) = true then (some false) else (some true)) else (some false)) = some r := H
 have A9 := Aside0.mk A90
 clear A90
 by_cases c10 : t525 = true
 ·subst c10
  have H1 : (if (t523 != t512) = true then (some false) else (some true)) = some r := by rw [if_pos rfl] at H; exact H
  clear H
  have H := H1
  clear H1
  by_cases c11 : (t523 != t512) = true
  ·rw [if_pos c11] at H
   have c11b0 : (t523 != t512) = true := c11
   (try (have c11b1 : decide (t523 = t512) = false := by simpa using c11))
   (try (have c11b2 : (t523 == t512) = false := by simpa using c11))
   (try (have c11b3 : ¬ (t523 = t512) := by simpa using c11))
   clear c11
   obtain rfl := Option.some.inj H
   go_enter Tryd.func3, Tryd.ntmps3
   try go_wp2_with ((with_reducible refine gw_ ?_); first | (refine box_ (N := 2) (cs := #[.int .i64 a0_0, .int .i64 a0_1, .int .i64 a0_2]) (t := 25) ?_; intro gb501 hg w12 hbox hb; have BK501 := Aside0.mk (hbox); have GW501 := HB.g0 hg; have GE501 := HB.g0 hg; replace HB := HB.s0 hb; clear hb hbox hg) | (refine box_ (N := 3) (cs := #[.int .i64 a1_0, .int .i64 a1_1, .int .i64 a1_2]) (t := 25) ?_; intro gb502 hg w13 hbox hb; have BK502 := Aside0.mk (hbox); have GW502 := HB.g1 GE501 hg; have GE502 := HB.g1 GE501 hg; replace HB := HB.s1 GE501 hb; have NB501_502 := BK501.nl hg; have NB502_501 := BK501.nr hg; replace BK501 := BK501.bb hb; clear hb hbox hg))
   replace BK501 := Aside0.mk (blk_drew BK501.out)
   replace BK502 := Aside0.mk (blk_drew BK502.out)
   replace HB := Aside0.mk (below_drew1 HB.out)
   refine start_ (n := 11) (S := fun w' => w'.cell? ⟨gb501, 0, none⟩ = some (.int .i64 a0_0) ∧ w'.cell? ⟨gb501, 1, none⟩ = some (.int .i64 a0_1) ∧ w'.cell? ⟨gb501, 2, none⟩ = some (.int .i64 a0_2) ∧ w'.cell? ⟨gb502, 0, none⟩ = some (.int .i64 a1_0) ∧ w'.cell? ⟨gb502, 1, none⟩ = some (.int .i64 a1_1) ∧ w'.cell? ⟨gb502, 2, none⟩ = some (.int .i64 a1_2)) (ds := []) #[false, false, false, false, false, false, false, false, false, false, false] (by kernel_rfl) rfl rfl ⟨BK501.c 0, BK501.c 1, BK501.c 2, BK502.c 0, BK502.c 1, BK502.c 2⟩ (fun hHeld => ?_); refine with_tabW laws_FnExactSwapTowards.tab1 laws_FnExactSwapTowards.bits1 (fun HT_ HW_ => ?_)
   generalize w13.drew = w14 at BK501 BK502 HB hHeld ⊢
   refine tv6_ (i := 0) (N := some 10) HT_.out HW_.out hHeld ?_
   refine tv6_ (i := 2) (N := some 12) HT_.out HW_.out hHeld ?_
   refine join_ (σ := Nat) 2 #[true, true, true, true, true, true, true, true, true, false, false] (fun s_ => [(11, .agg #[.int .i64 t503, .int .i64 t504, .int .i64 t505]), (13, .agg #[.int .i64 t506, .int .i64 t507, .int .i64 t508]), (14, .tuple #[.agg #[.int .i64 t509, .int .i64 t510, .int .i64 t511], .bool t512]), (5, .pointer (some ⟨s_, 0, none⟩)), (9, .tuple #[.agg #[.int .i64 t509, .int .i64 t510, .int .i64 t511], .bool t512]), (15, .agg #[.int .i64 t509, .int .i64 t510, .int .i64 t511]), (16, .bool t512)]) (fun s_ w' => (w'.cell? ⟨gb501, 0, none⟩ = some (.int .i64 a0_0) ∧ w'.cell? ⟨gb501, 1, none⟩ = some (.int .i64 a0_1) ∧ w'.cell? ⟨gb501, 2, none⟩ = some (.int .i64 a0_2) ∧ w'.cell? ⟨gb502, 0, none⟩ = some (.int .i64 a1_0) ∧ w'.cell? ⟨gb502, 1, none⟩ = some (.int .i64 a1_1) ∧ w'.cell? ⟨gb502, 2, none⟩ = some (.int .i64 a1_2)) ∧ (w'.heap[gb501]? = some (.cells #[.int .i64 a0_0, .int .i64 a0_1, .int .i64 a0_2] 25 (0, 0))) ∧ (w'.heap[gb502]? = some (.cells #[.int .i64 a1_0, .int .i64 a1_1, .int .i64 a1_2] 25 (0, 0))) ∧ (w'.heap[s_]? = some (.cells #[.int .i64 0, .int .i64 0, .int .i64 0] 28 (0, 0))) ∧ (w.heap.size ≤ s_) ∧ (w.heap.size ≤ s_) ∧ (gb501 ≠ s_) ∧ (s_ ≠ gb501) ∧ (gb502 ≠ s_) ∧ (s_ ≠ gb502) ∧ (Below w.heap.size w w')) ?_ ?_
   rotate_left
   ·intro hCont
    refine two_ (i := 1) (j := 8) (Ni := some 11) (Nj := some 5) #[true, true, true, false, false, false, false, false, false, false, false] #[true, false, true, false, false, false, false, false, true, false, false] rfl rfl rfl rfl (two_of HT_.out (by kernel_rfl)) (by decide) (by decide) (fun K hK => ?_) (fun K hK => ?_)
    ·skip
     refine gq_ Tryd.func6 #[.agg #[.int .i64 a0_0, .int .i64 a0_1, .int .i64 a0_2]] ?_
     with_reducible refine (laws_toMaze.calls a0_0 a0_1 a0_2 t503 t504 t505 _ A3.out).mono ?_
     rintro e w15 ⟨rfl, hb⟩
     refine ⟨_, rfl, ?_⟩
     replace BK501 := BK501.bb hb
     replace BK502 := BK502.bb hb
     replace HB := HB.s2 GE501 GE502 hb
     skip
     (try clear hb2)
     (try clear hk)
     (try clear hi)
     refine hK.out _ _ ⟨BK501.c 0, BK501.c 1, BK501.c 2, BK502.c 0, BK502.c 1, BK502.c 2⟩ (fun hHeld => ?_)
     clear hK K
     refine nm_ ?_
     refine two_ (i := 3) (j := 8) (Ni := some 13) (Nj := some 5) #[true, true, true, true, false, false, false, false, false, false, false] #[true, true, true, false, false, false, false, false, true, false, false] rfl rfl rfl rfl (two_of HT_.out (by kernel_rfl)) (by decide) (by decide) (fun K hK => ?_) (fun K hK => ?_)
     ·skip
      refine gq_ Tryd.func6 #[.agg #[.int .i64 a1_0, .int .i64 a1_1, .int .i64 a1_2]] ?_
      with_reducible refine (laws_toMaze.calls a1_0 a1_1 a1_2 t506 t507 t508 _ A4.out).mono ?_
      rintro e w16 ⟨rfl, hb⟩
      refine ⟨_, rfl, ?_⟩
      replace BK501 := BK501.bb hb
      replace BK502 := BK502.bb hb
      replace HB := HB.s2 GE501 GE502 hb
      skip
      (try clear hb2)
      (try clear hk)
      (try clear hi)
      refine hK.out _ _ ⟨BK501.c 0, BK501.c 1, BK501.c 2, BK502.c 0, BK502.c 1, BK502.c 2⟩ (fun hHeld => ?_)
      clear hK K
      refine nm_ ?_
      refine two_ (i := 4) (j := 8) (Ni := some 14) (Nj := some 5) #[true, true, true, true, true, false, false, false, false, false, false] #[true, true, true, true, false, false, false, false, true, false, false] rfl rfl rfl rfl (two_of HT_.out (by kernel_rfl)) (by decide) (by decide) (fun K hK => ?_) (fun K hK => ?_)
      ·skip
       refine gq_ Tryd.func5 #[.agg #[.int .i64 t503, .int .i64 t504, .int .i64 t505], .agg #[.int .i64 t506, .int .i64 t507, .int .i64 t508]] ?_
       with_reducible refine (spec_SwapTowards.calls k t503 t504 t505 t506 t507 t508 t509 t510 t511 t512 _ A5.out).mono ?_
       rintro e w17 ⟨rfl, hb⟩
       refine ⟨_, rfl, ?_⟩
       replace BK501 := BK501.bb hb
       replace BK502 := BK502.bb hb
       replace HB := HB.s2 GE501 GE502 hb
       skip
       (try clear hb2)
       (try clear hk)
       (try clear hi)
       refine hK.out _ _ ⟨BK501.c 0, BK501.c 1, BK501.c 2, BK502.c 0, BK502.c 1, BK502.c 2⟩ (fun hHeld => ?_)
       clear hK K
       refine nm_ ?_
       refine pv_ (i := 5) (N := some 9) HT_.out ?_
       refine pv_ (i := 6) (N := some 15) HT_.out ?_
       refine pv_ (i := 7) (N := some 16) HT_.out ?_
       refine ov_ (i := 8) (N := some 5) HT_.out (fun K hK => ?_)
       refine box_step ?hg (N := 5) ?hd (cs := #[.int .i64 0, .int .i64 0, .int .i64 0]) (t := 28) ?hr ?_; (case hd => rfl); (case hg => rfl); (case hr => first | (go_simp; done) | (go_simp; rfl))
       intro gb513 hg w18 hbox hb
       have n0_ := BK501.bb hb
       have n1_ := BK502.bb hb
       have n2_ := HB.s2 GE501 GE502 hb
       have n3_ := Aside0.mk (hbox)
       have n4_ := HB.g2 GE501 GE502 hg
       have n5_ := HB.g2 GE501 GE502 hg
       have n6_ := BK501.nl hg
       have n7_ := BK501.nr hg
       have n8_ := BK502.nl hg
       have n9_ := BK502.nr hg
       clear BK501
       clear BK502
       clear HB
       have BK501 := n0_
       have BK502 := n1_
       have HB := n2_
       have BK513 := n3_
       have GW513 := n4_
       have GE513 := n5_
       have NB501_513 := n6_
       have NB513_501 := n7_
       have NB502_513 := n8_
       have NB513_502 := n9_
       clear n0_ n1_ n2_ n3_ n4_ n5_ n6_ n7_ n8_ n9_
       clear hb hbox hg
       refine hK.out _ _ ⟨BK501.c 0, BK501.c 1, BK501.c 2, BK502.c 0, BK502.c 1, BK502.c 2⟩ (fun hHeld => ?_)
       clear hK K
       refine norm_ (a' := ?_) ?_ ?_
       rotate_left
       ·show Act.put _ (some 5) _ = _
        simp only [Act.put, List.setIfInBounds_toArray, List.set_cons_zero, List.set_cons_succ, i64_w, i32_w]
        rfl
       exact norm_ (by simp only [putAll, Act.put, List.setIfInBounds_toArray, List.set_cons_zero, List.set_cons_succ]) (hCont (gb513) _ ⟨hHeld, (bk_ BK501.out), (bk_ BK502.out), (bk_ BK513.out), GW513.out, GE513.out, NB501_513.out, NB513_501.out, NB502_513.out, NB513_502.out, (hb3_ HB.out GE501.out GE502.out GE513.out)⟩)
      ·skip
       refine box_step ?hg (N := 5) ?hd (cs := #[.int .i64 0, .int .i64 0, .int .i64 0]) (t := 28) ?hr ?_; (case hd => rfl); (case hg => rfl); (case hr => first | (go_simp; done) | (go_simp; rfl))
       intro gb513 hg w17 hbox hb
       have n0_ := BK501.bb hb
       have n1_ := BK502.bb hb
       have n2_ := HB.s2 GE501 GE502 hb
       have n3_ := Aside0.mk (hbox)
       have n4_ := HB.g2 GE501 GE502 hg
       have n5_ := HB.g2 GE501 GE502 hg
       have n6_ := BK501.nl hg
       have n7_ := BK501.nr hg
       have n8_ := BK502.nl hg
       have n9_ := BK502.nr hg
       clear BK501
       clear BK502
       clear HB
       have BK501 := n0_
       have BK502 := n1_
       have HB := n2_
       have BK513 := n3_
       have GW513 := n4_
       have GE513 := n5_
       have NB501_513 := n6_
       have NB513_501 := n7_
       have NB502_513 := n8_
       have NB513_502 := n9_
       clear n0_ n1_ n2_ n3_ n4_ n5_ n6_ n7_ n8_ n9_
       clear hb hbox hg
       refine hK.out _ _ ⟨BK501.c 0, BK501.c 1, BK501.c 2, BK502.c 0, BK502.c 1, BK502.c 2⟩ (fun hHeld => ?_)
       clear hK K
       refine norm_ (a' := ?_) ?_ ?_
       rotate_left
       ·show Act.put _ (some 5) _ = _
        simp only [Act.put, List.setIfInBounds_toArray, List.set_cons_zero, List.set_cons_succ, i64_w, i32_w]
        rfl
       refine ov_ (i := 4) (N := some 14) HT_.out (fun K hK => ?_)
       refine gq_ Tryd.func5 #[.agg #[.int .i64 t503, .int .i64 t504, .int .i64 t505], .agg #[.int .i64 t506, .int .i64 t507, .int .i64 t508]] ?_
       with_reducible refine (spec_SwapTowards.calls k t503 t504 t505 t506 t507 t508 t509 t510 t511 t512 _ A5.out).mono ?_
       rintro e w18 ⟨rfl, hb⟩
       refine ⟨_, rfl, ?_⟩
       replace BK501 := BK501.bb hb
       replace BK502 := BK502.bb hb
       replace BK513 := BK513.bb hb
       replace HB := HB.s3 GE501 GE502 GE513 hb
       skip
       (try clear hb2)
       (try clear hk)
       (try clear hi)
       refine hK.out _ _ ⟨BK501.c 0, BK501.c 1, BK501.c 2, BK502.c 0, BK502.c 1, BK502.c 2⟩ (fun hHeld => ?_)
       clear hK K
       refine nm_ ?_
       refine pv_ (i := 5) (N := some 9) HT_.out ?_
       refine pv_ (i := 6) (N := some 15) HT_.out ?_
       refine pv_ (i := 7) (N := some 16) HT_.out ?_
       exact norm_ (by simp only [putAll, Act.put, List.setIfInBounds_toArray, List.set_cons_zero, List.set_cons_succ]) (hCont (gb513) _ ⟨hHeld, (bk_ BK501.out), (bk_ BK502.out), (bk_ BK513.out), GW513.out, GE513.out, NB501_513.out, NB513_501.out, NB502_513.out, NB513_502.out, (hb3_ HB.out GE501.out GE502.out GE513.out)⟩)
     ·skip
      refine box_step ?hg (N := 5) ?hd (cs := #[.int .i64 0, .int .i64 0, .int .i64 0]) (t := 28) ?hr ?_; (case hd => rfl); (case hg => rfl); (case hr => first | (go_simp; done) | (go_simp; rfl))
      intro gb513 hg w16 hbox hb
      have n0_ := BK501.bb hb
      have n1_ := BK502.bb hb
      have n2_ := HB.s2 GE501 GE502 hb
      have n3_ := Aside0.mk (hbox)
      have n4_ := HB.g2 GE501 GE502 hg
      have n5_ := HB.g2 GE501 GE502 hg
      have n6_ := BK501.nl hg
      have n7_ := BK501.nr hg
      have n8_ := BK502.nl hg
      have n9_ := BK502.nr hg
      clear BK501
      clear BK502
      clear HB
      have BK501 := n0_
      have BK502 := n1_
      have HB := n2_
      have BK513 := n3_
      have GW513 := n4_
      have GE513 := n5_
      have NB501_513 := n6_
      have NB513_501 := n7_
      have NB502_513 := n8_
      have NB513_502 := n9_
      clear n0_ n1_ n2_ n3_ n4_ n5_ n6_ n7_ n8_ n9_
      clear hb hbox hg
      refine hK.out _ _ ⟨BK501.c 0, BK501.c 1, BK501.c 2, BK502.c 0, BK502.c 1, BK502.c 2⟩ (fun hHeld => ?_)
      clear hK K
      refine norm_ (a' := ?_) ?_ ?_
      rotate_left
      ·show Act.put _ (some 5) _ = _
       simp only [Act.put, List.setIfInBounds_toArray, List.set_cons_zero, List.set_cons_succ, i64_w, i32_w]
       rfl
      refine ov_ (i := 3) (N := some 13) HT_.out (fun K hK => ?_)
      refine gq_ Tryd.func6 #[.agg #[.int .i64 a1_0, .int .i64 a1_1, .int .i64 a1_2]] ?_
      with_reducible refine (laws_toMaze.calls a1_0 a1_1 a1_2 t506 t507 t508 _ A4.out).mono ?_
      rintro e w17 ⟨rfl, hb⟩
      refine ⟨_, rfl, ?_⟩
      replace BK501 := BK501.bb hb
      replace BK502 := BK502.bb hb
      replace BK513 := BK513.bb hb
      replace HB := HB.s3 GE501 GE502 GE513 hb
      skip
      (try clear hb2)
      (try clear hk)
      (try clear hi)
      refine hK.out _ _ ⟨BK501.c 0, BK501.c 1, BK501.c 2, BK502.c 0, BK502.c 1, BK502.c 2⟩ (fun hHeld => ?_)
      clear hK K
      refine nm_ ?_
      refine ov_ (i := 4) (N := some 14) HT_.out (fun K hK => ?_)
      refine gq_ Tryd.func5 #[.agg #[.int .i64 t503, .int .i64 t504, .int .i64 t505], .agg #[.int .i64 t506, .int .i64 t507, .int .i64 t508]] ?_
      with_reducible refine (spec_SwapTowards.calls k t503 t504 t505 t506 t507 t508 t509 t510 t511 t512 _ A5.out).mono ?_
      rintro e w18 ⟨rfl, hb⟩
      refine ⟨_, rfl, ?_⟩
      replace BK501 := BK501.bb hb
      replace BK502 := BK502.bb hb
      replace BK513 := BK513.bb hb
      replace HB := HB.s3 GE501 GE502 GE513 hb
      skip
      (try clear hb2)
      (try clear hk)
      (try clear hi)
      refine hK.out _ _ ⟨BK501.c 0, BK501.c 1, BK501.c 2, BK502.c 0, BK502.c 1, BK502.c 2⟩ (fun hHeld => ?_)
      clear hK K
      refine nm_ ?_
      refine pv_ (i := 5) (N := some 9) HT_.out ?_
      refine pv_ (i := 6) (N := some 15) HT_.out ?_
      refine pv_ (i := 7) (N := some 16) HT_.out ?_
      exact norm_ (by simp only [putAll, Act.put, List.setIfInBounds_toArray, List.set_cons_zero, List.set_cons_succ]) (hCont (gb513) _ ⟨hHeld, (bk_ BK501.out), (bk_ BK502.out), (bk_ BK513.out), GW513.out, GE513.out, NB501_513.out, NB513_501.out, NB502_513.out, NB513_502.out, (hb3_ HB.out GE501.out GE502.out GE513.out)⟩)
    ·skip
     refine box_step ?hg (N := 5) ?hd (cs := #[.int .i64 0, .int .i64 0, .int .i64 0]) (t := 28) ?hr ?_; (case hd => rfl); (case hg => rfl); (case hr => first | (go_simp; done) | (go_simp; rfl))
     intro gb513 hg w15 hbox hb
     have n0_ := BK501.bb hb
     have n1_ := BK502.bb hb
     have n2_ := HB.s2 GE501 GE502 hb
     have n3_ := Aside0.mk (hbox)
     have n4_ := HB.g2 GE501 GE502 hg
     have n5_ := HB.g2 GE501 GE502 hg
     have n6_ := BK501.nl hg
     have n7_ := BK501.nr hg
     have n8_ := BK502.nl hg
     have n9_ := BK502.nr hg
     clear BK501
     clear BK502
     clear HB
     have BK501 := n0_
     have BK502 := n1_
     have HB := n2_
     have BK513 := n3_
     have GW513 := n4_
     have GE513 := n5_
     have NB501_513 := n6_
     have NB513_501 := n7_
     have NB502_513 := n8_
     have NB513_502 := n9_
     clear n0_ n1_ n2_ n3_ n4_ n5_ n6_ n7_ n8_ n9_
     clear hb hbox hg
     refine hK.out _ _ ⟨BK501.c 0, BK501.c 1, BK501.c 2, BK502.c 0, BK502.c 1, BK502.c 2⟩ (fun hHeld => ?_)
     clear hK K
     refine norm_ (a' := ?_) ?_ ?_
     rotate_left
     ·show Act.put _ (some 5) _ = _
      simp only [Act.put, List.setIfInBounds_toArray, List.set_cons_zero, List.set_cons_succ, i64_w, i32_w]
      rfl
     refine ov_ (i := 1) (N := some 11) HT_.out (fun K hK => ?_)
     refine gq_ Tryd.func6 #[.agg #[.int .i64 a0_0, .int .i64 a0_1, .int .i64 a0_2]] ?_
     with_reducible refine (laws_toMaze.calls a0_0 a0_1 a0_2 t503 t504 t505 _ A3.out).mono ?_
     rintro e w16 ⟨rfl, hb⟩
     refine ⟨_, rfl, ?_⟩
     replace BK501 := BK501.bb hb
     replace BK502 := BK502.bb hb
     replace BK513 := BK513.bb hb
     replace HB := HB.s3 GE501 GE502 GE513 hb
     skip
     (try clear hb2)
     (try clear hk)
     (try clear hi)
     refine hK.out _ _ ⟨BK501.c 0, BK501.c 1, BK501.c 2, BK502.c 0, BK502.c 1, BK502.c 2⟩ (fun hHeld => ?_)
     clear hK K
     refine nm_ ?_
     refine ov_ (i := 3) (N := some 13) HT_.out (fun K hK => ?_)
     refine gq_ Tryd.func6 #[.agg #[.int .i64 a1_0, .int .i64 a1_1, .int .i64 a1_2]] ?_
     with_reducible refine (laws_toMaze.calls a1_0 a1_1 a1_2 t506 t507 t508 _ A4.out).mono ?_
     rintro e w17 ⟨rfl, hb⟩
     refine ⟨_, rfl, ?_⟩
     replace BK501 := BK501.bb hb
     replace BK502 := BK502.bb hb
     replace BK513 := BK513.bb hb
     replace HB := HB.s3 GE501 GE502 GE513 hb
     skip
     (try clear hb2)
     (try clear hk)
     (try clear hi)
     refine hK.out _ _ ⟨BK501.c 0, BK501.c 1, BK501.c 2, BK502.c 0, BK502.c 1, BK502.c 2⟩ (fun hHeld => ?_)
     clear hK K
     refine nm_ ?_
     refine ov_ (i := 4) (N := some 14) HT_.out (fun K hK => ?_)
     refine gq_ Tryd.func5 #[.agg #[.int .i64 t503, .int .i64 t504, .int .i64 t505], .agg #[.int .i64 t506, .int .i64 t507, .int .i64 t508]] ?_
     with_reducible refine (spec_SwapTowards.calls k t503 t504 t505 t506 t507 t508 t509 t510 t511 t512 _ A5.out).mono ?_
     rintro e w18 ⟨rfl, hb⟩
     refine ⟨_, rfl, ?_⟩
     replace BK501 := BK501.bb hb
     replace BK502 := BK502.bb hb
     replace BK513 := BK513.bb hb
     replace HB := HB.s3 GE501 GE502 GE513 hb
     skip
     (try clear hb2)
     (try clear hk)
     (try clear hi)
     refine hK.out _ _ ⟨BK501.c 0, BK501.c 1, BK501.c 2, BK502.c 0, BK502.c 1, BK502.c 2⟩ (fun hHeld => ?_)
     clear hK K
     refine nm_ ?_
     refine pv_ (i := 5) (N := some 9) HT_.out ?_
     refine pv_ (i := 6) (N := some 15) HT_.out ?_
     refine pv_ (i := 7) (N := some 16) HT_.out ?_
     exact norm_ (by simp only [putAll, Act.put, List.setIfInBounds_toArray, List.set_cons_zero, List.set_cons_succ]) (hCont (gb513) _ ⟨hHeld, (bk_ BK501.out), (bk_ BK502.out), (bk_ BK513.out), GW513.out, GE513.out, NB501_513.out, NB513_501.out, NB502_513.out, NB513_502.out, (hb3_ HB.out GE501.out GE502.out GE513.out)⟩)
   rintro gb513 w19 ⟨hS_, h0_, h1_, h2_, h3_, h4_, h5_, h6_, h7_, h8_, h9_⟩
   have n0_ : Aside0 (w19.heap[gb501]? = some (.cells #[.int .i64 a0_0, .int .i64 a0_1, .int .i64 a0_2] 25 (0, 0))) := ⟨h0_⟩
   have n1_ : Aside0 (w19.heap[gb502]? = some (.cells #[.int .i64 a1_0, .int .i64 a1_1, .int .i64 a1_2] 25 (0, 0))) := ⟨h1_⟩
   have n2_ : Aside0 (w19.heap[gb513]? = some (.cells #[.int .i64 0, .int .i64 0, .int .i64 0] 28 (0, 0))) := ⟨h2_⟩
   have n3_ : Aside0 (w.heap.size ≤ gb513) := ⟨h3_⟩
   have n4_ : Aside0 (w.heap.size ≤ gb513) := ⟨h4_⟩
   have n5_ : Aside0 (gb501 ≠ gb513) := ⟨h5_⟩
   have n6_ : Aside0 (gb513 ≠ gb501) := ⟨h6_⟩
   have n7_ : Aside0 (gb502 ≠ gb513) := ⟨h7_⟩
   have n8_ : Aside0 (gb513 ≠ gb502) := ⟨h8_⟩
   have n9_ : Aside0 (Below w.heap.size w w19) := ⟨h9_⟩
   clear BK501
   clear BK502
   clear HB
   clear h0_ h1_ h2_ h3_ h4_ h5_ h6_ h7_ h8_ h9_
   have BK501 := n0_
   have BK502 := n1_
   have BK513 := n2_
   have GW513 := n3_
   have GE513 := n4_
   have NB501_513 := n5_
   have NB513_501 := n6_
   have NB502_513 := n7_
   have NB513_502 := n8_
   have HB := n9_
   clear n0_ n1_ n2_ n3_ n4_ n5_ n6_ n7_ n8_ n9_
   have hHeld : w19.cell? ⟨gb501, 0, none⟩ = some (.int .i64 a0_0) ∧ w19.cell? ⟨gb501, 1, none⟩ = some (.int .i64 a0_1) ∧ w19.cell? ⟨gb501, 2, none⟩ = some (.int .i64 a0_2) ∧ w19.cell? ⟨gb502, 0, none⟩ = some (.int .i64 a1_0) ∧ w19.cell? ⟨gb502, 1, none⟩ = some (.int .i64 a1_1) ∧ w19.cell? ⟨gb502, 2, none⟩ = some (.int .i64 a1_2) := hS_
   refine norm_ (a' := ?_) ?_ ?_
   rotate_left
   ·simp only [putAll, Act.put, List.setIfInBounds_toArray, List.set_cons_zero, List.set_cons_succ]
    rfl
   refine one_ (i := 9) (N := none) #[true, true, true, true, true, true, true, true, true, true, false] rfl rfl (one_of HT_.out (by kernel_rfl)) (by decide) (fun K hK => ?_)
   have hs20 : w19.cell? ⟨gb513, 0, none⟩ = some (.int .i64 0) := BK513.c 0
   have hfs20 := blk_frozen BK513.out 0
   have hns20_0 := NB501_513.out
   have hns20_1 := NB502_513.out
   have hms20_0 := NB513_501.out
   have hms20_1 := NB513_502.out
   have hs21 : w19.cell? ⟨gb513, 1, none⟩ = some (.int .i64 0) := BK513.c 1
   have hfs21 := blk_frozen BK513.out 1
   have hns21_0 := NB501_513.out
   have hns21_1 := NB502_513.out
   have hms21_0 := NB513_501.out
   have hms21_1 := NB513_502.out
   have hs22 : w19.cell? ⟨gb513, 2, none⟩ = some (.int .i64 0) := BK513.c 2
   have hfs22 := blk_frozen BK513.out 2
   have hns22_0 := NB501_513.out
   have hns22_1 := NB502_513.out
   have hms22_0 := NB513_501.out
   have hms22_1 := NB513_502.out
   refine skip_ (w1 := ?_) (by rfl) rfl ?_ ?_
   rotate_left
   ·go_simp
    rfl
   refine hK.out _ _ ⟨((cell_far (p := ⟨gb513, _, none⟩) NB501_513.out _).trans (((cell_far (p := ⟨gb513, _, none⟩) NB501_513.out _).trans (((cell_far (p := ⟨gb513, _, none⟩) NB501_513.out _).trans (hHeld.1)))))), ((cell_far (p := ⟨gb513, _, none⟩) NB501_513.out _).trans (((cell_far (p := ⟨gb513, _, none⟩) NB501_513.out _).trans (((cell_far (p := ⟨gb513, _, none⟩) NB501_513.out _).trans (hHeld.2.1)))))), ((cell_far (p := ⟨gb513, _, none⟩) NB501_513.out _).trans (((cell_far (p := ⟨gb513, _, none⟩) NB501_513.out _).trans (((cell_far (p := ⟨gb513, _, none⟩) NB501_513.out _).trans (hHeld.2.2.1)))))), ((cell_far (p := ⟨gb513, _, none⟩) NB502_513.out _).trans (((cell_far (p := ⟨gb513, _, none⟩) NB502_513.out _).trans (((cell_far (p := ⟨gb513, _, none⟩) NB502_513.out _).trans (hHeld.2.2.2.1)))))), ((cell_far (p := ⟨gb513, _, none⟩) NB502_513.out _).trans (((cell_far (p := ⟨gb513, _, none⟩) NB502_513.out _).trans (((cell_far (p := ⟨gb513, _, none⟩) NB502_513.out _).trans (hHeld.2.2.2.2.1)))))), ((cell_far (p := ⟨gb513, _, none⟩) NB502_513.out _).trans (((cell_far (p := ⟨gb513, _, none⟩) NB502_513.out _).trans (((cell_far (p := ⟨gb513, _, none⟩) NB502_513.out _).trans (hHeld.2.2.2.2.2))))))⟩ (fun hHeld => ?_)
   clear hK K
   refine pv_ (i := 10) (N := some 6) HT_.out ?_
   refine done_ (done_of HT_.out (by kernel_rfl)) ?_
   try go_wp2
   have n0_ : Aside0 ((((w19.setCell ⟨gb513, 0, none⟩ (.int .i64 t509)).setCell ⟨gb513, 1, none⟩ (.int .i64 t510)).setCell ⟨gb513, 2, none⟩ (.int .i64 t511)).heap[gb501]? = some (.cells #[.int .i64 a0_0, .int .i64 a0_1, .int .i64 a0_2] 25 (0, 0))) := ⟨by (with_reducible repeat (first | refine blk_drewN ?_ _ | refine blk_drew ?_ | refine blk_alloc ?_ _)); refine blk_far ?_ NB501_513.out _; (with_reducible repeat (first | refine blk_drewN ?_ _ | refine blk_drew ?_ | refine blk_alloc ?_ _)); refine blk_far ?_ NB501_513.out _; (with_reducible repeat (first | refine blk_drewN ?_ _ | refine blk_drew ?_ | refine blk_alloc ?_ _)); refine blk_far ?_ NB501_513.out _; (with_reducible repeat (first | refine blk_drewN ?_ _ | refine blk_drew ?_ | refine blk_alloc ?_ _)); exact BK501.out⟩
   have n1_ : Aside0 ((((w19.setCell ⟨gb513, 0, none⟩ (.int .i64 t509)).setCell ⟨gb513, 1, none⟩ (.int .i64 t510)).setCell ⟨gb513, 2, none⟩ (.int .i64 t511)).heap[gb502]? = some (.cells #[.int .i64 a1_0, .int .i64 a1_1, .int .i64 a1_2] 25 (0, 0))) := ⟨by (with_reducible repeat (first | refine blk_drewN ?_ _ | refine blk_drew ?_ | refine blk_alloc ?_ _)); refine blk_far ?_ NB502_513.out _; (with_reducible repeat (first | refine blk_drewN ?_ _ | refine blk_drew ?_ | refine blk_alloc ?_ _)); refine blk_far ?_ NB502_513.out _; (with_reducible repeat (first | refine blk_drewN ?_ _ | refine blk_drew ?_ | refine blk_alloc ?_ _)); refine blk_far ?_ NB502_513.out _; (with_reducible repeat (first | refine blk_drewN ?_ _ | refine blk_drew ?_ | refine blk_alloc ?_ _)); exact BK502.out⟩
   have n2_ : Aside0 ((((w19.setCell ⟨gb513, 0, none⟩ (.int .i64 t509)).setCell ⟨gb513, 1, none⟩ (.int .i64 t510)).setCell ⟨gb513, 2, none⟩ (.int .i64 t511)).heap[gb513]? = some (.cells #[.int .i64 t509, .int .i64 t510, .int .i64 t511] 28 (0, 0))) := ⟨bq3_ BK513.out⟩
   have n3_ : Aside0 (Below w.heap.size w (((w19.setCell ⟨gb513, 0, none⟩ (.int .i64 t509)).setCell ⟨gb513, 1, none⟩ (.int .i64 t510)).setCell ⟨gb513, 2, none⟩ (.int .i64 t511))) := ⟨hb3_ HB.out GE501.out GE502.out GE513.out⟩
   (try clear BK501)
   (try clear BK502)
   (try clear BK513)
   (try clear HB)
   generalize (((w19.setCell ⟨gb513, 0, none⟩ (.int .i64 t509)).setCell ⟨gb513, 1, none⟩ (.int .i64 t510)).setCell ⟨gb513, 2, none⟩ (.int .i64 t511)) = w23 at n0_ n1_ n2_ n3_ ⊢
   have BK501 := n0_
   have BK502 := n1_
   have BK513 := n2_
   have HB := n3_
   clear n0_ n1_ n2_ n3_
   replace BK501 := Aside0.mk (blk_drew BK501.out)
   replace BK502 := Aside0.mk (blk_drew BK502.out)
   replace BK513 := Aside0.mk (blk_drew BK513.out)
   replace HB := Aside0.mk (below_drew1 HB.out)
   refine start_ (n := 11) (S := fun w' => w'.cell? ⟨gb501, 0, none⟩ = some (.int .i64 a0_0) ∧ w'.cell? ⟨gb501, 1, none⟩ = some (.int .i64 a0_1) ∧ w'.cell? ⟨gb501, 2, none⟩ = some (.int .i64 a0_2) ∧ w'.cell? ⟨gb502, 0, none⟩ = some (.int .i64 a1_0) ∧ w'.cell? ⟨gb502, 1, none⟩ = some (.int .i64 a1_1) ∧ w'.cell? ⟨gb502, 2, none⟩ = some (.int .i64 a1_2)) (ds := []) #[false, false, false, false, false, false, false, false, false, false, false] (by kernel_rfl) rfl rfl ⟨BK501.c 0, BK501.c 1, BK501.c 2, BK502.c 0, BK502.c 1, BK502.c 2⟩ (fun hHeld => ?_); refine with_tabW laws_FnExactSwapTowards.tab2 laws_FnExactSwapTowards.bits2 (fun HT_ HW_ => ?_)
   generalize w23.drew = w24 at BK501 BK502 BK513 HB hHeld ⊢
   refine tv6_ (i := 0) (N := some 18) HT_.out HW_.out hHeld ?_
   refine tv6_ (i := 2) (N := some 20) HT_.out HW_.out hHeld ?_
   refine join_ (σ := Nat) 2 #[true, true, true, true, true, true, true, true, true, false, false] (fun s_ => [(19, .agg #[.int .i64 t514, .int .i64 t515, .int .i64 t516]), (21, .agg #[.int .i64 t517, .int .i64 t518, .int .i64 t519]), (22, .tuple #[.agg #[.int .i64 t520, .int .i64 t521, .int .i64 t522], .bool t523]), (7, .pointer (some ⟨s_, 0, none⟩)), (17, .tuple #[.agg #[.int .i64 t520, .int .i64 t521, .int .i64 t522], .bool t523]), (23, .agg #[.int .i64 t520, .int .i64 t521, .int .i64 t522]), (24, .bool t523)]) (fun s_ w' => (w'.cell? ⟨gb501, 0, none⟩ = some (.int .i64 a0_0) ∧ w'.cell? ⟨gb501, 1, none⟩ = some (.int .i64 a0_1) ∧ w'.cell? ⟨gb501, 2, none⟩ = some (.int .i64 a0_2) ∧ w'.cell? ⟨gb502, 0, none⟩ = some (.int .i64 a1_0) ∧ w'.cell? ⟨gb502, 1, none⟩ = some (.int .i64 a1_1) ∧ w'.cell? ⟨gb502, 2, none⟩ = some (.int .i64 a1_2)) ∧ (w'.heap[gb501]? = some (.cells #[.int .i64 a0_0, .int .i64 a0_1, .int .i64 a0_2] 25 (0, 0))) ∧ (w'.heap[gb502]? = some (.cells #[.int .i64 a1_0, .int .i64 a1_1, .int .i64 a1_2] 25 (0, 0))) ∧ (w'.heap[gb513]? = some (.cells #[.int .i64 t509, .int .i64 t510, .int .i64 t511] 28 (0, 0))) ∧ (w'.heap[s_]? = some (.cells #[.int .i64 0, .int .i64 0, .int .i64 0] 28 (0, 0))) ∧ (w.heap.size ≤ s_) ∧ (w.heap.size ≤ s_) ∧ (gb501 ≠ s_) ∧ (s_ ≠ gb501) ∧ (gb502 ≠ s_) ∧ (s_ ≠ gb502) ∧ (gb513 ≠ s_) ∧ (s_ ≠ gb513) ∧ (Below w.heap.size w w')) ?_ ?_
   rotate_left
   ·intro hCont
    refine two_ (i := 1) (j := 8) (Ni := some 19) (Nj := some 7) #[true, true, true, false, false, false, false, false, false, false, false] #[true, false, true, false, false, false, false, false, true, false, false] rfl rfl rfl rfl (two_of HT_.out (by kernel_rfl)) (by decide) (by decide) (fun K hK => ?_) (fun K hK => ?_)
    ·skip
     refine gq_ Tryd.func6 #[.agg #[.int .i64 a0_0, .int .i64 a0_1, .int .i64 a0_2]] ?_
     with_reducible refine (laws_toMaze.calls a0_0 a0_1 a0_2 t514 t515 t516 _ A6.out).mono ?_
     rintro e w25 ⟨rfl, hb⟩
     refine ⟨_, rfl, ?_⟩
     replace BK501 := BK501.bb hb
     replace BK502 := BK502.bb hb
     replace BK513 := BK513.bb hb
     replace HB := HB.s3 GE501 GE502 GE513 hb
     skip
     (try clear hb2)
     (try clear hk)
     (try clear hi)
     refine hK.out _ _ ⟨BK501.c 0, BK501.c 1, BK501.c 2, BK502.c 0, BK502.c 1, BK502.c 2⟩ (fun hHeld => ?_)
     clear hK K
     refine nm_ ?_
     refine two_ (i := 3) (j := 8) (Ni := some 21) (Nj := some 7) #[true, true, true, true, false, false, false, false, false, false, false] #[true, true, true, false, false, false, false, false, true, false, false] rfl rfl rfl rfl (two_of HT_.out (by kernel_rfl)) (by decide) (by decide) (fun K hK => ?_) (fun K hK => ?_)
     ·skip
      refine gq_ Tryd.func6 #[.agg #[.int .i64 a1_0, .int .i64 a1_1, .int .i64 a1_2]] ?_
      with_reducible refine (laws_toMaze.calls a1_0 a1_1 a1_2 t517 t518 t519 _ A7.out).mono ?_
      rintro e w26 ⟨rfl, hb⟩
      refine ⟨_, rfl, ?_⟩
      replace BK501 := BK501.bb hb
      replace BK502 := BK502.bb hb
      replace BK513 := BK513.bb hb
      replace HB := HB.s3 GE501 GE502 GE513 hb
      skip
      (try clear hb2)
      (try clear hk)
      (try clear hi)
      refine hK.out _ _ ⟨BK501.c 0, BK501.c 1, BK501.c 2, BK502.c 0, BK502.c 1, BK502.c 2⟩ (fun hHeld => ?_)
      clear hK K
      refine nm_ ?_
      refine two_ (i := 4) (j := 8) (Ni := some 22) (Nj := some 7) #[true, true, true, true, true, false, false, false, false, false, false] #[true, true, true, true, false, false, false, false, true, false, false] rfl rfl rfl rfl (two_of HT_.out (by kernel_rfl)) (by decide) (by decide) (fun K hK => ?_) (fun K hK => ?_)
      ·skip
       refine gq_ Tryd.func7 #[.agg #[.int .i64 t514, .int .i64 t515, .int .i64 t516], .agg #[.int .i64 t517, .int .i64 t518, .int .i64 t519]] ?_
       with_reducible refine (impl_SwapTowards.calls k t514 t515 t516 t517 t518 t519 t520 t521 t522 t523 _ A8.out (HZ.out.move (Nat.le_refl _) (by repeat (first | (with_reducible first | exact HB.out | exact Below.refl _ _ | apply below_alloc | apply pw_below_drewN | apply below_drew1 | refine below_set ?_ GE501.out | refine below_set ?_ GE502.out) | exact HB.out)))).mono ?_
       rintro e w27 ⟨rfl, hb⟩
       refine ⟨_, rfl, ?_⟩
       replace BK501 := BK501.bb hb
       replace BK502 := BK502.bb hb
       replace BK513 := BK513.bb hb
       replace HB := HB.s3 GE501 GE502 GE513 hb
       skip
       (try clear hb2)
       (try clear hk)
       (try clear hi)
       refine hK.out _ _ ⟨BK501.c 0, BK501.c 1, BK501.c 2, BK502.c 0, BK502.c 1, BK502.c 2⟩ (fun hHeld => ?_)
       clear hK K
       refine nm_ ?_
       refine pv_ (i := 5) (N := some 17) HT_.out ?_
       refine pv_ (i := 6) (N := some 23) HT_.out ?_
       refine pv_ (i := 7) (N := some 24) HT_.out ?_
       refine ov_ (i := 8) (N := some 7) HT_.out (fun K hK => ?_)
       refine box_step ?hg (N := 7) ?hd (cs := #[.int .i64 0, .int .i64 0, .int .i64 0]) (t := 28) ?hr ?_; (case hd => rfl); (case hg => rfl); (case hr => first | (go_simp; done) | (go_simp; rfl))
       intro gb524 hg w28 hbox hb
       have n0_ := BK501.bb hb
       have n1_ := BK502.bb hb
       have n2_ := BK513.bb hb
       have n3_ := HB.s3 GE501 GE502 GE513 hb
       have n4_ := Aside0.mk (hbox)
       have n5_ := HB.g3 GE501 GE502 GE513 hg
       have n6_ := HB.g3 GE501 GE502 GE513 hg
       have n7_ := BK501.nl hg
       have n8_ := BK501.nr hg
       have n9_ := BK502.nl hg
       have n10_ := BK502.nr hg
       have n11_ := BK513.nl hg
       have n12_ := BK513.nr hg
       clear BK501
       clear BK502
       clear BK513
       clear HB
       have BK501 := n0_
       have BK502 := n1_
       have BK513 := n2_
       have HB := n3_
       have BK524 := n4_
       have GW524 := n5_
       have GE524 := n6_
       have NB501_524 := n7_
       have NB524_501 := n8_
       have NB502_524 := n9_
       have NB524_502 := n10_
       have NB513_524 := n11_
       have NB524_513 := n12_
       clear n0_ n1_ n2_ n3_ n4_ n5_ n6_ n7_ n8_ n9_ n10_ n11_ n12_
       clear hb hbox hg
       refine hK.out _ _ ⟨BK501.c 0, BK501.c 1, BK501.c 2, BK502.c 0, BK502.c 1, BK502.c 2⟩ (fun hHeld => ?_)
       clear hK K
       refine norm_ (a' := ?_) ?_ ?_
       rotate_left
       ·show Act.put _ (some 7) _ = _
        simp only [Act.put, List.setIfInBounds_toArray, List.set_cons_zero, List.set_cons_succ, i64_w, i32_w]
        rfl
       exact norm_ (by simp only [putAll, Act.put, List.setIfInBounds_toArray, List.set_cons_zero, List.set_cons_succ]) (hCont (gb524) _ ⟨hHeld, (bk_ BK501.out), (bk_ BK502.out), (bk_ BK513.out), (bk_ BK524.out), GW524.out, GE524.out, NB501_524.out, NB524_501.out, NB502_524.out, NB524_502.out, NB513_524.out, NB524_513.out, (hb4_ HB.out GE501.out GE502.out GE513.out GE524.out)⟩)
      ·skip
       refine box_step ?hg (N := 7) ?hd (cs := #[.int .i64 0, .int .i64 0, .int .i64 0]) (t := 28) ?hr ?_; (case hd => rfl); (case hg => rfl); (case hr => first | (go_simp; done) | (go_simp; rfl))
       intro gb524 hg w27 hbox hb
       have n0_ := BK501.bb hb
       have n1_ := BK502.bb hb
       have n2_ := BK513.bb hb
       have n3_ := HB.s3 GE501 GE502 GE513 hb
       have n4_ := Aside0.mk (hbox)
       have n5_ := HB.g3 GE501 GE502 GE513 hg
       have n6_ := HB.g3 GE501 GE502 GE513 hg
       have n7_ := BK501.nl hg
       have n8_ := BK501.nr hg
       have n9_ := BK502.nl hg
       have n10_ := BK502.nr hg
       have n11_ := BK513.nl hg
       have n12_ := BK513.nr hg
       clear BK501
       clear BK502
       clear BK513
       clear HB
       have BK501 := n0_
       have BK502 := n1_
       have BK513 := n2_
       have HB := n3_
       have BK524 := n4_
       have GW524 := n5_
       have GE524 := n6_
       have NB501_524 := n7_
       have NB524_501 := n8_
       have NB502_524 := n9_
       have NB524_502 := n10_
       have NB513_524 := n11_
       have NB524_513 := n12_
       clear n0_ n1_ n2_ n3_ n4_ n5_ n6_ n7_ n8_ n9_ n10_ n11_ n12_
       clear hb hbox hg
       refine hK.out _ _ ⟨BK501.c 0, BK501.c 1, BK501.c 2, BK502.c 0, BK502.c 1, BK502.c 2⟩ (fun hHeld => ?_)
       clear hK K
       refine norm_ (a' := ?_) ?_ ?_
       rotate_left
       ·show Act.put _ (some 7) _ = _
        simp only [Act.put, List.setIfInBounds_toArray, List.set_cons_zero, List.set_cons_succ, i64_w, i32_w]
        rfl
       refine ov_ (i := 4) (N := some 22) HT_.out (fun K hK => ?_)
       refine gq_ Tryd.func7 #[.agg #[.int .i64 t514, .int .i64 t515, .int .i64 t516], .agg #[.int .i64 t517, .int .i64 t518, .int .i64 t519]] ?_
       with_reducible refine (impl_SwapTowards.calls k t514 t515 t516 t517 t518 t519 t520 t521 t522 t523 _ A8.out (HZ.out.move (Nat.le_refl _) (by repeat (first | (with_reducible first | exact HB.out | exact Below.refl _ _ | apply below_alloc | apply pw_below_drewN | apply below_drew1 | refine below_set ?_ GE501.out | refine below_set ?_ GE502.out) | exact HB.out)))).mono ?_
       rintro e w28 ⟨rfl, hb⟩
       refine ⟨_, rfl, ?_⟩
       replace BK501 := BK501.bb hb
       replace BK502 := BK502.bb hb
       replace BK513 := BK513.bb hb
       replace BK524 := BK524.bb hb
       replace HB := HB.s4 GE501 GE502 GE513 GE524 hb
       skip
       (try clear hb2)
       (try clear hk)
       (try clear hi)
       refine hK.out _ _ ⟨BK501.c 0, BK501.c 1, BK501.c 2, BK502.c 0, BK502.c 1, BK502.c 2⟩ (fun hHeld => ?_)
       clear hK K
       refine nm_ ?_
       refine pv_ (i := 5) (N := some 17) HT_.out ?_
       refine pv_ (i := 6) (N := some 23) HT_.out ?_
       refine pv_ (i := 7) (N := some 24) HT_.out ?_
       exact norm_ (by simp only [putAll, Act.put, List.setIfInBounds_toArray, List.set_cons_zero, List.set_cons_succ]) (hCont (gb524) _ ⟨hHeld, (bk_ BK501.out), (bk_ BK502.out), (bk_ BK513.out), (bk_ BK524.out), GW524.out, GE524.out, NB501_524.out, NB524_501.out, NB502_524.out, NB524_502.out, NB513_524.out, NB524_513.out, (hb4_ HB.out GE501.out GE502.out GE513.out GE524.out)⟩)
     ·skip
      refine box_step ?hg (N := 7) ?hd (cs := #[.int .i64 0, .int .i64 0, .int .i64 0]) (t := 28) ?hr ?_; (case hd => rfl); (case hg => rfl); (case hr => first | (go_simp; done) | (go_simp; rfl))
      intro gb524 hg w26 hbox hb
      have n0_ := BK501.bb hb
      have n1_ := BK502.bb hb
      have n2_ := BK513.bb hb
      have n3_ := HB.s3 GE501 GE502 GE513 hb
      have n4_ := Aside0.mk (hbox)
      have n5_ := HB.g3 GE501 GE502 GE513 hg
      have n6_ := HB.g3 GE501 GE502 GE513 hg
      have n7_ := BK501.nl hg
      have n8_ := BK501.nr hg
      have n9_ := BK502.nl hg
      have n10_ := BK502.nr hg
      have n11_ := BK513.nl hg
      have n12_ := BK513.nr hg
      clear BK501
      clear BK502
      clear BK513
      clear HB
      have BK501 := n0_
      have BK502 := n1_
      have BK513 := n2_
      have HB := n3_
      have BK524 := n4_
      have GW524 := n5_
      have GE524 := n6_
      have NB501_524 := n7_
      have NB524_501 := n8_
      have NB502_524 := n9_
      have NB524_502 := n10_
      have NB513_524 := n11_
      have NB524_513 := n12_
      clear n0_ n1_ n2_ n3_ n4_ n5_ n6_ n7_ n8_ n9_ n10_ n11_ n12_
      clear hb hbox hg
      refine hK.out _ _ ⟨BK501.c 0, BK501.c 1, BK501.c 2, BK502.c 0, BK502.c 1, BK502.c 2⟩ (fun hHeld => ?_)
      clear hK K
      refine norm_ (a' := ?_) ?_ ?_
      rotate_left
      ·show Act.put _ (some 7) _ = _
       simp only [Act.put, List.setIfInBounds_toArray, List.set_cons_zero, List.set_cons_succ, i64_w, i32_w]
       rfl
      refine ov_ (i := 3) (N := some 21) HT_.out (fun K hK => ?_)
      refine gq_ Tryd.func6 #[.agg #[.int .i64 a1_0, .int .i64 a1_1, .int .i64 a1_2]] ?_
      with_reducible refine (laws_toMaze.calls a1_0 a1_1 a1_2 t517 t518 t519 _ A7.out).mono ?_
      rintro e w27 ⟨rfl, hb⟩
      refine ⟨_, rfl, ?_⟩
      replace BK501 := BK501.bb hb
      replace BK502 := BK502.bb hb
      replace BK513 := BK513.bb hb
      replace BK524 := BK524.bb hb
      replace HB := HB.s4 GE501 GE502 GE513 GE524 hb
      skip
      (try clear hb2)
      (try clear hk)
      (try clear hi)
      refine hK.out _ _ ⟨BK501.c 0, BK501.c 1, BK501.c 2, BK502.c 0, BK502.c 1, BK502.c 2⟩ (fun hHeld => ?_)
      clear hK K
      refine nm_ ?_
      refine ov_ (i := 4) (N := some 22) HT_.out (fun K hK => ?_)
      refine gq_ Tryd.func7 #[.agg #[.int .i64 t514, .int .i64 t515, .int .i64 t516], .agg #[.int .i64 t517, .int .i64 t518, .int .i64 t519]] ?_
      with_reducible refine (impl_SwapTowards.calls k t514 t515 t516 t517 t518 t519 t520 t521 t522 t523 _ A8.out (HZ.out.move (Nat.le_refl _) (by repeat (first | (with_reducible first | exact HB.out | exact Below.refl _ _ | apply below_alloc | apply pw_below_drewN | apply below_drew1 | refine below_set ?_ GE501.out | refine below_set ?_ GE502.out) | exact HB.out)))).mono ?_
      rintro e w28 ⟨rfl, hb⟩
      refine ⟨_, rfl, ?_⟩
      replace BK501 := BK501.bb hb
      replace BK502 := BK502.bb hb
      replace BK513 := BK513.bb hb
      replace BK524 := BK524.bb hb
      replace HB := HB.s4 GE501 GE502 GE513 GE524 hb
      skip
      (try clear hb2)
      (try clear hk)
      (try clear hi)
      refine hK.out _ _ ⟨BK501.c 0, BK501.c 1, BK501.c 2, BK502.c 0, BK502.c 1, BK502.c 2⟩ (fun hHeld => ?_)
      clear hK K
      refine nm_ ?_
      refine pv_ (i := 5) (N := some 17) HT_.out ?_
      refine pv_ (i := 6) (N := some 23) HT_.out ?_
      refine pv_ (i := 7) (N := some 24) HT_.out ?_
      exact norm_ (by simp only [putAll, Act.put, List.setIfInBounds_toArray, List.set_cons_zero, List.set_cons_succ]) (hCont (gb524) _ ⟨hHeld, (bk_ BK501.out), (bk_ BK502.out), (bk_ BK513.out), (bk_ BK524.out), GW524.out, GE524.out, NB501_524.out, NB524_501.out, NB502_524.out, NB524_502.out, NB513_524.out, NB524_513.out, (hb4_ HB.out GE501.out GE502.out GE513.out GE524.out)⟩)
    ·skip
     refine box_step ?hg (N := 7) ?hd (cs := #[.int .i64 0, .int .i64 0, .int .i64 0]) (t := 28) ?hr ?_; (case hd => rfl); (case hg => rfl); (case hr => first | (go_simp; done) | (go_simp; rfl))
     intro gb524 hg w25 hbox hb
     have n0_ := BK501.bb hb
     have n1_ := BK502.bb hb
     have n2_ := BK513.bb hb
     have n3_ := HB.s3 GE501 GE502 GE513 hb
     have n4_ := Aside0.mk (hbox)
     have n5_ := HB.g3 GE501 GE502 GE513 hg
     have n6_ := HB.g3 GE501 GE502 GE513 hg
     have n7_ := BK501.nl hg
     have n8_ := BK501.nr hg
     have n9_ := BK502.nl hg
     have n10_ := BK502.nr hg
     have n11_ := BK513.nl hg
     have n12_ := BK513.nr hg
     clear BK501
     clear BK502
     clear BK513
     clear HB
     have BK501 := n0_
     have BK502 := n1_
     have BK513 := n2_
     have HB := n3_
     have BK524 := n4_
     have GW524 := n5_
     have GE524 := n6_
     have NB501_524 := n7_
     have NB524_501 := n8_
     have NB502_524 := n9_
     have NB524_502 := n10_
     have NB513_524 := n11_
     have NB524_513 := n12_
     clear n0_ n1_ n2_ n3_ n4_ n5_ n6_ n7_ n8_ n9_ n10_ n11_ n12_
     clear hb hbox hg
     refine hK.out _ _ ⟨BK501.c 0, BK501.c 1, BK501.c 2, BK502.c 0, BK502.c 1, BK502.c 2⟩ (fun hHeld => ?_)
     clear hK K
     refine norm_ (a' := ?_) ?_ ?_
     rotate_left
     ·show Act.put _ (some 7) _ = _
      simp only [Act.put, List.setIfInBounds_toArray, List.set_cons_zero, List.set_cons_succ, i64_w, i32_w]
      rfl
     refine ov_ (i := 1) (N := some 19) HT_.out (fun K hK => ?_)
     refine gq_ Tryd.func6 #[.agg #[.int .i64 a0_0, .int .i64 a0_1, .int .i64 a0_2]] ?_
     with_reducible refine (laws_toMaze.calls a0_0 a0_1 a0_2 t514 t515 t516 _ A6.out).mono ?_
     rintro e w26 ⟨rfl, hb⟩
     refine ⟨_, rfl, ?_⟩
     replace BK501 := BK501.bb hb
     replace BK502 := BK502.bb hb
     replace BK513 := BK513.bb hb
     replace BK524 := BK524.bb hb
     replace HB := HB.s4 GE501 GE502 GE513 GE524 hb
     skip
     (try clear hb2)
     (try clear hk)
     (try clear hi)
     refine hK.out _ _ ⟨BK501.c 0, BK501.c 1, BK501.c 2, BK502.c 0, BK502.c 1, BK502.c 2⟩ (fun hHeld => ?_)
     clear hK K
     refine nm_ ?_
     refine ov_ (i := 3) (N := some 21) HT_.out (fun K hK => ?_)
     refine gq_ Tryd.func6 #[.agg #[.int .i64 a1_0, .int .i64 a1_1, .int .i64 a1_2]] ?_
     with_reducible refine (laws_toMaze.calls a1_0 a1_1 a1_2 t517 t518 t519 _ A7.out).mono ?_
     rintro e w27 ⟨rfl, hb⟩
     refine ⟨_, rfl, ?_⟩
     replace BK501 := BK501.bb hb
     replace BK502 := BK502.bb hb
     replace BK513 := BK513.bb hb
     replace BK524 := BK524.bb hb
     replace HB := HB.s4 GE501 GE502 GE513 GE524 hb
     skip
     (try clear hb2)
     (try clear hk)
     (try clear hi)
     refine hK.out _ _ ⟨BK501.c 0, BK501.c 1, BK501.c 2, BK502.c 0, BK502.c 1, BK502.c 2⟩ (fun hHeld => ?_)
     clear hK K
     refine nm_ ?_
     refine ov_ (i := 4) (N := some 22) HT_.out (fun K hK => ?_)
     refine gq_ Tryd.func7 #[.agg #[.int .i64 t514, .int .i64 t515, .int .i64 t516], .agg #[.int .i64 t517, .int .i64 t518, .int .i64 t519]] ?_
     with_reducible refine (impl_SwapTowards.calls k t514 t515 t516 t517 t518 t519 t520 t521 t522 t523 _ A8.out (HZ.out.move (Nat.le_refl _) (by repeat (first | (with_reducible first | exact HB.out | exact Below.refl _ _ | apply below_alloc | apply pw_below_drewN | apply below_drew1 | refine below_set ?_ GE501.out | refine below_set ?_ GE502.out) | exact HB.out)))).mono ?_
     rintro e w28 ⟨rfl, hb⟩
     refine ⟨_, rfl, ?_⟩
     replace BK501 := BK501.bb hb
     replace BK502 := BK502.bb hb
     replace BK513 := BK513.bb hb
     replace BK524 := BK524.bb hb
     replace HB := HB.s4 GE501 GE502 GE513 GE524 hb
     skip
     (try clear hb2)
     (try clear hk)
     (try clear hi)
     refine hK.out _ _ ⟨BK501.c 0, BK501.c 1, BK501.c 2, BK502.c 0, BK502.c 1, BK502.c 2⟩ (fun hHeld => ?_)
     clear hK K
     refine nm_ ?_
     refine pv_ (i := 5) (N := some 17) HT_.out ?_
     refine pv_ (i := 6) (N := some 23) HT_.out ?_
     refine pv_ (i := 7) (N := some 24) HT_.out ?_
     exact norm_ (by simp only [putAll, Act.put, List.setIfInBounds_toArray, List.set_cons_zero, List.set_cons_succ]) (hCont (gb524) _ ⟨hHeld, (bk_ BK501.out), (bk_ BK502.out), (bk_ BK513.out), (bk_ BK524.out), GW524.out, GE524.out, NB501_524.out, NB524_501.out, NB502_524.out, NB524_502.out, NB513_524.out, NB524_513.out, (hb4_ HB.out GE501.out GE502.out GE513.out GE524.out)⟩)
   rintro gb524 w29 ⟨hS_, h0_, h1_, h2_, h3_, h4_, h5_, h6_, h7_, h8_, h9_, h10_, h11_, h12_⟩
   have n0_ : Aside0 (w29.heap[gb501]? = some (.cells #[.int .i64 a0_0, .int .i64 a0_1, .int .i64 a0_2] 25 (0, 0))) := ⟨h0_⟩
   have n1_ : Aside0 (w29.heap[gb502]? = some (.cells #[.int .i64 a1_0, .int .i64 a1_1, .int .i64 a1_2] 25 (0, 0))) := ⟨h1_⟩
   have n2_ : Aside0 (w29.heap[gb513]? = some (.cells #[.int .i64 t509, .int .i64 t510, .int .i64 t511] 28 (0, 0))) := ⟨h2_⟩
   have n3_ : Aside0 (w29.heap[gb524]? = some (.cells #[.int .i64 0, .int .i64 0, .int .i64 0] 28 (0, 0))) := ⟨h3_⟩
   have n4_ : Aside0 (w.heap.size ≤ gb524) := ⟨h4_⟩
   have n5_ : Aside0 (w.heap.size ≤ gb524) := ⟨h5_⟩
   have n6_ : Aside0 (gb501 ≠ gb524) := ⟨h6_⟩
   have n7_ : Aside0 (gb524 ≠ gb501) := ⟨h7_⟩
   have n8_ : Aside0 (gb502 ≠ gb524) := ⟨h8_⟩
   have n9_ : Aside0 (gb524 ≠ gb502) := ⟨h9_⟩
   have n10_ : Aside0 (gb513 ≠ gb524) := ⟨h10_⟩
   have n11_ : Aside0 (gb524 ≠ gb513) := ⟨h11_⟩
   have n12_ : Aside0 (Below w.heap.size w w29) := ⟨h12_⟩
   clear BK501
   clear BK502
   clear BK513
   clear HB
   clear h0_ h1_ h2_ h3_ h4_ h5_ h6_ h7_ h8_ h9_ h10_ h11_ h12_
   have BK501 := n0_
   have BK502 := n1_
   have BK513 := n2_
   have BK524 := n3_
   have GW524 := n4_
   have GE524 := n5_
   have NB501_524 := n6_
   have NB524_501 := n7_
   have NB502_524 := n8_
   have NB524_502 := n9_
   have NB513_524 := n10_
   have NB524_513 := n11_
   have HB := n12_
   clear n0_ n1_ n2_ n3_ n4_ n5_ n6_ n7_ n8_ n9_ n10_ n11_ n12_
   have hHeld : w29.cell? ⟨gb501, 0, none⟩ = some (.int .i64 a0_0) ∧ w29.cell? ⟨gb501, 1, none⟩ = some (.int .i64 a0_1) ∧ w29.cell? ⟨gb501, 2, none⟩ = some (.int .i64 a0_2) ∧ w29.cell? ⟨gb502, 0, none⟩ = some (.int .i64 a1_0) ∧ w29.cell? ⟨gb502, 1, none⟩ = some (.int .i64 a1_1) ∧ w29.cell? ⟨gb502, 2, none⟩ = some (.int .i64 a1_2) := hS_
   refine norm_ (a' := ?_) ?_ ?_
   rotate_left
   ·simp only [putAll, Act.put, List.setIfInBounds_toArray, List.set_cons_zero, List.set_cons_succ]
    rfl
   refine one_ (i := 9) (N := none) #[true, true, true, true, true, true, true, true, true, true, false] rfl rfl (one_of HT_.out (by kernel_rfl)) (by decide) (fun K hK => ?_)
   have hs30 : w29.cell? ⟨gb524, 0, none⟩ = some (.int .i64 0) := BK524.c 0
   have hfs30 := blk_frozen BK524.out 0
   have hns30_0 := NB501_524.out
   have hns30_1 := NB502_524.out
   have hns30_2 := NB513_524.out
   have hms30_0 := NB524_501.out
   have hms30_1 := NB524_502.out
   have hms30_2 := NB524_513.out
   have hs31 : w29.cell? ⟨gb524, 1, none⟩ = some (.int .i64 0) := BK524.c 1
   have hfs31 := blk_frozen BK524.out 1
   have hns31_0 := NB501_524.out
   have hns31_1 := NB502_524.out
   have hns31_2 := NB513_524.out
   have hms31_0 := NB524_501.out
   have hms31_1 := NB524_502.out
   have hms31_2 := NB524_513.out
   have hs32 : w29.cell? ⟨gb524, 2, none⟩ = some (.int .i64 0) := BK524.c 2
   have hfs32 := blk_frozen BK524.out 2
   have hns32_0 := NB501_524.out
   have hns32_1 := NB502_524.out
   have hns32_2 := NB513_524.out
   have hms32_0 := NB524_501.out
   have hms32_1 := NB524_502.out
   have hms32_2 := NB524_513.out
   refine skip_ (w1 := ?_) (by rfl) rfl ?_ ?_
   rotate_left
   ·go_simp
    rfl
   refine hK.out _ _ ⟨((cell_far (p := ⟨gb524, _, none⟩) NB501_524.out _).trans (((cell_far (p := ⟨gb524, _, none⟩) NB501_524.out _).trans (((cell_far (p := ⟨gb524, _, none⟩) NB501_524.out _).trans (hHeld.1)))))), ((cell_far (p := ⟨gb524, _, none⟩) NB501_524.out _).trans (((cell_far (p := ⟨gb524, _, none⟩) NB501_524.out _).trans (((cell_far (p := ⟨gb524, _, none⟩) NB501_524.out _).trans (hHeld.2.1)))))), ((cell_far (p := ⟨gb524, _, none⟩) NB501_524.out _).trans (((cell_far (p := ⟨gb524, _, none⟩) NB501_524.out _).trans (((cell_far (p := ⟨gb524, _, none⟩) NB501_524.out _).trans (hHeld.2.2.1)))))), ((cell_far (p := ⟨gb524, _, none⟩) NB502_524.out _).trans (((cell_far (p := ⟨gb524, _, none⟩) NB502_524.out _).trans (((cell_far (p := ⟨gb524, _, none⟩) NB502_524.out _).trans (hHeld.2.2.2.1)))))), ((cell_far (p := ⟨gb524, _, none⟩) NB502_524.out _).trans (((cell_far (p := ⟨gb524, _, none⟩) NB502_524.out _).trans (((cell_far (p := ⟨gb524, _, none⟩) NB502_524.out _).trans (hHeld.2.2.2.2.1)))))), ((cell_far (p := ⟨gb524, _, none⟩) NB502_524.out _).trans (((cell_far (p := ⟨gb524, _, none⟩) NB502_524.out _).trans (((cell_far (p := ⟨gb524, _, none⟩) NB502_524.out _).trans (hHeld.2.2.2.2.2))))))⟩ (fun hHeld => ?_)
   clear hK K
   refine pv_ (i := 10) (N := some 8) HT_.out ?_
   refine done_ (done_of HT_.out (by kernel_rfl)) ?_
   have hnb33 := NB524_501.out
   have hnc33 := NB501_524.out
   have hnb34 := NB524_502.out
   have hnc34 := NB502_524.out
   have hnb35 := NB524_513.out
   have hnc35 := NB513_524.out
   obtain ⟨hcz36_0, hcz36_1, hcz36_2⟩ := cz3_ BK524.out
   obtain ⟨hfz36_0, hfz36_1, hfz36_2⟩ := fz3_ BK524.out
   have hnb37 := NB513_501.out
   have hnc37 := NB501_513.out
   have hnb38 := NB513_502.out
   have hnc38 := NB502_513.out
   obtain ⟨hcz39_0, hcz39_1, hcz39_2⟩ := cz3_ BK513.out
   obtain ⟨hfz39_0, hfz39_1, hfz39_2⟩ := fz3_ BK513.out
   try go_wp2_with ((with_reducible refine gw_ ?_); first | (refine gl_ 27 Tryd.func8 #[.agg #[.int .i64 t520, .int .i64 t521, .int .i64 t522], .agg #[.int .i64 t509, .int .i64 t510, .int .i64 t511]] ?_; (with_reducible refine (laws_eqMaze.calls t520 t521 t522 t509 t510 t511 true _ A9.out).mono ?_); rintro e w40 ⟨rfl, hb⟩; refine ⟨_, rfl, ?_⟩; replace BK501 := Aside0.mk (blk_below (g := gb501) (o := .cells #[.int .i64 a0_0, .int .i64 a0_1, .int .i64 a0_2] 25 (0, 0)) (by (with_reducible repeat (first | refine blk_drewN ?_ _ | refine blk_drew ?_ | refine blk_alloc ?_ _)); refine blk_far ?_ NB501_524.out _; (with_reducible repeat (first | refine blk_drewN ?_ _ | refine blk_drew ?_ | refine blk_alloc ?_ _)); refine blk_far ?_ NB501_524.out _; (with_reducible repeat (first | refine blk_drewN ?_ _ | refine blk_drew ?_ | refine blk_alloc ?_ _)); refine blk_far ?_ NB501_524.out _; (with_reducible repeat (first | refine blk_drewN ?_ _ | refine blk_drew ?_ | refine blk_alloc ?_ _)); exact BK501.out) hb); replace BK502 := Aside0.mk (blk_below (g := gb502) (o := .cells #[.int .i64 a1_0, .int .i64 a1_1, .int .i64 a1_2] 25 (0, 0)) (by (with_reducible repeat (first | refine blk_drewN ?_ _ | refine blk_drew ?_ | refine blk_alloc ?_ _)); refine blk_far ?_ NB502_524.out _; (with_reducible repeat (first | refine blk_drewN ?_ _ | refine blk_drew ?_ | refine blk_alloc ?_ _)); refine blk_far ?_ NB502_524.out _; (with_reducible repeat (first | refine blk_drewN ?_ _ | refine blk_drew ?_ | refine blk_alloc ?_ _)); refine blk_far ?_ NB502_524.out _; (with_reducible repeat (first | refine blk_drewN ?_ _ | refine blk_drew ?_ | refine blk_alloc ?_ _)); exact BK502.out) hb); replace BK513 := Aside0.mk (blk_below (g := gb513) (o := .cells #[.int .i64 t509, .int .i64 t510, .int .i64 t511] 28 (0, 0)) (by (with_reducible repeat (first | refine blk_drewN ?_ _ | refine blk_drew ?_ | refine blk_alloc ?_ _)); refine blk_far ?_ NB513_524.out _; (with_reducible repeat (first | refine blk_drewN ?_ _ | refine blk_drew ?_ | refine blk_alloc ?_ _)); refine blk_far ?_ NB513_524.out _; (with_reducible repeat (first | refine blk_drewN ?_ _ | refine blk_drew ?_ | refine blk_alloc ?_ _)); refine blk_far ?_ NB513_524.out _; (with_reducible repeat (first | refine blk_drewN ?_ _ | refine blk_drew ?_ | refine blk_alloc ?_ _)); exact BK513.out) hb); replace BK524 := Aside0.mk (blk_below (bq3_ BK524.out) hb); replace HB := HB.s4 GE501 GE502 GE513 GE524 hb; (try clear hb)))
   go_ret
   exact ⟨ex_, hb4_ HB.out GE501.out GE502.out GE513.out GE524.out⟩
  ·rw [if_neg c11] at H
   have c11b0 : (t523 != t512) = false := by simpa using c11
   (try (have c11b1 : decide (t523 = t512) = true := by simpa using c11))
   (try (have c11b2 : (t523 == t512) = true := by simpa using c11))
   clear c11
   obtain rfl := Option.some.inj H
   go_enter Tryd.func3, Tryd.ntmps3
   try go_wp2_with ((with_reducible refine gw_ ?_); first | (refine box_ (N := 2) (cs := #[.int .i64 a0_0, .int .i64 a0_1, .int .i64 a0_2]) (t := 25) ?_; intro gb501 hg w41 hbox hb; have BK501 := Aside0.mk (hbox); have GW501 := HB.g0 hg; have GE501 := HB.g0 hg; replace HB := HB.s0 hb; clear hb hbox hg) | (refine box_ (N := 3) (cs := #[.int .i64 a1_0, .int .i64 a1_1, .int .i64 a1_2]) (t := 25) ?_; intro gb502 hg w42 hbox hb; have BK502 := Aside0.mk (hbox); have GW502 := HB.g1 GE501 hg; have GE502 := HB.g1 GE501 hg; replace HB := HB.s1 GE501 hb; have NB501_502 := BK501.nl hg; have NB502_501 := BK501.nr hg; replace BK501 := BK501.bb hb; clear hb hbox hg))
   replace BK501 := Aside0.mk (blk_drew BK501.out)
   replace BK502 := Aside0.mk (blk_drew BK502.out)
   replace HB := Aside0.mk (below_drew1 HB.out)
   refine start_ (n := 11) (S := fun w' => w'.cell? ⟨gb501, 0, none⟩ = some (.int .i64 a0_0) ∧ w'.cell? ⟨gb501, 1, none⟩ = some (.int .i64 a0_1) ∧ w'.cell? ⟨gb501, 2, none⟩ = some (.int .i64 a0_2) ∧ w'.cell? ⟨gb502, 0, none⟩ = some (.int .i64 a1_0) ∧ w'.cell? ⟨gb502, 1, none⟩ = some (.int .i64 a1_1) ∧ w'.cell? ⟨gb502, 2, none⟩ = some (.int .i64 a1_2)) (ds := []) #[false, false, false, false, false, false, false, false, false, false, false] (by kernel_rfl) rfl rfl ⟨BK501.c 0, BK501.c 1, BK501.c 2, BK502.c 0, BK502.c 1, BK502.c 2⟩ (fun hHeld => ?_); refine with_tabW laws_FnExactSwapTowards.tab1 laws_FnExactSwapTowards.bits1 (fun HT_ HW_ => ?_)
   generalize w42.drew = w43 at BK501 BK502 HB hHeld ⊢
   refine tv6_ (i := 0) (N := some 10) HT_.out HW_.out hHeld ?_
   refine tv6_ (i := 2) (N := some 12) HT_.out HW_.out hHeld ?_
   refine join_ (σ := Nat) 2 #[true, true, true, true, true, true, true, true, true, false, false] (fun s_ => [(11, .agg #[.int .i64 t503, .int .i64 t504, .int .i64 t505]), (13, .agg #[.int .i64 t506, .int .i64 t507, .int .i64 t508]), (14, .tuple #[.agg #[.int .i64 t509, .int .i64 t510, .int .i64 t511], .bool t512]), (5, .pointer (some ⟨s_, 0, none⟩)), (9, .tuple #[.agg #[.int .i64 t509, .int .i64 t510, .int .i64 t511], .bool t512]), (15, .agg #[.int .i64 t509, .int .i64 t510, .int .i64 t511]), (16, .bool t512)]) (fun s_ w' => (w'.cell? ⟨gb501, 0, none⟩ = some (.int .i64 a0_0) ∧ w'.cell? ⟨gb501, 1, none⟩ = some (.int .i64 a0_1) ∧ w'.cell? ⟨gb501, 2, none⟩ = some (.int .i64 a0_2) ∧ w'.cell? ⟨gb502, 0, none⟩ = some (.int .i64 a1_0) ∧ w'.cell? ⟨gb502, 1, none⟩ = some (.int .i64 a1_1) ∧ w'.cell? ⟨gb502, 2, none⟩ = some (.int .i64 a1_2)) ∧ (w'.heap[gb501]? = some (.cells #[.int .i64 a0_0, .int .i64 a0_1, .int .i64 a0_2] 25 (0, 0))) ∧ (w'.heap[gb502]? = some (.cells #[.int .i64 a1_0, .int .i64 a1_1, .int .i64 a1_2] 25 (0, 0))) ∧ (w'.heap[s_]? = some (.cells #[.int .i64 0, .int .i64 0, .int .i64 0] 28 (0, 0))) ∧ (w.heap.size ≤ s_) ∧ (w.heap.size ≤ s_) ∧ (gb501 ≠ s_) ∧ (s_ ≠ gb501) ∧ (gb502 ≠ s_) ∧ (s_ ≠ gb502) ∧ (Below w.heap.size w w')) ?_ ?_
   rotate_left
   ·intro hCont
    refine two_ (i := 1) (j := 8) (Ni := some 11) (Nj := some 5) #[true, true, true, false, false, false, false, false, false, false, false] #[true, false, true, false, false, false, false, false, true, false, false] rfl rfl rfl rfl (two_of HT_.out (by kernel_rfl)) (by decide) (by decide) (fun K hK => ?_) (fun K hK => ?_)
    ·skip
     refine gq_ Tryd.func6 #[.agg #[.int .i64 a0_0, .int .i64 a0_1, .int .i64 a0_2]] ?_
     with_reducible refine (laws_toMaze.calls a0_0 a0_1 a0_2 t503 t504 t505 _ A3.out).mono ?_
     rintro e w44 ⟨rfl, hb⟩
     refine ⟨_, rfl, ?_⟩
     replace BK501 := BK501.bb hb
     replace BK502 := BK502.bb hb
     replace HB := HB.s2 GE501 GE502 hb
     skip
     (try clear hb2)
     (try clear hk)
     (try clear hi)
     refine hK.out _ _ ⟨BK501.c 0, BK501.c 1, BK501.c 2, BK502.c 0, BK502.c 1, BK502.c 2⟩ (fun hHeld => ?_)
     clear hK K
     refine nm_ ?_
     refine two_ (i := 3) (j := 8) (Ni := some 13) (Nj := some 5) #[true, true, true, true, false, false, false, false, false, false, false] #[true, true, true, false, false, false, false, false, true, false, false] rfl rfl rfl rfl (two_of HT_.out (by kernel_rfl)) (by decide) (by decide) (fun K hK => ?_) (fun K hK => ?_)
     ·skip
      refine gq_ Tryd.func6 #[.agg #[.int .i64 a1_0, .int .i64 a1_1, .int .i64 a1_2]] ?_
      with_reducible refine (laws_toMaze.calls a1_0 a1_1 a1_2 t506 t507 t508 _ A4.out).mono ?_
      rintro e w45 ⟨rfl, hb⟩
      refine ⟨_, rfl, ?_⟩
      replace BK501 := BK501.bb hb
      replace BK502 := BK502.bb hb
      replace HB := HB.s2 GE501 GE502 hb
      skip
      (try clear hb2)
      (try clear hk)
      (try clear hi)
      refine hK.out _ _ ⟨BK501.c 0, BK501.c 1, BK501.c 2, BK502.c 0, BK502.c 1, BK502.c 2⟩ (fun hHeld => ?_)
      clear hK K
      refine nm_ ?_
      refine two_ (i := 4) (j := 8) (Ni := some 14) (Nj := some 5) #[true, true, true, true, true, false, false, false, false, false, false] #[true, true, true, true, false, false, false, false, true, false, false] rfl rfl rfl rfl (two_of HT_.out (by kernel_rfl)) (by decide) (by decide) (fun K hK => ?_) (fun K hK => ?_)
      ·skip
       refine gq_ Tryd.func5 #[.agg #[.int .i64 t503, .int .i64 t504, .int .i64 t505], .agg #[.int .i64 t506, .int .i64 t507, .int .i64 t508]] ?_
       with_reducible refine (spec_SwapTowards.calls k t503 t504 t505 t506 t507 t508 t509 t510 t511 t512 _ A5.out).mono ?_
       rintro e w46 ⟨rfl, hb⟩
       refine ⟨_, rfl, ?_⟩
       replace BK501 := BK501.bb hb
       replace BK502 := BK502.bb hb
       replace HB := HB.s2 GE501 GE502 hb
       skip
       (try clear hb2)
       (try clear hk)
       (try clear hi)
       refine hK.out _ _ ⟨BK501.c 0, BK501.c 1, BK501.c 2, BK502.c 0, BK502.c 1, BK502.c 2⟩ (fun hHeld => ?_)
       clear hK K
       refine nm_ ?_
       refine pv_ (i := 5) (N := some 9) HT_.out ?_
       refine pv_ (i := 6) (N := some 15) HT_.out ?_
       refine pv_ (i := 7) (N := some 16) HT_.out ?_
       refine ov_ (i := 8) (N := some 5) HT_.out (fun K hK => ?_)
       refine box_step ?hg (N := 5) ?hd (cs := #[.int .i64 0, .int .i64 0, .int .i64 0]) (t := 28) ?hr ?_; (case hd => rfl); (case hg => rfl); (case hr => first | (go_simp; done) | (go_simp; rfl))
       intro gb513 hg w47 hbox hb
       have n0_ := BK501.bb hb
       have n1_ := BK502.bb hb
       have n2_ := HB.s2 GE501 GE502 hb
       have n3_ := Aside0.mk (hbox)
       have n4_ := HB.g2 GE501 GE502 hg
       have n5_ := HB.g2 GE501 GE502 hg
       have n6_ := BK501.nl hg
       have n7_ := BK501.nr hg
       have n8_ := BK502.nl hg
       have n9_ := BK502.nr hg
       clear BK501
       clear BK502
       clear HB
       have BK501 := n0_
       have BK502 := n1_
       have HB := n2_
       have BK513 := n3_
       have GW513 := n4_
       have GE513 := n5_
       have NB501_513 := n6_
       have NB513_501 := n7_
       have NB502_513 := n8_
       have NB513_502 := n9_
       clear n0_ n1_ n2_ n3_ n4_ n5_ n6_ n7_ n8_ n9_
       clear hb hbox hg
       refine hK.out _ _ ⟨BK501.c 0, BK501.c 1, BK501.c 2, BK502.c 0, BK502.c 1, BK502.c 2⟩ (fun hHeld => ?_)
       clear hK K
       refine norm_ (a' := ?_) ?_ ?_
       rotate_left
       ·show Act.put _ (some 5) _ = _
        simp only [Act.put, List.setIfInBounds_toArray, List.set_cons_zero, List.set_cons_succ, i64_w, i32_w]
        rfl
       exact norm_ (by simp only [putAll, Act.put, List.setIfInBounds_toArray, List.set_cons_zero, List.set_cons_succ]) (hCont (gb513) _ ⟨hHeld, (bk_ BK501.out), (bk_ BK502.out), (bk_ BK513.out), GW513.out, GE513.out, NB501_513.out, NB513_501.out, NB502_513.out, NB513_502.out, (hb3_ HB.out GE501.out GE502.out GE513.out)⟩)
      ·skip
       refine box_step ?hg (N := 5) ?hd (cs := #[.int .i64 0, .int .i64 0, .int .i64 0]) (t := 28) ?hr ?_; (case hd => rfl); (case hg => rfl); (case hr => first | (go_simp; done) | (go_simp; rfl))
       intro gb513 hg w46 hbox hb
       have n0_ := BK501.bb hb
       have n1_ := BK502.bb hb
       have n2_ := HB.s2 GE501 GE502 hb
       have n3_ := Aside0.mk (hbox)
       have n4_ := HB.g2 GE501 GE502 hg
       have n5_ := HB.g2 GE501 GE502 hg
       have n6_ := BK501.nl hg
       have n7_ := BK501.nr hg
       have n8_ := BK502.nl hg
       have n9_ := BK502.nr hg
       clear BK501
       clear BK502
       clear HB
       have BK501 := n0_
       have BK502 := n1_
       have HB := n2_
       have BK513 := n3_
       have GW513 := n4_
       have GE513 := n5_
       have NB501_513 := n6_
       have NB513_501 := n7_
       have NB502_513 := n8_
       have NB513_502 := n9_
       clear n0_ n1_ n2_ n3_ n4_ n5_ n6_ n7_ n8_ n9_
       clear hb hbox hg
       refine hK.out _ _ ⟨BK501.c 0, BK501.c 1, BK501.c 2, BK502.c 0, BK502.c 1, BK502.c 2⟩ (fun hHeld => ?_)
       clear hK K
       refine norm_ (a' := ?_) ?_ ?_
       rotate_left
       ·show Act.put _ (some 5) _ = _
        simp only [Act.put, List.setIfInBounds_toArray, List.set_cons_zero, List.set_cons_succ, i64_w, i32_w]
        rfl
       refine ov_ (i := 4) (N := some 14) HT_.out (fun K hK => ?_)
       refine gq_ Tryd.func5 #[.agg #[.int .i64 t503, .int .i64 t504, .int .i64 t505], .agg #[.int .i64 t506, .int .i64 t507, .int .i64 t508]] ?_
       with_reducible refine (spec_SwapTowards.calls k t503 t504 t505 t506 t507 t508 t509 t510 t511 t512 _ A5.out).mono ?_
       rintro e w47 ⟨rfl, hb⟩
       refine ⟨_, rfl, ?_⟩
       replace BK501 := BK501.bb hb
       replace BK502 := BK502.bb hb
       replace BK513 := BK513.bb hb
       replace HB := HB.s3 GE501 GE502 GE513 hb
       skip
       (try clear hb2)
       (try clear hk)
       (try clear hi)
       refine hK.out _ _ ⟨BK501.c 0, BK501.c 1, BK501.c 2, BK502.c 0, BK502.c 1, BK502.c 2⟩ (fun hHeld => ?_)
       clear hK K
       refine nm_ ?_
       refine pv_ (i := 5) (N := some 9) HT_.out ?_
       refine pv_ (i := 6) (N := some 15) HT_.out ?_
       refine pv_ (i := 7) (N := some 16) HT_.out ?_
       exact norm_ (by simp only [putAll, Act.put, List.setIfInBounds_toArray, List.set_cons_zero, List.set_cons_succ]) (hCont (gb513) _ ⟨hHeld, (bk_ BK501.out), (bk_ BK502.out), (bk_ BK513.out), GW513.out, GE513.out, NB501_513.out, NB513_501.out, NB502_513.out, NB513_502.out, (hb3_ HB.out GE501.out GE502.out GE513.out)⟩)
     ·skip
      refine box_step ?hg (N := 5) ?hd (cs := #[.int .i64 0, .int .i64 0, .int .i64 0]) (t := 28) ?hr ?_; (case hd => rfl); (case hg => rfl); (case hr => first | (go_simp; done) | (go_simp; rfl))
      intro gb513 hg w45 hbox hb
      have n0_ := BK501.bb hb
      have n1_ := BK502.bb hb
      have n2_ := HB.s2 GE501 GE502 hb
      have n3_ := Aside0.mk (hbox)
      have n4_ := HB.g2 GE501 GE502 hg
      have n5_ := HB.g2 GE501 GE502 hg
      have n6_ := BK501.nl hg
      have n7_ := BK501.nr hg
      have n8_ := BK502.nl hg
      have n9_ := BK502.nr hg
      clear BK501
      clear BK502
      clear HB
      have BK501 := n0_
      have BK502 := n1_
      have HB := n2_
      have BK513 := n3_
      have GW513 := n4_
      have GE513 := n5_
      have NB501_513 := n6_
      have NB513_501 := n7_
      have NB502_513 := n8_
      have NB513_502 := n9_
      clear n0_ n1_ n2_ n3_ n4_ n5_ n6_ n7_ n8_ n9_
      clear hb hbox hg
      refine hK.out _ _ ⟨BK501.c 0, BK501.c 1, BK501.c 2, BK502.c 0, BK502.c 1, BK502.c 2⟩ (fun hHeld => ?_)
      clear hK K
      refine norm_ (a' := ?_) ?_ ?_
      rotate_left
      ·show Act.put _ (some 5) _ = _
       simp only [Act.put, List.setIfInBounds_toArray, List.set_cons_zero, List.set_cons_succ, i64_w, i32_w]
       rfl
      refine ov_ (i := 3) (N := some 13) HT_.out (fun K hK => ?_)
      refine gq_ Tryd.func6 #[.agg #[.int .i64 a1_0, .int .i64 a1_1, .int .i64 a1_2]] ?_
      with_reducible refine (laws_toMaze.calls a1_0 a1_1 a1_2 t506 t507 t508 _ A4.out).mono ?_
      rintro e w46 ⟨rfl, hb⟩
      refine ⟨_, rfl, ?_⟩
      replace BK501 := BK501.bb hb
      replace BK502 := BK502.bb hb
      replace BK513 := BK513.bb hb
      replace HB := HB.s3 GE501 GE502 GE513 hb
      skip
      (try clear hb2)
      (try clear hk)
      (try clear hi)
      refine hK.out _ _ ⟨BK501.c 0, BK501.c 1, BK501.c 2, BK502.c 0, BK502.c 1, BK502.c 2⟩ (fun hHeld => ?_)
      clear hK K
      refine nm_ ?_
      refine ov_ (i := 4) (N := some 14) HT_.out (fun K hK => ?_)
      refine gq_ Tryd.func5 #[.agg #[.int .i64 t503, .int .i64 t504, .int .i64 t505], .agg #[.int .i64 t506, .int .i64 t507, .int .i64 t508]] ?_
      with_reducible refine (spec_SwapTowards.calls k t503 t504 t505 t506 t507 t508 t509 t510 t511 t512 _ A5.out).mono ?_
      rintro e w47 ⟨rfl, hb⟩
      refine ⟨_, rfl, ?_⟩
      replace BK501 := BK501.bb hb
      replace BK502 := BK502.bb hb
      replace BK513 := BK513.bb hb
      replace HB := HB.s3 GE501 GE502 GE513 hb
      skip
      (try clear hb2)
      (try clear hk)
      (try clear hi)
      refine hK.out _ _ ⟨BK501.c 0, BK501.c 1, BK501.c 2, BK502.c 0, BK502.c 1, BK502.c 2⟩ (fun hHeld => ?_)
      clear hK K
      refine nm_ ?_
      refine pv_ (i := 5) (N := some 9) HT_.out ?_
      refine pv_ (i := 6) (N := some 15) HT_.out ?_
      refine pv_ (i := 7) (N := some 16) HT_.out ?_
      exact norm_ (by simp only [putAll, Act.put, List.setIfInBounds_toArray, List.set_cons_zero, List.set_cons_succ]) (hCont (gb513) _ ⟨hHeld, (bk_ BK501.out), (bk_ BK502.out), (bk_ BK513.out), GW513.out, GE513.out, NB501_513.out, NB513_501.out, NB502_513.out, NB513_502.out, (hb3_ HB.out GE501.out GE502.out GE513.out)⟩)
    ·skip
     refine box_step ?hg (N := 5) ?hd (cs := #[.int .i64 0, .int .i64 0, .int .i64 0]) (t := 28) ?hr ?_; (case hd => rfl); (case hg => rfl); (case hr => first | (go_simp; done) | (go_simp; rfl))
     intro gb513 hg w44 hbox hb
     have n0_ := BK501.bb hb
     have n1_ := BK502.bb hb
     have n2_ := HB.s2 GE501 GE502 hb
     have n3_ := Aside0.mk (hbox)
     have n4_ := HB.g2 GE501 GE502 hg
     have n5_ := HB.g2 GE501 GE502 hg
     have n6_ := BK501.nl hg
     have n7_ := BK501.nr hg
     have n8_ := BK502.nl hg
     have n9_ := BK502.nr hg
     clear BK501
     clear BK502
     clear HB
     have BK501 := n0_
     have BK502 := n1_
     have HB := n2_
     have BK513 := n3_
     have GW513 := n4_
     have GE513 := n5_
     have NB501_513 := n6_
     have NB513_501 := n7_
     have NB502_513 := n8_
     have NB513_502 := n9_
     clear n0_ n1_ n2_ n3_ n4_ n5_ n6_ n7_ n8_ n9_
     clear hb hbox hg
     refine hK.out _ _ ⟨BK501.c 0, BK501.c 1, BK501.c 2, BK502.c 0, BK502.c 1, BK502.c 2⟩ (fun hHeld => ?_)
     clear hK K
     refine norm_ (a' := ?_) ?_ ?_
     rotate_left
     ·show Act.put _ (some 5) _ = _
      simp only [Act.put, List.setIfInBounds_toArray, List.set_cons_zero, List.set_cons_succ, i64_w, i32_w]
      rfl
     refine ov_ (i := 1) (N := some 11) HT_.out (fun K hK => ?_)
     refine gq_ Tryd.func6 #[.agg #[.int .i64 a0_0, .int .i64 a0_1, .int .i64 a0_2]] ?_
     with_reducible refine (laws_toMaze.calls a0_0 a0_1 a0_2 t503 t504 t505 _ A3.out).mono ?_
     rintro e w45 ⟨rfl, hb⟩
     refine ⟨_, rfl, ?_⟩
     replace BK501 := BK501.bb hb
     replace BK502 := BK502.bb hb
     replace BK513 := BK513.bb hb
     replace HB := HB.s3 GE501 GE502 GE513 hb
     skip
     (try clear hb2)
     (try clear hk)
     (try clear hi)
     refine hK.out _ _ ⟨BK501.c 0, BK501.c 1, BK501.c 2, BK502.c 0, BK502.c 1, BK502.c 2⟩ (fun hHeld => ?_)
     clear hK K
     refine nm_ ?_
     refine ov_ (i := 3) (N := some 13) HT_.out (fun K hK => ?_)
     refine gq_ Tryd.func6 #[.agg #[.int .i64 a1_0, .int .i64 a1_1, .int .i64 a1_2]] ?_
     with_reducible refine (laws_toMaze.calls a1_0 a1_1 a1_2 t506 t507 t508 _ A4.out).mono ?_
     rintro e w46 ⟨rfl, hb⟩
     refine ⟨_, rfl, ?_⟩
     replace BK501 := BK501.bb hb
     replace BK502 := BK502.bb hb
     replace BK513 := BK513.bb hb
     replace HB := HB.s3 GE501 GE502 GE513 hb
     skip
     (try clear hb2)
     (try clear hk)
     (try clear hi)
     refine hK.out _ _ ⟨BK501.c 0, BK501.c 1, BK501.c 2, BK502.c 0, BK502.c 1, BK502.c 2⟩ (fun hHeld => ?_)
     clear hK K
     refine nm_ ?_
     refine ov_ (i := 4) (N := some 14) HT_.out (fun K hK => ?_)
     refine gq_ Tryd.func5 #[.agg #[.int .i64 t503, .int .i64 t504, .int .i64 t505], .agg #[.int .i64 t506, .int .i64 t507, .int .i64 t508]] ?_
     with_reducible refine (spec_SwapTowards.calls k t503 t504 t505 t506 t507 t508 t509 t510 t511 t512 _ A5.out).mono ?_
     rintro e w47 ⟨rfl, hb⟩
     refine ⟨_, rfl, ?_⟩
     replace BK501 := BK501.bb hb
     replace BK502 := BK502.bb hb
     replace BK513 := BK513.bb hb
     replace HB := HB.s3 GE501 GE502 GE513 hb
     skip
     (try clear hb2)
     (try clear hk)
     (try clear hi)
     refine hK.out _ _ ⟨BK501.c 0, BK501.c 1, BK501.c 2, BK502.c 0, BK502.c 1, BK502.c 2⟩ (fun hHeld => ?_)
     clear hK K
     refine nm_ ?_
     refine pv_ (i := 5) (N := some 9) HT_.out ?_
     refine pv_ (i := 6) (N := some 15) HT_.out ?_
     refine pv_ (i := 7) (N := some 16) HT_.out ?_
     exact norm_ (by simp only [putAll, Act.put, List.setIfInBounds_toArray, List.set_cons_zero, List.set_cons_succ]) (hCont (gb513) _ ⟨hHeld, (bk_ BK501.out), (bk_ BK502.out), (bk_ BK513.out), GW513.out, GE513.out, NB501_513.out, NB513_501.out, NB502_513.out, NB513_502.out, (hb3_ HB.out GE501.out GE502.out GE513.out)⟩)
   rintro gb513 w48 ⟨hS_, h0_, h1_, h2_, h3_, h4_, h5_, h6_, h7_, h8_, h9_⟩
   have n0_ : Aside0 (w48.heap[gb501]? = some (.cells #[.int .i64 a0_0, .int .i64 a0_1, .int .i64 a0_2] 25 (0, 0))) := ⟨h0_⟩
   have n1_ : Aside0 (w48.heap[gb502]? = some (.cells #[.int .i64 a1_0, .int .i64 a1_1, .int .i64 a1_2] 25 (0, 0))) := ⟨h1_⟩
   have n2_ : Aside0 (w48.heap[gb513]? = some (.cells #[.int .i64 0, .int .i64 0, .int .i64 0] 28 (0, 0))) := ⟨h2_⟩
   have n3_ : Aside0 (w.heap.size ≤ gb513) := ⟨h3_⟩
   have n4_ : Aside0 (w.heap.size ≤ gb513) := ⟨h4_⟩
   have n5_ : Aside0 (gb501 ≠ gb513) := ⟨h5_⟩
   have n6_ : Aside0 (gb513 ≠ gb501) := ⟨h6_⟩
   have n7_ : Aside0 (gb502 ≠ gb513) := ⟨h7_⟩
   have n8_ : Aside0 (gb513 ≠ gb502) := ⟨h8_⟩
   have n9_ : Aside0 (Below w.heap.size w w48) := ⟨h9_⟩
   clear BK501
   clear BK502
   clear HB
   clear h0_ h1_ h2_ h3_ h4_ h5_ h6_ h7_ h8_ h9_
   have BK501 := n0_
   have BK502 := n1_
   have BK513 := n2_
   have GW513 := n3_
   have GE513 := n4_
   have NB501_513 := n5_
   have NB513_501 := n6_
   have NB502_513 := n7_
   have NB513_502 := n8_
   have HB := n9_
   clear n0_ n1_ n2_ n3_ n4_ n5_ n6_ n7_ n8_ n9_
   have hHeld : w48.cell? ⟨gb501, 0, none⟩ = some (.int .i64 a0_0) ∧ w48.cell? ⟨gb501, 1, none⟩ = some (.int .i64 a0_1) ∧ w48.cell? ⟨gb501, 2, none⟩ = some (.int .i64 a0_2) ∧ w48.cell? ⟨gb502, 0, none⟩ = some (.int .i64 a1_0) ∧ w48.cell? ⟨gb502, 1, none⟩ = some (.int .i64 a1_1) ∧ w48.cell? ⟨gb502, 2, none⟩ = some (.int .i64 a1_2) := hS_
   refine norm_ (a' := ?_) ?_ ?_
   rotate_left
   ·simp only [putAll, Act.put, List.setIfInBounds_toArray, List.set_cons_zero, List.set_cons_succ]
    rfl
   refine one_ (i := 9) (N := none) #[true, true, true, true, true, true, true, true, true, true, false] rfl rfl (one_of HT_.out (by kernel_rfl)) (by decide) (fun K hK => ?_)
   have hs49 : w48.cell? ⟨gb513, 0, none⟩ = some (.int .i64 0) := BK513.c 0
   have hfs49 := blk_frozen BK513.out 0
   have hns49_0 := NB501_513.out
   have hns49_1 := NB502_513.out
   have hms49_0 := NB513_501.out
   have hms49_1 := NB513_502.out
   have hs50 : w48.cell? ⟨gb513, 1, none⟩ = some (.int .i64 0) := BK513.c 1
   have hfs50 := blk_frozen BK513.out 1
   have hns50_0 := NB501_513.out
   have hns50_1 := NB502_513.out
   have hms50_0 := NB513_501.out
   have hms50_1 := NB513_502.out
   have hs51 : w48.cell? ⟨gb513, 2, none⟩ = some (.int .i64 0) := BK513.c 2
   have hfs51 := blk_frozen BK513.out 2
   have hns51_0 := NB501_513.out
   have hns51_1 := NB502_513.out
   have hms51_0 := NB513_501.out
   have hms51_1 := NB513_502.out
   refine skip_ (w1 := ?_) (by rfl) rfl ?_ ?_
   rotate_left
   ·go_simp
    rfl
   refine hK.out _ _ ⟨((cell_far (p := ⟨gb513, _, none⟩) NB501_513.out _).trans (((cell_far (p := ⟨gb513, _, none⟩) NB501_513.out _).trans (((cell_far (p := ⟨gb513, _, none⟩) NB501_513.out _).trans (hHeld.1)))))), ((cell_far (p := ⟨gb513, _, none⟩) NB501_513.out _).trans (((cell_far (p := ⟨gb513, _, none⟩) NB501_513.out _).trans (((cell_far (p := ⟨gb513, _, none⟩) NB501_513.out _).trans (hHeld.2.1)))))), ((cell_far (p := ⟨gb513, _, none⟩) NB501_513.out _).trans (((cell_far (p := ⟨gb513, _, none⟩) NB501_513.out _).trans (((cell_far (p := ⟨gb513, _, none⟩) NB501_513.out _).trans (hHeld.2.2.1)))))), ((cell_far (p := ⟨gb513, _, none⟩) NB502_513.out _).trans (((cell_far (p := ⟨gb513, _, none⟩) NB502_513.out _).trans (((cell_far (p := ⟨gb513, _, none⟩) NB502_513.out _).trans (hHeld.2.2.2.1)))))), ((cell_far (p := ⟨gb513, _, none⟩) NB502_513.out _).trans (((cell_far (p := ⟨gb513, _, none⟩) NB502_513.out _).trans (((cell_far (p := ⟨gb513, _, none⟩) NB502_513.out _).trans (hHeld.2.2.2.2.1)))))), ((cell_far (p := ⟨gb513, _, none⟩) NB502_513.out _).trans (((cell_far (p := ⟨gb513, _, none⟩) NB502_513.out _).trans (((cell_far (p := ⟨gb513, _, none⟩) NB502_513.out _).trans (hHeld.2.2.2.2.2))))))⟩ (fun hHeld => ?_)
   clear hK K
   refine pv_ (i := 10) (N := some 6) HT_.out ?_
   refine done_ (done_of HT_.out (by kernel_rfl)) ?_
   try go_wp2
   have n0_ : Aside0 ((((w48.setCell ⟨gb513, 0, none⟩ (.int .i64 t509)).setCell ⟨gb513, 1, none⟩ (.int .i64 t510)).setCell ⟨gb513, 2, none⟩ (.int .i64 t511)).heap[gb501]? = some (.cells #[.int .i64 a0_0, .int .i64 a0_1, .int .i64 a0_2] 25 (0, 0))) := ⟨by (with_reducible repeat (first | refine blk_drewN ?_ _ | refine blk_drew ?_ | refine blk_alloc ?_ _)); refine blk_far ?_ NB501_513.out _; (with_reducible repeat (first | refine blk_drewN ?_ _ | refine blk_drew ?_ | refine blk_alloc ?_ _)); refine blk_far ?_ NB501_513.out _; (with_reducible repeat (first | refine blk_drewN ?_ _ | refine blk_drew ?_ | refine blk_alloc ?_ _)); refine blk_far ?_ NB501_513.out _; (with_reducible repeat (first | refine blk_drewN ?_ _ | refine blk_drew ?_ | refine blk_alloc ?_ _)); exact BK501.out⟩
   have n1_ : Aside0 ((((w48.setCell ⟨gb513, 0, none⟩ (.int .i64 t509)).setCell ⟨gb513, 1, none⟩ (.int .i64 t510)).setCell ⟨gb513, 2, none⟩ (.int .i64 t511)).heap[gb502]? = some (.cells #[.int .i64 a1_0, .int .i64 a1_1, .int .i64 a1_2] 25 (0, 0))) := ⟨by (with_reducible repeat (first | refine blk_drewN ?_ _ | refine blk_drew ?_ | refine blk_alloc ?_ _)); refine blk_far ?_ NB502_513.out _; (with_reducible repeat (first | refine blk_drewN ?_ _ | refine blk_drew ?_ | refine blk_alloc ?_ _)); refine blk_far ?_ NB502_513.out _; (with_reducible repeat (first | refine blk_drewN ?_ _ | refine blk_drew ?_ | refine blk_alloc ?_ _)); refine blk_far ?_ NB502_513.out _; (with_reducible repeat (first | refine blk_drewN ?_ _ | refine blk_drew ?_ | refine blk_alloc ?_ _)); exact BK502.out⟩
   have n2_ : Aside0 ((((w48.setCell ⟨gb513, 0, none⟩ (.int .i64 t509)).setCell ⟨gb513, 1, none⟩ (.int .i64 t510)).setCell ⟨gb513, 2, none⟩ (.int .i64 t511)).heap[gb513]? = some (.cells #[.int .i64 t509, .int .i64 t510, .int .i64 t511] 28 (0, 0))) := ⟨bq3_ BK513.out⟩
   have n3_ : Aside0 (Below w.heap.size w (((w48.setCell ⟨gb513, 0, none⟩ (.int .i64 t509)).setCell ⟨gb513, 1, none⟩ (.int .i64 t510)).setCell ⟨gb513, 2, none⟩ (.int .i64 t511))) := ⟨hb3_ HB.out GE501.out GE502.out GE513.out⟩
   (try clear BK501)
   (try clear BK502)
   (try clear BK513)
   (try clear HB)
   generalize (((w48.setCell ⟨gb513, 0, none⟩ (.int .i64 t509)).setCell ⟨gb513, 1, none⟩ (.int .i64 t510)).setCell ⟨gb513, 2, none⟩ (.int .i64 t511)) = w52 at n0_ n1_ n2_ n3_ ⊢
   have BK501 := n0_
   have BK502 := n1_
   have BK513 := n2_
   have HB := n3_
   clear n0_ n1_ n2_ n3_
   replace BK501 := Aside0.mk (blk_drew BK501.out)
   replace BK502 := Aside0.mk (blk_drew BK502.out)
   replace BK513 := Aside0.mk (blk_drew BK513.out)
   replace HB := Aside0.mk (below_drew1 HB.out)
   refine start_ (n := 11) (S := fun w' => w'.cell? ⟨gb501, 0, none⟩ = some (.int .i64 a0_0) ∧ w'.cell? ⟨gb501, 1, none⟩ = some (.int .i64 a0_1) ∧ w'.cell? ⟨gb501, 2, none⟩ = some (.int .i64 a0_2) ∧ w'.cell? ⟨gb502, 0, none⟩ = some (.int .i64 a1_0) ∧ w'.cell? ⟨gb502, 1, none⟩ = some (.int .i64 a1_1) ∧ w'.cell? ⟨gb502, 2, none⟩ = some (.int .i64 a1_2)) (ds := []) #[false, false, false, false, false, false, false, false, false, false, false] (by kernel_rfl) rfl rfl ⟨BK501.c 0, BK501.c 1, BK501.c 2, BK502.c 0, BK502.c 1, BK502.c 2⟩ (fun hHeld => ?_); refine with_tabW laws_FnExactSwapTowards.tab2 laws_FnExactSwapTowards.bits2 (fun HT_ HW_ => ?_)
   generalize w52.drew = w53 at BK501 BK502 BK513 HB hHeld ⊢
   refine tv6_ (i := 0) (N := some 18) HT_.out HW_.out hHeld ?_
   refine tv6_ (i := 2) (N := some 20) HT_.out HW_.out hHeld ?_
   refine join_ (σ := Nat) 2 #[true, true, true, true, true, true, true, true, true, false, false] (fun s_ => [(19, .agg #[.int .i64 t514, .int .i64 t515, .int .i64 t516]), (21, .agg #[.int .i64 t517, .int .i64 t518, .int .i64 t519]), (22, .tuple #[.agg #[.int .i64 t520, .int .i64 t521, .int .i64 t522], .bool t523]), (7, .pointer (some ⟨s_, 0, none⟩)), (17, .tuple #[.agg #[.int .i64 t520, .int .i64 t521, .int .i64 t522], .bool t523]), (23, .agg #[.int .i64 t520, .int .i64 t521, .int .i64 t522]), (24, .bool t523)]) (fun s_ w' => (w'.cell? ⟨gb501, 0, none⟩ = some (.int .i64 a0_0) ∧ w'.cell? ⟨gb501, 1, none⟩ = some (.int .i64 a0_1) ∧ w'.cell? ⟨gb501, 2, none⟩ = some (.int .i64 a0_2) ∧ w'.cell? ⟨gb502, 0, none⟩ = some (.int .i64 a1_0) ∧ w'.cell? ⟨gb502, 1, none⟩ = some (.int .i64 a1_1) ∧ w'.cell? ⟨gb502, 2, none⟩ = some (.int .i64 a1_2)) ∧ (w'.heap[gb501]? = some (.cells #[.int .i64 a0_0, .int .i64 a0_1, .int .i64 a0_2] 25 (0, 0))) ∧ (w'.heap[gb502]? = some (.cells #[.int .i64 a1_0, .int .i64 a1_1, .int .i64 a1_2] 25 (0, 0))) ∧ (w'.heap[gb513]? = some (.cells #[.int .i64 t509, .int .i64 t510, .int .i64 t511] 28 (0, 0))) ∧ (w'.heap[s_]? = some (.cells #[.int .i64 0, .int .i64 0, .int .i64 0] 28 (0, 0))) ∧ (w.heap.size ≤ s_) ∧ (w.heap.size ≤ s_) ∧ (gb501 ≠ s_) ∧ (s_ ≠ gb501) ∧ (gb502 ≠ s_) ∧ (s_ ≠ gb502) ∧ (gb513 ≠ s_) ∧ (s_ ≠ gb513) ∧ (Below w.heap.size w w')) ?_ ?_
   rotate_left
   ·intro hCont
    refine two_ (i := 1) (j := 8) (Ni := some 19) (Nj := some 7) #[true, true, true, false, false, false, false, false, false, false, false] #[true, false, true, false, false, false, false, false, true, false, false] rfl rfl rfl rfl (two_of HT_.out (by kernel_rfl)) (by decide) (by decide) (fun K hK => ?_) (fun K hK => ?_)
    ·skip
     refine gq_ Tryd.func6 #[.agg #[.int .i64 a0_0, .int .i64 a0_1, .int .i64 a0_2]] ?_
     with_reducible refine (laws_toMaze.calls a0_0 a0_1 a0_2 t514 t515 t516 _ A6.out).mono ?_
     rintro e w54 ⟨rfl, hb⟩
     refine ⟨_, rfl, ?_⟩
     replace BK501 := BK501.bb hb
     replace BK502 := BK502.bb hb
     replace BK513 := BK513.bb hb
     replace HB := HB.s3 GE501 GE502 GE513 hb
     skip
     (try clear hb2)
     (try clear hk)
     (try clear hi)
     refine hK.out _ _ ⟨BK501.c 0, BK501.c 1, BK501.c 2, BK502.c 0, BK502.c 1, BK502.c 2⟩ (fun hHeld => ?_)
     clear hK K
     refine nm_ ?_
     refine two_ (i := 3) (j := 8) (Ni := some 21) (Nj := some 7) #[true, true, true, true, false, false, false, false, false, false, false] #[true, true, true, false, false, false, false, false, true, false, false] rfl rfl rfl rfl (two_of HT_.out (by kernel_rfl)) (by decide) (by decide) (fun K hK => ?_) (fun K hK => ?_)
     ·skip
      refine gq_ Tryd.func6 #[.agg #[.int .i64 a1_0, .int .i64 a1_1, .int .i64 a1_2]] ?_
      with_reducible refine (laws_toMaze.calls a1_0 a1_1 a1_2 t517 t518 t519 _ A7.out).mono ?_
      rintro e w55 ⟨rfl, hb⟩
      refine ⟨_, rfl, ?_⟩
      replace BK501 := BK501.bb hb
      replace BK502 := BK502.bb hb
      replace BK513 := BK513.bb hb
      replace HB := HB.s3 GE501 GE502 GE513 hb
      skip
      (try clear hb2)
      (try clear hk)
      (try clear hi)
      refine hK.out _ _ ⟨BK501.c 0, BK501.c 1, BK501.c 2, BK502.c 0, BK502.c 1, BK502.c 2⟩ (fun hHeld => ?_)
      clear hK K
      refine nm_ ?_
      refine two_ (i := 4) (j := 8) (Ni := some 22) (Nj := some 7) #[true, true, true, true, true, false, false, false, false, false, false] #[true, true, true, true, false, false, false, false, true, false, false] rfl rfl rfl rfl (two_of HT_.out (by kernel_rfl)) (by decide) (by decide) (fun K hK => ?_) (fun K hK => ?_)
      ·skip
       refine gq_ Tryd.func7 #[.agg #[.int .i64 t514, .int .i64 t515, .int .i64 t516], .agg #[.int .i64 t517, .int .i64 t518, .int .i64 t519]] ?_
       with_reducible refine (impl_SwapTowards.calls k t514 t515 t516 t517 t518 t519 t520 t521 t522 t523 _ A8.out (HZ.out.move (Nat.le_refl _) (by repeat (first | (with_reducible first | exact HB.out | exact Below.refl _ _ | apply below_alloc | apply pw_below_drewN | apply below_drew1 | refine below_set ?_ GE501.out | refine below_set ?_ GE502.out) | exact HB.out)))).mono ?_
       rintro e w56 ⟨rfl, hb⟩
       refine ⟨_, rfl, ?_⟩
       replace BK501 := BK501.bb hb
       replace BK502 := BK502.bb hb
       replace BK513 := BK513.bb hb
       replace HB := HB.s3 GE501 GE502 GE513 hb
       skip
       (try clear hb2)
       (try clear hk)
       (try clear hi)
       refine hK.out _ _ ⟨BK501.c 0, BK501.c 1, BK501.c 2, BK502.c 0, BK502.c 1, BK502.c 2⟩ (fun hHeld => ?_)
       clear hK K
       refine nm_ ?_
       refine pv_ (i := 5) (N := some 17) HT_.out ?_
       refine pv_ (i := 6) (N := some 23) HT_.out ?_
       refine pv_ (i := 7) (N := some 24) HT_.out ?_
       refine ov_ (i := 8) (N := some 7) HT_.out (fun K hK => ?_)
       refine box_step ?hg (N := 7) ?hd (cs := #[.int .i64 0, .int .i64 0, .int .i64 0]) (t := 28) ?hr ?_; (case hd => rfl); (case hg => rfl); (case hr => first | (go_simp; done) | (go_simp; rfl))
       intro gb524 hg w57 hbox hb
       have n0_ := BK501.bb hb
       have n1_ := BK502.bb hb
       have n2_ := BK513.bb hb
       have n3_ := HB.s3 GE501 GE502 GE513 hb
       have n4_ := Aside0.mk (hbox)
       have n5_ := HB.g3 GE501 GE502 GE513 hg
       have n6_ := HB.g3 GE501 GE502 GE513 hg
       have n7_ := BK501.nl hg
       have n8_ := BK501.nr hg
       have n9_ := BK502.nl hg
       have n10_ := BK502.nr hg
       have n11_ := BK513.nl hg
       have n12_ := BK513.nr hg
       clear BK501
       clear BK502
       clear BK513
       clear HB
       have BK501 := n0_
       have BK502 := n1_
       have BK513 := n2_
       have HB := n3_
       have BK524 := n4_
       have GW524 := n5_
       have GE524 := n6_
       have NB501_524 := n7_
       have NB524_501 := n8_
       have NB502_524 := n9_
       have NB524_502 := n10_
       have NB513_524 := n11_
       have NB524_513 := n12_
       clear n0_ n1_ n2_ n3_ n4_ n5_ n6_ n7_ n8_ n9_ n10_ n11_ n12_
       clear hb hbox hg
       refine hK.out _ _ ⟨BK501.c 0, BK501.c 1, BK501.c 2, BK502.c 0, BK502.c 1, BK502.c 2⟩ (fun hHeld => ?_)
       clear hK K
       refine norm_ (a' := ?_) ?_ ?_
       rotate_left
       ·show Act.put _ (some 7) _ = _
        simp only [Act.put, List.setIfInBounds_toArray, List.set_cons_zero, List.set_cons_succ, i64_w, i32_w]
        rfl
       exact norm_ (by simp only [putAll, Act.put, List.setIfInBounds_toArray, List.set_cons_zero, List.set_cons_succ]) (hCont (gb524) _ ⟨hHeld, (bk_ BK501.out), (bk_ BK502.out), (bk_ BK513.out), (bk_ BK524.out), GW524.out, GE524.out, NB501_524.out, NB524_501.out, NB502_524.out, NB524_502.out, NB513_524.out, NB524_513.out, (hb4_ HB.out GE501.out GE502.out GE513.out GE524.out)⟩)
      ·skip
       refine box_step ?hg (N := 7) ?hd (cs := #[.int .i64 0, .int .i64 0, .int .i64 0]) (t := 28) ?hr ?_; (case hd => rfl); (case hg => rfl); (case hr => first | (go_simp; done) | (go_simp; rfl))
       intro gb524 hg w56 hbox hb
       have n0_ := BK501.bb hb
       have n1_ := BK502.bb hb
       have n2_ := BK513.bb hb
       have n3_ := HB.s3 GE501 GE502 GE513 hb
       have n4_ := Aside0.mk (hbox)
       have n5_ := HB.g3 GE501 GE502 GE513 hg
       have n6_ := HB.g3 GE501 GE502 GE513 hg
       have n7_ := BK501.nl hg
       have n8_ := BK501.nr hg
       have n9_ := BK502.nl hg
       have n10_ := BK502.nr hg
       have n11_ := BK513.nl hg
       have n12_ := BK513.nr hg
       clear BK501
       clear BK502
       clear BK513
       clear HB
       have BK501 := n0_
       have BK502 := n1_
       have BK513 := n2_
       have HB := n3_
       have BK524 := n4_
       have GW524 := n5_
       have GE524 := n6_
       have NB501_524 := n7_
       have NB524_501 := n8_
       have NB502_524 := n9_
       have NB524_502 := n10_
       have NB513_524 := n11_
       have NB524_513 := n12_
       clear n0_ n1_ n2_ n3_ n4_ n5_ n6_ n7_ n8_ n9_ n10_ n11_ n12_
       clear hb hbox hg
       refine hK.out _ _ ⟨BK501.c 0, BK501.c 1, BK501.c 2, BK502.c 0, BK502.c 1, BK502.c 2⟩ (fun hHeld => ?_)
       clear hK K
       refine norm_ (a' := ?_) ?_ ?_
       rotate_left
       ·show Act.put _ (some 7) _ = _
        simp only [Act.put, List.setIfInBounds_toArray, List.set_cons_zero, List.set_cons_succ, i64_w, i32_w]
        rfl
       refine ov_ (i := 4) (N := some 22) HT_.out (fun K hK => ?_)
       refine gq_ Tryd.func7 #[.agg #[.int .i64 t514, .int .i64 t515, .int .i64 t516], .agg #[.int .i64 t517, .int .i64 t518, .int .i64 t519]] ?_
       with_reducible refine (impl_SwapTowards.calls k t514 t515 t516 t517 t518 t519 t520 t521 t522 t523 _ A8.out (HZ.out.move (Nat.le_refl _) (by repeat (first | (with_reducible first | exact HB.out | exact Below.refl _ _ | apply below_alloc | apply pw_below_drewN | apply below_drew1 | refine below_set ?_ GE501.out | refine below_set ?_ GE502.out) | exact HB.out)))).mono ?_
       rintro e w57 ⟨rfl, hb⟩
       refine ⟨_, rfl, ?_⟩
       replace BK501 := BK501.bb hb
       replace BK502 := BK502.bb hb
       replace BK513 := BK513.bb hb
       replace BK524 := BK524.bb hb
       replace HB := HB.s4 GE501 GE502 GE513 GE524 hb
       skip
       (try clear hb2)
       (try clear hk)
       (try clear hi)
       refine hK.out _ _ ⟨BK501.c 0, BK501.c 1, BK501.c 2, BK502.c 0, BK502.c 1, BK502.c 2⟩ (fun hHeld => ?_)
       clear hK K
       refine nm_ ?_
       refine pv_ (i := 5) (N := some 17) HT_.out ?_
       refine pv_ (i := 6) (N := some 23) HT_.out ?_
       refine pv_ (i := 7) (N := some 24) HT_.out ?_
       exact norm_ (by simp only [putAll, Act.put, List.setIfInBounds_toArray, List.set_cons_zero, List.set_cons_succ]) (hCont (gb524) _ ⟨hHeld, (bk_ BK501.out), (bk_ BK502.out), (bk_ BK513.out), (bk_ BK524.out), GW524.out, GE524.out, NB501_524.out, NB524_501.out, NB502_524.out, NB524_502.out, NB513_524.out, NB524_513.out, (hb4_ HB.out GE501.out GE502.out GE513.out GE524.out)⟩)
     ·skip
      refine box_step ?hg (N := 7) ?hd (cs := #[.int .i64 0, .int .i64 0, .int .i64 0]) (t := 28) ?hr ?_; (case hd => rfl); (case hg => rfl); (case hr => first | (go_simp; done) | (go_simp; rfl))
      intro gb524 hg w55 hbox hb
      have n0_ := BK501.bb hb
      have n1_ := BK502.bb hb
      have n2_ := BK513.bb hb
      have n3_ := HB.s3 GE501 GE502 GE513 hb
      have n4_ := Aside0.mk (hbox)
      have n5_ := HB.g3 GE501 GE502 GE513 hg
      have n6_ := HB.g3 GE501 GE502 GE513 hg
      have n7_ := BK501.nl hg
      have n8_ := BK501.nr hg
      have n9_ := BK502.nl hg
      have n10_ := BK502.nr hg
      have n11_ := BK513.nl hg
      have n12_ := BK513.nr hg
      clear BK501
      clear BK502
      clear BK513
      clear HB
      have BK501 := n0_
      have BK502 := n1_
      have BK513 := n2_
      have HB := n3_
      have BK524 := n4_
      have GW524 := n5_
      have GE524 := n6_
      have NB501_524 := n7_
      have NB524_501 := n8_
      have NB502_524 := n9_
      have NB524_502 := n10_
      have NB513_524 := n11_
      have NB524_513 := n12_
      clear n0_ n1_ n2_ n3_ n4_ n5_ n6_ n7_ n8_ n9_ n10_ n11_ n12_
      clear hb hbox hg
      refine hK.out _ _ ⟨BK501.c 0, BK501.c 1, BK501.c 2, BK502.c 0, BK502.c 1, BK502.c 2⟩ (fun hHeld => ?_)
      clear hK K
      refine norm_ (a' := ?_) ?_ ?_
      rotate_left
      ·show Act.put _ (some 7) _ = _
       simp only [Act.put, List.setIfInBounds_toArray, List.set_cons_zero, List.set_cons_succ, i64_w, i32_w]
       rfl
      refine ov_ (i := 3) (N := some 21) HT_.out (fun K hK => ?_)
      refine gq_ Tryd.func6 #[.agg #[.int .i64 a1_0, .int .i64 a1_1, .int .i64 a1_2]] ?_
      with_reducible refine (laws_toMaze.calls a1_0 a1_1 a1_2 t517 t518 t519 _ A7.out).mono ?_
      rintro e w56 ⟨rfl, hb⟩
      refine ⟨_, rfl, ?_⟩
      replace BK501 := BK501.bb hb
      replace BK502 := BK502.bb hb
      replace BK513 := BK513.bb hb
      replace BK524 := BK524.bb hb
      replace HB := HB.s4 GE501 GE502 GE513 GE524 hb
      skip
      (try clear hb2)
      (try clear hk)
      (try clear hi)
      refine hK.out _ _ ⟨BK501.c 0, BK501.c 1, BK501.c 2, BK502.c 0, BK502.c 1, BK502.c 2⟩ (fun hHeld => ?_)
      clear hK K
      refine nm_ ?_
      refine ov_ (i := 4) (N := some 22) HT_.out (fun K hK => ?_)
      refine gq_ Tryd.func7 #[.agg #[.int .i64 t514, .int .i64 t515, .int .i64 t516], .agg #[.int .i64 t517, .int .i64 t518, .int .i64 t519]] ?_
      with_reducible refine (impl_SwapTowards.calls k t514 t515 t516 t517 t518 t519 t520 t521 t522 t523 _ A8.out (HZ.out.move (Nat.le_refl _) (by repeat (first | (with_reducible first | exact HB.out | exact Below.refl _ _ | apply below_alloc | apply pw_below_drewN | apply below_drew1 | refine below_set ?_ GE501.out | refine below_set ?_ GE502.out) | exact HB.out)))).mono ?_
      rintro e w57 ⟨rfl, hb⟩
      refine ⟨_, rfl, ?_⟩
      replace BK501 := BK501.bb hb
      replace BK502 := BK502.bb hb
      replace BK513 := BK513.bb hb
      replace BK524 := BK524.bb hb
      replace HB := HB.s4 GE501 GE502 GE513 GE524 hb
      skip
      (try clear hb2)
      (try clear hk)
      (try clear hi)
      refine hK.out _ _ ⟨BK501.c 0, BK501.c 1, BK501.c 2, BK502.c 0, BK502.c 1, BK502.c 2⟩ (fun hHeld => ?_)
      clear hK K
      refine nm_ ?_
      refine pv_ (i := 5) (N := some 17) HT_.out ?_
      refine pv_ (i := 6) (N := some 23) HT_.out ?_
      refine pv_ (i := 7) (N := some 24) HT_.out ?_
      exact norm_ (by simp only [putAll, Act.put, List.setIfInBounds_toArray, List.set_cons_zero, List.set_cons_succ]) (hCont (gb524) _ ⟨hHeld, (bk_ BK501.out), (bk_ BK502.out), (bk_ BK513.out), (bk_ BK524.out), GW524.out, GE524.out, NB501_524.out, NB524_501.out, NB502_524.out, NB524_502.out, NB513_524.out, NB524_513.out, (hb4_ HB.out GE501.out GE502.out GE513.out GE524.out)⟩)
    ·skip
     refine box_step ?hg (N := 7) ?hd (cs := #[.int .i64 0, .int .i64 0, .int .i64 0]) (t := 28) ?hr ?_; (case hd => rfl); (case hg => rfl); (case hr => first | (go_simp; done) | (go_simp; rfl))
     intro gb524 hg w54 hbox hb
     have n0_ := BK501.bb hb
     have n1_ := BK502.bb hb
     have n2_ := BK513.bb hb
     have n3_ := HB.s3 GE501 GE502 GE513 hb
     have n4_ := Aside0.mk (hbox)
     have n5_ := HB.g3 GE501 GE502 GE513 hg
     have n6_ := HB.g3 GE501 GE502 GE513 hg
     have n7_ := BK501.nl hg
     have n8_ := BK501.nr hg
     have n9_ := BK502.nl hg
     have n10_ := BK502.nr hg
     have n11_ := BK513.nl hg
     have n12_ := BK513.nr hg
     clear BK501
     clear BK502
     clear BK513
     clear HB
     have BK501 := n0_
     have BK502 := n1_
     have BK513 := n2_
     have HB := n3_
     have BK524 := n4_
     have GW524 := n5_
     have GE524 := n6_
     have NB501_524 := n7_
     have NB524_501 := n8_
     have NB502_524 := n9_
     have NB524_502 := n10_
     have NB513_524 := n11_
     have NB524_513 := n12_
     clear n0_ n1_ n2_ n3_ n4_ n5_ n6_ n7_ n8_ n9_ n10_ n11_ n12_
     clear hb hbox hg
     refine hK.out _ _ ⟨BK501.c 0, BK501.c 1, BK501.c 2, BK502.c 0, BK502.c 1, BK502.c 2⟩ (fun hHeld => ?_)
     clear hK K
     refine norm_ (a' := ?_) ?_ ?_
     rotate_left
     ·show Act.put _ (some 7) _ = _
      simp only [Act.put, List.setIfInBounds_toArray, List.set_cons_zero, List.set_cons_succ, i64_w, i32_w]
      rfl
     refine ov_ (i := 1) (N := some 19) HT_.out (fun K hK => ?_)
     refine gq_ Tryd.func6 #[.agg #[.int .i64 a0_0, .int .i64 a0_1, .int .i64 a0_2]] ?_
     with_reducible refine (laws_toMaze.calls a0_0 a0_1 a0_2 t514 t515 t516 _ A6.out).mono ?_
     rintro e w55 ⟨rfl, hb⟩
     refine ⟨_, rfl, ?_⟩
     replace BK501 := BK501.bb hb
     replace BK502 := BK502.bb hb
     replace BK513 := BK513.bb hb
     replace BK524 := BK524.bb hb
     replace HB := HB.s4 GE501 GE502 GE513 GE524 hb
     skip
     (try clear hb2)
     (try clear hk)
     (try clear hi)
     refine hK.out _ _ ⟨BK501.c 0, BK501.c 1, BK501.c 2, BK502.c 0, BK502.c 1, BK502.c 2⟩ (fun hHeld => ?_)
     clear hK K
     refine nm_ ?_
     refine ov_ (i := 3) (N := some 21) HT_.out (fun K hK => ?_)
     refine gq_ Tryd.func6 #[.agg #[.int .i64 a1_0, .int .i64 a1_1, .int .i64 a1_2]] ?_
     with_reducible refine (laws_toMaze.calls a1_0 a1_1 a1_2 t517 t518 t519 _ A7.out).mono ?_
     rintro e w56 ⟨rfl, hb⟩
     refine ⟨_, rfl, ?_⟩
     replace BK501 := BK501.bb hb
     replace BK502 := BK502.bb hb
     replace BK513 := BK513.bb hb
     replace BK524 := BK524.bb hb
     replace HB := HB.s4 GE501 GE502 GE513 GE524 hb
     skip
     (try clear hb2)
     (try clear hk)
     (try clear hi)
     refine hK.out _ _ ⟨BK501.c 0, BK501.c 1, BK501.c 2, BK502.c 0, BK502.c 1, BK502.c 2⟩ (fun hHeld => ?_)
     clear hK K
     refine nm_ ?_
     refine ov_ (i := 4) (N := some 22) HT_.out (fun K hK => ?_)
     refine gq_ Tryd.func7 #[.agg #[.int .i64 t514, .int .i64 t515, .int .i64 t516], .agg #[.int .i64 t517, .int .i64 t518, .int .i64 t519]] ?_
     with_reducible refine (impl_SwapTowards.calls k t514 t515 t516 t517 t518 t519 t520 t521 t522 t523 _ A8.out (HZ.out.move (Nat.le_refl _) (by repeat (first | (with_reducible first | exact HB.out | exact Below.refl _ _ | apply below_alloc | apply pw_below_drewN | apply below_drew1 | refine below_set ?_ GE501.out | refine below_set ?_ GE502.out) | exact HB.out)))).mono ?_
     rintro e w57 ⟨rfl, hb⟩
     refine ⟨_, rfl, ?_⟩
     replace BK501 := BK501.bb hb
     replace BK502 := BK502.bb hb
     replace BK513 := BK513.bb hb
     replace BK524 := BK524.bb hb
     replace HB := HB.s4 GE501 GE502 GE513 GE524 hb
     skip
     (try clear hb2)
     (try clear hk)
     (try clear hi)
     refine hK.out _ _ ⟨BK501.c 0, BK501.c 1, BK501.c 2, BK502.c 0, BK502.c 1, BK502.c 2⟩ (fun hHeld => ?_)
     clear hK K
     refine nm_ ?_
     refine pv_ (i := 5) (N := some 17) HT_.out ?_
     refine pv_ (i := 6) (N := some 23) HT_.out ?_
     refine pv_ (i := 7) (N := some 24) HT_.out ?_
     exact norm_ (by simp only [putAll, Act.put, List.setIfInBounds_toArray, List.set_cons_zero, List.set_cons_succ]) (hCont (gb524) _ ⟨hHeld, (bk_ BK501.out), (bk_ BK502.out), (bk_ BK513.out), (bk_ BK524.out), GW524.out, GE524.out, NB501_524.out, NB524_501.out, NB502_524.out, NB524_502.out, NB513_524.out, NB524_513.out, (hb4_ HB.out GE501.out GE502.out GE513.out GE524.out)⟩)
   rintro gb524 w58 ⟨hS_, h0_, h1_, h2_, h3_, h4_, h5_, h6_, h7_, h8_, h9_, h10_, h11_, h12_⟩
   have n0_ : Aside0 (w58.heap[gb501]? = some (.cells #[.int .i64 a0_0, .int .i64 a0_1, .int .i64 a0_2] 25 (0, 0))) := ⟨h0_⟩
   have n1_ : Aside0 (w58.heap[gb502]? = some (.cells #[.int .i64 a1_0, .int .i64 a1_1, .int .i64 a1_2] 25 (0, 0))) := ⟨h1_⟩
   have n2_ : Aside0 (w58.heap[gb513]? = some (.cells #[.int .i64 t509, .int .i64 t510, .int .i64 t511] 28 (0, 0))) := ⟨h2_⟩
   have n3_ : Aside0 (w58.heap[gb524]? = some (.cells #[.int .i64 0, .int .i64 0, .int .i64 0] 28 (0, 0))) := ⟨h3_⟩
   have n4_ : Aside0 (w.heap.size ≤ gb524) := ⟨h4_⟩
   have n5_ : Aside0 (w.heap.size ≤ gb524) := ⟨h5_⟩
   have n6_ : Aside0 (gb501 ≠ gb524) := ⟨h6_⟩
   have n7_ : Aside0 (gb524 ≠ gb501) := ⟨h7_⟩
   have n8_ : Aside0 (gb502 ≠ gb524) := ⟨h8_⟩
   have n9_ : Aside0 (gb524 ≠ gb502) := ⟨h9_⟩
   have n10_ : Aside0 (gb513 ≠ gb524) := ⟨h10_⟩
   have n11_ : Aside0 (gb524 ≠ gb513) := ⟨h11_⟩
   have n12_ : Aside0 (Below w.heap.size w w58) := ⟨h12_⟩
   clear BK501
   clear BK502
   clear BK513
   clear HB
   clear h0_ h1_ h2_ h3_ h4_ h5_ h6_ h7_ h8_ h9_ h10_ h11_ h12_
   have BK501 := n0_
   have BK502 := n1_
   have BK513 := n2_
   have BK524 := n3_
   have GW524 := n4_
   have GE524 := n5_
   have NB501_524 := n6_
   have NB524_501 := n7_
   have NB502_524 := n8_
   have NB524_502 := n9_
   have NB513_524 := n10_
   have NB524_513 := n11_
   have HB := n12_
   clear n0_ n1_ n2_ n3_ n4_ n5_ n6_ n7_ n8_ n9_ n10_ n11_ n12_
   have hHeld : w58.cell? ⟨gb501, 0, none⟩ = some (.int .i64 a0_0) ∧ w58.cell? ⟨gb501, 1, none⟩ = some (.int .i64 a0_1) ∧ w58.cell? ⟨gb501, 2, none⟩ = some (.int .i64 a0_2) ∧ w58.cell? ⟨gb502, 0, none⟩ = some (.int .i64 a1_0) ∧ w58.cell? ⟨gb502, 1, none⟩ = some (.int .i64 a1_1) ∧ w58.cell? ⟨gb502, 2, none⟩ = some (.int .i64 a1_2) := hS_
   refine norm_ (a' := ?_) ?_ ?_
   rotate_left
   ·simp only [putAll, Act.put, List.setIfInBounds_toArray, List.set_cons_zero, List.set_cons_succ]
    rfl
   refine one_ (i := 9) (N := none) #[true, true, true, true, true, true, true, true, true, true, false] rfl rfl (one_of HT_.out (by kernel_rfl)) (by decide) (fun K hK => ?_)
   have hs59 : w58.cell? ⟨gb524, 0, none⟩ = some (.int .i64 0) := BK524.c 0
   have hfs59 := blk_frozen BK524.out 0
   have hns59_0 := NB501_524.out
   have hns59_1 := NB502_524.out
   have hns59_2 := NB513_524.out
   have hms59_0 := NB524_501.out
   have hms59_1 := NB524_502.out
   have hms59_2 := NB524_513.out
   have hs60 : w58.cell? ⟨gb524, 1, none⟩ = some (.int .i64 0) := BK524.c 1
   have hfs60 := blk_frozen BK524.out 1
   have hns60_0 := NB501_524.out
   have hns60_1 := NB502_524.out
   have hns60_2 := NB513_524.out
   have hms60_0 := NB524_501.out
   have hms60_1 := NB524_502.out
   have hms60_2 := NB524_513.out
   have hs61 : w58.cell? ⟨gb524, 2, none⟩ = some (.int .i64 0) := BK524.c 2
   have hfs61 := blk_frozen BK524.out 2
   have hns61_0 := NB501_524.out
   have hns61_1 := NB502_524.out
   have hns61_2 := NB513_524.out
   have hms61_0 := NB524_501.out
   have hms61_1 := NB524_502.out
   have hms61_2 := NB524_513.out
   refine skip_ (w1 := ?_) (by rfl) rfl ?_ ?_
   rotate_left
   ·go_simp
    rfl
   refine hK.out _ _ ⟨((cell_far (p := ⟨gb524, _, none⟩) NB501_524.out _).trans (((cell_far (p := ⟨gb524, _, none⟩) NB501_524.out _).trans (((cell_far (p := ⟨gb524, _, none⟩) NB501_524.out _).trans (hHeld.1)))))), ((cell_far (p := ⟨gb524, _, none⟩) NB501_524.out _).trans (((cell_far (p := ⟨gb524, _, none⟩) NB501_524.out _).trans (((cell_far (p := ⟨gb524, _, none⟩) NB501_524.out _).trans (hHeld.2.1)))))), ((cell_far (p := ⟨gb524, _, none⟩) NB501_524.out _).trans (((cell_far (p := ⟨gb524, _, none⟩) NB501_524.out _).trans (((cell_far (p := ⟨gb524, _, none⟩) NB501_524.out _).trans (hHeld.2.2.1)))))), ((cell_far (p := ⟨gb524, _, none⟩) NB502_524.out _).trans (((cell_far (p := ⟨gb524, _, none⟩) NB502_524.out _).trans (((cell_far (p := ⟨gb524, _, none⟩) NB502_524.out _).trans (hHeld.2.2.2.1)))))), ((cell_far (p := ⟨gb524, _, none⟩) NB502_524.out _).trans (((cell_far (p := ⟨gb524, _, none⟩) NB502_524.out _).trans (((cell_far (p := ⟨gb524, _, none⟩) NB502_524.out _).trans (hHeld.2.2.2.2.1)))))), ((cell_far (p := ⟨gb524, _, none⟩) NB502_524.out _).trans (((cell_far (p := ⟨gb524, _, none⟩) NB502_524.out _).trans (((cell_far (p := ⟨gb524, _, none⟩) NB502_524.out _).trans (hHeld.2.2.2.2.2))))))⟩ (fun hHeld => ?_)
   clear hK K
   refine pv_ (i := 10) (N := some 8) HT_.out ?_
   refine done_ (done_of HT_.out (by kernel_rfl)) ?_
   have hnb62 := NB524_501.out
   have hnc62 := NB501_524.out
   have hnb63 := NB524_502.out
   have hnc63 := NB502_524.out
   have hnb64 := NB524_513.out
   have hnc64 := NB513_524.out
   obtain ⟨hcz65_0, hcz65_1, hcz65_2⟩ := cz3_ BK524.out
   obtain ⟨hfz65_0, hfz65_1, hfz65_2⟩ := fz3_ BK524.out
   have hnb66 := NB513_501.out
   have hnc66 := NB501_513.out
   have hnb67 := NB513_502.out
   have hnc67 := NB502_513.out
   obtain ⟨hcz68_0, hcz68_1, hcz68_2⟩ := cz3_ BK513.out
   obtain ⟨hfz68_0, hfz68_1, hfz68_2⟩ := fz3_ BK513.out
   try go_wp2_with ((with_reducible refine gw_ ?_); first | (refine gl_ 27 Tryd.func8 #[.agg #[.int .i64 t520, .int .i64 t521, .int .i64 t522], .agg #[.int .i64 t509, .int .i64 t510, .int .i64 t511]] ?_; (with_reducible refine (laws_eqMaze.calls t520 t521 t522 t509 t510 t511 true _ A9.out).mono ?_); rintro e w69 ⟨rfl, hb⟩; refine ⟨_, rfl, ?_⟩; replace BK501 := Aside0.mk (blk_below (g := gb501) (o := .cells #[.int .i64 a0_0, .int .i64 a0_1, .int .i64 a0_2] 25 (0, 0)) (by (with_reducible repeat (first | refine blk_drewN ?_ _ | refine blk_drew ?_ | refine blk_alloc ?_ _)); refine blk_far ?_ NB501_524.out _; (with_reducible repeat (first | refine blk_drewN ?_ _ | refine blk_drew ?_ | refine blk_alloc ?_ _)); refine blk_far ?_ NB501_524.out _; (with_reducible repeat (first | refine blk_drewN ?_ _ | refine blk_drew ?_ | refine blk_alloc ?_ _)); refine blk_far ?_ NB501_524.out _; (with_reducible repeat (first | refine blk_drewN ?_ _ | refine blk_drew ?_ | refine blk_alloc ?_ _)); exact BK501.out) hb); replace BK502 := Aside0.mk (blk_below (g := gb502) (o := .cells #[.int .i64 a1_0, .int .i64 a1_1, .int .i64 a1_2] 25 (0, 0)) (by (with_reducible repeat (first | refine blk_drewN ?_ _ | refine blk_drew ?_ | refine blk_alloc ?_ _)); refine blk_far ?_ NB502_524.out _; (with_reducible repeat (first | refine blk_drewN ?_ _ | refine blk_drew ?_ | refine blk_alloc ?_ _)); refine blk_far ?_ NB502_524.out _; (with_reducible repeat (first | refine blk_drewN ?_ _ | refine blk_drew ?_ | refine blk_alloc ?_ _)); refine blk_far ?_ NB502_524.out _; (with_reducible repeat (first | refine blk_drewN ?_ _ | refine blk_drew ?_ | refine blk_alloc ?_ _)); exact BK502.out) hb); replace BK513 := Aside0.mk (blk_below (g := gb513) (o := .cells #[.int .i64 t509, .int .i64 t510, .int .i64 t511] 28 (0, 0)) (by (with_reducible repeat (first | refine blk_drewN ?_ _ | refine blk_drew ?_ | refine blk_alloc ?_ _)); refine blk_far ?_ NB513_524.out _; (with_reducible repeat (first | refine blk_drewN ?_ _ | refine blk_drew ?_ | refine blk_alloc ?_ _)); refine blk_far ?_ NB513_524.out _; (with_reducible repeat (first | refine blk_drewN ?_ _ | refine blk_drew ?_ | refine blk_alloc ?_ _)); refine blk_far ?_ NB513_524.out _; (with_reducible repeat (first | refine blk_drewN ?_ _ | refine blk_drew ?_ | refine blk_alloc ?_ _)); exact BK513.out) hb); replace BK524 := Aside0.mk (blk_below (bq3_ BK524.out) hb); replace HB := HB.s4 GE501 GE502 GE513 GE524 hb; (try clear hb)))
   go_ret
   exact ⟨ex_, hb4_ HB.out GE501.out GE502.out GE513.out GE524.out⟩
 ·replace c10 := Bool.eq_false_iff.mpr c10
  subst c10
  have H1 : (some false) = some r := by rw [if_neg (show ¬ (false = true) by decide)] at H; exact H
  clear H
  have H := H1
  clear H1
  obtain rfl := Option.some.inj H
  go_enter Tryd.func3, Tryd.ntmps3
  try go_wp2_with ((with_reducible refine gw_ ?_); first | (refine box_ (N := 2) (cs := #[.int .i64 a0_0, .int .i64 a0_1, .int .i64 a0_2]) (t := 25) ?_; intro gb501 hg w70 hbox hb; have BK501 := Aside0.mk (hbox); have GW501 := HB.g0 hg; have GE501 := HB.g0 hg; replace HB := HB.s0 hb; clear hb hbox hg) | (refine box_ (N := 3) (cs := #[.int .i64 a1_0, .int .i64 a1_1, .int .i64 a1_2]) (t := 25) ?_; intro gb502 hg w71 hbox hb; have BK502 := Aside0.mk (hbox); have GW502 := HB.g1 GE501 hg; have GE502 := HB.g1 GE501 hg; replace HB := HB.s1 GE501 hb; have NB501_502 := BK501.nl hg; have NB502_501 := BK501.nr hg; replace BK501 := BK501.bb hb; clear hb hbox hg))
  replace BK501 := Aside0.mk (blk_drew BK501.out)
  replace BK502 := Aside0.mk (blk_drew BK502.out)
  replace HB := Aside0.mk (below_drew1 HB.out)
  refine start_ (n := 11) (S := fun w' => w'.cell? ⟨gb501, 0, none⟩ = some (.int .i64 a0_0) ∧ w'.cell? ⟨gb501, 1, none⟩ = some (.int .i64 a0_1) ∧ w'.cell? ⟨gb501, 2, none⟩ = some (.int .i64 a0_2) ∧ w'.cell? ⟨gb502, 0, none⟩ = some (.int .i64 a1_0) ∧ w'.cell? ⟨gb502, 1, none⟩ = some (.int .i64 a1_1) ∧ w'.cell? ⟨gb502, 2, none⟩ = some (.int .i64 a1_2)) (ds := []) #[false, false, false, false, false, false, false, false, false, false, false] (by kernel_rfl) rfl rfl ⟨BK501.c 0, BK501.c 1, BK501.c 2, BK502.c 0, BK502.c 1, BK502.c 2⟩ (fun hHeld => ?_); refine with_tabW laws_FnExactSwapTowards.tab1 laws_FnExactSwapTowards.bits1 (fun HT_ HW_ => ?_)
  generalize w71.drew = w72 at BK501 BK502 HB hHeld ⊢
  refine tv6_ (i := 0) (N := some 10) HT_.out HW_.out hHeld ?_
  refine tv6_ (i := 2) (N := some 12) HT_.out HW_.out hHeld ?_
  refine join_ (σ := Nat) 2 #[true, true, true, true, true, true, true, true, true, false, false] (fun s_ => [(11, .agg #[.int .i64 t503, .int .i64 t504, .int .i64 t505]), (13, .agg #[.int .i64 t506, .int .i64 t507, .int .i64 t508]), (14, .tuple #[.agg #[.int .i64 t509, .int .i64 t510, .int .i64 t511], .bool t512]), (5, .pointer (some ⟨s_, 0, none⟩)), (9, .tuple #[.agg #[.int .i64 t509, .int .i64 t510, .int .i64 t511], .bool t512]), (15, .agg #[.int .i64 t509, .int .i64 t510, .int .i64 t511]), (16, .bool t512)]) (fun s_ w' => (w'.cell? ⟨gb501, 0, none⟩ = some (.int .i64 a0_0) ∧ w'.cell? ⟨gb501, 1, none⟩ = some (.int .i64 a0_1) ∧ w'.cell? ⟨gb501, 2, none⟩ = some (.int .i64 a0_2) ∧ w'.cell? ⟨gb502, 0, none⟩ = some (.int .i64 a1_0) ∧ w'.cell? ⟨gb502, 1, none⟩ = some (.int .i64 a1_1) ∧ w'.cell? ⟨gb502, 2, none⟩ = some (.int .i64 a1_2)) ∧ (w'.heap[gb501]? = some (.cells #[.int .i64 a0_0, .int .i64 a0_1, .int .i64 a0_2] 25 (0, 0))) ∧ (w'.heap[gb502]? = some (.cells #[.int .i64 a1_0, .int .i64 a1_1, .int .i64 a1_2] 25 (0, 0))) ∧ (w'.heap[s_]? = some (.cells #[.int .i64 0, .int .i64 0, .int .i64 0] 28 (0, 0))) ∧ (w.heap.size ≤ s_) ∧ (w.heap.size ≤ s_) ∧ (gb501 ≠ s_) ∧ (s_ ≠ gb501) ∧ (gb502 ≠ s_) ∧ (s_ ≠ gb502) ∧ (Below w.heap.size w w')) ?_ ?_
  rotate_left
  ·intro hCont
   refine two_ (i := 1) (j := 8) (Ni := some 11) (Nj := some 5) #[true, true, true, false, false, false, false, false, false, false, false] #[true, false, true, false, false, false, false, false, true, false, false] rfl rfl rfl rfl (two_of HT_.out (by kernel_rfl)) (by decide) (by decide) (fun K hK => ?_) (fun K hK => ?_)
   ·skip
    refine gq_ Tryd.func6 #[.agg #[.int .i64 a0_0, .int .i64 a0_1, .int .i64 a0_2]] ?_
    with_reducible refine (laws_toMaze.calls a0_0 a0_1 a0_2 t503 t504 t505 _ A3.out).mono ?_
    rintro e w73 ⟨rfl, hb⟩
    refine ⟨_, rfl, ?_⟩
    replace BK501 := BK501.bb hb
    replace BK502 := BK502.bb hb
    replace HB := HB.s2 GE501 GE502 hb
    skip
    (try clear hb2)
    (try clear hk)
    (try clear hi)
    refine hK.out _ _ ⟨BK501.c 0, BK501.c 1, BK501.c 2, BK502.c 0, BK502.c 1, BK502.c 2⟩ (fun hHeld => ?_)
    clear hK K
    refine nm_ ?_
    refine two_ (i := 3) (j := 8) (Ni := some 13) (Nj := some 5) #[true, true, true, true, false, false, false, false, false, false, false] #[true, true, true, false, false, false, false, false, true, false, false] rfl rfl rfl rfl (two_of HT_.out (by kernel_rfl)) (by decide) (by decide) (fun K hK => ?_) (fun K hK => ?_)
    ·skip
     refine gq_ Tryd.func6 #[.agg #[.int .i64 a1_0, .int .i64 a1_1, .int .i64 a1_2]] ?_
     with_reducible refine (laws_toMaze.calls a1_0 a1_1 a1_2 t506 t507 t508 _ A4.out).mono ?_
     rintro e w74 ⟨rfl, hb⟩
     refine ⟨_, rfl, ?_⟩
     replace BK501 := BK501.bb hb
     replace BK502 := BK502.bb hb
     replace HB := HB.s2 GE501 GE502 hb
     skip
     (try clear hb2)
     (try clear hk)
     (try clear hi)
     refine hK.out _ _ ⟨BK501.c 0, BK501.c 1, BK501.c 2, BK502.c 0, BK502.c 1, BK502.c 2⟩ (fun hHeld => ?_)
     clear hK K
     refine nm_ ?_
     refine two_ (i := 4) (j := 8) (Ni := some 14) (Nj := some 5) #[true, true, true, true, true, false, false, false, false, false, false] #[true, true, true, true, false, false, false, false, true, false, false] rfl rfl rfl rfl (two_of HT_.out (by kernel_rfl)) (by decide) (by decide) (fun K hK => ?_) (fun K hK => ?_)
     ·skip
      refine gq_ Tryd.func5 #[.agg #[.int .i64 t503, .int .i64 t504, .int .i64 t505], .agg #[.int .i64 t506, .int .i64 t507, .int .i64 t508]] ?_
      with_reducible refine (spec_SwapTowards.calls k t503 t504 t505 t506 t507 t508 t509 t510 t511 t512 _ A5.out).mono ?_
      rintro e w75 ⟨rfl, hb⟩
      refine ⟨_, rfl, ?_⟩
      replace BK501 := BK501.bb hb
      replace BK502 := BK502.bb hb
      replace HB := HB.s2 GE501 GE502 hb
      skip
      (try clear hb2)
      (try clear hk)
      (try clear hi)
      refine hK.out _ _ ⟨BK501.c 0, BK501.c 1, BK501.c 2, BK502.c 0, BK502.c 1, BK502.c 2⟩ (fun hHeld => ?_)
      clear hK K
      refine nm_ ?_
      refine pv_ (i := 5) (N := some 9) HT_.out ?_
      refine pv_ (i := 6) (N := some 15) HT_.out ?_
      refine pv_ (i := 7) (N := some 16) HT_.out ?_
      refine ov_ (i := 8) (N := some 5) HT_.out (fun K hK => ?_)
      refine box_step ?hg (N := 5) ?hd (cs := #[.int .i64 0, .int .i64 0, .int .i64 0]) (t := 28) ?hr ?_; (case hd => rfl); (case hg => rfl); (case hr => first | (go_simp; done) | (go_simp; rfl))
      intro gb513 hg w76 hbox hb
      have n0_ := BK501.bb hb
      have n1_ := BK502.bb hb
      have n2_ := HB.s2 GE501 GE502 hb
      have n3_ := Aside0.mk (hbox)
      have n4_ := HB.g2 GE501 GE502 hg
      have n5_ := HB.g2 GE501 GE502 hg
      have n6_ := BK501.nl hg
      have n7_ := BK501.nr hg
      have n8_ := BK502.nl hg
      have n9_ := BK502.nr hg
      clear BK501
      clear BK502
      clear HB
      have BK501 := n0_
      have BK502 := n1_
      have HB := n2_
      have BK513 := n3_
      have GW513 := n4_
      have GE513 := n5_
      have NB501_513 := n6_
      have NB513_501 := n7_
      have NB502_513 := n8_
      have NB513_502 := n9_
      clear n0_ n1_ n2_ n3_ n4_ n5_ n6_ n7_ n8_ n9_
      clear hb hbox hg
      refine hK.out _ _ ⟨BK501.c 0, BK501.c 1, BK501.c 2, BK502.c 0, BK502.c 1, BK502.c 2⟩ (fun hHeld => ?_)
      clear hK K
      refine norm_ (a' := ?_) ?_ ?_
      rotate_left
      ·show Act.put _ (some 5) _ = _
       simp only [Act.put, List.setIfInBounds_toArray, List.set_cons_zero, List.set_cons_succ, i64_w, i32_w]
       rfl
      exact norm_ (by simp only [putAll, Act.put, List.setIfInBounds_toArray, List.set_cons_zero, List.set_cons_succ]) (hCont (gb513) _ ⟨hHeld, (bk_ BK501.out), (bk_ BK502.out), (bk_ BK513.out), GW513.out, GE513.out, NB501_513.out, NB513_501.out, NB502_513.out, NB513_502.out, (hb3_ HB.out GE501.out GE502.out GE513.out)⟩)
     ·skip
      refine box_step ?hg (N := 5) ?hd (cs := #[.int .i64 0, .int .i64 0, .int .i64 0]) (t := 28) ?hr ?_; (case hd => rfl); (case hg => rfl); (case hr => first | (go_simp; done) | (go_simp; rfl))
      intro gb513 hg w75 hbox hb
      have n0_ := BK501.bb hb
      have n1_ := BK502.bb hb
      have n2_ := HB.s2 GE501 GE502 hb
      have n3_ := Aside0.mk (hbox)
      have n4_ := HB.g2 GE501 GE502 hg
      have n5_ := HB.g2 GE501 GE502 hg
      have n6_ := BK501.nl hg
      have n7_ := BK501.nr hg
      have n8_ := BK502.nl hg
      have n9_ := BK502.nr hg
      clear BK501
      clear BK502
      clear HB
      have BK501 := n0_
      have BK502 := n1_
      have HB := n2_
      have BK513 := n3_
      have GW513 := n4_
      have GE513 := n5_
      have NB501_513 := n6_
      have NB513_501 := n7_
      have NB502_513 := n8_
      have NB513_502 := n9_
      clear n0_ n1_ n2_ n3_ n4_ n5_ n6_ n7_ n8_ n9_
      clear hb hbox hg
      refine hK.out _ _ ⟨BK501.c 0, BK501.c 1, BK501.c 2, BK502.c 0, BK502.c 1, BK502.c 2⟩ (fun hHeld => ?_)
      clear hK K
      refine norm_ (a' := ?_) ?_ ?_
      rotate_left
      ·show Act.put _ (some 5) _ = _
       simp only [Act.put, List.setIfInBounds_toArray, List.set_cons_zero, List.set_cons_succ, i64_w, i32_w]
       rfl
      refine ov_ (i := 4) (N := some 14) HT_.out (fun K hK => ?_)
      refine gq_ Tryd.func5 #[.agg #[.int .i64 t503, .int .i64 t504, .int .i64 t505], .agg #[.int .i64 t506, .int .i64 t507, .int .i64 t508]] ?_
      with_reducible refine (spec_SwapTowards.calls k t503 t504 t505 t506 t507 t508 t509 t510 t511 t512 _ A5.out).mono ?_
      rintro e w76 ⟨rfl, hb⟩
      refine ⟨_, rfl, ?_⟩
      replace BK501 := BK501.bb hb
      replace BK502 := BK502.bb hb
      replace BK513 := BK513.bb hb
      replace HB := HB.s3 GE501 GE502 GE513 hb
      skip
      (try clear hb2)
      (try clear hk)
      (try clear hi)
      refine hK.out _ _ ⟨BK501.c 0, BK501.c 1, BK501.c 2, BK502.c 0, BK502.c 1, BK502.c 2⟩ (fun hHeld => ?_)
      clear hK K
      refine nm_ ?_
      refine pv_ (i := 5) (N := some 9) HT_.out ?_
      refine pv_ (i := 6) (N := some 15) HT_.out ?_
      refine pv_ (i := 7) (N := some 16) HT_.out ?_
      exact norm_ (by simp only [putAll, Act.put, List.setIfInBounds_toArray, List.set_cons_zero, List.set_cons_succ]) (hCont (gb513) _ ⟨hHeld, (bk_ BK501.out), (bk_ BK502.out), (bk_ BK513.out), GW513.out, GE513.out, NB501_513.out, NB513_501.out, NB502_513.out, NB513_502.out, (hb3_ HB.out GE501.out GE502.out GE513.out)⟩)
    ·skip
     refine box_step ?hg (N := 5) ?hd (cs := #[.int .i64 0, .int .i64 0, .int .i64 0]) (t := 28) ?hr ?_; (case hd => rfl); (case hg => rfl); (case hr => first | (go_simp; done) | (go_simp; rfl))
     intro gb513 hg w74 hbox hb
     have n0_ := BK501.bb hb
     have n1_ := BK502.bb hb
     have n2_ := HB.s2 GE501 GE502 hb
     have n3_ := Aside0.mk (hbox)
     have n4_ := HB.g2 GE501 GE502 hg
     have n5_ := HB.g2 GE501 GE502 hg
     have n6_ := BK501.nl hg
     have n7_ := BK501.nr hg
     have n8_ := BK502.nl hg
     have n9_ := BK502.nr hg
     clear BK501
     clear BK502
     clear HB
     have BK501 := n0_
     have BK502 := n1_
     have HB := n2_
     have BK513 := n3_
     have GW513 := n4_
     have GE513 := n5_
     have NB501_513 := n6_
     have NB513_501 := n7_
     have NB502_513 := n8_
     have NB513_502 := n9_
     clear n0_ n1_ n2_ n3_ n4_ n5_ n6_ n7_ n8_ n9_
     clear hb hbox hg
     refine hK.out _ _ ⟨BK501.c 0, BK501.c 1, BK501.c 2, BK502.c 0, BK502.c 1, BK502.c 2⟩ (fun hHeld => ?_)
     clear hK K
     refine norm_ (a' := ?_) ?_ ?_
     rotate_left
     ·show Act.put _ (some 5) _ = _
      simp only [Act.put, List.setIfInBounds_toArray, List.set_cons_zero, List.set_cons_succ, i64_w, i32_w]
      rfl
     refine ov_ (i := 3) (N := some 13) HT_.out (fun K hK => ?_)
     refine gq_ Tryd.func6 #[.agg #[.int .i64 a1_0, .int .i64 a1_1, .int .i64 a1_2]] ?_
     with_reducible refine (laws_toMaze.calls a1_0 a1_1 a1_2 t506 t507 t508 _ A4.out).mono ?_
     rintro e w75 ⟨rfl, hb⟩
     refine ⟨_, rfl, ?_⟩
     replace BK501 := BK501.bb hb
     replace BK502 := BK502.bb hb
     replace BK513 := BK513.bb hb
     replace HB := HB.s3 GE501 GE502 GE513 hb
     skip
     (try clear hb2)
     (try clear hk)
     (try clear hi)
     refine hK.out _ _ ⟨BK501.c 0, BK501.c 1, BK501.c 2, BK502.c 0, BK502.c 1, BK502.c 2⟩ (fun hHeld => ?_)
     clear hK K
     refine nm_ ?_
     refine ov_ (i := 4) (N := some 14) HT_.out (fun K hK => ?_)
     refine gq_ Tryd.func5 #[.agg #[.int .i64 t503, .int .i64 t504, .int .i64 t505], .agg #[.int .i64 t506, .int .i64 t507, .int .i64 t508]] ?_
     with_reducible refine (spec_SwapTowards.calls k t503 t504 t505 t506 t507 t508 t509 t510 t511 t512 _ A5.out).mono ?_
     rintro e w76 ⟨rfl, hb⟩
     refine ⟨_, rfl, ?_⟩
     replace BK501 := BK501.bb hb
     replace BK502 := BK502.bb hb
     replace BK513 := BK513.bb hb
     replace HB := HB.s3 GE501 GE502 GE513 hb
     skip
     (try clear hb2)
     (try clear hk)
     (try clear hi)
     refine hK.out _ _ ⟨BK501.c 0, BK501.c 1, BK501.c 2, BK502.c 0, BK502.c 1, BK502.c 2⟩ (fun hHeld => ?_)
     clear hK K
     refine nm_ ?_
     refine pv_ (i := 5) (N := some 9) HT_.out ?_
     refine pv_ (i := 6) (N := some 15) HT_.out ?_
     refine pv_ (i := 7) (N := some 16) HT_.out ?_
     exact norm_ (by simp only [putAll, Act.put, List.setIfInBounds_toArray, List.set_cons_zero, List.set_cons_succ]) (hCont (gb513) _ ⟨hHeld, (bk_ BK501.out), (bk_ BK502.out), (bk_ BK513.out), GW513.out, GE513.out, NB501_513.out, NB513_501.out, NB502_513.out, NB513_502.out, (hb3_ HB.out GE501.out GE502.out GE513.out)⟩)
   ·skip
    refine box_step ?hg (N := 5) ?hd (cs := #[.int .i64 0, .int .i64 0, .int .i64 0]) (t := 28) ?hr ?_; (case hd => rfl); (case hg => rfl); (case hr => first | (go_simp; done) | (go_simp; rfl))
    intro gb513 hg w73 hbox hb
    have n0_ := BK501.bb hb
    have n1_ := BK502.bb hb
    have n2_ := HB.s2 GE501 GE502 hb
    have n3_ := Aside0.mk (hbox)
    have n4_ := HB.g2 GE501 GE502 hg
    have n5_ := HB.g2 GE501 GE502 hg
    have n6_ := BK501.nl hg
    have n7_ := BK501.nr hg
    have n8_ := BK502.nl hg
    have n9_ := BK502.nr hg
    clear BK501
    clear BK502
    clear HB
    have BK501 := n0_
    have BK502 := n1_
    have HB := n2_
    have BK513 := n3_
    have GW513 := n4_
    have GE513 := n5_
    have NB501_513 := n6_
    have NB513_501 := n7_
    have NB502_513 := n8_
    have NB513_502 := n9_
    clear n0_ n1_ n2_ n3_ n4_ n5_ n6_ n7_ n8_ n9_
    clear hb hbox hg
    refine hK.out _ _ ⟨BK501.c 0, BK501.c 1, BK501.c 2, BK502.c 0, BK502.c 1, BK502.c 2⟩ (fun hHeld => ?_)
    clear hK K
    refine norm_ (a' := ?_) ?_ ?_
    rotate_left
    ·show Act.put _ (some 5) _ = _
     simp only [Act.put, List.setIfInBounds_toArray, List.set_cons_zero, List.set_cons_succ, i64_w, i32_w]
     rfl
    refine ov_ (i := 1) (N := some 11) HT_.out (fun K hK => ?_)
    refine gq_ Tryd.func6 #[.agg #[.int .i64 a0_0, .int .i64 a0_1, .int .i64 a0_2]] ?_
    with_reducible refine (laws_toMaze.calls a0_0 a0_1 a0_2 t503 t504 t505 _ A3.out).mono ?_
    rintro e w74 ⟨rfl, hb⟩
    refine ⟨_, rfl, ?_⟩
    replace BK501 := BK501.bb hb
    replace BK502 := BK502.bb hb
    replace BK513 := BK513.bb hb
    replace HB := HB.s3 GE501 GE502 GE513 hb
    skip
    (try clear hb2)
    (try clear hk)
    (try clear hi)
    refine hK.out _ _ ⟨BK501.c 0, BK501.c 1, BK501.c 2, BK502.c 0, BK502.c 1, BK502.c 2⟩ (fun hHeld => ?_)
    clear hK K
    refine nm_ ?_
    refine ov_ (i := 3) (N := some 13) HT_.out (fun K hK => ?_)
    refine gq_ Tryd.func6 #[.agg #[.int .i64 a1_0, .int .i64 a1_1, .int .i64 a1_2]] ?_
    with_reducible refine (laws_toMaze.calls a1_0 a1_1 a1_2 t506 t507 t508 _ A4.out).mono ?_
    rintro e w75 ⟨rfl, hb⟩
    refine ⟨_, rfl, ?_⟩
    replace BK501 := BK501.bb hb
    replace BK502 := BK502.bb hb
    replace BK513 := BK513.bb hb
    replace HB := HB.s3 GE501 GE502 GE513 hb
    skip
    (try clear hb2)
    (try clear hk)
    (try clear hi)
    refine hK.out _ _ ⟨BK501.c 0, BK501.c 1, BK501.c 2, BK502.c 0, BK502.c 1, BK502.c 2⟩ (fun hHeld => ?_)
    clear hK K
    refine nm_ ?_
    refine ov_ (i := 4) (N := some 14) HT_.out (fun K hK => ?_)
    refine gq_ Tryd.func5 #[.agg #[.int .i64 t503, .int .i64 t504, .int .i64 t505], .agg #[.int .i64 t506, .int .i64 t507, .int .i64 t508]] ?_
    with_reducible refine (spec_SwapTowards.calls k t503 t504 t505 t506 t507 t508 t509 t510 t511 t512 _ A5.out).mono ?_
    rintro e w76 ⟨rfl, hb⟩
    refine ⟨_, rfl, ?_⟩
    replace BK501 := BK501.bb hb
    replace BK502 := BK502.bb hb
    replace BK513 := BK513.bb hb
    replace HB := HB.s3 GE501 GE502 GE513 hb
    skip
    (try clear hb2)
    (try clear hk)
    (try clear hi)
    refine hK.out _ _ ⟨BK501.c 0, BK501.c 1, BK501.c 2, BK502.c 0, BK502.c 1, BK502.c 2⟩ (fun hHeld => ?_)
    clear hK K
    refine nm_ ?_
    refine pv_ (i := 5) (N := some 9) HT_.out ?_
    refine pv_ (i := 6) (N := some 15) HT_.out ?_
    refine pv_ (i := 7) (N := some 16) HT_.out ?_
    exact norm_ (by simp only [putAll, Act.put, List.setIfInBounds_toArray, List.set_cons_zero, List.set_cons_succ]) (hCont (gb513) _ ⟨hHeld, (bk_ BK501.out), (bk_ BK502.out), (bk_ BK513.out), GW513.out, GE513.out, NB501_513.out, NB513_501.out, NB502_513.out, NB513_502.out, (hb3_ HB.out GE501.out GE502.out GE513.out)⟩)
  rintro gb513 w77 ⟨hS_, h0_, h1_, h2_, h3_, h4_, h5_, h6_, h7_, h8_, h9_⟩
  have n0_ : Aside0 (w77.heap[gb501]? = some (.cells #[.int .i64 a0_0, .int .i64 a0_1, .int .i64 a0_2] 25 (0, 0))) := ⟨h0_⟩
  have n1_ : Aside0 (w77.heap[gb502]? = some (.cells #[.int .i64 a1_0, .int .i64 a1_1, .int .i64 a1_2] 25 (0, 0))) := ⟨h1_⟩
  have n2_ : Aside0 (w77.heap[gb513]? = some (.cells #[.int .i64 0, .int .i64 0, .int .i64 0] 28 (0, 0))) := ⟨h2_⟩
  have n3_ : Aside0 (w.heap.size ≤ gb513) := ⟨h3_⟩
  have n4_ : Aside0 (w.heap.size ≤ gb513) := ⟨h4_⟩
  have n5_ : Aside0 (gb501 ≠ gb513) := ⟨h5_⟩
  have n6_ : Aside0 (gb513 ≠ gb501) := ⟨h6_⟩
  have n7_ : Aside0 (gb502 ≠ gb513) := ⟨h7_⟩
  have n8_ : Aside0 (gb513 ≠ gb502) := ⟨h8_⟩
  have n9_ : Aside0 (Below w.heap.size w w77) := ⟨h9_⟩
  clear BK501
  clear BK502
  clear HB
  clear h0_ h1_ h2_ h3_ h4_ h5_ h6_ h7_ h8_ h9_
  have BK501 := n0_
  have BK502 := n1_
  have BK513 := n2_
  have GW513 := n3_
  have GE513 := n4_
  have NB501_513 := n5_
  have NB513_501 := n6_
  have NB502_513 := n7_
  have NB513_502 := n8_
  have HB := n9_
  clear n0_ n1_ n2_ n3_ n4_ n5_ n6_ n7_ n8_ n9_
  have hHeld : w77.cell? ⟨gb501, 0, none⟩ = some (.int .i64 a0_0) ∧ w77.cell? ⟨gb501, 1, none⟩ = some (.int .i64 a0_1) ∧ w77.cell? ⟨gb501, 2, none⟩ = some (.int .i64 a0_2) ∧ w77.cell? ⟨gb502, 0, none⟩ = some (.int .i64 a1_0) ∧ w77.cell? ⟨gb502, 1, none⟩ = some (.int .i64 a1_1) ∧ w77.cell? ⟨gb502, 2, none⟩ = some (.int .i64 a1_2) := hS_
  refine norm_ (a' := ?_) ?_ ?_
  rotate_left
  ·simp only [putAll, Act.put, List.setIfInBounds_toArray, List.set_cons_zero, List.set_cons_succ]
   rfl
  refine one_ (i := 9) (N := none) #[true, true, true, true, true, true, true, true, true, true, false] rfl rfl (one_of HT_.out (by kernel_rfl)) (by decide) (fun K hK => ?_)
  have hs78 : w77.cell? ⟨gb513, 0, none⟩ = some (.int .i64 0) := BK513.c 0
  have hfs78 := blk_frozen BK513.out 0
  have hns78_0 := NB501_513.out
  have hns78_1 := NB502_513.out
  have hms78_0 := NB513_501.out
  have hms78_1 := NB513_502.out
  have hs79 : w77.cell? ⟨gb513, 1, none⟩ = some (.int .i64 0) := BK513.c 1
  have hfs79 := blk_frozen BK513.out 1
  have hns79_0 := NB501_513.out
  have hns79_1 := NB502_513.out
  have hms79_0 := NB513_501.out
  have hms79_1 := NB513_502.out
  have hs80 : w77.cell? ⟨gb513, 2, none⟩ = some (.int .i64 0) := BK513.c 2
  have hfs80 := blk_frozen BK513.out 2
  have hns80_0 := NB501_513.out
  have hns80_1 := NB502_513.out
  have hms80_0 := NB513_501.out
  have hms80_1 := NB513_502.out
  refine skip_ (w1 := ?_) (by rfl) rfl ?_ ?_
  rotate_left
  ·go_simp
   rfl
  refine hK.out _ _ ⟨((cell_far (p := ⟨gb513, _, none⟩) NB501_513.out _).trans (((cell_far (p := ⟨gb513, _, none⟩) NB501_513.out _).trans (((cell_far (p := ⟨gb513, _, none⟩) NB501_513.out _).trans (hHeld.1)))))), ((cell_far (p := ⟨gb513, _, none⟩) NB501_513.out _).trans (((cell_far (p := ⟨gb513, _, none⟩) NB501_513.out _).trans (((cell_far (p := ⟨gb513, _, none⟩) NB501_513.out _).trans (hHeld.2.1)))))), ((cell_far (p := ⟨gb513, _, none⟩) NB501_513.out _).trans (((cell_far (p := ⟨gb513, _, none⟩) NB501_513.out _).trans (((cell_far (p := ⟨gb513, _, none⟩) NB501_513.out _).trans (hHeld.2.2.1)))))), ((cell_far (p := ⟨gb513, _, none⟩) NB502_513.out _).trans (((cell_far (p := ⟨gb513, _, none⟩) NB502_513.out _).trans (((cell_far (p := ⟨gb513, _, none⟩) NB502_513.out _).trans (hHeld.2.2.2.1)))))), ((cell_far (p := ⟨gb513, _, none⟩) NB502_513.out _).trans (((cell_far (p := ⟨gb513, _, none⟩) NB502_513.out _).trans (((cell_far (p := ⟨gb513, _, none⟩) NB502_513.out _).trans (hHeld.2.2.2.2.1)))))), ((cell_far (p := ⟨gb513, _, none⟩) NB502_513.out _).trans (((cell_far (p := ⟨gb513, _, none⟩) NB502_513.out _).trans (((cell_far (p := ⟨gb513, _, none⟩) NB502_513.out _).trans (hHeld.2.2.2.2.2))))))⟩ (fun hHeld => ?_)
  clear hK K
  refine pv_ (i := 10) (N := some 6) HT_.out ?_
  refine done_ (done_of HT_.out (by kernel_rfl)) ?_
  try go_wp2
  have n0_ : Aside0 ((((w77.setCell ⟨gb513, 0, none⟩ (.int .i64 t509)).setCell ⟨gb513, 1, none⟩ (.int .i64 t510)).setCell ⟨gb513, 2, none⟩ (.int .i64 t511)).heap[gb501]? = some (.cells #[.int .i64 a0_0, .int .i64 a0_1, .int .i64 a0_2] 25 (0, 0))) := ⟨by (with_reducible repeat (first | refine blk_drewN ?_ _ | refine blk_drew ?_ | refine blk_alloc ?_ _)); refine blk_far ?_ NB501_513.out _; (with_reducible repeat (first | refine blk_drewN ?_ _ | refine blk_drew ?_ | refine blk_alloc ?_ _)); refine blk_far ?_ NB501_513.out _; (with_reducible repeat (first | refine blk_drewN ?_ _ | refine blk_drew ?_ | refine blk_alloc ?_ _)); refine blk_far ?_ NB501_513.out _; (with_reducible repeat (first | refine blk_drewN ?_ _ | refine blk_drew ?_ | refine blk_alloc ?_ _)); exact BK501.out⟩
  have n1_ : Aside0 ((((w77.setCell ⟨gb513, 0, none⟩ (.int .i64 t509)).setCell ⟨gb513, 1, none⟩ (.int .i64 t510)).setCell ⟨gb513, 2, none⟩ (.int .i64 t511)).heap[gb502]? = some (.cells #[.int .i64 a1_0, .int .i64 a1_1, .int .i64 a1_2] 25 (0, 0))) := ⟨by (with_reducible repeat (first | refine blk_drewN ?_ _ | refine blk_drew ?_ | refine blk_alloc ?_ _)); refine blk_far ?_ NB502_513.out _; (with_reducible repeat (first | refine blk_drewN ?_ _ | refine blk_drew ?_ | refine blk_alloc ?_ _)); refine blk_far ?_ NB502_513.out _; (with_reducible repeat (first | refine blk_drewN ?_ _ | refine blk_drew ?_ | refine blk_alloc ?_ _)); refine blk_far ?_ NB502_513.out _; (with_reducible repeat (first | refine blk_drewN ?_ _ | refine blk_drew ?_ | refine blk_alloc ?_ _)); exact BK502.out⟩
  have n2_ : Aside0 ((((w77.setCell ⟨gb513, 0, none⟩ (.int .i64 t509)).setCell ⟨gb513, 1, none⟩ (.int .i64 t510)).setCell ⟨gb513, 2, none⟩ (.int .i64 t511)).heap[gb513]? = some (.cells #[.int .i64 t509, .int .i64 t510, .int .i64 t511] 28 (0, 0))) := ⟨bq3_ BK513.out⟩
  have n3_ : Aside0 (Below w.heap.size w (((w77.setCell ⟨gb513, 0, none⟩ (.int .i64 t509)).setCell ⟨gb513, 1, none⟩ (.int .i64 t510)).setCell ⟨gb513, 2, none⟩ (.int .i64 t511))) := ⟨hb3_ HB.out GE501.out GE502.out GE513.out⟩
  (try clear BK501)
  (try clear BK502)
  (try clear BK513)
  (try clear HB)
  generalize (((w77.setCell ⟨gb513, 0, none⟩ (.int .i64 t509)).setCell ⟨gb513, 1, none⟩ (.int .i64 t510)).setCell ⟨gb513, 2, none⟩ (.int .i64 t511)) = w81 at n0_ n1_ n2_ n3_ ⊢
  have BK501 := n0_
  have BK502 := n1_
  have BK513 := n2_
  have HB := n3_
  clear n0_ n1_ n2_ n3_
  replace BK501 := Aside0.mk (blk_drew BK501.out)
  replace BK502 := Aside0.mk (blk_drew BK502.out)
  replace BK513 := Aside0.mk (blk_drew BK513.out)
  replace HB := Aside0.mk (below_drew1 HB.out)
  refine start_ (n := 11) (S := fun w' => w'.cell? ⟨gb501, 0, none⟩ = some (.int .i64 a0_0) ∧ w'.cell? ⟨gb501, 1, none⟩ = some (.int .i64 a0_1) ∧ w'.cell? ⟨gb501, 2, none⟩ = some (.int .i64 a0_2) ∧ w'.cell? ⟨gb502, 0, none⟩ = some (.int .i64 a1_0) ∧ w'.cell? ⟨gb502, 1, none⟩ = some (.int .i64 a1_1) ∧ w'.cell? ⟨gb502, 2, none⟩ = some (.int .i64 a1_2)) (ds := []) #[false, false, false, false, false, false, false, false, false, false, false] (by kernel_rfl) rfl rfl ⟨BK501.c 0, BK501.c 1, BK501.c 2, BK502.c 0, BK502.c 1, BK502.c 2⟩ (fun hHeld => ?_); refine with_tabW laws_FnExactSwapTowards.tab2 laws_FnExactSwapTowards.bits2 (fun HT_ HW_ => ?_)
  generalize w81.drew = w82 at BK501 BK502 BK513 HB hHeld ⊢
  refine tv6_ (i := 0) (N := some 18) HT_.out HW_.out hHeld ?_
  refine tv6_ (i := 2) (N := some 20) HT_.out HW_.out hHeld ?_
  refine join_ (σ := Nat) 2 #[true, true, true, true, true, true, true, true, true, false, false] (fun s_ => [(19, .agg #[.int .i64 t514, .int .i64 t515, .int .i64 t516]), (21, .agg #[.int .i64 t517, .int .i64 t518, .int .i64 t519]), (22, .tuple #[.agg #[.int .i64 t520, .int .i64 t521, .int .i64 t522], .bool t523]), (7, .pointer (some ⟨s_, 0, none⟩)), (17, .tuple #[.agg #[.int .i64 t520, .int .i64 t521, .int .i64 t522], .bool t523]), (23, .agg #[.int .i64 t520, .int .i64 t521, .int .i64 t522]), (24, .bool t523)]) (fun s_ w' => (w'.cell? ⟨gb501, 0, none⟩ = some (.int .i64 a0_0) ∧ w'.cell? ⟨gb501, 1, none⟩ = some (.int .i64 a0_1) ∧ w'.cell? ⟨gb501, 2, none⟩ = some (.int .i64 a0_2) ∧ w'.cell? ⟨gb502, 0, none⟩ = some (.int .i64 a1_0) ∧ w'.cell? ⟨gb502, 1, none⟩ = some (.int .i64 a1_1) ∧ w'.cell? ⟨gb502, 2, none⟩ = some (.int .i64 a1_2)) ∧ (w'.heap[gb501]? = some (.cells #[.int .i64 a0_0, .int .i64 a0_1, .int .i64 a0_2] 25 (0, 0))) ∧ (w'.heap[gb502]? = some (.cells #[.int .i64 a1_0, .int .i64 a1_1, .int .i64 a1_2] 25 (0, 0))) ∧ (w'.heap[gb513]? = some (.cells #[.int .i64 t509, .int .i64 t510, .int .i64 t511] 28 (0, 0))) ∧ (w'.heap[s_]? = some (.cells #[.int .i64 0, .int .i64 0, .int .i64 0] 28 (0, 0))) ∧ (w.heap.size ≤ s_) ∧ (w.heap.size ≤ s_) ∧ (gb501 ≠ s_) ∧ (s_ ≠ gb501) ∧ (gb502 ≠ s_) ∧ (s_ ≠ gb502) ∧ (gb513 ≠ s_) ∧ (s_ ≠ gb513) ∧ (Below w.heap.size w w')) ?_ ?_
  rotate_left
  ·intro hCont
   refine two_ (i := 1) (j := 8) (Ni := some 19) (Nj := some 7) #[true, true, true, false, false, false, false, false, false, false, false] #[true, false, true, false, false, false, false, false, true, false, false] rfl rfl rfl rfl (two_of HT_.out (by kernel_rfl)) (by decide) (by decide) (fun K hK => ?_) (fun K hK => ?_)
   ·skip
    refine gq_ Tryd.func6 #[.agg #[.int .i64 a0_0, .int .i64 a0_1, .int .i64 a0_2]] ?_
    with_reducible refine (laws_toMaze.calls a0_0 a0_1 a0_2 t514 t515 t516 _ A6.out).mono ?_
    rintro e w83 ⟨rfl, hb⟩
    refine ⟨_, rfl, ?_⟩
    replace BK501 := BK501.bb hb
    replace BK502 := BK502.bb hb
    replace BK513 := BK513.bb hb
    replace HB := HB.s3 GE501 GE502 GE513 hb
    skip
    (try clear hb2)
    (try clear hk)
    (try clear hi)
    refine hK.out _ _ ⟨BK501.c 0, BK501.c 1, BK501.c 2, BK502.c 0, BK502.c 1, BK502.c 2⟩ (fun hHeld => ?_)
    clear hK K
    refine nm_ ?_
    refine two_ (i := 3) (j := 8) (Ni := some 21) (Nj := some 7) #[true, true, true, true, false, false, false, false, false, false, false] #[true, true, true, false, false, false, false, false, true, false, false] rfl rfl rfl rfl (two_of HT_.out (by kernel_rfl)) (by decide) (by decide) (fun K hK => ?_) (fun K hK => ?_)
    ·skip
     refine gq_ Tryd.func6 #[.agg #[.int .i64 a1_0, .int .i64 a1_1, .int .i64 a1_2]] ?_
     with_reducible refine (laws_toMaze.calls a1_0 a1_1 a1_2 t517 t518 t519 _ A7.out).mono ?_
     rintro e w84 ⟨rfl, hb⟩
     refine ⟨_, rfl, ?_⟩
     replace BK501 := BK501.bb hb
     replace BK502 := BK502.bb hb
     replace BK513 := BK513.bb hb
     replace HB := HB.s3 GE501 GE502 GE513 hb
     skip
     (try clear hb2)
     (try clear hk)
     (try clear hi)
     refine hK.out _ _ ⟨BK501.c 0, BK501.c 1, BK501.c 2, BK502.c 0, BK502.c 1, BK502.c 2⟩ (fun hHeld => ?_)
     clear hK K
     refine nm_ ?_
     refine two_ (i := 4) (j := 8) (Ni := some 22) (Nj := some 7) #[true, true, true, true, true, false, false, false, false, false, false] #[true, true, true, true, false, false, false, false, true, false, false] rfl rfl rfl rfl (two_of HT_.out (by kernel_rfl)) (by decide) (by decide) (fun K hK => ?_) (fun K hK => ?_)
     ·skip
      refine gq_ Tryd.func7 #[.agg #[.int .i64 t514, .int .i64 t515, .int .i64 t516], .agg #[.int .i64 t517, .int .i64 t518, .int .i64 t519]] ?_
      with_reducible refine (impl_SwapTowards.calls k t514 t515 t516 t517 t518 t519 t520 t521 t522 t523 _ A8.out (HZ.out.move (Nat.le_refl _) (by repeat (first | (with_reducible first | exact HB.out | exact Below.refl _ _ | apply below_alloc | apply pw_below_drewN | apply below_drew1 | refine below_set ?_ GE501.out | refine below_set ?_ GE502.out) | exact HB.out)))).mono ?_
      rintro e w85 ⟨rfl, hb⟩
      refine ⟨_, rfl, ?_⟩
      replace BK501 := BK501.bb hb
      replace BK502 := BK502.bb hb
      replace BK513 := BK513.bb hb
      replace HB := HB.s3 GE501 GE502 GE513 hb
      skip
      (try clear hb2)
      (try clear hk)
      (try clear hi)
      refine hK.out _ _ ⟨BK501.c 0, BK501.c 1, BK501.c 2, BK502.c 0, BK502.c 1, BK502.c 2⟩ (fun hHeld => ?_)
      clear hK K
      refine nm_ ?_
      refine pv_ (i := 5) (N := some 17) HT_.out ?_
      refine pv_ (i := 6) (N := some 23) HT_.out ?_
      refine pv_ (i := 7) (N := some 24) HT_.out ?_
      refine ov_ (i := 8) (N := some 7) HT_.out (fun K hK => ?_)
      refine box_step ?hg (N := 7) ?hd (cs := #[.int .i64 0, .int .i64 0, .int .i64 0]) (t := 28) ?hr ?_; (case hd => rfl); (case hg => rfl); (case hr => first | (go_simp; done) | (go_simp; rfl))
      intro gb524 hg w86 hbox hb
      have n0_ := BK501.bb hb
      have n1_ := BK502.bb hb
      have n2_ := BK513.bb hb
      have n3_ := HB.s3 GE501 GE502 GE513 hb
      have n4_ := Aside0.mk (hbox)
      have n5_ := HB.g3 GE501 GE502 GE513 hg
      have n6_ := HB.g3 GE501 GE502 GE513 hg
      have n7_ := BK501.nl hg
      have n8_ := BK501.nr hg
      have n9_ := BK502.nl hg
      have n10_ := BK502.nr hg
      have n11_ := BK513.nl hg
      have n12_ := BK513.nr hg
      clear BK501
      clear BK502
      clear BK513
      clear HB
      have BK501 := n0_
      have BK502 := n1_
      have BK513 := n2_
      have HB := n3_
      have BK524 := n4_
      have GW524 := n5_
      have GE524 := n6_
      have NB501_524 := n7_
      have NB524_501 := n8_
      have NB502_524 := n9_
      have NB524_502 := n10_
      have NB513_524 := n11_
      have NB524_513 := n12_
      clear n0_ n1_ n2_ n3_ n4_ n5_ n6_ n7_ n8_ n9_ n10_ n11_ n12_
      clear hb hbox hg
      refine hK.out _ _ ⟨BK501.c 0, BK501.c 1, BK501.c 2, BK502.c 0, BK502.c 1, BK502.c 2⟩ (fun hHeld => ?_)
      clear hK K
      refine norm_ (a' := ?_) ?_ ?_
      rotate_left
      ·show Act.put _ (some 7) _ = _
       simp only [Act.put, List.setIfInBounds_toArray, List.set_cons_zero, List.set_cons_succ, i64_w, i32_w]
       rfl
      exact norm_ (by simp only [putAll, Act.put, List.setIfInBounds_toArray, List.set_cons_zero, List.set_cons_succ]) (hCont (gb524) _ ⟨hHeld, (bk_ BK501.out), (bk_ BK502.out), (bk_ BK513.out), (bk_ BK524.out), GW524.out, GE524.out, NB501_524.out, NB524_501.out, NB502_524.out, NB524_502.out, NB513_524.out, NB524_513.out, (hb4_ HB.out GE501.out GE502.out GE513.out GE524.out)⟩)
     ·skip
      refine box_step ?hg (N := 7) ?hd (cs := #[.int .i64 0, .int .i64 0, .int .i64 0]) (t := 28) ?hr ?_; (case hd => rfl); (case hg => rfl); (case hr => first | (go_simp; done) | (go_simp; rfl))
      intro gb524 hg w85 hbox hb
      have n0_ := BK501.bb hb
      have n1_ := BK502.bb hb
      have n2_ := BK513.bb hb
      have n3_ := HB.s3 GE501 GE502 GE513 hb
      have n4_ := Aside0.mk (hbox)
      have n5_ := HB.g3 GE501 GE502 GE513 hg
      have n6_ := HB.g3 GE501 GE502 GE513 hg
      have n7_ := BK501.nl hg
      have n8_ := BK501.nr hg
      have n9_ := BK502.nl hg
      have n10_ := BK502.nr hg
      have n11_ := BK513.nl hg
      have n12_ := BK513.nr hg
      clear BK501
      clear BK502
      clear BK513
      clear HB
      have BK501 := n0_
      have BK502 := n1_
      have BK513 := n2_
      have HB := n3_
      have BK524 := n4_
      have GW524 := n5_
      have GE524 := n6_
      have NB501_524 := n7_
      have NB524_501 := n8_
      have NB502_524 := n9_
      have NB524_502 := n10_
      have NB513_524 := n11_
      have NB524_513 := n12_
      clear n0_ n1_ n2_ n3_ n4_ n5_ n6_ n7_ n8_ n9_ n10_ n11_ n12_
      clear hb hbox hg
      refine hK.out _ _ ⟨BK501.c 0, BK501.c 1, BK501.c 2, BK502.c 0, BK502.c 1, BK502.c 2⟩ (fun hHeld => ?_)
      clear hK K
      refine norm_ (a' := ?_) ?_ ?_
      rotate_left
      ·show Act.put _ (some 7) _ = _
       simp only [Act.put, List.setIfInBounds_toArray, List.set_cons_zero, List.set_cons_succ, i64_w, i32_w]
       rfl
      refine ov_ (i := 4) (N := some 22) HT_.out (fun K hK => ?_)
      refine gq_ Tryd.func7 #[.agg #[.int .i64 t514, .int .i64 t515, .int .i64 t516], .agg #[.int .i64 t517, .int .i64 t518, .int .i64 t519]] ?_
      with_reducible refine (impl_SwapTowards.calls k t514 t515 t516 t517 t518 t519 t520 t521 t522 t523 _ A8.out (HZ.out.move (Nat.le_refl _) (by repeat (first | (with_reducible first | exact HB.out | exact Below.refl _ _ | apply below_alloc | apply pw_below_drewN | apply below_drew1 | refine below_set ?_ GE501.out | refine below_set ?_ GE502.out) | exact HB.out)))).mono ?_
      rintro e w86 ⟨rfl, hb⟩
      refine ⟨_, rfl, ?_⟩
      replace BK501 := BK501.bb hb
      replace BK502 := BK502.bb hb
      replace BK513 := BK513.bb hb
      replace BK524 := BK524.bb hb
      replace HB := HB.s4 GE501 GE502 GE513 GE524 hb
      skip
      (try clear hb2)
      (try clear hk)
      (try clear hi)
      refine hK.out _ _ ⟨BK501.c 0, BK501.c 1, BK501.c 2, BK502.c 0, BK502.c 1, BK502.c 2⟩ (fun hHeld => ?_)
      clear hK K
      refine nm_ ?_
      refine pv_ (i := 5) (N := some 17) HT_.out ?_
      refine pv_ (i := 6) (N := some 23) HT_.out ?_
      refine pv_ (i := 7) (N := some 24) HT_.out ?_
      exact norm_ (by simp only [putAll, Act.put, List.setIfInBounds_toArray, List.set_cons_zero, List.set_cons_succ]) (hCont (gb524) _ ⟨hHeld, (bk_ BK501.out), (bk_ BK502.out), (bk_ BK513.out), (bk_ BK524.out), GW524.out, GE524.out, NB501_524.out, NB524_501.out, NB502_524.out, NB524_502.out, NB513_524.out, NB524_513.out, (hb4_ HB.out GE501.out GE502.out GE513.out GE524.out)⟩)
    ·skip
     refine box_step ?hg (N := 7) ?hd (cs := #[.int .i64 0, .int .i64 0, .int .i64 0]) (t := 28) ?hr ?_; (case hd => rfl); (case hg => rfl); (case hr => first | (go_simp; done) | (go_simp; rfl))
     intro gb524 hg w84 hbox hb
     have n0_ := BK501.bb hb
     have n1_ := BK502.bb hb
     have n2_ := BK513.bb hb
     have n3_ := HB.s3 GE501 GE502 GE513 hb
     have n4_ := Aside0.mk (hbox)
     have n5_ := HB.g3 GE501 GE502 GE513 hg
     have n6_ := HB.g3 GE501 GE502 GE513 hg
     have n7_ := BK501.nl hg
     have n8_ := BK501.nr hg
     have n9_ := BK502.nl hg
     have n10_ := BK502.nr hg
     have n11_ := BK513.nl hg
     have n12_ := BK513.nr hg
     clear BK501
     clear BK502
     clear BK513
     clear HB
     have BK501 := n0_
     have BK502 := n1_
     have BK513 := n2_
     have HB := n3_
     have BK524 := n4_
     have GW524 := n5_
     have GE524 := n6_
     have NB501_524 := n7_
     have NB524_501 := n8_
     have NB502_524 := n9_
     have NB524_502 := n10_
     have NB513_524 := n11_
     have NB524_513 := n12_
     clear n0_ n1_ n2_ n3_ n4_ n5_ n6_ n7_ n8_ n9_ n10_ n11_ n12_
     clear hb hbox hg
     refine hK.out _ _ ⟨BK501.c 0, BK501.c 1, BK501.c 2, BK502.c 0, BK502.c 1, BK502.c 2⟩ (fun hHeld => ?_)
     clear hK K
     refine norm_ (a' := ?_) ?_ ?_
     rotate_left
     ·show Act.put _ (some 7) _ = _
      simp only [Act.put, List.setIfInBounds_toArray, List.set_cons_zero, List.set_cons_succ, i64_w, i32_w]
      rfl
     refine ov_ (i := 3) (N := some 21) HT_.out (fun K hK => ?_)
     refine gq_ Tryd.func6 #[.agg #[.int .i64 a1_0, .int .i64 a1_1, .int .i64 a1_2]] ?_
     with_reducible refine (laws_toMaze.calls a1_0 a1_1 a1_2 t517 t518 t519 _ A7.out).mono ?_
     rintro e w85 ⟨rfl, hb⟩
     refine ⟨_, rfl, ?_⟩
     replace BK501 := BK501.bb hb
     replace BK502 := BK502.bb hb
     replace BK513 := BK513.bb hb
     replace BK524 := BK524.bb hb
     replace HB := HB.s4 GE501 GE502 GE513 GE524 hb
     skip
     (try clear hb2)
     (try clear hk)
     (try clear hi)
     refine hK.out _ _ ⟨BK501.c 0, BK501.c 1, BK501.c 2, BK502.c 0, BK502.c 1, BK502.c 2⟩ (fun hHeld => ?_)
     clear hK K
     refine nm_ ?_
     refine ov_ (i := 4) (N := some 22) HT_.out (fun K hK => ?_)
     refine gq_ Tryd.func7 #[.agg #[.int .i64 t514, .int .i64 t515, .int .i64 t516], .agg #[.int .i64 t517, .int .i64 t518, .int .i64 t519]] ?_
     with_reducible refine (impl_SwapTowards.calls k t514 t515 t516 t517 t518 t519 t520 t521 t522 t523 _ A8.out (HZ.out.move (Nat.le_refl _) (by repeat (first | (with_reducible first | exact HB.out | exact Below.refl _ _ | apply below_alloc | apply pw_below_drewN | apply below_drew1 | refine below_set ?_ GE501.out | refine below_set ?_ GE502.out) | exact HB.out)))).mono ?_
     rintro e w86 ⟨rfl, hb⟩
     refine ⟨_, rfl, ?_⟩
     replace BK501 := BK501.bb hb
     replace BK502 := BK502.bb hb
     replace BK513 := BK513.bb hb
     replace BK524 := BK524.bb hb
     replace HB := HB.s4 GE501 GE502 GE513 GE524 hb
     skip
     (try clear hb2)
     (try clear hk)
     (try clear hi)
     refine hK.out _ _ ⟨BK501.c 0, BK501.c 1, BK501.c 2, BK502.c 0, BK502.c 1, BK502.c 2⟩ (fun hHeld => ?_)
     clear hK K
     refine nm_ ?_
     refine pv_ (i := 5) (N := some 17) HT_.out ?_
     refine pv_ (i := 6) (N := some 23) HT_.out ?_
     refine pv_ (i := 7) (N := some 24) HT_.out ?_
     exact norm_ (by simp only [putAll, Act.put, List.setIfInBounds_toArray, List.set_cons_zero, List.set_cons_succ]) (hCont (gb524) _ ⟨hHeld, (bk_ BK501.out), (bk_ BK502.out), (bk_ BK513.out), (bk_ BK524.out), GW524.out, GE524.out, NB501_524.out, NB524_501.out, NB502_524.out, NB524_502.out, NB513_524.out, NB524_513.out, (hb4_ HB.out GE501.out GE502.out GE513.out GE524.out)⟩)
   ·skip
    refine box_step ?hg (N := 7) ?hd (cs := #[.int .i64 0, .int .i64 0, .int .i64 0]) (t := 28) ?hr ?_; (case hd => rfl); (case hg => rfl); (case hr => first | (go_simp; done) | (go_simp; rfl))
    intro gb524 hg w83 hbox hb
    have n0_ := BK501.bb hb
    have n1_ := BK502.bb hb
    have n2_ := BK513.bb hb
    have n3_ := HB.s3 GE501 GE502 GE513 hb
    have n4_ := Aside0.mk (hbox)
    have n5_ := HB.g3 GE501 GE502 GE513 hg
    have n6_ := HB.g3 GE501 GE502 GE513 hg
    have n7_ := BK501.nl hg
    have n8_ := BK501.nr hg
    have n9_ := BK502.nl hg
    have n10_ := BK502.nr hg
    have n11_ := BK513.nl hg
    have n12_ := BK513.nr hg
    clear BK501
    clear BK502
    clear BK513
    clear HB
    have BK501 := n0_
    have BK502 := n1_
    have BK513 := n2_
    have HB := n3_
    have BK524 := n4_
    have GW524 := n5_
    have GE524 := n6_
    have NB501_524 := n7_
    have NB524_501 := n8_
    have NB502_524 := n9_
    have NB524_502 := n10_
    have NB513_524 := n11_
    have NB524_513 := n12_
    clear n0_ n1_ n2_ n3_ n4_ n5_ n6_ n7_ n8_ n9_ n10_ n11_ n12_
    clear hb hbox hg
    refine hK.out _ _ ⟨BK501.c 0, BK501.c 1, BK501.c 2, BK502.c 0, BK502.c 1, BK502.c 2⟩ (fun hHeld => ?_)
    clear hK K
    refine norm_ (a' := ?_) ?_ ?_
    rotate_left
    ·show Act.put _ (some 7) _ = _
     simp only [Act.put, List.setIfInBounds_toArray, List.set_cons_zero, List.set_cons_succ, i64_w, i32_w]
     rfl
    refine ov_ (i := 1) (N := some 19) HT_.out (fun K hK => ?_)
    refine gq_ Tryd.func6 #[.agg #[.int .i64 a0_0, .int .i64 a0_1, .int .i64 a0_2]] ?_
    with_reducible refine (laws_toMaze.calls a0_0 a0_1 a0_2 t514 t515 t516 _ A6.out).mono ?_
    rintro e w84 ⟨rfl, hb⟩
    refine ⟨_, rfl, ?_⟩
    replace BK501 := BK501.bb hb
    replace BK502 := BK502.bb hb
    replace BK513 := BK513.bb hb
    replace BK524 := BK524.bb hb
    replace HB := HB.s4 GE501 GE502 GE513 GE524 hb
    skip
    (try clear hb2)
    (try clear hk)
    (try clear hi)
    refine hK.out _ _ ⟨BK501.c 0, BK501.c 1, BK501.c 2, BK502.c 0, BK502.c 1, BK502.c 2⟩ (fun hHeld => ?_)
    clear hK K
    refine nm_ ?_
    refine ov_ (i := 3) (N := some 21) HT_.out (fun K hK => ?_)
    refine gq_ Tryd.func6 #[.agg #[.int .i64 a1_0, .int .i64 a1_1, .int .i64 a1_2]] ?_
    with_reducible refine (laws_toMaze.calls a1_0 a1_1 a1_2 t517 t518 t519 _ A7.out).mono ?_
    rintro e w85 ⟨rfl, hb⟩
    refine ⟨_, rfl, ?_⟩
    replace BK501 := BK501.bb hb
    replace BK502 := BK502.bb hb
    replace BK513 := BK513.bb hb
    replace BK524 := BK524.bb hb
    replace HB := HB.s4 GE501 GE502 GE513 GE524 hb
    skip
    (try clear hb2)
    (try clear hk)
    (try clear hi)
    refine hK.out _ _ ⟨BK501.c 0, BK501.c 1, BK501.c 2, BK502.c 0, BK502.c 1, BK502.c 2⟩ (fun hHeld => ?_)
    clear hK K
    refine nm_ ?_
    refine ov_ (i := 4) (N := some 22) HT_.out (fun K hK => ?_)
    refine gq_ Tryd.func7 #[.agg #[.int .i64 t514, .int .i64 t515, .int .i64 t516], .agg #[.int .i64 t517, .int .i64 t518, .int .i64 t519]] ?_
    with_reducible refine (impl_SwapTowards.calls k t514 t515 t516 t517 t518 t519 t520 t521 t522 t523 _ A8.out (HZ.out.move (Nat.le_refl _) (by repeat (first | (with_reducible first | exact HB.out | exact Below.refl _ _ | apply below_alloc | apply pw_below_drewN | apply below_drew1 | refine below_set ?_ GE501.out | refine below_set ?_ GE502.out) | exact HB.out)))).mono ?_
    rintro e w86 ⟨rfl, hb⟩
    refine ⟨_, rfl, ?_⟩
    replace BK501 := BK501.bb hb
    replace BK502 := BK502.bb hb
    replace BK513 := BK513.bb hb
    replace BK524 := BK524.bb hb
    replace HB := HB.s4 GE501 GE502 GE513 GE524 hb
    skip
    (try clear hb2)
    (try clear hk)
    (try clear hi)
    refine hK.out _ _ ⟨BK501.c 0, BK501.c 1, BK501.c 2, BK502.c 0, BK502.c 1, BK502.c 2⟩ (fun hHeld => ?_)
    clear hK K
    refine nm_ ?_
    refine pv_ (i := 5) (N := some 17) HT_.out ?_
    refine pv_ (i := 6) (N := some 23) HT_.out ?_
    refine pv_ (i := 7) (N := some 24) HT_.out ?_
    exact norm_ (by simp only [putAll, Act.put, List.setIfInBounds_toArray, List.set_cons_zero, List.set_cons_succ]) (hCont (gb524) _ ⟨hHeld, (bk_ BK501.out), (bk_ BK502.out), (bk_ BK513.out), (bk_ BK524.out), GW524.out, GE524.out, NB501_524.out, NB524_501.out, NB502_524.out, NB524_502.out, NB513_524.out, NB524_513.out, (hb4_ HB.out GE501.out GE502.out GE513.out GE524.out)⟩)
  rintro gb524 w87 ⟨hS_, h0_, h1_, h2_, h3_, h4_, h5_, h6_, h7_, h8_, h9_, h10_, h11_, h12_⟩
  have n0_ : Aside0 (w87.heap[gb501]? = some (.cells #[.int .i64 a0_0, .int .i64 a0_1, .int .i64 a0_2] 25 (0, 0))) := ⟨h0_⟩
  have n1_ : Aside0 (w87.heap[gb502]? = some (.cells #[.int .i64 a1_0, .int .i64 a1_1, .int .i64 a1_2] 25 (0, 0))) := ⟨h1_⟩
  have n2_ : Aside0 (w87.heap[gb513]? = some (.cells #[.int .i64 t509, .int .i64 t510, .int .i64 t511] 28 (0, 0))) := ⟨h2_⟩
  have n3_ : Aside0 (w87.heap[gb524]? = some (.cells #[.int .i64 0, .int .i64 0, .int .i64 0] 28 (0, 0))) := ⟨h3_⟩
  have n4_ : Aside0 (w.heap.size ≤ gb524) := ⟨h4_⟩
  have n5_ : Aside0 (w.heap.size ≤ gb524) := ⟨h5_⟩
  have n6_ : Aside0 (gb501 ≠ gb524) := ⟨h6_⟩
  have n7_ : Aside0 (gb524 ≠ gb501) := ⟨h7_⟩
  have n8_ : Aside0 (gb502 ≠ gb524) := ⟨h8_⟩
  have n9_ : Aside0 (gb524 ≠ gb502) := ⟨h9_⟩
  have n10_ : Aside0 (gb513 ≠ gb524) := ⟨h10_⟩
  have n11_ : Aside0 (gb524 ≠ gb513) := ⟨h11_⟩
  have n12_ : Aside0 (Below w.heap.size w w87) := ⟨h12_⟩
  clear BK501
  clear BK502
  clear BK513
  clear HB
  clear h0_ h1_ h2_ h3_ h4_ h5_ h6_ h7_ h8_ h9_ h10_ h11_ h12_
  have BK501 := n0_
  have BK502 := n1_
  have BK513 := n2_
  have BK524 := n3_
  have GW524 := n4_
  have GE524 := n5_
  have NB501_524 := n6_
  have NB524_501 := n7_
  have NB502_524 := n8_
  have NB524_502 := n9_
  have NB513_524 := n10_
  have NB524_513 := n11_
  have HB := n12_
  clear n0_ n1_ n2_ n3_ n4_ n5_ n6_ n7_ n8_ n9_ n10_ n11_ n12_
  have hHeld : w87.cell? ⟨gb501, 0, none⟩ = some (.int .i64 a0_0) ∧ w87.cell? ⟨gb501, 1, none⟩ = some (.int .i64 a0_1) ∧ w87.cell? ⟨gb501, 2, none⟩ = some (.int .i64 a0_2) ∧ w87.cell? ⟨gb502, 0, none⟩ = some (.int .i64 a1_0) ∧ w87.cell? ⟨gb502, 1, none⟩ = some (.int .i64 a1_1) ∧ w87.cell? ⟨gb502, 2, none⟩ = some (.int .i64 a1_2) := hS_
  refine norm_ (a' := ?_) ?_ ?_
  rotate_left
  ·simp only [putAll, Act.put, List.setIfInBounds_toArray, List.set_cons_zero, List.set_cons_succ]
   rfl
  refine one_ (i := 9) (N := none) #[true, true, true, true, true, true, true, true, true, true, false] rfl rfl (one_of HT_.out (by kernel_rfl)) (by decide) (fun K hK => ?_)
  have hs88 : w87.cell? ⟨gb524, 0, none⟩ = some (.int .i64 0) := BK524.c 0
  have hfs88 := blk_frozen BK524.out 0
  have hns88_0 := NB501_524.out
  have hns88_1 := NB502_524.out
  have hns88_2 := NB513_524.out
  have hms88_0 := NB524_501.out
  have hms88_1 := NB524_502.out
  have hms88_2 := NB524_513.out
  have hs89 : w87.cell? ⟨gb524, 1, none⟩ = some (.int .i64 0) := BK524.c 1
  have hfs89 := blk_frozen BK524.out 1
  have hns89_0 := NB501_524.out
  have hns89_1 := NB502_524.out
  have hns89_2 := NB513_524.out
  have hms89_0 := NB524_501.out
  have hms89_1 := NB524_502.out
  have hms89_2 := NB524_513.out
  have hs90 : w87.cell? ⟨gb524, 2, none⟩ = some (.int .i64 0) := BK524.c 2
  have hfs90 := blk_frozen BK524.out 2
  have hns90_0 := NB501_524.out
  have hns90_1 := NB502_524.out
  have hns90_2 := NB513_524.out
  have hms90_0 := NB524_501.out
  have hms90_1 := NB524_502.out
  have hms90_2 := NB524_513.out
  refine skip_ (w1 := ?_) (by rfl) rfl ?_ ?_
  rotate_left
  ·go_simp
   rfl
  refine hK.out _ _ ⟨((cell_far (p := ⟨gb524, _, none⟩) NB501_524.out _).trans (((cell_far (p := ⟨gb524, _, none⟩) NB501_524.out _).trans (((cell_far (p := ⟨gb524, _, none⟩) NB501_524.out _).trans (hHeld.1)))))), ((cell_far (p := ⟨gb524, _, none⟩) NB501_524.out _).trans (((cell_far (p := ⟨gb524, _, none⟩) NB501_524.out _).trans (((cell_far (p := ⟨gb524, _, none⟩) NB501_524.out _).trans (hHeld.2.1)))))), ((cell_far (p := ⟨gb524, _, none⟩) NB501_524.out _).trans (((cell_far (p := ⟨gb524, _, none⟩) NB501_524.out _).trans (((cell_far (p := ⟨gb524, _, none⟩) NB501_524.out _).trans (hHeld.2.2.1)))))), ((cell_far (p := ⟨gb524, _, none⟩) NB502_524.out _).trans (((cell_far (p := ⟨gb524, _, none⟩) NB502_524.out _).trans (((cell_far (p := ⟨gb524, _, none⟩) NB502_524.out _).trans (hHeld.2.2.2.1)))))), ((cell_far (p := ⟨gb524, _, none⟩) NB502_524.out _).trans (((cell_far (p := ⟨gb524, _, none⟩) NB502_524.out _).trans (((cell_far (p := ⟨gb524, _, none⟩) NB502_524.out _).trans (hHeld.2.2.2.2.1)))))), ((cell_far (p := ⟨gb524, _, none⟩) NB502_524.out _).trans (((cell_far (p := ⟨gb524, _, none⟩) NB502_524.out _).trans (((cell_far (p := ⟨gb524, _, none⟩) NB502_524.out _).trans (hHeld.2.2.2.2.2))))))⟩ (fun hHeld => ?_)
  clear hK K
  refine pv_ (i := 10) (N := some 8) HT_.out ?_
  refine done_ (done_of HT_.out (by kernel_rfl)) ?_
  have hnb91 := NB524_501.out
  have hnc91 := NB501_524.out
  have hnb92 := NB524_502.out
  have hnc92 := NB502_524.out
  have hnb93 := NB524_513.out
  have hnc93 := NB513_524.out
  obtain ⟨hcz94_0, hcz94_1, hcz94_2⟩ := cz3_ BK524.out
  obtain ⟨hfz94_0, hfz94_1, hfz94_2⟩ := fz3_ BK524.out
  have hnb95 := NB513_501.out
  have hnc95 := NB501_513.out
  have hnb96 := NB513_502.out
  have hnc96 := NB502_513.out
  obtain ⟨hcz97_0, hcz97_1, hcz97_2⟩ := cz3_ BK513.out
  obtain ⟨hfz97_0, hfz97_1, hfz97_2⟩ := fz3_ BK513.out
  try go_wp2_with ((with_reducible refine gw_ ?_); first | (refine gl_ 27 Tryd.func8 #[.agg #[.int .i64 t520, .int .i64 t521, .int .i64 t522], .agg #[.int .i64 t509, .int .i64 t510, .int .i64 t511]] ?_; (with_reducible refine (laws_eqMaze.calls t520 t521 t522 t509 t510 t511 false _ A9.out).mono ?_); rintro e w98 ⟨rfl, hb⟩; refine ⟨_, rfl, ?_⟩; replace BK501 := Aside0.mk (blk_below (g := gb501) (o := .cells #[.int .i64 a0_0, .int .i64 a0_1, .int .i64 a0_2] 25 (0, 0)) (by (with_reducible repeat (first | refine blk_drewN ?_ _ | refine blk_drew ?_ | refine blk_alloc ?_ _)); refine blk_far ?_ NB501_524.out _; (with_reducible repeat (first | refine blk_drewN ?_ _ | refine blk_drew ?_ | refine blk_alloc ?_ _)); refine blk_far ?_ NB501_524.out _; (with_reducible repeat (first | refine blk_drewN ?_ _ | refine blk_drew ?_ | refine blk_alloc ?_ _)); refine blk_far ?_ NB501_524.out _; (with_reducible repeat (first | refine blk_drewN ?_ _ | refine blk_drew ?_ | refine blk_alloc ?_ _)); exact BK501.out) hb); replace BK502 := Aside0.mk (blk_below (g := gb502) (o := .cells #[.int .i64 a1_0, .int .i64 a1_1, .int .i64 a1_2] 25 (0, 0)) (by (with_reducible repeat (first | refine blk_drewN ?_ _ | refine blk_drew ?_ | refine blk_alloc ?_ _)); refine blk_far ?_ NB502_524.out _; (with_reducible repeat (first | refine blk_drewN ?_ _ | refine blk_drew ?_ | refine blk_alloc ?_ _)); refine blk_far ?_ NB502_524.out _; (with_reducible repeat (first | refine blk_drewN ?_ _ | refine blk_drew ?_ | refine blk_alloc ?_ _)); refine blk_far ?_ NB502_524.out _; (with_reducible repeat (first | refine blk_drewN ?_ _ | refine blk_drew ?_ | refine blk_alloc ?_ _)); exact BK502.out) hb); replace BK513 := Aside0.mk (blk_below (g := gb513) (o := .cells #[.int .i64 t509, .int .i64 t510, .int .i64 t511] 28 (0, 0)) (by (with_reducible repeat (first | refine blk_drewN ?_ _ | refine blk_drew ?_ | refine blk_alloc ?_ _)); refine blk_far ?_ NB513_524.out _; (with_reducible repeat (first | refine blk_drewN ?_ _ | refine blk_drew ?_ | refine blk_alloc ?_ _)); refine blk_far ?_ NB513_524.out _; (with_reducible repeat (first | refine blk_drewN ?_ _ | refine blk_drew ?_ | refine blk_alloc ?_ _)); refine blk_far ?_ NB513_524.out _; (with_reducible repeat (first | refine blk_drewN ?_ _ | refine blk_drew ?_ | refine blk_alloc ?_ _)); exact BK513.out) hb); replace BK524 := Aside0.mk (blk_below (bq3_ BK524.out) hb); replace HB := HB.s4 GE501 GE502 GE513 GE524 hb; (try clear hb)))
  go_ret
  exact ⟨ex_, hb4_ HB.out GE501.out GE502.out GE513.out GE524.out⟩

/-- THE ONE PURE STATEMENT of laws_FnExactSwapTowards: yours. -/
def laws_FnExactSwapTowards.Pure : Prop := ∀ (a0_0 : Int) (a0_1 : Int) (a0_2 : Int) (a1_0 : Int) (a1_1 : Int) (a1_2 : Int), (Lit.int .i64 a0_0).wf = true → (Lit.int .i64 a0_1).wf = true → (Lit.int .i64 a0_2).wf = true → (Lit.int .i64 a1_0).wf = true → (Lit.int .i64 a1_1).wf = true → (Lit.int .i64 a1_2).wf = true → ∃ k, laws_FnExactSwapTowards.f k a0_0 a0_1 a0_2 a1_0 a1_1 a1_2 = some true
theorem laws_FnExactSwapTowards.walk (P : laws_FnExactSwapTowards.Pure) (a0_0 : Int) (a0_1 : Int) (a0_2 : Int) (a1_0 : Int) (a1_1 : Int) (a1_2 : Int) (w : World) (w0_0 : (Lit.int .i64 a0_0).wf = true) (w0_1 : (Lit.int .i64 a0_1).wf = true) (w0_2 : (Lit.int .i64 a0_2).wf = true) (w1_0 : (Lit.int .i64 a1_0).wf = true) (w1_1 : (Lit.int .i64 a1_1).wf = true) (w1_2 : (Lit.int .i64 a1_2).wf = true) (ht : TzTab w) :
  Calls Tryd.prog 3 #[.agg #[.int .i64 a0_0, .int .i64 a0_1, .int .i64 a0_2], .agg #[.int .i64 a1_0, .int .i64 a1_1, .int .i64 a1_2]] w fun e w' => e = .returned (.bool true) ∧ Below w.heap.size w w' := by
 obtain ⟨k, h⟩ := P a0_0 a0_1 a0_2 a1_0 a1_1 a1_2 w0_0 w0_1 w0_2 w1_0 w1_1 w1_2
 refine (laws_FnExactSwapTowards.calls k a0_0 a0_1 a0_2 a1_0 a1_1 a1_2 true w h ht).mono ?_
 rintro e w' ⟨rfl, hd⟩
 exact ⟨rfl, hd⟩

end Go.Proofs.YtbdodiaedocmjaaDoor.X
