-- Written by a program of this session (xprint.py), out of the translation and of hand-written contracts. Lean checks it.
import Derived.Test.YtbdodiaedocmjaaDoorX0
import Derived.Test.YtbdodiaedocmjaaDoorXcto
import Derived.Test.YtbdodiaedocmjaaDoorXimplSwapsBetween
import Derived.Test.YtbdodiaedocmjaaDoorXmathbitsTrailingZeros
import Derived.Test.YtbdodiaedocmjaaDoorXspecSwapsBetween
namespace Go.Proofs.YtbdodiaedocmjaaDoor.X
open Go.RowKit Go.Proofs.YtbdodiaedocmjaaDoorW.PrintWords Go.Proofs.YtbdodiaedocmjaaDoorW.PrintLast Go.Proofs.YtbdodiaedocmjaaDoorW.PrintMore
attribute [local go_sem] max2_int min2_int max_two min_two max_three min_three max_four min_four   -- for this text's walks alone
set_option linter.unusedVariables false
set_option linter.unusedSimpArgs false

/-! ### laws_FnExactSwapsBetween: function 4 -/
def laws_FnExactSwapsBetween.f (k : Nat) (a0_0 : Int) (a0_1 : Int) (a0_2 : Int) (a1_0 : Int) (a1_1 : Int) (a1_2 : Int) : Option (Bool) := (laws_toMaze.f a0_0 a0_1 a0_2).bind fun bt503 => ((laws_toMaze.f a1_0 a1_1 a1_2).bind fun bt506 => ((spec_SwapsBetween.f k bt503.1 bt503.2.1 bt503.2.2 bt506.1 bt506.2.1 bt506.2.2).bind fun t509 => ((laws_toMaze.f a0_0 a0_1 a0_2).bind fun bt510 => ((laws_toMaze.f a1_0 a1_1 a1_2).bind fun bt513 => ((impl_SwapsBetween.f k bt510.1 bt510.2.1 bt510.2.2 bt513.1 bt513.2.1 bt513.2.2).bind fun t516 => (if t516 = t509 then (some true) else (some false)))))))
theorem laws_FnExactSwapsBetween.mono : ∀ a0 a1 a2 a3 a4 a5 k, LeO (laws_FnExactSwapsBetween.f k a0 a1 a2 a3 a4 a5) (laws_FnExactSwapsBetween.f (k + 1) a0 a1 a2 a3 a4 a5) := by
 intro a0 a1 a2 a3 a4 a5 k
 unfold laws_FnExactSwapsBetween.f
 repeat' first
   | (with_reducible exact impl_SwapsBetween.mono ..)
   | (with_reducible exact spec_SwapsBetween.mono ..)
   | (with_reducible first | exact lr_ _ | exact ln_ _ | refine li_ ?_ ?_ | refine lb_ ?_ fun _ => ?_)
   | exact impl_SwapsBetween.mono ..
   | exact spec_SwapsBetween.mono ..
   | exact ln_ _ | refine li_ ?_ ?_ | refine lb_ ?_ fun _ => ?_
set_option maxHeartbeats 8000000 in
set_option maxRecDepth 100000 in
theorem laws_FnExactSwapsBetween.calls (k : Nat) (a0_0 : Int) (a0_1 : Int) (a0_2 : Int) (a1_0 : Int) (a1_1 : Int) (a1_2 : Int) (r : Bool) (w : World) (h : laws_FnExactSwapsBetween.f k a0_0 a0_1 a0_2 a1_0 a1_1 a1_2 = some r) (ht : TzTab w) :
  Calls Tryd.prog 4 #[.agg #[.int .i64 a0_0, .int .i64 a0_1, .int .i64 a0_2], .agg #[.int .i64 a1_0, .int .i64 a1_1, .int .i64 a1_2]] w fun e w' => e = .returned (.bool r) ∧ Below w.heap.size w w' := by
 have HZ := Aside0.mk ht
 clear ht
 have hu25 := Tryd.underlying25
 have HB := Aside0.mk (Below.refl w.heap.size w)
 have H : ((laws_toMaze.f a0_0 a0_1 a0_2).bind fun bt503 => ((laws_toMaze.f a1_0 a1_1 a1_2).bind fun bt506 => ((spec_SwapsBetween.f k bt503.1 bt503.2.1 bt503.2.2 bt506.1 bt506.2.1 bt506.2.2).bind fun t509 => ((laws_toMaze.f a0_0 a0_1 a0_2).bind fun bt510 => ((laws_toMaze.f a1_0 a1_1 a1_2).bind fun bt513 => ((impl_SwapsBetween.f k bt510.1 bt510.2.1 bt510.2.2 bt513.1 bt513.2.1 bt513.2.2).bind fun t516 => (if t516 = t509 then (some true) else (some false)))))))) = some r := h
 clear h
 replace H := Option.bind_eq_some_iff.mp H
 obtain ⟨⟨t503, t504, t505⟩, A30, H⟩ := H
 replace H : ((laws_toMaze.f a1_0 a1_1 a1_2).bind fun bt506 => ((spec_SwapsBetween.f k t503 t504 t505 bt506.1 bt506.2.1 bt506.2.2).bind fun t509 => ((laws_toMaze.f a0_0 a0_1 a0_2).bind fun bt510 => ((laws_toMaze.f a1_0 a1_1 a1_2).bind fun bt513 => ((impl_SwapsBetween.f k bt510.1 bt510.2.1 bt510.2.2 bt513.1 bt513.2.1 bt513.2.2).bind fun t516 => (if t516 = t509 then (some true) else (some false))))))) = some r := H
 have A3 := Aside0.mk A30
 clear A30
 replace H := Option.bind_eq_some_iff.mp H
 obtain ⟨⟨t506, t507, t508⟩, A40, H⟩ := H
 replace H : ((spec_SwapsBetween.f k t503 t504 t505 t506 t507 t508).bind fun t509 => ((laws_toMaze.f a0_0 a0_1 a0_2).bind fun bt510 => ((laws_toMaze.f a1_0 a1_1 a1_2).bind fun bt513 => ((impl_SwapsBetween.f k bt510.1 bt510.2.1 bt510.2.2 bt513.1 bt513.2.1 bt513.2.2).bind fun t516 => (if t516 = t509 then (some true) else (some false)))))) = some r := H
 have A4 := Aside0.mk A40
 clear A40
 replace H := Option.bind_eq_some_iff.mp H
 obtain ⟨t509, A50, H⟩ := H
 replace H : ((laws_toMaze.f a0_0 a0_1 a0_2).bind fun bt510 => ((laws_toMaze.f a1_0 a1_1 a1_2).bind fun bt513 => ((impl_SwapsBetween.f k bt510.1 bt510.2.1 bt510.2.2 bt513.1 bt513.2.1 bt513.2.2).bind fun t516 => (if t516 = t509 then (some true) else (some false))))) = some r := H
 have A5 := Aside0.mk A50
 clear A50
 replace H := Option.bind_eq_some_iff.mp H
 obtain ⟨⟨t510, t511, t512⟩, A60, H⟩ := H
 replace H : ((laws_toMaze.f a1_0 a1_1 a1_2).bind fun bt513 => ((impl_SwapsBetween.f k t510 t511 t512 bt513.1 bt513.2.1 bt513.2.2).bind fun t516 => (if t516 = t509 then (some true) else (some false)))) = some r := H
 have A6 := Aside0.mk A60
 clear A60
 replace H := Option.bind_eq_some_iff.mp H
 obtain ⟨⟨t513, t514, t515⟩, A70, H⟩ := H
 replace H : ((impl_SwapsBetween.f k t510 t511 t512 t513 t514 t515).bind fun t516 => (if t516 = t509 then (some true) else (some false))) = some r := H
 have A7 := Aside0.mk A70
 clear A70
 replace H := Option.bind_eq_some_iff.mp H
 obtain ⟨t516, A80, H⟩ := H
 replace H : (if t516 = t509 then (some true) else (some false)) = some r := H
 have A8 := Aside0.mk A80
 clear A80
 by_cases c9 : t516 = t509
 ·rw [if_pos c9] at H
  have c9b0 : (t516 == t509) = true := beq_iff_eq.mpr c9
  have c9b1 : (t516 != t509) = false := bne_eq_false_iff_eq.mpr c9
  clear c9
  obtain rfl := Option.some.inj H
  go_enter Tryd.func4, Tryd.ntmps4
  try go_wp2_with ((with_reducible refine gw_ ?_); first | (refine box_ (N := 2) (cs := #[.int .i64 a0_0, .int .i64 a0_1, .int .i64 a0_2]) (t := 25) ?_; intro gb501 hg w10 hbox hb; have BK501 := Aside0.mk (hbox); have GW501 := HB.g0 hg; have GE501 := HB.g0 hg; replace HB := HB.s0 hb; clear hb hbox hg) | (refine box_ (N := 3) (cs := #[.int .i64 a1_0, .int .i64 a1_1, .int .i64 a1_2]) (t := 25) ?_; intro gb502 hg w11 hbox hb; have BK502 := Aside0.mk (hbox); have GW502 := HB.g1 GE501 hg; have GE502 := HB.g1 GE501 hg; replace HB := HB.s1 GE501 hb; have NB501_502 := BK501.nl hg; have NB502_501 := BK501.nr hg; replace BK501 := BK501.bb hb; clear hb hbox hg))
  replace BK501 := Aside0.mk (blk_drew BK501.out)
  replace BK502 := Aside0.mk (blk_drew BK502.out)
  replace HB := Aside0.mk (below_drew1 HB.out)
  refine start_ (n := 6) (S := fun w' => w'.cell? ⟨gb501, 0, none⟩ = some (.int .i64 a0_0) ∧ w'.cell? ⟨gb501, 1, none⟩ = some (.int .i64 a0_1) ∧ w'.cell? ⟨gb501, 2, none⟩ = some (.int .i64 a0_2) ∧ w'.cell? ⟨gb502, 0, none⟩ = some (.int .i64 a1_0) ∧ w'.cell? ⟨gb502, 1, none⟩ = some (.int .i64 a1_1) ∧ w'.cell? ⟨gb502, 2, none⟩ = some (.int .i64 a1_2)) (ds := []) #[false, false, false, false, false, false] (by kernel_rfl) rfl rfl ⟨BK501.c 0, BK501.c 1, BK501.c 2, BK502.c 0, BK502.c 1, BK502.c 2⟩ (fun hHeld => ?_)
  generalize w11.drew = w12 at BK501 BK502 HB hHeld ⊢
  refine take_ (i := 0) (N := some 7) (v := ?_) (a' := ?_) #[true, false, false, false, false, false] rfl rfl (by kernel_rfl) (fun _ _ _ h => h) (Or.inl ⟨by rfl, ?_⟩) hHeld ?_ ?_
  rotate_left
  ·rintro w' ⟨s0, s1, s2, s3, s4, s5⟩
   go_simp
   with_reducible rfl
  rotate_left
  ·simp only [Act.put, List.setIfInBounds_toArray, List.set_cons_zero, List.set_cons_succ, i64_w, i32_w]
   rfl
  refine take_ (i := 2) (N := some 9) (v := ?_) (a' := ?_) #[true, false, true, false, false, false] rfl rfl (by kernel_rfl) (fun _ _ _ h => h) (Or.inl ⟨by rfl, ?_⟩) hHeld ?_ ?_
  rotate_left
  ·rintro w' ⟨s0, s1, s2, s3, s4, s5⟩
   go_simp
   with_reducible rfl
  rotate_left
  ·simp only [Act.put, List.setIfInBounds_toArray, List.set_cons_zero, List.set_cons_succ, i64_w, i32_w]
   rfl
  refine one_ (i := 1) (N := some 8) #[true, true, true, false, false, false] rfl rfl (by kernel_rfl) (by decide) (fun K hK => ?_)
  refine gq_ Tryd.func6 #[.agg #[.int .i64 a0_0, .int .i64 a0_1, .int .i64 a0_2]] ?_
  with_reducible refine (laws_toMaze.calls a0_0 a0_1 a0_2 t503 t504 t505 _ A3.out).mono ?_
  rintro e w13 ⟨rfl, hb⟩
  refine ⟨_, rfl, ?_⟩
  replace BK501 := BK501.bb hb
  replace BK502 := BK502.bb hb
  replace HB := HB.s2 GE501 GE502 hb
  skip
  (try clear hb2)
  (try clear hk)
  (try clear hi)
  refine hK.out _ _ ⟨BK501.c 0, BK501.c 1, BK501.c 2, BK502.c 0, BK502.c 1, BK502.c 2⟩ (fun hHeld => ?_)
  clear hK K
  refine nm_ ?_
  refine one_ (i := 3) (N := some 10) #[true, true, true, true, false, false] rfl rfl (by kernel_rfl) (by decide) (fun K hK => ?_)
  refine gq_ Tryd.func6 #[.agg #[.int .i64 a1_0, .int .i64 a1_1, .int .i64 a1_2]] ?_
  with_reducible refine (laws_toMaze.calls a1_0 a1_1 a1_2 t506 t507 t508 _ A4.out).mono ?_
  rintro e w14 ⟨rfl, hb⟩
  refine ⟨_, rfl, ?_⟩
  replace BK501 := BK501.bb hb
  replace BK502 := BK502.bb hb
  replace HB := HB.s2 GE501 GE502 hb
  skip
  (try clear hb2)
  (try clear hk)
  (try clear hi)
  refine hK.out _ _ ⟨BK501.c 0, BK501.c 1, BK501.c 2, BK502.c 0, BK502.c 1, BK502.c 2⟩ (fun hHeld => ?_)
  clear hK K
  refine nm_ ?_
  refine one_ (i := 4) (N := some 11) #[true, true, true, true, true, false] rfl rfl (by kernel_rfl) (by decide) (fun K hK => ?_)
  refine gq_ Tryd.func9 #[.agg #[.int .i64 t503, .int .i64 t504, .int .i64 t505], .agg #[.int .i64 t506, .int .i64 t507, .int .i64 t508]] ?_
  with_reducible refine (spec_SwapsBetween.calls k t503 t504 t505 t506 t507 t508 t509 _ A5.out).mono ?_
  rintro e w15 ⟨rfl, hb⟩
  refine ⟨_, rfl, ?_⟩
  replace BK501 := BK501.bb hb
  replace BK502 := BK502.bb hb
  replace HB := HB.s2 GE501 GE502 hb
  skip
  (try clear hb2)
  (try clear hk)
  (try clear hi)
  refine hK.out _ _ ⟨BK501.c 0, BK501.c 1, BK501.c 2, BK502.c 0, BK502.c 1, BK502.c 2⟩ (fun hHeld => ?_)
  clear hK K
  refine nm_ ?_
  refine pure_ (i := 5) (N := some 5) (v := ?_) (a' := ?_) #[true, true, true, true, true, true] rfl rfl (by kernel_rfl) (fun _ _ _ h => h) (Or.inl ⟨by rfl, ?_⟩) ?_ ?_
  rotate_left
  ·intro w'
   go_simp
   with_reducible rfl
  rotate_left
  ·simp only [Act.put, List.setIfInBounds_toArray, List.set_cons_zero, List.set_cons_succ, i64_w, i32_w]
   rfl
  refine done_ (by kernel_rfl) ?_
  try go_wp2
  replace BK501 := Aside0.mk (blk_drew BK501.out)
  replace BK502 := Aside0.mk (blk_drew BK502.out)
  replace HB := Aside0.mk (below_drew1 HB.out)
  refine start_ (n := 6) (S := fun w' => w'.cell? ⟨gb501, 0, none⟩ = some (.int .i64 a0_0) ∧ w'.cell? ⟨gb501, 1, none⟩ = some (.int .i64 a0_1) ∧ w'.cell? ⟨gb501, 2, none⟩ = some (.int .i64 a0_2) ∧ w'.cell? ⟨gb502, 0, none⟩ = some (.int .i64 a1_0) ∧ w'.cell? ⟨gb502, 1, none⟩ = some (.int .i64 a1_1) ∧ w'.cell? ⟨gb502, 2, none⟩ = some (.int .i64 a1_2)) (ds := []) #[false, false, false, false, false, false] (by kernel_rfl) rfl rfl ⟨BK501.c 0, BK501.c 1, BK501.c 2, BK502.c 0, BK502.c 1, BK502.c 2⟩ (fun hHeld => ?_)
  generalize w15.drew = w16 at BK501 BK502 HB hHeld ⊢
  refine take_ (i := 0) (N := some 12) (v := ?_) (a' := ?_) #[true, false, false, false, false, false] rfl rfl (by kernel_rfl) (fun _ _ _ h => h) (Or.inl ⟨by rfl, ?_⟩) hHeld ?_ ?_
  rotate_left
  ·rintro w' ⟨s0, s1, s2, s3, s4, s5⟩
   go_simp
   with_reducible rfl
  rotate_left
  ·simp only [Act.put, List.setIfInBounds_toArray, List.set_cons_zero, List.set_cons_succ, i64_w, i32_w]
   rfl
  refine take_ (i := 2) (N := some 14) (v := ?_) (a' := ?_) #[true, false, true, false, false, false] rfl rfl (by kernel_rfl) (fun _ _ _ h => h) (Or.inl ⟨by rfl, ?_⟩) hHeld ?_ ?_
  rotate_left
  ·rintro w' ⟨s0, s1, s2, s3, s4, s5⟩
   go_simp
   with_reducible rfl
  rotate_left
  ·simp only [Act.put, List.setIfInBounds_toArray, List.set_cons_zero, List.set_cons_succ, i64_w, i32_w]
   rfl
  refine one_ (i := 1) (N := some 13) #[true, true, true, false, false, false] rfl rfl (by kernel_rfl) (by decide) (fun K hK => ?_)
  refine gq_ Tryd.func6 #[.agg #[.int .i64 a0_0, .int .i64 a0_1, .int .i64 a0_2]] ?_
  with_reducible refine (laws_toMaze.calls a0_0 a0_1 a0_2 t510 t511 t512 _ A6.out).mono ?_
  rintro e w17 ⟨rfl, hb⟩
  refine ⟨_, rfl, ?_⟩
  replace BK501 := BK501.bb hb
  replace BK502 := BK502.bb hb
  replace HB := HB.s2 GE501 GE502 hb
  skip
  (try clear hb2)
  (try clear hk)
  (try clear hi)
  refine hK.out _ _ ⟨BK501.c 0, BK501.c 1, BK501.c 2, BK502.c 0, BK502.c 1, BK502.c 2⟩ (fun hHeld => ?_)
  clear hK K
  refine nm_ ?_
  refine one_ (i := 3) (N := some 15) #[true, true, true, true, false, false] rfl rfl (by kernel_rfl) (by decide) (fun K hK => ?_)
  refine gq_ Tryd.func6 #[.agg #[.int .i64 a1_0, .int .i64 a1_1, .int .i64 a1_2]] ?_
  with_reducible refine (laws_toMaze.calls a1_0 a1_1 a1_2 t513 t514 t515 _ A7.out).mono ?_
  rintro e w18 ⟨rfl, hb⟩
  refine ⟨_, rfl, ?_⟩
  replace BK501 := BK501.bb hb
  replace BK502 := BK502.bb hb
  replace HB := HB.s2 GE501 GE502 hb
  skip
  (try clear hb2)
  (try clear hk)
  (try clear hi)
  refine hK.out _ _ ⟨BK501.c 0, BK501.c 1, BK501.c 2, BK502.c 0, BK502.c 1, BK502.c 2⟩ (fun hHeld => ?_)
  clear hK K
  refine nm_ ?_
  refine one_ (i := 4) (N := some 16) #[true, true, true, true, true, false] rfl rfl (by kernel_rfl) (by decide) (fun K hK => ?_)
  refine gq_ Tryd.func10 #[.agg #[.int .i64 t510, .int .i64 t511, .int .i64 t512], .agg #[.int .i64 t513, .int .i64 t514, .int .i64 t515]] ?_
  with_reducible refine (impl_SwapsBetween.calls k t510 t511 t512 t513 t514 t515 t516 _ A8.out (HZ.out.move (Nat.le_refl _) (by repeat (first | (with_reducible first | exact HB.out | exact Below.refl _ _ | apply below_alloc | apply pw_below_drewN | apply below_drew1 | refine below_set ?_ GE501.out | refine below_set ?_ GE502.out) | exact HB.out)))).mono ?_
  rintro e w19 ⟨rfl, hb⟩
  refine ⟨_, rfl, ?_⟩
  replace BK501 := BK501.bb hb
  replace BK502 := BK502.bb hb
  replace HB := HB.s2 GE501 GE502 hb
  skip
  (try clear hb2)
  (try clear hk)
  (try clear hi)
  refine hK.out _ _ ⟨BK501.c 0, BK501.c 1, BK501.c 2, BK502.c 0, BK502.c 1, BK502.c 2⟩ (fun hHeld => ?_)
  clear hK K
  refine nm_ ?_
  refine pure_ (i := 5) (N := some 6) (v := ?_) (a' := ?_) #[true, true, true, true, true, true] rfl rfl (by kernel_rfl) (fun _ _ _ h => h) (Or.inl ⟨by rfl, ?_⟩) ?_ ?_
  rotate_left
  ·intro w'
   go_simp
   with_reducible rfl
  rotate_left
  ·simp only [Act.put, List.setIfInBounds_toArray, List.set_cons_zero, List.set_cons_succ, i64_w, i32_w]
   rfl
  refine done_ (by kernel_rfl) ?_
  try go_wp2
  go_ret
  exact ⟨ex_, hb2_ HB.out GE501.out GE502.out⟩
 ·rw [if_neg c9] at H
  have c9b0 : (t516 == t509) = false := beq_eq_false_iff_ne.mpr c9
  have c9b1 : (t516 != t509) = true := bne_iff_ne.mpr c9
  obtain rfl := Option.some.inj H
  go_enter Tryd.func4, Tryd.ntmps4
  try go_wp2_with ((with_reducible refine gw_ ?_); first | (refine box_ (N := 2) (cs := #[.int .i64 a0_0, .int .i64 a0_1, .int .i64 a0_2]) (t := 25) ?_; intro gb501 hg w20 hbox hb; have BK501 := Aside0.mk (hbox); have GW501 := HB.g0 hg; have GE501 := HB.g0 hg; replace HB := HB.s0 hb; clear hb hbox hg) | (refine box_ (N := 3) (cs := #[.int .i64 a1_0, .int .i64 a1_1, .int .i64 a1_2]) (t := 25) ?_; intro gb502 hg w21 hbox hb; have BK502 := Aside0.mk (hbox); have GW502 := HB.g1 GE501 hg; have GE502 := HB.g1 GE501 hg; replace HB := HB.s1 GE501 hb; have NB501_502 := BK501.nl hg; have NB502_501 := BK501.nr hg; replace BK501 := BK501.bb hb; clear hb hbox hg))
  replace BK501 := Aside0.mk (blk_drew BK501.out)
  replace BK502 := Aside0.mk (blk_drew BK502.out)
  replace HB := Aside0.mk (below_drew1 HB.out)
  refine start_ (n := 6) (S := fun w' => w'.cell? ⟨gb501, 0, none⟩ = some (.int .i64 a0_0) ∧ w'.cell? ⟨gb501, 1, none⟩ = some (.int .i64 a0_1) ∧ w'.cell? ⟨gb501, 2, none⟩ = some (.int .i64 a0_2) ∧ w'.cell? ⟨gb502, 0, none⟩ = some (.int .i64 a1_0) ∧ w'.cell? ⟨gb502, 1, none⟩ = some (.int .i64 a1_1) ∧ w'.cell? ⟨gb502, 2, none⟩ = some (.int .i64 a1_2)) (ds := []) #[false, false, false, false, false, false] (by kernel_rfl) rfl rfl ⟨BK501.c 0, BK501.c 1, BK501.c 2, BK502.c 0, BK502.c 1, BK502.c 2⟩ (fun hHeld => ?_)
  generalize w21.drew = w22 at BK501 BK502 HB hHeld ⊢
  refine take_ (i := 0) (N := some 7) (v := ?_) (a' := ?_) #[true, false, false, false, false, false] rfl rfl (by kernel_rfl) (fun _ _ _ h => h) (Or.inl ⟨by rfl, ?_⟩) hHeld ?_ ?_
  rotate_left
  ·rintro w' ⟨s0, s1, s2, s3, s4, s5⟩
   go_simp
   with_reducible rfl
  rotate_left
  ·simp only [Act.put, List.setIfInBounds_toArray, List.set_cons_zero, List.set_cons_succ, i64_w, i32_w]
   rfl
  refine take_ (i := 2) (N := some 9) (v := ?_) (a' := ?_) #[true, false, true, false, false, false] rfl rfl (by kernel_rfl) (fun _ _ _ h => h) (Or.inl ⟨by rfl, ?_⟩) hHeld ?_ ?_
  rotate_left
  ·rintro w' ⟨s0, s1, s2, s3, s4, s5⟩
   go_simp
   with_reducible rfl
  rotate_left
  ·simp only [Act.put, List.setIfInBounds_toArray, List.set_cons_zero, List.set_cons_succ, i64_w, i32_w]
   rfl
  refine one_ (i := 1) (N := some 8) #[true, true, true, false, false, false] rfl rfl (by kernel_rfl) (by decide) (fun K hK => ?_)
  refine gq_ Tryd.func6 #[.agg #[.int .i64 a0_0, .int .i64 a0_1, .int .i64 a0_2]] ?_
  with_reducible refine (laws_toMaze.calls a0_0 a0_1 a0_2 t503 t504 t505 _ A3.out).mono ?_
  rintro e w23 ⟨rfl, hb⟩
  refine ⟨_, rfl, ?_⟩
  replace BK501 := BK501.bb hb
  replace BK502 := BK502.bb hb
  replace HB := HB.s2 GE501 GE502 hb
  skip
  (try clear hb2)
  (try clear hk)
  (try clear hi)
  refine hK.out _ _ ⟨BK501.c 0, BK501.c 1, BK501.c 2, BK502.c 0, BK502.c 1, BK502.c 2⟩ (fun hHeld => ?_)
  clear hK K
  refine nm_ ?_
  refine one_ (i := 3) (N := some 10) #[true, true, true, true, false, false] rfl rfl (by kernel_rfl) (by decide) (fun K hK => ?_)
  refine gq_ Tryd.func6 #[.agg #[.int .i64 a1_0, .int .i64 a1_1, .int .i64 a1_2]] ?_
  with_reducible refine (laws_toMaze.calls a1_0 a1_1 a1_2 t506 t507 t508 _ A4.out).mono ?_
  rintro e w24 ⟨rfl, hb⟩
  refine ⟨_, rfl, ?_⟩
  replace BK501 := BK501.bb hb
  replace BK502 := BK502.bb hb
  replace HB := HB.s2 GE501 GE502 hb
  skip
  (try clear hb2)
  (try clear hk)
  (try clear hi)
  refine hK.out _ _ ⟨BK501.c 0, BK501.c 1, BK501.c 2, BK502.c 0, BK502.c 1, BK502.c 2⟩ (fun hHeld => ?_)
  clear hK K
  refine nm_ ?_
  refine one_ (i := 4) (N := some 11) #[true, true, true, true, true, false] rfl rfl (by kernel_rfl) (by decide) (fun K hK => ?_)
  refine gq_ Tryd.func9 #[.agg #[.int .i64 t503, .int .i64 t504, .int .i64 t505], .agg #[.int .i64 t506, .int .i64 t507, .int .i64 t508]] ?_
  with_reducible refine (spec_SwapsBetween.calls k t503 t504 t505 t506 t507 t508 t509 _ A5.out).mono ?_
  rintro e w25 ⟨rfl, hb⟩
  refine ⟨_, rfl, ?_⟩
  replace BK501 := BK501.bb hb
  replace BK502 := BK502.bb hb
  replace HB := HB.s2 GE501 GE502 hb
  skip
  (try clear hb2)
  (try clear hk)
  (try clear hi)
  refine hK.out _ _ ⟨BK501.c 0, BK501.c 1, BK501.c 2, BK502.c 0, BK502.c 1, BK502.c 2⟩ (fun hHeld => ?_)
  clear hK K
  refine nm_ ?_
  refine pure_ (i := 5) (N := some 5) (v := ?_) (a' := ?_) #[true, true, true, true, true, true] rfl rfl (by kernel_rfl) (fun _ _ _ h => h) (Or.inl ⟨by rfl, ?_⟩) ?_ ?_
  rotate_left
  ·intro w'
   go_simp
   with_reducible rfl
  rotate_left
  ·simp only [Act.put, List.setIfInBounds_toArray, List.set_cons_zero, List.set_cons_succ, i64_w, i32_w]
   rfl
  refine done_ (by kernel_rfl) ?_
  try go_wp2
  replace BK501 := Aside0.mk (blk_drew BK501.out)
  replace BK502 := Aside0.mk (blk_drew BK502.out)
  replace HB := Aside0.mk (below_drew1 HB.out)
  refine start_ (n := 6) (S := fun w' => w'.cell? ⟨gb501, 0, none⟩ = some (.int .i64 a0_0) ∧ w'.cell? ⟨gb501, 1, none⟩ = some (.int .i64 a0_1) ∧ w'.cell? ⟨gb501, 2, none⟩ = some (.int .i64 a0_2) ∧ w'.cell? ⟨gb502, 0, none⟩ = some (.int .i64 a1_0) ∧ w'.cell? ⟨gb502, 1, none⟩ = some (.int .i64 a1_1) ∧ w'.cell? ⟨gb502, 2, none⟩ = some (.int .i64 a1_2)) (ds := []) #[false, false, false, false, false, false] (by kernel_rfl) rfl rfl ⟨BK501.c 0, BK501.c 1, BK501.c 2, BK502.c 0, BK502.c 1, BK502.c 2⟩ (fun hHeld => ?_)
  generalize w25.drew = w26 at BK501 BK502 HB hHeld ⊢
  refine take_ (i := 0) (N := some 12) (v := ?_) (a' := ?_) #[true, false, false, false, false, false] rfl rfl (by kernel_rfl) (fun _ _ _ h => h) (Or.inl ⟨by rfl, ?_⟩) hHeld ?_ ?_
  rotate_left
  ·rintro w' ⟨s0, s1, s2, s3, s4, s5⟩
   go_simp
   with_reducible rfl
  rotate_left
  ·simp only [Act.put, List.setIfInBounds_toArray, List.set_cons_zero, List.set_cons_succ, i64_w, i32_w]
   rfl
  refine take_ (i := 2) (N := some 14) (v := ?_) (a' := ?_) #[true, false, true, false, false, false] rfl rfl (by kernel_rfl) (fun _ _ _ h => h) (Or.inl ⟨by rfl, ?_⟩) hHeld ?_ ?_
  rotate_left
  ·rintro w' ⟨s0, s1, s2, s3, s4, s5⟩
   go_simp
   with_reducible rfl
  rotate_left
  ·simp only [Act.put, List.setIfInBounds_toArray, List.set_cons_zero, List.set_cons_succ, i64_w, i32_w]
   rfl
  refine one_ (i := 1) (N := some 13) #[true, true, true, false, false, false] rfl rfl (by kernel_rfl) (by decide) (fun K hK => ?_)
  refine gq_ Tryd.func6 #[.agg #[.int .i64 a0_0, .int .i64 a0_1, .int .i64 a0_2]] ?_
  with_reducible refine (laws_toMaze.calls a0_0 a0_1 a0_2 t510 t511 t512 _ A6.out).mono ?_
  rintro e w27 ⟨rfl, hb⟩
  refine ⟨_, rfl, ?_⟩
  replace BK501 := BK501.bb hb
  replace BK502 := BK502.bb hb
  replace HB := HB.s2 GE501 GE502 hb
  skip
  (try clear hb2)
  (try clear hk)
  (try clear hi)
  refine hK.out _ _ ⟨BK501.c 0, BK501.c 1, BK501.c 2, BK502.c 0, BK502.c 1, BK502.c 2⟩ (fun hHeld => ?_)
  clear hK K
  refine nm_ ?_
  refine one_ (i := 3) (N := some 15) #[true, true, true, true, false, false] rfl rfl (by kernel_rfl) (by decide) (fun K hK => ?_)
  refine gq_ Tryd.func6 #[.agg #[.int .i64 a1_0, .int .i64 a1_1, .int .i64 a1_2]] ?_
  with_reducible refine (laws_toMaze.calls a1_0 a1_1 a1_2 t513 t514 t515 _ A7.out).mono ?_
  rintro e w28 ⟨rfl, hb⟩
  refine ⟨_, rfl, ?_⟩
  replace BK501 := BK501.bb hb
  replace BK502 := BK502.bb hb
  replace HB := HB.s2 GE501 GE502 hb
  skip
  (try clear hb2)
  (try clear hk)
  (try clear hi)
  refine hK.out _ _ ⟨BK501.c 0, BK501.c 1, BK501.c 2, BK502.c 0, BK502.c 1, BK502.c 2⟩ (fun hHeld => ?_)
  clear hK K
  refine nm_ ?_
  refine one_ (i := 4) (N := some 16) #[true, true, true, true, true, false] rfl rfl (by kernel_rfl) (by decide) (fun K hK => ?_)
  refine gq_ Tryd.func10 #[.agg #[.int .i64 t510, .int .i64 t511, .int .i64 t512], .agg #[.int .i64 t513, .int .i64 t514, .int .i64 t515]] ?_
  with_reducible refine (impl_SwapsBetween.calls k t510 t511 t512 t513 t514 t515 t516 _ A8.out (HZ.out.move (Nat.le_refl _) (by repeat (first | (with_reducible first | exact HB.out | exact Below.refl _ _ | apply below_alloc | apply pw_below_drewN | apply below_drew1 | refine below_set ?_ GE501.out | refine below_set ?_ GE502.out) | exact HB.out)))).mono ?_
  rintro e w29 ⟨rfl, hb⟩
  refine ⟨_, rfl, ?_⟩
  replace BK501 := BK501.bb hb
  replace BK502 := BK502.bb hb
  replace HB := HB.s2 GE501 GE502 hb
  skip
  (try clear hb2)
  (try clear hk)
  (try clear hi)
  refine hK.out _ _ ⟨BK501.c 0, BK501.c 1, BK501.c 2, BK502.c 0, BK502.c 1, BK502.c 2⟩ (fun hHeld => ?_)
  clear hK K
  refine nm_ ?_
  refine pure_ (i := 5) (N := some 6) (v := ?_) (a' := ?_) #[true, true, true, true, true, true] rfl rfl (by kernel_rfl) (fun _ _ _ h => h) (Or.inl ⟨by rfl, ?_⟩) ?_ ?_
  rotate_left
  ·intro w'
   go_simp
   with_reducible rfl
  rotate_left
  ·simp only [Act.put, List.setIfInBounds_toArray, List.set_cons_zero, List.set_cons_succ, i64_w, i32_w]
   rfl
  refine done_ (by kernel_rfl) ?_
  try go_wp2
  go_ret
  exact ⟨ex_, hb2_ HB.out GE501.out GE502.out⟩

/-- THE ONE PURE STATEMENT of laws_FnExactSwapsBetween: yours. -/
def laws_FnExactSwapsBetween.Pure : Prop := ∀ (a0_0 : Int) (a0_1 : Int) (a0_2 : Int) (a1_0 : Int) (a1_1 : Int) (a1_2 : Int), (Lit.int .i64 a0_0).wf = true → (Lit.int .i64 a0_1).wf = true → (Lit.int .i64 a0_2).wf = true → (Lit.int .i64 a1_0).wf = true → (Lit.int .i64 a1_1).wf = true → (Lit.int .i64 a1_2).wf = true → ∃ k, laws_FnExactSwapsBetween.f k a0_0 a0_1 a0_2 a1_0 a1_1 a1_2 = some true
theorem laws_FnExactSwapsBetween.walk (P : laws_FnExactSwapsBetween.Pure) (a0_0 : Int) (a0_1 : Int) (a0_2 : Int) (a1_0 : Int) (a1_1 : Int) (a1_2 : Int) (w : World) (w0_0 : (Lit.int .i64 a0_0).wf = true) (w0_1 : (Lit.int .i64 a0_1).wf = true) (w0_2 : (Lit.int .i64 a0_2).wf = true) (w1_0 : (Lit.int .i64 a1_0).wf = true) (w1_1 : (Lit.int .i64 a1_1).wf = true) (w1_2 : (Lit.int .i64 a1_2).wf = true) (ht : TzTab w) :
  Calls Tryd.prog 4 #[.agg #[.int .i64 a0_0, .int .i64 a0_1, .int .i64 a0_2], .agg #[.int .i64 a1_0, .int .i64 a1_1, .int .i64 a1_2]] w fun e w' => e = .returned (.bool true) ∧ Below w.heap.size w w' := by
 obtain ⟨k, h⟩ := P a0_0 a0_1 a0_2 a1_0 a1_1 a1_2 w0_0 w0_1 w0_2 w1_0 w1_1 w1_2
 refine (laws_FnExactSwapsBetween.calls k a0_0 a0_1 a0_2 a1_0 a1_1 a1_2 true w h ht).mono ?_
 rintro e w' ⟨rfl, hd⟩
 exact ⟨rfl, hd⟩

end Go.Proofs.YtbdodiaedocmjaaDoor.X
