-- Written by a program of this session (xprint.py), out of the translation and of hand-written contracts. Lean checks it.
import Derived.Test.YtdloifaaoiollaaX0
import Derived.Test.YtdloifaaoiollaaXcgrid
import Derived.Test.YtdloifaaoiollaaXcreach
import Derived.Test.YtdloifaaoiollaaXimplCountPassages
namespace Go.Proofs.Ytdloifaaoiollaa.X
open Go.RowKit Go.Proofs.YtdloifaaoiollaaW.PrintWords Go.Proofs.YtdloifaaoiollaaW.PrintLast Go.Proofs.YtdloifaaoiollaaW.PrintMore
attribute [local go_sem] max2_int min2_int max_two min_two max_three min_three max_four min_four   -- for this text's walks alone
set_option linter.unusedVariables false
set_option linter.unusedSimpArgs false

/-! ### impl_IsPerfect: function 74 -/
def impl_IsPerfect.f (k : Nat) (a0_0 : Int) (a0_1 : Int) (a0_2 : Int) : Option (Bool) := (impl_IsConnected.f k a0_0 a0_1 a0_2).bind fun t502 => (if t502 = true then ((impl_CountPassages.f a0_0 a0_1 a0_2).bind fun t503 => ((impl_CountCells.f a0_0 a0_1).bind fun t504 => (some (t503 == (wrap64 (t504 - 1)))))) else (some false))
theorem impl_IsPerfect.mono : ∀ a0 a1 a2 k, LeO (impl_IsPerfect.f k a0 a1 a2) (impl_IsPerfect.f (k + 1) a0 a1 a2) := by
 intro a0 a1 a2 k
 unfold impl_IsPerfect.f
 repeat' first
   | (with_reducible exact impl_IsConnected.mono _ _ _ _)
   | (with_reducible exact LeO.refl _)
   | (with_reducible exact LeO.none _)
   | (with_reducible refine LeO.ite ?_ ?_)
   | (with_reducible refine LeO.bind ?_ (fun _ => ?_))
   | exact impl_IsConnected.mono _ _ _ _
   | exact LeO.none _
   | refine LeO.ite ?_ ?_
   | refine LeO.bind ?_ (fun _ => ?_)
def impl_IsPerfect.T1 : Bool × List (List Nat × List Nat) := (true, [([], []), ([0], [0]), ([1, 1], [1]), ([2], [2]), ([3, 2, 2], [2, 3]), ([2], [2]), ([5, 2], [2, 5]), ([6, 4, 2], [2, 6]), ([7, 2], [2, 7]), ([4, 8, 2], [2, 4, 8]), ([2, 9], [2, 9]), ([10, 7, 0, 1, 2, 3, 4, 5, 6, 7, 8, 9, 10], [10])])
def impl_IsPerfect.B1 : List Nat := [0, 1, 3, 7, 15, 7, 39, 127, 255, 511, 1023, 2047]
theorem impl_IsPerfect.tab1 : rtab .any (opsOf Try.f74 1) = impl_IsPerfect.T1 := by kernel_rfl
theorem impl_IsPerfect.bits1 : waitsOk impl_IsPerfect.T1.2 impl_IsPerfect.B1 = true := by kernel_rfl
set_option maxHeartbeats 8000000 in
set_option maxRecDepth 100000 in
theorem impl_IsPerfect.calls (k : Nat) (a0_0 : Int) (a0_1 : Int) (a0_2 : Int) (r : Bool) (w : World) (h : impl_IsPerfect.f k a0_0 a0_1 a0_2 = some r) :
  Calls Try.prog 74 #[.agg #[.int .i64 a0_0, .int .i64 a0_1, .int .i64 a0_2]] w fun e w' => e = .returned (.bool r) ∧ Below w.heap.size w w' := by
 have hu29 := Try.underlying29
 have hu27 := Try.underlying27
 have HB := Aside0.mk (Below.refl w.heap.size w)
 have H : ((impl_IsConnected.f k a0_0 a0_1 a0_2).bind fun t502 => (if t502 = true then ((impl_CountPassages.f a0_0 a0_1 a0_2).bind fun t503 => ((impl_CountCells.f a0_0 a0_1).bind fun t504 => (some (t503 == (wrap64 (t504 - 1)))))) else (some false))) = some r := h
 clear h
 replace H := Option.bind_eq_some_iff.mp H
 obtain ⟨t502, A20, H⟩ := H
 replace H : (if t502 = true then ((impl_CountPassages.f a0_0 a0_1 a0_2).bind fun t503 => ((impl_CountCells.f a0_0 a0_1).bind fun t504 => (some (t503 == (wrap64 (t504 - 1)))))) else (some false)) = some r := H
 have A2 := Aside0.mk A20
 clear A20
 by_cases c3 : t502 = true
 ·subst c3
  have H1 : ((impl_CountPassages.f a0_0 a0_1 a0_2).bind fun t503 => ((impl_CountCells.f a0_0 a0_1).bind fun t504 => (some (t503 == (wrap64 (t504 - 1)))))) = some r := by rw [if_pos rfl] at H; exact H
  clear H
  have H := H1
  clear H1
  replace H := Option.bind_eq_some_iff.mp H
  obtain ⟨t503, A40, H⟩ := H
  replace H : ((impl_CountCells.f a0_0 a0_1).bind fun t504 => (some (t503 == (wrap64 (t504 - 1))))) = some r := H
  have A4 := Aside0.mk A40
  clear A40
  replace H := Option.bind_eq_some_iff.mp H
  obtain ⟨t504, A50, H⟩ := H
  replace H : (some (t503 == (wrap64 (t504 - 1)))) = some r := H
  have A5 := Aside0.mk A50
  clear A50
  obtain rfl := Option.some.inj H
  go_enter Try.func74, Try.ntmps74
  try go_wp2_with (first | ((with_reducible refine gate_dst (N := 1) rfl ?_); refine box_event ?hg (N := 1) ?hd (cs := #[.int .i64 a0_0, .int .i64 a0_1, .int .i64 a0_2]) (t := 29) ?hr ?_; (case hd => rfl); (case hg => rfl); (case hr => first | (go_simp; done) | (go_simp; rfl)); intro gb501 hg w6 hbox hb; have n0_ := Aside0.mk (below_step (hb0_ HB.out) hb); have n1_ := Aside0.mk (hbox); have n2_ := Aside0.mk ((gs_ hg (hb0_ HB.out))); have n3_ := Aside0.mk ((gs_ hg (hb0_ HB.out))); clear HB; have HB := n0_; have BK501 := n1_; have GW501 := n2_; have GE501 := n3_; clear n0_ n1_ n2_ n3_; clear hb hbox hg))
  replace BK501 := Aside0.mk (blk_drew BK501.out)
  replace HB := Aside0.mk (below_drew1 HB.out)
  refine start_ (n := 12) (S := fun w' => w'.cell? ⟨gb501, 0, none⟩ = some (.int .i64 a0_0) ∧ w'.cell? ⟨gb501, 1, none⟩ = some (.int .i64 a0_1) ∧ w'.cell? ⟨gb501, 2, none⟩ = some (.int .i64 a0_2)) (ds := []) #[false, false, false, false, false, false, false, false, false, false, false, false] (by kernel_rfl) rfl rfl ⟨(blk_cell BK501.out 0).trans rfl, (blk_cell BK501.out 1).trans rfl, (blk_cell BK501.out 2).trans rfl⟩ (fun hHeld => ?_); refine with_tabW impl_IsPerfect.tab1 impl_IsPerfect.bits1 (fun HT_ HW_ => ?_)
  generalize w6.drew = w7 at BK501 HB hHeld ⊢
  refine tv3_ (i := 0) (N := some 3) HT_.out HW_.out hHeld ?_
  refine ov_ (i := 1) (N := some 4) HT_.out (fun K hK => ?_)
  refine goes_ Try.func107 (by kernel_rfl) rfl #[.agg #[.int .i64 a0_0, .int .i64 a0_1, .int .i64 a0_2]] (by rfl) rfl rfl (ml_) ?_
  with_reducible refine (impl_IsConnected.calls k a0_0 a0_1 a0_2 true _ A2.out).mono ?_
  rintro e w8 ⟨rfl, hb⟩
  refine ⟨_, rfl, ?_⟩
  replace BK501 := Aside0.mk (bb_ BK501.out hb)
  replace HB := Aside0.mk (below_step (hb1_ HB.out GE501.out) hb)
  (try clear hb)
  (try clear hb2)
  (try clear hk)
  (try clear hi)
  refine hK.out _ _ ⟨(blk_cell BK501.out 0).trans rfl, (blk_cell BK501.out 1).trans rfl, (blk_cell BK501.out 2).trans rfl⟩ (fun hHeld => ?_)
  clear hK K
  refine norm_ (a' := ?_) ?_ ?_
  rotate_left
  ·show Act.put _ (some 4) _ = _
   simp only [Act.put, List.setIfInBounds_toArray, List.set_cons_zero, List.set_cons_succ, i64_w, i32_w]
   rfl
  refine pv_ (i := 2) (N := some 5) HT_.out ?_
  refine pv_ (i := 5) (N := some 8) HT_.out ?_
  refine tv3_ (i := 3) (N := some 6) HT_.out HW_.out hHeld ?_
  refine tv3_ (i := 6) (N := some 9) HT_.out HW_.out hHeld ?_
  refine ov_ (i := 4) (N := some 7) HT_.out (fun K hK => ?_)
  refine goes_ Try.func35 (by kernel_rfl) rfl #[.agg #[.int .i64 a0_0, .int .i64 a0_1, .int .i64 a0_2]] (by rfl) rfl rfl (ml_) ?_
  with_reducible refine (impl_CountPassages.calls a0_0 a0_1 a0_2 t503 _ A4.out).mono ?_
  rintro e w9 ⟨rfl, hb⟩
  refine ⟨_, rfl, ?_⟩
  replace BK501 := Aside0.mk (bb_ BK501.out hb)
  replace HB := Aside0.mk (below_step (hb1_ HB.out GE501.out) hb)
  (try clear hb)
  (try clear hb2)
  (try clear hk)
  (try clear hi)
  refine hK.out _ _ ⟨(blk_cell BK501.out 0).trans rfl, (blk_cell BK501.out 1).trans rfl, (blk_cell BK501.out 2).trans rfl⟩ (fun hHeld => ?_)
  clear hK K
  refine norm_ (a' := ?_) ?_ ?_
  rotate_left
  ·show Act.put _ (some 7) _ = _
   simp only [Act.put, List.setIfInBounds_toArray, List.set_cons_zero, List.set_cons_succ, i64_w, i32_w]
   rfl
  refine ov_ (i := 7) (N := some 10) HT_.out (fun K hK => ?_)
  refine goes_ Try.func115 (by kernel_rfl) rfl #[.agg #[.int .i64 a0_0, .int .i64 a0_1]] (by rfl) rfl rfl (ml_) ?_
  with_reducible refine (impl_CountCells.calls a0_0 a0_1 t504 _ A5.out).mono ?_
  rintro e w10 ⟨rfl, hb⟩
  refine ⟨_, rfl, ?_⟩
  replace BK501 := Aside0.mk (bb_ BK501.out hb)
  replace HB := Aside0.mk (below_step (hb1_ HB.out GE501.out) hb)
  (try clear hb)
  (try clear hb2)
  (try clear hk)
  (try clear hi)
  refine hK.out _ _ ⟨(blk_cell BK501.out 0).trans rfl, (blk_cell BK501.out 1).trans rfl, (blk_cell BK501.out 2).trans rfl⟩ (fun hHeld => ?_)
  clear hK K
  refine norm_ (a' := ?_) ?_ ?_
  rotate_left
  ·show Act.put _ (some 10) _ = _
   simp only [Act.put, List.setIfInBounds_toArray, List.set_cons_zero, List.set_cons_succ, i64_w, i32_w]
   rfl
  refine pv_ (i := 8) (N := some 11) HT_.out ?_
  refine pv_ (i := 9) (N := some 12) HT_.out ?_
  refine pv_ (i := 10) (N := some 13) HT_.out ?_
  refine pv_ (i := 11) (N := some 2) HT_.out ?_
  refine done_ (done_of HT_.out (by kernel_rfl)) ?_
  try go_wp2
  go_ret
  exact ⟨by first | rfl | (simp [errW_none, errW_some] <;> rfl) | (simp [*, errW_none, errW_some] <;> rfl), hb1_ HB.out GE501.out⟩
 ·replace c3 := Bool.eq_false_iff.mpr c3
  subst c3
  have H1 : (some false) = some r := by rw [if_neg (show ¬ (false = true) by decide)] at H; exact H
  clear H
  have H := H1
  clear H1
  obtain rfl := Option.some.inj H
  go_enter Try.func74, Try.ntmps74
  try go_wp2_with (first | ((with_reducible refine gate_dst (N := 1) rfl ?_); refine box_event ?hg (N := 1) ?hd (cs := #[.int .i64 a0_0, .int .i64 a0_1, .int .i64 a0_2]) (t := 29) ?hr ?_; (case hd => rfl); (case hg => rfl); (case hr => first | (go_simp; done) | (go_simp; rfl)); intro gb501 hg w11 hbox hb; have n0_ := Aside0.mk (below_step (hb0_ HB.out) hb); have n1_ := Aside0.mk (hbox); have n2_ := Aside0.mk ((gs_ hg (hb0_ HB.out))); have n3_ := Aside0.mk ((gs_ hg (hb0_ HB.out))); clear HB; have HB := n0_; have BK501 := n1_; have GW501 := n2_; have GE501 := n3_; clear n0_ n1_ n2_ n3_; clear hb hbox hg))
  replace BK501 := Aside0.mk (blk_drew BK501.out)
  replace HB := Aside0.mk (below_drew1 HB.out)
  refine start_ (n := 12) (S := fun w' => w'.cell? ⟨gb501, 0, none⟩ = some (.int .i64 a0_0) ∧ w'.cell? ⟨gb501, 1, none⟩ = some (.int .i64 a0_1) ∧ w'.cell? ⟨gb501, 2, none⟩ = some (.int .i64 a0_2)) (ds := []) #[false, false, false, false, false, false, false, false, false, false, false, false] (by kernel_rfl) rfl rfl ⟨(blk_cell BK501.out 0).trans rfl, (blk_cell BK501.out 1).trans rfl, (blk_cell BK501.out 2).trans rfl⟩ (fun hHeld => ?_); refine with_tabW impl_IsPerfect.tab1 impl_IsPerfect.bits1 (fun HT_ HW_ => ?_)
  generalize w11.drew = w12 at BK501 HB hHeld ⊢
  refine tv3_ (i := 0) (N := some 3) HT_.out HW_.out hHeld ?_
  refine ov_ (i := 1) (N := some 4) HT_.out (fun K hK => ?_)
  refine goes_ Try.func107 (by kernel_rfl) rfl #[.agg #[.int .i64 a0_0, .int .i64 a0_1, .int .i64 a0_2]] (by rfl) rfl rfl (ml_) ?_
  with_reducible refine (impl_IsConnected.calls k a0_0 a0_1 a0_2 false _ A2.out).mono ?_
  rintro e w13 ⟨rfl, hb⟩
  refine ⟨_, rfl, ?_⟩
  replace BK501 := Aside0.mk (bb_ BK501.out hb)
  replace HB := Aside0.mk (below_step (hb1_ HB.out GE501.out) hb)
  (try clear hb)
  (try clear hb2)
  (try clear hk)
  (try clear hi)
  refine hK.out _ _ ⟨(blk_cell BK501.out 0).trans rfl, (blk_cell BK501.out 1).trans rfl, (blk_cell BK501.out 2).trans rfl⟩ (fun hHeld => ?_)
  clear hK K
  refine norm_ (a' := ?_) ?_ ?_
  rotate_left
  ·show Act.put _ (some 4) _ = _
   simp only [Act.put, List.setIfInBounds_toArray, List.set_cons_zero, List.set_cons_succ, i64_w, i32_w]
   rfl
  refine pv_ (i := 2) (N := some 5) HT_.out ?_
  refine pu_ (i := 3) (N := some 6) HT_.out ?_
  refine pu_ (i := 4) (N := some 7) HT_.out ?_
  refine pu_ (i := 5) (N := some 8) HT_.out ?_
  refine pu_ (i := 6) (N := some 9) HT_.out ?_
  refine pu_ (i := 7) (N := some 10) HT_.out ?_
  refine pu_ (i := 8) (N := some 11) HT_.out ?_
  refine pu_ (i := 9) (N := some 12) HT_.out ?_
  refine pv_ (i := 10) (N := some 13) HT_.out ?_
  refine pv_ (i := 11) (N := some 2) HT_.out ?_
  refine done_ (done_of HT_.out (by kernel_rfl)) ?_
  try go_wp2
  go_ret
  exact ⟨by first | rfl | (simp [errW_none, errW_some] <;> rfl) | (simp [*, errW_none, errW_some] <;> rfl), hb1_ HB.out GE501.out⟩

end Go.Proofs.Ytdloifaaoiollaa.X
