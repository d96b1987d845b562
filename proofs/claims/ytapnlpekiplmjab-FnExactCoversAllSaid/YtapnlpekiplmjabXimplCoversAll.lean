-- Written by a program of this session (xprint.py), out of the translation and of hand-written contracts. Lean checks it.
import Derived.Test.YtapnlpekiplmjabX0
import Derived.Test.YtapnlpekiplmjabXcgrid
import Derived.Test.YtapnlpekiplmjabXimplFollowTurns
import Derived.Test.YtapnlpekiplmjabXimplordered
namespace Go.Proofs.Ytapnlpekiplmjab.X
open Go.RowKit Go.Proofs.YtapnlpekiplmjabW.PrintWords Go.Proofs.YtapnlpekiplmjabW.PrintLast Go.Proofs.YtapnlpekiplmjabW.PrintMore
attribute [local go_sem] max2_int min2_int max_two min_two max_three min_three max_four min_four   -- for this text's walks alone
set_option linter.unusedVariables false
set_option linter.unusedSimpArgs false

/-! ### impl_CoversAll: function 26 -/
def impl_CoversAll.f (k : Nat) (a0_0 : Int) (a0_1 : Int) (a0_2 : Int) (a1_0 : Int) (a1_1 : Int) (l2 : List Int) : Option (Bool) := (impl_FollowTurns.f k a0_0 a0_1 a0_2 a1_0 a1_1 l2).bind fun t503 => (if (t503.length : Int) > 0 then ((impl_ordered.f t503).bind fun t506 => ((impl_CountCells.f a0_0 a0_1).bind fun t509 => (some ((t506.length : Int) == t509)))) else (some false))
theorem impl_CoversAll.mono : ∀ a0 a1 a2 a3 a4 a5 k, LeO (impl_CoversAll.f k a0 a1 a2 a3 a4 a5) (impl_CoversAll.f (k + 1) a0 a1 a2 a3 a4 a5) := by
 intro a0 a1 a2 a3 a4 a5 k
 unfold impl_CoversAll.f
 repeat' first
   | (with_reducible exact impl_FollowTurns.mono _ _ _ _ _ _ _)
   | (with_reducible exact LeO.refl _)
   | (with_reducible exact LeO.none _)
   | (with_reducible refine LeO.ite ?_ ?_)
   | (with_reducible refine LeO.bind ?_ (fun _ => ?_))
   | exact impl_FollowTurns.mono _ _ _ _ _ _ _
   | exact LeO.none _
   | refine LeO.ite ?_ ?_
   | refine LeO.bind ?_ (fun _ => ?_)
def impl_CoversAll.T2 : Bool × List (List Nat × List Nat) := (true, [([], []), ([0], [0]), ([1], [1]), ([2], [2]), ([3], [3]), ([4, 3, 3], [3, 4]), ([5, 3], [3, 5]), ([3], [3]), ([7, 3], [3, 7]), ([8, 5, 3], [3, 8]), ([6, 9, 3], [3, 6, 9]), ([3, 10], [3, 10]), ([11, 9, 0, 1, 2, 3, 4, 5, 6, 7, 8, 9, 10, 11], [11])])
def impl_CoversAll.B2 : List Nat := [0, 1, 3, 7, 15, 31, 63, 15, 143, 447, 1023, 2047, 4095]
theorem impl_CoversAll.tab2 : rtab .any (opsOf Try.f26 2) = impl_CoversAll.T2 := by kernel_rfl
theorem impl_CoversAll.bits2 : waitsOk impl_CoversAll.T2.2 impl_CoversAll.B2 = true := by kernel_rfl
set_option maxHeartbeats 8000000 in
set_option maxRecDepth 100000 in
theorem impl_CoversAll.calls (k : Nat) (a0_0 : Int) (a0_1 : Int) (a0_2 : Int) (a1_0 : Int) (a1_1 : Int) (A2 : Option Addr) (c2 : Nat) (l2 : List Int) (r : Bool) (w : World) (hr2 : Kd.C (Kd.int .i64) w A2 l2.length l2) (hc2 : l2.length ≤ c2) (h : impl_CoversAll.f k a0_0 a0_1 a0_2 a1_0 a1_1 l2 = some r) :
  Calls Try.prog 26 #[.agg #[.int .i64 a0_0, .int .i64 a0_1, .int .i64 a0_2], .agg #[.int .i64 a1_0, .int .i64 a1_1], .slice A2 l2.length c2] w fun e w' => e = .returned (.bool r) ∧ Below w.heap.size w w' := by
 have hu29 := Try.underlying29
 have hu40 := Try.underlying40
 have hu27 := Try.underlying27
 have HR2 := Aside0.mk hr2
 have HC2 := Aside0.mk hc2
 clear hr2 hc2
 have HB := Aside0.mk (Below.refl w.heap.size w)
 have H : ((impl_FollowTurns.f k a0_0 a0_1 a0_2 a1_0 a1_1 l2).bind fun t503 => (if (t503.length : Int) > 0 then ((impl_ordered.f t503).bind fun t506 => ((impl_CountCells.f a0_0 a0_1).bind fun t509 => (some ((t506.length : Int) == t509)))) else (some false))) = some r := h
 clear h
 replace H := Option.bind_eq_some_iff.mp H
 obtain ⟨t503, A40, H⟩ := H
 replace H : (if (t503.length : Int) > 0 then ((impl_ordered.f t503).bind fun t506 => ((impl_CountCells.f a0_0 a0_1).bind fun t509 => (some ((t506.length : Int) == t509)))) else (some false)) = some r := H
 have A4 := Aside0.mk A40
 clear A40
 by_cases c5 : (t503.length : Int) > 0
 ·rw [if_pos c5] at H
  have c5b0 : decide (0 < (t503.length : Int)) = true := decide_eq_true c5
  have c5b1 : decide (0 < t503.length) = true := decide_eq_true (by omega)
  clear c5
  replace H := Option.bind_eq_some_iff.mp H
  obtain ⟨t506, A60, H⟩ := H
  replace H : ((impl_CountCells.f a0_0 a0_1).bind fun t509 => (some ((t506.length : Int) == t509))) = some r := H
  have A6 := Aside0.mk A60
  clear A60
  replace H := Option.bind_eq_some_iff.mp H
  obtain ⟨t509, A70, H⟩ := H
  replace H : (some ((t506.length : Int) == t509)) = some r := H
  have A7 := Aside0.mk A70
  clear A70
  obtain rfl := Option.some.inj H
  go_enter Try.func26, Try.ntmps26
  try go_wp2_with (first | ((with_reducible refine gate_dst (N := 3) rfl ?_); (try (refine gate_guard (by rfl) ?_; dsimp only)); refine box_event ?hg (N := 3) ?hd (cs := #[.int .i64 a0_0, .int .i64 a0_1, .int .i64 a0_2]) (t := 29) ?hr ?_; (case hd => rfl); (case hg => rfl); (case hr => first | (go_simp; done) | (go_simp; rfl)); intro gb501 hg w8 hbox hb; have n0_ := Aside0.mk (below_step (hb0_ HB.out) hb); have n1_ := Aside0.mk (hbox); have n2_ := Aside0.mk ((gs_ hg (hb0_ HB.out))); have n3_ := Aside0.mk ((gs_ hg (hb0_ HB.out))); clear HB; have HB := n0_; have BK501 := n1_; have GW501 := n2_; have GE501 := n3_; clear n0_ n1_ n2_ n3_; clear hb hbox hg) | ((with_reducible refine gate_dst (N := 4) rfl ?_); (try (refine gate_guard (by rfl) ?_; dsimp only)); refine box_event ?hg (N := 4) ?hd (cs := #[.int .i64 a1_0, .int .i64 a1_1]) (t := 40) ?hr ?_; (case hd => rfl); (case hg => rfl); (case hr => first | (go_simp; done) | (go_simp; rfl)); intro gb502 hg w9 hbox hb; have n0_ := Aside0.mk (bb_ BK501.out hb); have n1_ := Aside0.mk (below_step (hb1_ HB.out GE501.out) hb); have n2_ := Aside0.mk (hbox); have n3_ := Aside0.mk ((gs_ hg (hb1_ HB.out GE501.out))); have n4_ := Aside0.mk ((gs_ hg (hb1_ HB.out GE501.out))); have n5_ := Aside0.mk (nl_ hg BK501.out); have n6_ := Aside0.mk (nr_ hg BK501.out); clear BK501; clear HB; have BK501 := n0_; have HB := n1_; have BK502 := n2_; have GW502 := n3_; have GE502 := n4_; have NB501_502 := n5_; have NB502_501 := n6_; clear n0_ n1_ n2_ n3_ n4_ n5_ n6_; clear hb hbox hg; have hnb10 := NB501_502.out; have hnc10 := NB502_501.out; obtain ⟨hcz11_0, hcz11_1, hcz11_2⟩ := cz3_ BK501.out; obtain ⟨hfz11_0, hfz11_1, hfz11_2⟩ := fz3_ BK501.out; obtain ⟨hcz12_0, hcz12_1⟩ := cz2_ BK502.out; obtain ⟨hfz12_0, hfz12_1⟩ := fz2_ BK502.out) | ((with_reducible refine gate_callee (f := 53) rfl ?_); refine goesL_ (some 11) rfl rfl Try.func53 (by kernel_rfl) rfl #[.agg #[.int .i64 a0_0, .int .i64 a0_1, .int .i64 a0_2], .agg #[.int .i64 a1_0, .int .i64 a1_1], .slice A2 l2.length c2] rfl (ml_) ?_; (with_reducible refine (impl_FollowTurns.calls k a0_0 a0_1 a0_2 a1_0 a1_1 _ _ l2 t503 _ ?side1 ?side2 A4.out).mono ?_); (case side1 => repeat (first | exact (Kd.C_below HR2.out HB.out) | (with_reducible refine Kd.C_alloc ?_ _) | (with_reducible refine Kd.C_drewN ?_ _) | (with_reducible refine Kd.C_drew ?_))); (case side2 => exact HC2.out); rintro e w13 ⟨v504, rfl, ho0, hb⟩; refine ⟨_, rfl, ?_⟩; have HO505 := Aside0.mk (Kd.R_lower ho0 (below_size (hb2_ HB.out GE501.out GE502.out))); replace BK501 := Aside0.mk (bb_ BK501.out hb); replace BK502 := Aside0.mk (bb_ BK502.out hb); replace HB := Aside0.mk (below_step (hb2_ HB.out GE501.out GE502.out) hb); (try clear hb); (try clear hb2); (try clear hk); (try clear hi); (try clear ho0)))
  replace HO505 := Aside0.mk (Kd.R_drew HO505.out)
  replace BK501 := Aside0.mk (blk_drew BK501.out)
  replace BK502 := Aside0.mk (blk_drew BK502.out)
  replace HB := Aside0.mk (below_drew1 HB.out)
  obtain ⟨Ao15, co15, eo15⟩ := Kd.R_slice HO505.out
  (first | subst eo15 | (injection eo15 with f1_ f2_ f3_; have f4_ := f1_.symm; have f5_ := f3_.symm; clear f1_ f2_ f3_; subst f4_; subst f5_))
  refine start_ (n := 13) (S := fun w' => w'.cell? ⟨gb501, 0, none⟩ = some (.int .i64 a0_0) ∧ w'.cell? ⟨gb501, 1, none⟩ = some (.int .i64 a0_1) ∧ w'.cell? ⟨gb501, 2, none⟩ = some (.int .i64 a0_2)) (ds := []) #[false, false, false, false, false, false, false, false, false, false, false, false, false] (by kernel_rfl) rfl rfl ⟨(blk_cell BK501.out 0).trans rfl, (blk_cell BK501.out 1).trans rfl, (blk_cell BK501.out 2).trans rfl⟩ (fun hHeld => ?_); refine with_tabW impl_CoversAll.tab2 impl_CoversAll.bits2 (fun HT_ HW_ => ?_)
  generalize w13.drew = w14 at HO505 BK501 BK502 HB hHeld ⊢
  refine pv_ (i := 0) (N := some 12) HT_.out ?_
  refine pv_ (i := 1) (N := some 13) HT_.out ?_
  refine pv_ (i := 2) (N := some 14) HT_.out ?_
  refine pv_ (i := 3) (N := some 15) HT_.out ?_
  refine pv_ (i := 4) (N := some 16) HT_.out ?_
  refine pv_ (i := 7) (N := some 19) HT_.out ?_
  refine tv3_ (i := 8) (N := some 20) HT_.out HW_.out hHeld ?_
  refine ov_ (i := 5) (N := some 17) HT_.out (fun K hK => ?_)
  refine goes_ Try.func61 (by kernel_rfl) rfl #[.slice Ao15 t503.length co15] (by rfl) rfl rfl (ml_) ?_
  with_reducible refine (impl_ordered.calls (fun k_ => some k_ = (.slice Ao15 t503.length co15 : Value).ownBlock) (.slice Ao15 t503.length co15) t503 t506 w _ ?side1 ?side2 A6.out).mono ?_
  (case side1 => repeat (first | (with_reducible first | exact HB.out | apply below_alloc | apply pw_below_drewN | apply below_drew1 | refine below_set ?_ GE501.out | refine below_set ?_ GE502.out) | exact HB.out))
  (case side2 => exact Kd.R_tight rfl HO505.out)
  rintro e w16 ⟨v507, rfl, ho0, hb, hkp⟩
  refine ⟨_, rfl, ?_⟩
  replace BK501 := Aside0.mk (blk_kept (bk_ BK501.out) hkp (fun hs_ => (fun e_ => (Kd.R_ne HO505.out BK501.out (by decide)) e_) hs_))
  replace BK502 := Aside0.mk (blk_kept (bk_ BK502.out) hkp (fun hs_ => (fun e_ => (Kd.R_ne HO505.out BK502.out (by decide)) e_) hs_))
  have HO508 := Aside0.mk (Kd.R_mono (ok' := fun k_ => True) ho0 (fun k_ hk_ => trivial))
  replace HB := Aside0.mk (hb)
  clear HO505
  (try clear hb)
  (try clear hkp)
  (try clear ho0)
  obtain ⟨Ao17, co17, eo17⟩ := Kd.R_slice HO508.out
  (first | subst eo17 | (injection eo17 with f1_ f2_ f3_; have f4_ := f1_.symm; have f5_ := f3_.symm; clear f1_ f2_ f3_; subst f4_; subst f5_))
  refine hK.out _ _ ⟨(blk_cell BK501.out 0).trans rfl, (blk_cell BK501.out 1).trans rfl, (blk_cell BK501.out 2).trans rfl⟩ (fun hHeld => ?_)
  clear hK K
  refine norm_ (a' := ?_) ?_ ?_
  rotate_left
  ·show Act.put _ (some 17) _ = _
   simp only [Act.put, List.setIfInBounds_toArray, List.set_cons_zero, List.set_cons_succ, i64_w, i32_w]
   rfl
  refine pv_ (i := 6) (N := some 18) HT_.out ?_
  refine ov_ (i := 9) (N := some 21) HT_.out (fun K hK => ?_)
  refine goes_ Try.func63 (by kernel_rfl) rfl #[.agg #[.int .i64 a0_0, .int .i64 a0_1]] (by rfl) rfl rfl (ml_) ?_
  with_reducible refine (impl_CountCells.calls a0_0 a0_1 t509 _ A7.out).mono ?_
  rintro e w18 ⟨rfl, hb⟩
  refine ⟨_, rfl, ?_⟩
  replace HO508 := Aside0.mk (Kd.R_below (kr_ HO508.out) hb)
  replace BK501 := Aside0.mk (bb_ BK501.out hb)
  replace BK502 := Aside0.mk (bb_ BK502.out hb)
  replace HB := Aside0.mk (below_step (hb2_ HB.out GE501.out GE502.out) hb)
  (try clear hb)
  (try clear hb2)
  (try clear hk)
  (try clear hi)
  refine hK.out _ _ ⟨(blk_cell BK501.out 0).trans rfl, (blk_cell BK501.out 1).trans rfl, (blk_cell BK501.out 2).trans rfl⟩ (fun hHeld => ?_)
  clear hK K
  refine norm_ (a' := ?_) ?_ ?_
  rotate_left
  ·show Act.put _ (some 21) _ = _
   simp only [Act.put, List.setIfInBounds_toArray, List.set_cons_zero, List.set_cons_succ, i64_w, i32_w]
   rfl
  refine pv_ (i := 10) (N := some 22) HT_.out ?_
  refine pv_ (i := 11) (N := some 23) HT_.out ?_
  refine pv_ (i := 12) (N := some 6) HT_.out ?_
  refine done_ (done_of HT_.out (by kernel_rfl)) ?_
  try go_wp2
  go_ret
  exact ⟨by first | rfl | (simp [errW_none, errW_some] <;> rfl) | (simp [*, errW_none, errW_some] <;> rfl), hb2_ HB.out GE501.out GE502.out⟩
 ·rw [if_neg c5] at H
  have c5b0 : decide (0 < (t503.length : Int)) = false := decide_eq_false c5
  have c5b1 : decide (0 < t503.length) = false := decide_eq_false (by omega)
  clear c5
  obtain rfl := Option.some.inj H
  go_enter Try.func26, Try.ntmps26
  try go_wp2_with (first | ((with_reducible refine gate_dst (N := 3) rfl ?_); (try (refine gate_guard (by rfl) ?_; dsimp only)); refine box_event ?hg (N := 3) ?hd (cs := #[.int .i64 a0_0, .int .i64 a0_1, .int .i64 a0_2]) (t := 29) ?hr ?_; (case hd => rfl); (case hg => rfl); (case hr => first | (go_simp; done) | (go_simp; rfl)); intro gb501 hg w19 hbox hb; have n0_ := Aside0.mk (below_step (hb0_ HB.out) hb); have n1_ := Aside0.mk (hbox); have n2_ := Aside0.mk ((gs_ hg (hb0_ HB.out))); have n3_ := Aside0.mk ((gs_ hg (hb0_ HB.out))); clear HB; have HB := n0_; have BK501 := n1_; have GW501 := n2_; have GE501 := n3_; clear n0_ n1_ n2_ n3_; clear hb hbox hg) | ((with_reducible refine gate_dst (N := 4) rfl ?_); (try (refine gate_guard (by rfl) ?_; dsimp only)); refine box_event ?hg (N := 4) ?hd (cs := #[.int .i64 a1_0, .int .i64 a1_1]) (t := 40) ?hr ?_; (case hd => rfl); (case hg => rfl); (case hr => first | (go_simp; done) | (go_simp; rfl)); intro gb502 hg w20 hbox hb; have n0_ := Aside0.mk (bb_ BK501.out hb); have n1_ := Aside0.mk (below_step (hb1_ HB.out GE501.out) hb); have n2_ := Aside0.mk (hbox); have n3_ := Aside0.mk ((gs_ hg (hb1_ HB.out GE501.out))); have n4_ := Aside0.mk ((gs_ hg (hb1_ HB.out GE501.out))); have n5_ := Aside0.mk (nl_ hg BK501.out); have n6_ := Aside0.mk (nr_ hg BK501.out); clear BK501; clear HB; have BK501 := n0_; have HB := n1_; have BK502 := n2_; have GW502 := n3_; have GE502 := n4_; have NB501_502 := n5_; have NB502_501 := n6_; clear n0_ n1_ n2_ n3_ n4_ n5_ n6_; clear hb hbox hg; have hnb21 := NB501_502.out; have hnc21 := NB502_501.out; obtain ⟨hcz22_0, hcz22_1, hcz22_2⟩ := cz3_ BK501.out; obtain ⟨hfz22_0, hfz22_1, hfz22_2⟩ := fz3_ BK501.out; obtain ⟨hcz23_0, hcz23_1⟩ := cz2_ BK502.out; obtain ⟨hfz23_0, hfz23_1⟩ := fz2_ BK502.out) | ((with_reducible refine gate_callee (f := 53) rfl ?_); refine goesL_ (some 11) rfl rfl Try.func53 (by kernel_rfl) rfl #[.agg #[.int .i64 a0_0, .int .i64 a0_1, .int .i64 a0_2], .agg #[.int .i64 a1_0, .int .i64 a1_1], .slice A2 l2.length c2] rfl (ml_) ?_; (with_reducible refine (impl_FollowTurns.calls k a0_0 a0_1 a0_2 a1_0 a1_1 _ _ l2 t503 _ ?side1 ?side2 A4.out).mono ?_); (case side1 => repeat (first | exact (Kd.C_below HR2.out HB.out) | (with_reducible refine Kd.C_alloc ?_ _) | (with_reducible refine Kd.C_drewN ?_ _) | (with_reducible refine Kd.C_drew ?_))); (case side2 => exact HC2.out); rintro e w24 ⟨v504, rfl, ho0, hb⟩; refine ⟨_, rfl, ?_⟩; have HO505 := Aside0.mk (Kd.R_lower ho0 (below_size (hb2_ HB.out GE501.out GE502.out))); replace BK501 := Aside0.mk (bb_ BK501.out hb); replace BK502 := Aside0.mk (bb_ BK502.out hb); replace HB := Aside0.mk (below_step (hb2_ HB.out GE501.out GE502.out) hb); (try clear hb); (try clear hb2); (try clear hk); (try clear hi); (try clear ho0)))
  replace HO505 := Aside0.mk (Kd.R_drew HO505.out)
  replace BK501 := Aside0.mk (blk_drew BK501.out)
  replace BK502 := Aside0.mk (blk_drew BK502.out)
  replace HB := Aside0.mk (below_drew1 HB.out)
  obtain ⟨Ao26, co26, eo26⟩ := Kd.R_slice HO505.out
  (first | subst eo26 | (injection eo26 with f1_ f2_ f3_; have f4_ := f1_.symm; have f5_ := f3_.symm; clear f1_ f2_ f3_; subst f4_; subst f5_))
  refine start_ (n := 13) (S := fun w' => True) (ds := []) #[false, false, false, false, false, false, false, false, false, false, false, false, false] (by kernel_rfl) rfl rfl trivial (fun hHeld => ?_); refine with_tabW impl_CoversAll.tab2 impl_CoversAll.bits2 (fun HT_ HW_ => ?_)
  generalize w24.drew = w25 at HO505 BK501 BK502 HB hHeld ⊢
  refine pv_ (i := 0) (N := some 12) HT_.out ?_
  refine pv_ (i := 1) (N := some 13) HT_.out ?_
  refine pv_ (i := 2) (N := some 14) HT_.out ?_
  refine pv_ (i := 3) (N := some 15) HT_.out ?_
  refine pu_ (i := 4) (N := some 16) HT_.out ?_
  refine pu_ (i := 5) (N := some 17) HT_.out ?_
  refine pu_ (i := 6) (N := some 18) HT_.out ?_
  refine pu_ (i := 7) (N := some 19) HT_.out ?_
  refine pu_ (i := 8) (N := some 20) HT_.out ?_
  refine pu_ (i := 9) (N := some 21) HT_.out ?_
  refine pu_ (i := 10) (N := some 22) HT_.out ?_
  refine pv_ (i := 11) (N := some 23) HT_.out ?_
  refine pv_ (i := 12) (N := some 6) HT_.out ?_
  refine done_ (done_of HT_.out (by kernel_rfl)) ?_
  try go_wp2
  go_ret
  exact ⟨by first | rfl | (simp [errW_none, errW_some] <;> rfl) | (simp [*, errW_none, errW_some] <;> rfl), hb2_ HB.out GE501.out GE502.out⟩

end Go.Proofs.Ytapnlpekiplmjab.X
