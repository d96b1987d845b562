-- Written by a program of this session (xprint.py), out of the translation and of hand-written contracts. Lean checks it.
import Derived.Test.YtdloifaaoiollacX0
import Derived.Test.YtdloifaaoiollacXcnbr
import Derived.Test.YtdloifaaoiollacXcstep
namespace Go.Proofs.Ytdloifaaoiollac.X
open Go.RowKit Go.Proofs.YtdloifaaoiollacW.PrintWords Go.Proofs.YtdloifaaoiollacW.PrintLast Go.Proofs.YtdloifaaoiollacW.PrintMore
attribute [local go_sem] max2_int min2_int max_two min_two max_three min_three max_four min_four   -- for this text's walks alone
set_option linter.unusedVariables false
set_option linter.unusedSimpArgs false

/-! ### impl_TremauxStep_1: function 78 (by hand) -/
def impl_TremauxStep_1.f (k : Nat) (d m0 m1 m2 w0 w1 : Int) (l1 : List Int) : Option Int := (impl_Step.f k m0 m1 m2 w0 d).bind fun t => if t < 0 then some (-1) else (impl_GapAt.f k m0 m1 w0 d).bind fun g => if 0 ≤ g then (if g < (l1.length : Int) then some (rd l1 g) else none) else none
theorem impl_TremauxStep_1.mono {m0 m1 m2 w0 w1 : Int} {l1 : List Int} (d : Int) (k : Nat) : LeO (impl_TremauxStep_1.f k d m0 m1 m2 w0 w1 l1) (impl_TremauxStep_1.f (k + 1) d m0 m1 m2 w0 w1 l1) := by
 unfold impl_TremauxStep_1.f
 repeat' first
  | exact impl_Step.mono _ _ _ _ _ _
  | exact impl_GapAt.mono _ _ _ _ _
  | exact LeO.refl _
  | exact LeO.none _
  | refine LeO.ite ?_ ?_
  | refine LeO.bind ?_ (fun _ => ?_)
def impl_TremauxStep_1.T3 : Bool × List (List Nat × List Nat) := (true, [([], []), ([], []), ([1], [1]), ([], []), ([3], [3]), ([], []), ([2, 4, 5], [2, 4, 5]), ([0, 6], [0, 6]), ([7], [7]), ([8, 6, 0, 1, 2, 3, 4, 5, 6, 7, 8], [8])])
def impl_TremauxStep_1.B3 : List Nat := [0, 0, 2, 0, 8, 0, 62, 127, 255, 511]
theorem impl_TremauxStep_1.tab3 : rtab .any (opsOf Try.f78 3) = impl_TremauxStep_1.T3 := by kernel_rfl
theorem impl_TremauxStep_1.bits3 : waitsOk impl_TremauxStep_1.T3.2 impl_TremauxStep_1.B3 = true := by kernel_rfl
set_option maxHeartbeats 4000000 in
set_option maxRecDepth 100000 in
theorem impl_TremauxStep_1.calls {m0 m1 m2 w0 w1 : Int} {l1 : List Int} {A1 : Option Addr} {c1 : Nat} {gm gw gk : Nat} (k : Nat) (d r : Int) (w : World) (h : impl_TremauxStep_1.f k d m0 m1 m2 w0 w1 l1 = some r)
  (hm : w.heap[gm]? = some (.cells #[.int .i64 m0, .int .i64 m1, .int .i64 m2] 36 (0, 0))) (hw : w.heap[gw]? = some (.cells #[.int .i64 w0, .int .i64 w1] 60 (0, 0)))
  (hk : w.heap[gk]? = some (.cells #[.slice A1 l1.length c1] 22 (0, 0))) (hr : Kd.C (Kd.int .i64) w A1 l1.length l1) :
  Calls Try.prog 78 #[.int .i64 d, .pointer (some ⟨gm, 0, none⟩), .pointer (some ⟨gw, 0, none⟩), .pointer (some ⟨gk, 0, none⟩)] w fun e w' => e = .returned (.int .i64 r) ∧ Below w.heap.size w w' := by
 have hu1 := Try.underlying36
 have hu2 := Try.underlying60
 have hu3 := Try.underlying34
 have HB := Aside0.mk (Below.refl w.heap.size w)
 have BKm := Aside0.mk hm
 have BKw := Aside0.mk hw
 have BKk := Aside0.mk hk
 have HR := Aside0.mk hr
 clear hm hw hk hr
 unfold impl_TremauxStep_1.f at h
 obtain ⟨t, ht, H⟩ := Option.bind_eq_some_iff.mp h
 have HT := Aside0.mk ht
 clear h ht
 obtain ⟨cm0, cm1, cm2⟩ := cz3_ BKm.out
 obtain ⟨cw0, cw1⟩ := cz2_ BKw.out
 by_cases c : t < 0
 ·rw [if_pos c] at H
  have c1b : decide (t < 0) = true := decide_eq_true c
  clear c
  obtain rfl := Option.some.inj H
  clear H
  go_enter Try.func78, Try.ntmps78
  go_wp2_with (go_at_call 74; (with_reducible refine (impl_Step.calls k m0 m1 m2 w0 d t _ HT.out).mono ?_); rintro e w5 ⟨rfl, hb⟩; replace HB := Aside0.mk (below_step (hb0_ HB.out) hb); clear hb)
  go_ret
  exact ⟨rfl, hb0_ HB.out⟩
 ·rw [if_neg c] at H
  have c1b : decide (t < 0) = false := decide_eq_false c
  clear c
  obtain ⟨g, hg, H⟩ := Option.bind_eq_some_iff.mp H
  have HG := Aside0.mk hg
  clear hg
  by_cases g0 : 0 ≤ g
  ·rw [if_pos g0] at H
   by_cases g1 : g < (l1.length : Int)
   ·rw [if_pos g1] at H
    obtain rfl := Option.some.inj H
    clear H
    obtain ⟨ad, e, hx⟩ := Kd.at_int HR.out g g0 g1
    subst e
    have HX := Aside0.mk hx
    have p0 := eq_true g0
    have p1 := eq_true g1
    have p2 : decide (0 ≤ g) = true := decide_eq_true g0
    have p3 : decide (g < (l1.length : Int)) = true := decide_eq_true g1
    clear hx g0 g1
    go_enter Try.func78, Try.ntmps78
    go_wp2_with (go_at_call 74; (with_reducible refine (impl_Step.calls k m0 m1 m2 w0 d t _ HT.out).mono ?_); rintro e w5 ⟨rfl, hb⟩; replace BKm := Aside0.mk (bb_ BKm.out hb); replace BKw := Aside0.mk (bb_ BKw.out hb); replace BKk := Aside0.mk (bb_ BKk.out hb); replace HX := Aside0.mk (pw_cell_below hb HX.out); replace HB := Aside0.mk (below_step (hb0_ HB.out) hb); clear hb)
    clear cm0 cm1 cm2 cw0 cw1
    have HBd := Aside0.mk (below_drew1 HB.out)
    refine start_ (n := 10) (S := fun w' => w'.cell? ⟨gm, 0, none⟩ = some (.int .i64 m0) ∧ w'.cell? ⟨gm, 1, none⟩ = some (.int .i64 m1) ∧ w'.cell? ⟨gw, 0, none⟩ = some (.int .i64 w0) ∧ w'.cell? ⟨gk, 0, none⟩ = some (.slice (some ad) l1.length c1) ∧ w'.cell? (ad.add g.toNat) = some (.int .i64 (rd l1 g))) (ds := []) #[false, false, false, false, false, false, false, false, false, false] (by kernel_rfl) rfl rfl ⟨(blk_cell BKm.out 0).trans rfl, (blk_cell BKm.out 1).trans rfl, (blk_cell BKw.out 0).trans rfl, (blk_cell BKk.out 0).trans rfl, HX.out⟩ (fun hHeld => ?_); refine with_tabW impl_TremauxStep_1.tab3 impl_TremauxStep_1.bits3 (fun HT_ HW_ => ?_)
    replace BKm := Aside0.mk (blk_drew BKm.out)
    replace BKw := Aside0.mk (blk_drew BKw.out)
    replace BKk := Aside0.mk (blk_drew BKk.out)
    replace HX : Aside0 (World.cell? (World.drew w5) (ad.add g.toNat) = _) := ⟨HX.out⟩
    generalize w5.drew = w6 at BKm BKw BKk HX HBd hHeld ⊢
    refine tv5_ (i := 0) (N := some 12) HT_.out HW_.out hHeld ?_
    refine pv_ (i := 1) (N := some 13) HT_.out ?_
    refine tv5_ (i := 2) (N := some 14) HT_.out HW_.out hHeld ?_
    refine pv_ (i := 3) (N := some 15) HT_.out ?_
    refine tv5_ (i := 4) (N := some 16) HT_.out HW_.out hHeld ?_
    refine pv_ (i := 5) (N := some 17) HT_.out ?_
    refine ov_ (i := 6) (N := some 18) HT_.out (fun K hK => ?_)
    refine goes_ Try.func48 (by kernel_rfl) rfl #[.agg #[.int .i64 m0, .int .i64 m1], .int .i64 w0, .int .i64 d] (by rfl) rfl rfl (ml_) ?_
    with_reducible refine (impl_GapAt.calls k m0 m1 w0 d g _ HG.out).mono ?_
    rintro e w7 ⟨rfl, hb⟩
    refine ⟨_, rfl, ?_⟩
    replace BKm := Aside0.mk (bb_ BKm.out hb)
    replace BKw := Aside0.mk (bb_ BKw.out hb)
    replace BKk := Aside0.mk (bb_ BKk.out hb)
    replace HX := Aside0.mk (pw_cell_below hb HX.out)
    replace HBd := Aside0.mk (below_step HBd.out hb)
    clear hb HB
    refine hK.out _ _ ⟨(blk_cell BKm.out 0).trans rfl, (blk_cell BKm.out 1).trans rfl, (blk_cell BKw.out 0).trans rfl, (blk_cell BKk.out 0).trans rfl, HX.out⟩ (fun hHeld => ?_)
    clear hK K
    refine norm_ (a' := ?_) ?_ ?_
    rotate_left
    ·show Act.put _ (some 18) _ = _
     simp only [Act.put, List.setIfInBounds_toArray, List.set_cons_zero, List.set_cons_succ, i64_w, i32_w]
     rfl
    refine pv_ (i := 7) (N := some 19) HT_.out ?_
    refine tv5_ (i := 8) (N := some 20) HT_.out HW_.out hHeld ?_
    refine pv_ (i := 9) (N := some 5) HT_.out ?_
    refine done_ (done_of HT_.out (by kernel_rfl)) ?_
    go_wp2
    go_ret
    exact ⟨rfl, HBd.out⟩
   ·rw [if_neg g1] at H
    exact absurd H (by simp)
  ·rw [if_neg g0] at H
   exact absurd H (by simp)

end Go.Proofs.Ytdloifaaoiollac.X
