-- Written by a program of this session (xprint.py), out of the translation and of hand-written contracts. Lean checks it.
import Derived.Test.YtapnlpekiplmjabX0
import Derived.Test.YtapnlpekiplmjabXcin
import Derived.Test.YtapnlpekiplmjabXcstep
import Derived.Test.YtapnlpekiplmjabXcturns
namespace Go.Proofs.Ytapnlpekiplmjab.X
open Go.RowKit Go.Proofs.YtapnlpekiplmjabW.PrintWords Go.Proofs.YtapnlpekiplmjabW.PrintLast Go.Proofs.YtapnlpekiplmjabW.PrintMore
attribute [local go_sem] max2_int min2_int max_two min_two max_three min_three max_four min_four   -- for this text's walks alone
set_option linter.unusedVariables false
set_option linter.unusedSimpArgs false

/-! ### spec_FollowTurns: function 62 -/
mutual
def spec_FollowTurns.j0 : Nat → List Int → List Int → Bool → Int → Int → Int → Int → Int → Option (List Int)
 | 0, _, _, _, _, _, _, _, _ => none
 | k + 1, x2, x7, x19, x502000, x502001, x502002, x503000, x503001 => if x19 = true then (some x7) else (if x7.length < 17592186044416 then (spec_FollowTurns.l0 k x2 (x7 ++ [x503000]) 0 x502000 x502001 x502002 x503000 x503001) else (none))
def spec_FollowTurns.l0 : Nat → List Int → List Int → Int → Int → Int → Int → Int → Int → Option (List Int)
 | 0, _, _, _, _, _, _, _, _ => none
 | k + 1, x2, x7, x8, x502000, x502001, x502002, x503000, x503001 => if x8 < (x2.length : Int) then (if 0 ≤ x8 then ((spec_Step.f k x502000 x502001 x502002 x503000 (Int.tmod (wrap64 (x503001 + (rd x2 x8))) 4)).bind fun t512 => (if t512 ≥ 0 then (if x7.length < 17592186044416 then (spec_FollowTurns.l0 k x2 (x7 ++ [t512]) (wrap64 (x8 + 1)) x502000 x502001 x502002 t512 (Int.tmod (wrap64 (x503001 + (rd x2 x8))) 4)) else (none)) else (if x7.length < 17592186044416 then (spec_FollowTurns.l0 k x2 (x7 ++ [x503000]) (wrap64 (x8 + 1)) x502000 x502001 x502002 x503000 (Int.tmod (wrap64 (x503001 + (rd x2 x8))) 4)) else (none)))) else (none)) else (some x7)
end
def spec_FollowTurns.f (k : Nat) (a0_0 : Int) (a0_1 : Int) (a0_2 : Int) (a1_0 : Int) (a1_1 : Int) (l2 : List Int) : Option (List Int) := (some (([] : List Int) : List Int)).bind fun y503 => ((spec_WalkerOk.f a0_0 a0_1 a0_2 a1_0 a1_1).bind fun t506 => (if t506 = true then ((spec_l26Turns.f k l2).bind fun t507 => (spec_FollowTurns.j0 k l2 y503 (!t507) a0_0 a0_1 a0_2 a1_0 a1_1)) else (spec_FollowTurns.j0 k l2 y503 true a0_0 a0_1 a0_2 a1_0 a1_1)))
theorem spec_FollowTurns.mono_l : ∀ k, (∀ y0 y1 y2 y3 y4 y5 y6 y7, LeO (spec_FollowTurns.j0 k y0 y1 y2 y3 y4 y5 y6 y7) (spec_FollowTurns.j0 (k + 1) y0 y1 y2 y3 y4 y5 y6 y7)) ∧ (∀ y0 y1 y2 y3 y4 y5 y6 y7, LeO (spec_FollowTurns.l0 k y0 y1 y2 y3 y4 y5 y6 y7) (spec_FollowTurns.l0 (k + 1) y0 y1 y2 y3 y4 y5 y6 y7))
 | 0 => ⟨fun _ _ _ _ _ _ _ _ r h => by simp [spec_FollowTurns.j0] at h, fun _ _ _ _ _ _ _ _ r h => by simp [spec_FollowTurns.l0] at h⟩
 | k + 1 => by
  obtain ⟨ih0, ih1⟩ := spec_FollowTurns.mono_l k
  refine ⟨?_, ?_⟩
  ·intro y0 y1 y2 y3 y4 y5 y6 y7
   unfold spec_FollowTurns.j0
   repeat' first
   | (with_reducible exact ih0 _ _ _ _ _ _ _ _)
   | (with_reducible exact ih1 _ _ _ _ _ _ _ _)
   | (with_reducible exact spec_Step.mono _ _ _ _ _ _)
   | (with_reducible exact spec_l26Turns.mono _ _)
   | (with_reducible exact LeO.refl _)
   | (with_reducible exact LeO.none _)
   | (with_reducible refine LeO.ite ?_ ?_)
   | (with_reducible refine LeO.bind ?_ (fun _ => ?_))
   | exact ih0 _ _ _ _ _ _ _ _
   | exact ih1 _ _ _ _ _ _ _ _
   | exact spec_Step.mono _ _ _ _ _ _
   | exact spec_l26Turns.mono _ _
   | exact LeO.none _
   | refine LeO.ite ?_ ?_
   | refine LeO.bind ?_ (fun _ => ?_)
  ·intro y0 y1 y2 y3 y4 y5 y6 y7
   unfold spec_FollowTurns.l0
   repeat' first
   | (with_reducible exact ih0 _ _ _ _ _ _ _ _)
   | (with_reducible exact ih1 _ _ _ _ _ _ _ _)
   | (with_reducible exact spec_Step.mono _ _ _ _ _ _)
   | (with_reducible exact spec_l26Turns.mono _ _)
   | (with_reducible exact LeO.refl _)
   | (with_reducible exact LeO.none _)
   | (with_reducible refine LeO.ite ?_ ?_)
   | (with_reducible refine LeO.bind ?_ (fun _ => ?_))
   | exact ih0 _ _ _ _ _ _ _ _
   | exact ih1 _ _ _ _ _ _ _ _
   | exact spec_Step.mono _ _ _ _ _ _
   | exact spec_l26Turns.mono _ _
   | exact LeO.none _
   | refine LeO.ite ?_ ?_
   | refine LeO.bind ?_ (fun _ => ?_)
theorem spec_FollowTurns.mono : ∀ a0 a1 a2 a3 a4 a5 k, LeO (spec_FollowTurns.f k a0 a1 a2 a3 a4 a5) (spec_FollowTurns.f (k + 1) a0 a1 a2 a3 a4 a5) := by
 intro a0 a1 a2 a3 a4 a5 k
 obtain ⟨ih0, ih1⟩ := spec_FollowTurns.mono_l k
 unfold spec_FollowTurns.f
 repeat' first
   | (with_reducible exact ih0 _ _ _ _ _ _ _ _)
   | (with_reducible exact ih1 _ _ _ _ _ _ _ _)
   | (with_reducible exact spec_Step.mono _ _ _ _ _ _)
   | (with_reducible exact spec_l26Turns.mono _ _)
   | (with_reducible exact LeO.refl _)
   | (with_reducible exact LeO.none _)
   | (with_reducible refine LeO.ite ?_ ?_)
   | (with_reducible refine LeO.bind ?_ (fun _ => ?_))
   | exact ih0 _ _ _ _ _ _ _ _
   | exact ih1 _ _ _ _ _ _ _ _
   | exact spec_Step.mono _ _ _ _ _ _
   | exact spec_l26Turns.mono _ _
   | exact LeO.none _
   | refine LeO.ite ?_ ?_
   | refine LeO.bind ?_ (fun _ => ?_)
def spec_FollowTurns.T8 : Bool × List (List Nat × List Nat) := (true, [([], []), ([0], [0]), ([], []), ([], []), ([2, 3], [2, 3]), ([4], [4]), ([1, 5], [1, 5]), ([6], [6]), ([0, 1, 2, 3, 4, 5, 6, 7], []), ([8, 7, 0, 1, 2, 3, 4, 5, 6, 7], [7, 8])])
def spec_FollowTurns.B8 : List Nat := [0, 1, 0, 0, 12, 28, 63, 127, 255, 511]
theorem spec_FollowTurns.tab8 : rtab .any (opsOf Try.f62 8) = spec_FollowTurns.T8 := by kernel_rfl
theorem spec_FollowTurns.bits8 : waitsOk spec_FollowTurns.T8.2 spec_FollowTurns.B8 = true := by kernel_rfl
set_option maxHeartbeats 8000000 in
set_option maxRecDepth 100000 in
theorem spec_FollowTurns.calls (k : Nat) (a0_0 : Int) (a0_1 : Int) (a0_2 : Int) (a1_0 : Int) (a1_1 : Int) (A2 : Option Addr) (c2 : Nat) (l2 : List Int) (r : List Int) (w : World) (hr2 : Kd.C (Kd.int .i64) w A2 l2.length l2) (hc2 : l2.length ≤ c2) (h : spec_FollowTurns.f k a0_0 a0_1 a0_2 a1_0 a1_1 l2 = some r) :
  Calls Try.prog 62 #[.agg #[.int .i64 a0_0, .int .i64 a0_1, .int .i64 a0_2], .agg #[.int .i64 a1_0, .int .i64 a1_1], .slice A2 l2.length c2] w fun e w' => ∃ v0_ : Value, e = .returned (v0_) ∧ Kd.R (Kd.int .i64) 3 w' w.heap.size (fun _ => True) v0_ r ∧ Below w.heap.size w w' := by
 have hu29 := Try.underlying29
 have hu40 := Try.underlying40
 have HR2 := Aside0.mk hr2
 have HC2 := Aside0.mk hc2
 clear hr2 hc2
 have HB := Aside0.mk (Below.refl w.heap.size w)
 have H : ((some (([] : List Int) : List Int)).bind fun y503 => ((spec_WalkerOk.f a0_0 a0_1 a0_2 a1_0 a1_1).bind fun t506 => (if t506 = true then ((spec_l26Turns.f k l2).bind fun t507 => (spec_FollowTurns.j0 k l2 y503 (!t507) a0_0 a0_1 a0_2 a1_0 a1_1)) else (spec_FollowTurns.j0 k l2 y503 true a0_0 a0_1 a0_2 a1_0 a1_1)))) = some r := h
 clear h
 obtain ⟨y503, hy503⟩ : ∃ y_ : List Int, y_ = (([] : List Int)) := ⟨_, rfl⟩
 replace H : ((spec_WalkerOk.f a0_0 a0_1 a0_2 a1_0 a1_1).bind fun t506 => (if t506 = true then ((spec_l26Turns.f k l2).bind fun t507 => (spec_FollowTurns.j0 k l2 y503 (!t507) a0_0 a0_1 a0_2 a1_0 a1_1)) else (spec_FollowTurns.j0 k l2 y503 true a0_0 a0_1 a0_2 a1_0 a1_1))) = some r := by first | (rw [hy503]; with_reducible exact H) | (have H2_ := (Option.bind_some _ _).symm.trans H; rw [hy503]; with_reducible exact H2_) | (have H2_ := (Option.bind_some _ _).symm.trans H; with_reducible exact H2_) | with_reducible exact H | (rw [hy503]; exact H) | exact H
 have Ny503 := Aside0.mk hy503
 clear hy503
 have HC4 := Aside0.mk H
 clear H
 go_enter Try.func62, Try.ntmps62
 go_upto_region 2 with (first | ((with_reducible refine gate_dst (N := 3) rfl ?_); refine box_event ?hg (N := 3) ?hd (cs := #[.int .i64 a0_0, .int .i64 a0_1, .int .i64 a0_2]) (t := 29) ?hr ?_; (case hd => rfl); (case hg => rfl); (case hr => first | (go_simp; done) | (go_simp; rfl)); intro gb501 hg w5 hbox hb; have n0_ := Aside0.mk (below_step (hb0_ HB.out) hb); have n1_ := Aside0.mk (hbox); have n2_ := Aside0.mk ((gs_ hg (hb0_ HB.out))); have n3_ := Aside0.mk ((gs_ hg (hb0_ HB.out))); clear HB; have HB := n0_; have BK501 := n1_; have GW501 := n2_; have GE501 := n3_; clear n0_ n1_ n2_ n3_; clear hb hbox hg) | ((with_reducible refine gate_dst (N := 4) rfl ?_); refine box_event ?hg (N := 4) ?hd (cs := #[.int .i64 a1_0, .int .i64 a1_1]) (t := 40) ?hr ?_; (case hd => rfl); (case hg => rfl); (case hr => first | (go_simp; done) | (go_simp; rfl)); intro gb502 hg w6 hbox hb; have n0_ := Aside0.mk (bb_ BK501.out hb); have n1_ := Aside0.mk (below_step (hb1_ HB.out GE501.out) hb); have n2_ := Aside0.mk (hbox); have n3_ := Aside0.mk ((gs_ hg (hb1_ HB.out GE501.out))); have n4_ := Aside0.mk ((gs_ hg (hb1_ HB.out GE501.out))); have n5_ := Aside0.mk (nl_ hg BK501.out); have n6_ := Aside0.mk (nr_ hg BK501.out); clear BK501; clear HB; have BK501 := n0_; have HB := n1_; have BK502 := n2_; have GW502 := n3_; have GE502 := n4_; have NB501_502 := n5_; have NB502_501 := n6_; clear n0_ n1_ n2_ n3_ n4_ n5_ n6_; clear hb hbox hg) | ((with_reducible refine gate_dst (N := 10) rfl ?_); refine Kd.R_lit (Kd.int .i64) _ 3 ?hg (N := 10) ?hd (xs := ([] : List Int)) (inner := []) (ok := fun _ => True) (okp := fun _ => True) ?hr ?hp (fun _ hk => hk) trivial (Below.refl _ _) (Nat.le_refl _) (by simp) ?_; (case hd => rfl); (case hg => rfl); (case hr => first | (go_simp; done) | (go_simp; rfl)); (case hp => exact (Reps.none _ _)); intro v504 w7 ho8 hb hg_ hnew_; clear hg_ hnew_; (first | rw [← Ny503.out] at ho8 | (simp only [Int.reduceToNat] at ho8; rw [← Ny503.out] at ho8)); have HO505 := Aside0.mk (Kd.R_lower ho8 (below_size (hb2_ HB.out GE501.out GE502.out))); replace BK501 := Aside0.mk (bb_ BK501.out hb); replace BK502 := Aside0.mk (bb_ BK502.out hb); replace HB := Aside0.mk (below_step (hb2_ HB.out GE501.out GE502.out) hb); clear hb ho8))
 (try simp only [Act.put, List.setIfInBounds_toArray, List.set_cons_zero, List.set_cons_succ])
 go_cut [19] (fun v19 wc => ∃ (kq : Nat) (x19_3 : Bool), v19 = .bool x19_3 ∧ Aside0 (spec_FollowTurns.j0 kq l2 y503 x19_3 a0_0 a0_1 a0_2 a1_0 a1_1 = some r) ∧ Aside0 (kq ≤ k) ∧ Aside0 (Kd.R (Kd.int .i64) 3 wc w.heap.size (fun _ => True) v504 y503) ∧ Aside0 (wc.heap[gb501]? = some (.cells #[.int .i64 a0_0, .int .i64 a0_1, .int .i64 a0_2] 29 (0, 0))) ∧ Aside0 (wc.heap[gb502]? = some (.cells #[.int .i64 a1_0, .int .i64 a1_1] 40 (0, 0))) ∧ Aside0 (Below w.heap.size w wc))
 case first =>
  have H := HC4.out
  clear HC4
  replace H := Option.bind_eq_some_iff.mp H
  obtain ⟨t506, A90, H⟩ := H
  replace H : (if t506 = true then ((spec_l26Turns.f k l2).bind fun t507 => (spec_FollowTurns.j0 k l2 y503 (!t507) a0_0 a0_1 a0_2 a1_0 a1_1)) else (spec_FollowTurns.j0 k l2 y503 true a0_0 a0_1 a0_2 a1_0 a1_1)) = some r := H
  have A9 := Aside0.mk A90
  clear A90
  by_cases c10 : t506 = true
  ·subst c10
   have H1 : ((spec_l26Turns.f k l2).bind fun t507 => (spec_FollowTurns.j0 k l2 y503 (!t507) a0_0 a0_1 a0_2 a1_0 a1_1)) = some r := by rw [if_pos rfl] at H; exact H
   clear H
   have H := H1
   clear H1
   replace H := Option.bind_eq_some_iff.mp H
   obtain ⟨t507, A110, H⟩ := H
   replace H : (spec_FollowTurns.j0 k l2 y503 (!t507) a0_0 a0_1 a0_2 a1_0 a1_1) = some r := H
   have A11 := Aside0.mk A110
   clear A110
   have H' := Aside0.mk H
   clear H
   have hnb12 := NB501_502.out
   have hnc12 := NB502_501.out
   obtain ⟨hcz13_0, hcz13_1, hcz13_2⟩ := cz3_ BK501.out
   obtain ⟨hfz13_0, hfz13_1, hfz13_2⟩ := fz3_ BK501.out
   obtain ⟨hcz14_0, hcz14_1⟩ := cz2_ BK502.out
   obtain ⟨hfz14_0, hfz14_1⟩ := fz2_ BK502.out
   go_wp2_with (first | ((with_reducible refine gate_callee (f := 104) rfl ?_); refine goesL_ (some 13) rfl rfl Try.func104 (by kernel_rfl) rfl #[.agg #[.int .i64 a0_0, .int .i64 a0_1, .int .i64 a0_2], .agg #[.int .i64 a1_0, .int .i64 a1_1]] rfl (ml_) ?_; (with_reducible refine (spec_WalkerOk.calls a0_0 a0_1 a0_2 a1_0 a1_1 true _ A9.out).mono ?_); rintro e w15 ⟨rfl, hb⟩; refine ⟨_, rfl, ?_⟩; replace HO505 := Aside0.mk (Kd.R_below (kr_ HO505.out) hb); replace BK501 := Aside0.mk (bb_ BK501.out hb); replace BK502 := Aside0.mk (bb_ BK502.out hb); replace HB := Aside0.mk (below_step (hb2_ HB.out GE501.out GE502.out) hb); (try clear hb); (try clear hb2); (try clear hk); (try clear hi)) | (go_at_call 80; (with_reducible refine (spec_l26Turns.calls k _ _ l2 t507 _ ?side1 ?side2 A11.out).mono ?_); (case side1 => repeat (first | exact (Kd.C_below HR2.out HB.out) | (with_reducible refine Kd.C_alloc ?_ _) | (with_reducible refine Kd.C_drewN ?_ _) | (with_reducible refine Kd.C_drew ?_))); (case side2 => exact HC2.out); rintro e w' ⟨rfl, ⟨nd, rfl⟩⟩))
   go_meet
   case rel => exact ⟨_, (!t507), (by first | rfl | (simp; done) | (simp [*]; done)), H', ⟨by first | omega | exact Nat.le_refl _⟩, ⟨kr_ HO505.out⟩, ⟨bk_ BK501.out⟩, ⟨bk_ BK502.out⟩, ⟨hb2_ HB.out GE501.out GE502.out⟩⟩
  ·replace c10 := Bool.eq_false_iff.mpr c10
   subst c10
   have H1 : (spec_FollowTurns.j0 k l2 y503 true a0_0 a0_1 a0_2 a1_0 a1_1) = some r := by rw [if_neg (show ¬ (false = true) by decide)] at H; exact H
   clear H
   have H := H1
   clear H1
   have H' := Aside0.mk H
   clear H
   have hnb16 := NB501_502.out
   have hnc16 := NB502_501.out
   obtain ⟨hcz17_0, hcz17_1, hcz17_2⟩ := cz3_ BK501.out
   obtain ⟨hfz17_0, hfz17_1, hfz17_2⟩ := fz3_ BK501.out
   obtain ⟨hcz18_0, hcz18_1⟩ := cz2_ BK502.out
   obtain ⟨hfz18_0, hfz18_1⟩ := fz2_ BK502.out
   go_wp2_with (first | ((with_reducible refine gate_callee (f := 104) rfl ?_); refine goesL_ (some 13) rfl rfl Try.func104 (by kernel_rfl) rfl #[.agg #[.int .i64 a0_0, .int .i64 a0_1, .int .i64 a0_2], .agg #[.int .i64 a1_0, .int .i64 a1_1]] rfl (ml_) ?_; (with_reducible refine (spec_WalkerOk.calls a0_0 a0_1 a0_2 a1_0 a1_1 false _ A9.out).mono ?_); rintro e w19 ⟨rfl, hb⟩; refine ⟨_, rfl, ?_⟩; replace HO505 := Aside0.mk (Kd.R_below (kr_ HO505.out) hb); replace BK501 := Aside0.mk (bb_ BK501.out hb); replace BK502 := Aside0.mk (bb_ BK502.out hb); replace HB := Aside0.mk (below_step (hb2_ HB.out GE501.out GE502.out) hb); (try clear hb); (try clear hb2); (try clear hk); (try clear hi)))
   go_meet
   case rel => exact ⟨_, (true), (by first | rfl | (simp; done) | (simp [*]; done)), H', ⟨by first | omega | exact Nat.le_refl _⟩, ⟨kr_ HO505.out⟩, ⟨bk_ BK501.out⟩, ⟨bk_ BK502.out⟩, ⟨hb2_ HB.out GE501.out GE502.out⟩⟩
 case rest =>
  clear HC4
  try clear c1
  try clear c2
  try clear p2
  try clear c6
  try clear c10
  try clear c12
  try clear c16
  try clear hcz13_0
  try clear hcz13_1
  try clear hcz13_2
  try clear hcz14_0
  try clear hcz14_1
  try clear hcz17_0
  try clear hcz17_1
  try clear hcz17_2
  try clear hcz18_0
  try clear hcz18_1
  try clear hfz13_0
  try clear hfz13_1
  try clear hfz13_2
  try clear hfz14_0
  try clear hfz14_1
  try clear hfz17_0
  try clear hfz17_1
  try clear hfz17_2
  try clear hfz18_0
  try clear hfz18_1
  obtain ⟨kq, x19_3, rfl, HA, HJ3, HO_7, BK501, BK502, HB⟩ := hcut
  cases kq with
  | zero => exact absurd HA.out (by simp [spec_FollowTurns.j0])
  | succ kj3 =>
   have H := HA.out
   clear HA
   simp only [spec_FollowTurns.j0] at H
   by_cases c20 : x19_3 = true
   ·subst c20
    have H1 : (some y503) = some r := by rw [if_pos rfl] at H; exact H
    clear H
    have H := H1
    clear H1
    obtain rfl := Option.some.inj H
    go_wp2
    go_ret
    exact ⟨_, by first | rfl | (simp [errW_none, errW_some] <;> rfl) | (simp [*, errW_none, errW_some] <;> rfl), kr_ HO_7.out, hb2_ HB.out GE501.out GE502.out⟩
   ·replace c20 := Bool.eq_false_iff.mpr c20
    subst c20
    have H1 : (if y503.length < 17592186044416 then (spec_FollowTurns.l0 kj3 l2 (y503 ++ [a1_0]) 0 a0_0 a0_1 a0_2 a1_0 a1_1) else (none)) = some r := by rw [if_neg (show ¬ (false = true) by decide)] at H; exact H
    clear H
    have H := H1
    clear H1
    by_cases c21 : y503.length < 17592186044416
    ·rw [if_pos c21] at H
     have LMc21 := Aside0.mk c21
     clear c21
     obtain ⟨y508, hy508⟩ : ∃ y_ : List Int, y_ = (y503 ++ [a1_0]) := ⟨_, rfl⟩
     replace H : (spec_FollowTurns.l0 kj3 l2 y508 0 a0_0 a0_1 a0_2 a1_0 a1_1) = some r := by first | (rw [hy508]; with_reducible exact H) | (have H2_ := (Option.bind_some _ _).symm.trans H; rw [hy508]; with_reducible exact H2_) | (have H2_ := (Option.bind_some _ _).symm.trans H; with_reducible exact H2_) | with_reducible exact H | (rw [hy508]; exact H) | exact H
     have Ny508 := Aside0.mk hy508
     clear hy508
     have H' := Aside0.mk H
     clear H
     have hnb22 := NB502_501.out
     have hnc22 := NB501_502.out
     obtain ⟨hcz23_0, hcz23_1⟩ := cz2_ BK502.out
     obtain ⟨hfz23_0, hfz23_1⟩ := fz2_ BK502.out
     go_wp2_with (first | ((with_reducible refine gate_builtin (b := .append) (xs := #[.tmp 21, .tmp 24]) rfl ?_); at_builtin; refine Kd.R_append (Kd.int .i64) (w0 := w) w.heap.size rfl (.tmp 21) (.tmp 24) 32 3 (.int .i64 0) 8 rfl Try.underlying32 info3 rfl (by decide) (by omega) v504 y503 a1_0 [.int .i64 a1_0] (fun _ => True) (fun _ => False) rfl rfl ?aP (fun _ hk => hk.elim) ?aF ?aO ?aB ?aS ?aL ?_; (case aP => exact rfl); (case aB => exact (hb2_ HB.out GE501.out GE502.out)); (case aF => exact (fun _ _ => trivial)); (case aO => exact (kr_ HO_7.out)); (case aS => exact (below_size (hb2_ HB.out GE501.out GE502.out))); (case aL => have := LMc21.out; omega); intro v509 w24 ho hb hg hat; rw [← Ny508.out] at ho; replace BK501 := Aside0.mk (blk_grown (g := gb501) (o := .cells #[.int .i64 a0_0, .int .i64 a0_1, .int .i64 a0_2] 29 (0, 0)) (bk_ BK501.out) hg (Kd.R_ne HO_7.out BK501.out (by decide))); replace BK502 := Aside0.mk (blk_grown (g := gb502) (o := .cells #[.int .i64 a1_0, .int .i64 a1_1] 40 (0, 0)) (bk_ BK502.out) hg (Kd.R_ne HO_7.out BK502.out (by decide))); replace HB := Aside0.mk (hb); have HO510 := Aside0.mk (ho); clear HO_7; clear ho hb hg hat))
     go_loopg [7, 8] kj3 (fun kq v7 v8 w' => ∃ (x7_2 : List Int) (x8_2 : Int) (x503000_2 : Int) (x503001_2 : Int), v8 = .int .i64 x8_2 ∧ Aside0 (spec_FollowTurns.l0 kq l2 x7_2 x8_2 a0_0 a0_1 a0_2 x503000_2 x503001_2 = some r) ∧ Aside0 (kq ≤ kj3) ∧ Aside0 (Kd.R (Kd.int .i64) 3 w' w.heap.size (fun _ => True) v7 x7_2) ∧ Aside0 (w'.heap[gb501]? = some (.cells #[.int .i64 a0_0, .int .i64 a0_1, .int .i64 a0_2] 29 (0, 0))) ∧ Aside0 (w'.heap[gb502]? = some (.cells #[.int .i64 x503000_2, .int .i64 x503001_2] 40 (0, 0))) ∧ Aside0 (Below w.heap.size w w'))
     case atStart => exact ⟨(y508), (0), (a1_0), (a1_1), (by first | rfl | (simp; done) | (simp [*]; done)), H', ⟨Nat.le_refl _⟩, ⟨kr_ HO510.out⟩, ⟨bk_ BK501.out⟩, ⟨bk_ BK502.out⟩, ⟨hb2_ HB.out GE501.out GE502.out⟩⟩
     case round =>
      clear H'
      try clear c1
      try clear c2
      try clear p2
      try clear c6
      try clear c10
      try clear c12
      try clear c16
      try clear c20
      try clear c21
      try clear c22
      try clear hcz13_0
      try clear hcz13_1
      try clear hcz13_2
      try clear hcz14_0
      try clear hcz14_1
      try clear hcz17_0
      try clear hcz17_1
      try clear hcz17_2
      try clear hcz18_0
      try clear hcz18_1
      try clear hcz23_0
      try clear hcz23_1
      try clear hfz13_0
      try clear hfz13_1
      try clear hfz13_2
      try clear hfz14_0
      try clear hfz14_1
      try clear hfz17_0
      try clear hfz17_1
      try clear hfz17_2
      try clear hfz18_0
      try clear hfz18_1
      try clear hfz23_0
      try clear hfz23_1
      try clear p2
      obtain ⟨x7_2, x8_2, x503000_2, x503001_2, rfl, HA, HK2, HO_7, BK501, BK502, HB⟩ := hrel
      cases gk with
      | zero => exact absurd HA.out (by simp [spec_FollowTurns.l0])
      | succ k2 =>
       have H := HA.out
       clear HA
       simp only [spec_FollowTurns.l0] at H
       by_cases c25 : x8_2 < (l2.length : Int)
       ·rw [if_pos c25] at H
        have c25b0 : decide (x8_2 < (l2.length : Int)) = true := decide_eq_true c25
        clear c25
        by_cases c26 : 0 ≤ x8_2
        ·rw [if_pos c26] at H
         have c26b0 : decide (0 ≤ x8_2) = true := decide_eq_true c26
         clear c26
         replace H := Option.bind_eq_some_iff.mp H
         obtain ⟨t512, A270, H⟩ := H
         replace H : (if t512 ≥ 0 then (if x7_2.length < 17592186044416 then (spec_FollowTurns.l0 k2 l2 (x7_2 ++ [t512]) (wrap64 (x8_2 + 1)) a0_0 a0_1 a0_2 t512 (Int.tmod (wrap64 (x503001_2 + (rd l2 x8_2))) 4)) else (none)) else (if x7_2.length < 17592186044416 then (spec_FollowTurns.l0 k2 l2 (x7_2 ++ [x503000_2]) (wrap64 (x8_2 + 1)) a0_0 a0_1 a0_2 x503000_2 (Int.tmod (wrap64 (x503001_2 + (rd l2 x8_2))) 4)) else (none))) = some r := H
         have A27 := Aside0.mk A270
         clear A270
         by_cases c28 : t512 ≥ 0
         ·rw [if_pos c28] at H
          have c28b0 : decide (0 ≤ t512) = true := decide_eq_true c28
          clear c28
          by_cases c29 : x7_2.length < 17592186044416
          ·rw [if_pos c29] at H
           have LMc29 := Aside0.mk c29
           clear c29
           obtain ⟨y513, hy513⟩ : ∃ y_ : List Int, y_ = (x7_2 ++ [t512]) := ⟨_, rfl⟩
           replace H : (spec_FollowTurns.l0 k2 l2 y513 (wrap64 (x8_2 + 1)) a0_0 a0_1 a0_2 t512 (Int.tmod (wrap64 (x503001_2 + (rd l2 x8_2))) 4)) = some r := by first | (rw [hy513]; with_reducible exact H) | (have H2_ := (Option.bind_some _ _).symm.trans H; rw [hy513]; with_reducible exact H2_) | (have H2_ := (Option.bind_some _ _).symm.trans H; with_reducible exact H2_) | with_reducible exact H | (rw [hy513]; exact H) | exact H
           have Ny513 := Aside0.mk hy513
           clear hy513
           have H' := Aside0.mk H
           clear H
           try go_wp2
           replace HO_7 := Aside0.mk (Kd.R_drew HO_7.out)
           replace BK501 := Aside0.mk (blk_drew BK501.out)
           replace BK502 := Aside0.mk (blk_drew BK502.out)
           replace HB := Aside0.mk (below_drew1 HB.out)
           have p511 : 0 ≤ (x8_2 : Int) := of_decide_eq_true (as_)
           have q511 : x8_2 < (l2.length : Int) := of_decide_eq_true (as_)
           obtain ⟨ad511, e511, hx511_0⟩ := Kd.at_int HR2.out x8_2 p511 q511
           have hw511_0 := hx511_0
           cases e511
           replace hx511_0 := (HB.out.cell (World.block_lt_of_cell? w _ hx511_0)).trans hx511_0
           replace p511 := eq_true p511
           replace q511 := eq_true q511
           refine start_ (n := 10) (S := fun w' => w'.cell? ⟨gb502, 0, none⟩ = some (.int .i64 x503000_2) ∧ w'.cell? ⟨gb502, 1, none⟩ = some (.int .i64 x503001_2) ∧ w'.cell? (ad511.add (x8_2).toNat) = some (.int .i64 (rd l2 x8_2))) (ds := [9]) #[false, false, false, false, false, false, false, false, false, false] (by kernel_rfl) rfl rfl ⟨(blk_cell BK502.out 0).trans rfl, (blk_cell BK502.out 1).trans rfl, ((HB.out.cell (World.block_lt_of_cell? w _ hw511_0)).trans hw511_0)⟩ (fun hHeld => ?_); refine with_tabW spec_FollowTurns.tab8 spec_FollowTurns.bits8 (fun HT_ HW_ => ?_)
           generalize wr.drew = w30 at HO_7 BK501 BK502 HB hx511_0 hHeld ⊢
           refine pv_ (i := 0) (N := some 32) HT_.out ?_
           refine pv_ (i := 2) (N := some 34) HT_.out ?_
           refine pv_ (i := 3) (N := some 35) HT_.out ?_
           refine pv_ (i := 4) (N := some 36) HT_.out ?_
           refine tv3_ (i := 1) (N := some 33) HT_.out HW_.out hHeld ?_
           refine tv3_ (i := 5) (N := some 37) HT_.out HW_.out hHeld ?_
           refine pv_ (i := 6) (N := some 38) HT_.out ?_
           refine pv_ (i := 7) (N := some 39) HT_.out ?_
           refine pv_ (i := 8) (N := some 40) HT_.out ?_
           refine last_ (i := 9) (N := none) #[true, true, true, true, true, true, true, true, true, true] rfl rfl (one_of HT_.out (by kernel_rfl)) (by decide) (fun K hK => ?_)
           have hs31 : w30.cell? ⟨gb502, 1, none⟩ = some (.int .i64 x503001_2) := (blk_cell BK502.out 1).trans rfl
           have hfs31 := blk_frozen BK502.out 1
           have hns31_0 := NB501_502.out
           have hms31_0 := NB502_501.out
           refine skip_ (w1 := ?_) (by rfl) rfl ?_ ?_
           rotate_left
           ·go_simp
            rfl
           refine hK.out _ _ ?_
           clear hK K
           refine done_ (done_of HT_.out (by kernel_rfl)) ?_
           have hnb32 := NB501_502.out
           have hnc32 := NB502_501.out
           obtain ⟨hcz33_0, hcz33_1, hcz33_2⟩ := cz3_ BK501.out
           obtain ⟨hfz33_0, hfz33_1, hfz33_2⟩ := fz3_ BK501.out
           obtain ⟨hcz34_0, hcz34_1⟩ := cz2_ BK502.out
           obtain ⟨hfz34_0, hfz34_1⟩ := fz2_ BK502.out
           try go_wp2_with (first | ((with_reducible refine gate_callee (f := 77) rfl ?_); refine goesL_ (some 46) rfl rfl Try.func77 (by kernel_rfl) rfl #[.agg #[.int .i64 a0_0, .int .i64 a0_1, .int .i64 a0_2], .int .i64 x503000_2, .int .i64 (Int.tmod (wrap64 (x503001_2 + (rd l2 x8_2))) 4)] rfl (ml_) ?_; (with_reducible refine (spec_Step.calls k2 a0_0 a0_1 a0_2 x503000_2 (Int.tmod (wrap64 (x503001_2 + (rd l2 x8_2))) 4) t512 _ A27.out).mono ?_); rintro e w35 ⟨rfl, hb⟩; refine ⟨_, rfl, ?_⟩; replace HO_7 := Aside0.mk (Kd.R_below (by (with_reducible repeat (first | apply Kd.R_alloc | apply Kd.R_drewN | apply Kd.R_drew)); exact (Kd.R_mono (Kd.R_far (p := ⟨gb502, 1, none⟩) (Kd.R_types HO_7.out BK502.out (by decide)) (fun _ hk => hk.2) (.int .i64 (Int.tmod (wrap64 (x503001_2 + (rd l2 x8_2))) 4))) (fun _ h_ => h_.1))) hb); replace BK501 := Aside0.mk (blk_below (g := gb501) (o := .cells #[.int .i64 a0_0, .int .i64 a0_1, .int .i64 a0_2] 29 (0, 0)) (by (with_reducible repeat (first | refine blk_drewN ?_ _ | refine blk_drew ?_ | refine blk_alloc ?_ _)); refine blk_far ?_ NB501_502.out _; (with_reducible repeat (first | refine blk_drewN ?_ _ | refine blk_drew ?_ | refine blk_alloc ?_ _)); exact BK501.out) hb); replace BK502 := Aside0.mk (blk_below (g := gb502) (o := .cells #[.int .i64 x503000_2, .int .i64 (Int.tmod (wrap64 (x503001_2 + (rd l2 x8_2))) 4)] 40 (0, 0)) (by (with_reducible repeat (first | refine blk_drewN ?_ _ | refine blk_drew ?_ | refine blk_alloc ?_ _)); refine blk_put (cs := #[.int .i64 x503000_2, .int .i64 x503001_2]) ?_ 1 _ rfl; (with_reducible repeat (first | refine blk_drewN ?_ _ | refine blk_drew ?_ | refine blk_alloc ?_ _)); exact BK502.out) hb); replace HB := Aside0.mk (below_step (hb2_ HB.out GE501.out GE502.out) hb); (try clear hb); (try clear hb2); (try clear hk); (try clear hi); obtain ⟨hcz36_0, hcz36_1⟩ := cz2_ BK502.out; obtain ⟨hfz36_0, hfz36_1⟩ := fz2_ BK502.out) | ((with_reducible refine gate_builtin (b := .append) (xs := #[.tmp 51, .tmp 54]) rfl ?_); at_builtin; refine Kd.R_append (Kd.int .i64) (w0 := w) w.heap.size rfl (.tmp 51) (.tmp 54) 32 3 (.int .i64 0) 8 rfl Try.underlying32 info3 rfl (by decide) (by omega) u7 x7_2 t512 [.int .i64 t512] (fun _ => True) (fun _ => False) rfl (by first | (go_simp; done) | (go_simp; rfl)) ?aP (fun _ hk => hk.elim) ?aF ?aO ?aB ?aS ?aL ?_; (case aP => exact rfl); (case aB => exact (hb2_ HB.out GE501.out GE502.out)); (case aF => exact (fun _ _ => trivial)); (case aO => exact (by (with_reducible repeat (first | apply Kd.R_alloc | apply Kd.R_drewN | apply Kd.R_drew)); exact Kd.R_mono (Kd.R_far (p := ⟨gb502, 0, none⟩) (Kd.R_types HO_7.out BK502.out (by decide)) (fun _ hk => hk.2) (.int .i64 t512)) (fun _ hk => trivial))); (case aS => exact (below_size (hb2_ HB.out GE501.out GE502.out))); (case aL => have := LMc29.out; omega); intro v514 w37 ho hb hg hat; rw [← Ny513.out] at ho; replace BK501 := Aside0.mk (blk_grown (g := gb501) (o := .cells #[.int .i64 a0_0, .int .i64 a0_1, .int .i64 a0_2] 29 (0, 0)) (by (with_reducible repeat (first | refine blk_drewN ?_ _ | refine blk_drew ?_ | refine blk_alloc ?_ _)); refine blk_far ?_ NB501_502.out _; (with_reducible repeat (first | refine blk_drewN ?_ _ | refine blk_drew ?_ | refine blk_alloc ?_ _)); exact BK501.out) hg (Kd.R_ne HO_7.out BK501.out (by decide))); replace BK502 := Aside0.mk (blk_grown (g := gb502) (o := .cells #[.int .i64 t512, .int .i64 (Int.tmod (wrap64 (x503001_2 + (rd l2 x8_2))) 4)] 40 (0, 0)) (by (with_reducible repeat (first | refine blk_drewN ?_ _ | refine blk_drew ?_ | refine blk_alloc ?_ _)); refine blk_put (cs := #[.int .i64 x503000_2, .int .i64 (Int.tmod (wrap64 (x503001_2 + (rd l2 x8_2))) 4)]) ?_ 0 _ rfl; (with_reducible repeat (first | refine blk_drewN ?_ _ | refine blk_drew ?_ | refine blk_alloc ?_ _)); exact BK502.out) hg (Kd.R_ne HO_7.out BK502.out (by decide))); replace HB := Aside0.mk (hb); have HO515 := Aside0.mk (ho); clear HO_7; clear ho hb hg hat))
           go_roundg k2
           case measure => have := HJ3.out; have := HK2.out; omega
           case rel => exact ⟨(y513), (wrap64 (x8_2 + 1)), (t512), (Int.tmod (wrap64 (x503001_2 + (rd l2 x8_2))) 4), (by first | rfl | (simp; done) | (simp [*]; done)), H', ⟨by have := HJ3.out; have := HK2.out; omega⟩, ⟨kr_ HO515.out⟩, ⟨bk_ BK501.out⟩, ⟨bk_ BK502.out⟩, ⟨hb2_ HB.out GE501.out GE502.out⟩⟩
          ·rw [if_neg c29] at H
           exact absurd H (by simp)
         ·rw [if_neg c28] at H
          have c28b0 : decide (0 ≤ t512) = false := decide_eq_false c28
          clear c28
          by_cases c38 : x7_2.length < 17592186044416
          ·rw [if_pos c38] at H
           have LMc38 := Aside0.mk c38
           clear c38
           obtain ⟨y516, hy516⟩ : ∃ y_ : List Int, y_ = (x7_2 ++ [x503000_2]) := ⟨_, rfl⟩
           replace H : (spec_FollowTurns.l0 k2 l2 y516 (wrap64 (x8_2 + 1)) a0_0 a0_1 a0_2 x503000_2 (Int.tmod (wrap64 (x503001_2 + (rd l2 x8_2))) 4)) = some r := by first | (rw [hy516]; with_reducible exact H) | (have H2_ := (Option.bind_some _ _).symm.trans H; rw [hy516]; with_reducible exact H2_) | (have H2_ := (Option.bind_some _ _).symm.trans H; with_reducible exact H2_) | with_reducible exact H | (rw [hy516]; exact H) | exact H
           have Ny516 := Aside0.mk hy516
           clear hy516
           have H' := Aside0.mk H
           clear H
           try go_wp2
           replace HO_7 := Aside0.mk (Kd.R_drew HO_7.out)
           replace BK501 := Aside0.mk (blk_drew BK501.out)
           replace BK502 := Aside0.mk (blk_drew BK502.out)
           replace HB := Aside0.mk (below_drew1 HB.out)
           have p511 : 0 ≤ (x8_2 : Int) := of_decide_eq_true (as_)
           have q511 : x8_2 < (l2.length : Int) := of_decide_eq_true (as_)
           obtain ⟨ad511, e511, hx511_0⟩ := Kd.at_int HR2.out x8_2 p511 q511
           have hw511_0 := hx511_0
           cases e511
           replace hx511_0 := (HB.out.cell (World.block_lt_of_cell? w _ hx511_0)).trans hx511_0
           replace p511 := eq_true p511
           replace q511 := eq_true q511
           refine start_ (n := 10) (S := fun w' => w'.cell? ⟨gb502, 0, none⟩ = some (.int .i64 x503000_2) ∧ w'.cell? ⟨gb502, 1, none⟩ = some (.int .i64 x503001_2) ∧ w'.cell? (ad511.add (x8_2).toNat) = some (.int .i64 (rd l2 x8_2))) (ds := [9]) #[false, false, false, false, false, false, false, false, false, false] (by kernel_rfl) rfl rfl ⟨(blk_cell BK502.out 0).trans rfl, (blk_cell BK502.out 1).trans rfl, ((HB.out.cell (World.block_lt_of_cell? w _ hw511_0)).trans hw511_0)⟩ (fun hHeld => ?_); refine with_tabW spec_FollowTurns.tab8 spec_FollowTurns.bits8 (fun HT_ HW_ => ?_)
           generalize wr.drew = w39 at HO_7 BK501 BK502 HB hx511_0 hHeld ⊢
           refine pv_ (i := 0) (N := some 32) HT_.out ?_
           refine pv_ (i := 2) (N := some 34) HT_.out ?_
           refine pv_ (i := 3) (N := some 35) HT_.out ?_
           refine pv_ (i := 4) (N := some 36) HT_.out ?_
           refine tv3_ (i := 1) (N := some 33) HT_.out HW_.out hHeld ?_
           refine tv3_ (i := 5) (N := some 37) HT_.out HW_.out hHeld ?_
           refine pv_ (i := 6) (N := some 38) HT_.out ?_
           refine pv_ (i := 7) (N := some 39) HT_.out ?_
           refine pv_ (i := 8) (N := some 40) HT_.out ?_
           refine last_ (i := 9) (N := none) #[true, true, true, true, true, true, true, true, true, true] rfl rfl (one_of HT_.out (by kernel_rfl)) (by decide) (fun K hK => ?_)
           have hs40 : w39.cell? ⟨gb502, 1, none⟩ = some (.int .i64 x503001_2) := (blk_cell BK502.out 1).trans rfl
           have hfs40 := blk_frozen BK502.out 1
           have hns40_0 := NB501_502.out
           have hms40_0 := NB502_501.out
           refine skip_ (w1 := ?_) (by rfl) rfl ?_ ?_
           rotate_left
           ·go_simp
            rfl
           refine hK.out _ _ ?_
           clear hK K
           refine done_ (done_of HT_.out (by kernel_rfl)) ?_
           have hnb41 := NB501_502.out
           have hnc41 := NB502_501.out
           obtain ⟨hcz42_0, hcz42_1, hcz42_2⟩ := cz3_ BK501.out
           obtain ⟨hfz42_0, hfz42_1, hfz42_2⟩ := fz3_ BK501.out
           obtain ⟨hcz43_0, hcz43_1⟩ := cz2_ BK502.out
           obtain ⟨hfz43_0, hfz43_1⟩ := fz2_ BK502.out
           try go_wp2_with (first | ((with_reducible refine gate_callee (f := 77) rfl ?_); refine goesL_ (some 46) rfl rfl Try.func77 (by kernel_rfl) rfl #[.agg #[.int .i64 a0_0, .int .i64 a0_1, .int .i64 a0_2], .int .i64 x503000_2, .int .i64 (Int.tmod (wrap64 (x503001_2 + (rd l2 x8_2))) 4)] rfl (ml_) ?_; (with_reducible refine (spec_Step.calls k2 a0_0 a0_1 a0_2 x503000_2 (Int.tmod (wrap64 (x503001_2 + (rd l2 x8_2))) 4) t512 _ A27.out).mono ?_); rintro e w44 ⟨rfl, hb⟩; refine ⟨_, rfl, ?_⟩; replace HO_7 := Aside0.mk (Kd.R_below (by (with_reducible repeat (first | apply Kd.R_alloc | apply Kd.R_drewN | apply Kd.R_drew)); exact (Kd.R_mono (Kd.R_far (p := ⟨gb502, 1, none⟩) (Kd.R_types HO_7.out BK502.out (by decide)) (fun _ hk => hk.2) (.int .i64 (Int.tmod (wrap64 (x503001_2 + (rd l2 x8_2))) 4))) (fun _ h_ => h_.1))) hb); replace BK501 := Aside0.mk (blk_below (g := gb501) (o := .cells #[.int .i64 a0_0, .int .i64 a0_1, .int .i64 a0_2] 29 (0, 0)) (by (with_reducible repeat (first | refine blk_drewN ?_ _ | refine blk_drew ?_ | refine blk_alloc ?_ _)); refine blk_far ?_ NB501_502.out _; (with_reducible repeat (first | refine blk_drewN ?_ _ | refine blk_drew ?_ | refine blk_alloc ?_ _)); exact BK501.out) hb); replace BK502 := Aside0.mk (blk_below (g := gb502) (o := .cells #[.int .i64 x503000_2, .int .i64 (Int.tmod (wrap64 (x503001_2 + (rd l2 x8_2))) 4)] 40 (0, 0)) (by (with_reducible repeat (first | refine blk_drewN ?_ _ | refine blk_drew ?_ | refine blk_alloc ?_ _)); refine blk_put (cs := #[.int .i64 x503000_2, .int .i64 x503001_2]) ?_ 1 _ rfl; (with_reducible repeat (first | refine blk_drewN ?_ _ | refine blk_drew ?_ | refine blk_alloc ?_ _)); exact BK502.out) hb); replace HB := Aside0.mk (below_step (hb2_ HB.out GE501.out GE502.out) hb); (try clear hb); (try clear hb2); (try clear hk); (try clear hi); obtain ⟨hcz45_0, hcz45_1⟩ := cz2_ BK502.out; obtain ⟨hfz45_0, hfz45_1⟩ := fz2_ BK502.out) | ((with_reducible refine gate_builtin (b := .append) (xs := #[.tmp 51, .tmp 54]) rfl ?_); at_builtin; refine Kd.R_append (Kd.int .i64) (w0 := w) w.heap.size rfl (.tmp 51) (.tmp 54) 32 3 (.int .i64 0) 8 rfl Try.underlying32 info3 rfl (by decide) (by omega) u7 x7_2 x503000_2 [.int .i64 x503000_2] (fun _ => True) (fun _ => False) rfl rfl ?aP (fun _ hk => hk.elim) ?aF ?aO ?aB ?aS ?aL ?_; (case aP => exact rfl); (case aB => exact (hb2_ HB.out GE501.out GE502.out)); (case aF => exact (fun _ _ => trivial)); (case aO => exact (kr_ HO_7.out)); (case aS => exact (below_size (hb2_ HB.out GE501.out GE502.out))); (case aL => have := LMc38.out; omega); intro v517 w46 ho hb hg hat; rw [← Ny516.out] at ho; replace BK501 := Aside0.mk (blk_grown (g := gb501) (o := .cells #[.int .i64 a0_0, .int .i64 a0_1, .int .i64 a0_2] 29 (0, 0)) (bk_ BK501.out) hg (Kd.R_ne HO_7.out BK501.out (by decide))); replace BK502 := Aside0.mk (blk_grown (g := gb502) (o := .cells #[.int .i64 x503000_2, .int .i64 (Int.tmod (wrap64 (x503001_2 + (rd l2 x8_2))) 4)] 40 (0, 0)) (bk_ BK502.out) hg (Kd.R_ne HO_7.out BK502.out (by decide))); replace HB := Aside0.mk (hb); have HO518 := Aside0.mk (ho); clear HO_7; clear ho hb hg hat))
           go_roundg k2
           case measure => have := HJ3.out; have := HK2.out; omega
           case rel => exact ⟨(y516), (wrap64 (x8_2 + 1)), (x503000_2), (Int.tmod (wrap64 (x503001_2 + (rd l2 x8_2))) 4), (by first | rfl | (simp; done) | (simp [*]; done)), H', ⟨by have := HJ3.out; have := HK2.out; omega⟩, ⟨kr_ HO518.out⟩, ⟨bk_ BK501.out⟩, ⟨bk_ BK502.out⟩, ⟨hb2_ HB.out GE501.out GE502.out⟩⟩
          ·rw [if_neg c38] at H
           exact absurd H (by simp)
        ·rw [if_neg c26] at H
         exact absurd H (by simp)
       ·rw [if_neg c25] at H
        have c25b0 : decide (x8_2 < (l2.length : Int)) = false := decide_eq_false c25
        clear c25
        obtain rfl := Option.some.inj H
        go_wp2
        go_ret
        exact ⟨_, by first | rfl | (simp [errW_none, errW_some] <;> rfl) | (simp [*, errW_none, errW_some] <;> rfl), kr_ HO_7.out, hb2_ HB.out GE501.out GE502.out⟩
    ·rw [if_neg c21] at H
     exact absurd H (by simp)

end Go.Proofs.Ytapnlpekiplmjab.X
