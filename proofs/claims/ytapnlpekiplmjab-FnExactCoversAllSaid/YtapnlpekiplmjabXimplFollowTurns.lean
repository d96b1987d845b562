-- Written by a program of this session (xprint.py), out of the translation and of hand-written contracts. Lean checks it.
import Derived.Test.YtapnlpekiplmjabX0
import Derived.Test.YtapnlpekiplmjabXcin
import Derived.Test.YtapnlpekiplmjabXcstep
import Derived.Test.YtapnlpekiplmjabXcturns
namespace Go.Proofs.Ytapnlpekiplmjab.X
open Go.RowKit Go.Proofs.YtapnlpekiplmjabW.PrintWords Go.Proofs.YtapnlpekiplmjabW.PrintLast Go.Proofs.YtapnlpekiplmjabW.PrintMore
attribute [local go_sem] max2_int min2_int max_two min_two max_three min_three max_four min_four   -- for this text's walks alone
set_option linter.unusedVariables false
set_option linter.unusedSimpArgs false

/-! ### impl_FollowTurns: function 53 -/
mutual
def impl_FollowTurns.j0 : Nat → List Int → Bool → Int → Int → Int → Int → Int → Option (List Int)
 | 0, _, _, _, _, _, _, _ => none
 | k + 1, x2, x19, x502000, x502001, x502002, x503000, x503001 => if x19 = true then (some ([] : List Int)) else (impl_FollowTurns.l0 k (([x503000] : List Int)) x2 (x2.length : Int) 0 x502000 x502001 x502002 x503000 x503001)
def impl_FollowTurns.l0 : Nat → List Int → List Int → Int → Int → Int → Int → Int → Int → Int → Option (List Int)
 | 0, _, _, _, _, _, _, _, _, _ => none
 | k + 1, x7, x23, x24, x25, x502000, x502001, x502002, x503000, x503001 => if x25 < x24 then (if 0 ≤ x25 then (if x25 < (x23.length : Int) then ((impl_Step.f k x502000 x502001 x502002 x503000 (Int.tmod (wrap64 (x503001 + (rd x23 x25))) 4)).bind fun t509 => (if t509 ≥ 0 then (if x7.length < 17592186044416 then (impl_FollowTurns.l0 k (x7 ++ [t509]) x23 x24 (wrap64 (x25 + 1)) x502000 x502001 x502002 t509 (Int.tmod (wrap64 (x503001 + (rd x23 x25))) 4)) else (none)) else (if x7.length < 17592186044416 then (impl_FollowTurns.l0 k (x7 ++ [x503000]) x23 x24 (wrap64 (x25 + 1)) x502000 x502001 x502002 x503000 (Int.tmod (wrap64 (x503001 + (rd x23 x25))) 4)) else (none)))) else (none)) else (none)) else (some x7)
end
def impl_FollowTurns.f (k : Nat) (a0_0 : Int) (a0_1 : Int) (a0_2 : Int) (a1_0 : Int) (a1_1 : Int) (l2 : List Int) : Option (List Int) := (impl_WalkerOk.f a0_0 a0_1 a0_2 a1_0 a1_1).bind fun t503 => (if t503 = true then ((impl_areTurns.f l2 400).bind fun t504 => (impl_FollowTurns.j0 k l2 (!t504) a0_0 a0_1 a0_2 a1_0 a1_1)) else (impl_FollowTurns.j0 k l2 true a0_0 a0_1 a0_2 a1_0 a1_1))
theorem impl_FollowTurns.mono_l : ∀ k, (∀ y0 y1 y2 y3 y4 y5 y6, LeO (impl_FollowTurns.j0 k y0 y1 y2 y3 y4 y5 y6) (impl_FollowTurns.j0 (k + 1) y0 y1 y2 y3 y4 y5 y6)) ∧ (∀ y0 y1 y2 y3 y4 y5 y6 y7 y8, LeO (impl_FollowTurns.l0 k y0 y1 y2 y3 y4 y5 y6 y7 y8) (impl_FollowTurns.l0 (k + 1) y0 y1 y2 y3 y4 y5 y6 y7 y8))
 | 0 => ⟨fun _ _ _ _ _ _ _ r h => by simp [impl_FollowTurns.j0] at h, fun _ _ _ _ _ _ _ _ _ r h => by simp [impl_FollowTurns.l0] at h⟩
 | k + 1 => by
  obtain ⟨ih0, ih1⟩ := impl_FollowTurns.mono_l k
  refine ⟨?_, ?_⟩
  ·intro y0 y1 y2 y3 y4 y5 y6
   unfold impl_FollowTurns.j0
   repeat' first
   | (with_reducible exact ih0 _ _ _ _ _ _ _)
   | (with_reducible exact ih1 _ _ _ _ _ _ _ _ _)
   | (with_reducible exact impl_Step.mono _ _ _ _ _ _)
   | (with_reducible exact LeO.refl _)
   | (with_reducible exact LeO.none _)
   | (with_reducible refine LeO.ite ?_ ?_)
   | (with_reducible refine LeO.bind ?_ (fun _ => ?_))
   | exact ih0 _ _ _ _ _ _ _
   | exact ih1 _ _ _ _ _ _ _ _ _
   | exact impl_Step.mono _ _ _ _ _ _
   | exact LeO.none _
   | refine LeO.ite ?_ ?_
   | refine LeO.bind ?_ (fun _ => ?_)
  ·intro y0 y1 y2 y3 y4 y5 y6 y7 y8
   unfold impl_FollowTurns.l0
   repeat' first
   | (with_reducible exact ih0 _ _ _ _ _ _ _)
   | (with_reducible exact ih1 _ _ _ _ _ _ _ _ _)
   | (with_reducible exact impl_Step.mono _ _ _ _ _ _)
   | (with_reducible exact LeO.refl _)
   | (with_reducible exact LeO.none _)
   | (with_reducible refine LeO.ite ?_ ?_)
   | (with_reducible refine LeO.bind ?_ (fun _ => ?_))
   | exact ih0 _ _ _ _ _ _ _
   | exact ih1 _ _ _ _ _ _ _ _ _
   | exact impl_Step.mono _ _ _ _ _ _
   | exact LeO.none _
   | refine LeO.ite ?_ ?_
   | refine LeO.bind ?_ (fun _ => ?_)
theorem impl_FollowTurns.mono : ∀ a0 a1 a2 a3 a4 a5 k, LeO (impl_FollowTurns.f k a0 a1 a2 a3 a4 a5) (impl_FollowTurns.f (k + 1) a0 a1 a2 a3 a4 a5) := by
 intro a0 a1 a2 a3 a4 a5 k
 obtain ⟨ih0, ih1⟩ := impl_FollowTurns.mono_l k
 unfold impl_FollowTurns.f
 repeat' first
   | (with_reducible exact ih0 _ _ _ _ _ _ _)
   | (with_reducible exact ih1 _ _ _ _ _ _ _ _ _)
   | (with_reducible exact impl_Step.mono _ _ _ _ _ _)
   | (with_reducible exact LeO.refl _)
   | (with_reducible exact LeO.none _)
   | (with_reducible refine LeO.ite ?_ ?_)
   | (with_reducible refine LeO.bind ?_ (fun _ => ?_))
   | exact ih0 _ _ _ _ _ _ _
   | exact ih1 _ _ _ _ _ _ _ _ _
   | exact impl_Step.mono _ _ _ _ _ _
   | exact LeO.none _
   | refine LeO.ite ?_ ?_
   | refine LeO.bind ?_ (fun _ => ?_)
set_option maxHeartbeats 8000000 in
set_option maxRecDepth 100000 in
theorem impl_FollowTurns.calls (k : Nat) (a0_0 : Int) (a0_1 : Int) (a0_2 : Int) (a1_0 : Int) (a1_1 : Int) (A2 : Option Addr) (c2 : Nat) (l2 : List Int) (r : List Int) (w : World) (hr2 : Kd.C (Kd.int .i64) w A2 l2.length l2) (hc2 : l2.length ≤ c2) (h : impl_FollowTurns.f k a0_0 a0_1 a0_2 a1_0 a1_1 l2 = some r) :
  Calls Try.prog 53 #[.agg #[.int .i64 a0_0, .int .i64 a0_1, .int .i64 a0_2], .agg #[.int .i64 a1_0, .int .i64 a1_1], .slice A2 l2.length c2] w fun e w' => ∃ v0_ : Value, e = .returned (v0_) ∧ Kd.R (Kd.int .i64) 3 w' w.heap.size (fun _ => True) v0_ r ∧ Below w.heap.size w w' := by
 have hu29 := Try.underlying29
 have hu40 := Try.underlying40
 have HR2 := Aside0.mk hr2
 have HC2 := Aside0.mk hc2
 clear hr2 hc2
 have HB := Aside0.mk (Below.refl w.heap.size w)
 have H : ((impl_WalkerOk.f a0_0 a0_1 a0_2 a1_0 a1_1).bind fun t503 => (if t503 = true then ((impl_areTurns.f l2 400).bind fun t504 => (impl_FollowTurns.j0 k l2 (!t504) a0_0 a0_1 a0_2 a1_0 a1_1)) else (impl_FollowTurns.j0 k l2 true a0_0 a0_1 a0_2 a1_0 a1_1))) = some r := h
 clear h
 have HC4 := Aside0.mk H
 clear H
 go_enter Try.func53, Try.ntmps53
 go_upto_region 1 with (first | ((with_reducible refine gate_dst (N := 3) rfl ?_); refine box_event ?hg (N := 3) ?hd (cs := #[.int .i64 a0_0, .int .i64 a0_1, .int .i64 a0_2]) (t := 29) ?hr ?_; (case hd => rfl); (case hg => rfl); (case hr => first | (go_simp; done) | (go_simp; rfl)); intro gb501 hg w5 hbox hb; have n0_ := Aside0.mk (below_step (hb0_ HB.out) hb); have n1_ := Aside0.mk (hbox); have n2_ := Aside0.mk ((gs_ hg (hb0_ HB.out))); have n3_ := Aside0.mk ((gs_ hg (hb0_ HB.out))); clear HB; have HB := n0_; have BK501 := n1_; have GW501 := n2_; have GE501 := n3_; clear n0_ n1_ n2_ n3_; clear hb hbox hg) | ((with_reducible refine gate_dst (N := 4) rfl ?_); refine box_event ?hg (N := 4) ?hd (cs := #[.int .i64 a1_0, .int .i64 a1_1]) (t := 40) ?hr ?_; (case hd => rfl); (case hg => rfl); (case hr => first | (go_simp; done) | (go_simp; rfl)); intro gb502 hg w6 hbox hb; have n0_ := Aside0.mk (bb_ BK501.out hb); have n1_ := Aside0.mk (below_step (hb1_ HB.out GE501.out) hb); have n2_ := Aside0.mk (hbox); have n3_ := Aside0.mk ((gs_ hg (hb1_ HB.out GE501.out))); have n4_ := Aside0.mk ((gs_ hg (hb1_ HB.out GE501.out))); have n5_ := Aside0.mk (nl_ hg BK501.out); have n6_ := Aside0.mk (nr_ hg BK501.out); clear BK501; clear HB; have BK501 := n0_; have HB := n1_; have BK502 := n2_; have GW502 := n3_; have GE502 := n4_; have NB501_502 := n5_; have NB502_501 := n6_; clear n0_ n1_ n2_ n3_ n4_ n5_ n6_; clear hb hbox hg))
 (try simp only [Act.put, List.setIfInBounds_toArray, List.set_cons_zero, List.set_cons_succ])
 go_cut [19] (fun v19 wc => ∃ (kq : Nat) (x19_3 : Bool), v19 = .bool x19_3 ∧ Aside0 (impl_FollowTurns.j0 kq l2 x19_3 a0_0 a0_1 a0_2 a1_0 a1_1 = some r) ∧ Aside0 (kq ≤ k) ∧ Aside0 (wc.heap[gb501]? = some (.cells #[.int .i64 a0_0, .int .i64 a0_1, .int .i64 a0_2] 29 (0, 0))) ∧ Aside0 (wc.heap[gb502]? = some (.cells #[.int .i64 a1_0, .int .i64 a1_1] 40 (0, 0))) ∧ Aside0 (Below w.heap.size w wc))
 case first =>
  have H := HC4.out
  clear HC4
  replace H := Option.bind_eq_some_iff.mp H
  obtain ⟨t503, A70, H⟩ := H
  replace H : (if t503 = true then ((impl_areTurns.f l2 400).bind fun t504 => (impl_FollowTurns.j0 k l2 (!t504) a0_0 a0_1 a0_2 a1_0 a1_1)) else (impl_FollowTurns.j0 k l2 true a0_0 a0_1 a0_2 a1_0 a1_1)) = some r := H
  have A7 := Aside0.mk A70
  clear A70
  by_cases c8 : t503 = true
  ·subst c8
   have H1 : ((impl_areTurns.f l2 400).bind fun t504 => (impl_FollowTurns.j0 k l2 (!t504) a0_0 a0_1 a0_2 a1_0 a1_1)) = some r := by rw [if_pos rfl] at H; exact H
   clear H
   have H := H1
   clear H1
   replace H := Option.bind_eq_some_iff.mp H
   obtain ⟨t504, A90, H⟩ := H
   replace H : (impl_FollowTurns.j0 k l2 (!t504) a0_0 a0_1 a0_2 a1_0 a1_1) = some r := H
   have A9 := Aside0.mk A90
   clear A90
   have H' := Aside0.mk H
   clear H
   have hnb10 := NB501_502.out
   have hnc10 := NB502_501.out
   obtain ⟨hcz11_0, hcz11_1, hcz11_2⟩ := cz3_ BK501.out
   obtain ⟨hfz11_0, hfz11_1, hfz11_2⟩ := fz3_ BK501.out
   obtain ⟨hcz12_0, hcz12_1⟩ := cz2_ BK502.out
   obtain ⟨hfz12_0, hfz12_1⟩ := fz2_ BK502.out
   go_wp2_with (first | ((with_reducible refine gate_callee (f := 52) rfl ?_); refine goesL_ (some 13) rfl rfl Try.func52 (by kernel_rfl) rfl #[.agg #[.int .i64 a0_0, .int .i64 a0_1, .int .i64 a0_2], .agg #[.int .i64 a1_0, .int .i64 a1_1]] rfl (ml_) ?_; (with_reducible refine (impl_WalkerOk.calls a0_0 a0_1 a0_2 a1_0 a1_1 true _ A7.out).mono ?_); rintro e w13 ⟨rfl, hb⟩; refine ⟨_, rfl, ?_⟩; replace BK501 := Aside0.mk (bb_ BK501.out hb); replace BK502 := Aside0.mk (bb_ BK502.out hb); replace HB := Aside0.mk (below_step (hb2_ HB.out GE501.out GE502.out) hb); (try clear hb); (try clear hb2); (try clear hk); (try clear hi)) | (go_at_call 91; (with_reducible refine (impl_areTurns.calls _ _ l2 400 t504 _ ?side1 ?side2 A9.out).mono ?_); (case side1 => repeat (first | exact (Kd.C_below HR2.out HB.out) | (with_reducible refine Kd.C_alloc ?_ _) | (with_reducible refine Kd.C_drewN ?_ _) | (with_reducible refine Kd.C_drew ?_))); (case side2 => exact HC2.out); rintro e w14 ⟨rfl, hb⟩; replace BK501 := Aside0.mk (bb_ BK501.out hb); replace BK502 := Aside0.mk (bb_ BK502.out hb); replace HB := Aside0.mk (below_step (hb2_ HB.out GE501.out GE502.out) hb); (try clear hb); (try clear hb2); (try clear hk); (try clear hi)))
   go_meet
   case rel => exact ⟨_, (!t504), (by first | rfl | (simp; done) | (simp [*]; done)), H', ⟨by first | omega | exact Nat.le_refl _⟩, ⟨bk_ BK501.out⟩, ⟨bk_ BK502.out⟩, ⟨hb2_ HB.out GE501.out GE502.out⟩⟩
  ·replace c8 := Bool.eq_false_iff.mpr c8
   subst c8
   have H1 : (impl_FollowTurns.j0 k l2 true a0_0 a0_1 a0_2 a1_0 a1_1) = some r := by rw [if_neg (show ¬ (false = true) by decide)] at H; exact H
   clear H
   have H := H1
   clear H1
   have H' := Aside0.mk H
   clear H
   have hnb15 := NB501_502.out
   have hnc15 := NB502_501.out
   obtain ⟨hcz16_0, hcz16_1, hcz16_2⟩ := cz3_ BK501.out
   obtain ⟨hfz16_0, hfz16_1, hfz16_2⟩ := fz3_ BK501.out
   obtain ⟨hcz17_0, hcz17_1⟩ := cz2_ BK502.out
   obtain ⟨hfz17_0, hfz17_1⟩ := fz2_ BK502.out
   go_wp2_with (first | ((with_reducible refine gate_callee (f := 52) rfl ?_); refine goesL_ (some 13) rfl rfl Try.func52 (by kernel_rfl) rfl #[.agg #[.int .i64 a0_0, .int .i64 a0_1, .int .i64 a0_2], .agg #[.int .i64 a1_0, .int .i64 a1_1]] rfl (ml_) ?_; (with_reducible refine (impl_WalkerOk.calls a0_0 a0_1 a0_2 a1_0 a1_1 false _ A7.out).mono ?_); rintro e w18 ⟨rfl, hb⟩; refine ⟨_, rfl, ?_⟩; replace BK501 := Aside0.mk (bb_ BK501.out hb); replace BK502 := Aside0.mk (bb_ BK502.out hb); replace HB := Aside0.mk (below_step (hb2_ HB.out GE501.out GE502.out) hb); (try clear hb); (try clear hb2); (try clear hk); (try clear hi)))
   go_meet
   case rel => exact ⟨_, (true), (by first | rfl | (simp; done) | (simp [*]; done)), H', ⟨by first | omega | exact Nat.le_refl _⟩, ⟨bk_ BK501.out⟩, ⟨bk_ BK502.out⟩, ⟨hb2_ HB.out GE501.out GE502.out⟩⟩
 case rest =>
  clear HC4
  try clear c1
  try clear c2
  try clear p2
  try clear c5
  try clear c8
  try clear c10
  try clear c15
  try clear hcz11_0
  try clear hcz11_1
  try clear hcz11_2
  try clear hcz12_0
  try clear hcz12_1
  try clear hcz16_0
  try clear hcz16_1
  try clear hcz16_2
  try clear hcz17_0
  try clear hcz17_1
  try clear hfz11_0
  try clear hfz11_1
  try clear hfz11_2
  try clear hfz12_0
  try clear hfz12_1
  try clear hfz16_0
  try clear hfz16_1
  try clear hfz16_2
  try clear hfz17_0
  try clear hfz17_1
  obtain ⟨kq, x19_3, rfl, HA, HJ3, BK501, BK502, HB⟩ := hcut
  cases kq with
  | zero => exact absurd HA.out (by simp [impl_FollowTurns.j0])
  | succ kj3 =>
   have H := HA.out
   clear HA
   simp only [impl_FollowTurns.j0] at H
   by_cases c19 : x19_3 = true
   ·subst c19
    have H1 : (some ([] : List Int)) = some r := by rw [if_pos rfl] at H; exact H
    clear H
    have H := H1
    clear H1
    obtain rfl := Option.some.inj H
    go_wp2
    go_ret
    exact ⟨_, by first | rfl | (simp [errW_none, errW_some] <;> rfl) | (simp [*, errW_none, errW_some] <;> rfl), by first | exact Kd.R_nil _ _ _ _ _ | exact Kd.N_nil _ _ _ _ _ | exact Kd.V_nil _ _ _ _ _ | exact Kd.Q_nil _ _ _ _ _ | exact Kd.S_nil _ _ _ _ _, hb2_ HB.out GE501.out GE502.out⟩
   ·replace c19 := Bool.eq_false_iff.mpr c19
    subst c19
    have H1 : (impl_FollowTurns.l0 kj3 (([a1_0] : List Int)) l2 (l2.length : Int) 0 a0_0 a0_1 a0_2 a1_0 a1_1) = some r := by rw [if_neg (show ¬ (false = true) by decide)] at H; exact H
    clear H
    have H := H1
    clear H1
    obtain ⟨y505, hy505⟩ : ∃ y_ : List Int, y_ = (([a1_0] : List Int)) := ⟨_, rfl⟩
    replace H : (impl_FollowTurns.l0 kj3 y505 l2 (l2.length : Int) 0 a0_0 a0_1 a0_2 a1_0 a1_1) = some r := by first | (rw [hy505]; with_reducible exact H) | (have H2_ := (Option.bind_some _ _).symm.trans H; rw [hy505]; with_reducible exact H2_) | (have H2_ := (Option.bind_some _ _).symm.trans H; with_reducible exact H2_) | with_reducible exact H | (rw [hy505]; exact H) | exact H
    have Ny505 := Aside0.mk hy505
    clear hy505
    have H' := Aside0.mk H
    clear H
    have hnb20 := NB502_501.out
    have hnc20 := NB501_502.out
    obtain ⟨hcz21_0, hcz21_1⟩ := cz2_ BK502.out
    obtain ⟨hfz21_0, hfz21_1⟩ := fz2_ BK502.out
    go_wp2_with (first | ((with_reducible refine gate_dst (N := 22) rfl ?_); refine Kd.R_lit (Kd.int .i64) _ 3 ?hg (N := 22) ?hd (xs := ([a1_0] : List Int)) (inner := [.int .i64 a1_0]) (ok := fun _ => True) (okp := fun _ => True) ?hr ?hp (fun _ hk => hk) trivial (Below.refl _ _) (Nat.le_refl _) (by simp) ?_; (case hd => rfl); (case hg => rfl); (case hr => first | (go_simp; done) | (go_simp; rfl)); (case hp => exact (Reps.one (show Kd.M (Kd.int .i64) _ _ _ a1_0 [.int .i64 a1_0] from rfl) (Reps.none _ _))); intro v506 w22 ho23 hb hg_ hnew_; clear hg_ hnew_; (first | rw [← Ny505.out] at ho23 | (simp only [Int.reduceToNat] at ho23; rw [← Ny505.out] at ho23)); have HO507 := Aside0.mk (Kd.R_lower ho23 (below_size (hb2_ HB.out GE501.out GE502.out))); replace BK501 := Aside0.mk (bb_ BK501.out hb); replace BK502 := Aside0.mk (bb_ BK502.out hb); replace HB := Aside0.mk (below_step (hb2_ HB.out GE501.out GE502.out) hb); clear hb ho23))
    go_loopg [7, 25] kj3 (fun kq v7 v25 w' => ∃ (x7_2 : List Int) (x25_2 : Int) (x503000_2 : Int) (x503001_2 : Int), v25 = .int .i64 x25_2 ∧ Aside0 (impl_FollowTurns.l0 kq x7_2 l2 (l2.length : Int) x25_2 a0_0 a0_1 a0_2 x503000_2 x503001_2 = some r) ∧ Aside0 (kq ≤ kj3) ∧ Aside0 (Kd.R (Kd.int .i64) 3 w' w.heap.size (fun _ => True) v7 x7_2) ∧ Aside0 (w'.heap[gb501]? = some (.cells #[.int .i64 a0_0, .int .i64 a0_1, .int .i64 a0_2] 29 (0, 0))) ∧ Aside0 (w'.heap[gb502]? = some (.cells #[.int .i64 x503000_2, .int .i64 x503001_2] 40 (0, 0))) ∧ Aside0 (Below w.heap.size w w'))
    case atStart => exact ⟨(y505), (0), (a1_0), (a1_1), (by first | rfl | (simp; done) | (simp [*]; done)), H', ⟨Nat.le_refl _⟩, ⟨kr_ HO507.out⟩, ⟨bk_ BK501.out⟩, ⟨bk_ BK502.out⟩, ⟨hb2_ HB.out GE501.out GE502.out⟩⟩
    case round =>
     clear H'
     try clear c1
     try clear c2
     try clear p2
     try clear c5
     try clear c8
     try clear c10
     try clear c15
     try clear c19
     try clear c20
     try clear hcz11_0
     try clear hcz11_1
     try clear hcz11_2
     try clear hcz12_0
     try clear hcz12_1
     try clear hcz16_0
     try clear hcz16_1
     try clear hcz16_2
     try clear hcz17_0
     try clear hcz17_1
     try clear hcz21_0
     try clear hcz21_1
     try clear hfz11_0
     try clear hfz11_1
     try clear hfz11_2
     try clear hfz12_0
     try clear hfz12_1
     try clear hfz16_0
     try clear hfz16_1
     try clear hfz16_2
     try clear hfz17_0
     try clear hfz17_1
     try clear hfz21_0
     try clear hfz21_1
     try clear p2
     obtain ⟨x7_2, x25_2, x503000_2, x503001_2, rfl, HA, HK2, HO_7, BK501, BK502, HB⟩ := hrel
     cases gk with
     | zero => exact absurd HA.out (by simp [impl_FollowTurns.l0])
     | succ k2 =>
      have H := HA.out
      clear HA
      simp only [impl_FollowTurns.l0] at H
      by_cases c24 : x25_2 < (l2.length : Int)
      ·rw [if_pos c24] at H
       have c24b0 : decide (x25_2 < (l2.length : Int)) = true := decide_eq_true c24
       clear c24
       by_cases c25 : 0 ≤ x25_2
       ·rw [if_pos c25] at H
        have c25b0 : decide (0 ≤ x25_2) = true := decide_eq_true c25
        clear c25
        by_cases c26 : x25_2 < (l2.length : Int)
        ·rw [if_pos c26] at H
         have c26b0 : decide (x25_2 < (l2.length : Int)) = true := decide_eq_true c26
         clear c26
         replace H := Option.bind_eq_some_iff.mp H
         obtain ⟨t509, A270, H⟩ := H
         replace H : (if t509 ≥ 0 then (if x7_2.length < 17592186044416 then (impl_FollowTurns.l0 k2 (x7_2 ++ [t509]) l2 (l2.length : Int) (wrap64 (x25_2 + 1)) a0_0 a0_1 a0_2 t509 (Int.tmod (wrap64 (x503001_2 + (rd l2 x25_2))) 4)) else (none)) else (if x7_2.length < 17592186044416 then (impl_FollowTurns.l0 k2 (x7_2 ++ [x503000_2]) l2 (l2.length : Int) (wrap64 (x25_2 + 1)) a0_0 a0_1 a0_2 x503000_2 (Int.tmod (wrap64 (x503001_2 + (rd l2 x25_2))) 4)) else (none))) = some r := H
         have A27 := Aside0.mk A270
         clear A270
         by_cases c28 : t509 ≥ 0
         ·rw [if_pos c28] at H
          have c28b0 : decide (0 ≤ t509) = true := decide_eq_true c28
          clear c28
          by_cases c29 : x7_2.length < 17592186044416
          ·rw [if_pos c29] at H
           have LMc29 := Aside0.mk c29
           clear c29
           obtain ⟨y510, hy510⟩ : ∃ y_ : List Int, y_ = (x7_2 ++ [t509]) := ⟨_, rfl⟩
           replace H : (impl_FollowTurns.l0 k2 y510 l2 (l2.length : Int) (wrap64 (x25_2 + 1)) a0_0 a0_1 a0_2 t509 (Int.tmod (wrap64 (x503001_2 + (rd l2 x25_2))) 4)) = some r := by first | (rw [hy510]; with_reducible exact H) | (have H2_ := (Option.bind_some _ _).symm.trans H; rw [hy510]; with_reducible exact H2_) | (have H2_ := (Option.bind_some _ _).symm.trans H; with_reducible exact H2_) | with_reducible exact H | (rw [hy510]; exact H) | exact H
           have Ny510 := Aside0.mk hy510
           clear hy510
           have H' := Aside0.mk H
           clear H
           have p508 : 0 ≤ (x25_2 : Int) := of_decide_eq_true (as_)
           have q508 : x25_2 < (l2.length : Int) := of_decide_eq_true (as_)
           obtain ⟨ad508, e508, hx508_0⟩ := Kd.at_int HR2.out x25_2 p508 q508
           cases e508
           replace hx508_0 := (HB.out.cell (World.block_lt_of_cell? w _ hx508_0)).trans hx508_0
           replace p508 := eq_true p508
           replace q508 := eq_true q508
           have hnb30 := NB502_501.out
           have hnc30 := NB501_502.out
           obtain ⟨hcz31_0, hcz31_1⟩ := cz2_ BK502.out
           obtain ⟨hfz31_0, hfz31_1⟩ := fz2_ BK502.out
           obtain ⟨hcz32_0, hcz32_1, hcz32_2⟩ := cz3_ BK501.out
           obtain ⟨hfz32_0, hfz32_1, hfz32_2⟩ := fz3_ BK501.out
           go_wp2_with (first | ((with_reducible refine gate_callee (f := 72) rfl ?_); refine goesL_ (some 40) rfl rfl Try.func72 (by kernel_rfl) rfl #[.agg #[.int .i64 a0_0, .int .i64 a0_1, .int .i64 a0_2], .int .i64 x503000_2, .int .i64 (Int.tmod (wrap64 (x503001_2 + (rd l2 x25_2))) 4)] rfl (ml_) ?_; (with_reducible refine (impl_Step.calls k2 a0_0 a0_1 a0_2 x503000_2 (Int.tmod (wrap64 (x503001_2 + (rd l2 x25_2))) 4) t509 _ A27.out).mono ?_); rintro e w33 ⟨rfl, hb⟩; refine ⟨_, rfl, ?_⟩; replace HO_7 := Aside0.mk (Kd.R_below (by (with_reducible repeat (first | apply Kd.R_alloc | apply Kd.R_drewN | apply Kd.R_drew)); exact (Kd.R_mono (Kd.R_far (p := ⟨gb502, 1, none⟩) (Kd.R_types HO_7.out BK502.out (by decide)) (fun _ hk => hk.2) (.int .i64 (Int.tmod (wrap64 (x503001_2 + (rd l2 x25_2))) 4))) (fun _ h_ => h_.1))) hb); replace BK501 := Aside0.mk (blk_below (g := gb501) (o := .cells #[.int .i64 a0_0, .int .i64 a0_1, .int .i64 a0_2] 29 (0, 0)) (by (with_reducible repeat (first | refine blk_drewN ?_ _ | refine blk_drew ?_ | refine blk_alloc ?_ _)); refine blk_far ?_ NB501_502.out _; (with_reducible repeat (first | refine blk_drewN ?_ _ | refine blk_drew ?_ | refine blk_alloc ?_ _)); exact BK501.out) hb); replace BK502 := Aside0.mk (blk_below (g := gb502) (o := .cells #[.int .i64 x503000_2, .int .i64 (Int.tmod (wrap64 (x503001_2 + (rd l2 x25_2))) 4)] 40 (0, 0)) (by (with_reducible repeat (first | refine blk_drewN ?_ _ | refine blk_drew ?_ | refine blk_alloc ?_ _)); refine blk_put (cs := #[.int .i64 x503000_2, .int .i64 x503001_2]) ?_ 1 _ rfl; (with_reducible repeat (first | refine blk_drewN ?_ _ | refine blk_drew ?_ | refine blk_alloc ?_ _)); exact BK502.out) hb); replace HB := Aside0.mk (below_step (hb2_ HB.out GE501.out GE502.out) hb); (try clear hb); (try clear hb2); (try clear hk); (try clear hi); obtain ⟨hcz34_0, hcz34_1⟩ := cz2_ BK502.out; obtain ⟨hfz34_0, hfz34_1⟩ := fz2_ BK502.out) | ((with_reducible refine gate_builtin (b := .append) (xs := #[.tmp 45, .tmp 48]) rfl ?_); at_builtin; refine Kd.R_append (Kd.int .i64) (w0 := w) w.heap.size rfl (.tmp 45) (.tmp 48) 32 3 (.int .i64 0) 8 rfl Try.underlying32 info3 rfl (by decide) (by omega) u7 x7_2 t509 [.int .i64 t509] (fun _ => True) (fun _ => False) rfl (by first | (go_simp; done) | (go_simp; rfl)) ?aP (fun _ hk => hk.elim) ?aF ?aO ?aB ?aS ?aL ?_; (case aP => exact rfl); (case aB => exact (hb2_ HB.out GE501.out GE502.out)); (case aF => exact (fun _ _ => trivial)); (case aO => exact (by (with_reducible repeat (first | apply Kd.R_alloc | apply Kd.R_drewN | apply Kd.R_drew)); exact Kd.R_mono (Kd.R_far (p := ⟨gb502, 0, none⟩) (Kd.R_types HO_7.out BK502.out (by decide)) (fun _ hk => hk.2) (.int .i64 t509)) (fun _ hk => trivial))); (case aS => exact (below_size (hb2_ HB.out GE501.out GE502.out))); (case aL => have := LMc29.out; omega); intro v511 w35 ho hb hg hat; rw [← Ny510.out] at ho; replace BK501 := Aside0.mk (blk_grown (g := gb501) (o := .cells #[.int .i64 a0_0, .int .i64 a0_1, .int .i64 a0_2] 29 (0, 0)) (by (with_reducible repeat (first | refine blk_drewN ?_ _ | refine blk_drew ?_ | refine blk_alloc ?_ _)); refine blk_far ?_ NB501_502.out _; (with_reducible repeat (first | refine blk_drewN ?_ _ | refine blk_drew ?_ | refine blk_alloc ?_ _)); exact BK501.out) hg (Kd.R_ne HO_7.out BK501.out (by decide))); replace BK502 := Aside0.mk (blk_grown (g := gb502) (o := .cells #[.int .i64 t509, .int .i64 (Int.tmod (wrap64 (x503001_2 + (rd l2 x25_2))) 4)] 40 (0, 0)) (by (with_reducible repeat (first | refine blk_drewN ?_ _ | refine blk_drew ?_ | refine blk_alloc ?_ _)); refine blk_put (cs := #[.int .i64 x503000_2, .int .i64 (Int.tmod (wrap64 (x503001_2 + (rd l2 x25_2))) 4)]) ?_ 0 _ rfl; (with_reducible repeat (first | refine blk_drewN ?_ _ | refine blk_drew ?_ | refine blk_alloc ?_ _)); exact BK502.out) hg (Kd.R_ne HO_7.out BK502.out (by decide))); replace HB := Aside0.mk (hb); have HO512 := Aside0.mk (ho); clear HO_7; clear ho hb hg hat))
           go_roundg k2
           case measure => have := HJ3.out; have := HK2.out; omega
           case rel => exact ⟨(y510), (wrap64 (x25_2 + 1)), (t509), (Int.tmod (wrap64 (x503001_2 + (rd l2 x25_2))) 4), (by first | rfl | (simp; done) | (simp [*]; done)), H', ⟨by have := HJ3.out; have := HK2.out; omega⟩, ⟨kr_ HO512.out⟩, ⟨bk_ BK501.out⟩, ⟨bk_ BK502.out⟩, ⟨hb2_ HB.out GE501.out GE502.out⟩⟩
          ·rw [if_neg c29] at H
           exact absurd H (by simp)
         ·rw [if_neg c28] at H
          have c28b0 : decide (0 ≤ t509) = false := decide_eq_false c28
          clear c28
          by_cases c36 : x7_2.length < 17592186044416
          ·rw [if_pos c36] at H
           have LMc36 := Aside0.mk c36
           clear c36
           obtain ⟨y513, hy513⟩ : ∃ y_ : List Int, y_ = (x7_2 ++ [x503000_2]) := ⟨_, rfl⟩
           replace H : (impl_FollowTurns.l0 k2 y513 l2 (l2.length : Int) (wrap64 (x25_2 + 1)) a0_0 a0_1 a0_2 x503000_2 (Int.tmod (wrap64 (x503001_2 + (rd l2 x25_2))) 4)) = some r := by first | (rw [hy513]; with_reducible exact H) | (have H2_ := (Option.bind_some _ _).symm.trans H; rw [hy513]; with_reducible exact H2_) | (have H2_ := (Option.bind_some _ _).symm.trans H; with_reducible exact H2_) | with_reducible exact H | (rw [hy513]; exact H) | exact H
           have Ny513 := Aside0.mk hy513
           clear hy513
           have H' := Aside0.mk H
           clear H
           have p508 : 0 ≤ (x25_2 : Int) := of_decide_eq_true (as_)
           have q508 : x25_2 < (l2.length : Int) := of_decide_eq_true (as_)
           obtain ⟨ad508, e508, hx508_0⟩ := Kd.at_int HR2.out x25_2 p508 q508
           cases e508
           replace hx508_0 := (HB.out.cell (World.block_lt_of_cell? w _ hx508_0)).trans hx508_0
           replace p508 := eq_true p508
           replace q508 := eq_true q508
           have hnb37 := NB502_501.out
           have hnc37 := NB501_502.out
           obtain ⟨hcz38_0, hcz38_1⟩ := cz2_ BK502.out
           obtain ⟨hfz38_0, hfz38_1⟩ := fz2_ BK502.out
           obtain ⟨hcz39_0, hcz39_1, hcz39_2⟩ := cz3_ BK501.out
           obtain ⟨hfz39_0, hfz39_1, hfz39_2⟩ := fz3_ BK501.out
           go_wp2_with (first | ((with_reducible refine gate_callee (f := 72) rfl ?_); refine goesL_ (some 40) rfl rfl Try.func72 (by kernel_rfl) rfl #[.agg #[.int .i64 a0_0, .int .i64 a0_1, .int .i64 a0_2], .int .i64 x503000_2, .int .i64 (Int.tmod (wrap64 (x503001_2 + (rd l2 x25_2))) 4)] rfl (ml_) ?_; (with_reducible refine (impl_Step.calls k2 a0_0 a0_1 a0_2 x503000_2 (Int.tmod (wrap64 (x503001_2 + (rd l2 x25_2))) 4) t509 _ A27.out).mono ?_); rintro e w40 ⟨rfl, hb⟩; refine ⟨_, rfl, ?_⟩; replace HO_7 := Aside0.mk (Kd.R_below (by (with_reducible repeat (first | apply Kd.R_alloc | apply Kd.R_drewN | apply Kd.R_drew)); exact (Kd.R_mono (Kd.R_far (p := ⟨gb502, 1, none⟩) (Kd.R_types HO_7.out BK502.out (by decide)) (fun _ hk => hk.2) (.int .i64 (Int.tmod (wrap64 (x503001_2 + (rd l2 x25_2))) 4))) (fun _ h_ => h_.1))) hb); replace BK501 := Aside0.mk (blk_below (g := gb501) (o := .cells #[.int .i64 a0_0, .int .i64 a0_1, .int .i64 a0_2] 29 (0, 0)) (by (with_reducible repeat (first | refine blk_drewN ?_ _ | refine blk_drew ?_ | refine blk_alloc ?_ _)); refine blk_far ?_ NB501_502.out _; (with_reducible repeat (first | refine blk_drewN ?_ _ | refine blk_drew ?_ | refine blk_alloc ?_ _)); exact BK501.out) hb); replace BK502 := Aside0.mk (blk_below (g := gb502) (o := .cells #[.int .i64 x503000_2, .int .i64 (Int.tmod (wrap64 (x503001_2 + (rd l2 x25_2))) 4)] 40 (0, 0)) (by (with_reducible repeat (first | refine blk_drewN ?_ _ | refine blk_drew ?_ | refine blk_alloc ?_ _)); refine blk_put (cs := #[.int .i64 x503000_2, .int .i64 x503001_2]) ?_ 1 _ rfl; (with_reducible repeat (first | refine blk_drewN ?_ _ | refine blk_drew ?_ | refine blk_alloc ?_ _)); exact BK502.out) hb); replace HB := Aside0.mk (below_step (hb2_ HB.out GE501.out GE502.out) hb); (try clear hb); (try clear hb2); (try clear hk); (try clear hi); obtain ⟨hcz41_0, hcz41_1⟩ := cz2_ BK502.out; obtain ⟨hfz41_0, hfz41_1⟩ := fz2_ BK502.out) | ((with_reducible refine gate_builtin (b := .append) (xs := #[.tmp 45, .tmp 48]) rfl ?_); at_builtin; refine Kd.R_append (Kd.int .i64) (w0 := w) w.heap.size rfl (.tmp 45) (.tmp 48) 32 3 (.int .i64 0) 8 rfl Try.underlying32 info3 rfl (by decide) (by omega) u7 x7_2 x503000_2 [.int .i64 x503000_2] (fun _ => True) (fun _ => False) rfl rfl ?aP (fun _ hk => hk.elim) ?aF ?aO ?aB ?aS ?aL ?_; (case aP => exact rfl); (case aB => exact (hb2_ HB.out GE501.out GE502.out)); (case aF => exact (fun _ _ => trivial)); (case aO => exact (kr_ HO_7.out)); (case aS => exact (below_size (hb2_ HB.out GE501.out GE502.out))); (case aL => have := LMc36.out; omega); intro v514 w42 ho hb hg hat; rw [← Ny513.out] at ho; replace BK501 := Aside0.mk (blk_grown (g := gb501) (o := .cells #[.int .i64 a0_0, .int .i64 a0_1, .int .i64 a0_2] 29 (0, 0)) (bk_ BK501.out) hg (Kd.R_ne HO_7.out BK501.out (by decide))); replace BK502 := Aside0.mk (blk_grown (g := gb502) (o := .cells #[.int .i64 x503000_2, .int .i64 (Int.tmod (wrap64 (x503001_2 + (rd l2 x25_2))) 4)] 40 (0, 0)) (bk_ BK502.out) hg (Kd.R_ne HO_7.out BK502.out (by decide))); replace HB := Aside0.mk (hb); have HO515 := Aside0.mk (ho); clear HO_7; clear ho hb hg hat))
           go_roundg k2
           case measure => have := HJ3.out; have := HK2.out; omega
           case rel => exact ⟨(y513), (wrap64 (x25_2 + 1)), (x503000_2), (Int.tmod (wrap64 (x503001_2 + (rd l2 x25_2))) 4), (by first | rfl | (simp; done) | (simp [*]; done)), H', ⟨by have := HJ3.out; have := HK2.out; omega⟩, ⟨kr_ HO515.out⟩, ⟨bk_ BK501.out⟩, ⟨bk_ BK502.out⟩, ⟨hb2_ HB.out GE501.out GE502.out⟩⟩
          ·rw [if_neg c36] at H
           exact absurd H (by simp)
        ·rw [if_neg c26] at H
         exact absurd H (by simp)
       ·rw [if_neg c25] at H
        exact absurd H (by simp)
      ·rw [if_neg c24] at H
       have c24b0 : decide (x25_2 < (l2.length : Int)) = false := decide_eq_false c24
       clear c24
       obtain rfl := Option.some.inj H
       go_wp2
       go_ret
       exact ⟨_, by first | rfl | (simp [errW_none, errW_some] <;> rfl) | (simp [*, errW_none, errW_some] <;> rfl), kr_ HO_7.out, hb2_ HB.out GE501.out GE502.out⟩

end Go.Proofs.Ytapnlpekiplmjab.X
