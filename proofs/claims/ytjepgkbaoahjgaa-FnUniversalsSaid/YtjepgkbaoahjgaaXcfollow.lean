-- Written by a program of this session (xprint.py), out of the translation and of hand-written contracts. Lean checks it.
import Derived.Test.YtjepgkbaoahjgaaX0
import Derived.Test.YtjepgkbaoahjgaaXcgrid
import Derived.Test.YtjepgkbaoahjgaaXcin
import Derived.Test.YtjepgkbaoahjgaaXcstep
import Derived.Test.YtjepgkbaoahjgaaXcturns
import Derived.Test.YtjepgkbaoahjgaaXimplordered
namespace Go.Proofs.Ytjepgkbaoahjgaa.X
open Go.RowKit Go.Proofs.YtjepgkbaoahjgaaW.PrintWords Go.Proofs.YtjepgkbaoahjgaaW.PrintLast Go.Proofs.YtjepgkbaoahjgaaW.PrintMore
attribute [local go_sem] max2_int min2_int max_two min_two max_three min_three max_four min_four   -- for this text's walks alone
set_option linter.unusedVariables false
set_option linter.unusedSimpArgs false

/-! ### impl_FollowTurns: function 12 -/
mutual
def impl_FollowTurns.j0 : Nat → List Int → Bool → Int → Int → Int → Int → Int → Option (List Int)
 | 0, _, _, _, _, _, _, _ => none
 | k + 1, x2, x19, x502000, x502001, x502002, x503000, x503001 => if x19 = true then (some ([] : List Int)) else (impl_FollowTurns.l0 k (([x503000] : List Int)) x2 (x2.length : Int) 0 x502000 x502001 x502002 x503000 x503001)
def impl_FollowTurns.l0 : Nat → List Int → List Int → Int → Int → Int → Int → Int → Int → Int → Option (List Int)
 | 0, _, _, _, _, _, _, _, _, _ => none
 | k + 1, x7, x23, x24, x25, x502000, x502001, x502002, x503000, x503001 => if x25 < x24 then (if 0 ≤ x25 then (if x25 < (x23.length : Int) then ((impl_Step.f k x502000 x502001 x502002 x503000 (Int.tmod (wrap64 (x503001 + (rd x23 x25))) 4)).bind fun t509 => (if t509 ≥ 0 then (if x7.length < 17592186044416 then (impl_FollowTurns.l0 k (x7 ++ [t509]) x23 x24 (wrap64 (x25 + 1)) x502000 x502001 x502002 t509 (Int.tmod (wrap64 (x503001 + (rd x23 x25))) 4)) else (none)) else (if x7.length < 17592186044416 then (impl_FollowTurns.l0 k (x7 ++ [x503000]) x23 x24 (wrap64 (x25 + 1)) x502000 x502001 x502002 x503000 (Int.tmod (wrap64 (x503001 + (rd x23 x25))) 4)) else (none)))) else (none)) else (none)) else (some x7)
end
def impl_FollowTurns.f (k : Nat) (a0_0 : Int) (a0_1 : Int) (a0_2 : Int) (a1_0 : Int) (a1_1 : Int) (l2 : List Int) : Option (List Int) := (impl_WalkerOk.f a0_0 a0_1 a0_2 a1_0 a1_1).bind fun t503 => (if t503 = true then ((impl_areTurns.f l2 400).bind fun t504 => (impl_FollowTurns.j0 k l2 (!t504) a0_0 a0_1 a0_2 a1_0 a1_1)) else (impl_FollowTurns.j0 k l2 true a0_0 a0_1 a0_2 a1_0 a1_1))
theorem impl_FollowTurns.mono_l : ∀ k, (∀ y0 y1 y2 y3 y4 y5 y6, LeO (impl_FollowTurns.j0 k y0 y1 y2 y3 y4 y5 y6) (impl_FollowTurns.j0 (k + 1) y0 y1 y2 y3 y4 y5 y6)) ∧ (∀ y0 y1 y2 y3 y4 y5 y6 y7 y8, LeO (impl_FollowTurns.l0 k y0 y1 y2 y3 y4 y5 y6 y7 y8) (impl_FollowTurns.l0 (k + 1) y0 y1 y2 y3 y4 y5 y6 y7 y8))
 | 0 => ⟨fun _ _ _ _ _ _ _ r h => by simp [impl_FollowTurns.j0] at h, fun _ _ _ _ _ _ _ _ _ r h => by simp [impl_FollowTurns.l0] at h⟩
 | k + 1 => by
  obtain ⟨ih0, ih1⟩ := impl_FollowTurns.mono_l k
  refine ⟨?_, ?_⟩
  ·intro y0 y1 y2 y3 y4 y5 y6
   unfold impl_FollowTurns.j0
   repeat' first
   | (with_reducible exact ih0 ..)
   | (with_reducible exact ih1 ..)
   | (with_reducible exact impl_Step.mono ..)
   | (with_reducible first | exact lr_ _ | exact ln_ _ | refine li_ ?_ ?_ | refine lb_ ?_ fun _ => ?_)
   | exact ih0 ..
   | exact ih1 ..
   | exact impl_Step.mono ..
   | exact ln_ _ | refine li_ ?_ ?_ | refine lb_ ?_ fun _ => ?_
  ·intro y0 y1 y2 y3 y4 y5 y6 y7 y8
   unfold impl_FollowTurns.l0
   repeat' first
   | (with_reducible exact ih0 ..)
   | (with_reducible exact ih1 ..)
   | (with_reducible exact impl_Step.mono ..)
   | (with_reducible first | exact lr_ _ | exact ln_ _ | refine li_ ?_ ?_ | refine lb_ ?_ fun _ => ?_)
   | exact ih0 ..
   | exact ih1 ..
   | exact impl_Step.mono ..
   | exact ln_ _ | refine li_ ?_ ?_ | refine lb_ ?_ fun _ => ?_
theorem impl_FollowTurns.mono : ∀ a0 a1 a2 a3 a4 a5 k, LeO (impl_FollowTurns.f k a0 a1 a2 a3 a4 a5) (impl_FollowTurns.f (k + 1) a0 a1 a2 a3 a4 a5) := by
 intro a0 a1 a2 a3 a4 a5 k
 obtain ⟨ih0, ih1⟩ := impl_FollowTurns.mono_l k
 unfold impl_FollowTurns.f
 repeat' first
   | (with_reducible exact ih0 ..)
   | (with_reducible exact ih1 ..)
   | (with_reducible exact impl_Step.mono ..)
   | (with_reducible first | exact lr_ _ | exact ln_ _ | refine li_ ?_ ?_ | refine lb_ ?_ fun _ => ?_)
   | exact ih0 ..
   | exact ih1 ..
   | exact impl_Step.mono ..
   | exact ln_ _ | refine li_ ?_ ?_ | refine lb_ ?_ fun _ => ?_
set_option maxHeartbeats 8000000 in
set_option maxRecDepth 100000 in
theorem impl_FollowTurns.calls (k : Nat) (a0_0 : Int) (a0_1 : Int) (a0_2 : Int) (a1_0 : Int) (a1_1 : Int) (A2 : Option Addr) (c2 : Nat) (l2 : List Int) (r : List Int) (w : World) (hr2 : Kd.C (Kd.int .i64) w A2 l2.length l2) (hc2 : l2.length ≤ c2) (h : impl_FollowTurns.f k a0_0 a0_1 a0_2 a1_0 a1_1 l2 = some r) :
  Calls Try.prog 12 #[.agg #[.int .i64 a0_0, .int .i64 a0_1, .int .i64 a0_2], .agg #[.int .i64 a1_0, .int .i64 a1_1], .slice A2 l2.length c2] w fun e w' => ∃ v0_ : Value, e = .returned (v0_) ∧ Kd.R (Kd.int .i64) 3 w' w.heap.size (fun _ => True) v0_ r ∧ Below w.heap.size w w' := by
 have hu30 := Try.underlying30
 have hu32 := Try.underlying32
 have HR2 := Aside0.mk hr2
 have HC2 := Aside0.mk hc2
 clear hr2 hc2
 have HB := Aside0.mk (Below.refl w.heap.size w)
 have H : ((impl_WalkerOk.f a0_0 a0_1 a0_2 a1_0 a1_1).bind fun t503 => (if t503 = true then ((impl_areTurns.f l2 400).bind fun t504 => (impl_FollowTurns.j0 k l2 (!t504) a0_0 a0_1 a0_2 a1_0 a1_1)) else (impl_FollowTurns.j0 k l2 true a0_0 a0_1 a0_2 a1_0 a1_1))) = some r := h
 clear h
 have HC4 := Aside0.mk H
 clear H
 go_enter Try.func12, Try.ntmps12
 go_upto_region 1 with (first | (refine box_ (N := 3) (cs := #[.int .i64 a0_0, .int .i64 a0_1, .int .i64 a0_2]) (t := 30) ?_; intro gb501 hg w5 hbox hb; have BK501 := Aside0.mk (hbox); have GW501 := HB.g0 hg; have GE501 := HB.g0 hg; replace HB := HB.s0 hb; clear hb hbox hg) | (refine box_ (N := 4) (cs := #[.int .i64 a1_0, .int .i64 a1_1]) (t := 32) ?_; intro gb502 hg w6 hbox hb; have BK502 := Aside0.mk (hbox); have GW502 := HB.g1 GE501 hg; have GE502 := HB.g1 GE501 hg; replace HB := HB.s1 GE501 hb; have NB501_502 := BK501.nl hg; have NB502_501 := BK501.nr hg; replace BK501 := BK501.bb hb; clear hb hbox hg))
 (try simp only [Act.put, List.setIfInBounds_toArray, List.set_cons_zero, List.set_cons_succ])
 go_cut [19] (fun v19 wc => ∃ (kq : Nat) (x19_3 : Bool), v19 = .bool x19_3 ∧ Aside0 (impl_FollowTurns.j0 kq l2 x19_3 a0_0 a0_1 a0_2 a1_0 a1_1 = some r) ∧ Aside0 (kq ≤ k) ∧ Aside0 (wc.heap[gb501]? = some (.cells #[.int .i64 a0_0, .int .i64 a0_1, .int .i64 a0_2] 30 (0, 0))) ∧ Aside0 (wc.heap[gb502]? = some (.cells #[.int .i64 a1_0, .int .i64 a1_1] 32 (0, 0))) ∧ Aside0 (Below w.heap.size w wc))
 case first =>
  have H := HC4.out
  clear HC4
  replace H := Option.bind_eq_some_iff.mp H
  obtain ⟨t503, A70, H⟩ := H
  replace H : (if t503 = true then ((impl_areTurns.f l2 400).bind fun t504 => (impl_FollowTurns.j0 k l2 (!t504) a0_0 a0_1 a0_2 a1_0 a1_1)) else (impl_FollowTurns.j0 k l2 true a0_0 a0_1 a0_2 a1_0 a1_1)) = some r := H
  have A7 := Aside0.mk A70
  clear A70
  by_cases c8 : t503 = true
  ·subst c8
   have H1 : ((impl_areTurns.f l2 400).bind fun t504 => (impl_FollowTurns.j0 k l2 (!t504) a0_0 a0_1 a0_2 a1_0 a1_1)) = some r := by rw [if_pos rfl] at H; exact H
   clear H
   have H := H1
   clear H1
   replace H := Option.bind_eq_some_iff.mp H
   obtain ⟨t504, A90, H⟩ := H
   replace H : (impl_FollowTurns.j0 k l2 (!t504) a0_0 a0_1 a0_2 a1_0 a1_1) = some r := H
   have A9 := Aside0.mk A90
   clear A90
   have H' := Aside0.mk H
   clear H
   have hnb10 := NB501_502.out
   have hnc10 := NB502_501.out
   obtain ⟨hcz11_0, hcz11_1, hcz11_2⟩ := cz3_ BK501.out
   obtain ⟨hfz11_0, hfz11_1, hfz11_2⟩ := fz3_ BK501.out
   obtain ⟨hcz12_0, hcz12_1⟩ := cz2_ BK502.out
   obtain ⟨hfz12_0, hfz12_1⟩ := fz2_ BK502.out
   go_wp2_with (first | (refine gl_ 13 Try.func10 #[.agg #[.int .i64 a0_0, .int .i64 a0_1, .int .i64 a0_2], .agg #[.int .i64 a1_0, .int .i64 a1_1]] ?_; (with_reducible refine (impl_WalkerOk.calls a0_0 a0_1 a0_2 a1_0 a1_1 true _ A7.out).mono ?_); rintro e w13 ⟨rfl, hb⟩; refine ⟨_, rfl, ?_⟩; replace BK501 := BK501.bb hb; replace BK502 := BK502.bb hb; replace HB := HB.s2 GE501 GE502 hb; (try clear hb)) | (go_at_call 27; (with_reducible refine (impl_areTurns.calls _ _ l2 400 t504 _ ?side1 ?side2 A9.out).mono ?_); (case side1 => repeat (first | exact (Kd.C_below HR2.out HB.out) | (with_reducible refine Kd.C_alloc ?_ _) | (with_reducible refine Kd.C_drewN ?_ _) | (with_reducible refine Kd.C_drew ?_))); (case side2 => exact HC2.out); rintro e w14 ⟨rfl, hb⟩; replace BK501 := BK501.bb hb; replace BK502 := BK502.bb hb; replace HB := HB.s2 GE501 GE502 hb; (try clear hb)))
   go_meet
   case rel => exact ⟨_, (!t504), (by first | rfl | (simp; done) | (simp [*]; done)), H', ⟨by first | omega | exact Nat.le_refl _⟩, ⟨bk_ BK501.out⟩, ⟨bk_ BK502.out⟩, ⟨hb2_ HB.out GE501.out GE502.out⟩⟩
  ·replace c8 := Bool.eq_false_iff.mpr c8
   subst c8
   have H1 : (impl_FollowTurns.j0 k l2 true a0_0 a0_1 a0_2 a1_0 a1_1) = some r := by rw [if_neg (show ¬ (false = true) by decide)] at H; exact H
   clear H
   have H := H1
   clear H1
   have H' := Aside0.mk H
   clear H
   have hnb15 := NB501_502.out
   have hnc15 := NB502_501.out
   obtain ⟨hcz16_0, hcz16_1, hcz16_2⟩ := cz3_ BK501.out
   obtain ⟨hfz16_0, hfz16_1, hfz16_2⟩ := fz3_ BK501.out
   obtain ⟨hcz17_0, hcz17_1⟩ := cz2_ BK502.out
   obtain ⟨hfz17_0, hfz17_1⟩ := fz2_ BK502.out
   go_wp2_with (first | (refine gl_ 13 Try.func10 #[.agg #[.int .i64 a0_0, .int .i64 a0_1, .int .i64 a0_2], .agg #[.int .i64 a1_0, .int .i64 a1_1]] ?_; (with_reducible refine (impl_WalkerOk.calls a0_0 a0_1 a0_2 a1_0 a1_1 false _ A7.out).mono ?_); rintro e w18 ⟨rfl, hb⟩; refine ⟨_, rfl, ?_⟩; replace BK501 := BK501.bb hb; replace BK502 := BK502.bb hb; replace HB := HB.s2 GE501 GE502 hb; (try clear hb)))
   go_meet
   case rel => exact ⟨_, (true), (by first | rfl | (simp; done) | (simp [*]; done)), H', ⟨by first | omega | exact Nat.le_refl _⟩, ⟨bk_ BK501.out⟩, ⟨bk_ BK502.out⟩, ⟨hb2_ HB.out GE501.out GE502.out⟩⟩
 case rest =>
  clear HC4
  try clear c1
  try clear c2
  try clear p2
  try clear c8
  try clear c10
  try clear c12
  try clear c15
  try clear hcz11_0
  try clear hcz11_1
  try clear hcz11_2
  try clear hcz12_0
  try clear hcz12_1
  try clear hcz16_0
  try clear hcz16_1
  try clear hcz16_2
  try clear hcz17_0
  try clear hcz17_1
  try clear hfz11_0
  try clear hfz11_1
  try clear hfz11_2
  try clear hfz12_0
  try clear hfz12_1
  try clear hfz16_0
  try clear hfz16_1
  try clear hfz16_2
  try clear hfz17_0
  try clear hfz17_1
  obtain ⟨kq, x19_3, rfl, HA, HJ3, BK501, BK502, HB⟩ := hcut
  cases kq with
  | zero => exact absurd HA.out (by simp [impl_FollowTurns.j0])
  | succ kj3 =>
   have H := HA.out
   clear HA
   simp only [impl_FollowTurns.j0] at H
   by_cases c19 : x19_3 = true
   ·subst c19
    have H1 : (some ([] : List Int)) = some r := by rw [if_pos rfl] at H; exact H
    clear H
    have H := H1
    clear H1
    obtain rfl := Option.some.inj H
    go_wp2
    go_ret
    exact ⟨_, ex_, by first | exact Kd.R_nil _ _ _ _ _ | exact Kd.N_nil _ _ _ _ _ | exact Kd.V_nil _ _ _ _ _ | exact Kd.Q_nil _ _ _ _ _ | exact Kd.S_nil _ _ _ _ _, hb2_ HB.out GE501.out GE502.out⟩
   ·replace c19 := Bool.eq_false_iff.mpr c19
    subst c19
    have H1 : (impl_FollowTurns.l0 kj3 (([a1_0] : List Int)) l2 (l2.length : Int) 0 a0_0 a0_1 a0_2 a1_0 a1_1) = some r := by rw [if_neg (show ¬ (false = true) by decide)] at H; exact H
    clear H
    have H := H1
    clear H1
    obtain ⟨y505, hy505⟩ : ∃ y_ : List Int, y_ = (([a1_0] : List Int)) := ⟨_, rfl⟩
    replace H : (impl_FollowTurns.l0 kj3 y505 l2 (l2.length : Int) 0 a0_0 a0_1 a0_2 a1_0 a1_1) = some r := by first | (rw [hy505]; with_reducible exact H) | (have H2_ := (Option.bind_some _ _).symm.trans H; rw [hy505]; with_reducible exact H2_) | (have H2_ := (Option.bind_some _ _).symm.trans H; with_reducible exact H2_) | with_reducible exact H | (rw [hy505]; exact H) | exact H
    have Ny505 := Aside0.mk hy505
    clear hy505
    have H' := Aside0.mk H
    clear H
    have hnb20 := NB502_501.out
    have hnc20 := NB501_502.out
    obtain ⟨hcz21_0, hcz21_1⟩ := cz2_ BK502.out
    obtain ⟨hfz21_0, hfz21_1⟩ := fz2_ BK502.out
    go_wp2_with (first | ((with_reducible refine gate_dst (N := 22) rfl ?_); refine Kd.R_lit (Kd.int .i64) _ 3 ?hg (N := 22) ?hd (xs := ([a1_0] : List Int)) (inner := [.int .i64 a1_0]) (ok := fun _ => True) (okp := fun _ => True) ?hr ?hp (fun _ hk => hk) trivial (Below.refl _ _) (Nat.le_refl _) (by simp) ?_; (case hd => rfl); (case hg => rfl); (case hr => first | (go_simp; done) | (go_simp; rfl)); (case hp => exact (Reps.one (show Kd.M (Kd.int .i64) _ _ _ a1_0 [.int .i64 a1_0] from rfl) (Reps.none _ _))); intro v506 w22 ho23 hb hg_ hnew_; clear hg_ hnew_; (first | rw [← Ny505.out] at ho23 | (simp only [Int.reduceToNat] at ho23; rw [← Ny505.out] at ho23)); have HO507 := Aside0.mk (Kd.R_lower ho23 (below_size (hb2_ HB.out GE501.out GE502.out))); replace BK501 := BK501.bb hb; replace BK502 := BK502.bb hb; replace HB := HB.s2 GE501 GE502 hb; clear hb ho23))
    go_loopg [7, 25] kj3 (fun kq v7 v25 w' => ∃ (x7_2 : List Int) (x25_2 : Int) (x503000_2 : Int) (x503001_2 : Int), v25 = .int .i64 x25_2 ∧ Aside0 (impl_FollowTurns.l0 kq x7_2 l2 (l2.length : Int) x25_2 a0_0 a0_1 a0_2 x503000_2 x503001_2 = some r) ∧ Aside0 (kq ≤ kj3) ∧ Aside0 (Kd.R (Kd.int .i64) 3 w' w.heap.size (fun _ => True) v7 x7_2) ∧ Aside0 (w'.heap[gb501]? = some (.cells #[.int .i64 a0_0, .int .i64 a0_1, .int .i64 a0_2] 30 (0, 0))) ∧ Aside0 (w'.heap[gb502]? = some (.cells #[.int .i64 x503000_2, .int .i64 x503001_2] 32 (0, 0))) ∧ Aside0 (Below w.heap.size w w'))
    case atStart => exact ⟨(y505), (0), (a1_0), (a1_1), (by first | rfl | (simp; done) | (simp [*]; done)), H', ⟨Nat.le_refl _⟩, ⟨kr_ HO507.out⟩, ⟨bk_ BK501.out⟩, ⟨bk_ BK502.out⟩, ⟨hb2_ HB.out GE501.out GE502.out⟩⟩
    case round =>
     clear H'
     try clear c1
     try clear c2
     try clear p2
     try clear c8
     try clear c10
     try clear c12
     try clear c15
     try clear c19
     try clear c20
     try clear hcz11_0
     try clear hcz11_1
     try clear hcz11_2
     try clear hcz12_0
     try clear hcz12_1
     try clear hcz16_0
     try clear hcz16_1
     try clear hcz16_2
     try clear hcz17_0
     try clear hcz17_1
     try clear hcz21_0
     try clear hcz21_1
     try clear hfz11_0
     try clear hfz11_1
     try clear hfz11_2
     try clear hfz12_0
     try clear hfz12_1
     try clear hfz16_0
     try clear hfz16_1
     try clear hfz16_2
     try clear hfz17_0
     try clear hfz17_1
     try clear hfz21_0
     try clear hfz21_1
     try clear p2
     obtain ⟨x7_2, x25_2, x503000_2, x503001_2, rfl, HA, HK2, HO_7, BK501, BK502, HB⟩ := hrel
     cases gk with
     | zero => exact absurd HA.out (by simp [impl_FollowTurns.l0])
     | succ k2 =>
      have H := HA.out
      clear HA
      simp only [impl_FollowTurns.l0] at H
      by_cases c24 : x25_2 < (l2.length : Int)
      ·rw [if_pos c24] at H
       have c24b0 : decide (x25_2 < (l2.length : Int)) = true := decide_eq_true c24
       clear c24
       by_cases c25 : 0 ≤ x25_2
       ·rw [if_pos c25] at H
        have c25b0 : decide (0 ≤ x25_2) = true := decide_eq_true c25
        clear c25
        by_cases c26 : x25_2 < (l2.length : Int)
        ·rw [if_pos c26] at H
         have c26b0 : decide (x25_2 < (l2.length : Int)) = true := decide_eq_true c26
         clear c26
         replace H := Option.bind_eq_some_iff.mp H
         obtain ⟨t509, A270, H⟩ := H
         replace H : (if t509 ≥ 0 then (if x7_2.length < 17592186044416 then (impl_FollowTurns.l0 k2 (x7_2 ++ [t509]) l2 (l2.length : Int) (wrap64 (x25_2 + 1)) a0_0 a0_1 a0_2 t509 (Int.tmod (wrap64 (x503001_2 + (rd l2 x25_2))) 4)) else (none)) else (if x7_2.length < 17592186044416 then (impl_FollowTurns.l0 k2 (x7_2 ++ [x503000_2]) l2 (l2.length : Int) (wrap64 (x25_2 + 1)) a0_0 a0_1 a0_2 x503000_2 (Int.tmod (wrap64 (x503001_2 + (rd l2 x25_2))) 4)) else (none))) = some r := H
         have A27 := Aside0.mk A270
         clear A270
         by_cases c28 : t509 ≥ 0
         ·rw [if_pos c28] at H
          have c28b0 : decide (0 ≤ t509) = true := decide_eq_true c28
          clear c28
          by_cases c29 : x7_2.length < 17592186044416
          ·rw [if_pos c29] at H
           have LMc29 := Aside0.mk c29
           clear c29
           obtain ⟨y510, hy510⟩ : ∃ y_ : List Int, y_ = (x7_2 ++ [t509]) := ⟨_, rfl⟩
           replace H : (impl_FollowTurns.l0 k2 y510 l2 (l2.length : Int) (wrap64 (x25_2 + 1)) a0_0 a0_1 a0_2 t509 (Int.tmod (wrap64 (x503001_2 + (rd l2 x25_2))) 4)) = some r := by first | (rw [hy510]; with_reducible exact H) | (have H2_ := (Option.bind_some _ _).symm.trans H; rw [hy510]; with_reducible exact H2_) | (have H2_ := (Option.bind_some _ _).symm.trans H; with_reducible exact H2_) | with_reducible exact H | (rw [hy510]; exact H) | exact H
           have Ny510 := Aside0.mk hy510
           clear hy510
           have H' := Aside0.mk H
           clear H
           have p508 : 0 ≤ (x25_2 : Int) := of_decide_eq_true (as_)
           have q508 : x25_2 < (l2.length : Int) := of_decide_eq_true (as_)
           obtain ⟨ad508, e508, hx508_0⟩ := Kd.at_int HR2.out x25_2 p508 q508
           cases e508
           replace hx508_0 := (HB.out.cell (World.block_lt_of_cell? w _ hx508_0)).trans hx508_0
           replace p508 := eq_true p508
           replace q508 := eq_true q508
           have hnb30 := NB502_501.out
           have hnc30 := NB501_502.out
           obtain ⟨hcz31_0, hcz31_1⟩ := cz2_ BK502.out
           obtain ⟨hfz31_0, hfz31_1⟩ := fz2_ BK502.out
           obtain ⟨hcz32_0, hcz32_1, hcz32_2⟩ := cz3_ BK501.out
           obtain ⟨hfz32_0, hfz32_1, hfz32_2⟩ := fz3_ BK501.out
           go_wp2_with (first | (refine gl_ 40 Try.func28 #[.agg #[.int .i64 a0_0, .int .i64 a0_1, .int .i64 a0_2], .int .i64 x503000_2, .int .i64 (Int.tmod (wrap64 (x503001_2 + (rd l2 x25_2))) 4)] ?_; (with_reducible refine (impl_Step.calls k2 a0_0 a0_1 a0_2 x503000_2 (Int.tmod (wrap64 (x503001_2 + (rd l2 x25_2))) 4) t509 _ A27.out).mono ?_); rintro e w33 ⟨rfl, hb⟩; refine ⟨_, rfl, ?_⟩; replace HO_7 := Aside0.mk (Kd.R_below (by (with_reducible repeat (first | apply Kd.R_alloc | apply Kd.R_drewN | apply Kd.R_drew)); exact (Kd.R_mono (Kd.R_far (p := ⟨gb502, 1, none⟩) (Kd.R_types HO_7.out BK502.out (by decide)) (fun _ hk => hk.2) (.int .i64 (Int.tmod (wrap64 (x503001_2 + (rd l2 x25_2))) 4))) (fun _ h_ => h_.1))) hb); replace BK501 := Aside0.mk (blk_below (g := gb501) (o := .cells #[.int .i64 a0_0, .int .i64 a0_1, .int .i64 a0_2] 30 (0, 0)) (by (with_reducible repeat (first | refine blk_drewN ?_ _ | refine blk_drew ?_ | refine blk_alloc ?_ _)); refine blk_far ?_ NB501_502.out _; (with_reducible repeat (first | refine blk_drewN ?_ _ | refine blk_drew ?_ | refine blk_alloc ?_ _)); exact BK501.out) hb); replace BK502 := Aside0.mk (blk_below (g := gb502) (o := .cells #[.int .i64 x503000_2, .int .i64 (Int.tmod (wrap64 (x503001_2 + (rd l2 x25_2))) 4)] 32 (0, 0)) (by (with_reducible repeat (first | refine blk_drewN ?_ _ | refine blk_drew ?_ | refine blk_alloc ?_ _)); refine blk_put (cs := #[.int .i64 x503000_2, .int .i64 x503001_2]) ?_ 1 _ rfl; (with_reducible repeat (first | refine blk_drewN ?_ _ | refine blk_drew ?_ | refine blk_alloc ?_ _)); exact BK502.out) hb); replace HB := HB.s2 GE501 GE502 hb; (try clear hb); obtain ⟨hcz34_0, hcz34_1⟩ := cz2_ BK502.out; obtain ⟨hfz34_0, hfz34_1⟩ := fz2_ BK502.out) | ((with_reducible refine gate_builtin (b := .append) (xs := #[.tmp 45, .tmp 48]) rfl ?_); at_builtin; refine Kd.R_append (Kd.int .i64) (w0 := w) w.heap.size rfl (.tmp 45) (.tmp 48) 26 3 (.int .i64 0) 8 rfl Try.underlying26 info3 rfl (by decide) (by omega) u7 x7_2 t509 [.int .i64 t509] (fun _ => True) (fun _ => False) rfl (by first | (go_simp; done) | (go_simp; rfl)) ?aP (fun _ hk => hk.elim) ?aF ?aO ?aB ?aS ?aL ?_; (case aP => exact rfl); (case aB => exact (hb2_ HB.out GE501.out GE502.out)); (case aF => exact (fun _ _ => trivial)); (case aO => exact (by (with_reducible repeat (first | apply Kd.R_alloc | apply Kd.R_drewN | apply Kd.R_drew)); exact Kd.R_mono (Kd.R_far (p := ⟨gb502, 0, none⟩) (Kd.R_types HO_7.out BK502.out (by decide)) (fun _ hk => hk.2) (.int .i64 t509)) (fun _ hk => trivial))); (case aS => exact (below_size (hb2_ HB.out GE501.out GE502.out))); (case aL => have := LMc29.out; omega); intro v511 w35 ho hb hg hat; rw [← Ny510.out] at ho; replace BK501 := Aside0.mk (blk_grown (g := gb501) (o := .cells #[.int .i64 a0_0, .int .i64 a0_1, .int .i64 a0_2] 30 (0, 0)) (by (with_reducible repeat (first | refine blk_drewN ?_ _ | refine blk_drew ?_ | refine blk_alloc ?_ _)); refine blk_far ?_ NB501_502.out _; (with_reducible repeat (first | refine blk_drewN ?_ _ | refine blk_drew ?_ | refine blk_alloc ?_ _)); exact BK501.out) hg (Kd.R_ne HO_7.out BK501.out (by decide))); replace BK502 := Aside0.mk (blk_grown (g := gb502) (o := .cells #[.int .i64 t509, .int .i64 (Int.tmod (wrap64 (x503001_2 + (rd l2 x25_2))) 4)] 32 (0, 0)) (by (with_reducible repeat (first | refine blk_drewN ?_ _ | refine blk_drew ?_ | refine blk_alloc ?_ _)); refine blk_put (cs := #[.int .i64 x503000_2, .int .i64 (Int.tmod (wrap64 (x503001_2 + (rd l2 x25_2))) 4)]) ?_ 0 _ rfl; (with_reducible repeat (first | refine blk_drewN ?_ _ | refine blk_drew ?_ | refine blk_alloc ?_ _)); exact BK502.out) hg (Kd.R_ne HO_7.out BK502.out (by decide))); replace HB := Aside0.mk (hb); have HO512 := Aside0.mk (ho); clear HO_7; clear ho hb hg hat))
           go_roundg k2
           case measure => have := HJ3.out; have := HK2.out; omega
           case rel => exact ⟨(y510), (wrap64 (x25_2 + 1)), (t509), (Int.tmod (wrap64 (x503001_2 + (rd l2 x25_2))) 4), (by first | rfl | (simp; done) | (simp [*]; done)), H', ⟨by have := HJ3.out; have := HK2.out; omega⟩, ⟨kr_ HO512.out⟩, ⟨bk_ BK501.out⟩, ⟨bk_ BK502.out⟩, ⟨hb2_ HB.out GE501.out GE502.out⟩⟩
          ·rw [if_neg c29] at H
           exact absurd H (by simp)
         ·rw [if_neg c28] at H
          have c28b0 : decide (0 ≤ t509) = false := decide_eq_false c28
          clear c28
          by_cases c36 : x7_2.length < 17592186044416
          ·rw [if_pos c36] at H
           have LMc36 := Aside0.mk c36
           clear c36
           obtain ⟨y513, hy513⟩ : ∃ y_ : List Int, y_ = (x7_2 ++ [x503000_2]) := ⟨_, rfl⟩
           replace H : (impl_FollowTurns.l0 k2 y513 l2 (l2.length : Int) (wrap64 (x25_2 + 1)) a0_0 a0_1 a0_2 x503000_2 (Int.tmod (wrap64 (x503001_2 + (rd l2 x25_2))) 4)) = some r := by first | (rw [hy513]; with_reducible exact H) | (have H2_ := (Option.bind_some _ _).symm.trans H; rw [hy513]; with_reducible exact H2_) | (have H2_ := (Option.bind_some _ _).symm.trans H; with_reducible exact H2_) | with_reducible exact H | (rw [hy513]; exact H) | exact H
           have Ny513 := Aside0.mk hy513
           clear hy513
           have H' := Aside0.mk H
           clear H
           have p508 : 0 ≤ (x25_2 : Int) := of_decide_eq_true (as_)
           have q508 : x25_2 < (l2.length : Int) := of_decide_eq_true (as_)
           obtain ⟨ad508, e508, hx508_0⟩ := Kd.at_int HR2.out x25_2 p508 q508
           cases e508
           replace hx508_0 := (HB.out.cell (World.block_lt_of_cell? w _ hx508_0)).trans hx508_0
           replace p508 := eq_true p508
           replace q508 := eq_true q508
           have hnb37 := NB502_501.out
           have hnc37 := NB501_502.out
           obtain ⟨hcz38_0, hcz38_1⟩ := cz2_ BK502.out
           obtain ⟨hfz38_0, hfz38_1⟩ := fz2_ BK502.out
           obtain ⟨hcz39_0, hcz39_1, hcz39_2⟩ := cz3_ BK501.out
           obtain ⟨hfz39_0, hfz39_1, hfz39_2⟩ := fz3_ BK501.out
           go_wp2_with (first | (refine gl_ 40 Try.func28 #[.agg #[.int .i64 a0_0, .int .i64 a0_1, .int .i64 a0_2], .int .i64 x503000_2, .int .i64 (Int.tmod (wrap64 (x503001_2 + (rd l2 x25_2))) 4)] ?_; (with_reducible refine (impl_Step.calls k2 a0_0 a0_1 a0_2 x503000_2 (Int.tmod (wrap64 (x503001_2 + (rd l2 x25_2))) 4) t509 _ A27.out).mono ?_); rintro e w40 ⟨rfl, hb⟩; refine ⟨_, rfl, ?_⟩; replace HO_7 := Aside0.mk (Kd.R_below (by (with_reducible repeat (first | apply Kd.R_alloc | apply Kd.R_drewN | apply Kd.R_drew)); exact (Kd.R_mono (Kd.R_far (p := ⟨gb502, 1, none⟩) (Kd.R_types HO_7.out BK502.out (by decide)) (fun _ hk => hk.2) (.int .i64 (Int.tmod (wrap64 (x503001_2 + (rd l2 x25_2))) 4))) (fun _ h_ => h_.1))) hb); replace BK501 := Aside0.mk (blk_below (g := gb501) (o := .cells #[.int .i64 a0_0, .int .i64 a0_1, .int .i64 a0_2] 30 (0, 0)) (by (with_reducible repeat (first | refine blk_drewN ?_ _ | refine blk_drew ?_ | refine blk_alloc ?_ _)); refine blk_far ?_ NB501_502.out _; (with_reducible repeat (first | refine blk_drewN ?_ _ | refine blk_drew ?_ | refine blk_alloc ?_ _)); exact BK501.out) hb); replace BK502 := Aside0.mk (blk_below (g := gb502) (o := .cells #[.int .i64 x503000_2, .int .i64 (Int.tmod (wrap64 (x503001_2 + (rd l2 x25_2))) 4)] 32 (0, 0)) (by (with_reducible repeat (first | refine blk_drewN ?_ _ | refine blk_drew ?_ | refine blk_alloc ?_ _)); refine blk_put (cs := #[.int .i64 x503000_2, .int .i64 x503001_2]) ?_ 1 _ rfl; (with_reducible repeat (first | refine blk_drewN ?_ _ | refine blk_drew ?_ | refine blk_alloc ?_ _)); exact BK502.out) hb); replace HB := HB.s2 GE501 GE502 hb; (try clear hb); obtain ⟨hcz41_0, hcz41_1⟩ := cz2_ BK502.out; obtain ⟨hfz41_0, hfz41_1⟩ := fz2_ BK502.out) | ((with_reducible refine gate_builtin (b := .append) (xs := #[.tmp 45, .tmp 48]) rfl ?_); at_builtin; refine Kd.R_append (Kd.int .i64) (w0 := w) w.heap.size rfl (.tmp 45) (.tmp 48) 26 3 (.int .i64 0) 8 rfl Try.underlying26 info3 rfl (by decide) (by omega) u7 x7_2 x503000_2 [.int .i64 x503000_2] (fun _ => True) (fun _ => False) rfl rfl ?aP (fun _ hk => hk.elim) ?aF ?aO ?aB ?aS ?aL ?_; (case aP => exact rfl); (case aB => exact (hb2_ HB.out GE501.out GE502.out)); (case aF => exact (fun _ _ => trivial)); (case aO => exact (kr_ HO_7.out)); (case aS => exact (below_size (hb2_ HB.out GE501.out GE502.out))); (case aL => have := LMc36.out; omega); intro v514 w42 ho hb hg hat; rw [← Ny513.out] at ho; replace BK501 := Aside0.mk (blk_grown (g := gb501) (o := .cells #[.int .i64 a0_0, .int .i64 a0_1, .int .i64 a0_2] 30 (0, 0)) (bk_ BK501.out) hg (Kd.R_ne HO_7.out BK501.out (by decide))); replace BK502 := Aside0.mk (blk_grown (g := gb502) (o := .cells #[.int .i64 x503000_2, .int .i64 (Int.tmod (wrap64 (x503001_2 + (rd l2 x25_2))) 4)] 32 (0, 0)) (bk_ BK502.out) hg (Kd.R_ne HO_7.out BK502.out (by decide))); replace HB := Aside0.mk (hb); have HO515 := Aside0.mk (ho); clear HO_7; clear ho hb hg hat))
           go_roundg k2
           case measure => have := HJ3.out; have := HK2.out; omega
           case rel => exact ⟨(y513), (wrap64 (x25_2 + 1)), (x503000_2), (Int.tmod (wrap64 (x503001_2 + (rd l2 x25_2))) 4), (by first | rfl | (simp; done) | (simp [*]; done)), H', ⟨by have := HJ3.out; have := HK2.out; omega⟩, ⟨kr_ HO515.out⟩, ⟨bk_ BK501.out⟩, ⟨bk_ BK502.out⟩, ⟨hb2_ HB.out GE501.out GE502.out⟩⟩
          ·rw [if_neg c36] at H
           exact absurd H (by simp)
        ·rw [if_neg c26] at H
         exact absurd H (by simp)
       ·rw [if_neg c25] at H
        exact absurd H (by simp)
      ·rw [if_neg c24] at H
       have c24b0 : decide (x25_2 < (l2.length : Int)) = false := decide_eq_false c24
       clear c24
       obtain rfl := Option.some.inj H
       go_wp2
       go_ret
       exact ⟨_, ex_, kr_ HO_7.out, hb2_ HB.out GE501.out GE502.out⟩

/-! ### impl_CoversAll: function 11 -/
def impl_CoversAll.f (k : Nat) (a0_0 : Int) (a0_1 : Int) (a0_2 : Int) (a1_0 : Int) (a1_1 : Int) (l2 : List Int) : Option (Bool) := (impl_FollowTurns.f k a0_0 a0_1 a0_2 a1_0 a1_1 l2).bind fun t503 => (if (t503.length : Int) > 0 then ((impl_ordered.f t503).bind fun t506 => ((impl_CountCells.f a0_0 a0_1).bind fun t509 => (some ((t506.length : Int) == t509)))) else (some false))
theorem impl_CoversAll.mono : ∀ a0 a1 a2 a3 a4 a5 k, LeO (impl_CoversAll.f k a0 a1 a2 a3 a4 a5) (impl_CoversAll.f (k + 1) a0 a1 a2 a3 a4 a5) := by
 intro a0 a1 a2 a3 a4 a5 k
 unfold impl_CoversAll.f
 repeat' first
   | (with_reducible exact impl_FollowTurns.mono ..)
   | (with_reducible first | exact lr_ _ | exact ln_ _ | refine li_ ?_ ?_ | refine lb_ ?_ fun _ => ?_)
   | exact impl_FollowTurns.mono ..
   | exact ln_ _ | refine li_ ?_ ?_ | refine lb_ ?_ fun _ => ?_
def impl_CoversAll.T2 : Bool × List (List Nat × List Nat) := (true, [([], []), ([0], [0]), ([1], [1]), ([2], [2]), ([3], [3]), ([4, 3, 3], [3, 4]), ([5, 3], [3, 5]), ([3], [3]), ([7, 3], [3, 7]), ([8, 5, 3], [3, 8]), ([6, 9, 3], [3, 6, 9]), ([3, 10], [3, 10]), ([11, 9, 0, 1, 2, 3, 4, 5, 6, 7, 8, 9, 10, 11], [11])])
def impl_CoversAll.B2 : List Nat := [0, 1, 3, 7, 15, 31, 63, 15, 143, 447, 1023, 2047, 4095]
theorem impl_CoversAll.tab2 : rtab .any (opsOf Try.f11 2) = impl_CoversAll.T2 := by kernel_rfl
theorem impl_CoversAll.bits2 : waitsOk impl_CoversAll.T2.2 impl_CoversAll.B2 = true := by kernel_rfl
set_option maxHeartbeats 8000000 in
set_option maxRecDepth 100000 in
theorem impl_CoversAll.calls (k : Nat) (a0_0 : Int) (a0_1 : Int) (a0_2 : Int) (a1_0 : Int) (a1_1 : Int) (A2 : Option Addr) (c2 : Nat) (l2 : List Int) (r : Bool) (w : World) (hr2 : Kd.C (Kd.int .i64) w A2 l2.length l2) (hc2 : l2.length ≤ c2) (h : impl_CoversAll.f k a0_0 a0_1 a0_2 a1_0 a1_1 l2 = some r) :
  Calls Try.prog 11 #[.agg #[.int .i64 a0_0, .int .i64 a0_1, .int .i64 a0_2], .agg #[.int .i64 a1_0, .int .i64 a1_1], .slice A2 l2.length c2] w fun e w' => e = .returned (.bool r) ∧ Below w.heap.size w w' := by
 have hu30 := Try.underlying30
 have hu32 := Try.underlying32
 have hu25 := Try.underlying25
 have HR2 := Aside0.mk hr2
 have HC2 := Aside0.mk hc2
 clear hr2 hc2
 have HB := Aside0.mk (Below.refl w.heap.size w)
 have H : ((impl_FollowTurns.f k a0_0 a0_1 a0_2 a1_0 a1_1 l2).bind fun t503 => (if (t503.length : Int) > 0 then ((impl_ordered.f t503).bind fun t506 => ((impl_CountCells.f a0_0 a0_1).bind fun t509 => (some ((t506.length : Int) == t509)))) else (some false))) = some r := h
 clear h
 replace H := Option.bind_eq_some_iff.mp H
 obtain ⟨t503, A40, H⟩ := H
 replace H : (if (t503.length : Int) > 0 then ((impl_ordered.f t503).bind fun t506 => ((impl_CountCells.f a0_0 a0_1).bind fun t509 => (some ((t506.length : Int) == t509)))) else (some false)) = some r := H
 have A4 := Aside0.mk A40
 clear A40
 by_cases c5 : (t503.length : Int) > 0
 ·rw [if_pos c5] at H
  have c5b0 : decide (0 < (t503.length : Int)) = true := decide_eq_true c5
  have c5b1 : decide (0 < t503.length) = true := decide_eq_true (by omega)
  clear c5
  replace H := Option.bind_eq_some_iff.mp H
  obtain ⟨t506, A60, H⟩ := H
  replace H : ((impl_CountCells.f a0_0 a0_1).bind fun t509 => (some ((t506.length : Int) == t509))) = some r := H
  have A6 := Aside0.mk A60
  clear A60
  replace H := Option.bind_eq_some_iff.mp H
  obtain ⟨t509, A70, H⟩ := H
  replace H : (some ((t506.length : Int) == t509)) = some r := H
  have A7 := Aside0.mk A70
  clear A70
  obtain rfl := Option.some.inj H
  go_enter Try.func11, Try.ntmps11
  try go_wp2_with (first | ((with_reducible refine gate_dst (N := 3) rfl ?_); (try (refine gate_guard (by rfl) ?_; dsimp only)); refine box_event ?hg (N := 3) ?hd (cs := #[.int .i64 a0_0, .int .i64 a0_1, .int .i64 a0_2]) (t := 30) ?hr ?_; (case hd => rfl); (case hg => rfl); (case hr => first | (go_simp; done) | (go_simp; rfl)); intro gb501 hg w8 hbox hb; have BK501 := Aside0.mk (hbox); have GW501 := HB.g0 hg; have GE501 := HB.g0 hg; replace HB := HB.s0 hb; clear hb hbox hg) | ((with_reducible refine gate_dst (N := 4) rfl ?_); (try (refine gate_guard (by rfl) ?_; dsimp only)); refine box_event ?hg (N := 4) ?hd (cs := #[.int .i64 a1_0, .int .i64 a1_1]) (t := 32) ?hr ?_; (case hd => rfl); (case hg => rfl); (case hr => first | (go_simp; done) | (go_simp; rfl)); intro gb502 hg w9 hbox hb; have BK502 := Aside0.mk (hbox); have GW502 := HB.g1 GE501 hg; have GE502 := HB.g1 GE501 hg; replace HB := HB.s1 GE501 hb; have NB501_502 := BK501.nl hg; have NB502_501 := BK501.nr hg; replace BK501 := BK501.bb hb; clear hb hbox hg; have hnb10 := NB501_502.out; have hnc10 := NB502_501.out; obtain ⟨hcz11_0, hcz11_1, hcz11_2⟩ := cz3_ BK501.out; obtain ⟨hfz11_0, hfz11_1, hfz11_2⟩ := fz3_ BK501.out; obtain ⟨hcz12_0, hcz12_1⟩ := cz2_ BK502.out; obtain ⟨hfz12_0, hfz12_1⟩ := fz2_ BK502.out) | (refine gl_ 11 Try.func12 #[.agg #[.int .i64 a0_0, .int .i64 a0_1, .int .i64 a0_2], .agg #[.int .i64 a1_0, .int .i64 a1_1], .slice A2 l2.length c2] ?_; (with_reducible refine (impl_FollowTurns.calls k a0_0 a0_1 a0_2 a1_0 a1_1 _ _ l2 t503 _ ?side1 ?side2 A4.out).mono ?_); (case side1 => repeat (first | exact (Kd.C_below HR2.out HB.out) | (with_reducible refine Kd.C_alloc ?_ _) | (with_reducible refine Kd.C_drewN ?_ _) | (with_reducible refine Kd.C_drew ?_))); (case side2 => exact HC2.out); rintro e w13 ⟨v504, rfl, ho0, hb⟩; refine ⟨_, rfl, ?_⟩; have HO505 := Aside0.mk (Kd.R_lower ho0 (below_size (hb2_ HB.out GE501.out GE502.out))); replace BK501 := BK501.bb hb; replace BK502 := BK502.bb hb; replace HB := HB.s2 GE501 GE502 hb; (try clear hb); (try clear ho0)))
  replace HO505 := Aside0.mk (Kd.R_drew HO505.out)
  replace BK501 := Aside0.mk (blk_drew BK501.out)
  replace BK502 := Aside0.mk (blk_drew BK502.out)
  replace HB := Aside0.mk (below_drew1 HB.out)
  obtain ⟨Ao15, co15, eo15⟩ := Kd.R_slice HO505.out
  (first | subst eo15 | (injection eo15 with f1_ f2_ f3_; have f4_ := f1_.symm; have f5_ := f3_.symm; clear f1_ f2_ f3_; subst f4_; subst f5_))
  refine start_ (n := 13) (S := fun w' => w'.cell? ⟨gb501, 0, none⟩ = some (.int .i64 a0_0) ∧ w'.cell? ⟨gb501, 1, none⟩ = some (.int .i64 a0_1) ∧ w'.cell? ⟨gb501, 2, none⟩ = some (.int .i64 a0_2)) (ds := []) #[false, false, false, false, false, false, false, false, false, false, false, false, false] (by kernel_rfl) rfl rfl ⟨BK501.c 0, BK501.c 1, BK501.c 2⟩ (fun hHeld => ?_); refine with_tabW impl_CoversAll.tab2 impl_CoversAll.bits2 (fun HT_ HW_ => ?_)
  generalize w13.drew = w14 at HO505 BK501 BK502 HB hHeld ⊢
  refine pv_ (i := 0) (N := some 12) HT_.out ?_
  refine pv_ (i := 1) (N := some 13) HT_.out ?_
  refine pv_ (i := 2) (N := some 14) HT_.out ?_
  refine pv_ (i := 3) (N := some 15) HT_.out ?_
  refine pv_ (i := 4) (N := some 16) HT_.out ?_
  refine pv_ (i := 7) (N := some 19) HT_.out ?_
  refine tv3_ (i := 8) (N := some 20) HT_.out HW_.out hHeld ?_
  refine ov_ (i := 5) (N := some 17) HT_.out (fun K hK => ?_)
  refine gq_ Try.func26 #[.slice Ao15 t503.length co15] ?_
  with_reducible refine (impl_ordered.calls (fun k_ => some k_ = (.slice Ao15 t503.length co15 : Value).ownBlock) (.slice Ao15 t503.length co15) t503 t506 w _ ?side1 ?side2 A6.out).mono ?_
  (case side1 => repeat (first | (with_reducible first | exact HB.out | apply below_alloc | apply pw_below_drewN | apply below_drew1 | refine below_set ?_ GE501.out | refine below_set ?_ GE502.out) | exact HB.out))
  (case side2 => exact Kd.R_tight rfl HO505.out)
  rintro e w16 ⟨v507, rfl, ho0, hb, hkp⟩
  refine ⟨_, rfl, ?_⟩
  replace BK501 := Aside0.mk (blk_kept (bk_ BK501.out) hkp (fun hs_ => (fun e_ => (Kd.R_ne HO505.out BK501.out (by decide)) e_) hs_))
  replace BK502 := Aside0.mk (blk_kept (bk_ BK502.out) hkp (fun hs_ => (fun e_ => (Kd.R_ne HO505.out BK502.out (by decide)) e_) hs_))
  have HO508 := Aside0.mk (Kd.R_mono (ok' := fun k_ => True) ho0 (fun k_ hk_ => trivial))
  replace HB := Aside0.mk (hb)
  clear HO505
  skip
  (try clear hkp)
  (try clear ho0)
  obtain ⟨Ao17, co17, eo17⟩ := Kd.R_slice HO508.out
  (first | subst eo17 | (injection eo17 with f1_ f2_ f3_; have f4_ := f1_.symm; have f5_ := f3_.symm; clear f1_ f2_ f3_; subst f4_; subst f5_))
  refine hK.out _ _ ⟨BK501.c 0, BK501.c 1, BK501.c 2⟩ (fun hHeld => ?_)
  clear hK K
  refine nm_ ?_
  refine pv_ (i := 6) (N := some 18) HT_.out ?_
  refine ov_ (i := 9) (N := some 21) HT_.out (fun K hK => ?_)
  refine gq_ Try.func21 #[.agg #[.int .i64 a0_0, .int .i64 a0_1]] ?_
  with_reducible refine (impl_CountCells.calls a0_0 a0_1 t509 _ A7.out).mono ?_
  rintro e w18 ⟨rfl, hb⟩
  refine ⟨_, rfl, ?_⟩
  replace HO508 := HO508.kb hb
  replace BK501 := BK501.bb hb
  replace BK502 := BK502.bb hb
  replace HB := HB.s2 GE501 GE502 hb
  skip
  (try clear hb2)
  (try clear hk)
  (try clear hi)
  refine hK.out _ _ ⟨BK501.c 0, BK501.c 1, BK501.c 2⟩ (fun hHeld => ?_)
  clear hK K
  refine nm_ ?_
  refine pv_ (i := 10) (N := some 22) HT_.out ?_
  refine pv_ (i := 11) (N := some 23) HT_.out ?_
  refine pv_ (i := 12) (N := some 6) HT_.out ?_
  refine done_ (done_of HT_.out (by kernel_rfl)) ?_
  try go_wp2
  go_ret
  exact ⟨ex_, hb2_ HB.out GE501.out GE502.out⟩
 ·rw [if_neg c5] at H
  have c5b0 : decide (0 < (t503.length : Int)) = false := decide_eq_false c5
  have c5b1 : decide (0 < t503.length) = false := decide_eq_false (by omega)
  clear c5
  obtain rfl := Option.some.inj H
  go_enter Try.func11, Try.ntmps11
  try go_wp2_with (first | ((with_reducible refine gate_dst (N := 3) rfl ?_); (try (refine gate_guard (by rfl) ?_; dsimp only)); refine box_event ?hg (N := 3) ?hd (cs := #[.int .i64 a0_0, .int .i64 a0_1, .int .i64 a0_2]) (t := 30) ?hr ?_; (case hd => rfl); (case hg => rfl); (case hr => first | (go_simp; done) | (go_simp; rfl)); intro gb501 hg w19 hbox hb; have BK501 := Aside0.mk (hbox); have GW501 := HB.g0 hg; have GE501 := HB.g0 hg; replace HB := HB.s0 hb; clear hb hbox hg) | ((with_reducible refine gate_dst (N := 4) rfl ?_); (try (refine gate_guard (by rfl) ?_; dsimp only)); refine box_event ?hg (N := 4) ?hd (cs := #[.int .i64 a1_0, .int .i64 a1_1]) (t := 32) ?hr ?_; (case hd => rfl); (case hg => rfl); (case hr => first | (go_simp; done) | (go_simp; rfl)); intro gb502 hg w20 hbox hb; have BK502 := Aside0.mk (hbox); have GW502 := HB.g1 GE501 hg; have GE502 := HB.g1 GE501 hg; replace HB := HB.s1 GE501 hb; have NB501_502 := BK501.nl hg; have NB502_501 := BK501.nr hg; replace BK501 := BK501.bb hb; clear hb hbox hg; have hnb21 := NB501_502.out; have hnc21 := NB502_501.out; obtain ⟨hcz22_0, hcz22_1, hcz22_2⟩ := cz3_ BK501.out; obtain ⟨hfz22_0, hfz22_1, hfz22_2⟩ := fz3_ BK501.out; obtain ⟨hcz23_0, hcz23_1⟩ := cz2_ BK502.out; obtain ⟨hfz23_0, hfz23_1⟩ := fz2_ BK502.out) | (refine gl_ 11 Try.func12 #[.agg #[.int .i64 a0_0, .int .i64 a0_1, .int .i64 a0_2], .agg #[.int .i64 a1_0, .int .i64 a1_1], .slice A2 l2.length c2] ?_; (with_reducible refine (impl_FollowTurns.calls k a0_0 a0_1 a0_2 a1_0 a1_1 _ _ l2 t503 _ ?side1 ?side2 A4.out).mono ?_); (case side1 => repeat (first | exact (Kd.C_below HR2.out HB.out) | (with_reducible refine Kd.C_alloc ?_ _) | (with_reducible refine Kd.C_drewN ?_ _) | (with_reducible refine Kd.C_drew ?_))); (case side2 => exact HC2.out); rintro e w24 ⟨v504, rfl, ho0, hb⟩; refine ⟨_, rfl, ?_⟩; have HO505 := Aside0.mk (Kd.R_lower ho0 (below_size (hb2_ HB.out GE501.out GE502.out))); replace BK501 := BK501.bb hb; replace BK502 := BK502.bb hb; replace HB := HB.s2 GE501 GE502 hb; (try clear hb); (try clear ho0)))
  replace HO505 := Aside0.mk (Kd.R_drew HO505.out)
  replace BK501 := Aside0.mk (blk_drew BK501.out)
  replace BK502 := Aside0.mk (blk_drew BK502.out)
  replace HB := Aside0.mk (below_drew1 HB.out)
  obtain ⟨Ao26, co26, eo26⟩ := Kd.R_slice HO505.out
  (first | subst eo26 | (injection eo26 with f1_ f2_ f3_; have f4_ := f1_.symm; have f5_ := f3_.symm; clear f1_ f2_ f3_; subst f4_; subst f5_))
  refine start_ (n := 13) (S := fun w' => True) (ds := []) #[false, false, false, false, false, false, false, false, false, false, false, false, false] (by kernel_rfl) rfl rfl trivial (fun hHeld => ?_); refine with_tabW impl_CoversAll.tab2 impl_CoversAll.bits2 (fun HT_ HW_ => ?_)
  generalize w24.drew = w25 at HO505 BK501 BK502 HB hHeld ⊢
  refine pv_ (i := 0) (N := some 12) HT_.out ?_
  refine pv_ (i := 1) (N := some 13) HT_.out ?_
  refine pv_ (i := 2) (N := some 14) HT_.out ?_
  refine pv_ (i := 3) (N := some 15) HT_.out ?_
  refine pu_ (i := 4) (N := some 16) HT_.out ?_
  refine pu_ (i := 5) (N := some 17) HT_.out ?_
  refine pu_ (i := 6) (N := some 18) HT_.out ?_
  refine pu_ (i := 7) (N := some 19) HT_.out ?_
  refine pu_ (i := 8) (N := some 20) HT_.out ?_
  refine pu_ (i := 9) (N := some 21) HT_.out ?_
  refine pu_ (i := 10) (N := some 22) HT_.out ?_
  refine pv_ (i := 11) (N := some 23) HT_.out ?_
  refine pv_ (i := 12) (N := some 6) HT_.out ?_
  refine done_ (done_of HT_.out (by kernel_rfl)) ?_
  try go_wp2
  go_ret
  exact ⟨ex_, hb2_ HB.out GE501.out GE502.out⟩

end Go.Proofs.Ytjepgkbaoahjgaa.X
