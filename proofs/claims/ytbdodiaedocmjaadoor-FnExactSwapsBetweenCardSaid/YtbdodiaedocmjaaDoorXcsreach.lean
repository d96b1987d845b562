-- Written by a program of this session (xprint.py), out of the translation and of hand-written contracts. Lean checks it.
import Derived.Test.YtbdodiaedocmjaaDoorX0
import Derived.Test.YtbdodiaedocmjaaDoorXcgrid
import Derived.Test.YtbdodiaedocmjaaDoorXcin
import Derived.Test.YtbdodiaedocmjaaDoorXcmaze
import Derived.Test.YtbdodiaedocmjaaDoorXcstep
namespace Go.Proofs.YtbdodiaedocmjaaDoor.X
open Go.RowKit Go.Proofs.YtbdodiaedocmjaaDoorW.PrintWords Go.Proofs.YtbdodiaedocmjaaDoorW.PrintLast Go.Proofs.YtbdodiaedocmjaaDoorW.PrintMore
attribute [local go_sem] max2_int min2_int max_two min_two max_three min_three max_four min_four   -- for this text's walks alone
set_option linter.unusedVariables false
set_option linter.unusedSimpArgs false

/-! ### spec_l04Distances: function 46 -/
mutual
def spec_l04Distances.l0 : Nat → Int → List Int → Int → Int → Int → Int → Option (List Int)
 | 0, _, _, _, _, _, _ => none
 | k + 1, x1, x5, x6, x502000, x502001, x502002 => if x6 < (x5.length : Int) then (if 0 ≤ x6 then (spec_l04Distances.l0 k x1 (x5.set (x6 : Int).toNat (-1)) (wrap64 (x6 + 1)) x502000 x502001 x502002) else (none)) else (if 0 ≤ x1 then (if x1 < (x5.length : Int) then (spec_l04Distances.l1 k (x5.set (x1 : Int).toNat 0) (([x1] : List Int)) 0 x502000 x502001 x502002) else (none)) else (none))
def spec_l04Distances.l1 : Nat → List Int → List Int → Int → Int → Int → Int → Option (List Int)
 | 0, _, _, _, _, _, _ => none
 | k + 1, x5, x7, x8, x502000, x502001, x502002 => if x8 < (x7.length : Int) then (spec_l04Distances.l2 k x5 x7 x8 0 x502000 x502001 x502002) else (some x5)
def spec_l04Distances.l2 : Nat → List Int → List Int → Int → Int → Int → Int → Int → Option (List Int)
 | 0, _, _, _, _, _, _, _ => none
 | k + 1, x5, x7, x8, x9, x502000, x502001, x502002 => if x9 ≤ 3 then (if 0 ≤ x8 then (if x8 < (x7.length : Int) then ((spec_Step.f k x502000 x502001 x502002 (rd x7 x8) x9).bind fun t512 => (if t512 ≥ 0 then (if 0 ≤ t512 then (if t512 < (x5.length : Int) then (if (rd x5 t512) < 0 then (if 0 ≤ (rd x7 x8) then (if (rd x7 x8) < (x5.length : Int) then (if x7.length < 17592186044416 then (spec_l04Distances.l2 k (x5.set (t512 : Int).toNat (wrap64 ((rd x5 (rd x7 x8)) + 1))) (x7 ++ [t512]) x8 (wrap64 (x9 + 1)) x502000 x502001 x502002) else (none)) else (none)) else (none)) else (spec_l04Distances.l2 k x5 x7 x8 (wrap64 (x9 + 1)) x502000 x502001 x502002)) else (none)) else (none)) else (spec_l04Distances.l2 k x5 x7 x8 (wrap64 (x9 + 1)) x502000 x502001 x502002))) else (none)) else (none)) else (spec_l04Distances.l1 k x5 x7 (wrap64 (x8 + 1)) x502000 x502001 x502002)
end
def spec_l04Distances.f (k : Nat) (a0_0 : Int) (a0_1 : Int) (a0_2 : Int) (a1 : Int) : Option (List Int) := (spec_CountCells.f a0_0 a0_1).bind fun t502 => (if 0 ≤ t502 then (if (t502 : Int).toNat ≤ 35184372088832 then (spec_l04Distances.l0 k a1 (List.replicate (t502 : Int).toNat 0) 0 a0_0 a0_1 a0_2) else (none)) else (none))
theorem spec_l04Distances.mono_l : ∀ k, (∀ y0 y1 y2 y3 y4 y5, LeO (spec_l04Distances.l0 k y0 y1 y2 y3 y4 y5) (spec_l04Distances.l0 (k + 1) y0 y1 y2 y3 y4 y5)) ∧ (∀ y0 y1 y2 y3 y4 y5, LeO (spec_l04Distances.l1 k y0 y1 y2 y3 y4 y5) (spec_l04Distances.l1 (k + 1) y0 y1 y2 y3 y4 y5)) ∧ (∀ y0 y1 y2 y3 y4 y5 y6, LeO (spec_l04Distances.l2 k y0 y1 y2 y3 y4 y5 y6) (spec_l04Distances.l2 (k + 1) y0 y1 y2 y3 y4 y5 y6))
 | 0 => ⟨fun _ _ _ _ _ _ r h => by simp [spec_l04Distances.l0] at h, fun _ _ _ _ _ _ r h => by simp [spec_l04Distances.l1] at h, fun _ _ _ _ _ _ _ r h => by simp [spec_l04Distances.l2] at h⟩
 | k + 1 => by
  obtain ⟨ih0, ih1, ih2⟩ := spec_l04Distances.mono_l k
  refine ⟨?_, ?_, ?_⟩
  ·intro y0 y1 y2 y3 y4 y5
   unfold spec_l04Distances.l0
   repeat' first
   | (with_reducible exact ih0 ..)
   | (with_reducible exact ih1 ..)
   | (with_reducible exact ih2 ..)
   | (with_reducible exact spec_Step.mono ..)
   | (with_reducible first | exact lr_ _ | exact ln_ _ | refine li_ ?_ ?_ | refine lb_ ?_ fun _ => ?_)
   | exact ih0 ..
   | exact ih1 ..
   | exact ih2 ..
   | exact spec_Step.mono ..
   | exact ln_ _ | refine li_ ?_ ?_ | refine lb_ ?_ fun _ => ?_
  ·intro y0 y1 y2 y3 y4 y5
   unfold spec_l04Distances.l1
   repeat' first
   | (with_reducible exact ih0 ..)
   | (with_reducible exact ih1 ..)
   | (with_reducible exact ih2 ..)
   | (with_reducible exact spec_Step.mono ..)
   | (with_reducible first | exact lr_ _ | exact ln_ _ | refine li_ ?_ ?_ | refine lb_ ?_ fun _ => ?_)
   | exact ih0 ..
   | exact ih1 ..
   | exact ih2 ..
   | exact spec_Step.mono ..
   | exact ln_ _ | refine li_ ?_ ?_ | refine lb_ ?_ fun _ => ?_
  ·intro y0 y1 y2 y3 y4 y5 y6
   unfold spec_l04Distances.l2
   repeat' first
   | (with_reducible exact ih0 ..)
   | (with_reducible exact ih1 ..)
   | (with_reducible exact ih2 ..)
   | (with_reducible exact spec_Step.mono ..)
   | (with_reducible first | exact lr_ _ | exact ln_ _ | refine li_ ?_ ?_ | refine lb_ ?_ fun _ => ?_)
   | exact ih0 ..
   | exact ih1 ..
   | exact ih2 ..
   | exact spec_Step.mono ..
   | exact ln_ _ | refine li_ ?_ ?_ | refine lb_ ?_ fun _ => ?_
theorem spec_l04Distances.mono : ∀ a0 a1 a2 a3 k, LeO (spec_l04Distances.f k a0 a1 a2 a3) (spec_l04Distances.f (k + 1) a0 a1 a2 a3) := by
 intro a0 a1 a2 a3 k
 obtain ⟨ih0, ih1, ih2⟩ := spec_l04Distances.mono_l k
 unfold spec_l04Distances.f
 repeat' first
   | (with_reducible exact ih0 ..)
   | (with_reducible exact ih1 ..)
   | (with_reducible exact ih2 ..)
   | (with_reducible exact spec_Step.mono ..)
   | (with_reducible first | exact lr_ _ | exact ln_ _ | refine li_ ?_ ?_ | refine lb_ ?_ fun _ => ?_)
   | exact ih0 ..
   | exact ih1 ..
   | exact ih2 ..
   | exact spec_Step.mono ..
   | exact ln_ _ | refine li_ ?_ ?_ | refine lb_ ?_ fun _ => ?_
def spec_l04Distances.T14 : Bool × List (List Nat × List Nat) := (true, [([], []), ([], []), ([], []), ([1, 2], [1, 2]), ([3], [3]), ([], []), ([0, 4, 5], [0, 4, 5]), ([6, 6, 0, 1, 2, 3, 4, 5, 6], [6])])
def spec_l04Distances.B14 : List Nat := [0, 0, 0, 6, 14, 0, 63, 127]
theorem spec_l04Distances.tab14 : rtab .any (opsOf Tryd.f46 14) = spec_l04Distances.T14 := by kernel_rfl
theorem spec_l04Distances.bits14 : waitsOk spec_l04Distances.T14.2 spec_l04Distances.B14 = true := by kernel_rfl
set_option maxHeartbeats 8000000 in
set_option maxRecDepth 100000 in
theorem spec_l04Distances.calls (k : Nat) (a0_0 : Int) (a0_1 : Int) (a0_2 : Int) (a1 : Int) (r : List Int) (w : World) (h : spec_l04Distances.f k a0_0 a0_1 a0_2 a1 = some r) :
  Calls Tryd.prog 46 #[.agg #[.int .i64 a0_0, .int .i64 a0_1, .int .i64 a0_2], .int .i64 a1] w fun e w' => ∃ v0_ : Value, e = .returned (v0_) ∧ Kd.R (Kd.int .i64) 3 w' w.heap.size (fun _ => True) v0_ r ∧ Below w.heap.size w w' := by
 have hu28 := Tryd.underlying28
 have hu26 := Tryd.underlying26
 have HB := Aside0.mk (Below.refl w.heap.size w)
 have H : ((spec_CountCells.f a0_0 a0_1).bind fun t502 => (if 0 ≤ t502 then (if (t502 : Int).toNat ≤ 35184372088832 then (spec_l04Distances.l0 k a1 (List.replicate (t502 : Int).toNat 0) 0 a0_0 a0_1 a0_2) else (none)) else (none))) = some r := h
 clear h
 replace H := Option.bind_eq_some_iff.mp H
 obtain ⟨t502, A30, H⟩ := H
 replace H : (if 0 ≤ t502 then (if (t502 : Int).toNat ≤ 35184372088832 then (spec_l04Distances.l0 k a1 (List.replicate (t502 : Int).toNat 0) 0 a0_0 a0_1 a0_2) else (none)) else (none)) = some r := H
 have A3 := Aside0.mk A30
 clear A30
 by_cases c4 : 0 ≤ t502
 ·rw [if_pos c4] at H
  have c4b0 := eq_true c4
  have c4b1 : decide (0 ≤ t502) = true := decide_eq_true c4
  clear c4
  by_cases c5 : (t502 : Int).toNat ≤ 35184372088832
  ·rw [if_pos c5] at H
   have c5b0 := eq_true c5
   have c5b1 : decide ((t502 : Int).toNat ≤ 35184372088832) = true := decide_eq_true c5
   clear c5
   obtain ⟨y503, hy503⟩ : ∃ y_ : List Int, y_ = (List.replicate (t502 : Int).toNat 0) := ⟨_, rfl⟩
   replace H : (spec_l04Distances.l0 k a1 y503 0 a0_0 a0_1 a0_2) = some r := by first | (rw [hy503]; with_reducible exact H) | (have H2_ := (Option.bind_some _ _).symm.trans H; rw [hy503]; with_reducible exact H2_) | (have H2_ := (Option.bind_some _ _).symm.trans H; with_reducible exact H2_) | with_reducible exact H | (rw [hy503]; exact H) | exact H
   have Ny503 := Aside0.mk hy503
   clear hy503
   have H' := Aside0.mk H
   clear H
   go_enter Tryd.func46, Tryd.ntmps46
   go_wp2_with (first | (refine box_ (N := 2) (cs := #[.int .i64 a0_0, .int .i64 a0_1, .int .i64 a0_2]) (t := 28) ?_; intro gb501 hg w6 hbox hb; have BK501 := Aside0.mk (hbox); have GW501 := HB.g0 hg; have GE501 := HB.g0 hg; replace HB := HB.s0 hb; clear hb hbox hg; obtain ⟨hcz7_0, hcz7_1, hcz7_2⟩ := cz3_ BK501.out; obtain ⟨hfz7_0, hfz7_1, hfz7_2⟩ := fz3_ BK501.out) | (refine gl_ 13 Tryd.func43 #[.agg #[.int .i64 a0_0, .int .i64 a0_1]] ?_; (with_reducible refine (spec_CountCells.calls a0_0 a0_1 t502 _ A3.out).mono ?_); rintro e w8 ⟨rfl, hb⟩; refine ⟨_, rfl, ?_⟩; replace BK501 := BK501.bb hb; replace HB := HB.s1 GE501 hb; (try clear hb)) | ((with_reducible refine gate_dst (N := 14) rfl ?_); refine Kd.R_make (Kd.int .i64) _ 3 rfl (N := 14) rfl 37 _ _ rfl t502 rfl rfl Tryd.underlying37 (.int .i64 0) 8 info3 rfl (by decide) (by omega) 0 (ok := fun _ => True) (okp := fun _ => True) rfl (fun _ hk => hk) trivial (of_decide_eq_true (as_)) (Nat.le_trans (Nat.mul_le_mul_right _ (of_decide_eq_true (as_) : t502.toNat ≤ 35184372088832)) (by omega)) (Below.refl _ _) (Nat.le_refl _) ?_; intro v504 w9 ho10 hb hg_ hnew_; clear hg_ hnew_; (first | rw [← Ny503.out] at ho10 | (simp only [Int.reduceToNat] at ho10; rw [← Ny503.out] at ho10)); have HO505 := Aside0.mk (Kd.R_lower ho10 (below_size (hb1_ HB.out GE501.out))); replace BK501 := BK501.bb hb; replace HB := HB.s1 GE501 hb; clear hb ho10))
   go_loopg [6] k (fun kq v6 w' => ∃ (x5_1 : List Int) (x6_1 : Int), v6 = .int .i64 x6_1 ∧ Aside0 (spec_l04Distances.l0 kq a1 x5_1 x6_1 a0_0 a0_1 a0_2 = some r) ∧ Aside0 (kq ≤ k) ∧ Aside0 (Kd.R (Kd.int .i64) 3 w' w.heap.size (fun _ => True) v504 x5_1) ∧ Aside0 (w'.heap[gb501]? = some (.cells #[.int .i64 a0_0, .int .i64 a0_1, .int .i64 a0_2] 28 (0, 0))) ∧ Aside0 (Below w.heap.size w w'))
   case atStart => exact ⟨(y503), (0), (by first | rfl | (simp; done) | (simp [*]; done)), H', ⟨Nat.le_refl _⟩, ⟨kr_ HO505.out⟩, ⟨bk_ BK501.out⟩, ⟨hb1_ HB.out GE501.out⟩⟩
   case round =>
    clear H'
    try clear p2
    try clear c4
    try clear c4b0
    try clear c4b1
    try clear c5
    try clear c5b0
    try clear c5b1
    try clear hcz7_0
    try clear hcz7_1
    try clear hcz7_2
    try clear hfz7_0
    try clear hfz7_1
    try clear hfz7_2
    obtain ⟨x5_1, x6_1, rfl, HA, HK1, HO_5, BK501, HB⟩ := hrel
    cases gk with
    | zero => exact absurd HA.out (by simp [spec_l04Distances.l0])
    | succ k1 =>
     have H := HA.out
     clear HA
     simp only [spec_l04Distances.l0] at H
     by_cases c11 : x6_1 < (x5_1.length : Int)
     ·rw [if_pos c11] at H
      have c11b0 : decide (x6_1 < (x5_1.length : Int)) = true := decide_eq_true c11
      clear c11
      by_cases c12 : 0 ≤ x6_1
      ·rw [if_pos c12] at H
       have c12b0 : decide (0 ≤ x6_1) = true := decide_eq_true c12
       clear c12
       obtain ⟨y506, hy506⟩ : ∃ y_ : List Int, y_ = (x5_1.set (x6_1 : Int).toNat (-1)) := ⟨_, rfl⟩
       replace H : (spec_l04Distances.l0 k1 a1 y506 (wrap64 (x6_1 + 1)) a0_0 a0_1 a0_2) = some r := by first | (rw [hy506]; with_reducible exact H) | (have H2_ := (Option.bind_some _ _).symm.trans H; rw [hy506]; with_reducible exact H2_) | (have H2_ := (Option.bind_some _ _).symm.trans H; with_reducible exact H2_) | with_reducible exact H | (rw [hy506]; exact H) | exact H
       have Ny506 := Aside0.mk hy506
       clear hy506
       have H' := Aside0.mk H
       clear H
       obtain ⟨Ao14, co14, eo14⟩ := Kd.R_slice HO_5.out
       subst eo14
       have p13 : 0 ≤ (x6_1 : Int) := of_decide_eq_true (as_)
       have q13 : (x6_1 : Int) < ((x5_1.length : Int) : Int) := of_decide_eq_true (as_)
       obtain ⟨go13, co13, eo13, gb13, gl13, cl13, HG13⟩ := Kd.R_form HO_5.out (by omega)
       (first | cases eo13 | (injection eo13 with ea_ en_ ec_; (first | subst ea_ | (injection ea_ with ea_; subst ea_)); subst ec_; clear en_))
       have GB13 := Aside0.mk gb13
       have GG13 := Aside0.mk HG13
       clear gb13 gl13 HG13
       obtain ⟨hx13_0, hf13_0⟩ := Kd.R_celln 0 HO_5.out (x6_1 : Int) p13 q13
       replace p13 := eq_true p13
       replace q13 := eq_true q13
       have HP15 := Kd.R_putg HO_5.out (x6_1 : Int) (-1)
       go_wp2_with (first | ((with_reducible refine gate_store (t := 3) (p := 23) rfl ?_); refine store_event (t := 3) (p := 23) (v := ?vo_w16) (w1 := (wr.setCell ⟨go13, (x6_1 : Int).toNat, none⟩ (.int .i64 (-1)))) ?hg ?ho ?hn ?hr ?_; (case ho => rfl); (case hg => rfl); (case hn => rfl); (case hr => first | (go_simp; done) | (go_simp; rfl)); intro w16 hw; have hg : wr.grownBy w16 (some go13) := (by rw [hw]; exact HP15.2); have hp_ : Kd.R (Kd.int .i64) 3 w16 w.heap.size (fun _ => True) (.slice (some ⟨go13, 0, none⟩) x5_1.length co14) y506 := (by rw [hw, Ny506.out]; exact HP15.1); clear HP15; have n0_ := Aside0.mk (hp_); have n1_ := Aside0.mk (blk_grown (g := gb501) (o := .cells #[.int .i64 a0_0, .int .i64 a0_1, .int .i64 a0_2] 28 (0, 0)) (bk_ BK501.out) hg (Kd.R_ne HO_5.out BK501.out (by decide))); have n2_ := Aside0.mk ((by rw [hw]; exact below_set (HB.out) GB13.out : Below w.heap.size w w16)); clear HO_5; clear BK501; clear HB; have HO_5 := n0_; have BK501 := n1_; have HB := n2_; clear n0_ n1_ n2_; clear hg hw hp_))
       go_roundg k1
       case measure => have := HK1.out; omega
       case rel => exact ⟨(y506), (wrap64 (x6_1 + 1)), (by first | rfl | (simp; done) | (simp [*]; done)), H', ⟨by have := HK1.out; omega⟩, ⟨kr_ HO_5.out⟩, ⟨bk_ BK501.out⟩, ⟨hb1_ HB.out GE501.out⟩⟩
      ·rw [if_neg c12] at H
       exact absurd H (by simp)
     ·rw [if_neg c11] at H
      have c11b0 : decide (x6_1 < (x5_1.length : Int)) = false := decide_eq_false c11
      clear c11
      by_cases c17 : 0 ≤ a1
      ·rw [if_pos c17] at H
       have c17b0 : decide (0 ≤ a1) = true := decide_eq_true c17
       clear c17
       by_cases c18 : a1 < (x5_1.length : Int)
       ·rw [if_pos c18] at H
        have c18b0 : decide (a1 < (x5_1.length : Int)) = true := decide_eq_true c18
        clear c18
        obtain ⟨y507, hy507⟩ : ∃ y_ : List Int, y_ = (x5_1.set (a1 : Int).toNat 0) := ⟨_, rfl⟩
        replace H : (spec_l04Distances.l1 k1 y507 (([a1] : List Int)) 0 a0_0 a0_1 a0_2) = some r := by first | (rw [hy507]; with_reducible exact H) | (have H2_ := (Option.bind_some _ _).symm.trans H; rw [hy507]; with_reducible exact H2_) | (have H2_ := (Option.bind_some _ _).symm.trans H; with_reducible exact H2_) | with_reducible exact H | (rw [hy507]; exact H) | exact H
        have Ny507 := Aside0.mk hy507
        clear hy507
        obtain ⟨y508, hy508⟩ : ∃ y_ : List Int, y_ = (([a1] : List Int)) := ⟨_, rfl⟩
        replace H : (spec_l04Distances.l1 k1 y507 y508 0 a0_0 a0_1 a0_2) = some r := by first | (rw [hy508]; with_reducible exact H) | (have H2_ := (Option.bind_some _ _).symm.trans H; rw [hy508]; with_reducible exact H2_) | (have H2_ := (Option.bind_some _ _).symm.trans H; with_reducible exact H2_) | with_reducible exact H | (rw [hy508]; exact H) | exact H
        have Ny508 := Aside0.mk hy508
        clear hy508
        have H' := Aside0.mk H
        clear H
        obtain ⟨Ao20, co20, eo20⟩ := Kd.R_slice HO_5.out
        subst eo20
        have p19 : 0 ≤ (a1 : Int) := of_decide_eq_true (as_)
        have q19 : (a1 : Int) < ((x5_1.length : Int) : Int) := of_decide_eq_true (as_)
        obtain ⟨go19, co19, eo19, gb19, gl19, cl19, HG19⟩ := Kd.R_form HO_5.out (by omega)
        (first | cases eo19 | (injection eo19 with ea_ en_ ec_; (first | subst ea_ | (injection ea_ with ea_; subst ea_)); subst ec_; clear en_))
        have GB19 := Aside0.mk gb19
        have GG19 := Aside0.mk HG19
        clear gb19 gl19 HG19
        obtain ⟨hx19_0, hf19_0⟩ := Kd.R_celln 0 HO_5.out (a1 : Int) p19 q19
        replace p19 := eq_true p19
        replace q19 := eq_true q19
        have HP21 := Kd.R_putg HO_5.out (a1 : Int) 0
        go_wp2_with (first | ((with_reducible refine gate_store (t := 3) (p := 26) rfl ?_); refine store_event (t := 3) (p := 26) (v := ?vo_w22) (w1 := (wr.setCell ⟨go19, (a1 : Int).toNat, none⟩ (.int .i64 0))) ?hg ?ho ?hn ?hr ?_; (case ho => rfl); (case hg => rfl); (case hn => rfl); (case hr => first | (go_simp; done) | (go_simp; rfl)); intro w22 hw; have hg : wr.grownBy w22 (some go19) := (by rw [hw]; exact HP21.2); have hp_ : Kd.R (Kd.int .i64) 3 w22 w.heap.size (fun _ => True) (.slice (some ⟨go19, 0, none⟩) x5_1.length co20) y507 := (by rw [hw, Ny507.out]; exact HP21.1); clear HP21; have n0_ := Aside0.mk (hp_); have n1_ := Aside0.mk (blk_grown (g := gb501) (o := .cells #[.int .i64 a0_0, .int .i64 a0_1, .int .i64 a0_2] 28 (0, 0)) (bk_ BK501.out) hg (Kd.R_ne HO_5.out BK501.out (by decide))); have n2_ := Aside0.mk ((by rw [hw]; exact below_set (HB.out) GB19.out : Below w.heap.size w w22)); clear HO_5; clear BK501; clear HB; have HO_5 := n0_; have BK501 := n1_; have HB := n2_; clear n0_ n1_ n2_; clear hg hw hp_) | ((with_reducible refine gate_dst (N := 28) rfl ?_); refine Kd.R_lit (Kd.int .i64) _ 3 ?hg (N := 28) ?hd (xs := ([a1] : List Int)) (inner := [.int .i64 a1]) (ok := fun _ => True) (okp := fun _ => True) ?hr ?hp (fun _ hk => hk) trivial (Below.refl _ _) (Nat.le_refl _) (by simp) ?_; (case hd => rfl); (case hg => rfl); (case hr => first | (go_simp; done) | (go_simp; rfl)); (case hp => exact (Reps.one (show Kd.M (Kd.int .i64) _ _ _ a1 [.int .i64 a1] from rfl) (Reps.none _ _))); intro v509 w23 ho24 hb hg_ hnew_; clear hg_ hnew_; (first | rw [← Ny508.out] at ho24 | (simp only [Int.reduceToNat] at ho24; rw [← Ny508.out] at ho24)); have HO510 := Aside0.mk (Kd.R_lower (Kd.R_new' ho24 (Kd.R_lt (kr_ HO_5.out))) (below_size (hb1_ HB.out GE501.out))); replace HO_5 := Aside0.mk (Kd.R_elder' (kr_ HO_5.out) (Kd.R_base ho24) hb); replace BK501 := BK501.bb hb; replace HB := HB.s1 GE501 hb; clear hb ho24))
        go_loopg [7, 8] k1 (fun kq v7 v8 w' => ∃ (x5_2 : List Int) (x7_2 : List Int) (x8_2 : Int), v8 = .int .i64 x8_2 ∧ Aside0 (spec_l04Distances.l1 kq x5_2 x7_2 x8_2 a0_0 a0_1 a0_2 = some r) ∧ Aside0 (kq ≤ k1) ∧ Aside0 (Kd.R (Kd.int .i64) 3 w' w.heap.size (fun k_ => some k_ ≠ (v7 : Value).ownBlock) (.slice (some ⟨go19, 0, none⟩) x5_1.length co20) x5_2) ∧ Aside0 (Kd.R (Kd.int .i64) 3 w' w.heap.size (fun k_ => some k_ ≠ ((.slice (some ⟨go19, 0, none⟩) x5_1.length co20) : Value).ownBlock) v7 x7_2) ∧ Aside0 (w'.heap[gb501]? = some (.cells #[.int .i64 a0_0, .int .i64 a0_1, .int .i64 a0_2] 28 (0, 0))) ∧ Aside0 (Below w.heap.size w w'))
        case atStart => exact ⟨(y507), (y508), (0), (by first | rfl | (simp; done) | (simp [*]; done)), H', ⟨Nat.le_refl _⟩, ⟨by (with_reducible repeat (first | apply Kd.R_alloc | apply Kd.R_drewN | apply Kd.R_drew)); exact Kd.R_mono HO_5.out (fun _ hk => hk.2)⟩, ⟨by (with_reducible repeat (first | apply Kd.R_alloc | apply Kd.R_drewN | apply Kd.R_drew)); exact Kd.R_mono HO510.out (fun _ hk => hk.2)⟩, ⟨bk_ BK501.out⟩, ⟨hb1_ HB.out GE501.out⟩⟩
        case round =>
         clear H'
         try clear c1
         try clear p1
         try clear q1
         try clear hx1
         try clear p2
         try clear c4
         try clear c4b0
         try clear c4b1
         try clear c5
         try clear c5b0
         try clear c5b1
         try clear p6
         try clear c11
         try clear c11b0
         try clear c12
         try clear c12b0
         try clear p13
         try clear q13
         try clear hx13
         try clear hf13
         try clear c17
         try clear c17b0
         try clear c18
         try clear c18b0
         try clear p19
         try clear q19
         try clear hx19
         try clear hf19
         try clear hcz7_0
         try clear hcz7_1
         try clear hcz7_2
         try clear hfz7_0
         try clear hfz7_1
         try clear hfz7_2
         try clear hx13_0
         try clear hx19_0
         try clear p13
         try clear p19
         try clear p2
         try clear q13
         try clear q19
         obtain ⟨x5_2, x7_2, x8_2, rfl, HA, HK2, HO_5, HO_7, BK501, HB⟩ := hrel
         have hl5_2 := (Kd.R_reads' HO_5.out).1
         rw [hl5_2] at HO_5
         (try simp only [hl5_2])
         (try simp only [hl5_2] at BK501)
         (try simp only [hl5_2] at HO_7)
         cases gk with
         | zero => exact absurd HA.out (by simp [spec_l04Distances.l1])
         | succ k2 =>
          have H := HA.out
          clear HA
          simp only [spec_l04Distances.l1] at H
          by_cases c25 : x8_2 < (x7_2.length : Int)
          ·rw [if_pos c25] at H
           have c25b0 : decide (x8_2 < (x7_2.length : Int)) = true := decide_eq_true c25
           clear c25
           have H' := Aside0.mk H
           clear H
           obtain ⟨Ao26, co26, eo26⟩ := Kd.R_slice HO_7.out
           subst eo26
           go_wp2
           go_loopg [7, 9] k2 (fun kq v7 v9 w' => ∃ (x5_3 : List Int) (x7_3 : List Int) (x9_3 : Int), v9 = .int .i64 x9_3 ∧ Aside0 (spec_l04Distances.l2 kq x5_3 x7_3 x8_2 x9_3 a0_0 a0_1 a0_2 = some r) ∧ Aside0 (kq ≤ k2) ∧ Aside0 (Kd.R (Kd.int .i64) 3 w' w.heap.size (fun k_ => some k_ ≠ (v7 : Value).ownBlock) (.slice (some ⟨go19, 0, none⟩) x5_2.length co20) x5_3) ∧ Aside0 (Kd.R (Kd.int .i64) 3 w' w.heap.size (fun k_ => some k_ ≠ ((.slice (some ⟨go19, 0, none⟩) x5_2.length co20) : Value).ownBlock) v7 x7_3) ∧ Aside0 (w'.heap[gb501]? = some (.cells #[.int .i64 a0_0, .int .i64 a0_1, .int .i64 a0_2] 28 (0, 0))) ∧ Aside0 (Below w.heap.size w w'))
           case atStart => exact ⟨(x5_2), (x7_2), (0), (by first | rfl | (simp; done) | (simp [*]; done)), H', ⟨Nat.le_refl _⟩, ⟨by (try simp only [hl5_2]); (with_reducible repeat (first | apply Kd.R_alloc | apply Kd.R_drewN | apply Kd.R_drew)); exact HO_5.out⟩, ⟨by (try simp only [hl5_2]); (with_reducible repeat (first | apply Kd.R_alloc | apply Kd.R_drewN | apply Kd.R_drew)); exact HO_7.out⟩, ⟨by (try simp only [hl5_2]); (with_reducible repeat (first | refine blk_drewN ?_ _ | refine blk_drew ?_ | refine blk_alloc ?_ _)); exact BK501.out⟩, ⟨hb1_ HB.out GE501.out⟩⟩
           case round =>
            clear H'
            try clear c1
            try clear p1
            try clear q1
            try clear hx1
            try clear c2
            try clear p2
            try clear c4
            try clear c4b0
            try clear c4b1
            try clear c5
            try clear c5b0
            try clear c5b1
            try clear p6
            try clear c11
            try clear c11b0
            try clear c12
            try clear c12b0
            try clear p13
            try clear q13
            try clear hx13
            try clear hf13
            try clear c17
            try clear c17b0
            try clear c18
            try clear c18b0
            try clear p19
            try clear q19
            try clear hx19
            try clear hf19
            try clear c25
            try clear c25b0
            try clear hcz7_0
            try clear hcz7_1
            try clear hcz7_2
            try clear hfz7_0
            try clear hfz7_1
            try clear hfz7_2
            try clear hx13_0
            try clear hx19_0
            try clear p1
            try clear p13
            try clear p19
            try clear p2
            try clear p6
            try clear q1
            try clear q13
            try clear q19
            obtain ⟨x5_3, x7_3, x9_3, rfl, HA, HK3, HO_5, HO_7, BK501, HB⟩ := hrel
            have hl5_3 := (Kd.R_reads' HO_5.out).1
            rw [hl5_3] at HO_5
            (try simp only [hl5_3])
            (try simp only [hl5_3] at BK501)
            (try simp only [hl5_3] at HO_7)
            cases gk with
            | zero => exact absurd HA.out (by simp [spec_l04Distances.l2])
            | succ k3 =>
             have H := HA.out
             clear HA
             simp only [spec_l04Distances.l2] at H
             by_cases c27 : x9_3 ≤ 3
             ·rw [if_pos c27] at H
              have c27b0 : decide (x9_3 ≤ 3) = true := decide_eq_true c27
              clear c27
              by_cases c28 : 0 ≤ x8_2
              ·rw [if_pos c28] at H
               have c28b0 : decide (0 ≤ x8_2) = true := decide_eq_true c28
               clear c28
               by_cases c29 : x8_2 < (x7_3.length : Int)
               ·rw [if_pos c29] at H
                have c29b0 : decide (x8_2 < (x7_3.length : Int)) = true := decide_eq_true c29
                clear c29
                replace H := Option.bind_eq_some_iff.mp H
                obtain ⟨t512, A300, H⟩ := H
                replace H : (if t512 ≥ 0 then (if 0 ≤ t512 then (if t512 < (x5_3.length : Int) then (if (rd x5_3 t512) < 0 then (if 0 ≤ (rd x7_3 x8_2) then (if (rd x7_3 x8_2) < (x5_3.length : Int) then (if x7_3.length < 17592186044416 then (spec_l04Distances.l2 k3 (x5_3.set (t512 : Int).toNat (wrap64 ((rd x5_3 (rd x7_3 x8_2)) + 1))) (x7_3 ++ [t512]) x8_2 (wrap64 (x9_3 + 1)) a0_0 a0_1 a0_2) else (none)) else (none)) else (none)) else (spec_l04Distances.l2 k3 x5_3 x7_3 x8_2 (wrap64 (x9_3 + 1)) a0_0 a0_1 a0_2)) else (none)) else (none)) else (spec_l04Distances.l2 k3 x5_3 x7_3 x8_2 (wrap64 (x9_3 + 1)) a0_0 a0_1 a0_2)) = some r := H
                have A30 := Aside0.mk A300
                clear A300
                by_cases c31 : t512 ≥ 0
                ·rw [if_pos c31] at H
                 have c31b0 : decide (0 ≤ t512) = true := decide_eq_true c31
                 clear c31
                 by_cases c32 : 0 ≤ t512
                 ·rw [if_pos c32] at H
                  have c32b0 : decide (0 ≤ t512) = true := decide_eq_true c32
                  clear c32
                  by_cases c33 : t512 < (x5_3.length : Int)
                  ·rw [if_pos c33] at H
                   have c33b0 : decide (t512 < (x5_3.length : Int)) = true := decide_eq_true c33
                   clear c33
                   by_cases c34 : (rd x5_3 t512) < 0
                   ·rw [if_pos c34] at H
                    have c34b0 : decide ((rd x5_3 t512) < 0) = true := decide_eq_true c34
                    clear c34
                    by_cases c35 : 0 ≤ (rd x7_3 x8_2)
                    ·rw [if_pos c35] at H
                     have c35b0 : decide (0 ≤ (rd x7_3 x8_2)) = true := decide_eq_true c35
                     clear c35
                     by_cases c36 : (rd x7_3 x8_2) < (x5_3.length : Int)
                     ·rw [if_pos c36] at H
                      have c36b0 : decide ((rd x7_3 x8_2) < (x5_3.length : Int)) = true := decide_eq_true c36
                      clear c36
                      obtain ⟨y516, hy516⟩ : ∃ y_ : List Int, y_ = (x5_3.set (t512 : Int).toNat (wrap64 ((rd x5_3 (rd x7_3 x8_2)) + 1))) := ⟨_, rfl⟩
                      replace H : (if x7_3.length < 17592186044416 then (spec_l04Distances.l2 k3 y516 (x7_3 ++ [t512]) x8_2 (wrap64 (x9_3 + 1)) a0_0 a0_1 a0_2) else (none)) = some r := by first | (rw [hy516]; with_reducible exact H) | (have H2_ := (Option.bind_some _ _).symm.trans H; rw [hy516]; with_reducible exact H2_) | (have H2_ := (Option.bind_some _ _).symm.trans H; with_reducible exact H2_) | with_reducible exact H | (rw [hy516]; exact H) | exact H
                      have Ny516 := Aside0.mk hy516
                      clear hy516
                      by_cases c38 : x7_3.length < 17592186044416
                      ·rw [if_pos c38] at H
                       have LMc38 := Aside0.mk c38
                       clear c38
                       obtain ⟨y517, hy517⟩ : ∃ y_ : List Int, y_ = (x7_3 ++ [t512]) := ⟨_, rfl⟩
                       replace H : (spec_l04Distances.l2 k3 y516 y517 x8_2 (wrap64 (x9_3 + 1)) a0_0 a0_1 a0_2) = some r := by first | (rw [hy517]; with_reducible exact H) | (have H2_ := (Option.bind_some _ _).symm.trans H; rw [hy517]; with_reducible exact H2_) | (have H2_ := (Option.bind_some _ _).symm.trans H; with_reducible exact H2_) | with_reducible exact H | (rw [hy517]; exact H) | exact H
                       have Ny517 := Aside0.mk hy517
                       clear hy517
                       have H' := Aside0.mk H
                       clear H
                       try go_wp2
                       replace HO_5 := Aside0.mk (Kd.R_drew HO_5.out)
                       replace HO_7 := Aside0.mk (Kd.R_drew HO_7.out)
                       replace BK501 := Aside0.mk (blk_drew BK501.out)
                       replace HB := Aside0.mk (below_drew1 HB.out)
                       obtain ⟨Ao40, co40, eo40⟩ := Kd.R_slice HO_7.out
                       (first | subst eo40 | (injection eo40 with f1_ f2_ f3_; have f4_ := f1_.symm; have f5_ := f3_.symm; clear f1_ f2_ f3_; subst f4_; subst f5_))
                       have p511 : 0 ≤ (x8_2 : Int) := of_decide_eq_true (as_)
                       have q511 : x8_2 < (x7_3.length : Int) := of_decide_eq_true (as_)
                       obtain ⟨ad511, e511, hx511_0⟩ := Kd.at_int (Kd.R_reads' HO_7.out).2.2 x8_2 p511 q511
                       cases e511
                       replace p511 := eq_true p511
                       replace q511 := eq_true q511
                       refine start_ (n := 8) (S := fun w' => w'.cell? ⟨gb501, 0, none⟩ = some (.int .i64 a0_0) ∧ w'.cell? ⟨gb501, 1, none⟩ = some (.int .i64 a0_1) ∧ w'.cell? ⟨gb501, 2, none⟩ = some (.int .i64 a0_2) ∧ w'.cell? (ad511.add (x8_2).toNat) = some (.int .i64 (rd x7_3 x8_2))) (ds := []) #[false, false, false, false, false, false, false, false] (by kernel_rfl) rfl rfl ⟨BK501.c 0, BK501.c 1, BK501.c 2, hx511_0⟩ (fun hHeld => ?_); refine with_tabW spec_l04Distances.tab14 spec_l04Distances.bits14 (fun HT_ HW_ => ?_)
                       generalize wr.drew = w39 at HO_5 HO_7 BK501 HB hx511_0 hHeld ⊢
                       refine pv_ (i := 1) (N := some 40) HT_.out ?_
                       refine pv_ (i := 2) (N := some 41) HT_.out ?_
                       refine pv_ (i := 3) (N := some 42) HT_.out ?_
                       refine pv_ (i := 5) (N := some 44) HT_.out ?_
                       refine tv4_ (i := 0) (N := some 39) HT_.out HW_.out hHeld ?_
                       refine tv4_ (i := 4) (N := some 43) HT_.out HW_.out hHeld ?_
                       refine ov_ (i := 6) (N := some 45) HT_.out (fun K hK => ?_)
                       refine gq_ Tryd.func60 #[.agg #[.int .i64 a0_0, .int .i64 a0_1, .int .i64 a0_2], .int .i64 (rd x7_3 x8_2), .int .i64 x9_3] ?_
                       with_reducible refine (spec_Step.calls k3 a0_0 a0_1 a0_2 (rd x7_3 x8_2) x9_3 t512 _ A30.out).mono ?_
                       rintro e w41 ⟨rfl, hb⟩
                       have HS3_ := (hb.cell (World.block_lt_of_cell? _ _ (hHeld.2.2.2))).trans (hHeld.2.2.2)
                       refine ⟨_, rfl, ?_⟩
                       replace HO_5 := HO_5.kb hb
                       replace HO_7 := HO_7.kb hb
                       replace BK501 := BK501.bb hb
                       replace HB := HB.s1 GE501 hb
                       skip
                       (try clear hb2)
                       (try clear hk)
                       (try clear hi)
                       refine hK.out _ _ ⟨BK501.c 0, BK501.c 1, BK501.c 2, HS3_⟩ (fun hHeld => ?_)
                       clear hK K
                       refine nm_ ?_
                       refine pv_ (i := 7) (N := some 10) HT_.out ?_
                       refine done_ (done_of HT_.out (by kernel_rfl)) ?_
                       have p513 : 0 ≤ (t512 : Int) := of_decide_eq_true (as_)
                       have q513 : t512 < (x5_3.length : Int) := of_decide_eq_true (as_)
                       obtain ⟨ad513, e513, hx513_0⟩ := Kd.at_int (Kd.R_reads' HO_5.out).2.2 t512 p513 q513
                       obtain rfl : (⟨go19, 0, none⟩ : Addr) = ad513 := (by injection e513)
                       (first | simp only [add_plain] at hx513_0 | simp only [add_at] at hx513_0 | simp only [Addr.add, Nat.zero_add] at hx513_0 | skip)
                       replace p513 := eq_true p513
                       replace q513 := eq_true q513
                       have p514 : 0 ≤ (x8_2 : Int) := of_decide_eq_true (as_)
                       have q514 : x8_2 < (x7_3.length : Int) := of_decide_eq_true (as_)
                       obtain ⟨ad514, e514, hx514_0⟩ := Kd.at_int (Kd.R_reads' HO_7.out).2.2 x8_2 p514 q514
                       obtain rfl : ad511 = ad514 := (by injection e514)
                       replace p514 := eq_true p514
                       replace q514 := eq_true q514
                       have p515 : 0 ≤ ((rd x7_3 x8_2) : Int) := of_decide_eq_true (as_)
                       have q515 : (rd x7_3 x8_2) < (x5_3.length : Int) := of_decide_eq_true (as_)
                       obtain ⟨ad515, e515, hx515_0⟩ := Kd.at_int (Kd.R_reads' HO_5.out).2.2 (rd x7_3 x8_2) p515 q515
                       obtain rfl : (⟨go19, 0, none⟩ : Addr) = ad515 := (by injection e515)
                       (first | simp only [add_plain] at hx515_0 | simp only [add_at] at hx515_0 | simp only [Addr.add, Nat.zero_add] at hx515_0 | skip)
                       replace p515 := eq_true p515
                       replace q515 := eq_true q515
                       have p37 : 0 ≤ (t512 : Int) := of_decide_eq_true (as_)
                       have q37 : (t512 : Int) < ((x5_3.length : Int) : Int) := of_decide_eq_true (as_)
                       obtain ⟨hx37_0, hf37_0⟩ := Kd.R_celln 0 HO_5.out (t512 : Int) p37 q37
                       replace p37 := eq_true p37
                       replace q37 := eq_true q37
                       obtain ⟨hy42_, hz42_⟩ := Kd.R_celln 0 HO_5.out (t512 : Int) (of_decide_eq_true (as_)) (of_decide_eq_true (as_))
                       have HP42 := Kd.R_putg HO_5.out (t512 : Int) (wrap64 ((rd x5_3 (rd x7_3 x8_2)) + 1))
                       try go_wp2_with (first | ((with_reducible refine gate_store (t := 3) (p := 65) rfl ?_); refine store_event (t := 3) (p := 65) (v := ?vo_w43) (w1 := (w41.setCell ⟨go19, (t512 : Int).toNat, none⟩ (.int .i64 (wrap64 ((rd x5_3 (rd x7_3 x8_2)) + 1))))) ?hg ?ho ?hn ?hr ?_; (case ho => rfl); (case hg => rfl); (case hn => rfl); (case hr => first | (go_simp; done) | (go_simp; rfl)); intro w43 hw; have hg : w41.grownBy w43 (some go19) := (by rw [hw]; exact HP42.2); have hp_ : Kd.R (Kd.int .i64) 3 w43 w.heap.size (fun k_ => some k_ ≠ (.slice (some ad511) x7_3.length co40 : Value).ownBlock) (.slice (some ⟨go19, 0, none⟩) x5_3.length co20) y516 := (by rw [hw, Ny516.out]; exact HP42.1); clear HP42; have n0_ := Aside0.mk (hp_); have n1_ := Aside0.mk (Kd.R_after (v := (.slice (some ⟨go19, 0, none⟩) x5_3.length co20)) (v1 := (.slice (some ⟨go19, 0, none⟩) x5_3.length co20)) (ok := (fun _ => True)) (by (with_reducible repeat (first | apply Kd.R_alloc | apply Kd.R_drewN | apply Kd.R_drew)); exact Kd.R_mono HO_7.out (fun _ hk => ⟨trivial, hk⟩)) hg (.inl rfl)); have n2_ := Aside0.mk (blk_grown (g := gb501) (o := .cells #[.int .i64 a0_0, .int .i64 a0_1, .int .i64 a0_2] 28 (0, 0)) (bk_ BK501.out) hg (Kd.R_ne HO_5.out BK501.out (by decide))); have n3_ := Aside0.mk ((by rw [hw]; exact below_set (HB.out) GB19.out : Below w.heap.size w w43)); clear HO_5; clear HO_7; clear BK501; clear HB; have HO_5 := n0_; have HO_7 := n1_; have BK501 := n2_; have HB := n3_; clear n0_ n1_ n2_ n3_; clear hg hw hp_) | ((with_reducible refine gate_builtin (b := .append) (xs := #[.tmp 66, .tmp 68]) rfl ?_); at_builtin; refine Kd.R_append (Kd.int .i64) (w0 := w) w.heap.size rfl (.tmp 66) (.tmp 68) 37 3 (.int .i64 0) 8 rfl Tryd.underlying37 info3 rfl (by decide) (by omega) (.slice (some ad511) x7_3.length co40) x7_3 t512 [.int .i64 t512] (fun k_ => some k_ ≠ (.slice (some ⟨go19, 0, none⟩) x5_3.length co20 : Value).ownBlock) (fun _ => False) rfl rfl ?aP (fun _ hk => hk.elim) ?aF ?aO ?aB ?aS ?aL ?_; (case aP => exact rfl); (case aB => exact (hb1_ HB.out GE501.out)); (case aF => exact (fun k_ hk => Kd.fresh' (Kd.R_lt (kr_ HO_5.out)) k_ hk)); (case aO => exact (by (with_reducible repeat (first | apply Kd.R_alloc | apply Kd.R_drewN | apply Kd.R_drew)); exact Kd.R_mono HO_7.out (fun _ hk => hk.2))); (case aS => exact (below_size (hb1_ HB.out GE501.out))); (case aL => have := LMc38.out; omega); intro v518 w44 ho hb hg hat; rw [← Ny517.out] at ho; replace HO_5 := Aside0.mk (Kd.R_after (ok := (fun _ => True)) (by (with_reducible repeat (first | apply Kd.R_alloc | apply Kd.R_drewN | apply Kd.R_drew)); exact Kd.R_mono HO_5.out (fun _ hk => ⟨trivial, hk⟩)) hg hat); replace BK501 := Aside0.mk (blk_grown (g := gb501) (o := .cells #[.int .i64 a0_0, .int .i64 a0_1, .int .i64 a0_2] 28 (0, 0)) (bk_ BK501.out) hg (Kd.R_ne HO_7.out BK501.out (by decide))); replace HB := Aside0.mk (hb); have HO519 := Aside0.mk (ho); clear HO_7; clear ho hb hg hat))
                       (try simp only [← hl5_3])
                       go_roundg k3
                       case measure => have := HK1.out; have := HK2.out; have := HK3.out; omega
                       case rel => exact ⟨(y516), (y517), (wrap64 (x9_3 + 1)), (by first | rfl | (simp; done) | (simp [*]; done)), H', ⟨by have := HK1.out; have := HK2.out; have := HK3.out; omega⟩, ⟨by (try simp only [hl5_2]); (try simp only [hl5_3]); (with_reducible repeat (first | apply Kd.R_alloc | apply Kd.R_drewN | apply Kd.R_drew)); exact Kd.R_mono HO_5.out (fun _ hk => hk.2)⟩, ⟨by (try simp only [hl5_2]); (try simp only [hl5_3]); (with_reducible repeat (first | apply Kd.R_alloc | apply Kd.R_drewN | apply Kd.R_drew)); exact HO519.out⟩, ⟨by (try simp only [hl5_2]); (try simp only [hl5_3]); (with_reducible repeat (first | refine blk_drewN ?_ _ | refine blk_drew ?_ | refine blk_alloc ?_ _)); exact BK501.out⟩, ⟨hb1_ HB.out GE501.out⟩⟩
                      ·rw [if_neg c38] at H
                       exact absurd H (by simp)
                     ·rw [if_neg c36] at H
                      exact absurd H (by simp)
                    ·rw [if_neg c35] at H
                     exact absurd H (by simp)
                   ·rw [if_neg c34] at H
                    have c34b0 : decide ((rd x5_3 t512) < 0) = false := decide_eq_false c34
                    clear c34
                    have H' := Aside0.mk H
                    clear H
                    try go_wp2
                    replace HO_5 := Aside0.mk (Kd.R_drew HO_5.out)
                    replace HO_7 := Aside0.mk (Kd.R_drew HO_7.out)
                    replace BK501 := Aside0.mk (blk_drew BK501.out)
                    replace HB := Aside0.mk (below_drew1 HB.out)
                    obtain ⟨Ao46, co46, eo46⟩ := Kd.R_slice HO_7.out
                    (first | subst eo46 | (injection eo46 with f1_ f2_ f3_; have f4_ := f1_.symm; have f5_ := f3_.symm; clear f1_ f2_ f3_; subst f4_; subst f5_))
                    have p511 : 0 ≤ (x8_2 : Int) := of_decide_eq_true (as_)
                    have q511 : x8_2 < (x7_3.length : Int) := of_decide_eq_true (as_)
                    obtain ⟨ad511, e511, hx511_0⟩ := Kd.at_int (Kd.R_reads' HO_7.out).2.2 x8_2 p511 q511
                    cases e511
                    replace p511 := eq_true p511
                    replace q511 := eq_true q511
                    refine start_ (n := 8) (S := fun w' => w'.cell? ⟨gb501, 0, none⟩ = some (.int .i64 a0_0) ∧ w'.cell? ⟨gb501, 1, none⟩ = some (.int .i64 a0_1) ∧ w'.cell? ⟨gb501, 2, none⟩ = some (.int .i64 a0_2) ∧ w'.cell? (ad511.add (x8_2).toNat) = some (.int .i64 (rd x7_3 x8_2))) (ds := []) #[false, false, false, false, false, false, false, false] (by kernel_rfl) rfl rfl ⟨BK501.c 0, BK501.c 1, BK501.c 2, hx511_0⟩ (fun hHeld => ?_); refine with_tabW spec_l04Distances.tab14 spec_l04Distances.bits14 (fun HT_ HW_ => ?_)
                    generalize wr.drew = w45 at HO_5 HO_7 BK501 HB hx511_0 hHeld ⊢
                    refine pv_ (i := 1) (N := some 40) HT_.out ?_
                    refine pv_ (i := 2) (N := some 41) HT_.out ?_
                    refine pv_ (i := 3) (N := some 42) HT_.out ?_
                    refine pv_ (i := 5) (N := some 44) HT_.out ?_
                    refine tv4_ (i := 0) (N := some 39) HT_.out HW_.out hHeld ?_
                    refine tv4_ (i := 4) (N := some 43) HT_.out HW_.out hHeld ?_
                    refine ov_ (i := 6) (N := some 45) HT_.out (fun K hK => ?_)
                    refine gq_ Tryd.func60 #[.agg #[.int .i64 a0_0, .int .i64 a0_1, .int .i64 a0_2], .int .i64 (rd x7_3 x8_2), .int .i64 x9_3] ?_
                    with_reducible refine (spec_Step.calls k3 a0_0 a0_1 a0_2 (rd x7_3 x8_2) x9_3 t512 _ A30.out).mono ?_
                    rintro e w47 ⟨rfl, hb⟩
                    have HS3_ := (hb.cell (World.block_lt_of_cell? _ _ (hHeld.2.2.2))).trans (hHeld.2.2.2)
                    refine ⟨_, rfl, ?_⟩
                    replace HO_5 := HO_5.kb hb
                    replace HO_7 := HO_7.kb hb
                    replace BK501 := BK501.bb hb
                    replace HB := HB.s1 GE501 hb
                    skip
                    (try clear hb2)
                    (try clear hk)
                    (try clear hi)
                    refine hK.out _ _ ⟨BK501.c 0, BK501.c 1, BK501.c 2, HS3_⟩ (fun hHeld => ?_)
                    clear hK K
                    refine nm_ ?_
                    refine pv_ (i := 7) (N := some 10) HT_.out ?_
                    refine done_ (done_of HT_.out (by kernel_rfl)) ?_
                    have p513 : 0 ≤ (t512 : Int) := of_decide_eq_true (as_)
                    have q513 : t512 < (x5_3.length : Int) := of_decide_eq_true (as_)
                    obtain ⟨ad513, e513, hx513_0⟩ := Kd.at_int (Kd.R_reads' HO_5.out).2.2 t512 p513 q513
                    obtain rfl : (⟨go19, 0, none⟩ : Addr) = ad513 := (by injection e513)
                    (first | simp only [add_plain] at hx513_0 | simp only [add_at] at hx513_0 | simp only [Addr.add, Nat.zero_add] at hx513_0 | skip)
                    replace p513 := eq_true p513
                    replace q513 := eq_true q513
                    try go_wp2
                    (try simp only [← hl5_3])
                    go_roundg k3
                    case measure => have := HK1.out; have := HK2.out; have := HK3.out; omega
                    case rel => exact ⟨(x5_3), (x7_3), (wrap64 (x9_3 + 1)), (by first | rfl | (simp; done) | (simp [*]; done)), H', ⟨by have := HK1.out; have := HK2.out; have := HK3.out; omega⟩, ⟨by (try simp only [hl5_2]); (try simp only [hl5_3]); (with_reducible repeat (first | apply Kd.R_alloc | apply Kd.R_drewN | apply Kd.R_drew)); exact HO_5.out⟩, ⟨by (try simp only [hl5_2]); (try simp only [hl5_3]); (with_reducible repeat (first | apply Kd.R_alloc | apply Kd.R_drewN | apply Kd.R_drew)); exact HO_7.out⟩, ⟨by (try simp only [hl5_2]); (try simp only [hl5_3]); (with_reducible repeat (first | refine blk_drewN ?_ _ | refine blk_drew ?_ | refine blk_alloc ?_ _)); exact BK501.out⟩, ⟨hb1_ HB.out GE501.out⟩⟩
                  ·rw [if_neg c33] at H
                   exact absurd H (by simp)
                 ·rw [if_neg c32] at H
                  exact absurd H (by simp)
                ·rw [if_neg c31] at H
                 have c31b0 : decide (0 ≤ t512) = false := decide_eq_false c31
                 clear c31
                 have H' := Aside0.mk H
                 clear H
                 try go_wp2
                 replace HO_5 := Aside0.mk (Kd.R_drew HO_5.out)
                 replace HO_7 := Aside0.mk (Kd.R_drew HO_7.out)
                 replace BK501 := Aside0.mk (blk_drew BK501.out)
                 replace HB := Aside0.mk (below_drew1 HB.out)
                 obtain ⟨Ao49, co49, eo49⟩ := Kd.R_slice HO_7.out
                 (first | subst eo49 | (injection eo49 with f1_ f2_ f3_; have f4_ := f1_.symm; have f5_ := f3_.symm; clear f1_ f2_ f3_; subst f4_; subst f5_))
                 have p511 : 0 ≤ (x8_2 : Int) := of_decide_eq_true (as_)
                 have q511 : x8_2 < (x7_3.length : Int) := of_decide_eq_true (as_)
                 obtain ⟨ad511, e511, hx511_0⟩ := Kd.at_int (Kd.R_reads' HO_7.out).2.2 x8_2 p511 q511
                 cases e511
                 replace p511 := eq_true p511
                 replace q511 := eq_true q511
                 refine start_ (n := 8) (S := fun w' => w'.cell? ⟨gb501, 0, none⟩ = some (.int .i64 a0_0) ∧ w'.cell? ⟨gb501, 1, none⟩ = some (.int .i64 a0_1) ∧ w'.cell? ⟨gb501, 2, none⟩ = some (.int .i64 a0_2) ∧ w'.cell? (ad511.add (x8_2).toNat) = some (.int .i64 (rd x7_3 x8_2))) (ds := []) #[false, false, false, false, false, false, false, false] (by kernel_rfl) rfl rfl ⟨BK501.c 0, BK501.c 1, BK501.c 2, hx511_0⟩ (fun hHeld => ?_); refine with_tabW spec_l04Distances.tab14 spec_l04Distances.bits14 (fun HT_ HW_ => ?_)
                 generalize wr.drew = w48 at HO_5 HO_7 BK501 HB hx511_0 hHeld ⊢
                 refine pv_ (i := 1) (N := some 40) HT_.out ?_
                 refine pv_ (i := 2) (N := some 41) HT_.out ?_
                 refine pv_ (i := 3) (N := some 42) HT_.out ?_
                 refine pv_ (i := 5) (N := some 44) HT_.out ?_
                 refine tv4_ (i := 0) (N := some 39) HT_.out HW_.out hHeld ?_
                 refine tv4_ (i := 4) (N := some 43) HT_.out HW_.out hHeld ?_
                 refine ov_ (i := 6) (N := some 45) HT_.out (fun K hK => ?_)
                 refine gq_ Tryd.func60 #[.agg #[.int .i64 a0_0, .int .i64 a0_1, .int .i64 a0_2], .int .i64 (rd x7_3 x8_2), .int .i64 x9_3] ?_
                 with_reducible refine (spec_Step.calls k3 a0_0 a0_1 a0_2 (rd x7_3 x8_2) x9_3 t512 _ A30.out).mono ?_
                 rintro e w50 ⟨rfl, hb⟩
                 have HS3_ := (hb.cell (World.block_lt_of_cell? _ _ (hHeld.2.2.2))).trans (hHeld.2.2.2)
                 refine ⟨_, rfl, ?_⟩
                 replace HO_5 := HO_5.kb hb
                 replace HO_7 := HO_7.kb hb
                 replace BK501 := BK501.bb hb
                 replace HB := HB.s1 GE501 hb
                 skip
                 (try clear hb2)
                 (try clear hk)
                 (try clear hi)
                 refine hK.out _ _ ⟨BK501.c 0, BK501.c 1, BK501.c 2, HS3_⟩ (fun hHeld => ?_)
                 clear hK K
                 refine nm_ ?_
                 refine pv_ (i := 7) (N := some 10) HT_.out ?_
                 refine done_ (done_of HT_.out (by kernel_rfl)) ?_
                 try go_wp2
                 (try simp only [← hl5_3])
                 go_roundg k3
                 case measure => have := HK1.out; have := HK2.out; have := HK3.out; omega
                 case rel => exact ⟨(x5_3), (x7_3), (wrap64 (x9_3 + 1)), (by first | rfl | (simp; done) | (simp [*]; done)), H', ⟨by have := HK1.out; have := HK2.out; have := HK3.out; omega⟩, ⟨by (try simp only [hl5_2]); (try simp only [hl5_3]); (with_reducible repeat (first | apply Kd.R_alloc | apply Kd.R_drewN | apply Kd.R_drew)); exact HO_5.out⟩, ⟨by (try simp only [hl5_2]); (try simp only [hl5_3]); (with_reducible repeat (first | apply Kd.R_alloc | apply Kd.R_drewN | apply Kd.R_drew)); exact HO_7.out⟩, ⟨by (try simp only [hl5_2]); (try simp only [hl5_3]); (with_reducible repeat (first | refine blk_drewN ?_ _ | refine blk_drew ?_ | refine blk_alloc ?_ _)); exact BK501.out⟩, ⟨hb1_ HB.out GE501.out⟩⟩
               ·rw [if_neg c29] at H
                exact absurd H (by simp)
              ·rw [if_neg c28] at H
               exact absurd H (by simp)
             ·rw [if_neg c27] at H
              have c27b0 : decide (x9_3 ≤ 3) = false := decide_eq_false c27
              clear c27
              have H' := Aside0.mk H
              clear H
              go_wp2
              (try simp only [← hl5_2, ← hl5_3])
              go_roundg k3
              case measure => have := HK1.out; have := HK2.out; have := HK3.out; omega
              case rel => exact ⟨(x5_3), (x7_3), (wrap64 (x8_2 + 1)), (by first | rfl | (simp; done) | (simp [*]; done)), H', ⟨by have := HK1.out; have := HK2.out; have := HK3.out; omega⟩, ⟨by (try simp only [hl5_2]); (try simp only [hl5_3]); (with_reducible repeat (first | apply Kd.R_alloc | apply Kd.R_drewN | apply Kd.R_drew)); exact HO_5.out⟩, ⟨by (try simp only [hl5_2]); (try simp only [hl5_3]); (with_reducible repeat (first | apply Kd.R_alloc | apply Kd.R_drewN | apply Kd.R_drew)); exact HO_7.out⟩, ⟨by (try simp only [hl5_2]); (try simp only [hl5_3]); (with_reducible repeat (first | refine blk_drewN ?_ _ | refine blk_drew ?_ | refine blk_alloc ?_ _)); exact BK501.out⟩, ⟨hb1_ HB.out GE501.out⟩⟩
          ·rw [if_neg c25] at H
           have c25b0 : decide (x8_2 < (x7_2.length : Int)) = false := decide_eq_false c25
           clear c25
           obtain rfl := Option.some.inj H
           obtain ⟨Ao51, co51, eo51⟩ := Kd.R_slice HO_7.out
           subst eo51
           go_wp2
           go_ret
           exact ⟨_, ex_, by (with_reducible repeat (first | apply Kd.R_alloc | apply Kd.R_drewN | apply Kd.R_drew)); exact Kd.R_mono HO_5.out (fun _ hk => trivial), hb1_ HB.out GE501.out⟩
       ·rw [if_neg c18] at H
        exact absurd H (by simp)
      ·rw [if_neg c17] at H
       exact absurd H (by simp)
  ·rw [if_neg c5] at H
   exact absurd H (by simp)
 ·rw [if_neg c4] at H
  exact absurd H (by simp)

/-! ### spec_Reached: function 70 -/
def spec_Reached.l0 : Nat → List Int → List Int → Int → Option (List Int)
 | 0, _, _, _ => none
 | k + 1, x5, x6, x7 => if x7 < (x6.length : Int) then (if 0 ≤ x7 then (if (rd x6 x7) ≥ 0 then (if x5.length < 17592186044416 then (spec_Reached.l0 k (x5 ++ [x7]) x6 (wrap64 (x7 + 1))) else (none)) else (spec_Reached.l0 k x5 x6 (wrap64 (x7 + 1)))) else (none)) else (some x5)
def spec_Reached.f (k : Nat) (a0_0 : Int) (a0_1 : Int) (a0_2 : Int) (a1 : Int) : Option (List Int) := (some (([] : List Int) : List Int)).bind fun y502 => ((spec_l04Has.f a0_0 a0_1 a0_2 a1).bind fun t505 => (if t505 = true then ((spec_l04Distances.f k a0_0 a0_1 a0_2 a1).bind fun t506 => (spec_Reached.l0 k y502 t506 0)) else (some y502)))
theorem spec_Reached.mono_l : ∀ k, (∀ y0 y1 y2, LeO (spec_Reached.l0 k y0 y1 y2) (spec_Reached.l0 (k + 1) y0 y1 y2))
 | 0 => fun _ _ _ r h => by simp [spec_Reached.l0] at h
 | k + 1 => by
  have ih0 := spec_Reached.mono_l k
  ·intro y0 y1 y2
   unfold spec_Reached.l0
   repeat' first
   | (with_reducible exact ih0 ..)
   | (with_reducible exact spec_l04Distances.mono ..)
   | (with_reducible first | exact lr_ _ | exact ln_ _ | refine li_ ?_ ?_ | refine lb_ ?_ fun _ => ?_)
   | exact ih0 ..
   | exact spec_l04Distances.mono ..
   | exact ln_ _ | refine li_ ?_ ?_ | refine lb_ ?_ fun _ => ?_
theorem spec_Reached.mono : ∀ a0 a1 a2 a3 k, LeO (spec_Reached.f k a0 a1 a2 a3) (spec_Reached.f (k + 1) a0 a1 a2 a3) := by
 intro a0 a1 a2 a3 k
 have ih0 := spec_Reached.mono_l k
 unfold spec_Reached.f
 repeat' first
   | (with_reducible exact ih0 ..)
   | (with_reducible exact spec_l04Distances.mono ..)
   | (with_reducible first | exact lr_ _ | exact ln_ _ | refine li_ ?_ ?_ | refine lb_ ?_ fun _ => ?_)
   | exact ih0 ..
   | exact spec_l04Distances.mono ..
   | exact ln_ _ | refine li_ ?_ ?_ | refine lb_ ?_ fun _ => ?_
set_option maxHeartbeats 8000000 in
set_option maxRecDepth 100000 in
theorem spec_Reached.calls (k : Nat) (a0_0 : Int) (a0_1 : Int) (a0_2 : Int) (a1 : Int) (r : List Int) (w : World) (h : spec_Reached.f k a0_0 a0_1 a0_2 a1 = some r) :
  Calls Tryd.prog 70 #[.agg #[.int .i64 a0_0, .int .i64 a0_1, .int .i64 a0_2], .int .i64 a1] w fun e w' => ∃ v0_ : Value, e = .returned (v0_) ∧ Kd.R (Kd.int .i64) 3 w' w.heap.size (fun _ => True) v0_ r ∧ Below w.heap.size w w' := by
 have hu28 := Tryd.underlying28
 have HB := Aside0.mk (Below.refl w.heap.size w)
 have H : ((some (([] : List Int) : List Int)).bind fun y502 => ((spec_l04Has.f a0_0 a0_1 a0_2 a1).bind fun t505 => (if t505 = true then ((spec_l04Distances.f k a0_0 a0_1 a0_2 a1).bind fun t506 => (spec_Reached.l0 k y502 t506 0)) else (some y502)))) = some r := h
 clear h
 obtain ⟨y502, hy502⟩ : ∃ y_ : List Int, y_ = (([] : List Int)) := ⟨_, rfl⟩
 replace H : ((spec_l04Has.f a0_0 a0_1 a0_2 a1).bind fun t505 => (if t505 = true then ((spec_l04Distances.f k a0_0 a0_1 a0_2 a1).bind fun t506 => (spec_Reached.l0 k y502 t506 0)) else (some y502))) = some r := by first | (rw [hy502]; with_reducible exact H) | (have H2_ := (Option.bind_some _ _).symm.trans H; rw [hy502]; with_reducible exact H2_) | (have H2_ := (Option.bind_some _ _).symm.trans H; with_reducible exact H2_) | with_reducible exact H | (rw [hy502]; exact H) | exact H
 have Ny502 := Aside0.mk hy502
 clear hy502
 replace H := Option.bind_eq_some_iff.mp H
 obtain ⟨t505, A30, H⟩ := H
 replace H : (if t505 = true then ((spec_l04Distances.f k a0_0 a0_1 a0_2 a1).bind fun t506 => (spec_Reached.l0 k y502 t506 0)) else (some y502)) = some r := H
 have A3 := Aside0.mk A30
 clear A30
 by_cases c4 : t505 = true
 ·subst c4
  have H1 : ((spec_l04Distances.f k a0_0 a0_1 a0_2 a1).bind fun t506 => (spec_Reached.l0 k y502 t506 0)) = some r := by rw [if_pos rfl] at H; exact H
  clear H
  have H := H1
  clear H1
  replace H := Option.bind_eq_some_iff.mp H
  obtain ⟨t506, A50, H⟩ := H
  replace H : (spec_Reached.l0 k y502 t506 0) = some r := H
  have A5 := Aside0.mk A50
  clear A50
  have H' := Aside0.mk H
  clear H
  go_enter Tryd.func70, Tryd.ntmps70
  go_wp2_with (first | (refine box_ (N := 2) (cs := #[.int .i64 a0_0, .int .i64 a0_1, .int .i64 a0_2]) (t := 28) ?_; intro gb501 hg w6 hbox hb; have BK501 := Aside0.mk (hbox); have GW501 := HB.g0 hg; have GE501 := HB.g0 hg; replace HB := HB.s0 hb; clear hb hbox hg) | ((with_reducible refine gate_dst (N := 8) rfl ?_); refine Kd.R_lit (Kd.int .i64) _ 3 ?hg (N := 8) ?hd (xs := ([] : List Int)) (inner := []) (ok := fun _ => True) (okp := fun _ => True) ?hr ?hp (fun _ hk => hk) trivial (Below.refl _ _) (Nat.le_refl _) (by simp) ?_; (case hd => rfl); (case hg => rfl); (case hr => first | (go_simp; done) | (go_simp; rfl)); (case hp => exact (Reps.none _ _)); intro v503 w7 ho8 hb hg_ hnew_; clear hg_ hnew_; (first | rw [← Ny502.out] at ho8 | (simp only [Int.reduceToNat] at ho8; rw [← Ny502.out] at ho8)); have HO504 := Aside0.mk (Kd.R_lower ho8 (below_size (hb1_ HB.out GE501.out))); replace BK501 := BK501.bb hb; replace HB := HB.s1 GE501 hb; clear hb ho8; obtain ⟨hcz9_0, hcz9_1, hcz9_2⟩ := cz3_ BK501.out; obtain ⟨hfz9_0, hfz9_1, hfz9_2⟩ := fz3_ BK501.out) | (refine gl_ 11 Tryd.func45 #[.agg #[.int .i64 a0_0, .int .i64 a0_1, .int .i64 a0_2], .int .i64 a1] ?_; (with_reducible refine (spec_l04Has.calls a0_0 a0_1 a0_2 a1 true _ A3.out).mono ?_); rintro e w10 ⟨rfl, hb⟩; refine ⟨_, rfl, ?_⟩; replace HO504 := HO504.kb hb; replace BK501 := BK501.bb hb; replace HB := HB.s1 GE501 hb; (try clear hb); obtain ⟨hcz11_0, hcz11_1, hcz11_2⟩ := cz3_ BK501.out; obtain ⟨hfz11_0, hfz11_1, hfz11_2⟩ := fz3_ BK501.out) | (refine gl_ 16 Tryd.func46 #[.agg #[.int .i64 a0_0, .int .i64 a0_1, .int .i64 a0_2], .int .i64 a1] ?_; (with_reducible refine (spec_l04Distances.calls k a0_0 a0_1 a0_2 a1 t506 _ A5.out).mono ?_); rintro e w12 ⟨v507, rfl, ho0, hb⟩; refine ⟨_, rfl, ?_⟩; have HO508 := Aside0.mk (Kd.R_lower (Kd.R_new' ho0 (Kd.R_lt (kr_ HO504.out))) (below_size (hb1_ HB.out GE501.out))); replace HO504 := Aside0.mk (Kd.R_elder' (kr_ HO504.out) (Kd.R_base ho0) hb); replace BK501 := BK501.bb hb; replace HB := HB.s1 GE501 hb; (try clear hb); (try clear ho0)))
  go_loopg [5, 7] k (fun kq v5 v7 w' => ∃ (x5_1 : List Int) (x7_1 : Int), v7 = .int .i64 x7_1 ∧ Aside0 (spec_Reached.l0 kq x5_1 t506 x7_1 = some r) ∧ Aside0 (kq ≤ k) ∧ Aside0 (Kd.R (Kd.int .i64) 3 w' w.heap.size (fun k_ => some k_ ≠ (v507 : Value).ownBlock) v5 x5_1) ∧ Aside0 (Kd.R (Kd.int .i64) 3 w' w.heap.size (fun k_ => some k_ ≠ (v5 : Value).ownBlock) v507 t506) ∧ Aside0 (w'.heap[gb501]? = some (.cells #[.int .i64 a0_0, .int .i64 a0_1, .int .i64 a0_2] 28 (0, 0))) ∧ Aside0 (Below w.heap.size w w'))
  case atStart => exact ⟨(y502), (0), (by first | rfl | (simp; done) | (simp [*]; done)), H', ⟨Nat.le_refl _⟩, ⟨by (with_reducible repeat (first | apply Kd.R_alloc | apply Kd.R_drewN | apply Kd.R_drew)); exact Kd.R_mono HO504.out (fun _ hk => hk.2)⟩, ⟨by (with_reducible repeat (first | apply Kd.R_alloc | apply Kd.R_drewN | apply Kd.R_drew)); exact Kd.R_mono HO508.out (fun _ hk => hk.2)⟩, ⟨bk_ BK501.out⟩, ⟨hb1_ HB.out GE501.out⟩⟩
  case round =>
   clear H'
   try clear p2
   try clear c4
   try clear c7
   try clear hcz11_0
   try clear hcz11_1
   try clear hcz11_2
   try clear hcz9_0
   try clear hcz9_1
   try clear hcz9_2
   try clear hfz11_0
   try clear hfz11_1
   try clear hfz11_2
   try clear hfz9_0
   try clear hfz9_1
   try clear hfz9_2
   obtain ⟨x5_1, x7_1, rfl, HA, HK1, HO_5, HO_6, BK501, HB⟩ := hrel
   cases gk with
   | zero => exact absurd HA.out (by simp [spec_Reached.l0])
   | succ k1 =>
    have H := HA.out
    clear HA
    simp only [spec_Reached.l0] at H
    by_cases c13 : x7_1 < (t506.length : Int)
    ·rw [if_pos c13] at H
     have c13b0 : decide (x7_1 < (t506.length : Int)) = true := decide_eq_true c13
     clear c13
     by_cases c14 : 0 ≤ x7_1
     ·rw [if_pos c14] at H
      have c14b0 : decide (0 ≤ x7_1) = true := decide_eq_true c14
      clear c14
      by_cases c15 : (rd t506 x7_1) ≥ 0
      ·rw [if_pos c15] at H
       have c15b0 : decide (0 ≤ (rd t506 x7_1)) = true := decide_eq_true c15
       clear c15
       by_cases c16 : x5_1.length < 17592186044416
       ·rw [if_pos c16] at H
        have LMc16 := Aside0.mk c16
        clear c16
        obtain ⟨y510, hy510⟩ : ∃ y_ : List Int, y_ = (x5_1 ++ [x7_1]) := ⟨_, rfl⟩
        replace H : (spec_Reached.l0 k1 y510 t506 (wrap64 (x7_1 + 1))) = some r := by first | (rw [hy510]; with_reducible exact H) | (have H2_ := (Option.bind_some _ _).symm.trans H; rw [hy510]; with_reducible exact H2_) | (have H2_ := (Option.bind_some _ _).symm.trans H; with_reducible exact H2_) | with_reducible exact H | (rw [hy510]; exact H) | exact H
        have Ny510 := Aside0.mk hy510
        clear hy510
        have H' := Aside0.mk H
        clear H
        obtain ⟨Ao17, co17, eo17⟩ := Kd.R_slice HO_6.out
        subst eo17
        have p509 : 0 ≤ (x7_1 : Int) := of_decide_eq_true (as_)
        have q509 : x7_1 < (t506.length : Int) := of_decide_eq_true (as_)
        obtain ⟨ad509, e509, hx509_0⟩ := Kd.at_int (Kd.R_reads' HO_6.out).2.2 x7_1 p509 q509
        cases e509
        replace p509 := eq_true p509
        replace q509 := eq_true q509
        go_wp2_with (first | ((with_reducible refine gate_builtin (b := .append) (xs := #[.tmp 28, .tmp 30]) rfl ?_); at_builtin; refine Kd.R_append (Kd.int .i64) (w0 := w) w.heap.size rfl (.tmp 28) (.tmp 30) 37 3 (.int .i64 0) 8 rfl Tryd.underlying37 info3 rfl (by decide) (by omega) u5 x5_1 x7_1 [.int .i64 x7_1] (fun k_ => some k_ ≠ (.slice (some ad509) t506.length co17 : Value).ownBlock) (fun _ => False) rfl rfl ?aP (fun _ hk => hk.elim) ?aF ?aO ?aB ?aS ?aL ?_; (case aP => exact rfl); (case aB => exact (hb1_ HB.out GE501.out)); (case aF => exact (fun k_ hk => Kd.fresh' (Kd.R_lt (kr_ HO_6.out)) k_ hk)); (case aO => exact (kr_ HO_5.out)); (case aS => exact (below_size (hb1_ HB.out GE501.out))); (case aL => have := LMc16.out; omega); intro v511 w18 ho hb hg hat; rw [← Ny510.out] at ho; replace HO_6 := Aside0.mk (Kd.R_after (ok := (fun _ => True)) (by (with_reducible repeat (first | apply Kd.R_alloc | apply Kd.R_drewN | apply Kd.R_drew)); exact Kd.R_mono HO_6.out (fun _ hk => ⟨trivial, hk⟩)) hg hat); replace BK501 := Aside0.mk (blk_grown (g := gb501) (o := .cells #[.int .i64 a0_0, .int .i64 a0_1, .int .i64 a0_2] 28 (0, 0)) (bk_ BK501.out) hg (Kd.R_ne HO_5.out BK501.out (by decide))); replace HB := Aside0.mk (hb); have HO512 := Aside0.mk (ho); clear HO_5; clear ho hb hg hat))
        go_roundg k1
        case measure => have := HK1.out; omega
        case rel => exact ⟨(y510), (wrap64 (x7_1 + 1)), (by first | rfl | (simp; done) | (simp [*]; done)), H', ⟨by have := HK1.out; omega⟩, ⟨kr_ HO512.out⟩, ⟨by (with_reducible repeat (first | apply Kd.R_alloc | apply Kd.R_drewN | apply Kd.R_drew)); exact Kd.R_mono HO_6.out (fun _ hk => hk.2)⟩, ⟨bk_ BK501.out⟩, ⟨hb1_ HB.out GE501.out⟩⟩
       ·rw [if_neg c16] at H
        exact absurd H (by simp)
      ·rw [if_neg c15] at H
       have c15b0 : decide (0 ≤ (rd t506 x7_1)) = false := decide_eq_false c15
       clear c15
       have H' := Aside0.mk H
       clear H
       obtain ⟨Ao19, co19, eo19⟩ := Kd.R_slice HO_6.out
       subst eo19
       have p509 : 0 ≤ (x7_1 : Int) := of_decide_eq_true (as_)
       have q509 : x7_1 < (t506.length : Int) := of_decide_eq_true (as_)
       obtain ⟨ad509, e509, hx509_0⟩ := Kd.at_int (Kd.R_reads' HO_6.out).2.2 x7_1 p509 q509
       cases e509
       replace p509 := eq_true p509
       replace q509 := eq_true q509
       go_wp2
       go_roundg k1
       case measure => have := HK1.out; omega
       case rel => exact ⟨(x5_1), (wrap64 (x7_1 + 1)), (by first | rfl | (simp; done) | (simp [*]; done)), H', ⟨by have := HK1.out; omega⟩, ⟨kr_ HO_5.out⟩, ⟨kr_ HO_6.out⟩, ⟨bk_ BK501.out⟩, ⟨hb1_ HB.out GE501.out⟩⟩
     ·rw [if_neg c14] at H
      exact absurd H (by simp)
    ·rw [if_neg c13] at H
     have c13b0 : decide (x7_1 < (t506.length : Int)) = false := decide_eq_false c13
     clear c13
     obtain rfl := Option.some.inj H
     obtain ⟨Ao20, co20, eo20⟩ := Kd.R_slice HO_6.out
     subst eo20
     go_wp2
     go_ret
     exact ⟨_, ex_, by (with_reducible repeat (first | apply Kd.R_alloc | apply Kd.R_drewN | apply Kd.R_drew)); exact Kd.R_mono HO_5.out (fun _ hk => trivial), hb1_ HB.out GE501.out⟩
 ·replace c4 := Bool.eq_false_iff.mpr c4
  subst c4
  have H1 : (some y502) = some r := by rw [if_neg (show ¬ (false = true) by decide)] at H; exact H
  clear H
  have H := H1
  clear H1
  obtain rfl := Option.some.inj H
  go_enter Tryd.func70, Tryd.ntmps70
  go_wp2_with (first | (refine box_ (N := 2) (cs := #[.int .i64 a0_0, .int .i64 a0_1, .int .i64 a0_2]) (t := 28) ?_; intro gb501 hg w21 hbox hb; have BK501 := Aside0.mk (hbox); have GW501 := HB.g0 hg; have GE501 := HB.g0 hg; replace HB := HB.s0 hb; clear hb hbox hg) | ((with_reducible refine gate_dst (N := 8) rfl ?_); refine Kd.R_lit (Kd.int .i64) _ 3 ?hg (N := 8) ?hd (xs := ([] : List Int)) (inner := []) (ok := fun _ => True) (okp := fun _ => True) ?hr ?hp (fun _ hk => hk) trivial (Below.refl _ _) (Nat.le_refl _) (by simp) ?_; (case hd => rfl); (case hg => rfl); (case hr => first | (go_simp; done) | (go_simp; rfl)); (case hp => exact (Reps.none _ _)); intro v503 w22 ho23 hb hg_ hnew_; clear hg_ hnew_; (first | rw [← Ny502.out] at ho23 | (simp only [Int.reduceToNat] at ho23; rw [← Ny502.out] at ho23)); have HO504 := Aside0.mk (Kd.R_lower ho23 (below_size (hb1_ HB.out GE501.out))); replace BK501 := BK501.bb hb; replace HB := HB.s1 GE501 hb; clear hb ho23; obtain ⟨hcz24_0, hcz24_1, hcz24_2⟩ := cz3_ BK501.out; obtain ⟨hfz24_0, hfz24_1, hfz24_2⟩ := fz3_ BK501.out) | (refine gl_ 11 Tryd.func45 #[.agg #[.int .i64 a0_0, .int .i64 a0_1, .int .i64 a0_2], .int .i64 a1] ?_; (with_reducible refine (spec_l04Has.calls a0_0 a0_1 a0_2 a1 false _ A3.out).mono ?_); rintro e w25 ⟨rfl, hb⟩; refine ⟨_, rfl, ?_⟩; replace HO504 := HO504.kb hb; replace BK501 := BK501.bb hb; replace HB := HB.s1 GE501 hb; (try clear hb)))
  go_ret
  exact ⟨_, ex_, kr_ HO504.out, hb1_ HB.out GE501.out⟩

/-! ### spec_CountParts: function 59 -/
mutual
def spec_CountParts.l0 : Nat → Int → Int → Int → Int → Int → Option (Int)
 | 0, _, _, _, _, _ => none
 | k + 1, x3, x4, x502000, x502001, x502002 => (spec_CountCells.f x502000 x502001).bind fun t502 => (if x4 < t502 then ((spec_MazeOk.f x502000 x502001 x502002).bind fun t503 => (spec_CountParts.j1 k x3 x4 t503 x502000 x502001 x502002)) else (spec_CountParts.j1 k x3 x4 false x502000 x502001 x502002))
def spec_CountParts.j1 : Nat → Int → Int → Bool → Int → Int → Int → Option (Int)
 | 0, _, _, _, _, _, _ => none
 | k + 1, x3, x4, x13, x502000, x502001, x502002 => if x13 = true then ((spec_Reached.f k x502000 x502001 x502002 x4).bind fun t504 => (if 0 < (t504.length : Int) then (if (rd t504 0) = x4 then (spec_CountParts.l0 k (wrap64 (x3 + 1)) (wrap64 (x4 + 1)) x502000 x502001 x502002) else (spec_CountParts.l0 k x3 (wrap64 (x4 + 1)) x502000 x502001 x502002)) else (none))) else (some x3)
end
def spec_CountParts.f (k : Nat) (a0_0 : Int) (a0_1 : Int) (a0_2 : Int) : Option (Int) := spec_CountParts.l0 k 0 0 a0_0 a0_1 a0_2
theorem spec_CountParts.mono_l : ∀ k, (∀ y0 y1 y2 y3 y4, LeO (spec_CountParts.l0 k y0 y1 y2 y3 y4) (spec_CountParts.l0 (k + 1) y0 y1 y2 y3 y4)) ∧ (∀ y0 y1 y2 y3 y4 y5, LeO (spec_CountParts.j1 k y0 y1 y2 y3 y4 y5) (spec_CountParts.j1 (k + 1) y0 y1 y2 y3 y4 y5))
 | 0 => ⟨fun _ _ _ _ _ r h => by simp [spec_CountParts.l0] at h, fun _ _ _ _ _ _ r h => by simp [spec_CountParts.j1] at h⟩
 | k + 1 => by
  obtain ⟨ih0, ih1⟩ := spec_CountParts.mono_l k
  refine ⟨?_, ?_⟩
  ·intro y0 y1 y2 y3 y4
   unfold spec_CountParts.l0
   repeat' first
   | (with_reducible exact ih0 ..)
   | (with_reducible exact ih1 ..)
   | (with_reducible exact spec_Reached.mono ..)
   | (with_reducible first | exact lr_ _ | exact ln_ _ | refine li_ ?_ ?_ | refine lb_ ?_ fun _ => ?_)
   | exact ih0 ..
   | exact ih1 ..
   | exact spec_Reached.mono ..
   | exact ln_ _ | refine li_ ?_ ?_ | refine lb_ ?_ fun _ => ?_
  ·intro y0 y1 y2 y3 y4 y5
   unfold spec_CountParts.j1
   repeat' first
   | (with_reducible exact ih0 ..)
   | (with_reducible exact ih1 ..)
   | (with_reducible exact spec_Reached.mono ..)
   | (with_reducible first | exact lr_ _ | exact ln_ _ | refine li_ ?_ ?_ | refine lb_ ?_ fun _ => ?_)
   | exact ih0 ..
   | exact ih1 ..
   | exact spec_Reached.mono ..
   | exact ln_ _ | refine li_ ?_ ?_ | refine lb_ ?_ fun _ => ?_
theorem spec_CountParts.mono : ∀ a0 a1 a2 k, LeO (spec_CountParts.f k a0 a1 a2) (spec_CountParts.f (k + 1) a0 a1 a2) := by
 intro a0 a1 a2 k
 obtain ⟨ih0, ih1⟩ := spec_CountParts.mono_l k
 unfold spec_CountParts.f
 repeat' first
   | (with_reducible exact ih0 ..)
   | (with_reducible exact ih1 ..)
   | (with_reducible exact spec_Reached.mono ..)
   | (with_reducible first | exact lr_ _ | exact ln_ _ | refine li_ ?_ ?_ | refine lb_ ?_ fun _ => ?_)
   | exact ih0 ..
   | exact ih1 ..
   | exact spec_Reached.mono ..
   | exact ln_ _ | refine li_ ?_ ?_ | refine lb_ ?_ fun _ => ?_
set_option maxHeartbeats 8000000 in
set_option maxRecDepth 100000 in
theorem spec_CountParts.calls (k : Nat) (a0_0 : Int) (a0_1 : Int) (a0_2 : Int) (r : Int) (w : World) (h : spec_CountParts.f k a0_0 a0_1 a0_2 = some r) :
  Calls Tryd.prog 59 #[.agg #[.int .i64 a0_0, .int .i64 a0_1, .int .i64 a0_2]] w fun e w' => e = .returned (.int .i64 r) ∧ Below w.heap.size w w' := by
 have hu28 := Tryd.underlying28
 have hu26 := Tryd.underlying26
 have HB := Aside0.mk (Below.refl w.heap.size w)
 have H : (spec_CountParts.l0 k 0 0 a0_0 a0_1 a0_2) = some r := h
 clear h
 have H' := Aside0.mk H
 clear H
 go_enter Tryd.func59, Tryd.ntmps59
 go_wp2_with (first | (refine box_ (N := 1) (cs := #[.int .i64 a0_0, .int .i64 a0_1, .int .i64 a0_2]) (t := 28) ?_; intro gb501 hg w2 hbox hb; have BK501 := Aside0.mk (hbox); have GW501 := HB.g0 hg; have GE501 := HB.g0 hg; replace HB := HB.s0 hb; clear hb hbox hg))
 go_loopg [3, 4] k (fun kq v3 v4 w' => ∃ (x3_1 : Int) (x4_1 : Int), v3 = .int .i64 x3_1 ∧ v4 = .int .i64 x4_1 ∧ Aside0 (spec_CountParts.l0 kq x3_1 x4_1 a0_0 a0_1 a0_2 = some r) ∧ Aside0 (kq ≤ k) ∧ Aside0 (w'.heap[gb501]? = some (.cells #[.int .i64 a0_0, .int .i64 a0_1, .int .i64 a0_2] 28 (0, 0))) ∧ Aside0 (Below w.heap.size w w'))
 case atStart => exact ⟨(0), (0), (by first | rfl | (simp; done) | (simp [*]; done)), (by first | rfl | (simp; done) | (simp [*]; done)), H', ⟨Nat.le_refl _⟩, ⟨bk_ BK501.out⟩, ⟨hb1_ HB.out GE501.out⟩⟩
 case round =>
  clear H'
  try clear p2
  obtain ⟨x3_1, x4_1, rfl, rfl, HA, HK1, BK501, HB⟩ := hrel
  cases gk with
  | zero => exact absurd HA.out (by simp [spec_CountParts.l0])
  | succ k1 =>
   have H := HA.out
   clear HA
   simp only [spec_CountParts.l0] at H
   have HC3 := Aside0.mk H
   clear H
   go_upto_region 3 with (fail)
   go_cut [13] (fun v13 wc => ∃ (kq : Nat) (x13_2 : Bool), v13 = .bool x13_2 ∧ Aside0 (spec_CountParts.j1 kq x3_1 x4_1 x13_2 a0_0 a0_1 a0_2 = some r) ∧ Aside0 (kq ≤ k1) ∧ Aside0 (wc.heap[gb501]? = some (.cells #[.int .i64 a0_0, .int .i64 a0_1, .int .i64 a0_2] 28 (0, 0))) ∧ Aside0 (Below w.heap.size w wc))
   case first =>
    have H := HC3.out
    clear HC3
    replace H := Option.bind_eq_some_iff.mp H
    obtain ⟨t502, A40, H⟩ := H
    replace H : (if x4_1 < t502 then ((spec_MazeOk.f a0_0 a0_1 a0_2).bind fun t503 => (spec_CountParts.j1 k1 x3_1 x4_1 t503 a0_0 a0_1 a0_2)) else (spec_CountParts.j1 k1 x3_1 x4_1 false a0_0 a0_1 a0_2)) = some r := H
    have A4 := Aside0.mk A40
    clear A40
    by_cases c5 : x4_1 < t502
    ·rw [if_pos c5] at H
     have c5b0 : decide (x4_1 < t502) = true := decide_eq_true c5
     clear c5
     (first | rw [c5b0] | (simp only [i64_w, i32_w]; rw [c5b0]) | skip)
     replace H := Option.bind_eq_some_iff.mp H
     obtain ⟨t503, A60, H⟩ := H
     replace H : (spec_CountParts.j1 k1 x3_1 x4_1 t503 a0_0 a0_1 a0_2) = some r := H
     have A6 := Aside0.mk A60
     clear A60
     have H' := Aside0.mk H
     clear H
     obtain ⟨hcz7_0, hcz7_1, hcz7_2⟩ := cz3_ BK501.out
     obtain ⟨hfz7_0, hfz7_1, hfz7_2⟩ := fz3_ BK501.out
     go_wp2_with (first | (refine gl_ 8 Tryd.func43 #[.agg #[.int .i64 a0_0, .int .i64 a0_1]] ?_; (with_reducible refine (spec_CountCells.calls a0_0 a0_1 t502 _ A4.out).mono ?_); rintro e w8 ⟨rfl, hb⟩; refine ⟨_, rfl, ?_⟩; replace BK501 := BK501.bb hb; replace HB := HB.s1 GE501 hb; (try clear hb); obtain ⟨hcz9_0, hcz9_1, hcz9_2⟩ := cz3_ BK501.out; obtain ⟨hfz9_0, hfz9_1, hfz9_2⟩ := fz3_ BK501.out) | (go_at_call 44; (with_reducible refine (spec_MazeOk.calls a0_0 a0_1 a0_2 t503 _ A6.out).mono ?_); rintro e w10 ⟨rfl, hb⟩; replace BK501 := BK501.bb hb; replace HB := HB.s1 GE501 hb; (try clear hb)))
     go_meet
     case rel => exact ⟨_, (t503), (by first | rfl | (simp; done) | (simp [*]; done)), H', ⟨by have := HK1.out; first | omega | exact Nat.le_refl _⟩, ⟨bk_ BK501.out⟩, ⟨hb1_ HB.out GE501.out⟩⟩
    ·rw [if_neg c5] at H
     have c5b0 : decide (x4_1 < t502) = false := decide_eq_false c5
     clear c5
     (first | rw [c5b0] | (simp only [i64_w, i32_w]; rw [c5b0]) | skip)
     have H' := Aside0.mk H
     clear H
     obtain ⟨hcz11_0, hcz11_1, hcz11_2⟩ := cz3_ BK501.out
     obtain ⟨hfz11_0, hfz11_1, hfz11_2⟩ := fz3_ BK501.out
     go_wp2_with (first | (refine gl_ 8 Tryd.func43 #[.agg #[.int .i64 a0_0, .int .i64 a0_1]] ?_; (with_reducible refine (spec_CountCells.calls a0_0 a0_1 t502 _ A4.out).mono ?_); rintro e w12 ⟨rfl, hb⟩; refine ⟨_, rfl, ?_⟩; replace BK501 := BK501.bb hb; replace HB := HB.s1 GE501 hb; (try clear hb)))
     go_meet
     case rel => exact ⟨_, (false), (by first | rfl | (simp; done) | (simp [*]; done)), H', ⟨by have := HK1.out; first | omega | exact Nat.le_refl _⟩, ⟨bk_ BK501.out⟩, ⟨hb1_ HB.out GE501.out⟩⟩
   case rest =>
    clear HC3
    try clear p2
    try clear c4
    try clear c5
    try clear c5b0
    try clear hcz11_0
    try clear hcz11_1
    try clear hcz11_2
    try clear hcz7_0
    try clear hcz7_1
    try clear hcz7_2
    try clear hcz9_0
    try clear hcz9_1
    try clear hcz9_2
    try clear hfz11_0
    try clear hfz11_1
    try clear hfz11_2
    try clear hfz7_0
    try clear hfz7_1
    try clear hfz7_2
    try clear hfz9_0
    try clear hfz9_1
    try clear hfz9_2
    try clear p2
    obtain ⟨kq, x13_2, rfl, HA, HJ2, BK501, HB⟩ := hcut
    cases kq with
    | zero => exact absurd HA.out (by simp [spec_CountParts.j1])
    | succ kj2 =>
     have H := HA.out
     clear HA
     simp only [spec_CountParts.j1] at H
     by_cases c13 : x13_2 = true
     ·subst c13
      have H1 : ((spec_Reached.f kj2 a0_0 a0_1 a0_2 x4_1).bind fun t504 => (if 0 < (t504.length : Int) then (if (rd t504 0) = x4_1 then (spec_CountParts.l0 kj2 (wrap64 (x3_1 + 1)) (wrap64 (x4_1 + 1)) a0_0 a0_1 a0_2) else (spec_CountParts.l0 kj2 x3_1 (wrap64 (x4_1 + 1)) a0_0 a0_1 a0_2)) else (none))) = some r := by rw [if_pos rfl] at H; exact H
      clear H
      have H := H1
      clear H1
      replace H := Option.bind_eq_some_iff.mp H
      obtain ⟨t504, A140, H⟩ := H
      replace H : (if 0 < (t504.length : Int) then (if (rd t504 0) = x4_1 then (spec_CountParts.l0 kj2 (wrap64 (x3_1 + 1)) (wrap64 (x4_1 + 1)) a0_0 a0_1 a0_2) else (spec_CountParts.l0 kj2 x3_1 (wrap64 (x4_1 + 1)) a0_0 a0_1 a0_2)) else (none)) = some r := H
      have A14 := Aside0.mk A140
      clear A140
      by_cases c15 : 0 < (t504.length : Int)
      ·rw [if_pos c15] at H
       have c15b0 : decide (0 < (t504.length : Int)) = true := decide_eq_true c15
       have c15b1 : decide (0 < t504.length) = true := decide_eq_true (by omega)
       clear c15
       by_cases c16 : (rd t504 0) = x4_1
       ·rw [if_pos c16] at H
        have c16b0 : ((rd t504 0) == x4_1) = true := beq_iff_eq.mpr c16
        have c16b1 : ((rd t504 0) != x4_1) = false := bne_eq_false_iff_eq.mpr c16
        clear c16
        have H' := Aside0.mk H
        clear H
        obtain ⟨hcz17_0, hcz17_1, hcz17_2⟩ := cz3_ BK501.out
        obtain ⟨hfz17_0, hfz17_1, hfz17_2⟩ := fz3_ BK501.out
        go_wp2_with (first | (refine gl_ 18 Tryd.func70 #[.agg #[.int .i64 a0_0, .int .i64 a0_1, .int .i64 a0_2], .int .i64 x4_1] ?_; (with_reducible refine (spec_Reached.calls kj2 a0_0 a0_1 a0_2 x4_1 t504 _ A14.out).mono ?_); rintro e w18 ⟨v505, rfl, ho0, hb⟩; refine ⟨_, rfl, ?_⟩; have HO506 := Aside0.mk (Kd.R_lower ho0 (below_size (hb1_ HB.out GE501.out))); replace BK501 := BK501.bb hb; replace HB := HB.s1 GE501 hb; (try clear hb); (try clear ho0); obtain ⟨Ao19, co19, eo19⟩ := Kd.R_slice HO506.out; subst eo19; have p507 : 0 ≤ (0 : Int) := (by omega); have q507 : 0 < (t504.length : Int) := of_decide_eq_true (as_); obtain ⟨ad507, e507, hx507_0⟩ := Kd.at_int (Kd.R_reads' HO506.out).2.2 0 p507 q507; cases e507; have qi507 : (0 < t504.length) = True := eq_true (by omega); (try rw [show ((0 : Int)).toNat = 0 from rfl] at hx507_0); (try rw [Addr.add_zero'] at hx507_0); replace p507 := eq_true p507; replace q507 := eq_true q507))
        go_roundg kj2
        case measure => have := HK1.out; have := HJ2.out; omega
        case rel => exact ⟨(wrap64 (x3_1 + 1)), (wrap64 (x4_1 + 1)), (by first | rfl | (simp; done) | (simp [*]; done)), (by first | rfl | (simp; done) | (simp [*]; done)), H', ⟨by have := HK1.out; have := HJ2.out; omega⟩, ⟨bk_ BK501.out⟩, ⟨hb1_ HB.out GE501.out⟩⟩
       ·rw [if_neg c16] at H
        have c16b0 : ((rd t504 0) == x4_1) = false := beq_eq_false_iff_ne.mpr c16
        have c16b1 : ((rd t504 0) != x4_1) = true := bne_iff_ne.mpr c16
        have H' := Aside0.mk H
        clear H
        obtain ⟨hcz20_0, hcz20_1, hcz20_2⟩ := cz3_ BK501.out
        obtain ⟨hfz20_0, hfz20_1, hfz20_2⟩ := fz3_ BK501.out
        go_wp2_with (first | (refine gl_ 18 Tryd.func70 #[.agg #[.int .i64 a0_0, .int .i64 a0_1, .int .i64 a0_2], .int .i64 x4_1] ?_; (with_reducible refine (spec_Reached.calls kj2 a0_0 a0_1 a0_2 x4_1 t504 _ A14.out).mono ?_); rintro e w21 ⟨v505, rfl, ho0, hb⟩; refine ⟨_, rfl, ?_⟩; have HO506 := Aside0.mk (Kd.R_lower ho0 (below_size (hb1_ HB.out GE501.out))); replace BK501 := BK501.bb hb; replace HB := HB.s1 GE501 hb; (try clear hb); (try clear ho0); obtain ⟨Ao22, co22, eo22⟩ := Kd.R_slice HO506.out; subst eo22; have p507 : 0 ≤ (0 : Int) := (by omega); have q507 : 0 < (t504.length : Int) := of_decide_eq_true (as_); obtain ⟨ad507, e507, hx507_0⟩ := Kd.at_int (Kd.R_reads' HO506.out).2.2 0 p507 q507; cases e507; have qi507 : (0 < t504.length) = True := eq_true (by omega); (try rw [show ((0 : Int)).toNat = 0 from rfl] at hx507_0); (try rw [Addr.add_zero'] at hx507_0); replace p507 := eq_true p507; replace q507 := eq_true q507))
        go_roundg kj2
        case measure => have := HK1.out; have := HJ2.out; omega
        case rel => exact ⟨(x3_1), (wrap64 (x4_1 + 1)), (by first | rfl | (simp; done) | (simp [*]; done)), (by first | rfl | (simp; done) | (simp [*]; done)), H', ⟨by have := HK1.out; have := HJ2.out; omega⟩, ⟨bk_ BK501.out⟩, ⟨hb1_ HB.out GE501.out⟩⟩
      ·rw [if_neg c15] at H
       exact absurd H (by simp)
     ·replace c13 := Bool.eq_false_iff.mpr c13
      subst c13
      have H1 : (some x3_1) = some r := by rw [if_neg (show ¬ (false = true) by decide)] at H; exact H
      clear H
      have H := H1
      clear H1
      obtain rfl := Option.some.inj H
      go_wp2
      go_ret
      exact ⟨ex_, hb1_ HB.out GE501.out⟩

/-! ### spec_IsConnected: function 41 -/
def spec_IsConnected.f (k : Nat) (a0_0 : Int) (a0_1 : Int) (a0_2 : Int) : Option (Bool) := (spec_CountParts.f k a0_0 a0_1 a0_2).bind fun t502 => (some (t502 == 1))
theorem spec_IsConnected.mono : ∀ a0 a1 a2 k, LeO (spec_IsConnected.f k a0 a1 a2) (spec_IsConnected.f (k + 1) a0 a1 a2) := by
 intro a0 a1 a2 k
 unfold spec_IsConnected.f
 repeat' first
   | (with_reducible exact spec_CountParts.mono ..)
   | (with_reducible first | exact lr_ _ | exact ln_ _ | refine li_ ?_ ?_ | refine lb_ ?_ fun _ => ?_)
   | exact spec_CountParts.mono ..
   | exact ln_ _ | refine li_ ?_ ?_ | refine lb_ ?_ fun _ => ?_
set_option maxHeartbeats 8000000 in
set_option maxRecDepth 100000 in
theorem spec_IsConnected.calls (k : Nat) (a0_0 : Int) (a0_1 : Int) (a0_2 : Int) (r : Bool) (w : World) (h : spec_IsConnected.f k a0_0 a0_1 a0_2 = some r) :
  Calls Tryd.prog 41 #[.agg #[.int .i64 a0_0, .int .i64 a0_1, .int .i64 a0_2]] w fun e w' => e = .returned (.bool r) ∧ Below w.heap.size w w' := by
 have hu28 := Tryd.underlying28
 have HB := Aside0.mk (Below.refl w.heap.size w)
 have H : ((spec_CountParts.f k a0_0 a0_1 a0_2).bind fun t502 => (some (t502 == 1))) = some r := h
 clear h
 replace H := Option.bind_eq_some_iff.mp H
 obtain ⟨t502, A20, H⟩ := H
 replace H : (some (t502 == 1)) = some r := H
 have A2 := Aside0.mk A20
 clear A20
 obtain rfl := Option.some.inj H
 go_enter Tryd.func41, Tryd.ntmps41
 go_wp2_with (first | (refine box_ (N := 1) (cs := #[.int .i64 a0_0, .int .i64 a0_1, .int .i64 a0_2]) (t := 28) ?_; intro gb501 hg w3 hbox hb; have BK501 := Aside0.mk (hbox); have GW501 := HB.g0 hg; have GE501 := HB.g0 hg; replace HB := HB.s0 hb; clear hb hbox hg; obtain ⟨hcz4_0, hcz4_1, hcz4_2⟩ := cz3_ BK501.out; obtain ⟨hfz4_0, hfz4_1, hfz4_2⟩ := fz3_ BK501.out) | (refine gl_ 4 Tryd.func59 #[.agg #[.int .i64 a0_0, .int .i64 a0_1, .int .i64 a0_2]] ?_; (with_reducible refine (spec_CountParts.calls k a0_0 a0_1 a0_2 t502 _ A2.out).mono ?_); rintro e w5 ⟨rfl, hb⟩; refine ⟨_, rfl, ?_⟩; replace BK501 := BK501.bb hb; replace HB := HB.s1 GE501 hb; (try clear hb)))
 go_ret
 exact ⟨ex_, hb1_ HB.out GE501.out⟩

end Go.Proofs.YtbdodiaedocmjaaDoor.X
