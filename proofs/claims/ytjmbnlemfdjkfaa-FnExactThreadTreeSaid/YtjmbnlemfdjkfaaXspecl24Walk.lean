-- Written by a program of this session (xprint.py), out of the translation and of hand-written contracts. Lean checks it.
import Derived.Test.YtjmbnlemfdjkfaaX0
import Derived.Test.YtjmbnlemfdjkfaaXcgrid
import Derived.Test.YtjmbnlemfdjkfaaXcstep
namespace Go.Proofs.Ytjmbnlemfdjkfaa.X
open Go.RowKit Go.Proofs.YtjmbnlemfdjkfaaW.PrintWords Go.Proofs.YtjmbnlemfdjkfaaW.PrintLast Go.Proofs.YtjmbnlemfdjkfaaW.PrintMore
attribute [local go_sem] max2_int min2_int max_two min_two max_three min_three max_four min_four   -- for this text's walks alone
set_option linter.unusedVariables false
set_option linter.unusedSimpArgs false

/-! ### spec_l24Walk: function 43 -/
mutual
def spec_l24Walk.l0 : Nat → Int → List Int → Int → Int → Int → Int → Option (List Int × List Int)
 | 0, _, _, _, _, _, _ => none
 | k + 1, x1, x6, x7, x502000, x502001, x502002 => if x7 < (x6.length : Int) then (if 0 ≤ x7 then (spec_l24Walk.l0 k x1 (x6.set (x7 : Int).toNat (-1)) (wrap64 (x7 + 1)) x502000 x502001 x502002) else (none)) else (if 0 ≤ (x6.length : Int) then (if ((x6.length : Int) : Int).toNat ≤ 281474976710656 then ((some (List.replicate ((x6.length : Int) : Int).toNat false : List Bool)).bind fun y510 => (if 0 ≤ x1 then (if x1 < (y510.length : Int) then (spec_l24Walk.l1 k x1 x6 (([x1] : List Int)) (y510.set (x1 : Int).toNat true) x1 x502000 x502001 x502002) else (none)) else (none))) else (none)) else (none))
def spec_l24Walk.l1 : Nat → Int → List Int → List Int → List Bool → Int → Int → Int → Int → Option (List Int × List Int)
 | 0, _, _, _, _, _, _, _, _ => none
 | k + 1, x1, x6, x8, x9, x10, x502000, x502001, x502002 => spec_l24Walk.l2 k x1 x6 x8 x9 x10 (-1) 3 x502000 x502001 x502002
def spec_l24Walk.l2 : Nat → Int → List Int → List Int → List Bool → Int → Int → Int → Int → Int → Int → Option (List Int × List Int)
 | 0, _, _, _, _, _, _, _, _, _, _ => none
 | k + 1, x1, x6, x8, x9, x10, x11, x12, x502000, x502001, x502002 => if x12 ≥ 0 then ((spec_Step.f k x502000 x502001 x502002 x10 x12).bind fun t514 => (if t514 ≥ 0 then (if 0 ≤ t514 then (if t514 < (x9.length : Int) then (if rdOf false x9 t514 = true then (spec_l24Walk.l2 k x1 x6 x8 x9 x10 x11 (wrap64 (x12 - 1)) x502000 x502001 x502002) else (spec_l24Walk.l2 k x1 x6 x8 x9 x10 t514 (wrap64 (x12 - 1)) x502000 x502001 x502002)) else (none)) else (none)) else (spec_l24Walk.l2 k x1 x6 x8 x9 x10 x11 (wrap64 (x12 - 1)) x502000 x502001 x502002))) else (if x11 ≥ 0 then (if 0 ≤ x11 then (if x11 < (x6.length : Int) then (if x11 < (x9.length : Int) then (if x8.length < 17592186044416 then (spec_l24Walk.l1 k x1 (x6.set (x11 : Int).toNat x10) (x8 ++ [x11]) (x9.set (x11 : Int).toNat true) x11 x502000 x502001 x502002) else (none)) else (none)) else (none)) else (none)) else (if x10 = x1 then (some (x8, x6)) else (if 0 ≤ x10 then (if x10 < (x6.length : Int) then (if x8.length < 17592186044416 then (spec_l24Walk.l1 k x1 x6 (x8 ++ [rd x6 x10]) x9 (rd x6 x10) x502000 x502001 x502002) else (none)) else (none)) else (none))))
end
def spec_l24Walk.f (k : Nat) (a0_0 : Int) (a0_1 : Int) (a0_2 : Int) (a1 : Int) : Option (List Int × List Int) := (spec_CountCells.f a0_0 a0_1).bind fun t502 => (if 0 ≤ t502 then (if (t502 : Int).toNat ≤ 35184372088832 then (spec_l24Walk.l0 k a1 (List.replicate (t502 : Int).toNat 0) 0 a0_0 a0_1 a0_2) else (none)) else (none))
theorem spec_l24Walk.mono_l : ∀ k, (∀ y0 y1 y2 y3 y4 y5, LeO (spec_l24Walk.l0 k y0 y1 y2 y3 y4 y5) (spec_l24Walk.l0 (k + 1) y0 y1 y2 y3 y4 y5)) ∧ (∀ y0 y1 y2 y3 y4 y5 y6 y7, LeO (spec_l24Walk.l1 k y0 y1 y2 y3 y4 y5 y6 y7) (spec_l24Walk.l1 (k + 1) y0 y1 y2 y3 y4 y5 y6 y7)) ∧ (∀ y0 y1 y2 y3 y4 y5 y6 y7 y8 y9, LeO (spec_l24Walk.l2 k y0 y1 y2 y3 y4 y5 y6 y7 y8 y9) (spec_l24Walk.l2 (k + 1) y0 y1 y2 y3 y4 y5 y6 y7 y8 y9))
 | 0 => ⟨fun _ _ _ _ _ _ r h => by simp [spec_l24Walk.l0] at h, fun _ _ _ _ _ _ _ _ r h => by simp [spec_l24Walk.l1] at h, fun _ _ _ _ _ _ _ _ _ _ r h => by simp [spec_l24Walk.l2] at h⟩
 | k + 1 => by
  obtain ⟨ih0, ih1, ih2⟩ := spec_l24Walk.mono_l k
  refine ⟨?_, ?_, ?_⟩
  ·intro y0 y1 y2 y3 y4 y5
   unfold spec_l24Walk.l0
   repeat' first
   | (with_reducible exact ih0 ..)
   | (with_reducible exact ih1 ..)
   | (with_reducible exact ih2 ..)
   | (with_reducible exact spec_Step.mono ..)
   | (with_reducible first | exact lr_ _ | exact ln_ _ | refine li_ ?_ ?_ | refine lb_ ?_ fun _ => ?_)
   | exact ih0 ..
   | exact ih1 ..
   | exact ih2 ..
   | exact spec_Step.mono ..
   | exact ln_ _ | refine li_ ?_ ?_ | refine lb_ ?_ fun _ => ?_
  ·intro y0 y1 y2 y3 y4 y5 y6 y7
   unfold spec_l24Walk.l1
   repeat' first
   | (with_reducible exact ih0 ..)
   | (with_reducible exact ih1 ..)
   | (with_reducible exact ih2 ..)
   | (with_reducible exact spec_Step.mono ..)
   | (with_reducible first | exact lr_ _ | exact ln_ _ | refine li_ ?_ ?_ | refine lb_ ?_ fun _ => ?_)
   | exact ih0 ..
   | exact ih1 ..
   | exact ih2 ..
   | exact spec_Step.mono ..
   | exact ln_ _ | refine li_ ?_ ?_ | refine lb_ ?_ fun _ => ?_
  ·intro y0 y1 y2 y3 y4 y5 y6 y7 y8 y9
   unfold spec_l24Walk.l2
   repeat' first
   | (with_reducible exact ih0 ..)
   | (with_reducible exact ih1 ..)
   | (with_reducible exact ih2 ..)
   | (with_reducible exact spec_Step.mono ..)
   | (with_reducible first | exact lr_ _ | exact ln_ _ | refine li_ ?_ ?_ | refine lb_ ?_ fun _ => ?_)
   | exact ih0 ..
   | exact ih1 ..
   | exact ih2 ..
   | exact spec_Step.mono ..
   | exact ln_ _ | refine li_ ?_ ?_ | refine lb_ ?_ fun _ => ?_
theorem spec_l24Walk.mono : ∀ a0 a1 a2 a3 k, LeO (spec_l24Walk.f k a0 a1 a2 a3) (spec_l24Walk.f (k + 1) a0 a1 a2 a3) := by
 intro a0 a1 a2 a3 k
 obtain ⟨ih0, ih1, ih2⟩ := spec_l24Walk.mono_l k
 unfold spec_l24Walk.f
 repeat' first
   | (with_reducible exact ih0 ..)
   | (with_reducible exact ih1 ..)
   | (with_reducible exact ih2 ..)
   | (with_reducible exact spec_Step.mono ..)
   | (with_reducible first | exact lr_ _ | exact ln_ _ | refine li_ ?_ ?_ | refine lb_ ?_ fun _ => ?_)
   | exact ih0 ..
   | exact ih1 ..
   | exact ih2 ..
   | exact spec_Step.mono ..
   | exact ln_ _ | refine li_ ?_ ?_ | refine lb_ ?_ fun _ => ?_
set_option maxHeartbeats 8000000 in
set_option maxRecDepth 100000 in
theorem spec_l24Walk.calls (k : Nat) (a0_0 : Int) (a0_1 : Int) (a0_2 : Int) (a1 : Int) (r1 : List Int) (r2 : List Int) (w : World) (h : spec_l24Walk.f k a0_0 a0_1 a0_2 a1 = some (r1, r2)) :
  Calls Try.prog 43 #[.agg #[.int .i64 a0_0, .int .i64 a0_1, .int .i64 a0_2], .int .i64 a1] w fun e w' => ∃ v0_ v1_ : Value, e = .returned (.tuple #[v0_, v1_]) ∧ Kd.R (Kd.int .i64) 3 w' w.heap.size (fun k_ => some k_ ≠ (v1_ : Value).ownBlock) v0_ r1 ∧ Kd.R (Kd.int .i64) 3 w' w.heap.size (fun k_ => some k_ ≠ (v0_ : Value).ownBlock) v1_ r2 ∧ Below w.heap.size w w' := by
 have hu28 := Try.underlying28
 have hu26 := Try.underlying26
 have HB := Aside0.mk (Below.refl w.heap.size w)
 have H : ((spec_CountCells.f a0_0 a0_1).bind fun t502 => (if 0 ≤ t502 then (if (t502 : Int).toNat ≤ 35184372088832 then (spec_l24Walk.l0 k a1 (List.replicate (t502 : Int).toNat 0) 0 a0_0 a0_1 a0_2) else (none)) else (none))) = some (r1, r2) := h
 clear h
 replace H := Option.bind_eq_some_iff.mp H
 obtain ⟨t502, A30, H⟩ := H
 replace H : (if 0 ≤ t502 then (if (t502 : Int).toNat ≤ 35184372088832 then (spec_l24Walk.l0 k a1 (List.replicate (t502 : Int).toNat 0) 0 a0_0 a0_1 a0_2) else (none)) else (none)) = some (r1, r2) := H
 have A3 := Aside0.mk A30
 clear A30
 by_cases c4 : 0 ≤ t502
 ·rw [if_pos c4] at H
  have c4b0 := eq_true c4
  have c4b1 : decide (0 ≤ t502) = true := decide_eq_true c4
  clear c4
  by_cases c5 : (t502 : Int).toNat ≤ 35184372088832
  ·rw [if_pos c5] at H
   have c5b0 := eq_true c5
   have c5b1 : decide ((t502 : Int).toNat ≤ 35184372088832) = true := decide_eq_true c5
   clear c5
   obtain ⟨y503, hy503⟩ : ∃ y_ : List Int, y_ = (List.replicate (t502 : Int).toNat 0) := ⟨_, rfl⟩
   replace H : (spec_l24Walk.l0 k a1 y503 0 a0_0 a0_1 a0_2) = some (r1, r2) := by first | (rw [hy503]; with_reducible exact H) | (have H2_ := (Option.bind_some _ _).symm.trans H; rw [hy503]; with_reducible exact H2_) | (have H2_ := (Option.bind_some _ _).symm.trans H; with_reducible exact H2_) | with_reducible exact H | (rw [hy503]; exact H) | exact H
   have Ny503 := Aside0.mk hy503
   clear hy503
   have H' := Aside0.mk H
   clear H
   go_enter Try.func43, Try.ntmps43
   go_wp2_with (first | (refine box_ (N := 2) (cs := #[.int .i64 a0_0, .int .i64 a0_1, .int .i64 a0_2]) (t := 28) ?_; intro gb501 hg w6 hbox hb; have BK501 := Aside0.mk (hbox); have GW501 := HB.g0 hg; have GE501 := HB.g0 hg; replace HB := HB.s0 hb; clear hb hbox hg; obtain ⟨hcz7_0, hcz7_1, hcz7_2⟩ := cz3_ BK501.out; obtain ⟨hfz7_0, hfz7_1, hfz7_2⟩ := fz3_ BK501.out) | (refine gl_ 16 Try.func31 #[.agg #[.int .i64 a0_0, .int .i64 a0_1]] ?_; (with_reducible refine (spec_CountCells.calls a0_0 a0_1 t502 _ A3.out).mono ?_); rintro e w8 ⟨rfl, hb⟩; refine ⟨_, rfl, ?_⟩; replace BK501 := BK501.bb hb; replace HB := HB.s1 GE501 hb; (try clear hb)) | ((with_reducible refine gate_dst (N := 17) rfl ?_); refine Kd.R_make (Kd.int .i64) _ 3 rfl (N := 17) rfl 51 _ _ rfl t502 rfl rfl Try.underlying51 (.int .i64 0) 8 info3 rfl (by decide) (by omega) 0 (ok := fun _ => True) (okp := fun _ => True) rfl (fun _ hk => hk) trivial (of_decide_eq_true (as_)) (Nat.le_trans (Nat.mul_le_mul_right _ (of_decide_eq_true (as_) : t502.toNat ≤ 35184372088832)) (by omega)) (Below.refl _ _) (Nat.le_refl _) ?_; intro v504 w9 ho10 hb hg_ hnew_; clear hg_ hnew_; (first | rw [← Ny503.out] at ho10 | (simp only [Int.reduceToNat] at ho10; rw [← Ny503.out] at ho10)); have HO505 := Aside0.mk (Kd.R_lower ho10 (below_size (hb1_ HB.out GE501.out))); replace BK501 := BK501.bb hb; replace HB := HB.s1 GE501 hb; clear hb ho10))
   go_loopg [7] k (fun kq v7 w' => ∃ (x6_1 : List Int) (x7_1 : Int), v7 = .int .i64 x7_1 ∧ Aside0 (spec_l24Walk.l0 kq a1 x6_1 x7_1 a0_0 a0_1 a0_2 = some (r1, r2)) ∧ Aside0 (kq ≤ k) ∧ Aside0 (Kd.R (Kd.int .i64) 3 w' w.heap.size (fun _ => True) v504 x6_1) ∧ Aside0 (w'.heap[gb501]? = some (.cells #[.int .i64 a0_0, .int .i64 a0_1, .int .i64 a0_2] 28 (0, 0))) ∧ Aside0 (Below w.heap.size w w'))
   case atStart => exact ⟨(y503), (0), (by first | rfl | (simp; done) | (simp [*]; done)), H', ⟨Nat.le_refl _⟩, ⟨kr_ HO505.out⟩, ⟨bk_ BK501.out⟩, ⟨hb1_ HB.out GE501.out⟩⟩
   case round =>
    clear H'
    try clear p2
    try clear c3
    try clear c4
    try clear c4b0
    try clear c4b1
    try clear c5
    try clear c5b0
    try clear c5b1
    try clear hcz7_0
    try clear hcz7_1
    try clear hcz7_2
    try clear hfz7_0
    try clear hfz7_1
    try clear hfz7_2
    obtain ⟨x6_1, x7_1, rfl, HA, HK1, HO_6, BK501, HB⟩ := hrel
    cases gk with
    | zero => exact absurd HA.out (by simp [spec_l24Walk.l0])
    | succ k1 =>
     have H := HA.out
     clear HA
     simp only [spec_l24Walk.l0] at H
     by_cases c11 : x7_1 < (x6_1.length : Int)
     ·rw [if_pos c11] at H
      have c11b0 : decide (x7_1 < (x6_1.length : Int)) = true := decide_eq_true c11
      clear c11
      by_cases c12 : 0 ≤ x7_1
      ·rw [if_pos c12] at H
       have c12b0 : decide (0 ≤ x7_1) = true := decide_eq_true c12
       clear c12
       obtain ⟨y506, hy506⟩ : ∃ y_ : List Int, y_ = (x6_1.set (x7_1 : Int).toNat (-1)) := ⟨_, rfl⟩
       replace H : (spec_l24Walk.l0 k1 a1 y506 (wrap64 (x7_1 + 1)) a0_0 a0_1 a0_2) = some (r1, r2) := by first | (rw [hy506]; with_reducible exact H) | (have H2_ := (Option.bind_some _ _).symm.trans H; rw [hy506]; with_reducible exact H2_) | (have H2_ := (Option.bind_some _ _).symm.trans H; with_reducible exact H2_) | with_reducible exact H | (rw [hy506]; exact H) | exact H
       have Ny506 := Aside0.mk hy506
       clear hy506
       have H' := Aside0.mk H
       clear H
       obtain ⟨Ao14, co14, eo14⟩ := Kd.R_slice HO_6.out
       subst eo14
       have p13 : 0 ≤ (x7_1 : Int) := of_decide_eq_true (as_)
       have q13 : (x7_1 : Int) < ((x6_1.length : Int) : Int) := of_decide_eq_true (as_)
       obtain ⟨go13, co13, eo13, gb13, gl13, cl13, HG13⟩ := Kd.R_form HO_6.out (by omega)
       (first | cases eo13 | (injection eo13 with ea_ en_ ec_; (first | subst ea_ | (injection ea_ with ea_; subst ea_)); subst ec_; clear en_))
       have GB13 := Aside0.mk gb13
       have GG13 := Aside0.mk HG13
       clear gb13 gl13 HG13
       obtain ⟨hx13_0, hf13_0⟩ := Kd.R_celln 0 HO_6.out (x7_1 : Int) p13 q13
       replace p13 := eq_true p13
       replace q13 := eq_true q13
       have HP15 := Kd.R_putg HO_6.out (x7_1 : Int) (-1)
       go_wp2_with (first | ((with_reducible refine gate_store (t := 3) (p := 26) rfl ?_); refine store_event (t := 3) (p := 26) (v := ?vo_w16) (w1 := (wr.setCell ⟨go13, (x7_1 : Int).toNat, none⟩ (.int .i64 (-1)))) ?hg ?ho ?hn ?hr ?_; (case ho => rfl); (case hg => rfl); (case hn => rfl); (case hr => first | (go_simp; done) | (go_simp; rfl)); intro w16 hw; have hg : wr.grownBy w16 (some go13) := (by rw [hw]; exact HP15.2); have hp_ : Kd.R (Kd.int .i64) 3 w16 w.heap.size (fun _ => True) (.slice (some ⟨go13, 0, none⟩) x6_1.length co14) y506 := (by rw [hw, Ny506.out]; exact HP15.1); clear HP15; have n0_ := Aside0.mk (hp_); have n1_ := Aside0.mk (blk_grown (g := gb501) (o := .cells #[.int .i64 a0_0, .int .i64 a0_1, .int .i64 a0_2] 28 (0, 0)) (bk_ BK501.out) hg (Kd.R_ne HO_6.out BK501.out (by decide))); have n2_ := Aside0.mk ((by rw [hw]; exact below_set (HB.out) GB13.out : Below w.heap.size w w16)); clear HO_6; clear BK501; clear HB; have HO_6 := n0_; have BK501 := n1_; have HB := n2_; clear n0_ n1_ n2_; clear hg hw hp_))
       go_roundg k1
       case measure => have := HK1.out; omega
       case rel => exact ⟨(y506), (wrap64 (x7_1 + 1)), (by first | rfl | (simp; done) | (simp [*]; done)), H', ⟨by have := HK1.out; omega⟩, ⟨kr_ HO_6.out⟩, ⟨bk_ BK501.out⟩, ⟨hb1_ HB.out GE501.out⟩⟩
      ·rw [if_neg c12] at H
       exact absurd H (by simp)
     ·rw [if_neg c11] at H
      have c11b0 : decide (x7_1 < (x6_1.length : Int)) = false := decide_eq_false c11
      clear c11
      obtain ⟨y507, hy507⟩ : ∃ y_ : List Int, y_ = (([a1] : List Int)) := ⟨_, rfl⟩
      replace H : (if 0 ≤ (x6_1.length : Int) then (if ((x6_1.length : Int) : Int).toNat ≤ 281474976710656 then ((some (List.replicate ((x6_1.length : Int) : Int).toNat false : List Bool)).bind fun y510 => (if 0 ≤ a1 then (if a1 < (y510.length : Int) then (spec_l24Walk.l1 k1 a1 x6_1 y507 (y510.set (a1 : Int).toNat true) a1 a0_0 a0_1 a0_2) else (none)) else (none))) else (none)) else (none)) = some (r1, r2) := by first | (rw [hy507]; with_reducible exact H) | (have H2_ := (Option.bind_some _ _).symm.trans H; rw [hy507]; with_reducible exact H2_) | (have H2_ := (Option.bind_some _ _).symm.trans H; with_reducible exact H2_) | with_reducible exact H | (rw [hy507]; exact H) | exact H
      have Ny507 := Aside0.mk hy507
      clear hy507
      by_cases c17 : 0 ≤ (x6_1.length : Int)
      ·rw [if_pos c17] at H
       have c17b0 := eq_true c17
       have c17b1 : decide (0 ≤ (x6_1.length : Int)) = true := decide_eq_true c17
       clear c17
       by_cases c18 : ((x6_1.length : Int) : Int).toNat ≤ 281474976710656
       ·rw [if_pos c18] at H
        have c18b0 := eq_true c18
        have c18b1 : decide (((x6_1.length : Int) : Int).toNat ≤ 281474976710656) = true := decide_eq_true c18
        clear c18
        obtain ⟨y510, hy510⟩ : ∃ y_ : List Bool, y_ = (List.replicate ((x6_1.length : Int) : Int).toNat false) := ⟨_, rfl⟩
        replace H : (if 0 ≤ a1 then (if a1 < (y510.length : Int) then (spec_l24Walk.l1 k1 a1 x6_1 y507 (y510.set (a1 : Int).toNat true) a1 a0_0 a0_1 a0_2) else (none)) else (none)) = some (r1, r2) := by first | (rw [hy510]; with_reducible exact H) | (have H2_ := (Option.bind_some _ _).symm.trans H; rw [hy510]; with_reducible exact H2_) | (have H2_ := (Option.bind_some _ _).symm.trans H; with_reducible exact H2_) | with_reducible exact H | (rw [hy510]; exact H) | exact H
        have Ny510 := Aside0.mk hy510
        clear hy510
        by_cases c19 : 0 ≤ a1
        ·rw [if_pos c19] at H
         have c19b0 : decide (0 ≤ a1) = true := decide_eq_true c19
         clear c19
         by_cases c20 : a1 < (y510.length : Int)
         ·rw [if_pos c20] at H
          have c20b0 : decide (a1 < (y510.length : Int)) = true := decide_eq_true c20
          clear c20
          obtain ⟨y513, hy513⟩ : ∃ y_ : List Bool, y_ = (y510.set (a1 : Int).toNat true) := ⟨_, rfl⟩
          replace H : (spec_l24Walk.l1 k1 a1 x6_1 y507 y513 a1 a0_0 a0_1 a0_2) = some (r1, r2) := by first | (rw [hy513]; with_reducible exact H) | (have H2_ := (Option.bind_some _ _).symm.trans H; rw [hy513]; with_reducible exact H2_) | (have H2_ := (Option.bind_some _ _).symm.trans H; with_reducible exact H2_) | with_reducible exact H | (rw [hy513]; exact H) | exact H
          have Ny513 := Aside0.mk hy513
          clear hy513
          have H' := Aside0.mk H
          clear H
          obtain ⟨Ao22, co22, eo22⟩ := Kd.R_slice HO_6.out
          subst eo22
          go_wp2_with (first | ((with_reducible refine gate_dst (N := 28) rfl ?_); refine Kd.R_lit (Kd.int .i64) _ 3 ?hg (N := 28) ?hd (xs := ([a1] : List Int)) (inner := [.int .i64 a1]) (ok := fun _ => True) (okp := fun _ => True) ?hr ?hp (fun _ hk => hk) trivial (Below.refl _ _) (Nat.le_refl _) (by simp) ?_; (case hd => rfl); (case hg => rfl); (case hr => first | (go_simp; done) | (go_simp; rfl)); (case hp => exact (Reps.one (show Kd.M (Kd.int .i64) _ _ _ a1 [.int .i64 a1] from rfl) (Reps.none _ _))); intro v508 w23 ho24 hb hg_ hnew_; clear hg_ hnew_; (first | rw [← Ny507.out] at ho24 | (simp only [Int.reduceToNat] at ho24; rw [← Ny507.out] at ho24)); have HO509 := Aside0.mk (Kd.R_lower (Kd.R_new' ho24 (Kd.R_lt (kr_ HO_6.out))) (below_size (hb1_ HB.out GE501.out))); replace HO_6 := Aside0.mk (Kd.R_elder' (kr_ HO_6.out) (Kd.R_base ho24) hb); replace BK501 := BK501.bb hb; replace HB := HB.s1 GE501 hb; clear hb ho24) | ((with_reducible refine gate_dst (N := 31) rfl ?_); refine Kd.R_make Kd.bool _ 4 rfl (N := 31) rfl 76 _ _ rfl (x6_1.length : Int) rfl rfl Try.underlying76 (.bool false) 1 info4 rfl (by decide) (by omega) false (ok := fun _ => True) (okp := fun _ => True) rfl (fun _ hk => hk) trivial (of_decide_eq_true (as_)) (Nat.le_trans (Nat.mul_le_mul_right _ (of_decide_eq_true (as_) : (x6_1.length : Int).toNat ≤ 281474976710656)) (by omega)) (Below.refl _ _) (Nat.le_refl _) ?_; intro v511 w25 ho26 hb hg_ hnew_; clear hg_ hnew_; (first | rw [← Ny510.out] at ho26 | (simp only [Int.reduceToNat] at ho26; rw [← Ny510.out] at ho26)); replace HO_6 := HO_6.kb hb; replace HO509 := HO509.kb hb; have HO512 := Aside0.mk (Kd.R_lower ho26 (below_size (hb1_ HB.out GE501.out))); replace BK501 := BK501.bb hb; replace HB := HB.s1 GE501 hb; clear hb ho26; have p21 : 0 ≤ (a1 : Int) := of_decide_eq_true (as_); have q21 : (a1 : Int) < ((y510.length : Int) : Int) := of_decide_eq_true (as_); obtain ⟨go21, co21, eo21, gb21, gl21, cl21, HG21⟩ := Kd.R_form HO512.out (by omega); (first | cases eo21 | (injection eo21 with ea_ en_ ec_; (first | subst ea_ | (injection ea_ with ea_; subst ea_)); subst ec_; clear en_)); have GB21 := Aside0.mk gb21; have GG21 := Aside0.mk HG21; clear gb21 gl21 HG21; obtain ⟨hx21_0, hf21_0⟩ := Kd.R_celln false HO512.out (a1 : Int) p21 q21; replace p21 := eq_true p21; replace q21 := eq_true q21; obtain ⟨hy27_, hz27_⟩ := Kd.R_celln false HO512.out (a1 : Int) (of_decide_eq_true (as_)) (of_decide_eq_true (as_)); have HP27 := Kd.R_putg HO512.out (a1 : Int) true) | ((with_reducible refine gate_store (t := 4) (p := 34) rfl ?_); refine store_event (t := 4) (p := 34) (v := ?vo_w28) (w1 := (w25.setCell ⟨go21, (a1 : Int).toNat, none⟩ (.bool true))) ?hg ?ho ?hn ?hr ?_; (case ho => rfl); (case hg => rfl); (case hn => rfl); (case hr => first | (go_simp; done) | (go_simp; rfl)); intro w28 hw; have hg : w25.grownBy w28 (some go21) := (by rw [hw]; exact HP27.2); have hp_ : Kd.R Kd.bool 4 w28 w.heap.size (fun _ => True) (.slice (some ⟨go21, 0, none⟩) y510.length co21) y513 := (by rw [hw, Ny513.out]; exact HP27.1); clear HP27; replace HO_6 := Aside0.mk (Kd.R_over' (v := (.slice (some ⟨go21, 0, none⟩) y510.length co21)) (kr_ HO_6.out) (Kd.R_typed HO512.out) (by decide) hg); replace BK501 := Aside0.mk (blk_grown (g := gb501) (o := .cells #[.int .i64 a0_0, .int .i64 a0_1, .int .i64 a0_2] 28 (0, 0)) (bk_ BK501.out) hg (Kd.R_ne HO512.out BK501.out (by decide))); replace HO509 := Aside0.mk (Kd.R_over' (v := (.slice (some ⟨go21, 0, none⟩) y510.length co21)) (kr_ HO509.out) (Kd.R_typed HO512.out) (by decide) hg); replace HO512 := Aside0.mk (hp_); replace HB := Aside0.mk ((by rw [hw]; exact below_set (HB.out) GB21.out : Below w.heap.size w w28)); clear hg hw hp_))
          go_loopg [8, 10] k1 (fun kq v8 v10 w' => ∃ (x6_2 : List Int) (x8_2 : List Int) (x9_2 : List Bool) (x10_2 : Int), v10 = .int .i64 x10_2 ∧ Aside0 (spec_l24Walk.l1 kq a1 x6_2 x8_2 x9_2 x10_2 a0_0 a0_1 a0_2 = some (r1, r2)) ∧ Aside0 (kq ≤ k1) ∧ Aside0 (Kd.R (Kd.int .i64) 3 w' w.heap.size (fun k_ => some k_ ≠ (v8 : Value).ownBlock) (.slice Ao22 x6_1.length co22) x6_2) ∧ Aside0 (Kd.R (Kd.int .i64) 3 w' w.heap.size (fun k_ => some k_ ≠ ((.slice Ao22 x6_1.length co22) : Value).ownBlock) v8 x8_2) ∧ Aside0 (Kd.R Kd.bool 4 w' w.heap.size (fun _ => True) (.slice (some ⟨go21, 0, none⟩) y510.length co21) x9_2) ∧ Aside0 (w'.heap[gb501]? = some (.cells #[.int .i64 a0_0, .int .i64 a0_1, .int .i64 a0_2] 28 (0, 0))) ∧ Aside0 (Below w.heap.size w w'))
          case atStart => exact ⟨(x6_1), (y507), (y513), (a1), (by first | rfl | (simp; done) | (simp [*]; done)), H', ⟨Nat.le_refl _⟩, ⟨by (with_reducible repeat (first | apply Kd.R_alloc | apply Kd.R_drewN | apply Kd.R_drew)); exact Kd.R_mono HO_6.out (fun _ hk => hk.2)⟩, ⟨by (with_reducible repeat (first | apply Kd.R_alloc | apply Kd.R_drewN | apply Kd.R_drew)); exact Kd.R_mono HO509.out (fun _ hk => hk.2)⟩, ⟨kr_ HO512.out⟩, ⟨bk_ BK501.out⟩, ⟨hb1_ HB.out GE501.out⟩⟩
          case round =>
           clear H'
           try clear c1
           try clear p1
           try clear q1
           try clear hx1
           try clear c2
           try clear p2
           try clear q2
           try clear hx2
           try clear hf2
           try clear c3
           try clear c4
           try clear c4b0
           try clear c4b1
           try clear c5
           try clear c5b0
           try clear c5b1
           try clear p6
           try clear c11
           try clear c11b0
           try clear c12
           try clear c12b0
           try clear p13
           try clear q13
           try clear hx13
           try clear hf13
           try clear c17
           try clear c17b0
           try clear c17b1
           try clear c18
           try clear c18b0
           try clear c18b1
           try clear c19
           try clear c19b0
           try clear c20
           try clear c20b0
           try clear p21
           try clear q21
           try clear hx21
           try clear hf21
           try clear hcz7_0
           try clear hcz7_1
           try clear hcz7_2
           try clear hfz7_0
           try clear hfz7_1
           try clear hfz7_2
           try clear hx13_0
           try clear hx21_0
           try clear p13
           try clear p2
           try clear p21
           try clear q13
           try clear q21
           obtain ⟨x6_2, x8_2, x9_2, x10_2, rfl, HA, HK2, HO_6, HO_8, HO_9, BK501, HB⟩ := hrel
           have hl6_2 := (Kd.R_reads' HO_6.out).1
           rw [hl6_2] at HO_6
           (try simp only [hl6_2])
           (try simp only [hl6_2] at BK501)
           (try simp only [hl6_2] at HO_8)
           (try simp only [hl6_2] at HO_9)
           have hl9_2 := (Kd.R_reads' HO_9.out).1
           rw [hl9_2] at HO_9
           (try simp only [hl9_2])
           (try simp only [hl9_2] at BK501)
           (try simp only [hl9_2] at HO_6)
           (try simp only [hl9_2] at HO_8)
           cases gk with
           | zero => exact absurd HA.out (by simp [spec_l24Walk.l1])
           | succ k2 =>
            have H := HA.out
            clear HA
            simp only [spec_l24Walk.l1] at H
            have H' := Aside0.mk H
            clear H
            go_wp2
            go_loopg [11, 12] k2 (fun kq v11 v12 w' => ∃ (x11_3 : Int) (x12_3 : Int), v11 = .int .i64 x11_3 ∧ v12 = .int .i64 x12_3 ∧ Aside0 (spec_l24Walk.l2 kq a1 x6_2 x8_2 x9_2 x10_2 x11_3 x12_3 a0_0 a0_1 a0_2 = some (r1, r2)) ∧ Aside0 (kq ≤ k2) ∧ Aside0 (Kd.R (Kd.int .i64) 3 w' w.heap.size (fun k_ => some k_ ≠ (u8 : Value).ownBlock) (.slice Ao22 x6_2.length co22) x6_2) ∧ Aside0 (Kd.R (Kd.int .i64) 3 w' w.heap.size (fun k_ => some k_ ≠ ((.slice Ao22 x6_2.length co22) : Value).ownBlock) u8 x8_2) ∧ Aside0 (Kd.R Kd.bool 4 w' w.heap.size (fun _ => True) (.slice (some ⟨go21, 0, none⟩) x9_2.length co21) x9_2) ∧ Aside0 (w'.heap[gb501]? = some (.cells #[.int .i64 a0_0, .int .i64 a0_1, .int .i64 a0_2] 28 (0, 0))) ∧ Aside0 (Below w.heap.size w w'))
            case atStart => exact ⟨((-1)), (3), (by first | rfl | (simp; done) | (simp [*]; done)), (by first | rfl | (simp; done) | (simp [*]; done)), H', ⟨Nat.le_refl _⟩, ⟨by (try simp only [hl6_2]); (try simp only [hl9_2]); (with_reducible repeat (first | apply Kd.R_alloc | apply Kd.R_drewN | apply Kd.R_drew)); exact HO_6.out⟩, ⟨by (try simp only [hl6_2]); (try simp only [hl9_2]); (with_reducible repeat (first | apply Kd.R_alloc | apply Kd.R_drewN | apply Kd.R_drew)); exact HO_8.out⟩, ⟨by (try simp only [hl6_2]); (try simp only [hl9_2]); (with_reducible repeat (first | apply Kd.R_alloc | apply Kd.R_drewN | apply Kd.R_drew)); exact HO_9.out⟩, ⟨by (try simp only [hl6_2]); (try simp only [hl9_2]); (with_reducible repeat (first | refine blk_drewN ?_ _ | refine blk_drew ?_ | refine blk_alloc ?_ _)); exact BK501.out⟩, ⟨hb1_ HB.out GE501.out⟩⟩
            case round =>
             clear H'
             try clear c1
             try clear p1
             try clear q1
             try clear hx1
             try clear c2
             try clear p2
             try clear q2
             try clear hx2
             try clear hf2
             try clear c3
             try clear c4
             try clear c4b0
             try clear c4b1
             try clear c5
             try clear c5b0
             try clear c5b1
             try clear p6
             try clear c11
             try clear c11b0
             try clear c12
             try clear c12b0
             try clear p13
             try clear q13
             try clear hx13
             try clear hf13
             try clear c17
             try clear c17b0
             try clear c17b1
             try clear c18
             try clear c18b0
             try clear c18b1
             try clear c19
             try clear c19b0
             try clear c20
             try clear c20b0
             try clear p21
             try clear q21
             try clear hx21
             try clear hf21
             try clear hcz7_0
             try clear hcz7_1
             try clear hcz7_2
             try clear hfz7_0
             try clear hfz7_1
             try clear hfz7_2
             try clear hx13_0
             try clear hx21_0
             try clear p1
             try clear p13
             try clear p2
             try clear p21
             try clear p6
             try clear q1
             try clear q13
             try clear q2
             try clear q21
             obtain ⟨x11_3, x12_3, rfl, rfl, HA, HK3, HO_6, HO_8, HO_9, BK501, HB⟩ := hrel
             cases gk with
             | zero => exact absurd HA.out (by simp [spec_l24Walk.l2])
             | succ k3 =>
              have H := HA.out
              clear HA
              simp only [spec_l24Walk.l2] at H
              by_cases c29 : x12_3 ≥ 0
              ·rw [if_pos c29] at H
               have c29b0 : decide (0 ≤ x12_3) = true := decide_eq_true c29
               clear c29
               replace H := Option.bind_eq_some_iff.mp H
               obtain ⟨t514, A300, H⟩ := H
               replace H : (if t514 ≥ 0 then (if 0 ≤ t514 then (if t514 < (x9_2.length : Int) then (if rdOf false x9_2 t514 = true then (spec_l24Walk.l2 k3 a1 x6_2 x8_2 x9_2 x10_2 x11_3 (wrap64 (x12_3 - 1)) a0_0 a0_1 a0_2) else (spec_l24Walk.l2 k3 a1 x6_2 x8_2 x9_2 x10_2 t514 (wrap64 (x12_3 - 1)) a0_0 a0_1 a0_2)) else (none)) else (none)) else (spec_l24Walk.l2 k3 a1 x6_2 x8_2 x9_2 x10_2 x11_3 (wrap64 (x12_3 - 1)) a0_0 a0_1 a0_2)) = some (r1, r2) := H
               have A30 := Aside0.mk A300
               clear A300
               by_cases c31 : t514 ≥ 0
               ·rw [if_pos c31] at H
                have c31b0 : decide (0 ≤ t514) = true := decide_eq_true c31
                clear c31
                by_cases c32 : 0 ≤ t514
                ·rw [if_pos c32] at H
                 have c32b0 : decide (0 ≤ t514) = true := decide_eq_true c32
                 clear c32
                 by_cases c33 : t514 < (x9_2.length : Int)
                 ·rw [if_pos c33] at H
                  have c33b0 : decide (t514 < (x9_2.length : Int)) = true := decide_eq_true c33
                  clear c33
                  obtain ⟨bq34, hbq34⟩ : ∃ b_ : Bool, b_ = (rdOf false x9_2 t514) := ⟨_, rfl⟩
                  replace H : (if bq34 = true then (spec_l24Walk.l2 k3 a1 x6_2 x8_2 x9_2 x10_2 x11_3 (wrap64 (x12_3 - 1)) a0_0 a0_1 a0_2) else (spec_l24Walk.l2 k3 a1 x6_2 x8_2 x9_2 x10_2 t514 (wrap64 (x12_3 - 1)) a0_0 a0_1 a0_2)) = some (r1, r2) := by rw [← hbq34] at H; exact H
                  have Nbq34 := Aside0.mk hbq34
                  clear hbq34
                  by_cases c35 : bq34 = true
                  ·subst c35
                   have H1 : (spec_l24Walk.l2 k3 a1 x6_2 x8_2 x9_2 x10_2 x11_3 (wrap64 (x12_3 - 1)) a0_0 a0_1 a0_2) = some (r1, r2) := by rw [if_pos rfl] at H; exact H
                   clear H
                   have H := H1
                   clear H1
                   have H' := Aside0.mk H
                   clear H
                   obtain ⟨hcz36_0, hcz36_1, hcz36_2⟩ := cz3_ BK501.out
                   obtain ⟨hfz36_0, hfz36_1, hfz36_2⟩ := fz3_ BK501.out
                   go_wp2_with (first | (refine gl_ 43 Try.func64 #[.agg #[.int .i64 a0_0, .int .i64 a0_1, .int .i64 a0_2], .int .i64 x10_2, .int .i64 x12_3] ?_; (with_reducible refine (spec_Step.calls k3 a0_0 a0_1 a0_2 x10_2 x12_3 t514 _ A30.out).mono ?_); rintro e w37 ⟨rfl, hb⟩; refine ⟨_, rfl, ?_⟩; replace HO_6 := HO_6.kb hb; replace HO_8 := HO_8.kb hb; replace HO_9 := HO_9.kb hb; replace BK501 := BK501.bb hb; replace HB := HB.s1 GE501 hb; (try clear hb); have p515 : 0 ≤ (t514 : Int) := of_decide_eq_true (as_); have q515 : t514 < (x9_2.length : Int) := of_decide_eq_true (as_); obtain ⟨ad515, e515, hx515_0⟩ := Kd.at_bool (Kd.R_reads' HO_9.out).2.2 t514 p515 q515; (try rw [← Nbq34.out] at hx515_0); obtain rfl : (⟨go21, 0, none⟩ : Addr) = ad515 := (by injection e515); (first | simp only [add_plain] at hx515_0 | simp only [add_at] at hx515_0 | simp only [Addr.add, Nat.zero_add] at hx515_0 | skip); replace p515 := eq_true p515; replace q515 := eq_true q515))
                   go_roundg k3
                   case measure => have := HK1.out; have := HK2.out; have := HK3.out; omega
                   case rel => exact ⟨(x11_3), (wrap64 (x12_3 - 1)), (by first | rfl | (simp; done) | (simp [*]; done)), (by first | rfl | (simp; done) | (simp [*]; done)), H', ⟨by have := HK1.out; have := HK2.out; have := HK3.out; omega⟩, ⟨by (try simp only [hl6_2]); (try simp only [hl9_2]); (with_reducible repeat (first | apply Kd.R_alloc | apply Kd.R_drewN | apply Kd.R_drew)); exact HO_6.out⟩, ⟨by (try simp only [hl6_2]); (try simp only [hl9_2]); (with_reducible repeat (first | apply Kd.R_alloc | apply Kd.R_drewN | apply Kd.R_drew)); exact HO_8.out⟩, ⟨by (try simp only [hl6_2]); (try simp only [hl9_2]); (with_reducible repeat (first | apply Kd.R_alloc | apply Kd.R_drewN | apply Kd.R_drew)); exact HO_9.out⟩, ⟨by (try simp only [hl6_2]); (try simp only [hl9_2]); (with_reducible repeat (first | refine blk_drewN ?_ _ | refine blk_drew ?_ | refine blk_alloc ?_ _)); exact BK501.out⟩, ⟨hb1_ HB.out GE501.out⟩⟩
                  ·replace c35 := Bool.eq_false_iff.mpr c35
                   subst c35
                   have H1 : (spec_l24Walk.l2 k3 a1 x6_2 x8_2 x9_2 x10_2 t514 (wrap64 (x12_3 - 1)) a0_0 a0_1 a0_2) = some (r1, r2) := by rw [if_neg (show ¬ (false = true) by decide)] at H; exact H
                   clear H
                   have H := H1
                   clear H1
                   have H' := Aside0.mk H
                   clear H
                   obtain ⟨hcz38_0, hcz38_1, hcz38_2⟩ := cz3_ BK501.out
                   obtain ⟨hfz38_0, hfz38_1, hfz38_2⟩ := fz3_ BK501.out
                   go_wp2_with (first | (refine gl_ 43 Try.func64 #[.agg #[.int .i64 a0_0, .int .i64 a0_1, .int .i64 a0_2], .int .i64 x10_2, .int .i64 x12_3] ?_; (with_reducible refine (spec_Step.calls k3 a0_0 a0_1 a0_2 x10_2 x12_3 t514 _ A30.out).mono ?_); rintro e w39 ⟨rfl, hb⟩; refine ⟨_, rfl, ?_⟩; replace HO_6 := HO_6.kb hb; replace HO_8 := HO_8.kb hb; replace HO_9 := HO_9.kb hb; replace BK501 := BK501.bb hb; replace HB := HB.s1 GE501 hb; (try clear hb); have p515 : 0 ≤ (t514 : Int) := of_decide_eq_true (as_); have q515 : t514 < (x9_2.length : Int) := of_decide_eq_true (as_); obtain ⟨ad515, e515, hx515_0⟩ := Kd.at_bool (Kd.R_reads' HO_9.out).2.2 t514 p515 q515; (try rw [← Nbq34.out] at hx515_0); obtain rfl : (⟨go21, 0, none⟩ : Addr) = ad515 := (by injection e515); (first | simp only [add_plain] at hx515_0 | simp only [add_at] at hx515_0 | simp only [Addr.add, Nat.zero_add] at hx515_0 | skip); replace p515 := eq_true p515; replace q515 := eq_true q515))
                   go_roundg k3
                   case measure => have := HK1.out; have := HK2.out; have := HK3.out; omega
                   case rel => exact ⟨(t514), (wrap64 (x12_3 - 1)), (by first | rfl | (simp; done) | (simp [*]; done)), (by first | rfl | (simp; done) | (simp [*]; done)), H', ⟨by have := HK1.out; have := HK2.out; have := HK3.out; omega⟩, ⟨by (try simp only [hl6_2]); (try simp only [hl9_2]); (with_reducible repeat (first | apply Kd.R_alloc | apply Kd.R_drewN | apply Kd.R_drew)); exact HO_6.out⟩, ⟨by (try simp only [hl6_2]); (try simp only [hl9_2]); (with_reducible repeat (first | apply Kd.R_alloc | apply Kd.R_drewN | apply Kd.R_drew)); exact HO_8.out⟩, ⟨by (try simp only [hl6_2]); (try simp only [hl9_2]); (with_reducible repeat (first | apply Kd.R_alloc | apply Kd.R_drewN | apply Kd.R_drew)); exact HO_9.out⟩, ⟨by (try simp only [hl6_2]); (try simp only [hl9_2]); (with_reducible repeat (first | refine blk_drewN ?_ _ | refine blk_drew ?_ | refine blk_alloc ?_ _)); exact BK501.out⟩, ⟨hb1_ HB.out GE501.out⟩⟩
                 ·rw [if_neg c33] at H
                  exact absurd H (by simp)
                ·rw [if_neg c32] at H
                 exact absurd H (by simp)
               ·rw [if_neg c31] at H
                have c31b0 : decide (0 ≤ t514) = false := decide_eq_false c31
                clear c31
                have H' := Aside0.mk H
                clear H
                obtain ⟨hcz40_0, hcz40_1, hcz40_2⟩ := cz3_ BK501.out
                obtain ⟨hfz40_0, hfz40_1, hfz40_2⟩ := fz3_ BK501.out
                go_wp2_with (first | (refine gl_ 43 Try.func64 #[.agg #[.int .i64 a0_0, .int .i64 a0_1, .int .i64 a0_2], .int .i64 x10_2, .int .i64 x12_3] ?_; (with_reducible refine (spec_Step.calls k3 a0_0 a0_1 a0_2 x10_2 x12_3 t514 _ A30.out).mono ?_); rintro e w41 ⟨rfl, hb⟩; refine ⟨_, rfl, ?_⟩; replace HO_6 := HO_6.kb hb; replace HO_8 := HO_8.kb hb; replace HO_9 := HO_9.kb hb; replace BK501 := BK501.bb hb; replace HB := HB.s1 GE501 hb; (try clear hb)))
                go_roundg k3
                case measure => have := HK1.out; have := HK2.out; have := HK3.out; omega
                case rel => exact ⟨(x11_3), (wrap64 (x12_3 - 1)), (by first | rfl | (simp; done) | (simp [*]; done)), (by first | rfl | (simp; done) | (simp [*]; done)), H', ⟨by have := HK1.out; have := HK2.out; have := HK3.out; omega⟩, ⟨by (try simp only [hl6_2]); (try simp only [hl9_2]); (with_reducible repeat (first | apply Kd.R_alloc | apply Kd.R_drewN | apply Kd.R_drew)); exact HO_6.out⟩, ⟨by (try simp only [hl6_2]); (try simp only [hl9_2]); (with_reducible repeat (first | apply Kd.R_alloc | apply Kd.R_drewN | apply Kd.R_drew)); exact HO_8.out⟩, ⟨by (try simp only [hl6_2]); (try simp only [hl9_2]); (with_reducible repeat (first | apply Kd.R_alloc | apply Kd.R_drewN | apply Kd.R_drew)); exact HO_9.out⟩, ⟨by (try simp only [hl6_2]); (try simp only [hl9_2]); (with_reducible repeat (first | refine blk_drewN ?_ _ | refine blk_drew ?_ | refine blk_alloc ?_ _)); exact BK501.out⟩, ⟨hb1_ HB.out GE501.out⟩⟩
              ·rw [if_neg c29] at H
               have c29b0 : decide (0 ≤ x12_3) = false := decide_eq_false c29
               clear c29
               by_cases c42 : x11_3 ≥ 0
               ·rw [if_pos c42] at H
                have c42b0 : decide (0 ≤ x11_3) = true := decide_eq_true c42
                clear c42
                by_cases c43 : 0 ≤ x11_3
                ·rw [if_pos c43] at H
                 have c43b0 : decide (0 ≤ x11_3) = true := decide_eq_true c43
                 clear c43
                 by_cases c44 : x11_3 < (x6_2.length : Int)
                 ·rw [if_pos c44] at H
                  have c44b0 : decide (x11_3 < (x6_2.length : Int)) = true := decide_eq_true c44
                  clear c44
                  obtain ⟨y516, hy516⟩ : ∃ y_ : List Int, y_ = (x6_2.set (x11_3 : Int).toNat x10_2) := ⟨_, rfl⟩
                  replace H : (if x11_3 < (x9_2.length : Int) then (if x8_2.length < 17592186044416 then (spec_l24Walk.l1 k3 a1 y516 (x8_2 ++ [x11_3]) (x9_2.set (x11_3 : Int).toNat true) x11_3 a0_0 a0_1 a0_2) else (none)) else (none)) = some (r1, r2) := by first | (rw [hy516]; with_reducible exact H) | (have H2_ := (Option.bind_some _ _).symm.trans H; rw [hy516]; with_reducible exact H2_) | (have H2_ := (Option.bind_some _ _).symm.trans H; with_reducible exact H2_) | with_reducible exact H | (rw [hy516]; exact H) | exact H
                  have Ny516 := Aside0.mk hy516
                  clear hy516
                  by_cases c46 : x11_3 < (x9_2.length : Int)
                  ·rw [if_pos c46] at H
                   have c46b0 : decide (x11_3 < (x9_2.length : Int)) = true := decide_eq_true c46
                   clear c46
                   obtain ⟨y517, hy517⟩ : ∃ y_ : List Bool, y_ = (x9_2.set (x11_3 : Int).toNat true) := ⟨_, rfl⟩
                   replace H : (if x8_2.length < 17592186044416 then (spec_l24Walk.l1 k3 a1 y516 (x8_2 ++ [x11_3]) y517 x11_3 a0_0 a0_1 a0_2) else (none)) = some (r1, r2) := by first | (rw [hy517]; with_reducible exact H) | (have H2_ := (Option.bind_some _ _).symm.trans H; rw [hy517]; with_reducible exact H2_) | (have H2_ := (Option.bind_some _ _).symm.trans H; with_reducible exact H2_) | with_reducible exact H | (rw [hy517]; exact H) | exact H
                   have Ny517 := Aside0.mk hy517
                   clear hy517
                   by_cases c48 : x8_2.length < 17592186044416
                   ·rw [if_pos c48] at H
                    have LMc48 := Aside0.mk c48
                    clear c48
                    obtain ⟨y518, hy518⟩ : ∃ y_ : List Int, y_ = (x8_2 ++ [x11_3]) := ⟨_, rfl⟩
                    replace H : (spec_l24Walk.l1 k3 a1 y516 y518 y517 x11_3 a0_0 a0_1 a0_2) = some (r1, r2) := by first | (rw [hy518]; with_reducible exact H) | (have H2_ := (Option.bind_some _ _).symm.trans H; rw [hy518]; with_reducible exact H2_) | (have H2_ := (Option.bind_some _ _).symm.trans H; with_reducible exact H2_) | with_reducible exact H | (rw [hy518]; exact H) | exact H
                    have Ny518 := Aside0.mk hy518
                    clear hy518
                    have H' := Aside0.mk H
                    clear H
                    have p45 : 0 ≤ (x11_3 : Int) := of_decide_eq_true (as_)
                    have q45 : (x11_3 : Int) < ((x6_2.length : Int) : Int) := of_decide_eq_true (as_)
                    obtain ⟨go45, co45, eo45, gb45, gl45, cl45, HG45⟩ := Kd.R_form HO_6.out (by omega)
                    (first | cases eo45 | (injection eo45 with ea_ en_ ec_; (first | subst ea_ | (injection ea_ with ea_; subst ea_)); subst ec_; clear en_))
                    have GB45 := Aside0.mk gb45
                    have GG45 := Aside0.mk HG45
                    clear gb45 gl45 HG45
                    obtain ⟨hx45_0, hf45_0⟩ := Kd.R_celln 0 HO_6.out (x11_3 : Int) p45 q45
                    replace p45 := eq_true p45
                    replace q45 := eq_true q45
                    have HP49 := Kd.R_putg HO_6.out (x11_3 : Int) x10_2
                    go_wp2_with (first | ((with_reducible refine gate_store (t := 3) (p := 64) rfl ?_); refine store_event (t := 3) (p := 64) (v := ?vo_w50) (w1 := (wr.setCell ⟨go45, (x11_3 : Int).toNat, none⟩ (.int .i64 x10_2))) ?hg ?ho ?hn ?hr ?_; (case ho => rfl); (case hg => rfl); (case hn => rfl); (case hr => first | (go_simp; done) | (go_simp; rfl)); intro w50 hw; have hg : wr.grownBy w50 (some go45) := (by rw [hw]; exact HP49.2); have hp_ : Kd.R (Kd.int .i64) 3 w50 w.heap.size (fun k_ => some k_ ≠ (u8 : Value).ownBlock) (.slice (some ⟨go45, 0, none⟩) x6_2.length co22) y516 := (by rw [hw, Ny516.out]; exact HP49.1); clear HP49; have n0_ := Aside0.mk (hp_); have n1_ := Aside0.mk (Kd.R_after (v := (.slice (some ⟨go45, 0, none⟩) x6_2.length co22)) (v1 := (.slice (some ⟨go45, 0, none⟩) x6_2.length co22)) (ok := (fun _ => True)) (by (with_reducible repeat (first | apply Kd.R_alloc | apply Kd.R_drewN | apply Kd.R_drew)); exact Kd.R_mono HO_8.out (fun _ hk => ⟨trivial, hk⟩)) hg (.inl rfl)); have n2_ := Aside0.mk (Kd.R_over' (v := (.slice (some ⟨go45, 0, none⟩) x6_2.length co22)) (kr_ HO_9.out) (Kd.R_typed HO_6.out) (by decide) hg); have n3_ := Aside0.mk (blk_grown (g := gb501) (o := .cells #[.int .i64 a0_0, .int .i64 a0_1, .int .i64 a0_2] 28 (0, 0)) (bk_ BK501.out) hg (Kd.R_ne HO_6.out BK501.out (by decide))); have n4_ := Aside0.mk ((by rw [hw]; exact below_set (HB.out) GB45.out : Below w.heap.size w w50)); clear HO_6; clear HO_8; clear HO_9; clear BK501; clear HB; have HO_6 := n0_; have HO_8 := n1_; have HO_9 := n2_; have BK501 := n3_; have HB := n4_; clear n0_ n1_ n2_ n3_ n4_; clear hg hw hp_; have p47 : 0 ≤ (x11_3 : Int) := of_decide_eq_true (as_); have q47 : (x11_3 : Int) < ((x9_2.length : Int) : Int) := of_decide_eq_true (as_); obtain ⟨hx47_0, hf47_0⟩ := Kd.R_celln false HO_9.out (x11_3 : Int) p47 q47; replace p47 := eq_true p47; replace q47 := eq_true q47; obtain ⟨hy51_, hz51_⟩ := Kd.R_celln false HO_9.out (x11_3 : Int) (of_decide_eq_true (as_)) (of_decide_eq_true (as_)); have HP51 := Kd.R_putg HO_9.out (x11_3 : Int) true) | ((with_reducible refine gate_store (t := 4) (p := 67) rfl ?_); refine store_event (t := 4) (p := 67) (v := ?vo_w52) (w1 := (w50.setCell ⟨go21, (x11_3 : Int).toNat, none⟩ (.bool true))) ?hg ?ho ?hn ?hr ?_; (case ho => rfl); (case hg => rfl); (case hn => rfl); (case hr => first | (go_simp; done) | (go_simp; rfl)); intro w52 hw; have hg : w50.grownBy w52 (some go21) := (by rw [hw]; exact HP51.2); have hp_ : Kd.R Kd.bool 4 w52 w.heap.size (fun _ => True) (.slice (some ⟨go21, 0, none⟩) x9_2.length co21) y517 := (by rw [hw, Ny517.out]; exact HP51.1); clear HP51; have n0_ := Aside0.mk (Kd.R_over' (v := (.slice (some ⟨go21, 0, none⟩) x9_2.length co21)) (kr_ HO_6.out) (Kd.R_typed HO_9.out) (by decide) hg); have n1_ := Aside0.mk (Kd.R_over' (v := (.slice (some ⟨go21, 0, none⟩) x9_2.length co21)) (kr_ HO_8.out) (Kd.R_typed HO_9.out) (by decide) hg); have n2_ := Aside0.mk (hp_); have n3_ := Aside0.mk (blk_grown (g := gb501) (o := .cells #[.int .i64 a0_0, .int .i64 a0_1, .int .i64 a0_2] 28 (0, 0)) (bk_ BK501.out) hg (Kd.R_ne HO_9.out BK501.out (by decide))); have n4_ := Aside0.mk ((by rw [hw]; exact below_set (HB.out) GB21.out : Below w.heap.size w w52)); clear HO_6; clear HO_8; clear HO_9; clear BK501; clear HB; have HO_6 := n0_; have HO_8 := n1_; have HO_9 := n2_; have BK501 := n3_; have HB := n4_; clear n0_ n1_ n2_ n3_ n4_; clear hg hw hp_) | ((with_reducible refine gate_builtin (b := .append) (xs := #[.tmp 75, .tmp 77]) rfl ?_); at_builtin; refine Kd.R_append (Kd.int .i64) (w0 := w) w.heap.size rfl (.tmp 75) (.tmp 77) 51 3 (.int .i64 0) 8 rfl Try.underlying51 info3 rfl (by decide) (by omega) u8 x8_2 x11_3 [.int .i64 x11_3] (fun k_ => some k_ ≠ (.slice (some ⟨go45, 0, none⟩) x6_2.length co22 : Value).ownBlock) (fun _ => False) rfl rfl ?aP (fun _ hk => hk.elim) ?aF ?aO ?aB ?aS ?aL ?_; (case aP => exact rfl); (case aB => exact (hb1_ HB.out GE501.out)); (case aF => exact (fun k_ hk => Kd.fresh' (Kd.R_lt (kr_ HO_6.out)) k_ hk)); (case aO => exact (by (with_reducible repeat (first | apply Kd.R_alloc | apply Kd.R_drewN | apply Kd.R_drew)); exact Kd.R_mono HO_8.out (fun _ hk => hk.2))); (case aS => exact (below_size (hb1_ HB.out GE501.out))); (case aL => have := LMc48.out; omega); intro v519 w53 ho hb hg hat; rw [← Ny518.out] at ho; replace HO_6 := Aside0.mk (Kd.R_after (ok := (fun _ => True)) (by (with_reducible repeat (first | apply Kd.R_alloc | apply Kd.R_drewN | apply Kd.R_drew)); exact Kd.R_mono HO_6.out (fun _ hk => ⟨trivial, hk⟩)) hg hat); replace HO_9 := Aside0.mk (Kd.R_over' (kr_ HO_9.out) (Kd.R_typed (kr_ HO_8.out)) (by decide) hg); replace BK501 := Aside0.mk (blk_grown (g := gb501) (o := .cells #[.int .i64 a0_0, .int .i64 a0_1, .int .i64 a0_2] 28 (0, 0)) (bk_ BK501.out) hg (Kd.R_ne HO_8.out BK501.out (by decide))); replace HB := Aside0.mk (hb); have HO520 := Aside0.mk (ho); clear HO_8; clear ho hb hg hat))
                    (try simp only [← hl6_2, ← hl9_2])
                    go_roundg k3
                    case measure => have := HK1.out; have := HK2.out; have := HK3.out; omega
                    case rel => exact ⟨(y516), (y518), (y517), (x11_3), (by first | rfl | (simp; done) | (simp [*]; done)), H', ⟨by have := HK1.out; have := HK2.out; have := HK3.out; omega⟩, ⟨by (try simp only [hl6_2]); (try simp only [hl9_2]); (with_reducible repeat (first | apply Kd.R_alloc | apply Kd.R_drewN | apply Kd.R_drew)); exact Kd.R_mono HO_6.out (fun _ hk => hk.2)⟩, ⟨by (try simp only [hl6_2]); (try simp only [hl9_2]); (with_reducible repeat (first | apply Kd.R_alloc | apply Kd.R_drewN | apply Kd.R_drew)); exact HO520.out⟩, ⟨by (try simp only [hl6_2]); (try simp only [hl9_2]); (with_reducible repeat (first | apply Kd.R_alloc | apply Kd.R_drewN | apply Kd.R_drew)); exact HO_9.out⟩, ⟨by (try simp only [hl6_2]); (try simp only [hl9_2]); (with_reducible repeat (first | refine blk_drewN ?_ _ | refine blk_drew ?_ | refine blk_alloc ?_ _)); exact BK501.out⟩, ⟨hb1_ HB.out GE501.out⟩⟩
                   ·rw [if_neg c48] at H
                    exact absurd H (by simp)
                  ·rw [if_neg c46] at H
                   exact absurd H (by simp)
                 ·rw [if_neg c44] at H
                  exact absurd H (by simp)
                ·rw [if_neg c43] at H
                 exact absurd H (by simp)
               ·rw [if_neg c42] at H
                have c42b0 : decide (0 ≤ x11_3) = false := decide_eq_false c42
                clear c42
                by_cases c54 : x10_2 = a1
                ·rw [if_pos c54] at H
                 have c54b0 : (x10_2 == a1) = true := beq_iff_eq.mpr c54
                 have c54b1 : (x10_2 != a1) = false := bne_eq_false_iff_eq.mpr c54
                 clear c54
                 simp only [Option.some.injEq, Prod.mk.injEq] at H
                 obtain ⟨rfl, rfl⟩ := H
                 go_wp2
                 go_ret2
                 exact ⟨_, _, by first | rfl | (simp [errW_none, errW_some] <;> rfl) | (simp [*, errW_none, errW_some] <;> rfl), kr_ HO_8.out, kr_ HO_6.out, hb1_ HB.out GE501.out⟩
                ·rw [if_neg c54] at H
                 have c54b0 : (x10_2 == a1) = false := beq_eq_false_iff_ne.mpr c54
                 have c54b1 : (x10_2 != a1) = true := bne_iff_ne.mpr c54
                 by_cases c55 : 0 ≤ x10_2
                 ·rw [if_pos c55] at H
                  have c55b0 : decide (0 ≤ x10_2) = true := decide_eq_true c55
                  clear c55
                  by_cases c56 : x10_2 < (x6_2.length : Int)
                  ·rw [if_pos c56] at H
                   have c56b0 : decide (x10_2 < (x6_2.length : Int)) = true := decide_eq_true c56
                   clear c56
                   by_cases c57 : x8_2.length < 17592186044416
                   ·rw [if_pos c57] at H
                    have LMc57 := Aside0.mk c57
                    clear c57
                    obtain ⟨y522, hy522⟩ : ∃ y_ : List Int, y_ = (x8_2 ++ [rd x6_2 x10_2]) := ⟨_, rfl⟩
                    replace H : (spec_l24Walk.l1 k3 a1 x6_2 y522 x9_2 (rd x6_2 x10_2) a0_0 a0_1 a0_2) = some (r1, r2) := by first | (rw [hy522]; with_reducible exact H) | (have H2_ := (Option.bind_some _ _).symm.trans H; rw [hy522]; with_reducible exact H2_) | (have H2_ := (Option.bind_some _ _).symm.trans H; with_reducible exact H2_) | with_reducible exact H | (rw [hy522]; exact H) | exact H
                    have Ny522 := Aside0.mk hy522
                    clear hy522
                    have H' := Aside0.mk H
                    clear H
                    have p521 : 0 ≤ (x10_2 : Int) := of_decide_eq_true (as_)
                    have q521 : x10_2 < (x6_2.length : Int) := of_decide_eq_true (as_)
                    obtain ⟨ad521, e521, hx521_0⟩ := Kd.at_int (Kd.R_reads' HO_6.out).2.2 x10_2 p521 q521
                    cases e521
                    replace p521 := eq_true p521
                    replace q521 := eq_true q521
                    go_wp2_with (first | ((with_reducible refine gate_builtin (b := .append) (xs := #[.tmp 75, .tmp 77]) rfl ?_); at_builtin; refine Kd.R_append (Kd.int .i64) (w0 := w) w.heap.size rfl (.tmp 75) (.tmp 77) 51 3 (.int .i64 0) 8 rfl Try.underlying51 info3 rfl (by decide) (by omega) u8 x8_2 (rd x6_2 x10_2) [.int .i64 (rd x6_2 x10_2)] (fun k_ => some k_ ≠ (.slice (some ad521) x6_2.length co22 : Value).ownBlock) (fun _ => False) rfl rfl ?aP (fun _ hk => hk.elim) ?aF ?aO ?aB ?aS ?aL ?_; (case aP => exact rfl); (case aB => exact (hb1_ HB.out GE501.out)); (case aF => exact (fun k_ hk => Kd.fresh' (Kd.R_lt (kr_ HO_6.out)) k_ hk)); (case aO => exact (kr_ HO_8.out)); (case aS => exact (below_size (hb1_ HB.out GE501.out))); (case aL => have := LMc57.out; omega); intro v523 w58 ho hb hg hat; rw [← Ny522.out] at ho; replace HO_6 := Aside0.mk (Kd.R_after (ok := (fun _ => True)) (by (with_reducible repeat (first | apply Kd.R_alloc | apply Kd.R_drewN | apply Kd.R_drew)); exact Kd.R_mono HO_6.out (fun _ hk => ⟨trivial, hk⟩)) hg hat); replace HO_9 := Aside0.mk (Kd.R_over' (kr_ HO_9.out) (Kd.R_typed (kr_ HO_8.out)) (by decide) hg); replace BK501 := Aside0.mk (blk_grown (g := gb501) (o := .cells #[.int .i64 a0_0, .int .i64 a0_1, .int .i64 a0_2] 28 (0, 0)) (bk_ BK501.out) hg (Kd.R_ne HO_8.out BK501.out (by decide))); replace HB := Aside0.mk (hb); have HO524 := Aside0.mk (ho); clear HO_8; clear ho hb hg hat))
                    (try simp only [← hl6_2, ← hl9_2])
                    go_roundg k3
                    case measure => have := HK1.out; have := HK2.out; have := HK3.out; omega
                    case rel => exact ⟨(x6_2), (y522), (x9_2), (rd x6_2 x10_2), (by first | rfl | (simp; done) | (simp [*]; done)), H', ⟨by have := HK1.out; have := HK2.out; have := HK3.out; omega⟩, ⟨by (try simp only [hl6_2]); (try simp only [hl9_2]); (with_reducible repeat (first | apply Kd.R_alloc | apply Kd.R_drewN | apply Kd.R_drew)); exact Kd.R_mono HO_6.out (fun _ hk => hk.2)⟩, ⟨by (try simp only [hl6_2]); (try simp only [hl9_2]); (with_reducible repeat (first | apply Kd.R_alloc | apply Kd.R_drewN | apply Kd.R_drew)); exact HO524.out⟩, ⟨by (try simp only [hl6_2]); (try simp only [hl9_2]); (with_reducible repeat (first | apply Kd.R_alloc | apply Kd.R_drewN | apply Kd.R_drew)); exact HO_9.out⟩, ⟨by (try simp only [hl6_2]); (try simp only [hl9_2]); (with_reducible repeat (first | refine blk_drewN ?_ _ | refine blk_drew ?_ | refine blk_alloc ?_ _)); exact BK501.out⟩, ⟨hb1_ HB.out GE501.out⟩⟩
                   ·rw [if_neg c57] at H
                    exact absurd H (by simp)
                  ·rw [if_neg c56] at H
                   exact absurd H (by simp)
                 ·rw [if_neg c55] at H
                  exact absurd H (by simp)
         ·rw [if_neg c20] at H
          exact absurd H (by simp)
        ·rw [if_neg c19] at H
         exact absurd H (by simp)
       ·rw [if_neg c18] at H
        exact absurd H (by simp)
      ·rw [if_neg c17] at H
       exact absurd H (by simp)
  ·rw [if_neg c5] at H
   exact absurd H (by simp)
 ·rw [if_neg c4] at H
  exact absurd H (by simp)

end Go.Proofs.Ytjmbnlemfdjkfaa.X
