-- Written by a program of this session (xprint.py), out of the translation and of hand-written contracts. Lean checks it.
import Derived.Test.YtnipocpbpcaepaaX0
import Derived.Test.YtnipocpbpcaepaaXcgrid
namespace Go.Proofs.Ytnipocpbpcaepaa.X
open Go.RowKit Go.Proofs.YtnipocpbpcaepaaW.PrintWords Go.Proofs.YtnipocpbpcaepaaW.PrintLast Go.Proofs.YtnipocpbpcaepaaW.PrintMore
attribute [local go_sem] max2_int min2_int max_two min_two max_three min_three max_four min_four   -- for this text's walks alone
set_option linter.unusedVariables false
set_option linter.unusedSimpArgs false

/-! ### spec_l15Order: function 23 -/
def spec_l15Order.l0 : Nat → List Int → Int → Int → Int → Option (Bool)
 | 0, _, _, _, _ => none
 | k + 1, x1, x5, x502000, x502001 => if x5 < (x1.length : Int) then (if 0 ≤ x5 then ((spec_CountCells.f x502000 x502001).bind fun t503 => ((spec_l01In.f (rd x1 x5) 0 (wrap64 (t503 - 1))).bind fun t504 => (if t504 = true then (spec_l15Order.l0 k x1 (wrap64 (x5 + 1)) x502000 x502001) else (some false)))) else (none)) else (some (decide ((x1.length : Int) ≤ 100)))
def spec_l15Order.f (k : Nat) (a0_0 : Int) (a0_1 : Int) (l1 : List Int) : Option (Bool) := spec_l15Order.l0 k l1 0 a0_0 a0_1
theorem spec_l15Order.mono_l : ∀ k, (∀ y0 y1 y2 y3, LeO (spec_l15Order.l0 k y0 y1 y2 y3) (spec_l15Order.l0 (k + 1) y0 y1 y2 y3))
 | 0 => fun _ _ _ _ r h => by simp [spec_l15Order.l0] at h
 | k + 1 => by
  have ih0 := spec_l15Order.mono_l k
  ·intro y0 y1 y2 y3
   unfold spec_l15Order.l0
   repeat' first
   | (with_reducible exact ih0 ..)
   | (with_reducible first | exact lr_ _ | exact ln_ _ | refine li_ ?_ ?_ | refine lb_ ?_ fun _ => ?_)
   | exact ih0 ..
   | exact ln_ _ | refine li_ ?_ ?_ | refine lb_ ?_ fun _ => ?_
theorem spec_l15Order.mono : ∀ a0 a1 a2 k, LeO (spec_l15Order.f k a0 a1 a2) (spec_l15Order.f (k + 1) a0 a1 a2) := by
 intro a0 a1 a2 k
 have ih0 := spec_l15Order.mono_l k
 unfold spec_l15Order.f
 repeat' first
   | (with_reducible exact ih0 ..)
   | (with_reducible first | exact lr_ _ | exact ln_ _ | refine li_ ?_ ?_ | refine lb_ ?_ fun _ => ?_)
   | exact ih0 ..
   | exact ln_ _ | refine li_ ?_ ?_ | refine lb_ ?_ fun _ => ?_
def spec_l15Order.T4 : Bool × List (List Nat × List Nat) := (true, [([], []), ([], []), ([0, 1], [0, 1]), ([2], [2]), ([], []), ([4], [4]), ([5], [5]), ([3, 6, 5], [3, 6]), ([7], [7])])
def spec_l15Order.B4 : List Nat := [0, 0, 3, 7, 0, 16, 48, 127, 255]
theorem spec_l15Order.tab4 : rtab .any (opsOf Try.f23 4) = spec_l15Order.T4 := by kernel_rfl
theorem spec_l15Order.bits4 : waitsOk spec_l15Order.T4.2 spec_l15Order.B4 = true := by kernel_rfl
set_option maxHeartbeats 8000000 in
set_option maxRecDepth 100000 in
theorem spec_l15Order.calls (k : Nat) (a0_0 : Int) (a0_1 : Int) (A1 : Option Addr) (c1 : Nat) (l1 : List Int) (r : Bool) (w : World) (hr1 : Kd.C (Kd.int .i64) w A1 l1.length l1) (hc1 : l1.length ≤ c1) (h : spec_l15Order.f k a0_0 a0_1 l1 = some r) :
  Calls Try.prog 23 #[.agg #[.int .i64 a0_0, .int .i64 a0_1], .slice A1 l1.length c1] w fun e w' => e = .returned (.bool r) ∧ Below w.heap.size w w' := by
 have hu28 := Try.underlying28
 have HR1 := Aside0.mk hr1
 have HC1 := Aside0.mk hc1
 clear hr1 hc1
 have HB := Aside0.mk (Below.refl w.heap.size w)
 have H : (spec_l15Order.l0 k l1 0 a0_0 a0_1) = some r := h
 clear h
 have H' := Aside0.mk H
 clear H
 go_enter Try.func23, Try.ntmps23
 go_wp2_with (first | (refine box_ (N := 2) (cs := #[.int .i64 a0_0, .int .i64 a0_1]) (t := 28) ?_; intro gb501 hg w3 hbox hb; have BK501 := Aside0.mk (hbox); have GW501 := HB.g0 hg; have GE501 := HB.g0 hg; replace HB := HB.s0 hb; clear hb hbox hg))
 go_loopg [5] k (fun kq v5 w' => ∃ (x5_1 : Int), v5 = .int .i64 x5_1 ∧ Aside0 (spec_l15Order.l0 kq l1 x5_1 a0_0 a0_1 = some r) ∧ Aside0 (kq ≤ k) ∧ Aside0 (w'.heap[gb501]? = some (.cells #[.int .i64 a0_0, .int .i64 a0_1] 28 (0, 0))) ∧ Aside0 (Below w.heap.size w w'))
 case atStart => exact ⟨(0), (by first | rfl | (simp; done) | (simp [*]; done)), H', ⟨Nat.le_refl _⟩, ⟨bk_ BK501.out⟩, ⟨hb1_ HB.out GE501.out⟩⟩
 case round =>
  clear H'
  try clear c1
  try clear c2
  try clear p2
  obtain ⟨x5_1, rfl, HA, HK1, BK501, HB⟩ := hrel
  cases gk with
  | zero => exact absurd HA.out (by simp [spec_l15Order.l0])
  | succ k1 =>
   have H := HA.out
   clear HA
   simp only [spec_l15Order.l0] at H
   by_cases c4 : x5_1 < (l1.length : Int)
   ·rw [if_pos c4] at H
    have c4b0 : decide (x5_1 < (l1.length : Int)) = true := decide_eq_true c4
    clear c4
    by_cases c5 : 0 ≤ x5_1
    ·rw [if_pos c5] at H
     have c5b0 : decide (0 ≤ x5_1) = true := decide_eq_true c5
     clear c5
     replace H := Option.bind_eq_some_iff.mp H
     obtain ⟨t503, A60, H⟩ := H
     replace H : ((spec_l01In.f (rd l1 x5_1) 0 (wrap64 (t503 - 1))).bind fun t504 => (if t504 = true then (spec_l15Order.l0 k1 l1 (wrap64 (x5_1 + 1)) a0_0 a0_1) else (some false))) = some r := H
     have A6 := Aside0.mk A60
     clear A60
     replace H := Option.bind_eq_some_iff.mp H
     obtain ⟨t504, A70, H⟩ := H
     replace H : (if t504 = true then (spec_l15Order.l0 k1 l1 (wrap64 (x5_1 + 1)) a0_0 a0_1) else (some false)) = some r := H
     have A7 := Aside0.mk A70
     clear A70
     by_cases c8 : t504 = true
     ·subst c8
      have H1 : (spec_l15Order.l0 k1 l1 (wrap64 (x5_1 + 1)) a0_0 a0_1) = some r := by rw [if_pos rfl] at H; exact H
      clear H
      have H := H1
      clear H1
      have H' := Aside0.mk H
      clear H
      try go_wp2
      replace BK501 := Aside0.mk (blk_drew BK501.out)
      replace HB := Aside0.mk (below_drew1 HB.out)
      have p502 : 0 ≤ (x5_1 : Int) := of_decide_eq_true (as_)
      have q502 : x5_1 < (l1.length : Int) := of_decide_eq_true (as_)
      obtain ⟨ad502, e502, hx502_0⟩ := Kd.at_int HR1.out x5_1 p502 q502
      have hw502_0 := hx502_0
      cases e502
      replace hx502_0 := (HB.out.cell (World.block_lt_of_cell? w _ hx502_0)).trans hx502_0
      replace p502 := eq_true p502
      replace q502 := eq_true q502
      refine start_ (n := 9) (S := fun w' => w'.cell? ⟨gb501, 0, none⟩ = some (.int .i64 a0_0) ∧ w'.cell? ⟨gb501, 1, none⟩ = some (.int .i64 a0_1) ∧ w'.cell? (ad502.add (x5_1).toNat) = some (.int .i64 (rd l1 x5_1))) (ds := []) #[false, false, false, false, false, false, false, false, false] (by kernel_rfl) rfl rfl ⟨BK501.c 0, BK501.c 1, ((HB.out.cell (World.block_lt_of_cell? w _ hw502_0)).trans hw502_0)⟩ (fun hHeld => ?_); refine with_tabW spec_l15Order.tab4 spec_l15Order.bits4 (fun HT_ HW_ => ?_)
      generalize wr.drew = w9 at BK501 HB hx502_0 hHeld ⊢
      refine pv_ (i := 0) (N := some 12) HT_.out ?_
      refine pv_ (i := 1) (N := some 13) HT_.out ?_
      refine pv_ (i := 2) (N := some 14) HT_.out ?_
      refine tv3_ (i := 3) (N := some 15) HT_.out HW_.out hHeld ?_
      refine tv3_ (i := 4) (N := some 16) HT_.out HW_.out hHeld ?_
      refine ov_ (i := 5) (N := some 17) HT_.out (fun K hK => ?_)
      refine gq_ Try.func39 #[.agg #[.int .i64 a0_0, .int .i64 a0_1]] ?_
      with_reducible refine (spec_CountCells.calls a0_0 a0_1 t503 _ A6.out).mono ?_
      rintro e w10 ⟨rfl, hb⟩
      refine ⟨_, rfl, ?_⟩
      replace BK501 := BK501.bb hb
      replace HB := HB.s1 GE501 hb
      skip
      (try clear hb2)
      (try clear hk)
      (try clear hi)
      refine hK.out _ _ ⟨BK501.c 0, BK501.c 1, ((HB.out.cell (World.block_lt_of_cell? w _ hw502_0)).trans hw502_0)⟩ (fun hHeld => ?_)
      clear hK K
      refine nm_ ?_
      refine pv_ (i := 6) (N := some 18) HT_.out ?_
      refine ov_ (i := 7) (N := some 19) HT_.out (fun K hK => ?_)
      refine gq_ Try.func41 #[.int .i64 (rd l1 x5_1), .int .i64 0, .int .i64 (wrap64 (t503 - 1))] ?_
      with_reducible refine (spec_l01In.calls (rd l1 x5_1) 0 (wrap64 (t503 - 1)) true _ A7.out).mono ?_
      rintro e w' ⟨rfl, ⟨nd, rfl⟩⟩
      refine ⟨_, rfl, ?_⟩
      refine hK.out _ _ ⟨BK501.c 0, BK501.c 1, ((HB.out.cell (World.block_lt_of_cell? w _ hw502_0)).trans hw502_0)⟩ (fun hHeld => ?_)
      clear hK K
      refine nm_ ?_
      refine pv_ (i := 8) (N := some 20) HT_.out ?_
      refine done_ (done_of HT_.out (by kernel_rfl)) ?_
      try go_wp2
      go_roundg k1
      case measure => have := HK1.out; omega
      case rel => exact ⟨(wrap64 (x5_1 + 1)), (by first | rfl | (simp; done) | (simp [*]; done)), H', ⟨by have := HK1.out; omega⟩, ⟨bk_ BK501.out⟩, ⟨hb1_ HB.out GE501.out⟩⟩
     ·replace c8 := Bool.eq_false_iff.mpr c8
      subst c8
      have H1 : (some false) = some r := by rw [if_neg (show ¬ (false = true) by decide)] at H; exact H
      clear H
      have H := H1
      clear H1
      obtain rfl := Option.some.inj H
      try go_wp2
      replace BK501 := Aside0.mk (blk_drew BK501.out)
      replace HB := Aside0.mk (below_drew1 HB.out)
      have p502 : 0 ≤ (x5_1 : Int) := of_decide_eq_true (as_)
      have q502 : x5_1 < (l1.length : Int) := of_decide_eq_true (as_)
      obtain ⟨ad502, e502, hx502_0⟩ := Kd.at_int HR1.out x5_1 p502 q502
      have hw502_0 := hx502_0
      cases e502
      replace hx502_0 := (HB.out.cell (World.block_lt_of_cell? w _ hx502_0)).trans hx502_0
      replace p502 := eq_true p502
      replace q502 := eq_true q502
      refine start_ (n := 9) (S := fun w' => w'.cell? ⟨gb501, 0, none⟩ = some (.int .i64 a0_0) ∧ w'.cell? ⟨gb501, 1, none⟩ = some (.int .i64 a0_1) ∧ w'.cell? (ad502.add (x5_1).toNat) = some (.int .i64 (rd l1 x5_1))) (ds := []) #[false, false, false, false, false, false, false, false, false] (by kernel_rfl) rfl rfl ⟨BK501.c 0, BK501.c 1, ((HB.out.cell (World.block_lt_of_cell? w _ hw502_0)).trans hw502_0)⟩ (fun hHeld => ?_); refine with_tabW spec_l15Order.tab4 spec_l15Order.bits4 (fun HT_ HW_ => ?_)
      generalize wr.drew = w11 at BK501 HB hx502_0 hHeld ⊢
      refine pv_ (i := 0) (N := some 12) HT_.out ?_
      refine pv_ (i := 1) (N := some 13) HT_.out ?_
      refine pv_ (i := 2) (N := some 14) HT_.out ?_
      refine tv3_ (i := 3) (N := some 15) HT_.out HW_.out hHeld ?_
      refine tv3_ (i := 4) (N := some 16) HT_.out HW_.out hHeld ?_
      refine ov_ (i := 5) (N := some 17) HT_.out (fun K hK => ?_)
      refine gq_ Try.func39 #[.agg #[.int .i64 a0_0, .int .i64 a0_1]] ?_
      with_reducible refine (spec_CountCells.calls a0_0 a0_1 t503 _ A6.out).mono ?_
      rintro e w12 ⟨rfl, hb⟩
      refine ⟨_, rfl, ?_⟩
      replace BK501 := BK501.bb hb
      replace HB := HB.s1 GE501 hb
      skip
      (try clear hb2)
      (try clear hk)
      (try clear hi)
      refine hK.out _ _ ⟨BK501.c 0, BK501.c 1, ((HB.out.cell (World.block_lt_of_cell? w _ hw502_0)).trans hw502_0)⟩ (fun hHeld => ?_)
      clear hK K
      refine nm_ ?_
      refine pv_ (i := 6) (N := some 18) HT_.out ?_
      refine ov_ (i := 7) (N := some 19) HT_.out (fun K hK => ?_)
      refine gq_ Try.func41 #[.int .i64 (rd l1 x5_1), .int .i64 0, .int .i64 (wrap64 (t503 - 1))] ?_
      with_reducible refine (spec_l01In.calls (rd l1 x5_1) 0 (wrap64 (t503 - 1)) false _ A7.out).mono ?_
      rintro e w' ⟨rfl, ⟨nd, rfl⟩⟩
      refine ⟨_, rfl, ?_⟩
      refine hK.out _ _ ⟨BK501.c 0, BK501.c 1, ((HB.out.cell (World.block_lt_of_cell? w _ hw502_0)).trans hw502_0)⟩ (fun hHeld => ?_)
      clear hK K
      refine nm_ ?_
      refine pv_ (i := 8) (N := some 20) HT_.out ?_
      refine done_ (done_of HT_.out (by kernel_rfl)) ?_
      try go_wp2
      go_ret
      exact ⟨ex_, hb1_ HB.out GE501.out⟩
    ·rw [if_neg c5] at H
     exact absurd H (by simp)
   ·rw [if_neg c4] at H
    have c4b0 : decide (x5_1 < (l1.length : Int)) = false := decide_eq_false c4
    clear c4
    obtain rfl := Option.some.inj H
    go_wp2
    go_ret
    exact ⟨ex_, hb1_ HB.out GE501.out⟩

end Go.Proofs.Ytnipocpbpcaepaa.X
