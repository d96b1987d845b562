-- Written by a program of this session (xprint.py), out of the translation and of hand-written contracts. Lean checks it.
import Derived.Test.YtdloifaaoiollaaX0
import Derived.Test.YtdloifaaoiollaaXcin
import Derived.Test.YtdloifaaoiollaaXspecEnteredFrom
namespace Go.Proofs.Ytdloifaaoiollaa.X
open Go.RowKit Go.Proofs.YtdloifaaoiollaaW.PrintWords Go.Proofs.YtdloifaaoiollaaW.PrintLast Go.Proofs.YtdloifaaoiollaaW.PrintMore
attribute [local go_sem] max2_int min2_int max_two min_two max_three min_three max_four min_four   -- for this text's walks alone
set_option linter.unusedVariables false
set_option linter.unusedSimpArgs false

/-! ### spec_ThreadLength: function 15 -/
mutual
def spec_ThreadLength.l0 : Nat → List Int → Int → Int → Option (Int)
 | 0, _, _, _ => none
 | k + 1, x5, x6, x7 => if x7 < (x5.length : Int) then (spec_ThreadLength.l1 k x5 x6 x7 0 x7) else (some x6)
def spec_ThreadLength.l1 : Nat → List Int → Int → Int → Int → Int → Option (Int)
 | 0, _, _, _, _, _ => none
 | k + 1, x5, x6, x7, x8, x9 => if 0 ≤ x9 then (if x9 < (x5.length : Int) then (if (rd x5 x9) ≥ 0 then (spec_ThreadLength.l1 k x5 x6 x7 (wrap64 (x8 + 1)) (rd x5 x9)) else (spec_ThreadLength.l0 k x5 (mx x6 x8) (wrap64 (x7 + 1)))) else (none)) else (none)
end
def spec_ThreadLength.f (k : Nat) (a0_0 : Int) (a0_1 : Int) (a0_2 : Int) (a1 : Int) : Option (Int) := (spec_l04Has.f a0_0 a0_1 a0_2 a1).bind fun t502 => (if t502 = true then ((spec_EnteredFrom.f k a0_0 a0_1 a0_2 a1).bind fun t503 => (spec_ThreadLength.l0 k t503 0 0)) else (some (-1)))
theorem spec_ThreadLength.mono_l : ∀ k, (∀ y0 y1 y2, LeO (spec_ThreadLength.l0 k y0 y1 y2) (spec_ThreadLength.l0 (k + 1) y0 y1 y2)) ∧ (∀ y0 y1 y2 y3 y4, LeO (spec_ThreadLength.l1 k y0 y1 y2 y3 y4) (spec_ThreadLength.l1 (k + 1) y0 y1 y2 y3 y4))
 | 0 => ⟨fun _ _ _ r h => by simp [spec_ThreadLength.l0] at h, fun _ _ _ _ _ r h => by simp [spec_ThreadLength.l1] at h⟩
 | k + 1 => by
  obtain ⟨ih0, ih1⟩ := spec_ThreadLength.mono_l k
  refine ⟨?_, ?_⟩
  ·intro y0 y1 y2
   unfold spec_ThreadLength.l0
   repeat' first
   | (with_reducible exact ih0 ..)
   | (with_reducible exact ih1 ..)
   | (with_reducible exact spec_EnteredFrom.mono ..)
   | mo1
   | exact ih0 ..
   | exact ih1 ..
   | exact spec_EnteredFrom.mono ..
   | mo2
  ·intro y0 y1 y2 y3 y4
   unfold spec_ThreadLength.l1
   repeat' first
   | (with_reducible exact ih0 ..)
   | (with_reducible exact ih1 ..)
   | (with_reducible exact spec_EnteredFrom.mono ..)
   | mo1
   | exact ih0 ..
   | exact ih1 ..
   | exact spec_EnteredFrom.mono ..
   | mo2
theorem spec_ThreadLength.mono : ∀ a0 a1 a2 a3 k, LeO (spec_ThreadLength.f k a0 a1 a2 a3) (spec_ThreadLength.f (k + 1) a0 a1 a2 a3) := by
 intro a0 a1 a2 a3 k
 obtain ⟨ih0, ih1⟩ := spec_ThreadLength.mono_l k
 unfold spec_ThreadLength.f
 repeat' first
   | (with_reducible exact ih0 ..)
   | (with_reducible exact ih1 ..)
   | (with_reducible exact spec_EnteredFrom.mono ..)
   | mo1
   | exact ih0 ..
   | exact ih1 ..
   | exact spec_EnteredFrom.mono ..
   | mo2
set_option maxHeartbeats 8000000 in
set_option maxRecDepth 100000 in
theorem spec_ThreadLength.calls (k : Nat) (a0_0 : Int) (a0_1 : Int) (a0_2 : Int) (a1 : Int) (r : Int) (w : World) (h : spec_ThreadLength.f k a0_0 a0_1 a0_2 a1 = some r) :
  Calls Try.prog 15 #[.agg #[.int .i64 a0_0, .int .i64 a0_1, .int .i64 a0_2], .int .i64 a1] w fun e w' => e = .returned (.int .i64 r) ∧ Below w.heap.size w w' := by
 have hu29 := Try.underlying29
 have HB := Aside0.mk (Below.refl w.heap.size w)
 have H : ((spec_l04Has.f a0_0 a0_1 a0_2 a1).bind fun t502 => (if t502 = true then ((spec_EnteredFrom.f k a0_0 a0_1 a0_2 a1).bind fun t503 => (spec_ThreadLength.l0 k t503 0 0)) else (some (-1)))) = some r := h
 clear h
 replace H := Option.bind_eq_some_iff.mp H
 obtain ⟨t502, A30, H⟩ := H
 replace H : (if t502 = true then ((spec_EnteredFrom.f k a0_0 a0_1 a0_2 a1).bind fun t503 => (spec_ThreadLength.l0 k t503 0 0)) else (some (-1))) = some r := H
 have A3 := Aside0.mk A30
 clear A30
 by_cases c4 : t502 = true
 ·subst c4
  have H1 : ((spec_EnteredFrom.f k a0_0 a0_1 a0_2 a1).bind fun t503 => (spec_ThreadLength.l0 k t503 0 0)) = some r := by rw [if_pos rfl] at H; exact H
  clear H
  have H := H1
  clear H1
  replace H := Option.bind_eq_some_iff.mp H
  obtain ⟨t503, A50, H⟩ := H
  replace H : (spec_ThreadLength.l0 k t503 0 0) = some r := H
  have A5 := Aside0.mk A50
  clear A50
  have H' := Aside0.mk H
  clear H
  go_enter Try.func15, Try.ntmps15
  go_wp2_with (first | (refine box_ (N := 2) (cs := #[.int .i64 a0_0, .int .i64 a0_1, .int .i64 a0_2]) (t := 29) ?_; intro gb501 hg w6 hbox hb; have BK501 := Aside0.mk (hbox); have GW501 := HB.g0 hg; have GE501 := HB.g0 hg; replace HB := HB.s0 hb; clear hb hbox hg; obtain ⟨hcz7_0, hcz7_1, hcz7_2⟩ := cz3_ BK501.out; obtain ⟨hfz7_0, hfz7_1, hfz7_2⟩ := fz3_ BK501.out) | (refine gl_ 12 Try.func64 #[.agg #[.int .i64 a0_0, .int .i64 a0_1, .int .i64 a0_2], .int .i64 a1] ?_; (with_reducible refine (spec_l04Has.calls a0_0 a0_1 a0_2 a1 true _ A3.out).mono ?_); rintro e w8 ⟨rfl, hb⟩; refine ⟨_, rfl, ?_⟩; replace BK501 := BK501.bb hb; replace HB := HB.s1 GE501 hb; (try clear hb); obtain ⟨hcz9_0, hcz9_1, hcz9_2⟩ := cz3_ BK501.out; obtain ⟨hfz9_0, hfz9_1, hfz9_2⟩ := fz3_ BK501.out) | (refine gl_ 16 Try.func18 #[.agg #[.int .i64 a0_0, .int .i64 a0_1, .int .i64 a0_2], .int .i64 a1] ?_; (with_reducible refine (spec_EnteredFrom.calls k a0_0 a0_1 a0_2 a1 t503 _ A5.out).mono ?_); rintro e w10 ⟨v504, rfl, ho0, hb⟩; refine ⟨_, rfl, ?_⟩; have HO505 := Aside0.mk (Kd.R_lower ho0 (below_size (hb1_ HB.out GE501.out))); replace BK501 := BK501.bb hb; replace HB := HB.s1 GE501 hb; (try clear hb); (try clear ho0)))
  go_loopg [6, 7] k (fun kq v6 v7 w' => ∃ (x6_1 : Int) (x7_1 : Int), v6 = .int .i64 x6_1 ∧ v7 = .int .i64 x7_1 ∧ Aside0 (spec_ThreadLength.l0 kq t503 x6_1 x7_1 = some r) ∧ Aside0 (kq ≤ k) ∧ Aside0 (Kd.R (Kd.int .i64) 3 w' w.heap.size (fun _ => True) v504 t503) ∧ Aside0 (w'.heap[gb501]? = some (.cells #[.int .i64 a0_0, .int .i64 a0_1, .int .i64 a0_2] 29 (0, 0))) ∧ Aside0 (Below w.heap.size w w'))
  case atStart => exact ⟨(0), (0), (by first | rfl | (simp; done) | (simp [*]; done)), (by first | rfl | (simp; done) | (simp [*]; done)), H', ⟨Nat.le_refl _⟩, ⟨kr_ HO505.out⟩, ⟨bk_ BK501.out⟩, ⟨hb1_ HB.out GE501.out⟩⟩
  case round =>
   clear H'
   try clear c1
   try clear p2
   try clear c4
   try clear c6
   try clear hcz7_0
   try clear hcz7_1
   try clear hcz7_2
   try clear hcz9_0
   try clear hcz9_1
   try clear hcz9_2
   try clear hfz7_0
   try clear hfz7_1
   try clear hfz7_2
   try clear hfz9_0
   try clear hfz9_1
   try clear hfz9_2
   obtain ⟨x6_1, x7_1, rfl, rfl, HA, HK1, HO_5, BK501, HB⟩ := hrel
   cases gk with
   | zero => exact absurd HA.out (by simp [spec_ThreadLength.l0])
   | succ k1 =>
    have H := HA.out
    clear HA
    simp only [spec_ThreadLength.l0] at H
    by_cases c11 : x7_1 < (t503.length : Int)
    ·rw [if_pos c11] at H
     have c11b0 : decide (x7_1 < (t503.length : Int)) = true := decide_eq_true c11
     clear c11
     have H' := Aside0.mk H
     clear H
     obtain ⟨Ao12, co12, eo12⟩ := Kd.R_slice HO_5.out
     subst eo12
     go_wp2
     go_loopg [8, 9] k1 (fun kq v8 v9 w' => ∃ (x8_2 : Int) (x9_2 : Int), v8 = .int .i64 x8_2 ∧ v9 = .int .i64 x9_2 ∧ Aside0 (spec_ThreadLength.l1 kq t503 x6_1 x7_1 x8_2 x9_2 = some r) ∧ Aside0 (kq ≤ k1) ∧ Aside0 (Kd.R (Kd.int .i64) 3 w' w.heap.size (fun _ => True) (.slice Ao12 t503.length co12) t503) ∧ Aside0 (w'.heap[gb501]? = some (.cells #[.int .i64 a0_0, .int .i64 a0_1, .int .i64 a0_2] 29 (0, 0))) ∧ Aside0 (Below w.heap.size w w'))
     case atStart => exact ⟨(0), (x7_1), (by first | rfl | (simp; done) | (simp [*]; done)), (by first | rfl | (simp; done) | (simp [*]; done)), H', ⟨Nat.le_refl _⟩, ⟨kr_ HO_5.out⟩, ⟨bk_ BK501.out⟩, ⟨hb1_ HB.out GE501.out⟩⟩
     case round =>
      clear H'
      try clear c1
      try clear p2
      try clear c4
      try clear c6
      try clear c11
      try clear c11b0
      try clear hcz7_0
      try clear hcz7_1
      try clear hcz7_2
      try clear hcz9_0
      try clear hcz9_1
      try clear hcz9_2
      try clear hfz7_0
      try clear hfz7_1
      try clear hfz7_2
      try clear hfz9_0
      try clear hfz9_1
      try clear hfz9_2
      try clear p2
      obtain ⟨x8_2, x9_2, rfl, rfl, HA, HK2, HO_5, BK501, HB⟩ := hrel
      cases gk with
      | zero => exact absurd HA.out (by simp [spec_ThreadLength.l1])
      | succ k2 =>
       have H := HA.out
       clear HA
       simp only [spec_ThreadLength.l1] at H
       by_cases c13 : 0 ≤ x9_2
       ·rw [if_pos c13] at H
        have c13b0 : decide (0 ≤ x9_2) = true := decide_eq_true c13
        clear c13
        by_cases c14 : x9_2 < (t503.length : Int)
        ·rw [if_pos c14] at H
         have c14b0 : decide (x9_2 < (t503.length : Int)) = true := decide_eq_true c14
         clear c14
         by_cases c15 : (rd t503 x9_2) ≥ 0
         ·rw [if_pos c15] at H
          have c15b0 : decide (0 ≤ (rd t503 x9_2)) = true := decide_eq_true c15
          clear c15
          have H' := Aside0.mk H
          clear H
          have p506 : 0 ≤ (x9_2 : Int) := of_decide_eq_true (as_)
          have q506 : x9_2 < (t503.length : Int) := of_decide_eq_true (as_)
          obtain ⟨ad506, e506, hx506_0⟩ := Kd.at_int (Kd.R_reads' HO_5.out).2.2 x9_2 p506 q506
          cases e506
          replace p506 := eq_true p506
          replace q506 := eq_true q506
          have p507 : 0 ≤ (x9_2 : Int) := of_decide_eq_true (as_)
          have q507 : x9_2 < (t503.length : Int) := of_decide_eq_true (as_)
          obtain ⟨ad507, e507, hx507_0⟩ := Kd.at_int (Kd.R_reads' HO_5.out).2.2 x9_2 p507 q507
          obtain rfl : ad506 = ad507 := (by injection e507)
          replace p507 := eq_true p507
          replace q507 := eq_true q507
          go_wp2
          go_roundg k2
          case measure => have := HK1.out; have := HK2.out; omega
          case rel => exact ⟨(wrap64 (x8_2 + 1)), (rd t503 x9_2), (by first | rfl | (simp; done) | (simp [*]; done)), (by first | rfl | (simp; done) | (simp [*]; done)), H', ⟨by have := HK1.out; have := HK2.out; omega⟩, ⟨kr_ HO_5.out⟩, ⟨bk_ BK501.out⟩, ⟨hb1_ HB.out GE501.out⟩⟩
         ·rw [if_neg c15] at H
          have c15b0 : decide (0 ≤ (rd t503 x9_2)) = false := decide_eq_false c15
          clear c15
          obtain ⟨ji16, hji16⟩ : ∃ j_ : Int, (mx x6_1 x8_2) = j_ := ⟨_, rfl⟩
          replace H : (spec_ThreadLength.l0 k2 t503 ji16 (wrap64 (x7_1 + 1))) = some r := by first | (rw [hji16] at H; exact H) | (simp only [hji16] at H ⊢; exact H)
          have hji16_ : (if x6_1 < x8_2 then x8_2 else x6_1) = ji16 := hji16
          have H' := Aside0.mk H
          clear H
          have p506 : 0 ≤ (x9_2 : Int) := of_decide_eq_true (as_)
          have q506 : x9_2 < (t503.length : Int) := of_decide_eq_true (as_)
          obtain ⟨ad506, e506, hx506_0⟩ := Kd.at_int (Kd.R_reads' HO_5.out).2.2 x9_2 p506 q506
          cases e506
          replace p506 := eq_true p506
          replace q506 := eq_true q506
          go_wp2
          go_roundg k2
          case measure => have := HK1.out; have := HK2.out; omega
          case rel => exact ⟨(ji16), (wrap64 (x7_1 + 1)), (by first | rfl | (simp; done) | (simp only [← hji16] <;> (first | rfl | simp)) | (simp [*]; done)), (by first | rfl | (simp; done) | (simp [*]; done)), H', ⟨by have := HK1.out; have := HK2.out; omega⟩, ⟨kr_ HO_5.out⟩, ⟨bk_ BK501.out⟩, ⟨hb1_ HB.out GE501.out⟩⟩
        ·rw [if_neg c14] at H
         exact absurd H (by simp)
       ·rw [if_neg c13] at H
        exact absurd H (by simp)
    ·rw [if_neg c11] at H
     have c11b0 : decide (x7_1 < (t503.length : Int)) = false := decide_eq_false c11
     clear c11
     obtain rfl := Option.some.inj H
     obtain ⟨Ao17, co17, eo17⟩ := Kd.R_slice HO_5.out
     subst eo17
     go_wp2
     go_ret
     exact ⟨ex_, hb1_ HB.out GE501.out⟩
 ·replace c4 := Bool.eq_false_iff.mpr c4
  subst c4
  have H1 : (some (-1)) = some r := by rw [if_neg (show ¬ (false = true) by decide)] at H; exact H
  clear H
  have H := H1
  clear H1
  obtain rfl := Option.some.inj H
  go_enter Try.func15, Try.ntmps15
  go_wp2_with (first | (refine box_ (N := 2) (cs := #[.int .i64 a0_0, .int .i64 a0_1, .int .i64 a0_2]) (t := 29) ?_; intro gb501 hg w18 hbox hb; have BK501 := Aside0.mk (hbox); have GW501 := HB.g0 hg; have GE501 := HB.g0 hg; replace HB := HB.s0 hb; clear hb hbox hg; obtain ⟨hcz19_0, hcz19_1, hcz19_2⟩ := cz3_ BK501.out; obtain ⟨hfz19_0, hfz19_1, hfz19_2⟩ := fz3_ BK501.out) | (refine gl_ 12 Try.func64 #[.agg #[.int .i64 a0_0, .int .i64 a0_1, .int .i64 a0_2], .int .i64 a1] ?_; (with_reducible refine (spec_l04Has.calls a0_0 a0_1 a0_2 a1 false _ A3.out).mono ?_); rintro e w20 ⟨rfl, hb⟩; refine ⟨_, rfl, ?_⟩; replace BK501 := BK501.bb hb; replace HB := HB.s1 GE501 hb; (try clear hb)))
  go_ret
  exact ⟨ex_, hb1_ HB.out GE501.out⟩

end Go.Proofs.Ytdloifaaoiollaa.X
