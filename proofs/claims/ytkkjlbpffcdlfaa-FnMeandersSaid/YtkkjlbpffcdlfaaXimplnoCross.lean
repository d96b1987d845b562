-- Written by a program of this session (xprint.py), out of the translation and of hand-written contracts. Lean checks it.
import Derived.Test.YtkkjlbpffcdlfaaX0
import Derived.Test.YtkkjlbpffcdlfaaXccross
namespace Go.Proofs.Ytkkjlbpffcdlfaa.X
open Go.RowKit Go.Proofs.YtkkjlbpffcdlfaaW.PrintWords Go.Proofs.YtkkjlbpffcdlfaaW.PrintLast Go.Proofs.YtkkjlbpffcdlfaaW.PrintMore
attribute [local go_sem] max2_int min2_int max_two min_two max_three min_three max_four min_four   -- for this text's walks alone
set_option linter.unusedVariables false
set_option linter.unusedSimpArgs false

/-! ### impl_noCross: function 40 -/
mutual
def impl_noCross.l0 : Nat → List (List Int) → List (List Int) → Int → Int → Option (Bool)
 | 0, _, _, _, _ => none
 | k + 1, x0, x7, x8, x9 => if x9 < x8 then (if 0 ≤ x9 then (if x9 < (x7.length : Int) then (if x9 ≤ (x0.length : Int) then ((some (x0.take (x9 : Int).toNat : List (List Int))).bind fun y502 => (impl_noCross.l1 k x0 (rd_L1 x7 x9) x7 x8 x9 y502 (y502.length : Int) 0)) else (none)) else (none)) else (none)) else (some true)
def impl_noCross.l1 : Nat → List (List Int) → List Int → List (List Int) → Int → Int → List (List Int) → Int → Int → Option (Bool)
 | 0, _, _, _, _, _, _, _, _ => none
 | k + 1, x0, x4, x7, x8, x9, x16, x17, x18 => if x18 < x17 then (if 0 ≤ x18 then (if x18 < (x16.length : Int) then ((impl_CrossPairs.f x4 (rd_L1 x16 x18)).bind fun t507 => (if t507 = true then (some false) else (impl_noCross.l1 k x0 x4 x7 x8 x9 x16 x17 (wrap64 (x18 + 1))))) else (none)) else (none)) else (impl_noCross.l0 k x0 x7 x8 (wrap64 (x9 + 1)))
end
def impl_noCross.f (k : Nat) (l0 : List (List Int)) : Option (Bool) := impl_noCross.l0 k l0 l0 (l0.length : Int) 0
theorem impl_noCross.mono_l : ∀ k, (∀ y0 y1 y2 y3, LeO (impl_noCross.l0 k y0 y1 y2 y3) (impl_noCross.l0 (k + 1) y0 y1 y2 y3)) ∧ (∀ y0 y1 y2 y3 y4 y5 y6 y7, LeO (impl_noCross.l1 k y0 y1 y2 y3 y4 y5 y6 y7) (impl_noCross.l1 (k + 1) y0 y1 y2 y3 y4 y5 y6 y7))
 | 0 => ⟨fun _ _ _ _ r h => by simp [impl_noCross.l0] at h, fun _ _ _ _ _ _ _ _ r h => by simp [impl_noCross.l1] at h⟩
 | k + 1 => by
  obtain ⟨ih0, ih1⟩ := impl_noCross.mono_l k
  refine ⟨?_, ?_⟩
  ·intro y0 y1 y2 y3
   unfold impl_noCross.l0
   repeat' first
   | (with_reducible exact ih0 ..)
   | (with_reducible exact ih1 ..)
   | (with_reducible first | exact lr_ _ | exact ln_ _ | refine li_ ?_ ?_ | refine lb_ ?_ fun _ => ?_)
   | exact ih0 ..
   | exact ih1 ..
   | exact ln_ _ | refine li_ ?_ ?_ | refine lb_ ?_ fun _ => ?_
  ·intro y0 y1 y2 y3 y4 y5 y6 y7
   unfold impl_noCross.l1
   repeat' first
   | (with_reducible exact ih0 ..)
   | (with_reducible exact ih1 ..)
   | (with_reducible first | exact lr_ _ | exact ln_ _ | refine li_ ?_ ?_ | refine lb_ ?_ fun _ => ?_)
   | exact ih0 ..
   | exact ih1 ..
   | exact ln_ _ | refine li_ ?_ ?_ | refine lb_ ?_ fun _ => ?_
theorem impl_noCross.mono : ∀ a0 k, LeO (impl_noCross.f k a0) (impl_noCross.f (k + 1) a0) := by
 intro a0 k
 obtain ⟨ih0, ih1⟩ := impl_noCross.mono_l k
 unfold impl_noCross.f
 repeat' first
   | (with_reducible exact ih0 ..)
   | (with_reducible exact ih1 ..)
   | (with_reducible first | exact lr_ _ | exact ln_ _ | refine li_ ?_ ?_ | refine lb_ ?_ fun _ => ?_)
   | exact ih0 ..
   | exact ih1 ..
   | exact ln_ _ | refine li_ ?_ ?_ | refine lb_ ?_ fun _ => ?_
set_option maxHeartbeats 8000000 in
set_option maxRecDepth 100000 in
theorem impl_noCross.calls (k : Nat) (A0 : Option Addr) (c0 : Nat) (l0 : List (List Int)) (r : Bool) (w : World) (hr0 : Kd.C (Kd.slice 3 (Kd.int .i64)) w A0 l0.length l0) (hc0 : l0.length ≤ c0) (h : impl_noCross.f k l0 = some r) :
  Calls Try.prog 40 #[.slice A0 l0.length c0] w fun e w' => e = .returned (.bool r) ∧ Below w.heap.size w w' := by
 have HR0 := Aside0.mk hr0
 have HC0 := Aside0.mk hc0
 clear hr0 hc0
 have HB := Aside0.mk (Below.refl w.heap.size w)
 have H : (impl_noCross.l0 k l0 l0 (l0.length : Int) 0) = some r := h
 clear h
 have H' := Aside0.mk H
 clear H
 go_enter Try.func40, Try.ntmps40
 go_wp2
 go_loopg [9] k (fun kq v9 w' => ∃ (x9_1 : Int), v9 = .int .i64 x9_1 ∧ Aside0 (impl_noCross.l0 kq l0 l0 (l0.length : Int) x9_1 = some r) ∧ Aside0 (kq ≤ k) ∧ Aside0 (Below w.heap.size w w'))
 case atStart => exact ⟨(0), (by first | rfl | (simp; done) | (simp [*]; done)), H', ⟨Nat.le_refl _⟩, ⟨hb0_ HB.out⟩⟩
 case round =>
  clear H'
  obtain ⟨x9_1, rfl, HA, HK1, HB⟩ := hrel
  cases gk with
  | zero => exact absurd HA.out (by simp [impl_noCross.l0])
  | succ k1 =>
   have H := HA.out
   clear HA
   simp only [impl_noCross.l0] at H
   by_cases c2 : x9_1 < (l0.length : Int)
   ·rw [if_pos c2] at H
    have c2b0 : decide (x9_1 < (l0.length : Int)) = true := decide_eq_true c2
    clear c2
    by_cases c3 : 0 ≤ x9_1
    ·rw [if_pos c3] at H
     have c3b0 : decide (0 ≤ x9_1) = true := decide_eq_true c3
     clear c3
     by_cases c4 : x9_1 < (l0.length : Int)
     ·rw [if_pos c4] at H
      have c4b0 : decide (x9_1 < (l0.length : Int)) = true := decide_eq_true c4
      clear c4
      have c5b0 := eq_true (of_decide_eq_true (as_) : 0 ≤ x9_1)
      by_cases c6 : x9_1 ≤ (l0.length : Int)
      ·rw [if_pos c6] at H
       have c6b0 := eq_true c6
       have c6b1 : decide (x9_1 ≤ (l0.length : Int)) = true := decide_eq_true c6
       clear c6
       obtain ⟨y502, hy502⟩ : ∃ y_ : List (List Int), y_ = (l0.take (x9_1 : Int).toNat) := ⟨_, rfl⟩
       replace H : (impl_noCross.l1 k1 l0 (rd_L1 l0 x9_1) l0 (l0.length : Int) x9_1 y502 (y502.length : Int) 0) = some r := by first | (rw [hy502]; with_reducible exact H) | (have H2_ := (Option.bind_some _ _).symm.trans H; rw [hy502]; with_reducible exact H2_) | (have H2_ := (Option.bind_some _ _).symm.trans H; with_reducible exact H2_) | with_reducible exact H | (rw [hy502]; exact H) | exact H
       have Ny502 := Aside0.mk hy502
       clear hy502
       have H' := Aside0.mk H
       clear H
       have p501 : 0 ≤ (x9_1 : Int) := of_decide_eq_true (as_)
       have q501 : x9_1 < (l0.length : Int) := of_decide_eq_true (as_)
       obtain ⟨ad501, A501_0, c501_0, e501, hx501_0, hl501_0, hi501_0⟩ := at_L1 HR0.out x9_1 p501 q501
       cases e501
       replace hx501_0 := (HB.out.cell (World.block_lt_of_cell? w _ hx501_0)).trans hx501_0
       have HR501_0 := Aside0.mk hi501_0
       have HC501_0 := Aside0.mk hl501_0
       clear hi501_0 hl501_0
       replace p501 := eq_true p501
       replace q501 := eq_true q501
       have q7 : (x9_1 : Int) ≤ ((l0.length : Int) : Int) := of_decide_eq_true (as_)
       obtain ⟨i07, hi07, _, hsz7, _⟩ := info_parts info22
       have hroom7 : l0.length ≤ c0 := HC0.out
       have hC7 : Kd.C (Kd.slice 3 (Kd.int .i64)) _ (some ad501) l0.length l0 := HR0.out
       have hcut7 := cut_to (P := Try.prog) 23 22 .i64 Try.underlying23 hi07 (some ad501) l0.length c0 x9_1 (of_decide_eq_true (as_)) q7 hroom7
       have hr7 := Kd.C_take (m := (x9_1 : Int).toNat) hC7 (by omega)
       have hy7 : y502.length = (x9_1 : Int).toNat := (by rw [Ny502.out, List.length_take]; omega)
       rw [← Ny502.out] at hr7
       rw [← hy7] at hcut7
       have HR505 := Aside0.mk hr7
       have HC505 := Aside0.mk (show y502.length ≤ c0 from by omega)
       clear hr7 hC7 hroom7 hi07 hsz7
       have KY7 := Aside0.mk hy7
       clear hy7
       replace q7 := eq_true q7
       go_wp2
       go_loopg [18] k1 (fun kq v18 w' => ∃ (x18_2 : Int), v18 = .int .i64 x18_2 ∧ Aside0 (impl_noCross.l1 kq l0 (rd_L1 l0 x9_1) l0 (l0.length : Int) x9_1 y502 (y502.length : Int) x18_2 = some r) ∧ Aside0 (kq ≤ k1) ∧ Aside0 (Below w.heap.size w w'))
       case atStart => exact ⟨(0), (by first | rfl | (simp; done) | (simp [*]; done)), H', ⟨Nat.le_refl _⟩, ⟨hb0_ HB.out⟩⟩
       case round =>
        clear H'
        try clear c2
        try clear c2b0
        try clear p2
        try clear c3
        try clear c3b0
        try clear c4
        try clear c4b0
        try clear c5
        try clear c5b0
        try clear p5
        try clear q5
        try clear hx5
        try clear c6
        try clear c6b0
        try clear c6b1
        try clear q7
        try clear hx501_0
        try clear p501
        try clear q501
        try clear q7
        obtain ⟨x18_2, rfl, HA, HK2, HB⟩ := hrel
        cases gk with
        | zero => exact absurd HA.out (by simp [impl_noCross.l1])
        | succ k2 =>
         have H := HA.out
         clear HA
         simp only [impl_noCross.l1] at H
         by_cases c8 : x18_2 < (y502.length : Int)
         ·rw [if_pos c8] at H
          have c8b0 : decide (x18_2 < (y502.length : Int)) = true := decide_eq_true c8
          clear c8
          by_cases c9 : 0 ≤ x18_2
          ·rw [if_pos c9] at H
           have c9b0 : decide (0 ≤ x18_2) = true := decide_eq_true c9
           clear c9
           by_cases c10 : x18_2 < (y502.length : Int)
           ·rw [if_pos c10] at H
            have c10b0 : decide (x18_2 < (y502.length : Int)) = true := decide_eq_true c10
            clear c10
            replace H := Option.bind_eq_some_iff.mp H
            obtain ⟨t507, A110, H⟩ := H
            replace H : (if t507 = true then (some false) else (impl_noCross.l1 k2 l0 (rd_L1 l0 x9_1) l0 (l0.length : Int) x9_1 y502 (y502.length : Int) (wrap64 (x18_2 + 1)))) = some r := H
            have A11 := Aside0.mk A110
            clear A110
            by_cases c12 : t507 = true
            ·subst c12
             have H1 : (some false) = some r := by rw [if_pos rfl] at H; exact H
             clear H
             have H := H1
             clear H1
             obtain rfl := Option.some.inj H
             have p506 : 0 ≤ (x18_2 : Int) := of_decide_eq_true (as_)
             have q506 : x18_2 < (y502.length : Int) := of_decide_eq_true (as_)
             obtain ⟨ad506, A506_0, c506_0, e506, hx506_0, hl506_0, hi506_0⟩ := at_L1 HR505.out x18_2 p506 q506
             obtain rfl : ad501 = ad506 := (by injection e506)
             replace hx506_0 := (HB.out.cell (World.block_lt_of_cell? w _ hx506_0)).trans hx506_0
             have HR506_0 := Aside0.mk hi506_0
             have HC506_0 := Aside0.mk hl506_0
             clear hi506_0 hl506_0
             replace p506 := eq_true p506
             replace q506 := eq_true q506
             go_wp2_with (first | (refine gl_ 24 Try.func52 #[.slice A501_0 (rd_L1 l0 x9_1).length c501_0, .slice A506_0 (rd_L1 y502 x18_2).length c506_0] ?_; (with_reducible refine (impl_CrossPairs.calls _ _ (rd_L1 l0 x9_1) _ _ (rd_L1 y502 x18_2) true _ ?side1 ?side2 ?side3 ?side4 A11.out).mono ?_); (case side1 => repeat (first | exact (Kd.C_below HR501_0.out HB.out) | (with_reducible refine Kd.C_alloc ?_ _) | (with_reducible refine Kd.C_drewN ?_ _) | (with_reducible refine Kd.C_drew ?_))); (case side2 => exact HC501_0.out); (case side3 => repeat (first | exact (Kd.C_below HR506_0.out HB.out) | (with_reducible refine Kd.C_alloc ?_ _) | (with_reducible refine Kd.C_drewN ?_ _) | (with_reducible refine Kd.C_drew ?_))); (case side4 => exact HC506_0.out); rintro e w13 ⟨rfl, hb⟩; refine ⟨_, rfl, ?_⟩; replace HB := HB.s0 hb; (try clear hb)))
             go_ret
             exact ⟨ex_, hb0_ HB.out⟩
            ·replace c12 := Bool.eq_false_iff.mpr c12
             subst c12
             have H1 : (impl_noCross.l1 k2 l0 (rd_L1 l0 x9_1) l0 (l0.length : Int) x9_1 y502 (y502.length : Int) (wrap64 (x18_2 + 1))) = some r := by rw [if_neg (show ¬ (false = true) by decide)] at H; exact H
             clear H
             have H := H1
             clear H1
             have H' := Aside0.mk H
             clear H
             have p506 : 0 ≤ (x18_2 : Int) := of_decide_eq_true (as_)
             have q506 : x18_2 < (y502.length : Int) := of_decide_eq_true (as_)
             obtain ⟨ad506, A506_0, c506_0, e506, hx506_0, hl506_0, hi506_0⟩ := at_L1 HR505.out x18_2 p506 q506
             obtain rfl : ad501 = ad506 := (by injection e506)
             replace hx506_0 := (HB.out.cell (World.block_lt_of_cell? w _ hx506_0)).trans hx506_0
             have HR506_0 := Aside0.mk hi506_0
             have HC506_0 := Aside0.mk hl506_0
             clear hi506_0 hl506_0
             replace p506 := eq_true p506
             replace q506 := eq_true q506
             go_wp2_with (first | (refine gl_ 24 Try.func52 #[.slice A501_0 (rd_L1 l0 x9_1).length c501_0, .slice A506_0 (rd_L1 y502 x18_2).length c506_0] ?_; (with_reducible refine (impl_CrossPairs.calls _ _ (rd_L1 l0 x9_1) _ _ (rd_L1 y502 x18_2) false _ ?side1 ?side2 ?side3 ?side4 A11.out).mono ?_); (case side1 => repeat (first | exact (Kd.C_below HR501_0.out HB.out) | (with_reducible refine Kd.C_alloc ?_ _) | (with_reducible refine Kd.C_drewN ?_ _) | (with_reducible refine Kd.C_drew ?_))); (case side2 => exact HC501_0.out); (case side3 => repeat (first | exact (Kd.C_below HR506_0.out HB.out) | (with_reducible refine Kd.C_alloc ?_ _) | (with_reducible refine Kd.C_drewN ?_ _) | (with_reducible refine Kd.C_drew ?_))); (case side4 => exact HC506_0.out); rintro e w14 ⟨rfl, hb⟩; refine ⟨_, rfl, ?_⟩; replace HB := HB.s0 hb; (try clear hb)))
             go_roundg k2
             case measure => have := HK1.out; have := HK2.out; omega
             case rel => exact ⟨(wrap64 (x18_2 + 1)), (by first | rfl | (simp; done) | (simp [*]; done)), H', ⟨by have := HK1.out; have := HK2.out; omega⟩, ⟨hb0_ HB.out⟩⟩
           ·rw [if_neg c10] at H
            exact absurd H (by simp)
          ·rw [if_neg c9] at H
           exact absurd H (by simp)
         ·rw [if_neg c8] at H
          have c8b0 : decide (x18_2 < (y502.length : Int)) = false := decide_eq_false c8
          clear c8
          have H' := Aside0.mk H
          clear H
          go_wp2
          go_roundg k2
          case measure => have := HK1.out; have := HK2.out; omega
          case rel => exact ⟨(wrap64 (x9_1 + 1)), (by first | rfl | (simp; done) | (simp [*]; done)), H', ⟨by have := HK1.out; have := HK2.out; omega⟩, ⟨hb0_ HB.out⟩⟩
      ·rw [if_neg c6] at H
       exact absurd H (by simp)
     ·rw [if_neg c4] at H
      exact absurd H (by simp)
    ·rw [if_neg c3] at H
     exact absurd H (by simp)
   ·rw [if_neg c2] at H
    have c2b0 : decide (x9_1 < (l0.length : Int)) = false := decide_eq_false c2
    clear c2
    obtain rfl := Option.some.inj H
    go_wp2
    go_ret
    exact ⟨ex_, hb0_ HB.out⟩

end Go.Proofs.Ytkkjlbpffcdlfaa.X
