-- Written by a program of this session (xprint.py), out of the translation and of hand-written contracts. Lean checks it.
import Derived.Test.YtjmbnlemfdjkfaaX0
import Derived.Test.YtjmbnlemfdjkfaaXcnbr
namespace Go.Proofs.Ytjmbnlemfdjkfaa.X
open Go.RowKit Go.Proofs.YtjmbnlemfdjkfaaW.PrintWords Go.Proofs.YtjmbnlemfdjkfaaW.PrintLast Go.Proofs.YtjmbnlemfdjkfaaW.PrintMore
attribute [local go_sem] max2_int min2_int max_two min_two max_three min_three max_four min_four   -- for this text's walks alone
set_option linter.unusedVariables false
set_option linter.unusedSimpArgs false

/-! ### spec_l14Direction: function 24 -/
def spec_l14Direction.l0 : Nat → Int → Int → Int → Int → Int → Option (Int)
 | 0, _, _, _, _, _ => none
 | k + 1, x1, x2, x7, x502000, x502001 => if x7 ≤ 3 then ((spec_Neighbor.f k x502000 x502001 x1 x7).bind fun t502 => (if t502 = x2 then (some x7) else (spec_l14Direction.l0 k x1 x2 (wrap64 (x7 + 1)) x502000 x502001))) else (some (-1))
def spec_l14Direction.f (k : Nat) (a0_0 : Int) (a0_1 : Int) (a1 : Int) (a2 : Int) : Option (Int) := spec_l14Direction.l0 k a1 a2 0 a0_0 a0_1
theorem spec_l14Direction.mono_l : ∀ k, (∀ y0 y1 y2 y3 y4, LeO (spec_l14Direction.l0 k y0 y1 y2 y3 y4) (spec_l14Direction.l0 (k + 1) y0 y1 y2 y3 y4))
 | 0 => fun _ _ _ _ _ r h => by simp [spec_l14Direction.l0] at h
 | k + 1 => by
  have ih0 := spec_l14Direction.mono_l k
  ·intro y0 y1 y2 y3 y4
   unfold spec_l14Direction.l0
   repeat' first
   | (with_reducible exact ih0 ..)
   | (with_reducible exact spec_Neighbor.mono ..)
   | (with_reducible first | exact lr_ _ | exact ln_ _ | refine li_ ?_ ?_ | refine lb_ ?_ fun _ => ?_)
   | exact ih0 ..
   | exact spec_Neighbor.mono ..
   | exact ln_ _ | refine li_ ?_ ?_ | refine lb_ ?_ fun _ => ?_
theorem spec_l14Direction.mono : ∀ a0 a1 a2 a3 k, LeO (spec_l14Direction.f k a0 a1 a2 a3) (spec_l14Direction.f (k + 1) a0 a1 a2 a3) := by
 intro a0 a1 a2 a3 k
 have ih0 := spec_l14Direction.mono_l k
 unfold spec_l14Direction.f
 repeat' first
   | (with_reducible exact ih0 ..)
   | (with_reducible exact spec_Neighbor.mono ..)
   | (with_reducible first | exact lr_ _ | exact ln_ _ | refine li_ ?_ ?_ | refine lb_ ?_ fun _ => ?_)
   | exact ih0 ..
   | exact spec_Neighbor.mono ..
   | exact ln_ _ | refine li_ ?_ ?_ | refine lb_ ?_ fun _ => ?_
set_option maxHeartbeats 8000000 in
set_option maxRecDepth 100000 in
theorem spec_l14Direction.calls (k : Nat) (a0_0 : Int) (a0_1 : Int) (a1 : Int) (a2 : Int) (r : Int) (w : World) (h : spec_l14Direction.f k a0_0 a0_1 a1 a2 = some r) :
  Calls Try.prog 24 #[.agg #[.int .i64 a0_0, .int .i64 a0_1], .int .i64 a1, .int .i64 a2] w fun e w' => e = .returned (.int .i64 r) ∧ Below w.heap.size w w' := by
 have hu26 := Try.underlying26
 have HB := Aside0.mk (Below.refl w.heap.size w)
 have H : (spec_l14Direction.l0 k a1 a2 0 a0_0 a0_1) = some r := h
 clear h
 have H' := Aside0.mk H
 clear H
 go_enter Try.func24, Try.ntmps24
 go_wp2_with (first | (refine box_ (N := 3) (cs := #[.int .i64 a0_0, .int .i64 a0_1]) (t := 26) ?_; intro gb501 hg w4 hbox hb; have BK501 := Aside0.mk (hbox); have GW501 := HB.g0 hg; have GE501 := HB.g0 hg; replace HB := HB.s0 hb; clear hb hbox hg))
 go_loopg [7] k (fun kq v7 w' => ∃ (x7_1 : Int), v7 = .int .i64 x7_1 ∧ Aside0 (spec_l14Direction.l0 kq a1 a2 x7_1 a0_0 a0_1 = some r) ∧ Aside0 (kq ≤ k) ∧ Aside0 (w'.heap[gb501]? = some (.cells #[.int .i64 a0_0, .int .i64 a0_1] 26 (0, 0))) ∧ Aside0 (Below w.heap.size w w'))
 case atStart => exact ⟨(0), (by first | rfl | (simp; done) | (simp [*]; done)), H', ⟨Nat.le_refl _⟩, ⟨bk_ BK501.out⟩, ⟨hb1_ HB.out GE501.out⟩⟩
 case round =>
  clear H'
  try clear c2
  try clear p2
  obtain ⟨x7_1, rfl, HA, HK1, BK501, HB⟩ := hrel
  cases gk with
  | zero => exact absurd HA.out (by simp [spec_l14Direction.l0])
  | succ k1 =>
   have H := HA.out
   clear HA
   simp only [spec_l14Direction.l0] at H
   by_cases c5 : x7_1 ≤ 3
   ·rw [if_pos c5] at H
    have c5b0 : decide (x7_1 ≤ 3) = true := decide_eq_true c5
    clear c5
    replace H := Option.bind_eq_some_iff.mp H
    obtain ⟨t502, A60, H⟩ := H
    replace H : (if t502 = a2 then (some x7_1) else (spec_l14Direction.l0 k1 a1 a2 (wrap64 (x7_1 + 1)) a0_0 a0_1)) = some r := H
    have A6 := Aside0.mk A60
    clear A60
    by_cases c7 : t502 = a2
    ·rw [if_pos c7] at H
     have c7b0 : (t502 == a2) = true := beq_iff_eq.mpr c7
     have c7b1 : (t502 != a2) = false := bne_eq_false_iff_eq.mpr c7
     clear c7
     obtain rfl := Option.some.inj H
     obtain ⟨hcz8_0, hcz8_1⟩ := cz2_ BK501.out
     obtain ⟨hfz8_0, hfz8_1⟩ := fz2_ BK501.out
     go_wp2_with (first | (refine gl_ 15 Try.func45 #[.agg #[.int .i64 a0_0, .int .i64 a0_1], .int .i64 a1, .int .i64 x7_1] ?_; (with_reducible refine (spec_Neighbor.calls k1 a0_0 a0_1 a1 x7_1 t502 _ A6.out).mono ?_); rintro e w9 ⟨rfl, hb⟩; refine ⟨_, rfl, ?_⟩; replace BK501 := BK501.bb hb; replace HB := HB.s1 GE501 hb; (try clear hb)))
     go_ret
     exact ⟨ex_, hb1_ HB.out GE501.out⟩
    ·rw [if_neg c7] at H
     have c7b0 : (t502 == a2) = false := beq_eq_false_iff_ne.mpr c7
     have c7b1 : (t502 != a2) = true := bne_iff_ne.mpr c7
     have H' := Aside0.mk H
     clear H
     obtain ⟨hcz10_0, hcz10_1⟩ := cz2_ BK501.out
     obtain ⟨hfz10_0, hfz10_1⟩ := fz2_ BK501.out
     go_wp2_with (first | (refine gl_ 15 Try.func45 #[.agg #[.int .i64 a0_0, .int .i64 a0_1], .int .i64 a1, .int .i64 x7_1] ?_; (with_reducible refine (spec_Neighbor.calls k1 a0_0 a0_1 a1 x7_1 t502 _ A6.out).mono ?_); rintro e w11 ⟨rfl, hb⟩; refine ⟨_, rfl, ?_⟩; replace BK501 := BK501.bb hb; replace HB := HB.s1 GE501 hb; (try clear hb)))
     go_roundg k1
     case measure => have := HK1.out; omega
     case rel => exact ⟨(wrap64 (x7_1 + 1)), (by first | rfl | (simp; done) | (simp [*]; done)), H', ⟨by have := HK1.out; omega⟩, ⟨bk_ BK501.out⟩, ⟨hb1_ HB.out GE501.out⟩⟩
   ·rw [if_neg c5] at H
    have c5b0 : decide (x7_1 ≤ 3) = false := decide_eq_false c5
    clear c5
    obtain rfl := Option.some.inj H
    go_wp2
    go_ret
    exact ⟨ex_, hb1_ HB.out GE501.out⟩

end Go.Proofs.Ytjmbnlemfdjkfaa.X
