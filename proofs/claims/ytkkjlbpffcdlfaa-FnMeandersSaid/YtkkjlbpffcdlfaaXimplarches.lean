-- Written by a program of this session (xprint.py), out of the translation and of hand-written contracts. Lean checks it.
import Derived.Test.YtkkjlbpffcdlfaaX0
namespace Go.Proofs.Ytkkjlbpffcdlfaa.X
open Go.RowKit Go.Proofs.YtkkjlbpffcdlfaaW.PrintWords Go.Proofs.YtkkjlbpffcdlfaaW.PrintLast Go.Proofs.YtkkjlbpffcdlfaaW.PrintMore
attribute [local go_sem] max2_int min2_int max_two min_two max_three min_three max_four min_four   -- for this text's walks alone
set_option linter.unusedVariables false
set_option linter.unusedSimpArgs false

/-! ### impl_arches: function 32 -/
mutual
def impl_arches.l0 : Nat → Int → Int → List (List Int) → Int → Option ((List (List Int)))
 | 0, _, _, _, _ => none
 | k + 1, x0, x1, x5, x6 => if x6 < x0 then ((impl_arches.f k (wrap64 (x6 - 1)) (wrap64 (x1 + 1))).bind fun t504 => (impl_arches.l1 k x0 x1 x5 x6 t504 (t504.length : Int) 0)) else (some x5)
def impl_arches.l1 : Nat → Int → Int → List (List Int) → Int → List (List Int) → Int → Int → Option ((List (List Int)))
 | 0, _, _, _, _, _, _, _ => none
 | k + 1, x0, x1, x5, x6, x24, x25, x26 => if x26 < x25 then (if 0 ≤ x26 then (if x26 < (x24.length : Int) then ((impl_arches.f k (wrap64 ((wrap64 (x0 - x6)) - 1)) (wrap64 ((wrap64 (x1 + x6)) + 1))).bind fun t508 => (impl_arches.l2 k x0 x1 x5 x6 (rd_L1 x24 x26) x24 x25 x26 t508 (t508.length : Int) 0)) else (none)) else (none)) else (impl_arches.l0 k x0 x1 x5 (wrap64 (x6 + 2)))
def impl_arches.l2 : Nat → Int → Int → List (List Int) → Int → List Int → List (List Int) → Int → Int → List (List Int) → Int → Int → Option ((List (List Int)))
 | 0, _, _, _, _, _, _, _, _, _, _, _ => none
 | k + 1, x0, x1, x5, x6, x8, x24, x25, x26, x38, x39, x40 => if x40 < x39 then (if 0 ≤ x40 then (if x40 < (x38.length : Int) then ((some (([wrap64 (x1 + x6)] : List Int) : List Int)).bind fun y512 => (if y512.length + x8.length < 17592186044416 then ((some (y512 ++ x8 : List Int)).bind fun y515 => (if y515.length < 17592186044416 then ((some (y515 ++ [x1] : List Int)).bind fun y518 => (if y518.length + (rd_L1 x38 x40).length < 17592186044416 then (if x5.length < 5864062014805 then (impl_arches.l2 k x0 x1 (x5 ++ [(y518 ++ (rd_L1 x38 x40))]) x6 x8 x24 x25 x26 x38 x39 (wrap64 (x40 + 1))) else (none)) else (none))) else (none))) else (none))) else (none)) else (none)) else (impl_arches.l1 k x0 x1 x5 x6 x24 x25 (wrap64 (x26 + 1)))
def impl_arches.f : Nat → Int → Int → Option ((List (List Int)))
 | 0, _, _ => none
 | k + 1, a0, a1 => if a0 = 0 then (some (([[]] : List (List Int)))) else (impl_arches.l0 k a0 a1 ([] : List (List Int)) 1)
end
theorem impl_arches.mono_l : ∀ k, (∀ y0 y1, LeO (impl_arches.f k y0 y1) (impl_arches.f (k + 1) y0 y1)) ∧ (∀ y0 y1 y2 y3, LeO (impl_arches.l0 k y0 y1 y2 y3) (impl_arches.l0 (k + 1) y0 y1 y2 y3)) ∧ (∀ y0 y1 y2 y3 y4 y5 y6, LeO (impl_arches.l1 k y0 y1 y2 y3 y4 y5 y6) (impl_arches.l1 (k + 1) y0 y1 y2 y3 y4 y5 y6)) ∧ (∀ y0 y1 y2 y3 y4 y5 y6 y7 y8 y9 y10, LeO (impl_arches.l2 k y0 y1 y2 y3 y4 y5 y6 y7 y8 y9 y10) (impl_arches.l2 (k + 1) y0 y1 y2 y3 y4 y5 y6 y7 y8 y9 y10))
 | 0 => ⟨fun _ _ r h => by simp [impl_arches.f] at h, fun _ _ _ _ r h => by simp [impl_arches.l0] at h, fun _ _ _ _ _ _ _ r h => by simp [impl_arches.l1] at h, fun _ _ _ _ _ _ _ _ _ _ _ r h => by simp [impl_arches.l2] at h⟩
 | k + 1 => by
  obtain ⟨ih0, ih1, ih2, ih3⟩ := impl_arches.mono_l k
  refine ⟨?_, ?_, ?_, ?_⟩
  ·intro y0 y1
   unfold impl_arches.f
   repeat' first
   | (with_reducible exact ih0 ..)
   | (with_reducible exact ih1 ..)
   | (with_reducible exact ih2 ..)
   | (with_reducible exact ih3 ..)
   | (with_reducible first | exact lr_ _ | exact ln_ _ | refine li_ ?_ ?_ | refine lb_ ?_ fun _ => ?_)
   | exact ih0 ..
   | exact ih1 ..
   | exact ih2 ..
   | exact ih3 ..
   | exact ln_ _ | refine li_ ?_ ?_ | refine lb_ ?_ fun _ => ?_
  ·intro y0 y1 y2 y3
   unfold impl_arches.l0
   repeat' first
   | (with_reducible exact ih0 ..)
   | (with_reducible exact ih1 ..)
   | (with_reducible exact ih2 ..)
   | (with_reducible exact ih3 ..)
   | (with_reducible first | exact lr_ _ | exact ln_ _ | refine li_ ?_ ?_ | refine lb_ ?_ fun _ => ?_)
   | exact ih0 ..
   | exact ih1 ..
   | exact ih2 ..
   | exact ih3 ..
   | exact ln_ _ | refine li_ ?_ ?_ | refine lb_ ?_ fun _ => ?_
  ·intro y0 y1 y2 y3 y4 y5 y6
   unfold impl_arches.l1
   repeat' first
   | (with_reducible exact ih0 ..)
   | (with_reducible exact ih1 ..)
   | (with_reducible exact ih2 ..)
   | (with_reducible exact ih3 ..)
   | (with_reducible first | exact lr_ _ | exact ln_ _ | refine li_ ?_ ?_ | refine lb_ ?_ fun _ => ?_)
   | exact ih0 ..
   | exact ih1 ..
   | exact ih2 ..
   | exact ih3 ..
   | exact ln_ _ | refine li_ ?_ ?_ | refine lb_ ?_ fun _ => ?_
  ·intro y0 y1 y2 y3 y4 y5 y6 y7 y8 y9 y10
   unfold impl_arches.l2
   repeat' first
   | (with_reducible exact ih0 ..)
   | (with_reducible exact ih1 ..)
   | (with_reducible exact ih2 ..)
   | (with_reducible exact ih3 ..)
   | (with_reducible first | exact lr_ _ | exact ln_ _ | refine li_ ?_ ?_ | refine lb_ ?_ fun _ => ?_)
   | exact ih0 ..
   | exact ih1 ..
   | exact ih2 ..
   | exact ih3 ..
   | exact ln_ _ | refine li_ ?_ ?_ | refine lb_ ?_ fun _ => ?_
theorem impl_arches.mono : ∀ a0 a1 k, LeO (impl_arches.f k a0 a1) (impl_arches.f (k + 1) a0 a1) := by
 intro a0 a1 k
 obtain ⟨ih0, ih1, ih2, ih3⟩ := impl_arches.mono_l k
 exact ih0 a0 a1
set_option maxHeartbeats 8000000 in
set_option maxRecDepth 100000 in
theorem impl_arches.calls (k : Nat) : ∀ (a0 : Int) (a1 : Int) (r : List (List Int)) (w : World) (h : impl_arches.f k a0 a1 = some r),
  Calls Try.prog 32 #[.int .i64 a0, .int .i64 a1] w fun e w' => ∃ v0_ : Value, e = .returned (v0_) ∧ Kd.S (Kd.slice 3 (Kd.int .i64)) 22 w' w.heap.size (fun _ => True) v0_ r ∧ Below w.heap.size w w' := by
 induction k using Nat.strongRecOn with
 | _ k ih =>
 intro a0 a1 r w h
 cases k with
 | zero => exact absurd h (by simp [impl_arches.f])
 | succ k =>
 simp only [impl_arches.f] at h
 have HB := Aside0.mk (Below.refl w.heap.size w)
 have H : (if a0 = 0 then (some (([[]] : List (List Int)))) else (impl_arches.l0 k a0 a1 ([] : List (List Int)) 1)) = some r := h
 clear h
 by_cases c3 : a0 = 0
 ·rw [if_pos c3] at H
  have c3b0 : (a0 == 0) = true := beq_iff_eq.mpr c3
  have c3b1 : (a0 != 0) = false := bne_eq_false_iff_eq.mpr c3
  clear c3
  obtain ⟨y501, hy501⟩ : ∃ y_ : List (List Int), y_ = (([[]] : List (List Int))) := ⟨_, rfl⟩
  replace H : (some y501) = some r := by first | (rw [hy501]; with_reducible exact H) | (have H2_ := (Option.bind_some _ _).symm.trans H; rw [hy501]; with_reducible exact H2_) | (have H2_ := (Option.bind_some _ _).symm.trans H; with_reducible exact H2_) | with_reducible exact H | (rw [hy501]; exact H) | exact H
  have Ny501 := Aside0.mk hy501
  clear hy501
  obtain rfl := Option.some.inj H
  go_enter Try.func32, Try.ntmps32
  go_wp2_with (first | ((with_reducible refine gate_dst (N := 14) rfl ?_); refine Kd.S_lit (Kd.slice 3 (Kd.int .i64)) _ 22 ?hg (N := 14) ?hd (xs := ([[]] : List (List Int))) (inner := [.slice none 0 0]) (ok := fun _ => True) (okp := fun _ => True) ?hr ?hp (fun _ hk => hk) trivial (Below.refl _ _) (Nat.le_refl _) (by simp) ?_; (case hd => rfl); (case hg => rfl); (case hr => first | (go_simp; done) | (go_simp; rfl)); (case hp => exact (Reps.one (show Kd.M (Kd.slice 3 (Kd.int .i64)) _ _ _ [] [.slice none 0 0] from ⟨_, rfl, Kd.R_nil _ _ _ _ _⟩) (Reps.none _ _))); intro v502 w4 ho5 hb hg_ hnew_; clear hg_ hnew_; (first | rw [← Ny501.out] at ho5 | (simp only [Int.reduceToNat] at ho5; rw [← Ny501.out] at ho5)); have HO503 := Aside0.mk (Kd.S_lower ho5 (below_size (hb0_ HB.out))); replace HB := HB.s0 hb; clear hb ho5))
  go_ret
  exact ⟨_, ex_, by (with_reducible repeat (first | apply Kd.S_alloc | apply Kd.S_drewN | apply Kd.S_drew)); exact HO503.out, hb0_ HB.out⟩
 ·rw [if_neg c3] at H
  have c3b0 : (a0 == 0) = false := beq_eq_false_iff_ne.mpr c3
  have c3b1 : (a0 != 0) = true := bne_iff_ne.mpr c3
  have H' := Aside0.mk H
  clear H
  go_enter Try.func32, Try.ntmps32
  go_wp2
  go_loopg [5, 6] k (fun kq v5 v6 w' => ∃ (x5_1 : List (List Int)) (x6_1 : Int), v6 = .int .i64 x6_1 ∧ Aside0 (impl_arches.l0 kq a0 a1 x5_1 x6_1 = some r) ∧ Aside0 (kq ≤ k) ∧ Aside0 (Kd.S (Kd.slice 3 (Kd.int .i64)) 22 w' w.heap.size (fun _ => True) v5 x5_1) ∧ Aside0 (Below w.heap.size w w'))
  case atStart => exact ⟨(([] : List (List Int))), (1), (by first | rfl | (simp; done) | (simp [*]; done)), H', ⟨Nat.le_refl _⟩, ⟨by first | exact Kd.S_nil _ _ _ _ _ | exact Kd.N_nil _ _ _ _ _ | exact Kd.V_nil _ _ _ _ _ | exact Kd.Q_nil _ _ _ _ _ | exact Kd.R_nil _ _ _ _ _⟩, ⟨hb0_ HB.out⟩⟩
  case round =>
   clear H'
   try clear p2
   try clear c3
   try clear c3b0
   try clear c3b1
   obtain ⟨x5_1, x6_1, rfl, HA, HK1, HO_5, HB⟩ := hrel
   cases gk with
   | zero => exact absurd HA.out (by simp [impl_arches.l0])
   | succ k1 =>
    have H := HA.out
    clear HA
    simp only [impl_arches.l0] at H
    by_cases c6 : x6_1 < a0
    ·rw [if_pos c6] at H
     have c6b0 : decide (x6_1 < a0) = true := decide_eq_true c6
     clear c6
     replace H := Option.bind_eq_some_iff.mp H
     obtain ⟨t504, A70, H⟩ := H
     replace H : (impl_arches.l1 k1 a0 a1 x5_1 x6_1 t504 (t504.length : Int) 0) = some r := H
     have A7 := Aside0.mk A70
     clear A70
     have H' := Aside0.mk H
     clear H
     go_wp2_with (first | (refine gl_ 24 Try.func32 #[.int .i64 (wrap64 (x6_1 - 1)), .int .i64 (wrap64 (a1 + 1))] ?_; (with_reducible refine (ih k1 (by have := HK1.out; omega) (wrap64 (x6_1 - 1)) (wrap64 (a1 + 1)) t504 _ A7.out).mono ?_); rintro e w8 ⟨v505, rfl, ho0, hb⟩; refine ⟨_, rfl, ?_⟩; have n0_ := Aside0.mk (Kd.S_elder' (by (with_reducible repeat (first | apply Kd.S_alloc | apply Kd.S_drewN | apply Kd.S_drew)); exact HO_5.out) (Kd.S_base ho0) hb); have n1_ := Aside0.mk (Kd.S_lower (Kd.S_new' ho0 (Kd.S_lt (by (with_reducible repeat (first | apply Kd.S_alloc | apply Kd.S_drewN | apply Kd.S_drew)); exact HO_5.out))) (below_size (hb0_ HB.out))); have n2_ := HB.s0 hb; clear HO_5; clear HB; have HO_5 := n0_; have HO506 := n1_; have HB := n2_; clear n0_ n1_ n2_; (try clear hb); (try clear ho0); obtain ⟨Ao9, co9, eo9⟩ := Kd.S_slice HO506.out; subst eo9))
     go_loopg [5, 26] k1 (fun kq v5 v26 w' => ∃ (x5_2 : List (List Int)) (x26_2 : Int), v26 = .int .i64 x26_2 ∧ Aside0 (impl_arches.l1 kq a0 a1 x5_2 x6_1 t504 (t504.length : Int) x26_2 = some r) ∧ Aside0 (kq ≤ k1) ∧ Aside0 (Kd.S (Kd.slice 3 (Kd.int .i64)) 22 w' w.heap.size (fun k_ => some k_ ≠ ((.slice Ao9 t504.length co9) : Value).ownBlock) v5 x5_2) ∧ Aside0 (Kd.S (Kd.slice 3 (Kd.int .i64)) 22 w' w.heap.size (fun k_ => some k_ ≠ (v5 : Value).ownBlock) (.slice Ao9 t504.length co9) t504) ∧ Aside0 (Below w.heap.size w w'))
     case atStart => exact ⟨(x5_1), (0), (by first | rfl | (simp; done) | (simp [*]; done)), H', ⟨Nat.le_refl _⟩, ⟨by (with_reducible repeat (first | apply Kd.S_alloc | apply Kd.S_drewN | apply Kd.S_drew)); exact Kd.S_mono HO_5.out (fun _ hk => hk.2)⟩, ⟨by (with_reducible repeat (first | apply Kd.S_alloc | apply Kd.S_drewN | apply Kd.S_drew)); exact Kd.S_mono HO506.out (fun _ hk => hk.2)⟩, ⟨hb0_ HB.out⟩⟩
     case round =>
      clear H'
      try clear p2
      try clear c3
      try clear c3b0
      try clear c3b1
      try clear c6
      try clear c6b0
      try clear p6
      try clear p2
      obtain ⟨x5_2, x26_2, rfl, HA, HK2, HO_5, HO_24, HB⟩ := hrel
      cases gk with
      | zero => exact absurd HA.out (by simp [impl_arches.l1])
      | succ k2 =>
       have H := HA.out
       clear HA
       simp only [impl_arches.l1] at H
       by_cases c10 : x26_2 < (t504.length : Int)
       ·rw [if_pos c10] at H
        have c10b0 : decide (x26_2 < (t504.length : Int)) = true := decide_eq_true c10
        clear c10
        by_cases c11 : 0 ≤ x26_2
        ·rw [if_pos c11] at H
         have c11b0 : decide (0 ≤ x26_2) = true := decide_eq_true c11
         clear c11
         by_cases c12 : x26_2 < (t504.length : Int)
         ·rw [if_pos c12] at H
          have c12b0 : decide (x26_2 < (t504.length : Int)) = true := decide_eq_true c12
          clear c12
          replace H := Option.bind_eq_some_iff.mp H
          obtain ⟨t508, A130, H⟩ := H
          replace H : (impl_arches.l2 k2 a0 a1 x5_2 x6_1 (rd_L1 t504 x26_2) t504 (t504.length : Int) x26_2 t508 (t508.length : Int) 0) = some r := H
          have A13 := Aside0.mk A130
          clear A130
          have H' := Aside0.mk H
          clear H
          have p507 : 0 ≤ (x26_2 : Int) := of_decide_eq_true (as_)
          have q507 : x26_2 < (t504.length : Int) := of_decide_eq_true (as_)
          obtain ⟨ad507, A507_0, c507_0, e507, hx507_0, hl507_0, hi507_0⟩ := at_L1 (Kd.S_reads' HO_24.out).2.2 x26_2 p507 q507
          cases e507
          obtain ⟨ce507, hce507, hMe507, hcc507⟩ := Kd.S_get HO_24.out [] x26_2 p507 (by first | exact q507 | exact of_decide_eq_true (as_) | (have e_ := (Kd.S_reads' HO_24.out).1; omega))
          obtain ⟨ve507_0, rfl, ge507_0⟩ := hMe507
          have hv507_0 := hcc507 0 _ rfl
          rw [Nat.add_zero, show ((Kd.slice 3 (Kd.int .i64))).sz = 1 from rfl, Nat.mul_one] at hv507_0
          replace hv507_0 := Option.some.inj (hv507_0.symm.trans hx507_0)
          rw [hv507_0] at ge507_0
          have HL507_0 := Aside0.mk (show Kd.R (Kd.int .i64) 3 _ _ _ _ (rd_L1 t504 x26_2) from ge507_0)
          clear hv507_0 ge507_0
          clear hcc507 hce507
          have HR507_0 := Aside0.mk hi507_0
          have HC507_0 := Aside0.mk hl507_0
          clear hi507_0 hl507_0
          replace p507 := eq_true p507
          replace q507 := eq_true q507
          go_wp2_with (first | (refine gl_ 38 Try.func32 #[.int .i64 (wrap64 ((wrap64 (a0 - x6_1)) - 1)), .int .i64 (wrap64 ((wrap64 (a1 + x6_1)) + 1))] ?_; (with_reducible refine (ih k2 (by have := HK1.out; have := HK2.out; omega) (wrap64 ((wrap64 (a0 - x6_1)) - 1)) (wrap64 ((wrap64 (a1 + x6_1)) + 1)) t508 _ A13.out).mono ?_); rintro e w14 ⟨v509, rfl, ho0, hb⟩; refine ⟨_, rfl, ?_⟩; have n0_ := Aside0.mk (Kd.S_elder' (by (with_reducible repeat (first | apply Kd.S_alloc | apply Kd.S_drewN | apply Kd.S_drew)); exact HO_5.out) (Kd.S_base ho0) hb); have n1_ := Aside0.mk (Kd.S_elder' (by (with_reducible repeat (first | apply Kd.S_alloc | apply Kd.S_drewN | apply Kd.S_drew)); exact HO_24.out) (Kd.S_base ho0) hb); have n2_ := HL507_0.kb hb; have n3_ := Aside0.mk (Kd.S_lower (Kd.S_new' (Kd.S_new' (Kd.S_new' ho0 (Kd.S_lt (by (with_reducible repeat (first | apply Kd.S_alloc | apply Kd.S_drewN | apply Kd.S_drew)); exact HO_5.out))) (Kd.S_lt (by (with_reducible repeat (first | apply Kd.S_alloc | apply Kd.S_drewN | apply Kd.S_drew)); exact HO_24.out))) (Kd.R_lt (kr_ HL507_0.out))) (below_size (hb0_ HB.out))); have n4_ := Aside0.mk (Kd.C_below (by repeat (first | (with_reducible exact HR507_0.out) | (with_reducible refine Kd.C_alloc ?_ _) | (with_reducible refine Kd.C_drewN ?_ _) | (with_reducible refine Kd.C_drew ?_) | exact HR507_0.out)) hb); have n5_ := HB.s0 hb; clear HO_5; clear HO_24; clear HL507_0; clear HR507_0; clear HB; have HO_5 := n0_; have HO_24 := n1_; have HL507_0 := n2_; have HO510 := n3_; have HR507_0 := n4_; have HB := n5_; clear n0_ n1_ n2_ n3_ n4_ n5_; obtain ⟨Ao15, co15, eo15⟩ := Kd.S_slice HO510.out; subst eo15))
          go_loopg [5, 40] k2 (fun kq v5 v40 w' => ∃ (x5_3 : List (List Int)) (x40_3 : Int), v40 = .int .i64 x40_3 ∧ Aside0 (impl_arches.l2 kq a0 a1 x5_3 x6_1 (rd_L1 t504 x26_2) t504 (t504.length : Int) x26_2 t508 (t508.length : Int) x40_3 = some r) ∧ Aside0 (kq ≤ k2) ∧ Aside0 (Kd.S (Kd.slice 3 (Kd.int .i64)) 22 w' w.heap.size (fun k_ => some k_ ≠ ((.slice (some ad507) t504.length co9) : Value).ownBlock ∧ some k_ ≠ ((.slice Ao15 t508.length co15) : Value).ownBlock) v5 x5_3) ∧ Aside0 (Kd.S (Kd.slice 3 (Kd.int .i64)) 22 w' w.heap.size (fun k_ => some k_ ≠ (v5 : Value).ownBlock ∧ some k_ ≠ ((.slice Ao15 t508.length co15) : Value).ownBlock) (.slice (some ad507) t504.length co9) t504) ∧ Aside0 (Kd.S (Kd.slice 3 (Kd.int .i64)) 22 w' w.heap.size (fun k_ => some k_ ≠ (v5 : Value).ownBlock ∧ some k_ ≠ ((.slice (some ad507) t504.length co9) : Value).ownBlock) (.slice Ao15 t508.length co15) t508) ∧ Aside0 (Kd.R (Kd.int .i64) 3 w' w.heap.size (fun _ => True) (.slice A507_0 (rd_L1 t504 x26_2).length c507_0) (rd_L1 t504 x26_2)) ∧ Aside0 (Below w.heap.size w w'))
          case atStart => exact ⟨(x5_2), (0), (by first | rfl | (simp; done) | (simp [*]; done)), H', ⟨Nat.le_refl _⟩, ⟨by (with_reducible repeat (first | apply Kd.S_alloc | apply Kd.S_drewN | apply Kd.S_drew)); exact HO_5.out⟩, ⟨by (with_reducible repeat (first | apply Kd.S_alloc | apply Kd.S_drewN | apply Kd.S_drew)); exact HO_24.out⟩, ⟨by (with_reducible repeat (first | apply Kd.S_alloc | apply Kd.S_drewN | apply Kd.S_drew)); exact Kd.S_mono HO510.out (fun _ hk => ⟨hk.1.1.2, hk.1.2⟩)⟩, ⟨Kd.R_mono HL507_0.out (fun _ _ => trivial)⟩, ⟨hb0_ HB.out⟩⟩
          case round =>
           clear H'
           try clear c1
           try clear p2
           try clear c3
           try clear c3b0
           try clear c3b1
           try clear c5
           try clear p5
           try clear q5
           try clear hx5
           try clear c6
           try clear c6b0
           try clear p6
           try clear c10
           try clear c10b0
           try clear c11
           try clear c11b0
           try clear c12
           try clear c12b0
           try clear hx507_0
           try clear p2
           try clear p507
           try clear p6
           try clear q507
           obtain ⟨x5_3, x40_3, rfl, HA, HK3, HO_5, HO_24, HO_38, HI_, HB⟩ := hrel
           cases gk with
           | zero => exact absurd HA.out (by simp [impl_arches.l2])
           | succ k3 =>
            have H := HA.out
            clear HA
            simp only [impl_arches.l2] at H
            by_cases c16 : x40_3 < (t508.length : Int)
            ·rw [if_pos c16] at H
             have c16b0 : decide (x40_3 < (t508.length : Int)) = true := decide_eq_true c16
             clear c16
             by_cases c17 : 0 ≤ x40_3
             ·rw [if_pos c17] at H
              have c17b0 : decide (0 ≤ x40_3) = true := decide_eq_true c17
              clear c17
              by_cases c18 : x40_3 < (t508.length : Int)
              ·rw [if_pos c18] at H
               have c18b0 : decide (x40_3 < (t508.length : Int)) = true := decide_eq_true c18
               clear c18
               obtain ⟨y512, hy512⟩ : ∃ y_ : List Int, y_ = (([wrap64 (a1 + x6_1)] : List Int)) := ⟨_, rfl⟩
               replace H : (if y512.length + (rd_L1 t504 x26_2).length < 17592186044416 then ((some (y512 ++ (rd_L1 t504 x26_2) : List Int)).bind fun y515 => (if y515.length < 17592186044416 then ((some (y515 ++ [a1] : List Int)).bind fun y518 => (if y518.length + (rd_L1 t508 x40_3).length < 17592186044416 then (if x5_3.length < 5864062014805 then (impl_arches.l2 k3 a0 a1 (x5_3 ++ [(y518 ++ (rd_L1 t508 x40_3))]) x6_1 (rd_L1 t504 x26_2) t504 (t504.length : Int) x26_2 t508 (t508.length : Int) (wrap64 (x40_3 + 1))) else (none)) else (none))) else (none))) else (none)) = some r := by first | (rw [hy512]; with_reducible exact H) | (have H2_ := (Option.bind_some _ _).symm.trans H; rw [hy512]; with_reducible exact H2_) | (have H2_ := (Option.bind_some _ _).symm.trans H; with_reducible exact H2_) | with_reducible exact H | (rw [hy512]; exact H) | exact H
               have Ny512 := Aside0.mk hy512
               clear hy512
               by_cases c19 : y512.length + (rd_L1 t504 x26_2).length < 17592186044416
               ·rw [if_pos c19] at H
                have LMc19 := Aside0.mk c19
                clear c19
                obtain ⟨y515, hy515⟩ : ∃ y_ : List Int, y_ = (y512 ++ (rd_L1 t504 x26_2)) := ⟨_, rfl⟩
                replace H : (if y515.length < 17592186044416 then ((some (y515 ++ [a1] : List Int)).bind fun y518 => (if y518.length + (rd_L1 t508 x40_3).length < 17592186044416 then (if x5_3.length < 5864062014805 then (impl_arches.l2 k3 a0 a1 (x5_3 ++ [(y518 ++ (rd_L1 t508 x40_3))]) x6_1 (rd_L1 t504 x26_2) t504 (t504.length : Int) x26_2 t508 (t508.length : Int) (wrap64 (x40_3 + 1))) else (none)) else (none))) else (none)) = some r := by first | (rw [hy515]; with_reducible exact H) | (have H2_ := (Option.bind_some _ _).symm.trans H; rw [hy515]; with_reducible exact H2_) | (have H2_ := (Option.bind_some _ _).symm.trans H; with_reducible exact H2_) | with_reducible exact H | (rw [hy515]; exact H) | exact H
                have Ny515 := Aside0.mk hy515
                clear hy515
                by_cases c20 : y515.length < 17592186044416
                ·rw [if_pos c20] at H
                 have LMc20 := Aside0.mk c20
                 clear c20
                 obtain ⟨y518, hy518⟩ : ∃ y_ : List Int, y_ = (y515 ++ [a1]) := ⟨_, rfl⟩
                 replace H : (if y518.length + (rd_L1 t508 x40_3).length < 17592186044416 then (if x5_3.length < 5864062014805 then (impl_arches.l2 k3 a0 a1 (x5_3 ++ [(y518 ++ (rd_L1 t508 x40_3))]) x6_1 (rd_L1 t504 x26_2) t504 (t504.length : Int) x26_2 t508 (t508.length : Int) (wrap64 (x40_3 + 1))) else (none)) else (none)) = some r := by first | (rw [hy518]; with_reducible exact H) | (have H2_ := (Option.bind_some _ _).symm.trans H; rw [hy518]; with_reducible exact H2_) | (have H2_ := (Option.bind_some _ _).symm.trans H; with_reducible exact H2_) | with_reducible exact H | (rw [hy518]; exact H) | exact H
                 have Ny518 := Aside0.mk hy518
                 clear hy518
                 by_cases c21 : y518.length + (rd_L1 t508 x40_3).length < 17592186044416
                 ·rw [if_pos c21] at H
                  have LMc21 := Aside0.mk c21
                  clear c21
                  obtain ⟨y521, hy521⟩ : ∃ y_ : List Int, y_ = (y518 ++ (rd_L1 t508 x40_3)) := ⟨_, rfl⟩
                  replace H : (if x5_3.length < 5864062014805 then (impl_arches.l2 k3 a0 a1 (x5_3 ++ [y521]) x6_1 (rd_L1 t504 x26_2) t504 (t504.length : Int) x26_2 t508 (t508.length : Int) (wrap64 (x40_3 + 1))) else (none)) = some r := by first | (rw [hy521]; with_reducible exact H) | (have H2_ := (Option.bind_some _ _).symm.trans H; rw [hy521]; with_reducible exact H2_) | (have H2_ := (Option.bind_some _ _).symm.trans H; with_reducible exact H2_) | with_reducible exact H | (rw [hy521]; exact H) | exact H
                  have Ny521 := Aside0.mk hy521
                  clear hy521
                  by_cases c22 : x5_3.length < 5864062014805
                  ·rw [if_pos c22] at H
                   have LMc22 := Aside0.mk c22
                   clear c22
                   obtain ⟨y524, hy524⟩ : ∃ y_ : List (List Int), y_ = (x5_3 ++ [y521]) := ⟨_, rfl⟩
                   replace H : (impl_arches.l2 k3 a0 a1 y524 x6_1 (rd_L1 t504 x26_2) t504 (t504.length : Int) x26_2 t508 (t508.length : Int) (wrap64 (x40_3 + 1))) = some r := by first | (rw [hy524]; with_reducible exact H) | (have H2_ := (Option.bind_some _ _).symm.trans H; rw [hy524]; with_reducible exact H2_) | (have H2_ := (Option.bind_some _ _).symm.trans H; with_reducible exact H2_) | with_reducible exact H | (rw [hy524]; exact H) | exact H
                   have Ny524 := Aside0.mk hy524
                   clear hy524
                   have H' := Aside0.mk H
                   clear H
                   have p511 : 0 ≤ (x40_3 : Int) := of_decide_eq_true (as_)
                   have q511 : x40_3 < (t508.length : Int) := of_decide_eq_true (as_)
                   obtain ⟨ad511, A511_0, c511_0, e511, hx511_0, hl511_0, hi511_0⟩ := at_L1 (Kd.S_reads' HO_38.out).2.2 x40_3 p511 q511
                   cases e511
                   obtain ⟨ce511, hce511, hMe511, hcc511⟩ := Kd.S_get HO_38.out [] x40_3 p511 (by first | exact q511 | exact of_decide_eq_true (as_) | (have e_ := (Kd.S_reads' HO_38.out).1; omega))
                   obtain ⟨ve511_0, rfl, ge511_0⟩ := hMe511
                   have hv511_0 := hcc511 0 _ rfl
                   rw [Nat.add_zero, show ((Kd.slice 3 (Kd.int .i64))).sz = 1 from rfl, Nat.mul_one] at hv511_0
                   replace hv511_0 := Option.some.inj (hv511_0.symm.trans hx511_0)
                   rw [hv511_0] at ge511_0
                   have HL511_0 := Aside0.mk (show Kd.R (Kd.int .i64) 3 _ _ _ _ (rd_L1 t508 x40_3) from ge511_0)
                   clear hv511_0 ge511_0
                   clear hcc511 hce511
                   have HR511_0 := Aside0.mk hi511_0
                   have HC511_0 := Aside0.mk hl511_0
                   clear hi511_0 hl511_0
                   replace p511 := eq_true p511
                   replace q511 := eq_true q511
                   go_wp2_with (first | ((with_reducible refine gate_dst (N := 47) rfl ?_); refine Kd.R_lit (Kd.int .i64) _ 3 ?hg (N := 47) ?hd (xs := ([wrap64 (a1 + x6_1)] : List Int)) (inner := [.int .i64 (wrap64 (a1 + x6_1))]) (ok := fun _ => True) (okp := fun _ => True) ?hr ?hp (fun _ hk => hk) trivial (Below.refl _ _) (Nat.le_refl _) (by simp) ?_; (case hd => rfl); (case hg => rfl); (case hr => first | (go_simp; done) | (go_simp; rfl)); (case hp => exact (Reps.one (show Kd.M (Kd.int .i64) _ _ _ (wrap64 (a1 + x6_1)) [.int .i64 (wrap64 (a1 + x6_1))] from rfl) (Reps.none _ _))); intro v513 w23 ho24 hb hg_ hnew_; clear hg_ hnew_; (first | rw [← Ny512.out] at ho24 | (simp only [Int.reduceToNat] at ho24; rw [← Ny512.out] at ho24)); have n0_ := Aside0.mk (Kd.S_elder' (by (with_reducible repeat (first | apply Kd.S_alloc | apply Kd.S_drewN | apply Kd.S_drew)); exact HO_5.out) (Kd.R_base ho24) hb); have n1_ := Aside0.mk (Kd.S_elder' (by (with_reducible repeat (first | apply Kd.S_alloc | apply Kd.S_drewN | apply Kd.S_drew)); exact HO_24.out) (Kd.R_base ho24) hb); have n2_ := Aside0.mk (Kd.S_elder' (by (with_reducible repeat (first | apply Kd.S_alloc | apply Kd.S_drewN | apply Kd.S_drew)); exact HO_38.out) (Kd.R_base ho24) hb); have n3_ := Aside0.mk (Kd.R_elder' (kr_ HL511_0.out) (Kd.R_base ho24) hb); have n4_ := Aside0.mk (Kd.R_lower (Kd.R_new' ho24 (Kd.R_lt (kr_ HL511_0.out))) (below_size (hb0_ HB.out))); have n5_ := Aside0.mk (Kd.C_below (by repeat (first | (with_reducible exact HR511_0.out) | (with_reducible refine Kd.C_alloc ?_ _) | (with_reducible refine Kd.C_drewN ?_ _) | (with_reducible refine Kd.C_drew ?_) | exact HR511_0.out)) hb); have n6_ := HB.s0 hb; clear HO_5; clear HO_24; clear HO_38; clear HL511_0; clear HR511_0; clear HB; have HO_5 := n0_; have HO_24 := n1_; have HO_38 := n2_; have HL511_0 := n3_; have HO514 := n4_; have HR511_0 := n5_; have HB := n6_; clear n0_ n1_ n2_ n3_ n4_ n5_ n6_; replace HI_ := Aside0.mk (Kd.R_elder' (kr_ HI_.out) (Kd.R_base ho24) hb); clear hb ho24) | ((with_reducible refine gate_builtin (b := .append) (xs := #[.tmp 47, .tmp 48]) rfl ?_); at_builtin; refine Kd.R_append_rows (Kd.int .i64) (w0 := w) w.heap.size rfl (.tmp 47) (.tmp 48) 22 3 (.int .i64 0) 8 rfl Try.underlying22 info3 rfl (by decide) (by omega) v513 y512 (rd_L1 t504 x26_2) _ _ _ (fun k_ => some k_ ≠ (.slice A511_0 (rd_L1 t508 x40_3).length c511_0 : Value).ownBlock) (fun _ => False) rfl rfl ?aO ?aR (fun _ _ h => h) (fun _ h => h.elim) ?aF ?aB ?aS ?aL ?_; (case aR => repeat (first | exact (Kd.R_reads' (kr_ HI_.out)).2.2 | (with_reducible refine Kd.C_alloc ?_ _) | (with_reducible refine Kd.C_drewN ?_ _) | (with_reducible refine Kd.C_drew ?_))); (case aB => exact (hb0_ HB.out)); (case aF => exact (fun k_ hk => Kd.fresh' (Kd.R_lt (kr_ HL511_0.out)) k_ hk)); (case aO => exact (by (with_reducible repeat (first | apply Kd.R_alloc | apply Kd.R_drewN | apply Kd.R_drew)); exact Kd.R_mono HO514.out (fun _ hk => hk.2))); (case aS => exact (below_size (hb0_ HB.out))); (case aL => have := LMc19.out; omega); intro v516 w25 ho hb hg hat; rw [← Ny515.out] at ho; replace HO_5 := Aside0.mk (Kd.S_after (ok := (fun k_ => some k_ ≠ (.slice (some ad507) t504.length co9 : Value).ownBlock ∧ some k_ ≠ (.slice (some ad511) t508.length co15 : Value).ownBlock)) (by (with_reducible repeat (first | apply Kd.S_alloc | apply Kd.S_drewN | apply Kd.S_drew)); exact HO_5.out) hg hat); replace HO_24 := Aside0.mk (Kd.S_after (ok := (fun k_ => some k_ ≠ (u5 : Value).ownBlock ∧ some k_ ≠ (.slice (some ad511) t508.length co15 : Value).ownBlock)) (by (with_reducible repeat (first | apply Kd.S_alloc | apply Kd.S_drewN | apply Kd.S_drew)); exact HO_24.out) hg hat); replace HO_38 := Aside0.mk (Kd.S_after (ok := (fun k_ => some k_ ≠ (u5 : Value).ownBlock ∧ some k_ ≠ (.slice (some ad507) t504.length co9 : Value).ownBlock)) (by (with_reducible repeat (first | apply Kd.S_alloc | apply Kd.S_drewN | apply Kd.S_drew)); exact HO_38.out) hg hat); replace HL511_0 := Aside0.mk (Kd.R_after (ok := (fun k_ => some k_ ≠ (u5 : Value).ownBlock ∧ some k_ ≠ (.slice (some ad507) t504.length co9 : Value).ownBlock ∧ some k_ ≠ (.slice (some ad511) t508.length co15 : Value).ownBlock)) (by (with_reducible repeat (first | apply Kd.R_alloc | apply Kd.R_drewN | apply Kd.R_drew)); exact Kd.R_mono HL511_0.out (fun _ hk => ⟨⟨hk.1.1.1, ⟨hk.1.1.2, hk.1.2⟩⟩, hk.2⟩)) hg hat); replace HI_ := Aside0.mk (Kd.R_after (ok := (fun _ => True)) (kr_ HI_.out) hg hat); replace HB := Aside0.mk (hb); have HO517 := Aside0.mk (ho); clear HO514; clear ho hb hg hat) | ((with_reducible refine gate_builtin (b := .append) (xs := #[.tmp 51, .tmp 53]) rfl ?_); at_builtin; refine Kd.R_append (Kd.int .i64) (w0 := w) w.heap.size rfl (.tmp 51) (.tmp 53) 22 3 (.int .i64 0) 8 rfl Try.underlying22 info3 rfl (by decide) (by omega) v516 y515 a1 [.int .i64 a1] (fun k_ => some k_ ≠ (.slice A511_0 (rd_L1 t508 x40_3).length c511_0 : Value).ownBlock) (fun _ => False) rfl rfl ?aP (fun _ hk => hk.elim) ?aF ?aO ?aB ?aS ?aL ?_; (case aP => exact rfl); (case aB => exact (hb0_ HB.out)); (case aF => exact (fun k_ hk => Kd.fresh' (Kd.R_lt (kr_ HL511_0.out)) k_ hk)); (case aO => exact (kr_ HO517.out)); (case aS => exact (below_size (hb0_ HB.out))); (case aL => have := LMc20.out; omega); intro v519 w26 ho hb hg hat; rw [← Ny518.out] at ho; replace HO_5 := Aside0.mk (Kd.S_after (ok := (fun k_ => some k_ ≠ (.slice (some ad507) t504.length co9 : Value).ownBlock ∧ some k_ ≠ (.slice (some ad511) t508.length co15 : Value).ownBlock)) (by (with_reducible repeat (first | apply Kd.S_alloc | apply Kd.S_drewN | apply Kd.S_drew)); exact HO_5.out) hg hat); replace HO_24 := Aside0.mk (Kd.S_after (ok := (fun k_ => some k_ ≠ (u5 : Value).ownBlock ∧ some k_ ≠ (.slice (some ad511) t508.length co15 : Value).ownBlock)) (by (with_reducible repeat (first | apply Kd.S_alloc | apply Kd.S_drewN | apply Kd.S_drew)); exact HO_24.out) hg hat); replace HO_38 := Aside0.mk (Kd.S_after (ok := (fun k_ => some k_ ≠ (u5 : Value).ownBlock ∧ some k_ ≠ (.slice (some ad507) t504.length co9 : Value).ownBlock)) (by (with_reducible repeat (first | apply Kd.S_alloc | apply Kd.S_drewN | apply Kd.S_drew)); exact HO_38.out) hg hat); replace HL511_0 := Aside0.mk (Kd.R_after (ok := (fun k_ => some k_ ≠ (u5 : Value).ownBlock ∧ some k_ ≠ (.slice (some ad507) t504.length co9 : Value).ownBlock ∧ some k_ ≠ (.slice (some ad511) t508.length co15 : Value).ownBlock)) (kr_ HL511_0.out) hg hat); replace HI_ := Aside0.mk (Kd.R_after (ok := (fun _ => True)) (kr_ HI_.out) hg hat); replace HB := Aside0.mk (hb); have HO520 := Aside0.mk (ho); clear HO517; clear ho hb hg hat) | ((with_reducible refine gate_builtin (b := .append) (xs := #[.tmp 54, .tmp 55]) rfl ?_); at_builtin; refine Kd.R_append_rows (Kd.int .i64) (w0 := w) w.heap.size rfl (.tmp 54) (.tmp 55) 22 3 (.int .i64 0) 8 rfl Try.underlying22 info3 rfl (by decide) (by omega) v519 y518 (rd_L1 t508 x40_3) _ _ _ (fun k_ => some k_ ≠ (.slice A511_0 (rd_L1 t508 x40_3).length c511_0 : Value).ownBlock) (fun _ => False) rfl rfl ?aO ?aR (fun _ _ h => h) (fun _ h => h.elim) ?aF ?aB ?aS ?aL ?_; (case aR => repeat (first | exact ((Kd.R_reads' (kr_ HL511_0.out)).2.2) | (with_reducible refine Kd.C_alloc ?_ _) | (with_reducible refine Kd.C_drewN ?_ _) | (with_reducible refine Kd.C_drew ?_))); (case aB => exact (hb0_ HB.out)); (case aF => exact (fun k_ hk => Kd.fresh' (Kd.R_lt (kr_ HL511_0.out)) k_ hk)); (case aO => exact (kr_ HO520.out)); (case aS => exact (below_size (hb0_ HB.out))); (case aL => have := LMc21.out; omega); intro v522 w27 ho hb hg hat; rw [← Ny521.out] at ho; replace HO_5 := Aside0.mk (Kd.S_after (ok := (fun k_ => some k_ ≠ (.slice (some ad507) t504.length co9 : Value).ownBlock ∧ some k_ ≠ (.slice (some ad511) t508.length co15 : Value).ownBlock)) (by (with_reducible repeat (first | apply Kd.S_alloc | apply Kd.S_drewN | apply Kd.S_drew)); exact HO_5.out) hg hat); replace HO_24 := Aside0.mk (Kd.S_after (ok := (fun k_ => some k_ ≠ (u5 : Value).ownBlock ∧ some k_ ≠ (.slice (some ad511) t508.length co15 : Value).ownBlock)) (by (with_reducible repeat (first | apply Kd.S_alloc | apply Kd.S_drewN | apply Kd.S_drew)); exact HO_24.out) hg hat); replace HO_38 := Aside0.mk (Kd.S_after (ok := (fun k_ => some k_ ≠ (u5 : Value).ownBlock ∧ some k_ ≠ (.slice (some ad507) t504.length co9 : Value).ownBlock)) (by (with_reducible repeat (first | apply Kd.S_alloc | apply Kd.S_drewN | apply Kd.S_drew)); exact HO_38.out) hg hat); replace HL511_0 := Aside0.mk (Kd.R_after (ok := (fun k_ => some k_ ≠ (u5 : Value).ownBlock ∧ some k_ ≠ (.slice (some ad507) t504.length co9 : Value).ownBlock ∧ some k_ ≠ (.slice (some ad511) t508.length co15 : Value).ownBlock)) (kr_ HL511_0.out) hg hat); replace HI_ := Aside0.mk (Kd.R_after (ok := (fun _ => True)) (kr_ HI_.out) hg hat); replace HB := Aside0.mk (hb); have HO523 := Aside0.mk (ho); clear HO520; clear ho hb hg hat; obtain ⟨Ao29, co29, eo29⟩ := Kd.R_slice HO523.out; subst eo29) | ((with_reducible refine gate_builtin (b := .append) (xs := #[.tmp 50, .tmp 57]) rfl ?_); at_builtin; refine Kd.S_append (Kd.slice 3 (Kd.int .i64)) (w0 := w) w.heap.size rfl (.tmp 50) (.tmp 57) 23 22 (.slice none 0 0) 24 rfl Try.underlying23 info22 rfl (by decide) (by omega) u5 x5_3 y521 [.slice Ao29 y521.length co29] (fun k_ => some k_ ≠ (.slice (some ad507) t504.length co9 : Value).ownBlock ∧ some k_ ≠ (.slice (some ad511) t508.length co15 : Value).ownBlock) (fun k_ => some k_ = (.slice Ao29 y521.length co29 : Value).ownBlock) rfl rfl ?aP (fun k_ hk_ => ((Kd.R_mono (ok' := fun k_ => ((fun k_ => some k_ ≠ (.slice (some ad507) t504.length co9 : Value).ownBlock ∧ some k_ ≠ (.slice (some ad511) t508.length co15 : Value).ownBlock)) k_ ∧ some k_ ≠ (u5 : Value).ownBlock) (Kd.R_apart' (Kd.R_apart' (Kd.R_apart' (HO523.out) (Kd.S_typed HO_24.out) (by decide)) (Kd.S_typed HO_38.out) (by decide)) (Kd.S_typed HO_5.out) (by decide)) (fun k_ hk => ⟨⟨hk.1.1.2, hk.1.2⟩, hk.2⟩))).1 k_ hk_.symm) ?aF ?aO ?aB ?aS ?aL ?_; (case aP => exact Kd.M_row (Kd.R_mono (Kd.R_tight rfl (Kd.R_mono (ok' := fun k_ => ((fun k_ => some k_ ≠ (.slice (some ad507) t504.length co9 : Value).ownBlock ∧ some k_ ≠ (.slice (some ad511) t508.length co15 : Value).ownBlock)) k_ ∧ some k_ ≠ (u5 : Value).ownBlock) (Kd.R_apart' (Kd.R_apart' (Kd.R_apart' (HO523.out) (Kd.S_typed HO_24.out) (by decide)) (Kd.S_typed HO_38.out) (by decide)) (Kd.S_typed HO_5.out) (by decide)) (fun k_ hk => ⟨⟨hk.1.1.2, hk.1.2⟩, hk.2⟩))) (fun _ h_ => h_))); (case aB => exact (hb0_ HB.out)); (case aF => exact (fun k_ hk => ⟨Kd.fresh' (Kd.S_lt (by (with_reducible repeat (first | apply Kd.S_alloc | apply Kd.S_drewN | apply Kd.S_drew)); exact HO_24.out)) k_ hk, Kd.fresh' (Kd.S_lt (by (with_reducible repeat (first | apply Kd.S_alloc | apply Kd.S_drewN | apply Kd.S_drew)); exact HO_38.out)) k_ hk⟩)); (case aO => exact (by (with_reducible repeat (first | apply Kd.S_alloc | apply Kd.S_drewN | apply Kd.S_drew)); exact Kd.S_mono HO_5.out (fun k_ hk => ⟨⟨hk.1.1, hk.1.2⟩, fun e_ => hk.2 e_⟩))); (case aS => exact (below_size (hb0_ HB.out))); (case aL => have := LMc22.out; omega); intro v525 w28 ho hb hg hat; replace HI_ := Aside0.mk (Kd.R_over' (kr_ HI_.out) (Kd.S_typed HO_5.out) (by decide) hg); rw [← Ny524.out] at ho; replace HO_24 := Aside0.mk (Kd.S_after (ok := (fun k_ => some k_ ≠ (.slice (some ad511) t508.length co15 : Value).ownBlock ∧ some k_ ≠ (.slice Ao29 y521.length co29 : Value).ownBlock)) (by (with_reducible repeat (first | apply Kd.S_alloc | apply Kd.S_drewN | apply Kd.S_drew)); exact Kd.S_mono HO_24.out (fun _ hk => ⟨⟨hk.1.2, hk.2⟩, hk.1.1⟩)) hg hat); replace HO_38 := Aside0.mk (Kd.S_after (ok := (fun k_ => some k_ ≠ (.slice (some ad507) t504.length co9 : Value).ownBlock ∧ some k_ ≠ (.slice Ao29 y521.length co29 : Value).ownBlock)) (by (with_reducible repeat (first | apply Kd.S_alloc | apply Kd.S_drewN | apply Kd.S_drew)); exact Kd.S_mono HO_38.out (fun _ hk => ⟨⟨hk.1.2, hk.2⟩, hk.1.1⟩)) hg hat); replace HL511_0 := Aside0.mk (Kd.R_after (ok := (fun k_ => some k_ ≠ (.slice (some ad507) t504.length co9 : Value).ownBlock ∧ some k_ ≠ (.slice (some ad511) t508.length co15 : Value).ownBlock ∧ some k_ ≠ (.slice Ao29 y521.length co29 : Value).ownBlock)) (by (with_reducible repeat (first | apply Kd.R_alloc | apply Kd.R_drewN | apply Kd.R_drew)); exact Kd.R_mono HL511_0.out (fun _ hk => ⟨⟨hk.1.2.1, ⟨hk.1.2.2, hk.2⟩⟩, hk.1.1⟩)) hg hat); replace HB := Aside0.mk (hb); have HO526 := Aside0.mk (ho); clear HO_5; clear HO523; clear ho hb hg hat))
                   go_roundg k3
                   case measure => have := HK1.out; have := HK2.out; have := HK3.out; omega
                   case rel => exact ⟨(y524), (wrap64 (x40_3 + 1)), (by first | rfl | (simp; done) | (simp [*]; done)), H', ⟨by have := HK1.out; have := HK2.out; have := HK3.out; omega⟩, ⟨by (with_reducible repeat (first | apply Kd.S_alloc | apply Kd.S_drewN | apply Kd.S_drew)); exact HO526.out⟩, ⟨by (with_reducible repeat (first | apply Kd.S_alloc | apply Kd.S_drewN | apply Kd.S_drew)); exact Kd.S_mono HO_24.out (fun _ hk => ⟨hk.2, hk.1.1⟩)⟩, ⟨by (with_reducible repeat (first | apply Kd.S_alloc | apply Kd.S_drewN | apply Kd.S_drew)); exact Kd.S_mono HO_38.out (fun _ hk => ⟨hk.2, hk.1.1⟩)⟩, ⟨Kd.R_mono HI_.out (fun _ _ => trivial)⟩, ⟨hb0_ HB.out⟩⟩
                  ·rw [if_neg c22] at H
                   exact absurd H (by simp)
                 ·rw [if_neg c21] at H
                  exact absurd H (by simp)
                ·rw [if_neg c20] at H
                 exact absurd H (by simp)
               ·rw [if_neg c19] at H
                exact absurd H (by simp)
              ·rw [if_neg c18] at H
               exact absurd H (by simp)
             ·rw [if_neg c17] at H
              exact absurd H (by simp)
            ·rw [if_neg c16] at H
             have c16b0 : decide (x40_3 < (t508.length : Int)) = false := decide_eq_false c16
             clear c16
             have H' := Aside0.mk H
             clear H
             go_wp2
             go_roundg k3
             case measure => have := HK1.out; have := HK2.out; have := HK3.out; omega
             case rel => exact ⟨(x5_3), (wrap64 (x26_2 + 1)), (by first | rfl | (simp; done) | (simp [*]; done)), H', ⟨by have := HK1.out; have := HK2.out; have := HK3.out; omega⟩, ⟨by (with_reducible repeat (first | apply Kd.S_alloc | apply Kd.S_drewN | apply Kd.S_drew)); exact Kd.S_mono HO_5.out (fun _ hk => hk.1)⟩, ⟨by (with_reducible repeat (first | apply Kd.S_alloc | apply Kd.S_drewN | apply Kd.S_drew)); exact Kd.S_mono HO_24.out (fun _ hk => hk.1)⟩, ⟨hb0_ HB.out⟩⟩
         ·rw [if_neg c12] at H
          exact absurd H (by simp)
        ·rw [if_neg c11] at H
         exact absurd H (by simp)
       ·rw [if_neg c10] at H
        have c10b0 : decide (x26_2 < (t504.length : Int)) = false := decide_eq_false c10
        clear c10
        have H' := Aside0.mk H
        clear H
        go_wp2
        go_roundg k2
        case measure => have := HK1.out; have := HK2.out; omega
        case rel => exact ⟨(x5_2), (wrap64 (x6_1 + 2)), (by first | rfl | (simp; done) | (simp [*]; done)), H', ⟨by have := HK1.out; have := HK2.out; omega⟩, ⟨by (with_reducible repeat (first | apply Kd.S_alloc | apply Kd.S_drewN | apply Kd.S_drew)); exact Kd.S_mono HO_5.out (fun _ hk => trivial)⟩, ⟨hb0_ HB.out⟩⟩
    ·rw [if_neg c6] at H
     have c6b0 : decide (x6_1 < a0) = false := decide_eq_false c6
     clear c6
     obtain rfl := Option.some.inj H
     go_wp2
     go_ret
     exact ⟨_, ex_, by (with_reducible repeat (first | apply Kd.S_alloc | apply Kd.S_drewN | apply Kd.S_drew)); exact HO_5.out, hb0_ HB.out⟩

end Go.Proofs.Ytkkjlbpffcdlfaa.X
