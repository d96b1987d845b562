-- Written by a program of this session (xprint.py), out of the translation and of hand-written contracts. Lean checks it.
import Derived.Test.YtmcllgonjlapoaaX0
namespace Go.Proofs.Ytmcllgonjlapoaa.X
open Go.RowKit Go.Proofs.YtmcllgonjlapoaaW.PrintWords Go.Proofs.YtmcllgonjlapoaaW.PrintLast Go.Proofs.YtmcllgonjlapoaaW.PrintMore
attribute [local go_sem] max2_int min2_int max_two min_two max_three min_three max_four min_four   -- for this text's walks alone
set_option linter.unusedVariables false
set_option linter.unusedSimpArgs false

/-! ### impl_guards: function 69 -/
mutual
def impl_guards.l0 : Nat → List Int → Int → Int → Int → Option (List Int × Bool)
 | 0, _, _, _, _ => none
 | k + 1, x0, x2, x3, x10 => if x10 < (x0.length : Int) then (if 0 ≤ x10 then ((impl_guards.f k x0 (wrap64 (x10 + 1)) (wrap64 (x2 - 1)) (Go.bits .andNot .i64 x3 (rd x0 x10))).bind fun bt502 => (if bt502.2 = true then ((some (([x10] : List Int) : List Int)).bind fun y506 => (if y506.length + bt502.1.length < 17592186044416 then (some ((y506 ++ bt502.1), true)) else (none))) else (impl_guards.l0 k x0 x2 x3 (wrap64 (x10 + 1))))) else (none)) else (some (([] : List Int), false))
def impl_guards.f : Nat → List Int → Int → Int → Int → Option (List Int × Bool)
 | 0, _, _, _, _ => none
 | k + 1, l0, a1, a2, a3 => if a2 = 0 then (some (([] : List Int), (a3 == 0))) else (impl_guards.l0 k l0 a2 a3 a1)
end
theorem impl_guards.mono_l : ∀ k, (∀ y0 y1 y2 y3, LeO (impl_guards.f k y0 y1 y2 y3) (impl_guards.f (k + 1) y0 y1 y2 y3)) ∧ (∀ y0 y1 y2 y3, LeO (impl_guards.l0 k y0 y1 y2 y3) (impl_guards.l0 (k + 1) y0 y1 y2 y3))
 | 0 => ⟨fun _ _ _ _ r h => by simp [impl_guards.f] at h, fun _ _ _ _ r h => by simp [impl_guards.l0] at h⟩
 | k + 1 => by
  obtain ⟨ih0, ih1⟩ := impl_guards.mono_l k
  refine ⟨?_, ?_⟩
  ·intro y0 y1 y2 y3
   unfold impl_guards.f
   repeat' first
   | (with_reducible exact ih0 ..)
   | (with_reducible exact ih1 ..)
   | (with_reducible first | exact lr_ _ | exact ln_ _ | refine li_ ?_ ?_ | refine lb_ ?_ fun _ => ?_)
   | exact ih0 ..
   | exact ih1 ..
   | exact ln_ _ | refine li_ ?_ ?_ | refine lb_ ?_ fun _ => ?_
  ·intro y0 y1 y2 y3
   unfold impl_guards.l0
   repeat' first
   | (with_reducible exact ih0 ..)
   | (with_reducible exact ih1 ..)
   | (with_reducible first | exact lr_ _ | exact ln_ _ | refine li_ ?_ ?_ | refine lb_ ?_ fun _ => ?_)
   | exact ih0 ..
   | exact ih1 ..
   | exact ln_ _ | refine li_ ?_ ?_ | refine lb_ ?_ fun _ => ?_
theorem impl_guards.mono : ∀ a0 a1 a2 a3 k, LeO (impl_guards.f k a0 a1 a2 a3) (impl_guards.f (k + 1) a0 a1 a2 a3) := by
 intro a0 a1 a2 a3 k
 obtain ⟨ih0, ih1⟩ := impl_guards.mono_l k
 exact ih0 a0 a1 a2 a3
set_option maxHeartbeats 8000000 in
set_option maxRecDepth 100000 in
theorem impl_guards.calls (k : Nat) : ∀ (A0 : Option Addr) (c0 : Nat) (l0 : List Int) (a1 : Int) (a2 : Int) (a3 : Int) (r1 : List Int) (r2 : Bool) (w : World) (hr0 : Kd.C (Kd.int .i64) w A0 l0.length l0) (hc0 : l0.length ≤ c0) (h : impl_guards.f k l0 a1 a2 a3 = some (r1, r2)),
  Calls Try.prog 69 #[.slice A0 l0.length c0, .int .i64 a1, .int .i64 a2, .int .i64 a3] w fun e w' => ∃ v0_ : Value, e = .returned (.tuple #[v0_, .bool r2]) ∧ Kd.R (Kd.int .i64) 3 w' w.heap.size (fun _ => True) v0_ r1 ∧ Below w.heap.size w w' := by
 induction k using Nat.strongRecOn with
 | _ k ih =>
 intro A0 c0 l0 a1 a2 a3 r1 r2 w hr0 hc0 h
 cases k with
 | zero => exact absurd h (by simp [impl_guards.f])
 | succ k =>
 simp only [impl_guards.f] at h
 have HR0 := Aside0.mk hr0
 have HC0 := Aside0.mk hc0
 clear hr0 hc0
 have HB := Aside0.mk (Below.refl w.heap.size w)
 have H : (if a2 = 0 then (some (([] : List Int), (a3 == 0))) else (impl_guards.l0 k l0 a2 a3 a1)) = some (r1, r2) := h
 clear h
 by_cases c5 : a2 = 0
 ·rw [if_pos c5] at H
  have c5b0 : (a2 == 0) = true := beq_iff_eq.mpr c5
  have c5b1 : (a2 != 0) = false := bne_eq_false_iff_eq.mpr c5
  clear c5
  simp only [Option.some.injEq, Prod.mk.injEq] at H
  obtain ⟨rfl, rfl⟩ := H
  go_enter Try.func69, Try.ntmps69
  go_wp2
  go_ret2
  exact ⟨_, ex_, by first | exact Kd.R_nil _ _ _ _ _ | exact Kd.N_nil _ _ _ _ _ | exact Kd.V_nil _ _ _ _ _ | exact Kd.Q_nil _ _ _ _ _ | exact Kd.S_nil _ _ _ _ _, hb0_ HB.out⟩
 ·rw [if_neg c5] at H
  have c5b0 : (a2 == 0) = false := beq_eq_false_iff_ne.mpr c5
  have c5b1 : (a2 != 0) = true := bne_iff_ne.mpr c5
  have H' := Aside0.mk H
  clear H
  go_enter Try.func69, Try.ntmps69
  go_wp2
  go_loopg [10] k (fun kq v10 w' => ∃ (x10_1 : Int), v10 = .int .i64 x10_1 ∧ Aside0 (impl_guards.l0 kq l0 a2 a3 x10_1 = some (r1, r2)) ∧ Aside0 (kq ≤ k) ∧ Aside0 (Below w.heap.size w w'))
  case atStart => exact ⟨(a1), (by first | rfl | (simp; done) | (simp [*]; done)), H', ⟨Nat.le_refl _⟩, ⟨hb0_ HB.out⟩⟩
  case round =>
   clear H'
   try clear p2
   try clear c5
   try clear c5b0
   try clear c5b1
   obtain ⟨x10_1, rfl, HA, HK1, HB⟩ := hrel
   cases gk with
   | zero => exact absurd HA.out (by simp [impl_guards.l0])
   | succ k1 =>
    have H := HA.out
    clear HA
    simp only [impl_guards.l0] at H
    by_cases c6 : x10_1 < (l0.length : Int)
    ·rw [if_pos c6] at H
     have c6b0 : decide (x10_1 < (l0.length : Int)) = true := decide_eq_true c6
     clear c6
     by_cases c7 : 0 ≤ x10_1
     ·rw [if_pos c7] at H
      have c7b0 : decide (0 ≤ x10_1) = true := decide_eq_true c7
      clear c7
      replace H := Option.bind_eq_some_iff.mp H
      obtain ⟨⟨t502, t503⟩, A80, H⟩ := H
      replace H : (if t503 = true then ((some (([x10_1] : List Int) : List Int)).bind fun y506 => (if y506.length + t502.length < 17592186044416 then (some ((y506 ++ t502), true)) else (none))) else (impl_guards.l0 k1 l0 a2 a3 (wrap64 (x10_1 + 1)))) = some (r1, r2) := H
      have A8 := Aside0.mk A80
      clear A80
      by_cases c9 : t503 = true
      ·subst c9
       have H1 : ((some (([x10_1] : List Int) : List Int)).bind fun y506 => (if y506.length + t502.length < 17592186044416 then (some ((y506 ++ t502), true)) else (none))) = some (r1, r2) := by rw [if_pos rfl] at H; exact H
       clear H
       have H := H1
       clear H1
       obtain ⟨y506, hy506⟩ : ∃ y_ : List Int, y_ = (([x10_1] : List Int)) := ⟨_, rfl⟩
       replace H : (if y506.length + t502.length < 17592186044416 then (some ((y506 ++ t502), true)) else (none)) = some (r1, r2) := by first | (rw [hy506]; with_reducible exact H) | (have H2_ := (Option.bind_some _ _).symm.trans H; rw [hy506]; with_reducible exact H2_) | (have H2_ := (Option.bind_some _ _).symm.trans H; with_reducible exact H2_) | with_reducible exact H | (rw [hy506]; exact H) | exact H
       have Ny506 := Aside0.mk hy506
       clear hy506
       by_cases c10 : y506.length + t502.length < 17592186044416
       ·rw [if_pos c10] at H
        have LMc10 := Aside0.mk c10
        clear c10
        obtain ⟨y509, hy509⟩ : ∃ y_ : List Int, y_ = (y506 ++ t502) := ⟨_, rfl⟩
        replace H : (some (y509, true)) = some (r1, r2) := by first | (rw [hy509]; with_reducible exact H) | (have H2_ := (Option.bind_some _ _).symm.trans H; rw [hy509]; with_reducible exact H2_) | (have H2_ := (Option.bind_some _ _).symm.trans H; with_reducible exact H2_) | with_reducible exact H | (rw [hy509]; exact H) | exact H
        have Ny509 := Aside0.mk hy509
        clear hy509
        simp only [Option.some.injEq, Prod.mk.injEq] at H
        obtain ⟨rfl, rfl⟩ := H
        have p501 : 0 ≤ (x10_1 : Int) := of_decide_eq_true (as_)
        have q501 : x10_1 < (l0.length : Int) := of_decide_eq_true (as_)
        obtain ⟨ad501, e501, hx501_0⟩ := Kd.at_int HR0.out x10_1 p501 q501
        cases e501
        replace hx501_0 := (HB.out.cell (World.block_lt_of_cell? w _ hx501_0)).trans hx501_0
        replace p501 := eq_true p501
        replace q501 := eq_true q501
        go_wp2_with (first | (refine gl_ 36 Try.func69 #[.slice (some ad501) l0.length c0, .int .i64 (wrap64 (x10_1 + 1)), .int .i64 (wrap64 (a2 - 1)), .int .i64 (Go.bits .andNot .i64 a3 (rd l0 x10_1))] ?_; (with_reducible refine (ih k1 (by have := HK1.out; omega) _ _ l0 (wrap64 (x10_1 + 1)) (wrap64 (a2 - 1)) (Go.bits .andNot .i64 a3 (rd l0 x10_1)) t502 true _ ?side1 ?side2 A8.out).mono ?_); (case side1 => repeat (first | exact (Kd.C_below HR0.out HB.out) | (with_reducible refine Kd.C_alloc ?_ _) | (with_reducible refine Kd.C_drewN ?_ _) | (with_reducible refine Kd.C_drew ?_))); (case side2 => exact HC0.out); rintro e w11 ⟨v504, rfl, ho0, hb⟩; refine ⟨_, rfl, ?_⟩; have HO505 := Aside0.mk (Kd.R_lower ho0 (below_size (hb0_ HB.out))); replace HB := HB.s0 hb; (try clear hb); (try clear ho0)) | ((with_reducible refine gate_dst (N := 41) rfl ?_); refine Kd.R_lit (Kd.int .i64) _ 3 ?hg (N := 41) ?hd (xs := ([x10_1] : List Int)) (inner := [.int .i64 x10_1]) (ok := fun _ => True) (okp := fun _ => True) ?hr ?hp (fun _ hk => hk) trivial (Below.refl _ _) (Nat.le_refl _) (by simp) ?_; (case hd => rfl); (case hg => rfl); (case hr => first | (go_simp; done) | (go_simp; rfl)); (case hp => exact (Reps.one (show Kd.M (Kd.int .i64) _ _ _ x10_1 [.int .i64 x10_1] from rfl) (Reps.none _ _))); intro v507 w12 ho13 hb hg_ hnew_; clear hg_ hnew_; (first | rw [← Ny506.out] at ho13 | (simp only [Int.reduceToNat] at ho13; rw [← Ny506.out] at ho13)); have HO508 := Aside0.mk (Kd.R_lower (Kd.R_new' ho13 (Kd.R_lt (kr_ HO505.out))) (below_size (hb0_ HB.out))); replace HO505 := Aside0.mk (Kd.R_elder' (kr_ HO505.out) (Kd.R_base ho13) hb); replace HB := HB.s0 hb; clear hb ho13; obtain ⟨Ao15, co15, eo15⟩ := Kd.R_slice HO505.out; subst eo15) | ((with_reducible refine gate_builtin (b := .append) (xs := #[.tmp 41, .tmp 42]) rfl ?_); at_builtin; refine Kd.R_append_rows (Kd.int .i64) (w0 := w) w.heap.size rfl (.tmp 41) (.tmp 42) 26 3 (.int .i64 0) 8 rfl Try.underlying26 info3 rfl (by decide) (by omega) v507 y506 t502 _ _ _ (fun k_ => some k_ ≠ (.slice Ao15 t502.length co15 : Value).ownBlock) (fun _ => False) rfl rfl ?aO ?aR (fun _ _ h => h) (fun _ h => h.elim) ?aF ?aB ?aS ?aL ?_; (case aR => repeat (first | exact (Kd.R_reads' HO505.out).2.2 | (with_reducible refine Kd.C_alloc ?_ _) | (with_reducible refine Kd.C_drewN ?_ _) | (with_reducible refine Kd.C_drew ?_))); (case aB => exact (hb0_ HB.out)); (case aF => exact (fun k_ hk => Kd.fresh' (Kd.R_lt (kr_ HO505.out)) k_ hk)); (case aO => exact (by (with_reducible repeat (first | apply Kd.R_alloc | apply Kd.R_drewN | apply Kd.R_drew)); exact Kd.R_mono HO508.out (fun _ hk => hk.2))); (case aS => exact (below_size (hb0_ HB.out))); (case aL => have := LMc10.out; omega); intro v510 w14 ho hb hg hat; rw [← Ny509.out] at ho; replace HO505 := Aside0.mk (Kd.R_after (ok := (fun _ => True)) (kr_ HO505.out) hg hat); replace HB := Aside0.mk (hb); have HO511 := Aside0.mk (ho); clear HO508; clear ho hb hg hat))
        go_ret2
        exact ⟨_, ex_, by (with_reducible repeat (first | apply Kd.R_alloc | apply Kd.R_drewN | apply Kd.R_drew)); exact Kd.R_mono HO511.out (fun _ hk => trivial), hb0_ HB.out⟩
       ·rw [if_neg c10] at H
        exact absurd H (by simp)
      ·replace c9 := Bool.eq_false_iff.mpr c9
       subst c9
       have H1 : (impl_guards.l0 k1 l0 a2 a3 (wrap64 (x10_1 + 1))) = some (r1, r2) := by rw [if_neg (show ¬ (false = true) by decide)] at H; exact H
       clear H
       have H := H1
       clear H1
       have H' := Aside0.mk H
       clear H
       have p501 : 0 ≤ (x10_1 : Int) := of_decide_eq_true (as_)
       have q501 : x10_1 < (l0.length : Int) := of_decide_eq_true (as_)
       obtain ⟨ad501, e501, hx501_0⟩ := Kd.at_int HR0.out x10_1 p501 q501
       cases e501
       replace hx501_0 := (HB.out.cell (World.block_lt_of_cell? w _ hx501_0)).trans hx501_0
       replace p501 := eq_true p501
       replace q501 := eq_true q501
       go_wp2_with (first | (refine gl_ 36 Try.func69 #[.slice (some ad501) l0.length c0, .int .i64 (wrap64 (x10_1 + 1)), .int .i64 (wrap64 (a2 - 1)), .int .i64 (Go.bits .andNot .i64 a3 (rd l0 x10_1))] ?_; (with_reducible refine (ih k1 (by have := HK1.out; omega) _ _ l0 (wrap64 (x10_1 + 1)) (wrap64 (a2 - 1)) (Go.bits .andNot .i64 a3 (rd l0 x10_1)) t502 false _ ?side1 ?side2 A8.out).mono ?_); (case side1 => repeat (first | exact (Kd.C_below HR0.out HB.out) | (with_reducible refine Kd.C_alloc ?_ _) | (with_reducible refine Kd.C_drewN ?_ _) | (with_reducible refine Kd.C_drew ?_))); (case side2 => exact HC0.out); rintro e w16 ⟨v504, rfl, ho0, hb⟩; refine ⟨_, rfl, ?_⟩; have HO505 := Aside0.mk (Kd.R_lower ho0 (below_size (hb0_ HB.out))); replace HB := HB.s0 hb; (try clear hb); (try clear ho0)))
       go_roundg k1
       case measure => have := HK1.out; omega
       case rel => exact ⟨(wrap64 (x10_1 + 1)), (by first | rfl | (simp; done) | (simp [*]; done)), H', ⟨by have := HK1.out; omega⟩, ⟨hb0_ HB.out⟩⟩
     ·rw [if_neg c7] at H
      exact absurd H (by simp)
    ·rw [if_neg c6] at H
     have c6b0 : decide (x10_1 < (l0.length : Int)) = false := decide_eq_false c6
     clear c6
     simp only [Option.some.injEq, Prod.mk.injEq] at H
     obtain ⟨rfl, rfl⟩ := H
     go_wp2
     go_ret2
     exact ⟨_, ex_, by first | exact Kd.R_nil _ _ _ _ _ | exact Kd.N_nil _ _ _ _ _ | exact Kd.V_nil _ _ _ _ _ | exact Kd.Q_nil _ _ _ _ _ | exact Kd.S_nil _ _ _ _ _, hb0_ HB.out⟩

end Go.Proofs.Ytmcllgonjlapoaa.X
