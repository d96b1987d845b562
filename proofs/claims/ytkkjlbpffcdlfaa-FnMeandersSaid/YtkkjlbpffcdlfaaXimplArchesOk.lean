-- Written by a program of this session (xprint.py), out of the translation and of hand-written contracts. Lean checks it.
import Derived.Test.YtkkjlbpffcdlfaaX0
import Derived.Test.YtkkjlbpffcdlfaaXimplnoCross
namespace Go.Proofs.Ytkkjlbpffcdlfaa.X
open Go.RowKit Go.Proofs.YtkkjlbpffcdlfaaW.PrintWords Go.Proofs.YtkkjlbpffcdlfaaW.PrintLast Go.Proofs.YtkkjlbpffcdlfaaW.PrintMore
attribute [local go_sem] max2_int min2_int max_two min_two max_three min_three max_four min_four   -- for this text's walks alone
set_option linter.unusedVariables false
set_option linter.unusedSimpArgs false

/-! ### impl_ArchesOk: function 26 -/
mutual
def impl_ArchesOk.j0 : Nat → List Int → Bool → Option (Bool)
 | 0, _, _ => none
 | k + 1, x0, x19 => if x19 = true then (some false) else (impl_ArchesOk.l0 k x0 ([] : List (List Int)) x0 (x0.length : Int) 0)
def impl_ArchesOk.l0 : Nat → List Int → List (List Int) → List Int → Int → Int → Option (Bool)
 | 0, _, _, _, _, _ => none
 | k + 1, x0, x3, x20, x21, x22 => if x22 < x21 then (if 0 ≤ x22 then (if x22 < (x20.length : Int) then (if (rd x20 x22) < 0 then (some false) else (if (rd x20 x22) ≥ (x0.length : Int) then (some false) else (if (rd x20 x22) = x22 then (some false) else (if 0 ≤ (rd x20 x22) then (if (rd x20 x22) < (x0.length : Int) then (if (rd x0 (rd x20 x22)) = x22 then (if x3.length < 5864062014805 then (impl_ArchesOk.l0 k x0 (x3 ++ [(([x22, rd x20 x22] : List Int))]) x20 x21 (wrap64 (x22 + 1))) else (none)) else (some false)) else (none)) else (none))))) else (none)) else (none)) else ((impl_noCross.f k x3).bind fun t509 => (some t509))
end
def impl_ArchesOk.f (k : Nat) (l0 : List Int) : Option (Bool) := if ((l0.length : Int) % 2) = 0 then (if (l0.length : Int) < 2 then (impl_ArchesOk.j0 k l0 true) else (impl_ArchesOk.j0 k l0 (decide ((l0.length : Int) > 10)))) else (impl_ArchesOk.j0 k l0 true)
theorem impl_ArchesOk.mono_l : ∀ k, (∀ y0 y1, LeO (impl_ArchesOk.j0 k y0 y1) (impl_ArchesOk.j0 (k + 1) y0 y1)) ∧ (∀ y0 y1 y2 y3 y4, LeO (impl_ArchesOk.l0 k y0 y1 y2 y3 y4) (impl_ArchesOk.l0 (k + 1) y0 y1 y2 y3 y4))
 | 0 => ⟨fun _ _ r h => by simp [impl_ArchesOk.j0] at h, fun _ _ _ _ _ r h => by simp [impl_ArchesOk.l0] at h⟩
 | k + 1 => by
  obtain ⟨ih0, ih1⟩ := impl_ArchesOk.mono_l k
  refine ⟨?_, ?_⟩
  ·intro y0 y1
   unfold impl_ArchesOk.j0
   repeat' first
   | (with_reducible exact ih0 ..)
   | (with_reducible exact ih1 ..)
   | (with_reducible exact impl_noCross.mono ..)
   | (with_reducible first | exact lr_ _ | exact ln_ _ | refine li_ ?_ ?_ | refine lb_ ?_ fun _ => ?_)
   | exact ih0 ..
   | exact ih1 ..
   | exact impl_noCross.mono ..
   | exact ln_ _ | refine li_ ?_ ?_ | refine lb_ ?_ fun _ => ?_
  ·intro y0 y1 y2 y3 y4
   unfold impl_ArchesOk.l0
   repeat' first
   | (with_reducible exact ih0 ..)
   | (with_reducible exact ih1 ..)
   | (with_reducible exact impl_noCross.mono ..)
   | (with_reducible first | exact lr_ _ | exact ln_ _ | refine li_ ?_ ?_ | refine lb_ ?_ fun _ => ?_)
   | exact ih0 ..
   | exact ih1 ..
   | exact impl_noCross.mono ..
   | exact ln_ _ | refine li_ ?_ ?_ | refine lb_ ?_ fun _ => ?_
theorem impl_ArchesOk.mono : ∀ a0 k, LeO (impl_ArchesOk.f k a0) (impl_ArchesOk.f (k + 1) a0) := by
 intro a0 k
 obtain ⟨ih0, ih1⟩ := impl_ArchesOk.mono_l k
 unfold impl_ArchesOk.f
 repeat' first
   | (with_reducible exact ih0 ..)
   | (with_reducible exact ih1 ..)
   | (with_reducible exact impl_noCross.mono ..)
   | (with_reducible first | exact lr_ _ | exact ln_ _ | refine li_ ?_ ?_ | refine lb_ ?_ fun _ => ?_)
   | exact ih0 ..
   | exact ih1 ..
   | exact impl_noCross.mono ..
   | exact ln_ _ | refine li_ ?_ ?_ | refine lb_ ?_ fun _ => ?_
set_option maxHeartbeats 8000000 in
set_option maxRecDepth 100000 in
theorem impl_ArchesOk.calls (k : Nat) (A0 : Option Addr) (c0 : Nat) (l0 : List Int) (r : Bool) (w : World) (hr0 : Kd.C (Kd.int .i64) w A0 l0.length l0) (hc0 : l0.length ≤ c0) (h : impl_ArchesOk.f k l0 = some r) :
  Calls Try.prog 26 #[.slice A0 l0.length c0] w fun e w' => e = .returned (.bool r) ∧ Below w.heap.size w w' := by
 have HR0 := Aside0.mk hr0
 have HC0 := Aside0.mk hc0
 clear hr0 hc0
 have HB := Aside0.mk (Below.refl w.heap.size w)
 have H : (if ((l0.length : Int) % 2) = 0 then (if (l0.length : Int) < 2 then (impl_ArchesOk.j0 k l0 true) else (impl_ArchesOk.j0 k l0 (decide ((l0.length : Int) > 10)))) else (impl_ArchesOk.j0 k l0 true)) = some r := h
 clear h
 have HC2 := Aside0.mk H
 clear H
 go_enter Try.func26, Try.ntmps26
 go_upto_region 1 with (fail)
 go_cut [19] (fun v19 wc => ∃ (kq : Nat) (x19_1 : Bool), v19 = .bool x19_1 ∧ Aside0 (impl_ArchesOk.j0 kq l0 x19_1 = some r) ∧ Aside0 (kq ≤ k) ∧ Aside0 (Below w.heap.size w wc))
 case first =>
  have H := HC2.out
  clear HC2
  by_cases c3 : ((l0.length : Int) % 2) = 0
  ·rw [if_pos c3] at H
   have c3b0 : (((l0.length : Int) % 2) == 0) = true := beq_iff_eq.mpr c3
   have c3b1 : (((l0.length : Int) % 2) != 0) = false := bne_eq_false_iff_eq.mpr c3
   clear c3
   (first | rw [c3b0] | (simp only [i64_w, i32_w]; rw [c3b0]) | skip)
   by_cases c4 : (l0.length : Int) < 2
   ·rw [if_pos c4] at H
    have c4b0 : decide ((l0.length : Int) < 2) = true := decide_eq_true c4
    have c4b1 : decide (l0.length < 2) = true := decide_eq_true (by omega)
    clear c4
    have H' := Aside0.mk H
    clear H
    go_wp2
    go_meet
    case rel => exact ⟨_, (true), (by first | rfl | (simp; done) | (simp [*]; done)), H', ⟨by first | omega | exact Nat.le_refl _⟩, ⟨hb0_ HB.out⟩⟩
   ·rw [if_neg c4] at H
    have c4b0 : decide ((l0.length : Int) < 2) = false := decide_eq_false c4
    have c4b1 : decide (l0.length < 2) = false := decide_eq_false (by omega)
    clear c4
    have H' := Aside0.mk H
    clear H
    go_wp2
    go_meet
    case rel => exact ⟨_, (decide ((l0.length : Int) > 10)), (by first | rfl | (simp; done) | (simp [*]; done)), H', ⟨by first | omega | exact Nat.le_refl _⟩, ⟨hb0_ HB.out⟩⟩
  ·rw [if_neg c3] at H
   have c3b0 : (((l0.length : Int) % 2) == 0) = false := beq_eq_false_iff_ne.mpr c3
   have c3b1 : (((l0.length : Int) % 2) != 0) = true := bne_iff_ne.mpr c3
   (first | rw [c3b0] | (simp only [i64_w, i32_w]; rw [c3b0]) | skip)
   have H' := Aside0.mk H
   clear H
   go_wp2
   go_meet
   case rel => exact ⟨_, (true), (by first | rfl | (simp; done) | (simp [*]; done)), H', ⟨by first | omega | exact Nat.le_refl _⟩, ⟨hb0_ HB.out⟩⟩
 case rest =>
  clear HC2
  try clear c2
  try clear p2
  try clear c3
  try clear c3b0
  try clear c3b1
  try clear c4
  try clear c4b0
  try clear c4b1
  obtain ⟨kq, x19_1, rfl, HA, HJ1, HB⟩ := hcut
  cases kq with
  | zero => exact absurd HA.out (by simp [impl_ArchesOk.j0])
  | succ kj1 =>
   have H := HA.out
   clear HA
   simp only [impl_ArchesOk.j0] at H
   by_cases c5 : x19_1 = true
   ·subst c5
    have H1 : (some false) = some r := by rw [if_pos rfl] at H; exact H
    clear H
    have H := H1
    clear H1
    obtain rfl := Option.some.inj H
    go_wp2
    go_ret
    exact ⟨ex_, hb0_ HB.out⟩
   ·replace c5 := Bool.eq_false_iff.mpr c5
    subst c5
    have H1 : (impl_ArchesOk.l0 kj1 l0 ([] : List (List Int)) l0 (l0.length : Int) 0) = some r := by rw [if_neg (show ¬ (false = true) by decide)] at H; exact H
    clear H
    have H := H1
    clear H1
    have H' := Aside0.mk H
    clear H
    go_wp2
    go_loopg [3, 22] kj1 (fun kq v3 v22 w' => ∃ (x3_2 : List (List Int)) (x22_2 : Int), v22 = .int .i64 x22_2 ∧ Aside0 (impl_ArchesOk.l0 kq l0 x3_2 l0 (l0.length : Int) x22_2 = some r) ∧ Aside0 (kq ≤ kj1) ∧ Aside0 (Kd.S (Kd.slice 3 (Kd.int .i64)) 22 w' w.heap.size (fun _ => True) v3 x3_2) ∧ Aside0 (Below w.heap.size w w'))
    case atStart => exact ⟨(([] : List (List Int))), (0), (by first | rfl | (simp; done) | (simp [*]; done)), H', ⟨Nat.le_refl _⟩, ⟨by first | exact Kd.S_nil _ _ _ _ _ | exact Kd.N_nil _ _ _ _ _ | exact Kd.V_nil _ _ _ _ _ | exact Kd.Q_nil _ _ _ _ _ | exact Kd.R_nil _ _ _ _ _⟩, ⟨hb0_ HB.out⟩⟩
    case round =>
     clear H'
     try clear c2
     try clear p2
     try clear c3
     try clear c3b0
     try clear c3b1
     try clear c4
     try clear c4b0
     try clear c4b1
     try clear c5
     try clear p2
     obtain ⟨x3_2, x22_2, rfl, HA, HK2, HO_3, HB⟩ := hrel
     cases gk with
     | zero => exact absurd HA.out (by simp [impl_ArchesOk.l0])
     | succ k2 =>
      have H := HA.out
      clear HA
      simp only [impl_ArchesOk.l0] at H
      by_cases c6 : x22_2 < (l0.length : Int)
      ·rw [if_pos c6] at H
       have c6b0 : decide (x22_2 < (l0.length : Int)) = true := decide_eq_true c6
       clear c6
       by_cases c7 : 0 ≤ x22_2
       ·rw [if_pos c7] at H
        have c7b0 : decide (0 ≤ x22_2) = true := decide_eq_true c7
        clear c7
        by_cases c8 : x22_2 < (l0.length : Int)
        ·rw [if_pos c8] at H
         have c8b0 : decide (x22_2 < (l0.length : Int)) = true := decide_eq_true c8
         clear c8
         by_cases c9 : (rd l0 x22_2) < 0
         ·rw [if_pos c9] at H
          have c9b0 : decide ((rd l0 x22_2) < 0) = true := decide_eq_true c9
          clear c9
          obtain rfl := Option.some.inj H
          have p501 : 0 ≤ (x22_2 : Int) := of_decide_eq_true (as_)
          have q501 : x22_2 < (l0.length : Int) := of_decide_eq_true (as_)
          obtain ⟨ad501, e501, hx501_0⟩ := Kd.at_int HR0.out x22_2 p501 q501
          cases e501
          replace hx501_0 := (HB.out.cell (World.block_lt_of_cell? w _ hx501_0)).trans hx501_0
          replace p501 := eq_true p501
          replace q501 := eq_true q501
          go_wp2
          go_ret
          exact ⟨ex_, hb0_ HB.out⟩
         ·rw [if_neg c9] at H
          have c9b0 : decide ((rd l0 x22_2) < 0) = false := decide_eq_false c9
          clear c9
          by_cases c10 : (rd l0 x22_2) ≥ (l0.length : Int)
          ·rw [if_pos c10] at H
           have c10b0 : decide ((l0.length : Int) ≤ (rd l0 x22_2)) = true := decide_eq_true c10
           clear c10
           obtain rfl := Option.some.inj H
           have p501 : 0 ≤ (x22_2 : Int) := of_decide_eq_true (as_)
           have q501 : x22_2 < (l0.length : Int) := of_decide_eq_true (as_)
           obtain ⟨ad501, e501, hx501_0⟩ := Kd.at_int HR0.out x22_2 p501 q501
           cases e501
           replace hx501_0 := (HB.out.cell (World.block_lt_of_cell? w _ hx501_0)).trans hx501_0
           replace p501 := eq_true p501
           replace q501 := eq_true q501
           go_wp2
           go_ret
           exact ⟨ex_, hb0_ HB.out⟩
          ·rw [if_neg c10] at H
           have c10b0 : decide ((l0.length : Int) ≤ (rd l0 x22_2)) = false := decide_eq_false c10
           clear c10
           by_cases c11 : (rd l0 x22_2) = x22_2
           ·rw [if_pos c11] at H
            have c11b0 : ((rd l0 x22_2) == x22_2) = true := beq_iff_eq.mpr c11
            have c11b1 : ((rd l0 x22_2) != x22_2) = false := bne_eq_false_iff_eq.mpr c11
            clear c11
            obtain rfl := Option.some.inj H
            have p501 : 0 ≤ (x22_2 : Int) := of_decide_eq_true (as_)
            have q501 : x22_2 < (l0.length : Int) := of_decide_eq_true (as_)
            obtain ⟨ad501, e501, hx501_0⟩ := Kd.at_int HR0.out x22_2 p501 q501
            cases e501
            replace hx501_0 := (HB.out.cell (World.block_lt_of_cell? w _ hx501_0)).trans hx501_0
            replace p501 := eq_true p501
            replace q501 := eq_true q501
            go_wp2
            go_ret
            exact ⟨ex_, hb0_ HB.out⟩
           ·rw [if_neg c11] at H
            have c11b0 : ((rd l0 x22_2) == x22_2) = false := beq_eq_false_iff_ne.mpr c11
            have c11b1 : ((rd l0 x22_2) != x22_2) = true := bne_iff_ne.mpr c11
            by_cases c12 : 0 ≤ (rd l0 x22_2)
            ·rw [if_pos c12] at H
             have c12b0 : decide (0 ≤ (rd l0 x22_2)) = true := decide_eq_true c12
             clear c12
             by_cases c13 : (rd l0 x22_2) < (l0.length : Int)
             ·rw [if_pos c13] at H
              have c13b0 : decide ((rd l0 x22_2) < (l0.length : Int)) = true := decide_eq_true c13
              clear c13
              by_cases c14 : (rd l0 (rd l0 x22_2)) = x22_2
              ·rw [if_pos c14] at H
               have c14b0 : ((rd l0 (rd l0 x22_2)) == x22_2) = true := beq_iff_eq.mpr c14
               have c14b1 : ((rd l0 (rd l0 x22_2)) != x22_2) = false := bne_eq_false_iff_eq.mpr c14
               clear c14
               obtain ⟨y503, hy503⟩ : ∃ y_ : List Int, y_ = (([x22_2, rd l0 x22_2] : List Int)) := ⟨_, rfl⟩
               replace H : (if x3_2.length < 5864062014805 then (impl_ArchesOk.l0 k2 l0 (x3_2 ++ [y503]) l0 (l0.length : Int) (wrap64 (x22_2 + 1))) else (none)) = some r := by first | (rw [hy503]; with_reducible exact H) | (have H2_ := (Option.bind_some _ _).symm.trans H; rw [hy503]; with_reducible exact H2_) | (have H2_ := (Option.bind_some _ _).symm.trans H; with_reducible exact H2_) | with_reducible exact H | (rw [hy503]; exact H) | exact H
               have Ny503 := Aside0.mk hy503
               clear hy503
               by_cases c15 : x3_2.length < 5864062014805
               ·rw [if_pos c15] at H
                have LMc15 := Aside0.mk c15
                clear c15
                obtain ⟨y506, hy506⟩ : ∃ y_ : List (List Int), y_ = (x3_2 ++ [y503]) := ⟨_, rfl⟩
                replace H : (impl_ArchesOk.l0 k2 l0 y506 l0 (l0.length : Int) (wrap64 (x22_2 + 1))) = some r := by first | (rw [hy506]; with_reducible exact H) | (have H2_ := (Option.bind_some _ _).symm.trans H; rw [hy506]; with_reducible exact H2_) | (have H2_ := (Option.bind_some _ _).symm.trans H; with_reducible exact H2_) | with_reducible exact H | (rw [hy506]; exact H) | exact H
                have Ny506 := Aside0.mk hy506
                clear hy506
                have H' := Aside0.mk H
                clear H
                have p501 : 0 ≤ (x22_2 : Int) := of_decide_eq_true (as_)
                have q501 : x22_2 < (l0.length : Int) := of_decide_eq_true (as_)
                obtain ⟨ad501, e501, hx501_0⟩ := Kd.at_int HR0.out x22_2 p501 q501
                cases e501
                replace hx501_0 := (HB.out.cell (World.block_lt_of_cell? w _ hx501_0)).trans hx501_0
                replace p501 := eq_true p501
                replace q501 := eq_true q501
                have p502 : 0 ≤ ((rd l0 x22_2) : Int) := of_decide_eq_true (as_)
                have q502 : (rd l0 x22_2) < (l0.length : Int) := of_decide_eq_true (as_)
                obtain ⟨ad502, e502, hx502_0⟩ := Kd.at_int HR0.out (rd l0 x22_2) p502 q502
                obtain rfl : ad501 = ad502 := (by injection e502)
                replace hx502_0 := (HB.out.cell (World.block_lt_of_cell? w _ hx502_0)).trans hx502_0
                replace p502 := eq_true p502
                replace q502 := eq_true q502
                go_wp2_with (first | ((with_reducible refine gate_dst (N := 51) rfl ?_); (try (refine gate_guard (by rfl) ?_; dsimp only)); refine Kd.R_lit (Kd.int .i64) _ 3 ?hg (N := 51) ?hd (xs := ([x22_2, rd l0 x22_2] : List Int)) (inner := [.int .i64 x22_2, .int .i64 (rd l0 x22_2)]) (ok := fun _ => True) (okp := fun _ => True) ?hr ?hp (fun _ hk => hk) trivial (Below.refl _ _) (Nat.le_refl _) (by simp) ?_; (case hd => rfl); (case hg => rfl); (case hr => first | (go_simp; done) | (go_simp; rfl)); (case hp => exact (Reps.one (show Kd.M (Kd.int .i64) _ _ _ x22_2 [.int .i64 x22_2] from rfl) (Reps.one (show Kd.M (Kd.int .i64) _ _ _ (rd l0 x22_2) [.int .i64 (rd l0 x22_2)] from rfl) (Reps.none _ _)))); intro v504 w16 ho17 hb hg_ hnew_; clear hg_ hnew_; (first | rw [← Ny503.out] at ho17 | (simp only [Int.reduceToNat] at ho17; rw [← Ny503.out] at ho17)); replace HO_3 := Aside0.mk (Kd.S_elder' (by (with_reducible repeat (first | apply Kd.S_alloc | apply Kd.S_drewN | apply Kd.S_drew)); exact HO_3.out) (Kd.R_base ho17) hb); have HO505 := Aside0.mk (Kd.R_lower ho17 (below_size (hb0_ HB.out))); replace HB := HB.s0 hb; clear hb ho17; obtain ⟨Ao19, co19, eo19⟩ := Kd.R_slice HO505.out; subst eo19) | ((with_reducible refine gate_builtin (b := .append) (xs := #[.tmp 48, .tmp 52]) rfl ?_); (try (refine gate_guard (by rfl) ?_; dsimp only)); at_builtin; refine Kd.S_append (Kd.slice 3 (Kd.int .i64)) (w0 := w) w.heap.size rfl (.tmp 48) (.tmp 52) 23 22 (.slice none 0 0) 24 rfl Try.underlying23 info22 rfl (by decide) (by omega) u3 x3_2 y503 [.slice Ao19 y503.length co19] (fun _ => True) (fun k_ => some k_ = (.slice Ao19 y503.length co19 : Value).ownBlock) rfl rfl ?aP (fun k_ hk_ => ((Kd.R_mono (ok' := fun k_ => ((fun _ => True)) k_ ∧ some k_ ≠ (u3 : Value).ownBlock) (Kd.R_apart' (HO505.out) (Kd.S_typed HO_3.out) (by decide)) (fun k_ hk => ⟨trivial, hk.2⟩))).1 k_ hk_.symm) ?aF ?aO ?aB ?aS ?aL ?_; (case aP => exact Kd.M_row (Kd.R_mono (Kd.R_tight rfl (Kd.R_mono (ok' := fun k_ => ((fun _ => True)) k_ ∧ some k_ ≠ (u3 : Value).ownBlock) (Kd.R_apart' (HO505.out) (Kd.S_typed HO_3.out) (by decide)) (fun k_ hk => ⟨trivial, hk.2⟩))) (fun _ h_ => h_))); (case aB => exact (hb0_ HB.out)); (case aF => exact (fun _ _ => trivial)); (case aO => exact (by (with_reducible repeat (first | apply Kd.S_alloc | apply Kd.S_drewN | apply Kd.S_drew)); exact Kd.S_mono HO_3.out (fun k_ hk => ⟨trivial, fun e_ => hk.2 e_⟩))); (case aS => exact (below_size (hb0_ HB.out))); (case aL => have := LMc15.out; omega); intro v507 w18 ho hb hg hat; rw [← Ny506.out] at ho; replace HB := Aside0.mk (hb); have HO508 := Aside0.mk (ho); clear HO_3; clear HO505; clear ho hb hg hat))
                go_roundg k2
                case measure => have := HJ1.out; have := HK2.out; omega
                case rel => exact ⟨(y506), (wrap64 (x22_2 + 1)), (by first | rfl | (simp; done) | (simp [*]; done)), H', ⟨by have := HJ1.out; have := HK2.out; omega⟩, ⟨by (with_reducible repeat (first | apply Kd.S_alloc | apply Kd.S_drewN | apply Kd.S_drew)); exact HO508.out⟩, ⟨hb0_ HB.out⟩⟩
               ·rw [if_neg c15] at H
                exact absurd H (by simp)
              ·rw [if_neg c14] at H
               have c14b0 : ((rd l0 (rd l0 x22_2)) == x22_2) = false := beq_eq_false_iff_ne.mpr c14
               have c14b1 : ((rd l0 (rd l0 x22_2)) != x22_2) = true := bne_iff_ne.mpr c14
               obtain rfl := Option.some.inj H
               have p501 : 0 ≤ (x22_2 : Int) := of_decide_eq_true (as_)
               have q501 : x22_2 < (l0.length : Int) := of_decide_eq_true (as_)
               obtain ⟨ad501, e501, hx501_0⟩ := Kd.at_int HR0.out x22_2 p501 q501
               cases e501
               replace hx501_0 := (HB.out.cell (World.block_lt_of_cell? w _ hx501_0)).trans hx501_0
               replace p501 := eq_true p501
               replace q501 := eq_true q501
               have p502 : 0 ≤ ((rd l0 x22_2) : Int) := of_decide_eq_true (as_)
               have q502 : (rd l0 x22_2) < (l0.length : Int) := of_decide_eq_true (as_)
               obtain ⟨ad502, e502, hx502_0⟩ := Kd.at_int HR0.out (rd l0 x22_2) p502 q502
               obtain rfl : ad501 = ad502 := (by injection e502)
               replace hx502_0 := (HB.out.cell (World.block_lt_of_cell? w _ hx502_0)).trans hx502_0
               replace p502 := eq_true p502
               replace q502 := eq_true q502
               go_wp2
               go_ret
               exact ⟨ex_, hb0_ HB.out⟩
             ·rw [if_neg c13] at H
              exact absurd H (by simp)
            ·rw [if_neg c12] at H
             exact absurd H (by simp)
        ·rw [if_neg c8] at H
         exact absurd H (by simp)
       ·rw [if_neg c7] at H
        exact absurd H (by simp)
      ·rw [if_neg c6] at H
       have c6b0 : decide (x22_2 < (l0.length : Int)) = false := decide_eq_false c6
       clear c6
       replace H := Option.bind_eq_some_iff.mp H
       obtain ⟨t509, A200, H⟩ := H
       replace H : (some t509) = some r := H
       have A20 := Aside0.mk A200
       clear A200
       obtain rfl := Option.some.inj H
       obtain ⟨Ao21, co21, eo21⟩ := Kd.S_slice HO_3.out
       subst eo21
       go_wp2_with (first | (refine gl_ 56 Try.func40 #[.slice Ao21 x3_2.length co21] ?_; (with_reducible refine (impl_noCross.calls k2 _ _ x3_2 t509 _ ?side1 ?side2 A20.out).mono ?_); (case side1 => repeat (first | exact (Kd.S_reads' HO_3.out).2.2 | (with_reducible refine Kd.C_alloc ?_ _) | (with_reducible refine Kd.C_drewN ?_ _) | (with_reducible refine Kd.C_drew ?_))); (case side2 => exact (Kd.S_reads' HO_3.out).2.1); rintro e w22 ⟨rfl, hb⟩; refine ⟨_, rfl, ?_⟩; replace HO_3 := Aside0.mk (Kd.S_below (by (with_reducible repeat (first | apply Kd.S_alloc | apply Kd.S_drewN | apply Kd.S_drew)); exact HO_3.out) hb); replace HB := HB.s0 hb; (try clear hb)))
       go_ret
       exact ⟨ex_, hb0_ HB.out⟩

end Go.Proofs.Ytkkjlbpffcdlfaa.X
