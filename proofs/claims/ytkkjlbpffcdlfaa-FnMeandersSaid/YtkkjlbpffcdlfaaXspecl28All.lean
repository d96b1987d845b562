-- Written by a program of this session (xprint.py), out of the translation and of hand-written contracts. Lean checks it.
import Derived.Test.YtkkjlbpffcdlfaaX0
import Derived.Test.YtkkjlbpffcdlfaaXspecArchesOk
import Derived.Test.YtkkjlbpffcdlfaaXspecl28Copy
namespace Go.Proofs.Ytkkjlbpffcdlfaa.X
open Go.RowKit Go.Proofs.YtkkjlbpffcdlfaaW.PrintWords Go.Proofs.YtkkjlbpffcdlfaaW.PrintLast Go.Proofs.YtkkjlbpffcdlfaaW.PrintMore
attribute [local go_sem] max2_int min2_int max_two min_two max_three min_three max_four min_four   -- for this text's walks alone
set_option linter.unusedVariables false
set_option linter.unusedSimpArgs false

/-! ### spec_l28All: function 31 -/
mutual
def spec_l28All.l0 : Nat → List Int → Int → Int → Option ((List (List Int)))
 | 0, _, _, _ => none
 | k + 1, x0, x3, x4 => if x4 ≥ 0 then (if 0 ≤ x4 then (if x4 < (x0.length : Int) then (if (rd x0 x4) < 0 then (spec_l28All.l0 k x0 x4 (wrap64 (x4 - 1))) else (spec_l28All.l0 k x0 x3 (wrap64 (x4 - 1)))) else (none)) else (none)) else (if x3 < 0 then ((spec_ArchesOk.f k x0).bind fun t502 => (if t502 = true then ((spec_l28Copy.f x0).bind fun t503 => (some (([t503] : List (List Int))))) else (some (([] : List (List Int)))))) else (spec_l28All.l1 k x0 x3 (([] : List (List Int))) (wrap64 (x3 + 1))))
def spec_l28All.l1 : Nat → List Int → Int → List (List Int) → Int → Option ((List (List Int)))
 | 0, _, _, _, _ => none
 | k + 1, x0, x3, x5, x6 => if x6 < (x0.length : Int) then (if 0 ≤ x6 then (if (rd x0 x6) < 0 then ((spec_l28Copy.f x0).bind fun t516 => (if 0 ≤ x3 then (if x3 < (t516.length : Int) then (if x6 < (t516.length : Int) then ((spec_l28All.f k ((t516.set (x3 : Int).toNat x6).set (x6 : Int).toNat x3)).bind fun t521 => (if x5.length + t521.length < 5864062014805 then (spec_l28All.l1 k x0 x3 (x5 ++ t521) (wrap64 (x6 + 2))) else (none))) else (none)) else (none)) else (none))) else (spec_l28All.l1 k x0 x3 x5 (wrap64 (x6 + 2)))) else (none)) else (some x5)
def spec_l28All.f : Nat → List Int → Option ((List (List Int)))
 | 0, _ => none
 | k + 1, l0 => spec_l28All.l0 k l0 (-1) (wrap64 ((l0.length : Int) - 1))
end
theorem spec_l28All.mono_l : ∀ k, (∀ y0, LeO (spec_l28All.f k y0) (spec_l28All.f (k + 1) y0)) ∧ (∀ y0 y1 y2, LeO (spec_l28All.l0 k y0 y1 y2) (spec_l28All.l0 (k + 1) y0 y1 y2)) ∧ (∀ y0 y1 y2 y3, LeO (spec_l28All.l1 k y0 y1 y2 y3) (spec_l28All.l1 (k + 1) y0 y1 y2 y3))
 | 0 => ⟨fun _ r h => by simp [spec_l28All.f] at h, fun _ _ _ r h => by simp [spec_l28All.l0] at h, fun _ _ _ _ r h => by simp [spec_l28All.l1] at h⟩
 | k + 1 => by
  obtain ⟨ih0, ih1, ih2⟩ := spec_l28All.mono_l k
  refine ⟨?_, ?_, ?_⟩
  ·intro y0
   unfold spec_l28All.f
   repeat' first
   | (with_reducible exact ih0 _)
   | (with_reducible exact ih1 ..)
   | (with_reducible exact ih2 ..)
   | (with_reducible exact spec_ArchesOk.mono ..)
   | (with_reducible first | exact lr_ _ | exact ln_ _ | refine li_ ?_ ?_ | refine lb_ ?_ fun _ => ?_)
   | exact ih0 _
   | exact ih1 ..
   | exact ih2 ..
   | exact spec_ArchesOk.mono ..
   | exact ln_ _ | refine li_ ?_ ?_ | refine lb_ ?_ fun _ => ?_
  ·intro y0 y1 y2
   unfold spec_l28All.l0
   repeat' first
   | (with_reducible exact ih0 _)
   | (with_reducible exact ih1 ..)
   | (with_reducible exact ih2 ..)
   | (with_reducible exact spec_ArchesOk.mono ..)
   | (with_reducible first | exact lr_ _ | exact ln_ _ | refine li_ ?_ ?_ | refine lb_ ?_ fun _ => ?_)
   | exact ih0 _
   | exact ih1 ..
   | exact ih2 ..
   | exact spec_ArchesOk.mono ..
   | exact ln_ _ | refine li_ ?_ ?_ | refine lb_ ?_ fun _ => ?_
  ·intro y0 y1 y2 y3
   unfold spec_l28All.l1
   repeat' first
   | (with_reducible exact ih0 _)
   | (with_reducible exact ih1 ..)
   | (with_reducible exact ih2 ..)
   | (with_reducible exact spec_ArchesOk.mono ..)
   | (with_reducible first | exact lr_ _ | exact ln_ _ | refine li_ ?_ ?_ | refine lb_ ?_ fun _ => ?_)
   | exact ih0 _
   | exact ih1 ..
   | exact ih2 ..
   | exact spec_ArchesOk.mono ..
   | exact ln_ _ | refine li_ ?_ ?_ | refine lb_ ?_ fun _ => ?_
theorem spec_l28All.mono : ∀ a0 k, LeO (spec_l28All.f k a0) (spec_l28All.f (k + 1) a0) := by
 intro a0 k
 obtain ⟨ih0, ih1, ih2⟩ := spec_l28All.mono_l k
 exact ih0 a0
set_option maxHeartbeats 8000000 in
set_option maxRecDepth 100000 in
theorem spec_l28All.calls (k : Nat) : ∀ (A0 : Option Addr) (c0 : Nat) (l0 : List Int) (r : List (List Int)) (w : World) (hr0 : Kd.C (Kd.int .i64) w A0 l0.length l0) (hc0 : l0.length ≤ c0) (h : spec_l28All.f k l0 = some r),
  Calls Try.prog 31 #[.slice A0 l0.length c0] w fun e w' => ∃ v0_ : Value, e = .returned (v0_) ∧ Kd.N (Kd.slice 3 (Kd.int .i64)) 22 w' w.heap.size (fun k_ => (w.heap.size ≤ k_)) v0_ r ∧ Below w.heap.size w w' := by
 induction k using Nat.strongRecOn with
 | _ k ih =>
 intro A0 c0 l0 r w hr0 hc0 h
 cases k with
 | zero => exact absurd h (by simp [spec_l28All.f])
 | succ k =>
 simp only [spec_l28All.f] at h
 have HR0 := Aside0.mk hr0
 have HC0 := Aside0.mk hc0
 clear hr0 hc0
 have HB := Aside0.mk (Below.refl w.heap.size w)
 have H : (spec_l28All.l0 k l0 (-1) (wrap64 ((l0.length : Int) - 1))) = some r := h
 clear h
 have H' := Aside0.mk H
 clear H
 go_enter Try.func31, Try.ntmps31
 go_wp2
 go_loopg [3, 4] k (fun kq v3 v4 w' => ∃ (x3_1 : Int) (x4_1 : Int), v3 = .int .i64 x3_1 ∧ v4 = .int .i64 x4_1 ∧ Aside0 (spec_l28All.l0 kq l0 x3_1 x4_1 = some r) ∧ Aside0 (kq ≤ k) ∧ Aside0 (Below w.heap.size w w'))
 case atStart => exact ⟨((-1)), (wrap64 ((l0.length : Int) - 1)), (by first | rfl | (simp; done) | (simp [*]; done)), (by first | rfl | (simp; done) | (simp [*]; done)), H', ⟨Nat.le_refl _⟩, ⟨hb0_ HB.out⟩⟩
 case round =>
  clear H'
  obtain ⟨x3_1, x4_1, rfl, rfl, HA, HK1, HB⟩ := hrel
  cases gk with
  | zero => exact absurd HA.out (by simp [spec_l28All.l0])
  | succ k1 =>
   have H := HA.out
   clear HA
   simp only [spec_l28All.l0] at H
   by_cases c2 : x4_1 ≥ 0
   ·rw [if_pos c2] at H
    have c2b0 : decide (0 ≤ x4_1) = true := decide_eq_true c2
    clear c2
    by_cases c3 : 0 ≤ x4_1
    ·rw [if_pos c3] at H
     have c3b0 : decide (0 ≤ x4_1) = true := decide_eq_true c3
     clear c3
     by_cases c4 : x4_1 < (l0.length : Int)
     ·rw [if_pos c4] at H
      have c4b0 : decide (x4_1 < (l0.length : Int)) = true := decide_eq_true c4
      clear c4
      by_cases c5 : (rd l0 x4_1) < 0
      ·rw [if_pos c5] at H
       have c5b0 : decide ((rd l0 x4_1) < 0) = true := decide_eq_true c5
       clear c5
       have H' := Aside0.mk H
       clear H
       have p501 : 0 ≤ (x4_1 : Int) := of_decide_eq_true (as_)
       have q501 : x4_1 < (l0.length : Int) := of_decide_eq_true (as_)
       obtain ⟨ad501, e501, hx501_0⟩ := Kd.at_int HR0.out x4_1 p501 q501
       cases e501
       replace hx501_0 := (HB.out.cell (World.block_lt_of_cell? w _ hx501_0)).trans hx501_0
       replace p501 := eq_true p501
       replace q501 := eq_true q501
       go_wp2
       go_roundg k1
       case measure => have := HK1.out; omega
       case rel => exact ⟨(x4_1), (wrap64 (x4_1 - 1)), (by first | rfl | (simp; done) | (simp [*]; done)), (by first | rfl | (simp; done) | (simp [*]; done)), H', ⟨by have := HK1.out; omega⟩, ⟨hb0_ HB.out⟩⟩
      ·rw [if_neg c5] at H
       have c5b0 : decide ((rd l0 x4_1) < 0) = false := decide_eq_false c5
       clear c5
       have H' := Aside0.mk H
       clear H
       have p501 : 0 ≤ (x4_1 : Int) := of_decide_eq_true (as_)
       have q501 : x4_1 < (l0.length : Int) := of_decide_eq_true (as_)
       obtain ⟨ad501, e501, hx501_0⟩ := Kd.at_int HR0.out x4_1 p501 q501
       cases e501
       replace hx501_0 := (HB.out.cell (World.block_lt_of_cell? w _ hx501_0)).trans hx501_0
       replace p501 := eq_true p501
       replace q501 := eq_true q501
       go_wp2
       go_roundg k1
       case measure => have := HK1.out; omega
       case rel => exact ⟨(x3_1), (wrap64 (x4_1 - 1)), (by first | rfl | (simp; done) | (simp [*]; done)), (by first | rfl | (simp; done) | (simp [*]; done)), H', ⟨by have := HK1.out; omega⟩, ⟨hb0_ HB.out⟩⟩
     ·rw [if_neg c4] at H
      exact absurd H (by simp)
    ·rw [if_neg c3] at H
     exact absurd H (by simp)
   ·rw [if_neg c2] at H
    have c2b0 : decide (0 ≤ x4_1) = false := decide_eq_false c2
    clear c2
    by_cases c6 : x3_1 < 0
    ·rw [if_pos c6] at H
     have c6b0 : decide (x3_1 < 0) = true := decide_eq_true c6
     clear c6
     replace H := Option.bind_eq_some_iff.mp H
     obtain ⟨t502, A70, H⟩ := H
     replace H : (if t502 = true then ((spec_l28Copy.f l0).bind fun t503 => (some (([t503] : List (List Int))))) else (some (([] : List (List Int))))) = some r := H
     have A7 := Aside0.mk A70
     clear A70
     by_cases c8 : t502 = true
     ·subst c8
      have H1 : ((spec_l28Copy.f l0).bind fun t503 => (some (([t503] : List (List Int))))) = some r := by rw [if_pos rfl] at H; exact H
      clear H
      have H := H1
      clear H1
      replace H := Option.bind_eq_some_iff.mp H
      obtain ⟨t503, A90, H⟩ := H
      replace H : (some (([t503] : List (List Int)))) = some r := H
      have A9 := Aside0.mk A90
      clear A90
      obtain ⟨y506, hy506⟩ : ∃ y_ : List (List Int), y_ = (([t503] : List (List Int))) := ⟨_, rfl⟩
      replace H : (some y506) = some r := by first | (rw [hy506]; with_reducible exact H) | (have H2_ := (Option.bind_some _ _).symm.trans H; rw [hy506]; with_reducible exact H2_) | (have H2_ := (Option.bind_some _ _).symm.trans H; with_reducible exact H2_) | with_reducible exact H | (rw [hy506]; exact H) | exact H
      have Ny506 := Aside0.mk hy506
      clear hy506
      obtain rfl := Option.some.inj H
      go_wp2_with (first | (refine gl_ 24 Try.func43 #[.slice A0 l0.length c0] ?_; (with_reducible refine (spec_ArchesOk.calls k1 _ _ l0 true _ ?side1 ?side2 A7.out).mono ?_); (case side1 => repeat (first | exact (Kd.C_below HR0.out HB.out) | (with_reducible refine Kd.C_alloc ?_ _) | (with_reducible refine Kd.C_drewN ?_ _) | (with_reducible refine Kd.C_drew ?_))); (case side2 => exact HC0.out); rintro e w10 ⟨rfl, hb⟩; refine ⟨_, rfl, ?_⟩; replace HB := HB.s0 hb; (try clear hb)) | (refine gl_ 26 Try.func44 #[.slice A0 l0.length c0] ?_; (with_reducible refine (spec_l28Copy.calls _ _ l0 t503 _ ?side1 ?side2 A9.out).mono ?_); (case side1 => repeat (first | exact (Kd.C_below HR0.out HB.out) | (with_reducible refine Kd.C_alloc ?_ _) | (with_reducible refine Kd.C_drewN ?_ _) | (with_reducible refine Kd.C_drew ?_))); (case side2 => exact HC0.out); rintro e w11 ⟨v504, rfl, ho0, hb⟩; refine ⟨_, rfl, ?_⟩; have HO505 := Aside0.mk (Kd.R_lower (Kd.R_newM (M := fun k_ => (w.heap.size ≤ k_)) ho0 (below_size (hb0_ HB.out)) (fun k_ h_ => h_)) (below_size (hb0_ HB.out))); replace HB := HB.s0 hb; (try clear hb); (try clear ho0); obtain ⟨Ao12, co12, eo12⟩ := Kd.R_slice HO505.out; subst eo12) | ((with_reducible refine gate_dst (N := 27) rfl ?_); refine Kd.N_lit (Kd.slice 3 (Kd.int .i64)) _ 22 ?hg (N' := 27) ?hd (xs := ([t503] : List (List Int))) (inner := [.slice Ao12 t503.length co12]) (ok := (fun k_ => (w.heap.size ≤ k_))) (okp := (fun k_ => (w.heap.size ≤ k_))) ?hr ?hp (fun _ hk => hk) ((show ∀ k_, w11.heap.size ≤ k_ → (fun k_ => (w.heap.size ≤ k_)) k_ from fun k_ hk => (Nat.le_trans (below_size (hb0_ HB.out)) hk)) _ (Nat.le_refl _)) (Below.refl _ _) (Nat.le_refl _) (by simp) ?_; (case hd => rfl); (case hg => rfl); (case hr => first | (go_simp; done) | (go_simp; rfl)); (case hp => exact (Reps.one (show Kd.FK (Kd.slice 3 (Kd.int .i64)) _ _ t503 [.slice Ao12 t503.length co12] from (Kd.FK_slice_mk (Kd.R_reads' (Kd.R_mono (ok' := (fun k_ => (w.heap.size ≤ k_))) (HO505.out) (fun k_ hk => hk.1))).2.1 (Kd.R_F (Kd.R_mono (ok' := (fun k_ => (w.heap.size ≤ k_))) (HO505.out) (fun k_ hk => hk.1))))) (Reps.none _ _))); intro v507 w13 ho14 hb hg_ hnew_; clear hg_ hnew_; (first | rw [← Ny506.out] at ho14 | (simp only [Int.reduceToNat] at ho14; rw [← Ny506.out] at ho14)); have HO508 := Aside0.mk (Kd.N_lower ho14 (below_size (hb0_ HB.out))); replace HB := HB.s0 hb; clear HO505; clear hb ho14))
      go_ret
      exact ⟨_, ex_, by (with_reducible repeat (first | apply Kd.N_alloc | apply Kd.N_drewN | apply Kd.N_drew)); exact HO508.out, hb0_ HB.out⟩
     ·replace c8 := Bool.eq_false_iff.mpr c8
      subst c8
      have H1 : (some (([] : List (List Int)))) = some r := by rw [if_neg (show ¬ (false = true) by decide)] at H; exact H
      clear H
      have H := H1
      clear H1
      obtain ⟨y509, hy509⟩ : ∃ y_ : List (List Int), y_ = (([] : List (List Int))) := ⟨_, rfl⟩
      replace H : (some y509) = some r := by first | (rw [hy509]; with_reducible exact H) | (have H2_ := (Option.bind_some _ _).symm.trans H; rw [hy509]; with_reducible exact H2_) | (have H2_ := (Option.bind_some _ _).symm.trans H; with_reducible exact H2_) | with_reducible exact H | (rw [hy509]; exact H) | exact H
      have Ny509 := Aside0.mk hy509
      clear hy509
      obtain rfl := Option.some.inj H
      go_wp2_with (first | (refine gl_ 24 Try.func43 #[.slice A0 l0.length c0] ?_; (with_reducible refine (spec_ArchesOk.calls k1 _ _ l0 false _ ?side1 ?side2 A7.out).mono ?_); (case side1 => repeat (first | exact (Kd.C_below HR0.out HB.out) | (with_reducible refine Kd.C_alloc ?_ _) | (with_reducible refine Kd.C_drewN ?_ _) | (with_reducible refine Kd.C_drew ?_))); (case side2 => exact HC0.out); rintro e w15 ⟨rfl, hb⟩; refine ⟨_, rfl, ?_⟩; replace HB := HB.s0 hb; (try clear hb)) | ((with_reducible refine gate_dst (N := 28) rfl ?_); refine Kd.N_lit (Kd.slice 3 (Kd.int .i64)) _ 22 ?hg (N' := 28) ?hd (xs := ([] : List (List Int))) (inner := []) (ok := (fun k_ => (w.heap.size ≤ k_))) (okp := (fun k_ => (w.heap.size ≤ k_))) ?hr ?hp (fun _ hk => hk) ((show ∀ k_, w15.heap.size ≤ k_ → (fun k_ => (w.heap.size ≤ k_)) k_ from fun k_ hk => (Nat.le_trans (below_size (hb0_ HB.out)) hk)) _ (Nat.le_refl _)) (Below.refl _ _) (Nat.le_refl _) (by simp) ?_; (case hd => rfl); (case hg => rfl); (case hr => first | (go_simp; done) | (go_simp; rfl)); (case hp => exact (Reps.none _ _)); intro v510 w16 ho17 hb hg_ hnew_; clear hg_ hnew_; (first | rw [← Ny509.out] at ho17 | (simp only [Int.reduceToNat] at ho17; rw [← Ny509.out] at ho17)); have HO511 := Aside0.mk (Kd.N_lower ho17 (below_size (hb0_ HB.out))); replace HB := HB.s0 hb; clear hb ho17))
      go_ret
      exact ⟨_, ex_, by (with_reducible repeat (first | apply Kd.N_alloc | apply Kd.N_drewN | apply Kd.N_drew)); exact HO511.out, hb0_ HB.out⟩
    ·rw [if_neg c6] at H
     have c6b0 : decide (x3_1 < 0) = false := decide_eq_false c6
     clear c6
     obtain ⟨y512, hy512⟩ : ∃ y_ : List (List Int), y_ = (([] : List (List Int))) := ⟨_, rfl⟩
     replace H : (spec_l28All.l1 k1 l0 x3_1 y512 (wrap64 (x3_1 + 1))) = some r := by first | (rw [hy512]; with_reducible exact H) | (have H2_ := (Option.bind_some _ _).symm.trans H; rw [hy512]; with_reducible exact H2_) | (have H2_ := (Option.bind_some _ _).symm.trans H; with_reducible exact H2_) | with_reducible exact H | (rw [hy512]; exact H) | exact H
     have Ny512 := Aside0.mk hy512
     clear hy512
     have H' := Aside0.mk H
     clear H
     go_wp2_with (first | ((with_reducible refine gate_dst (N := 29) rfl ?_); refine Kd.N_lit (Kd.slice 3 (Kd.int .i64)) _ 22 ?hg (N' := 29) ?hd (xs := ([] : List (List Int))) (inner := []) (ok := (fun k_ => (w.heap.size ≤ k_))) (okp := (fun k_ => (w.heap.size ≤ k_))) ?hr ?hp (fun _ hk => hk) ((show ∀ k_, wr.heap.size ≤ k_ → (fun k_ => (w.heap.size ≤ k_)) k_ from fun k_ hk => (Nat.le_trans (below_size (hb0_ HB.out)) hk)) _ (Nat.le_refl _)) (Below.refl _ _) (Nat.le_refl _) (by simp) ?_; (case hd => rfl); (case hg => rfl); (case hr => first | (go_simp; done) | (go_simp; rfl)); (case hp => exact (Reps.none _ _)); intro v513 w18 ho19 hb hg_ hnew_; clear hg_ hnew_; (first | rw [← Ny512.out] at ho19 | (simp only [Int.reduceToNat] at ho19; rw [← Ny512.out] at ho19)); have HO514 := Aside0.mk (Kd.N_lower ho19 (below_size (hb0_ HB.out))); replace HB := HB.s0 hb; clear hb ho19))
     go_loopg [5, 6] k1 (fun kq v5 v6 w' => ∃ (x5_2 : List (List Int)) (x6_2 : Int), v6 = .int .i64 x6_2 ∧ Aside0 (spec_l28All.l1 kq l0 x3_1 x5_2 x6_2 = some r) ∧ Aside0 (kq ≤ k1) ∧ Aside0 (Kd.N (Kd.slice 3 (Kd.int .i64)) 22 w' w.heap.size (fun k_ => (w.heap.size ≤ k_)) v5 x5_2) ∧ Aside0 (Below w.heap.size w w'))
     case atStart => exact ⟨(y512), (wrap64 (x3_1 + 1)), (by first | rfl | (simp; done) | (simp [*]; done)), H', ⟨Nat.le_refl _⟩, ⟨by (with_reducible repeat (first | apply Kd.N_alloc | apply Kd.N_drewN | apply Kd.N_drew)); exact HO514.out⟩, ⟨hb0_ HB.out⟩⟩
     case round =>
      clear H'
      try clear c2
      try clear c2b0
      try clear p2
      try clear c3
      try clear c3b0
      try clear c4
      try clear c4b0
      try clear c5
      try clear c5b0
      try clear p5
      try clear q5
      try clear hx5
      try clear c6
      try clear c6b0
      try clear p6
      try clear c8
      try clear hx501_0
      try clear p501
      try clear q501
      obtain ⟨x5_2, x6_2, rfl, HA, HK2, HO_5, HB⟩ := hrel
      cases gk with
      | zero => exact absurd HA.out (by simp [spec_l28All.l1])
      | succ k2 =>
       have H := HA.out
       clear HA
       simp only [spec_l28All.l1] at H
       by_cases c20 : x6_2 < (l0.length : Int)
       ·rw [if_pos c20] at H
        have c20b0 : decide (x6_2 < (l0.length : Int)) = true := decide_eq_true c20
        clear c20
        by_cases c21 : 0 ≤ x6_2
        ·rw [if_pos c21] at H
         have c21b0 : decide (0 ≤ x6_2) = true := decide_eq_true c21
         clear c21
         by_cases c22 : (rd l0 x6_2) < 0
         ·rw [if_pos c22] at H
          have c22b0 : decide ((rd l0 x6_2) < 0) = true := decide_eq_true c22
          clear c22
          replace H := Option.bind_eq_some_iff.mp H
          obtain ⟨t516, A230, H⟩ := H
          replace H : (if 0 ≤ x3_1 then (if x3_1 < (t516.length : Int) then (if x6_2 < (t516.length : Int) then ((spec_l28All.f k2 ((t516.set (x3_1 : Int).toNat x6_2).set (x6_2 : Int).toNat x3_1)).bind fun t521 => (if x5_2.length + t521.length < 5864062014805 then (spec_l28All.l1 k2 l0 x3_1 (x5_2 ++ t521) (wrap64 (x6_2 + 2))) else (none))) else (none)) else (none)) else (none)) = some r := H
          have A23 := Aside0.mk A230
          clear A230
          by_cases c24 : 0 ≤ x3_1
          ·rw [if_pos c24] at H
           have c24b0 : decide (0 ≤ x3_1) = true := decide_eq_true c24
           clear c24
           by_cases c25 : x3_1 < (t516.length : Int)
           ·rw [if_pos c25] at H
            have c25b0 : decide (x3_1 < (t516.length : Int)) = true := decide_eq_true c25
            clear c25
            obtain ⟨y519, hy519⟩ : ∃ y_ : List Int, y_ = (t516.set (x3_1 : Int).toNat x6_2) := ⟨_, rfl⟩
            replace H : (if x6_2 < (t516.length : Int) then ((spec_l28All.f k2 (y519.set (x6_2 : Int).toNat x3_1)).bind fun t521 => (if x5_2.length + t521.length < 5864062014805 then (spec_l28All.l1 k2 l0 x3_1 (x5_2 ++ t521) (wrap64 (x6_2 + 2))) else (none))) else (none)) = some r := by first | (rw [hy519]; with_reducible exact H) | (have H2_ := (Option.bind_some _ _).symm.trans H; rw [hy519]; with_reducible exact H2_) | (have H2_ := (Option.bind_some _ _).symm.trans H; with_reducible exact H2_) | with_reducible exact H | (rw [hy519]; exact H) | exact H
            have Ny519 := Aside0.mk hy519
            clear hy519
            by_cases c27 : x6_2 < (t516.length : Int)
            ·rw [if_pos c27] at H
             have c27b0 : decide (x6_2 < (t516.length : Int)) = true := decide_eq_true c27
             clear c27
             obtain ⟨y520, hy520⟩ : ∃ y_ : List Int, y_ = (y519.set (x6_2 : Int).toNat x3_1) := ⟨_, rfl⟩
             replace H : ((spec_l28All.f k2 y520).bind fun t521 => (if x5_2.length + t521.length < 5864062014805 then (spec_l28All.l1 k2 l0 x3_1 (x5_2 ++ t521) (wrap64 (x6_2 + 2))) else (none))) = some r := by first | (rw [hy520]; with_reducible exact H) | (have H2_ := (Option.bind_some _ _).symm.trans H; rw [hy520]; with_reducible exact H2_) | (have H2_ := (Option.bind_some _ _).symm.trans H; with_reducible exact H2_) | with_reducible exact H | (rw [hy520]; exact H) | exact H
             have Ny520 := Aside0.mk hy520
             clear hy520
             replace H := Option.bind_eq_some_iff.mp H
             obtain ⟨t521, A290, H⟩ := H
             replace H : (if x5_2.length + t521.length < 5864062014805 then (spec_l28All.l1 k2 l0 x3_1 (x5_2 ++ t521) (wrap64 (x6_2 + 2))) else (none)) = some r := H
             have A29 := Aside0.mk A290
             clear A290
             by_cases c30 : x5_2.length + t521.length < 5864062014805
             ·rw [if_pos c30] at H
              have LMc30 := Aside0.mk c30
              clear c30
              obtain ⟨y524, hy524⟩ : ∃ y_ : List (List Int), y_ = (x5_2 ++ t521) := ⟨_, rfl⟩
              replace H : (spec_l28All.l1 k2 l0 x3_1 y524 (wrap64 (x6_2 + 2))) = some r := by first | (rw [hy524]; with_reducible exact H) | (have H2_ := (Option.bind_some _ _).symm.trans H; rw [hy524]; with_reducible exact H2_) | (have H2_ := (Option.bind_some _ _).symm.trans H; with_reducible exact H2_) | with_reducible exact H | (rw [hy524]; exact H) | exact H
              have Ny524 := Aside0.mk hy524
              clear hy524
              have H' := Aside0.mk H
              clear H
              have p515 : 0 ≤ (x6_2 : Int) := of_decide_eq_true (as_)
              have q515 : x6_2 < (l0.length : Int) := of_decide_eq_true (as_)
              obtain ⟨ad515, e515, hx515_0⟩ := Kd.at_int HR0.out x6_2 p515 q515
              cases e515
              replace hx515_0 := (HB.out.cell (World.block_lt_of_cell? w _ hx515_0)).trans hx515_0
              replace p515 := eq_true p515
              replace q515 := eq_true q515
              go_wp2_with (first | (refine gl_ 44 Try.func44 #[.slice (some ad515) l0.length c0] ?_; (with_reducible refine (spec_l28Copy.calls _ _ l0 t516 _ ?side1 ?side2 A23.out).mono ?_); (case side1 => repeat (first | exact (Kd.C_below HR0.out HB.out) | (with_reducible refine Kd.C_alloc ?_ _) | (with_reducible refine Kd.C_drewN ?_ _) | (with_reducible refine Kd.C_drew ?_))); (case side2 => exact HC0.out); rintro e w31 ⟨v517, rfl, ho0, hb⟩; refine ⟨_, rfl, ?_⟩; replace HO_5 := Aside0.mk (Kd.N_elder' (by (with_reducible repeat (first | apply Kd.N_alloc | apply Kd.N_drewN | apply Kd.N_drew)); exact HO_5.out) (Kd.R_base ho0) hb); have HO518 := Aside0.mk (Kd.R_lower (Kd.R_newM (M := fun k_ => (w.heap.size ≤ k_)) ho0 (below_size (hb0_ HB.out)) (fun k_ h_ => h_)) (below_size (hb0_ HB.out))); replace HB := HB.s0 hb; (try clear hb); (try clear ho0); have p26 : 0 ≤ (x3_1 : Int) := of_decide_eq_true (as_); have q26 : (x3_1 : Int) < ((t516.length : Int) : Int) := of_decide_eq_true (as_); obtain ⟨go26, co26, eo26, gb26, gl26, cl26, HG26⟩ := Kd.R_form HO518.out (by omega); (first | cases eo26 | (injection eo26 with ea_ en_ ec_; (first | subst ea_ | (injection ea_ with ea_; subst ea_)); subst ec_; clear en_)); have GB26 := Aside0.mk gb26; have GG26 := Aside0.mk HG26; clear gb26 gl26 HG26; obtain ⟨hx26_0, hf26_0⟩ := Kd.R_celln 0 HO518.out (x3_1 : Int) p26 q26; replace p26 := eq_true p26; replace q26 := eq_true q26; have n_ := Aside0.mk (Kd.R_mono (ok' := (fun k_ => (w.heap.size ≤ k_))) HO518.out (fun k_ hk => hk.1)); clear HO518; have HO518 := n_; clear n_; obtain ⟨hy32_, hz32_⟩ := Kd.R_celln 0 HO518.out (x3_1 : Int) (of_decide_eq_true (as_)) (of_decide_eq_true (as_)); have HP32 := Kd.R_putg HO518.out (x3_1 : Int) x6_2) | ((with_reducible refine gate_store (t := 3) (p := 48) rfl ?_); refine store_event (t := 3) (p := 48) (v := ?vo_w33) (w1 := (w31.setCell ⟨go26, (x3_1 : Int).toNat, none⟩ (.int .i64 x6_2))) ?hg ?ho ?hn ?hr ?_; (case ho => rfl); (case hg => rfl); (case hn => rfl); (case hr => first | (go_simp; done) | (go_simp; rfl)); intro w33 hw; have hg : w31.grownBy w33 (some go26) := (by rw [hw]; exact HP32.2); have hp_ : Kd.R (Kd.int .i64) 3 w33 w.heap.size (fun k_ => (w.heap.size ≤ k_)) (.slice (some ⟨go26, 0, none⟩) t516.length co26) y519 := (by rw [hw, Ny519.out]; exact HP32.1); clear HP32; replace HO_5 := Aside0.mk (Kd.N_afterv (v := (.slice (some ⟨go26, 0, none⟩) t516.length co26)) (v1 := (.slice (some ⟨go26, 0, none⟩) t516.length co26)) (ok := (fun k_ => (w.heap.size ≤ k_))) (by (with_reducible repeat (first | apply Kd.N_alloc | apply Kd.N_drewN | apply Kd.N_drew)); exact HO_5.out) hg (.inl rfl)); replace HO518 := Aside0.mk (hp_); replace HB := Aside0.mk ((by rw [hw]; exact below_set (HB.out) GB26.out : Below w.heap.size w w33)); clear hg hw hp_; have p28 : 0 ≤ (x6_2 : Int) := of_decide_eq_true (as_); have q28 : (x6_2 : Int) < ((t516.length : Int) : Int) := of_decide_eq_true (as_); obtain ⟨hx28_0, hf28_0⟩ := Kd.R_celln 0 HO518.out (x6_2 : Int) p28 q28; replace p28 := eq_true p28; replace q28 := eq_true q28; obtain ⟨hy34_, hz34_⟩ := Kd.R_celln 0 HO518.out (x6_2 : Int) (of_decide_eq_true (as_)) (of_decide_eq_true (as_)); have HP34 := Kd.R_putg HO518.out (x6_2 : Int) x3_1) | ((with_reducible refine gate_store (t := 3) (p := 52) rfl ?_); refine store_event (t := 3) (p := 52) (v := ?vo_w35) (w1 := (w33.setCell ⟨go26, (x6_2 : Int).toNat, none⟩ (.int .i64 x3_1))) ?hg ?ho ?hn ?hr ?_; (case ho => rfl); (case hg => rfl); (case hn => rfl); (case hr => first | (go_simp; done) | (go_simp; rfl)); intro w35 hw; have hg : w33.grownBy w35 (some go26) := (by rw [hw]; exact HP34.2); have hp_ : Kd.R (Kd.int .i64) 3 w35 w.heap.size (fun k_ => (w.heap.size ≤ k_)) (.slice (some ⟨go26, 0, none⟩) t516.length co26) y520 := (by rw [hw, Ny520.out]; exact HP34.1); clear HP34; replace HO_5 := Aside0.mk (Kd.N_afterv (v := (.slice (some ⟨go26, 0, none⟩) t516.length co26)) (v1 := (.slice (some ⟨go26, 0, none⟩) t516.length co26)) (ok := (fun k_ => (w.heap.size ≤ k_))) (by (with_reducible repeat (first | apply Kd.N_alloc | apply Kd.N_drewN | apply Kd.N_drew)); exact HO_5.out) hg (.inl rfl)); replace HO518 := Aside0.mk (hp_); replace HB := Aside0.mk ((by rw [hw]; exact below_set (HB.out) GB26.out : Below w.heap.size w w35)); clear hg hw hp_) | ((with_reducible refine gate_callee (f := 31) rfl ?_); refine goesL_ (some 55) rfl rfl Try.func31 (by kernel_rfl) rfl #[.slice (some ⟨go26, 0, none⟩) y520.length co26] rfl (by (try simp only [List.map_toArray, List.map_cons, List.map_nil]); first | done | (rw [show y520.length = t516.length from (Kd.R_reads' HO518.out).1.symm] <;> rfl) | rfl | (simp only [List.length_drop, List.length_take]; rfl)) ?_; (with_reducible refine (ih k2 (by have := HK1.out; have := HK2.out; omega) _ _ y520 t521 _ ?side1 ?side2 A29.out).mono ?_); (case side1 => repeat (first | exact (Kd.R_reads' HO518.out).2.2 | (with_reducible refine Kd.C_alloc ?_ _) | (with_reducible refine Kd.C_drewN ?_ _) | (with_reducible refine Kd.C_drew ?_))); (case side2 => rw [show y520.length = t516.length from (Kd.R_reads' HO518.out).1.symm]; exact (Kd.R_reads' HO518.out).2.1); rintro e w36 ⟨v522, rfl, ho0, hb⟩; refine ⟨_, rfl, ?_⟩; have n0_ := Aside0.mk (Kd.N_elder' (by (with_reducible repeat (first | apply Kd.N_alloc | apply Kd.N_drewN | apply Kd.N_drew)); exact HO_5.out) (Kd.N_base ho0) hb); have n1_ := HO518.kb hb; have n2_ := Aside0.mk (Kd.N_lower (Kd.N_mono (ok' := fun k_ => (w.heap.size ≤ k_) ∧ some k_ ≠ (u5 : Value).ownBlock ∧ some k_ ≠ (.slice (some ⟨go26, 0, none⟩) t516.length co26 : Value).ownBlock) ho0 (fun k_ hk_ => ⟨(Nat.le_trans (below_size (hb0_ HB.out)) hk_), (Kd.fresh' (Kd.N_lt (by (with_reducible repeat (first | apply Kd.N_alloc | apply Kd.N_drewN | apply Kd.N_drew)); exact HO_5.out)) k_ hk_), (Kd.fresh' (Kd.R_lt (kr_ HO518.out)) k_ hk_)⟩)) (below_size (hb0_ HB.out))); have n3_ := HB.s0 hb; clear HO_5; clear HO518; clear HB; have HO_5 := n0_; have HO518 := n1_; have HO523 := n2_; have HB := n3_; clear n0_ n1_ n2_ n3_; (try clear hb); (try clear ho0); obtain ⟨Ao38, co38, eo38⟩ := Kd.N_slice HO523.out; subst eo38) | ((with_reducible refine gate_builtin (b := .append) (xs := #[.tmp 53, .tmp 55]) rfl ?_); at_builtin; refine Kd.N_append_rows (Kd.slice 3 (Kd.int .i64)) (w0 := w) w.heap.size rfl (.tmp 53) (.tmp 55) 23 22 (.slice none 0 0) 24 rfl Try.underlying23 info22 rfl (by decide) (by omega) u5 x5_2 t521 _ _ _ (fun k_ => (w.heap.size ≤ k_) ∧ some k_ ≠ (.slice (some ⟨go26, 0, none⟩) t516.length co26 : Value).ownBlock) (fun k_ => ((fun k_ => (w.heap.size ≤ k_) ∧ some k_ ≠ (.slice (some ⟨go26, 0, none⟩) t516.length co26 : Value).ownBlock)) k_ ∧ some k_ ≠ (u5 : Value).ownBlock) rfl rfl ?aO ?aR (fun _ hk => hk) ?aF ?aB ?aS ?aL ?_; (case aR => exact (by skip; exact Kd.N_F (Kd.N_mono (ok' := (fun k_ => ((fun k_ => (w.heap.size ≤ k_) ∧ some k_ ≠ (.slice (some ⟨go26, 0, none⟩) t516.length co26 : Value).ownBlock)) k_ ∧ some k_ ≠ (u5 : Value).ownBlock)) (HO523.out) (fun k_ hk => ⟨⟨hk.1, hk.2.2⟩, hk.2.1⟩)))); (case aB => exact (hb0_ HB.out)); (case aF => exact (fun k_ hk => ⟨(Nat.le_trans (below_size (hb0_ HB.out)) hk), Kd.fresh' (Kd.R_lt (kr_ HO518.out)) k_ hk⟩)); (case aO => exact (by (with_reducible repeat (first | apply Kd.N_alloc | apply Kd.N_drewN | apply Kd.N_drew)); exact Kd.N_mono HO_5.out (fun _ hk => ⟨hk.1.1, hk.1.2⟩))); (case aS => exact (below_size (hb0_ HB.out))); (case aL => have := LMc30.out; omega); intro v525 w37 ho hb hg hat; rw [← Ny524.out] at ho; replace HO518 := Aside0.mk (Kd.R_over' (kr_ HO518.out) (Kd.N_typed (by (with_reducible repeat (first | apply Kd.N_alloc | apply Kd.N_drewN | apply Kd.N_drew)); exact HO_5.out)) (by decide) hg); replace HO523 := Aside0.mk (Kd.N_afterv (ok := (fun k_ => (w.heap.size ≤ k_) ∧ some k_ ≠ (.slice (some ⟨go26, 0, none⟩) t516.length co26 : Value).ownBlock)) (by (with_reducible repeat (first | apply Kd.N_alloc | apply Kd.N_drewN | apply Kd.N_drew)); exact Kd.N_mono HO523.out (fun _ hk => ⟨⟨hk.1, hk.2.2⟩, hk.2.1⟩)) hg hat); replace HB := Aside0.mk (hb); have HO526 := Aside0.mk (ho); clear HO_5; clear ho hb hg hat))
              go_roundg k2
              case measure => have := HK1.out; have := HK2.out; omega
              case rel => exact ⟨(y524), (wrap64 (x6_2 + 2)), (by first | rfl | (simp; done) | (simp [*]; done)), H', ⟨by have := HK1.out; have := HK2.out; omega⟩, ⟨by (with_reducible repeat (first | apply Kd.N_alloc | apply Kd.N_drewN | apply Kd.N_drew)); exact Kd.N_mono HO526.out (fun _ hk => hk.1)⟩, ⟨hb0_ HB.out⟩⟩
             ·rw [if_neg c30] at H
              exact absurd H (by simp)
            ·rw [if_neg c27] at H
             exact absurd H (by simp)
           ·rw [if_neg c25] at H
            exact absurd H (by simp)
          ·rw [if_neg c24] at H
           exact absurd H (by simp)
         ·rw [if_neg c22] at H
          have c22b0 : decide ((rd l0 x6_2) < 0) = false := decide_eq_false c22
          clear c22
          have H' := Aside0.mk H
          clear H
          have p515 : 0 ≤ (x6_2 : Int) := of_decide_eq_true (as_)
          have q515 : x6_2 < (l0.length : Int) := of_decide_eq_true (as_)
          obtain ⟨ad515, e515, hx515_0⟩ := Kd.at_int HR0.out x6_2 p515 q515
          cases e515
          replace hx515_0 := (HB.out.cell (World.block_lt_of_cell? w _ hx515_0)).trans hx515_0
          replace p515 := eq_true p515
          replace q515 := eq_true q515
          go_wp2
          go_roundg k2
          case measure => have := HK1.out; have := HK2.out; omega
          case rel => exact ⟨(x5_2), (wrap64 (x6_2 + 2)), (by first | rfl | (simp; done) | (simp [*]; done)), H', ⟨by have := HK1.out; have := HK2.out; omega⟩, ⟨by (with_reducible repeat (first | apply Kd.N_alloc | apply Kd.N_drewN | apply Kd.N_drew)); exact HO_5.out⟩, ⟨hb0_ HB.out⟩⟩
        ·rw [if_neg c21] at H
         exact absurd H (by simp)
       ·rw [if_neg c20] at H
        have c20b0 : decide (x6_2 < (l0.length : Int)) = false := decide_eq_false c20
        clear c20
        obtain rfl := Option.some.inj H
        go_wp2
        go_ret
        exact ⟨_, ex_, by (with_reducible repeat (first | apply Kd.N_alloc | apply Kd.N_drewN | apply Kd.N_drew)); exact HO_5.out, hb0_ HB.out⟩

end Go.Proofs.Ytkkjlbpffcdlfaa.X
