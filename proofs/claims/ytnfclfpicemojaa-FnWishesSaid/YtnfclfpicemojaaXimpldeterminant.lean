-- Written by a program of this session (xprint.py), out of the translation and of hand-written contracts. Lean checks it.
import Derived.Test.YtnfclfpicemojaaX0
import Derived.Test.YtnfclfpicemojaaXcbits
namespace Go.Proofs.Ytnfclfpicemojaa.X
open Go.RowKit Go.Proofs.YtnfclfpicemojaaW.PrintWords Go.Proofs.YtnfclfpicemojaaW.PrintLast Go.Proofs.YtnfclfpicemojaaW.PrintMore
attribute [local go_sem] max2_int min2_int max_two min_two max_three min_three max_four min_four   -- for this text's walks alone
set_option linter.unusedVariables false
set_option linter.unusedSimpArgs false

/-! ### impl_determinant: function 45 -/
mutual
def impl_determinant.l0 : Nat → List (List Int) → List Int → Int → Option (Int)
 | 0, _, _, _ => none
 | k + 1, x0, x3, x4 => if x4 < (x3.length : Int) then ((bits_OnesCount.f (IntKind.u64.wrap (x4))).bind fun t506 => (if 0 ≤ (wrap64 (t506 - 1)) then (if (wrap64 (t506 - 1)) < (x0.length : Int) then (impl_determinant.l1 k x0 x3 x4 (rd_L4 x0 (wrap64 (t506 - 1))) ((rd_L4 x0 (wrap64 (t506 - 1))).length : Int) 0) else (none)) else (none))) else (if 0 ≤ (wrap64 ((x3.length : Int) - 1)) then (if (wrap64 ((x3.length : Int) - 1)) < (x3.length : Int) then (some (rd x3 (wrap64 ((x3.length : Int) - 1)))) else (none)) else (none))
def impl_determinant.l1 : Nat → List (List Int) → List Int → Int → List Int → Int → Int → Option (Int)
 | 0, _, _, _, _, _, _ => none
 | k + 1, x0, x3, x4, x27, x28, x29 => if x29 < x28 then (if 0 ≤ x29 then (if x29 < (x27.length : Int) then (if (rd x27 x29) = 0 then (impl_determinant.j2 k x0 x3 x4 x29 (rd x27 x29) x27 x28 x29 true) else (impl_determinant.j2 k x0 x3 x4 x29 (rd x27 x29) x27 x28 x29 ((Go.bits .and .i64 (shr .i64 x4 x29) 1) == 0))) else (none)) else (none)) else (impl_determinant.l0 k x0 x3 (wrap64 (x4 + 1)))
def impl_determinant.j2 : Nat → List (List Int) → List Int → Int → Int → Int → List Int → Int → Int → Bool → Option (Int)
 | 0, _, _, _, _, _, _, _, _, _ => none
 | k + 1, x0, x3, x4, x6, x7, x27, x28, x29, x42 => if x42 = true then (impl_determinant.l1 k x0 x3 x4 x27 x28 (wrap64 (x29 + 1))) else (if 0 ≤ (wrap64 (x6 + 1)) then ((bits_OnesCount.f (IntKind.u64.wrap (shr .i64 x4 (wrap64 (x6 + 1))))).bind fun t509 => (if (Int.tmod t509 2) = 1 then (if 0 ≤ x4 then (if x4 < (x3.length : Int) then (if 0 ≤ x6 then (if 0 ≤ (Go.bits .andNot .i64 x4 (shl .i64 1 x6)) then (if (Go.bits .andNot .i64 x4 (shl .i64 1 x6)) < (x3.length : Int) then (impl_determinant.l1 k x0 (x3.set (x4 : Int).toNat (wrap64 ((rd x3 x4) + (wrap64 ((wrap64 (-x7)) * (rd x3 (Go.bits .andNot .i64 x4 (shl .i64 1 x6)))))))) x4 x27 x28 (wrap64 (x29 + 1))) else (none)) else (none)) else (none)) else (none)) else (none)) else (if 0 ≤ x4 then (if x4 < (x3.length : Int) then (if 0 ≤ x6 then (if 0 ≤ (Go.bits .andNot .i64 x4 (shl .i64 1 x6)) then (if (Go.bits .andNot .i64 x4 (shl .i64 1 x6)) < (x3.length : Int) then (impl_determinant.l1 k x0 (x3.set (x4 : Int).toNat (wrap64 ((rd x3 x4) + (wrap64 (x7 * (rd x3 (Go.bits .andNot .i64 x4 (shl .i64 1 x6)))))))) x4 x27 x28 (wrap64 (x29 + 1))) else (none)) else (none)) else (none)) else (none)) else (none)))) else (none))
end
def impl_determinant.f (k : Nat) (l0 : List (List Int)) : Option (Int) := if 0 ≤ (shl .i64 1 (l0.length : Int)) then (if (shl .i64 1 (l0.length : Int) : Int).toNat ≤ 35184372088832 then ((some (List.replicate (shl .i64 1 (l0.length : Int) : Int).toNat 0 : List Int)).bind fun y501 => (if 0 < (y501.length : Int) then (impl_determinant.l0 k l0 (y501.set (0 : Int).toNat 1) 1) else (none))) else (none)) else (none)
theorem impl_determinant.mono_l : ∀ k, (∀ y0 y1 y2, LeO (impl_determinant.l0 k y0 y1 y2) (impl_determinant.l0 (k + 1) y0 y1 y2)) ∧ (∀ y0 y1 y2 y3 y4 y5, LeO (impl_determinant.l1 k y0 y1 y2 y3 y4 y5) (impl_determinant.l1 (k + 1) y0 y1 y2 y3 y4 y5)) ∧ (∀ y0 y1 y2 y3 y4 y5 y6 y7 y8, LeO (impl_determinant.j2 k y0 y1 y2 y3 y4 y5 y6 y7 y8) (impl_determinant.j2 (k + 1) y0 y1 y2 y3 y4 y5 y6 y7 y8))
 | 0 => ⟨fun _ _ _ r h => by simp [impl_determinant.l0] at h, fun _ _ _ _ _ _ r h => by simp [impl_determinant.l1] at h, fun _ _ _ _ _ _ _ _ _ r h => by simp [impl_determinant.j2] at h⟩
 | k + 1 => by
  obtain ⟨ih0, ih1, ih2⟩ := impl_determinant.mono_l k
  refine ⟨?_, ?_, ?_⟩
  ·intro y0 y1 y2
   unfold impl_determinant.l0
   repeat' first
   | (with_reducible exact ih0 ..)
   | (with_reducible exact ih1 ..)
   | (with_reducible exact ih2 ..)
   | (with_reducible first | exact lr_ _ | exact ln_ _ | refine li_ ?_ ?_ | refine lb_ ?_ fun _ => ?_)
   | exact ih0 ..
   | exact ih1 ..
   | exact ih2 ..
   | exact ln_ _ | refine li_ ?_ ?_ | refine lb_ ?_ fun _ => ?_
  ·intro y0 y1 y2 y3 y4 y5
   unfold impl_determinant.l1
   repeat' first
   | (with_reducible exact ih0 ..)
   | (with_reducible exact ih1 ..)
   | (with_reducible exact ih2 ..)
   | (with_reducible first | exact lr_ _ | exact ln_ _ | refine li_ ?_ ?_ | refine lb_ ?_ fun _ => ?_)
   | exact ih0 ..
   | exact ih1 ..
   | exact ih2 ..
   | exact ln_ _ | refine li_ ?_ ?_ | refine lb_ ?_ fun _ => ?_
  ·intro y0 y1 y2 y3 y4 y5 y6 y7 y8
   unfold impl_determinant.j2
   repeat' first
   | (with_reducible exact ih0 ..)
   | (with_reducible exact ih1 ..)
   | (with_reducible exact ih2 ..)
   | (with_reducible first | exact lr_ _ | exact ln_ _ | refine li_ ?_ ?_ | refine lb_ ?_ fun _ => ?_)
   | exact ih0 ..
   | exact ih1 ..
   | exact ih2 ..
   | exact ln_ _ | refine li_ ?_ ?_ | refine lb_ ?_ fun _ => ?_
theorem impl_determinant.mono : ∀ a0 k, LeO (impl_determinant.f k a0) (impl_determinant.f (k + 1) a0) := by
 intro a0 k
 obtain ⟨ih0, ih1, ih2⟩ := impl_determinant.mono_l k
 unfold impl_determinant.f
 repeat' first
   | (with_reducible exact ih0 ..)
   | (with_reducible exact ih1 ..)
   | (with_reducible exact ih2 ..)
   | (with_reducible first | exact lr_ _ | exact ln_ _ | refine li_ ?_ ?_ | refine lb_ ?_ fun _ => ?_)
   | exact ih0 ..
   | exact ih1 ..
   | exact ih2 ..
   | exact ln_ _ | refine li_ ?_ ?_ | refine lb_ ?_ fun _ => ?_
def impl_determinant.T13 : Bool × List (List Nat × List Nat) := (true, [([], []), ([], []), ([0, 1], [0, 1]), ([2], [2]), ([], []), ([], []), ([], []), ([], []), ([7], [7]), ([6, 8], [6, 8]), ([5, 9], [5, 9]), ([10], [10]), ([4, 11], [4, 11]), ([3, 12], [3, 12]), ([0, 1, 0, 1, 2, 3, 4, 5, 6, 7, 8, 9, 10, 11, 12, 13], [0, 1]), ([14, 13, 0, 1, 2, 3, 4, 5, 6, 7, 8, 9, 10, 11, 12, 13], [13, 14])])
def impl_determinant.B13 : List Nat := [0, 0, 3, 7, 0, 0, 0, 0, 128, 448, 992, 2016, 4080, 8191, 16383, 32767]
theorem impl_determinant.tab13 : rtab .any (opsOf Try.f45 13) = impl_determinant.T13 := by kernel_rfl
theorem impl_determinant.bits13 : waitsOk impl_determinant.T13.2 impl_determinant.B13 = true := by kernel_rfl
set_option maxHeartbeats 8000000 in
set_option maxRecDepth 100000 in
theorem impl_determinant.calls (k : Nat) (A0 : Option Addr) (c0 : Nat) (l0 : List (List Int)) (r : Int) (w : World) (hr0 : Kd.C (Kd.slice 3 (Kd.int .i64)) w A0 l0.length l0) (hc0 : l0.length ≤ c0) (h : impl_determinant.f k l0 = some r) :
  Calls Try.prog 45 #[.slice A0 l0.length c0] w fun e w' => e = .returned (.int .i64 r) ∧ Below w.heap.size w w' := by
 have HR0 := Aside0.mk hr0
 have HC0 := Aside0.mk hc0
 clear hr0 hc0
 have HB := Aside0.mk (Below.refl w.heap.size w)
 have H : (if 0 ≤ (shl .i64 1 (l0.length : Int)) then (if (shl .i64 1 (l0.length : Int) : Int).toNat ≤ 35184372088832 then ((some (List.replicate (shl .i64 1 (l0.length : Int) : Int).toNat 0 : List Int)).bind fun y501 => (if 0 < (y501.length : Int) then (impl_determinant.l0 k l0 (y501.set (0 : Int).toNat 1) 1) else (none))) else (none)) else (none)) = some r := h
 clear h
 obtain ⟨ji2, hji2⟩ : ∃ j_ : Int, (shl .i64 1 (l0.length : Int)) = j_ := ⟨_, rfl⟩
 replace H : (if 0 ≤ (ji2) then (if (ji2 : Int).toNat ≤ 35184372088832 then ((some (List.replicate (ji2 : Int).toNat 0 : List Int)).bind fun y501 => (if 0 < (y501.length : Int) then (impl_determinant.l0 k l0 (y501.set (0 : Int).toNat 1) 1) else (none))) else (none)) else (none)) = some r := by first | (rw [hji2] at H; exact H) | (simp only [hji2] at H ⊢; exact H)
 have hji2_ : (IntKind.i64.wrap (1 * 2 ^ min (l0.length : Int).toNat 64)) = ji2 := hji2
 have hji2z : (l0.length : Int) ≤ 64 → (IntKind.i64.wrap (1 * 2 ^ (l0.length : Int).toNat)) = ji2 := shl_small hji2
 have hji2p : (IntKind.i64.wrap (1 * 2 ^ min l0.length 64)) = ji2 := hji2_
 have hji2q : (l0.length : Int) ≤ 64 → (IntKind.i64.wrap (1 * 2 ^ l0.length)) = ji2 := hji2z
 have hji2r : (IntKind.i64.wrap (2 ^ min l0.length 64)) = ji2 := by have h_ := hji2p; rw [Int.one_mul] at h_; exact h_
 have hji2s : (l0.length : Int) ≤ 64 → (IntKind.i64.wrap (2 ^ l0.length)) = ji2 := fun hle_ => by have h_ := hji2q hle_; rw [Int.one_mul] at h_; exact h_
 have hji2u : (IntKind.i64.wrap (2 ^ min (l0.length : Int).toNat 64)) = ji2 := by have h_ := hji2_; rw [Int.one_mul] at h_; exact h_
 have hji2v : (l0.length : Int) ≤ 64 → (IntKind.i64.wrap (2 ^ (l0.length : Int).toNat)) = ji2 := fun hle_ => by have h_ := hji2z hle_; rw [Int.one_mul] at h_; exact h_
 have hji2y : (wrap64 (1 * 2 ^ min (l0.length : Int).toNat 64)) = ji2 := (i64_w _).symm.trans hji2_
 have hji2x : (l0.length : Int) ≤ 64 → (wrap64 (1 * 2 ^ (l0.length : Int).toNat)) = ji2 := fun h_ => (i64_w _).symm.trans (hji2z h_)
 by_cases c3 : 0 ≤ (ji2)
 ·rw [if_pos c3] at H
  have c3b0 := eq_true c3
  have c3b1 : decide (0 ≤ (ji2)) = true := decide_eq_true c3
  clear c3
  by_cases c4 : (ji2 : Int).toNat ≤ 35184372088832
  ·rw [if_pos c4] at H
   have c4b0 := eq_true c4
   have c4b1 : decide ((ji2 : Int).toNat ≤ 35184372088832) = true := decide_eq_true c4
   clear c4
   obtain ⟨y501, hy501⟩ : ∃ y_ : List Int, y_ = (List.replicate (ji2 : Int).toNat 0) := ⟨_, rfl⟩
   replace H : (if 0 < (y501.length : Int) then (impl_determinant.l0 k l0 (y501.set (0 : Int).toNat 1) 1) else (none)) = some r := by first | (rw [hy501]; with_reducible exact H) | (have H2_ := (Option.bind_some _ _).symm.trans H; rw [hy501]; with_reducible exact H2_) | (have H2_ := (Option.bind_some _ _).symm.trans H; with_reducible exact H2_) | with_reducible exact H | (rw [hy501]; exact H) | exact H
   have Ny501 := Aside0.mk hy501
   clear hy501
   by_cases c5 : 0 < (y501.length : Int)
   ·rw [if_pos c5] at H
    have c5b0 : decide (0 < (y501.length : Int)) = true := decide_eq_true c5
    have c5b1 : decide (0 < y501.length) = true := decide_eq_true (by omega)
    clear c5
    obtain ⟨y504, hy504⟩ : ∃ y_ : List Int, y_ = (y501.set (0 : Int).toNat 1) := ⟨_, rfl⟩
    replace H : (impl_determinant.l0 k l0 y504 1) = some r := by first | (rw [hy504]; with_reducible exact H) | (have H2_ := (Option.bind_some _ _).symm.trans H; rw [hy504]; with_reducible exact H2_) | (have H2_ := (Option.bind_some _ _).symm.trans H; with_reducible exact H2_) | with_reducible exact H | (rw [hy504]; exact H) | exact H
    have Ny504 := Aside0.mk hy504
    clear hy504
    have H' := Aside0.mk H
    clear H
    go_enter Try.func45, Try.ntmps45
    go_wp2_with (first | ((with_reducible refine gate_dst (N := 11) rfl ?_); refine Kd.R_make (Kd.int .i64) _ 3 rfl (N := 11) rfl 50 _ _ rfl ji2 rfl rfl Try.underlying50 (.int .i64 0) 8 info3 rfl (by decide) (by omega) 0 (ok := fun _ => True) (okp := fun _ => True) rfl (fun _ hk => hk) trivial (of_decide_eq_true (as_)) (Nat.le_trans (Nat.mul_le_mul_right _ (of_decide_eq_true (as_) : ji2.toNat ≤ 35184372088832)) (by omega)) (Below.refl _ _) (Nat.le_refl _) ?_; intro v502 w7 ho8 hb hg_ hnew_; clear hg_ hnew_; (first | rw [← Ny501.out] at ho8 | (simp only [Int.reduceToNat] at ho8; rw [← Ny501.out] at ho8)); have HO503 := Aside0.mk (Kd.R_lower ho8 (below_size (hb0_ HB.out))); replace HB := HB.s0 hb; clear hb ho8; have p6 : 0 ≤ (0 : Int) := (by omega); have q6 : (0 : Int) < ((y501.length : Int) : Int) := of_decide_eq_true (as_); have qi6 : (0 < y501.length) = True := eq_true (by omega); obtain ⟨go6, co6, eo6, gb6, gl6, cl6, HG6⟩ := Kd.R_form HO503.out (by omega); (first | cases eo6 | (injection eo6 with ea_ en_ ec_; (first | subst ea_ | (injection ea_ with ea_; subst ea_)); subst ec_; clear en_)); have GB6 := Aside0.mk gb6; have GG6 := Aside0.mk HG6; clear gb6 gl6 HG6; obtain ⟨hx6_0, hf6_0⟩ := Kd.R_celln 0 HO503.out (0 : Int) p6 q6; (try rw [show ((0 : Int)).toNat = 0 from rfl] at hx6_0); (try simp only [Nat.reduceMul, Nat.zero_mul, Nat.zero_add, Nat.reduceAdd] at hx6_0); (try rw [show ((0 : Int)).toNat = 0 from rfl] at hf6_0); (try simp only [Nat.reduceMul, Nat.zero_mul, Nat.zero_add, Nat.reduceAdd] at hf6_0); replace p6 := eq_true p6; replace q6 := eq_true q6; obtain ⟨hy9_, hz9_⟩ := Kd.R_celln 0 HO503.out (0 : Int) (by omega) (of_decide_eq_true (as_)); (try simp only [Int.reduceToNat, Int.toNat_zero, Int.toNat_ofNat, Nat.reduceMul, Nat.zero_mul, Nat.zero_add] at hy9_ hz9_); (try rw [show ((0 : Int)).toNat = 0 from rfl] at hy9_); (try rw [show ((0 : Int)).toNat = 0 from rfl] at hz9_); have HP9 := Kd.R_putg HO503.out (0 : Int) 1) | ((with_reducible refine gate_store (t := 3) (p := 13) rfl ?_); refine store_event (t := 3) (p := 13) (v := ?vo_w10) (w1 := (w7.setCell ⟨go6, (0 : Int).toNat, none⟩ (.int .i64 1))) ?hg ?ho ?hn ?hr ?_; (case ho => rfl); (case hg => rfl); (case hn => rfl); (case hr => first | (go_simp; done) | (go_simp; rfl)); intro w10 hw; have hg : w7.grownBy w10 (some go6) := (by rw [hw]; exact HP9.2); have hp_ : Kd.R (Kd.int .i64) 3 w10 w.heap.size (fun _ => True) (.slice (some ⟨go6, 0, none⟩) y501.length co6) y504 := (by rw [hw, Ny504.out]; exact HP9.1); clear HP9; replace HO503 := Aside0.mk (hp_); replace HB := Aside0.mk ((by rw [hw]; exact below_set (HB.out) GB6.out : Below w.heap.size w w10)); clear hg hw hp_))
    go_loopg [4] k (fun kq v4 w' => ∃ (x3_1 : List Int) (x4_1 : Int), v4 = .int .i64 x4_1 ∧ Aside0 (impl_determinant.l0 kq l0 x3_1 x4_1 = some r) ∧ Aside0 (kq ≤ k) ∧ Aside0 (Kd.R (Kd.int .i64) 3 w' w.heap.size (fun _ => True) (.slice (some ⟨go6, 0, none⟩) y501.length co6) x3_1) ∧ Aside0 (Below w.heap.size w w'))
    case atStart => exact ⟨(y504), (1), (by first | rfl | (simp; done) | (simp [*]; done)), H', ⟨Nat.le_refl _⟩, ⟨kr_ HO503.out⟩, ⟨hb0_ HB.out⟩⟩
    case round =>
     clear H'
     try clear p2
     try clear c3
     try clear c3b0
     try clear c3b1
     try clear c4
     try clear c4b0
     try clear c4b1
     try clear c5
     try clear c5b0
     try clear c5b1
     try clear p6
     try clear q6
     try clear hx6
     try clear qi6
     try clear hf6
     try clear hx6_0
     try clear p6
     try clear q6
     obtain ⟨x3_1, x4_1, rfl, HA, HK1, HO_3, HB⟩ := hrel
     have hl3_1 := (Kd.R_reads' HO_3.out).1
     rw [hl3_1] at HO_3
     (try simp only [hl3_1])
     cases gk with
     | zero => exact absurd HA.out (by simp [impl_determinant.l0])
     | succ k1 =>
      have H := HA.out
      clear HA
      simp only [impl_determinant.l0] at H
      by_cases c11 : x4_1 < (x3_1.length : Int)
      ·rw [if_pos c11] at H
       have c11b0 : decide (x4_1 < (x3_1.length : Int)) = true := decide_eq_true c11
       clear c11
       replace H := Option.bind_eq_some_iff.mp H
       obtain ⟨t506, A120, H⟩ := H
       replace H : (if 0 ≤ (wrap64 (t506 - 1)) then (if (wrap64 (t506 - 1)) < (l0.length : Int) then (impl_determinant.l1 k1 l0 x3_1 x4_1 (rd_L4 l0 (wrap64 (t506 - 1))) ((rd_L4 l0 (wrap64 (t506 - 1))).length : Int) 0) else (none)) else (none)) = some r := H
       have A12 := Aside0.mk A120
       clear A120
       obtain ⟨ji13, hji13⟩ : ∃ j_ : Int, (wrap64 (t506 - 1)) = j_ := ⟨_, rfl⟩
       replace H : (if 0 ≤ (ji13) then (if (ji13) < (l0.length : Int) then (impl_determinant.l1 k1 l0 x3_1 x4_1 (rd_L4 l0 (ji13)) ((rd_L4 l0 (ji13)).length : Int) 0) else (none)) else (none)) = some r := by first | (rw [hji13] at H; exact H) | (simp only [hji13] at H ⊢; exact H)
       (try rw [hji13] at A12)
       have hji13w : (IntKind.i64.wrap (t506 - 1)) = ji13 := (i64_w _).trans hji13
       by_cases c14 : 0 ≤ (ji13)
       ·rw [if_pos c14] at H
        have c14b0 : decide (0 ≤ (ji13)) = true := decide_eq_true c14
        clear c14
        by_cases c15 : (ji13) < (l0.length : Int)
        ·rw [if_pos c15] at H
         have c15b0 : decide ((ji13) < (l0.length : Int)) = true := decide_eq_true c15
         clear c15
         have H' := Aside0.mk H
         clear H
         go_wp2_with (first | (refine gl_ 23 Try.func48 #[.int .u64 (IntKind.u64.wrap (x4_1))] ?_; (with_reducible refine (bits_OnesCount.calls (IntKind.u64.wrap (x4_1)) t506 _ A12.out).mono ?_); rintro e w' ⟨rfl, ⟨nd, rfl⟩⟩; refine ⟨_, rfl, ?_⟩; have p507 : 0 ≤ ((ji13) : Int) := of_decide_eq_true (as_); have q507 : (ji13) < (l0.length : Int) := of_decide_eq_true (as_); obtain ⟨ad507, A507_0, c507_0, e507, hx507_0, hl507_0, hi507_0⟩ := at_L4 HR0.out (ji13) p507 q507; cases e507; replace hx507_0 := (HB.out.cell (World.block_lt_of_cell? w _ hx507_0)).trans hx507_0; have HR507_0 := Aside0.mk hi507_0; have HC507_0 := Aside0.mk hl507_0; clear hi507_0 hl507_0; replace p507 := eq_true p507; replace q507 := eq_true q507))
         go_loopg [29] k1 (fun kq v29 w' => ∃ (x3_2 : List Int) (x29_2 : Int), v29 = .int .i64 x29_2 ∧ Aside0 (impl_determinant.l1 kq l0 x3_2 x4_1 (rd_L4 l0 (ji13)) ((rd_L4 l0 (ji13)).length : Int) x29_2 = some r) ∧ Aside0 (kq ≤ k1) ∧ Aside0 (Kd.R (Kd.int .i64) 3 w' w.heap.size (fun _ => True) (.slice (some ⟨go6, 0, none⟩) x3_1.length co6) x3_2) ∧ Aside0 (Below w.heap.size w w'))
         case atStart => exact ⟨(x3_1), (0), (by first | rfl | (simp; done) | (simp [*]; done)), H', ⟨Nat.le_refl _⟩, ⟨by (try simp only [hl3_1]); (with_reducible repeat (first | apply Kd.R_alloc | apply Kd.R_drewN | apply Kd.R_drew)); exact HO_3.out⟩, ⟨hb0_ HB.out⟩⟩
         case round =>
          clear H'
          try clear c1
          try clear p2
          try clear c3
          try clear c3b0
          try clear c3b1
          try clear c4
          try clear c4b0
          try clear c4b1
          try clear c5
          try clear c5b0
          try clear c5b1
          try clear p5
          try clear q5
          try clear hx5
          try clear p6
          try clear q6
          try clear hx6
          try clear qi6
          try clear hf6
          try clear c11
          try clear c11b0
          try clear c14
          try clear c14b0
          try clear c15
          try clear c15b0
          try clear hx507_0
          try clear hx6_0
          try clear p2
          try clear p507
          try clear p6
          try clear q507
          try clear q6
          obtain ⟨x3_2, x29_2, rfl, HA, HK2, HO_3, HB⟩ := hrel
          have hl3_2 := (Kd.R_reads' HO_3.out).1
          rw [hl3_2] at HO_3
          (try simp only [hl3_2])
          cases gk with
          | zero => exact absurd HA.out (by simp [impl_determinant.l1])
          | succ k2 =>
           have H := HA.out
           clear HA
           simp only [impl_determinant.l1] at H
           by_cases c16 : x29_2 < ((rd_L4 l0 (ji13)).length : Int)
           ·rw [if_pos c16] at H
            have c16b0 : decide (x29_2 < ((rd_L4 l0 (ji13)).length : Int)) = true := decide_eq_true c16
            clear c16
            by_cases c17 : 0 ≤ x29_2
            ·rw [if_pos c17] at H
             have c17b0 : decide (0 ≤ x29_2) = true := decide_eq_true c17
             clear c17
             by_cases c18 : x29_2 < ((rd_L4 l0 (ji13)).length : Int)
             ·rw [if_pos c18] at H
              have c18b0 : decide (x29_2 < ((rd_L4 l0 (ji13)).length : Int)) = true := decide_eq_true c18
              clear c18
              have HC19 := Aside0.mk H
              clear H
              have p508 : 0 ≤ (x29_2 : Int) := of_decide_eq_true (as_)
              have q508 : x29_2 < ((rd_L4 l0 (ji13)).length : Int) := of_decide_eq_true (as_)
              obtain ⟨ad508, e508, hx508_0⟩ := Kd.at_int HR507_0.out x29_2 p508 q508
              cases e508
              replace hx508_0 := (HB.out.cell (World.block_lt_of_cell? w _ hx508_0)).trans hx508_0
              replace p508 := eq_true p508
              replace q508 := eq_true q508
              go_upto_region 10 with (fail)
              go_cut [42] (fun v42 wc => ∃ (kq : Nat) (x42_18 : Bool), v42 = .bool x42_18 ∧ Aside0 (impl_determinant.j2 kq l0 x3_2 x4_1 x29_2 (rd (rd_L4 l0 (ji13)) x29_2) (rd_L4 l0 (ji13)) ((rd_L4 l0 (ji13)).length : Int) x29_2 x42_18 = some r) ∧ Aside0 (kq ≤ k2) ∧ Aside0 (Kd.R (Kd.int .i64) 3 wc w.heap.size (fun _ => True) (.slice (some ⟨go6, 0, none⟩) x3_2.length co6) x3_2) ∧ Aside0 (Below w.heap.size w wc))
              case first =>
               have H := HC19.out
               clear HC19
               by_cases c20 : (rd (rd_L4 l0 (ji13)) x29_2) = 0
               ·rw [if_pos c20] at H
                have c20b0 : ((rd (rd_L4 l0 (ji13)) x29_2) == 0) = true := beq_iff_eq.mpr c20
                have c20b1 : ((rd (rd_L4 l0 (ji13)) x29_2) != 0) = false := bne_eq_false_iff_eq.mpr c20
                clear c20
                (first | rw [c20b0] | (simp only [i64_w, i32_w]; rw [c20b0]) | skip)
                have H' := Aside0.mk H
                clear H
                go_wp2
                go_meet
                case rel => exact ⟨_, (true), (by first | rfl | (simp; done) | (simp [*]; done)), H', ⟨by have := HK1.out; have := HK2.out; first | omega | exact Nat.le_refl _⟩, ⟨by (try simp only [hl3_1]); (try simp only [hl3_2]); (with_reducible repeat (first | apply Kd.R_alloc | apply Kd.R_drewN | apply Kd.R_drew)); exact HO_3.out⟩, ⟨hb0_ HB.out⟩⟩
               ·rw [if_neg c20] at H
                have c20b0 : ((rd (rd_L4 l0 (ji13)) x29_2) == 0) = false := beq_eq_false_iff_ne.mpr c20
                have c20b1 : ((rd (rd_L4 l0 (ji13)) x29_2) != 0) = true := bne_iff_ne.mpr c20
                (first | rw [c20b0] | (simp only [i64_w, i32_w]; rw [c20b0]) | skip)
                have c21b0 := eq_true (of_decide_eq_true (as_) : 0 ≤ x29_2)
                obtain ⟨ji22, hji22⟩ : ∃ j_ : Int, (shr .i64 x4_1 x29_2) = j_ := ⟨_, rfl⟩
                replace H : (impl_determinant.j2 k2 l0 x3_2 x4_1 x29_2 (rd (rd_L4 l0 (ji13)) x29_2) (rd_L4 l0 (ji13)) ((rd_L4 l0 (ji13)).length : Int) x29_2 ((Go.bits .and .i64 (ji22) 1) == 0)) = some r := by first | (rw [hji22] at H; exact H) | (simp only [hji22] at H ⊢; exact H)
                have hji22_ : (x4_1 / 2 ^ min x29_2.toNat 64) = ji22 := hji22
                have hji22z : x29_2 ≤ 64 → (x4_1 / 2 ^ x29_2.toNat) = ji22 := shr_small hji22
                have H' := Aside0.mk H
                clear H
                go_wp2
                go_meet
                case rel => exact ⟨_, (((Go.bits .and .i64 (ji22) 1) == 0)), (by first | rfl | (simp; done) | (simp only [← hji22] <;> (first | rfl | simp)) | (simp [*]; done)), H', ⟨by have := HK1.out; have := HK2.out; first | omega | exact Nat.le_refl _⟩, ⟨by (try simp only [hl3_1]); (try simp only [hl3_2]); (with_reducible repeat (first | apply Kd.R_alloc | apply Kd.R_drewN | apply Kd.R_drew)); exact HO_3.out⟩, ⟨hb0_ HB.out⟩⟩
              case rest =>
               clear HC19
               try clear c1
               try clear c2
               try clear p2
               try clear c3
               try clear c3b0
               try clear c3b1
               try clear c4
               try clear c4b0
               try clear c4b1
               try clear c5
               try clear c5b0
               try clear c5b1
               try clear p5
               try clear q5
               try clear hx5
               try clear p6
               try clear q6
               try clear hx6
               try clear qi6
               try clear hf6
               try clear c11
               try clear c11b0
               try clear c14
               try clear c14b0
               try clear c15
               try clear c15b0
               try clear c16
               try clear c16b0
               try clear c17
               try clear c17b0
               try clear c18
               try clear c18b0
               try clear c20
               try clear c20b0
               try clear c20b1
               try clear c21
               try clear c21b0
               try clear hx507_0
               try clear hx508_0
               try clear hx6_0
               try clear p2
               try clear p5
               try clear p507
               try clear p508
               try clear p6
               try clear q5
               try clear q507
               try clear q508
               try clear q6
               obtain ⟨kq, x42_18, rfl, HA, HJ18, HO_3, HB⟩ := hcut
               cases kq with
               | zero => exact absurd HA.out (by simp [impl_determinant.j2])
               | succ kj18 =>
                have H := HA.out
                clear HA
                simp only [impl_determinant.j2] at H
                by_cases c23 : x42_18 = true
                ·subst c23
                 have H1 : (impl_determinant.l1 kj18 l0 x3_2 x4_1 (rd_L4 l0 (ji13)) ((rd_L4 l0 (ji13)).length : Int) (wrap64 (x29_2 + 1))) = some r := by rw [if_pos rfl] at H; exact H
                 clear H
                 have H := H1
                 clear H1
                 have H' := Aside0.mk H
                 clear H
                 go_wp2
                 (try simp only [← hl3_2])
                 go_roundg kj18
                 case measure => have := HK1.out; have := HK2.out; have := HJ18.out; omega
                 case rel => exact ⟨(x3_2), (wrap64 (x29_2 + 1)), (by first | rfl | (simp; done) | (simp [*]; done)), H', ⟨by have := HK1.out; have := HK2.out; have := HJ18.out; omega⟩, ⟨by (try simp only [hl3_1]); (try simp only [hl3_2]); (with_reducible repeat (first | apply Kd.R_alloc | apply Kd.R_drewN | apply Kd.R_drew)); exact HO_3.out⟩, ⟨hb0_ HB.out⟩⟩
                ·replace c23 := Bool.eq_false_iff.mpr c23
                 subst c23
                 have H1 : (if 0 ≤ (wrap64 (x29_2 + 1)) then ((bits_OnesCount.f (IntKind.u64.wrap (shr .i64 x4_1 (wrap64 (x29_2 + 1))))).bind fun t509 => (if (Int.tmod t509 2) = 1 then (if 0 ≤ x4_1 then (if x4_1 < (x3_2.length : Int) then (if 0 ≤ x29_2 then (if 0 ≤ (Go.bits .andNot .i64 x4_1 (shl .i64 1 x29_2)) then (if (Go.bits .andNot .i64 x4_1 (shl .i64 1 x29_2)) < (x3_2.length : Int) then (impl_determinant.l1 kj18 l0 (x3_2.set (x4_1 : Int).toNat (wrap64 ((rd x3_2 x4_1) + (wrap64 ((wrap64 (-(rd (rd_L4 l0 (ji13)) x29_2))) * (rd x3_2 (Go.bits .andNot .i64 x4_1 (shl .i64 1 x29_2)))))))) x4_1 (rd_L4 l0 (ji13)) ((rd_L4 l0 (ji13)).length : Int) (wrap64 (x29_2 + 1))) else (none)) else (none)) else (none)) else (none)) else (none)) else (if 0 ≤ x4_1 then (if x4_1 < (x3_2.length : Int) then (if 0 ≤ x29_2 then (if 0 ≤ (Go.bits .andNot .i64 x4_1 (shl .i64 1 x29_2)) then (if (Go.bits .andNot .i64 x4_1 (shl .i64 1 x29_2)) < (x3_2.length : Int) then (impl_determinant.l1 kj18 l0 (x3_2.set (x4_1 : Int).toNat (wrap64 ((rd x3_2 x4_1) + (wrap64 ((rd (rd_L4 l0 (ji13)) x29_2) * (rd x3_2 (Go.bits .andNot .i64 x4_1 (shl .i64 1 x29_2)))))))) x4_1 (rd_L4 l0 (ji13)) ((rd_L4 l0 (ji13)).length : Int) (wrap64 (x29_2 + 1))) else (none)) else (none)) else (none)) else (none)) else (none)))) else (none)) = some r := by rw [if_neg (show ¬ (false = true) by decide)] at H; exact H
                 clear H
                 have H := H1
                 clear H1
                 obtain ⟨ji24, hji24⟩ : ∃ j_ : Int, (wrap64 (x29_2 + 1)) = j_ := ⟨_, rfl⟩
                 replace H : (if 0 ≤ (ji24) then ((bits_OnesCount.f (IntKind.u64.wrap (shr .i64 x4_1 (ji24)))).bind fun t509 => (if (Int.tmod t509 2) = 1 then (if 0 ≤ x4_1 then (if x4_1 < (x3_2.length : Int) then (if 0 ≤ x29_2 then (if 0 ≤ (Go.bits .andNot .i64 x4_1 (shl .i64 1 x29_2)) then (if (Go.bits .andNot .i64 x4_1 (shl .i64 1 x29_2)) < (x3_2.length : Int) then (impl_determinant.l1 kj18 l0 (x3_2.set (x4_1 : Int).toNat (wrap64 ((rd x3_2 x4_1) + (wrap64 ((wrap64 (-(rd (rd_L4 l0 (ji13)) x29_2))) * (rd x3_2 (Go.bits .andNot .i64 x4_1 (shl .i64 1 x29_2)))))))) x4_1 (rd_L4 l0 (ji13)) ((rd_L4 l0 (ji13)).length : Int) ji24) else (none)) else (none)) else (none)) else (none)) else (none)) else (if 0 ≤ x4_1 then (if x4_1 < (x3_2.length : Int) then (if 0 ≤ x29_2 then (if 0 ≤ (Go.bits .andNot .i64 x4_1 (shl .i64 1 x29_2)) then (if (Go.bits .andNot .i64 x4_1 (shl .i64 1 x29_2)) < (x3_2.length : Int) then (impl_determinant.l1 kj18 l0 (x3_2.set (x4_1 : Int).toNat (wrap64 ((rd x3_2 x4_1) + (wrap64 ((rd (rd_L4 l0 (ji13)) x29_2) * (rd x3_2 (Go.bits .andNot .i64 x4_1 (shl .i64 1 x29_2)))))))) x4_1 (rd_L4 l0 (ji13)) ((rd_L4 l0 (ji13)).length : Int) ji24) else (none)) else (none)) else (none)) else (none)) else (none)))) else (none)) = some r := by first | (rw [hji24] at H; exact H) | (simp only [hji24] at H ⊢; exact H)
                 have hji24w : (IntKind.i64.wrap (x29_2 + 1)) = ji24 := (i64_w _).trans hji24
                 by_cases c25 : 0 ≤ (ji24)
                 ·rw [if_pos c25] at H
                  have c25b0 := eq_true c25
                  have c25b1 : decide (0 ≤ (ji24)) = true := decide_eq_true c25
                  clear c25
                  obtain ⟨ji26, hji26⟩ : ∃ j_ : Int, (shr .i64 x4_1 (ji24)) = j_ := ⟨_, rfl⟩
                  replace H : ((bits_OnesCount.f (IntKind.u64.wrap (ji26))).bind fun t509 => (if (Int.tmod t509 2) = 1 then (if 0 ≤ x4_1 then (if x4_1 < (x3_2.length : Int) then (if 0 ≤ x29_2 then (if 0 ≤ (Go.bits .andNot .i64 x4_1 (shl .i64 1 x29_2)) then (if (Go.bits .andNot .i64 x4_1 (shl .i64 1 x29_2)) < (x3_2.length : Int) then (impl_determinant.l1 kj18 l0 (x3_2.set (x4_1 : Int).toNat (wrap64 ((rd x3_2 x4_1) + (wrap64 ((wrap64 (-(rd (rd_L4 l0 (ji13)) x29_2))) * (rd x3_2 (Go.bits .andNot .i64 x4_1 (shl .i64 1 x29_2)))))))) x4_1 (rd_L4 l0 (ji13)) ((rd_L4 l0 (ji13)).length : Int) ji24) else (none)) else (none)) else (none)) else (none)) else (none)) else (if 0 ≤ x4_1 then (if x4_1 < (x3_2.length : Int) then (if 0 ≤ x29_2 then (if 0 ≤ (Go.bits .andNot .i64 x4_1 (shl .i64 1 x29_2)) then (if (Go.bits .andNot .i64 x4_1 (shl .i64 1 x29_2)) < (x3_2.length : Int) then (impl_determinant.l1 kj18 l0 (x3_2.set (x4_1 : Int).toNat (wrap64 ((rd x3_2 x4_1) + (wrap64 ((rd (rd_L4 l0 (ji13)) x29_2) * (rd x3_2 (Go.bits .andNot .i64 x4_1 (shl .i64 1 x29_2)))))))) x4_1 (rd_L4 l0 (ji13)) ((rd_L4 l0 (ji13)).length : Int) ji24) else (none)) else (none)) else (none)) else (none)) else (none)))) = some r := by first | (rw [hji26] at H; exact H) | (simp only [hji26] at H ⊢; exact H)
                  have hji26_ : (x4_1 / 2 ^ min (ji24).toNat 64) = ji26 := hji26
                  have hji26z : (ji24) ≤ 64 → (x4_1 / 2 ^ (ji24).toNat) = ji26 := shr_small hji26
                  replace H := Option.bind_eq_some_iff.mp H
                  obtain ⟨t509, A270, H⟩ := H
                  replace H : (if (Int.tmod t509 2) = 1 then (if 0 ≤ x4_1 then (if x4_1 < (x3_2.length : Int) then (if 0 ≤ x29_2 then (if 0 ≤ (Go.bits .andNot .i64 x4_1 (shl .i64 1 x29_2)) then (if (Go.bits .andNot .i64 x4_1 (shl .i64 1 x29_2)) < (x3_2.length : Int) then (impl_determinant.l1 kj18 l0 (x3_2.set (x4_1 : Int).toNat (wrap64 ((rd x3_2 x4_1) + (wrap64 ((wrap64 (-(rd (rd_L4 l0 (ji13)) x29_2))) * (rd x3_2 (Go.bits .andNot .i64 x4_1 (shl .i64 1 x29_2)))))))) x4_1 (rd_L4 l0 (ji13)) ((rd_L4 l0 (ji13)).length : Int) ji24) else (none)) else (none)) else (none)) else (none)) else (none)) else (if 0 ≤ x4_1 then (if x4_1 < (x3_2.length : Int) then (if 0 ≤ x29_2 then (if 0 ≤ (Go.bits .andNot .i64 x4_1 (shl .i64 1 x29_2)) then (if (Go.bits .andNot .i64 x4_1 (shl .i64 1 x29_2)) < (x3_2.length : Int) then (impl_determinant.l1 kj18 l0 (x3_2.set (x4_1 : Int).toNat (wrap64 ((rd x3_2 x4_1) + (wrap64 ((rd (rd_L4 l0 (ji13)) x29_2) * (rd x3_2 (Go.bits .andNot .i64 x4_1 (shl .i64 1 x29_2)))))))) x4_1 (rd_L4 l0 (ji13)) ((rd_L4 l0 (ji13)).length : Int) ji24) else (none)) else (none)) else (none)) else (none)) else (none))) = some r := H
                  have A27 := Aside0.mk A270
                  clear A270
                  by_cases c28 : (Int.tmod t509 2) = 1
                  ·rw [if_pos c28] at H
                   have c28b0 : ((Int.tmod t509 2) == 1) = true := beq_iff_eq.mpr c28
                   have c28b1 : ((Int.tmod t509 2) != 1) = false := bne_eq_false_iff_eq.mpr c28
                   clear c28
                   by_cases c29 : 0 ≤ x4_1
                   ·rw [if_pos c29] at H
                    have c29b0 : decide (0 ≤ x4_1) = true := decide_eq_true c29
                    clear c29
                    by_cases c30 : x4_1 < (x3_2.length : Int)
                    ·rw [if_pos c30] at H
                     have c30b0 : decide (x4_1 < (x3_2.length : Int)) = true := decide_eq_true c30
                     clear c30
                     by_cases c31 : 0 ≤ x29_2
                     ·rw [if_pos c31] at H
                      have c31b0 := eq_true c31
                      have c31b1 : decide (0 ≤ x29_2) = true := decide_eq_true c31
                      clear c31
                      obtain ⟨ji32, hji32⟩ : ∃ j_ : Int, (shl .i64 1 x29_2) = j_ := ⟨_, rfl⟩
                      replace H : (if 0 ≤ (Go.bits .andNot .i64 x4_1 (ji32)) then (if (Go.bits .andNot .i64 x4_1 (ji32)) < (x3_2.length : Int) then (impl_determinant.l1 kj18 l0 (x3_2.set (x4_1 : Int).toNat (wrap64 ((rd x3_2 x4_1) + (wrap64 ((wrap64 (-(rd (rd_L4 l0 (ji13)) x29_2))) * (rd x3_2 (Go.bits .andNot .i64 x4_1 (ji32)))))))) x4_1 (rd_L4 l0 (ji13)) ((rd_L4 l0 (ji13)).length : Int) ji24) else (none)) else (none)) = some r := by first | (rw [hji32] at H; exact H) | (simp only [hji32] at H ⊢; exact H)
                      (try rw [hji32] at A27)
                      have hji32_ : (IntKind.i64.wrap (1 * 2 ^ min x29_2.toNat 64)) = ji32 := hji32
                      have hji32z : x29_2 ≤ 64 → (IntKind.i64.wrap (1 * 2 ^ x29_2.toNat)) = ji32 := shl_small hji32
                      have hji32u : (IntKind.i64.wrap (2 ^ min x29_2.toNat 64)) = ji32 := by have h_ := hji32_; rw [Int.one_mul] at h_; exact h_
                      have hji32v : x29_2 ≤ 64 → (IntKind.i64.wrap (2 ^ x29_2.toNat)) = ji32 := fun hle_ => by have h_ := hji32z hle_; rw [Int.one_mul] at h_; exact h_
                      have hji32y : (wrap64 (1 * 2 ^ min x29_2.toNat 64)) = ji32 := (i64_w _).symm.trans hji32_
                      have hji32x : x29_2 ≤ 64 → (wrap64 (1 * 2 ^ x29_2.toNat)) = ji32 := fun h_ => (i64_w _).symm.trans (hji32z h_)
                      by_cases c33 : 0 ≤ (Go.bits .andNot .i64 x4_1 (ji32))
                      ·rw [if_pos c33] at H
                       have c33b0 : decide (0 ≤ (Go.bits .andNot .i64 x4_1 (ji32))) = true := decide_eq_true c33
                       clear c33
                       by_cases c34 : (Go.bits .andNot .i64 x4_1 (ji32)) < (x3_2.length : Int)
                       ·rw [if_pos c34] at H
                        have c34b0 : decide ((Go.bits .andNot .i64 x4_1 (ji32)) < (x3_2.length : Int)) = true := decide_eq_true c34
                        clear c34
                        obtain ⟨y512, hy512⟩ : ∃ y_ : List Int, y_ = (x3_2.set (x4_1 : Int).toNat (wrap64 ((rd x3_2 x4_1) + (wrap64 ((wrap64 (-(rd (rd_L4 l0 (ji13)) x29_2))) * (rd x3_2 (Go.bits .andNot .i64 x4_1 (ji32)))))))) := ⟨_, rfl⟩
                        replace H : (impl_determinant.l1 kj18 l0 y512 x4_1 (rd_L4 l0 (ji13)) ((rd_L4 l0 (ji13)).length : Int) ji24) = some r := by first | (rw [hy512]; with_reducible exact H) | (have H2_ := (Option.bind_some _ _).symm.trans H; rw [hy512]; with_reducible exact H2_) | (have H2_ := (Option.bind_some _ _).symm.trans H; with_reducible exact H2_) | with_reducible exact H | (rw [hy512]; exact H) | exact H
                        have Ny512 := Aside0.mk hy512
                        clear hy512
                        have H' := Aside0.mk H
                        clear H
                        try go_wp2_with (first | ((with_reducible refine gate_callee (f := 48) rfl ?_); refine goesL_ (some 48) rfl rfl Try.func48 (by kernel_rfl) rfl #[.int .u64 (IntKind.u64.wrap (ji26))] rfl (by (try simp only [List.map_toArray, List.map_cons, List.map_nil]); first | done | (simp only [hji26]; rfl) | rfl | (simp only [List.length_drop, List.length_take]; rfl)) ?_; (with_reducible refine (bits_OnesCount.calls (IntKind.u64.wrap (ji26)) t509 _ A27.out).mono ?_); rintro e w' ⟨rfl, ⟨nd, rfl⟩⟩; refine ⟨_, rfl, ?_⟩; (try (rw [drewN_self wc]; generalize hq_ : World.drewN wc _ = wc; have n0_ : Aside0 (Kd.R (Kd.int .i64) 3 wc w.heap.size (fun _ => True) (.slice (some ⟨go6, 0, none⟩) x3_2.length co6) x3_2) := ⟨by rw [← hq_]; exact (kr_ HO_3.out)⟩; have n1_ : Aside0 (Below w.heap.size w wc) := ⟨by rw [← hq_]; exact (hb0_ HB.out)⟩; clear HO_3 HB hq_; have HO_3 := n0_; have HB := n1_; clear n0_ n1_))))
                        replace HO_3 := Aside0.mk (Kd.R_drew HO_3.out)
                        replace HB := Aside0.mk (below_drew1 HB.out)
                        have p510 : 0 ≤ (x4_1 : Int) := of_decide_eq_true (as_)
                        have q510 : x4_1 < (x3_2.length : Int) := of_decide_eq_true (as_)
                        obtain ⟨ad510, e510, hx510_0⟩ := Kd.at_int (Kd.R_reads' HO_3.out).2.2 x4_1 p510 q510
                        obtain rfl : (⟨go6, 0, none⟩ : Addr) = ad510 := (by injection e510)
                        (first | simp only [add_plain] at hx510_0 | simp only [add_at] at hx510_0 | simp only [Addr.add, Nat.zero_add] at hx510_0 | skip)
                        replace p510 := eq_true p510
                        replace q510 := eq_true q510
                        have p511 : 0 ≤ ((Go.bits .andNot .i64 x4_1 (ji32)) : Int) := of_decide_eq_true (as_)
                        have q511 : (Go.bits .andNot .i64 x4_1 (ji32)) < (x3_2.length : Int) := of_decide_eq_true (as_)
                        obtain ⟨ad511, e511, hx511_0⟩ := Kd.at_int (Kd.R_reads' HO_3.out).2.2 (Go.bits .andNot .i64 x4_1 (ji32)) p511 q511
                        obtain rfl : (⟨go6, 0, none⟩ : Addr) = ad511 := (by injection e511)
                        (first | simp only [add_plain] at hx511_0 | simp only [add_at] at hx511_0 | simp only [Addr.add, Nat.zero_add] at hx511_0 | skip)
                        replace p511 := eq_true p511
                        replace q511 := eq_true q511
                        have p35 : 0 ≤ (x4_1 : Int) := of_decide_eq_true (as_)
                        have q35 : (x4_1 : Int) < ((x3_2.length : Int) : Int) := of_decide_eq_true (as_)
                        obtain ⟨hx35_0, hf35_0⟩ := Kd.R_celln 0 HO_3.out (x4_1 : Int) p35 q35
                        replace p35 := eq_true p35
                        replace q35 := eq_true q35
                        have HP37 := Kd.R_putn HO_3.out (x4_1 : Int) (wrap64 ((rd x3_2 x4_1) + (wrap64 ((wrap64 (-(rd (rd_L4 l0 (ji13)) x29_2))) * (rd x3_2 (Go.bits .andNot .i64 x4_1 (ji32)))))))
                        rw [← Ny512.out] at HP37
                        have HQ37 := Aside0.mk HP37
                        clear HP37
                        refine start_ (n := 16) (S := fun w' => w'.cell? ⟨go6, (x4_1).toNat, none⟩ = some (.int .i64 (rd x3_2 x4_1)) ∧ w'.cell? ⟨go6, ((Go.bits .andNot .i64 x4_1 (ji32))).toNat, none⟩ = some (.int .i64 (rd x3_2 (Go.bits .andNot .i64 x4_1 (ji32))))) (ds := [15]) #[false, false, false, false, false, false, false, false, false, false, false, false, false, false, false, false] (by kernel_rfl) rfl rfl ⟨hx510_0, hx511_0⟩ (fun hHeld => ?_); refine with_tabW impl_determinant.tab13 impl_determinant.bits13 (fun HT_ HW_ => ?_)
                        generalize wc.drew = w36 at HO_3 HB HQ37 hf35_0 hx35_0 hx510_0 hx511_0 hHeld ⊢
                        refine pv_ (i := 0) (N := some 53) HT_.out ?_
                        refine pv_ (i := 1) (N := some 54) HT_.out ?_
                        refine pv_ (i := 2) (N := some 55) HT_.out ?_
                        refine pv_ (i := 4) (N := some 57) HT_.out ?_
                        refine pv_ (i := 5) (N := some 58) HT_.out ?_
                        refine pv_ (i := 6) (N := some 59) HT_.out ?_
                        refine pv_ (i := 7) (N := some 60) HT_.out ?_
                        refine pv_ (i := 8) (N := some 61) HT_.out ?_
                        refine pv_ (i := 9) (N := some 62) HT_.out ?_
                        refine pv_ (i := 10) (N := some 63) HT_.out ?_
                        refine tv2_ (i := 3) (N := some 56) HT_.out HW_.out hHeld ?_
                        refine tv2_ (i := 11) (N := some 64) HT_.out HW_.out hHeld ?_
                        refine pv_ (i := 12) (N := some 65) HT_.out ?_
                        refine pv_ (i := 13) (N := some 66) HT_.out ?_
                        refine pv_ (i := 14) (N := some 67) HT_.out ?_
                        refine last_ (i := 15) (N := none) #[true, true, true, true, true, true, true, true, true, true, true, true, true, true, true, true] rfl rfl (one_of HT_.out (by kernel_rfl)) (by decide) (fun K hK => ?_)
                        refine skip_ (w1 := ?_) (by rfl) rfl ?_ ?_
                        rotate_left
                        ·go_simp
                         rfl
                        refine hK.out _ _ ?_
                        clear hK K
                        refine done_ (done_of HT_.out (by kernel_rfl)) ?_
                        try go_wp2
                        (try simp only [← hl3_2])
                        go_roundg kj18
                        case measure => have := HK1.out; have := HK2.out; have := HJ18.out; omega
                        case rel => exact ⟨(y512), (ji24), (by first | rfl | (simp; done) | (simp only [← hji24] <;> (first | rfl | simp)) | (simp [*]; done)), H', ⟨by have := HK1.out; have := HK2.out; have := HJ18.out; omega⟩, ⟨by (try simp only [hl3_1]); (try simp only [hl3_2]); (with_reducible repeat (first | apply Kd.R_alloc | apply Kd.R_drewN | apply Kd.R_drew)); exact HQ37.out⟩, ⟨hb1_ HB.out GB6.out⟩⟩
                       ·rw [if_neg c34] at H
                        exact absurd H (by simp)
                      ·rw [if_neg c33] at H
                       exact absurd H (by simp)
                     ·rw [if_neg c31] at H
                      exact absurd H (by simp)
                    ·rw [if_neg c30] at H
                     exact absurd H (by simp)
                   ·rw [if_neg c29] at H
                    exact absurd H (by simp)
                  ·rw [if_neg c28] at H
                   have c28b0 : ((Int.tmod t509 2) == 1) = false := beq_eq_false_iff_ne.mpr c28
                   have c28b1 : ((Int.tmod t509 2) != 1) = true := bne_iff_ne.mpr c28
                   by_cases c38 : 0 ≤ x4_1
                   ·rw [if_pos c38] at H
                    have c38b0 : decide (0 ≤ x4_1) = true := decide_eq_true c38
                    clear c38
                    by_cases c39 : x4_1 < (x3_2.length : Int)
                    ·rw [if_pos c39] at H
                     have c39b0 : decide (x4_1 < (x3_2.length : Int)) = true := decide_eq_true c39
                     clear c39
                     by_cases c40 : 0 ≤ x29_2
                     ·rw [if_pos c40] at H
                      have c40b0 := eq_true c40
                      have c40b1 : decide (0 ≤ x29_2) = true := decide_eq_true c40
                      clear c40
                      obtain ⟨ji41, hji41⟩ : ∃ j_ : Int, (shl .i64 1 x29_2) = j_ := ⟨_, rfl⟩
                      replace H : (if 0 ≤ (Go.bits .andNot .i64 x4_1 (ji41)) then (if (Go.bits .andNot .i64 x4_1 (ji41)) < (x3_2.length : Int) then (impl_determinant.l1 kj18 l0 (x3_2.set (x4_1 : Int).toNat (wrap64 ((rd x3_2 x4_1) + (wrap64 ((rd (rd_L4 l0 (ji13)) x29_2) * (rd x3_2 (Go.bits .andNot .i64 x4_1 (ji41)))))))) x4_1 (rd_L4 l0 (ji13)) ((rd_L4 l0 (ji13)).length : Int) ji24) else (none)) else (none)) = some r := by first | (rw [hji41] at H; exact H) | (simp only [hji41] at H ⊢; exact H)
                      (try rw [hji41] at A27)
                      have hji41_ : (IntKind.i64.wrap (1 * 2 ^ min x29_2.toNat 64)) = ji41 := hji41
                      have hji41z : x29_2 ≤ 64 → (IntKind.i64.wrap (1 * 2 ^ x29_2.toNat)) = ji41 := shl_small hji41
                      have hji41u : (IntKind.i64.wrap (2 ^ min x29_2.toNat 64)) = ji41 := by have h_ := hji41_; rw [Int.one_mul] at h_; exact h_
                      have hji41v : x29_2 ≤ 64 → (IntKind.i64.wrap (2 ^ x29_2.toNat)) = ji41 := fun hle_ => by have h_ := hji41z hle_; rw [Int.one_mul] at h_; exact h_
                      have hji41y : (wrap64 (1 * 2 ^ min x29_2.toNat 64)) = ji41 := (i64_w _).symm.trans hji41_
                      have hji41x : x29_2 ≤ 64 → (wrap64 (1 * 2 ^ x29_2.toNat)) = ji41 := fun h_ => (i64_w _).symm.trans (hji41z h_)
                      by_cases c42 : 0 ≤ (Go.bits .andNot .i64 x4_1 (ji41))
                      ·rw [if_pos c42] at H
                       have c42b0 : decide (0 ≤ (Go.bits .andNot .i64 x4_1 (ji41))) = true := decide_eq_true c42
                       clear c42
                       by_cases c43 : (Go.bits .andNot .i64 x4_1 (ji41)) < (x3_2.length : Int)
                       ·rw [if_pos c43] at H
                        have c43b0 : decide ((Go.bits .andNot .i64 x4_1 (ji41)) < (x3_2.length : Int)) = true := decide_eq_true c43
                        clear c43
                        obtain ⟨y515, hy515⟩ : ∃ y_ : List Int, y_ = (x3_2.set (x4_1 : Int).toNat (wrap64 ((rd x3_2 x4_1) + (wrap64 ((rd (rd_L4 l0 (ji13)) x29_2) * (rd x3_2 (Go.bits .andNot .i64 x4_1 (ji41)))))))) := ⟨_, rfl⟩
                        replace H : (impl_determinant.l1 kj18 l0 y515 x4_1 (rd_L4 l0 (ji13)) ((rd_L4 l0 (ji13)).length : Int) ji24) = some r := by first | (rw [hy515]; with_reducible exact H) | (have H2_ := (Option.bind_some _ _).symm.trans H; rw [hy515]; with_reducible exact H2_) | (have H2_ := (Option.bind_some _ _).symm.trans H; with_reducible exact H2_) | with_reducible exact H | (rw [hy515]; exact H) | exact H
                        have Ny515 := Aside0.mk hy515
                        clear hy515
                        have H' := Aside0.mk H
                        clear H
                        try go_wp2_with (first | ((with_reducible refine gate_callee (f := 48) rfl ?_); refine goesL_ (some 48) rfl rfl Try.func48 (by kernel_rfl) rfl #[.int .u64 (IntKind.u64.wrap (ji26))] rfl (by (try simp only [List.map_toArray, List.map_cons, List.map_nil]); first | done | (simp only [hji26]; rfl) | rfl | (simp only [List.length_drop, List.length_take]; rfl)) ?_; (with_reducible refine (bits_OnesCount.calls (IntKind.u64.wrap (ji26)) t509 _ A27.out).mono ?_); rintro e w' ⟨rfl, ⟨nd, rfl⟩⟩; refine ⟨_, rfl, ?_⟩; (try (rw [drewN_self wc]; generalize hq_ : World.drewN wc _ = wc; have n0_ : Aside0 (Kd.R (Kd.int .i64) 3 wc w.heap.size (fun _ => True) (.slice (some ⟨go6, 0, none⟩) x3_2.length co6) x3_2) := ⟨by rw [← hq_]; exact (kr_ HO_3.out)⟩; have n1_ : Aside0 (Below w.heap.size w wc) := ⟨by rw [← hq_]; exact (hb0_ HB.out)⟩; clear HO_3 HB hq_; have HO_3 := n0_; have HB := n1_; clear n0_ n1_))))
                        replace HO_3 := Aside0.mk (Kd.R_drew HO_3.out)
                        replace HB := Aside0.mk (below_drew1 HB.out)
                        have p513 : 0 ≤ (x4_1 : Int) := of_decide_eq_true (as_)
                        have q513 : x4_1 < (x3_2.length : Int) := of_decide_eq_true (as_)
                        obtain ⟨ad513, e513, hx513_0⟩ := Kd.at_int (Kd.R_reads' HO_3.out).2.2 x4_1 p513 q513
                        obtain rfl : (⟨go6, 0, none⟩ : Addr) = ad513 := (by injection e513)
                        (first | simp only [add_plain] at hx513_0 | simp only [add_at] at hx513_0 | simp only [Addr.add, Nat.zero_add] at hx513_0 | skip)
                        replace p513 := eq_true p513
                        replace q513 := eq_true q513
                        have p514 : 0 ≤ ((Go.bits .andNot .i64 x4_1 (ji41)) : Int) := of_decide_eq_true (as_)
                        have q514 : (Go.bits .andNot .i64 x4_1 (ji41)) < (x3_2.length : Int) := of_decide_eq_true (as_)
                        obtain ⟨ad514, e514, hx514_0⟩ := Kd.at_int (Kd.R_reads' HO_3.out).2.2 (Go.bits .andNot .i64 x4_1 (ji41)) p514 q514
                        obtain rfl : (⟨go6, 0, none⟩ : Addr) = ad514 := (by injection e514)
                        (first | simp only [add_plain] at hx514_0 | simp only [add_at] at hx514_0 | simp only [Addr.add, Nat.zero_add] at hx514_0 | skip)
                        replace p514 := eq_true p514
                        replace q514 := eq_true q514
                        have p44 : 0 ≤ (x4_1 : Int) := of_decide_eq_true (as_)
                        have q44 : (x4_1 : Int) < ((x3_2.length : Int) : Int) := of_decide_eq_true (as_)
                        obtain ⟨hx44_0, hf44_0⟩ := Kd.R_celln 0 HO_3.out (x4_1 : Int) p44 q44
                        replace p44 := eq_true p44
                        replace q44 := eq_true q44
                        have HP46 := Kd.R_putn HO_3.out (x4_1 : Int) (wrap64 ((rd x3_2 x4_1) + (wrap64 ((rd (rd_L4 l0 (ji13)) x29_2) * (rd x3_2 (Go.bits .andNot .i64 x4_1 (ji41)))))))
                        rw [← Ny515.out] at HP46
                        have HQ46 := Aside0.mk HP46
                        clear HP46
                        refine start_ (n := 16) (S := fun w' => w'.cell? ⟨go6, (x4_1).toNat, none⟩ = some (.int .i64 (rd x3_2 x4_1)) ∧ w'.cell? ⟨go6, ((Go.bits .andNot .i64 x4_1 (ji41))).toNat, none⟩ = some (.int .i64 (rd x3_2 (Go.bits .andNot .i64 x4_1 (ji41))))) (ds := [15]) #[false, false, false, false, false, false, false, false, false, false, false, false, false, false, false, false] (by kernel_rfl) rfl rfl ⟨hx513_0, hx514_0⟩ (fun hHeld => ?_); refine with_tabW impl_determinant.tab13 impl_determinant.bits13 (fun HT_ HW_ => ?_)
                        generalize wc.drew = w45 at HO_3 HB HQ46 hf44_0 hx44_0 hx513_0 hx514_0 hHeld ⊢
                        refine pv_ (i := 0) (N := some 53) HT_.out ?_
                        refine pv_ (i := 1) (N := some 54) HT_.out ?_
                        refine pv_ (i := 2) (N := some 55) HT_.out ?_
                        refine pv_ (i := 4) (N := some 57) HT_.out ?_
                        refine pv_ (i := 5) (N := some 58) HT_.out ?_
                        refine pv_ (i := 6) (N := some 59) HT_.out ?_
                        refine pv_ (i := 7) (N := some 60) HT_.out ?_
                        refine pv_ (i := 8) (N := some 61) HT_.out ?_
                        refine pv_ (i := 9) (N := some 62) HT_.out ?_
                        refine pv_ (i := 10) (N := some 63) HT_.out ?_
                        refine tv2_ (i := 3) (N := some 56) HT_.out HW_.out hHeld ?_
                        refine tv2_ (i := 11) (N := some 64) HT_.out HW_.out hHeld ?_
                        refine pv_ (i := 12) (N := some 65) HT_.out ?_
                        refine pv_ (i := 13) (N := some 66) HT_.out ?_
                        refine pv_ (i := 14) (N := some 67) HT_.out ?_
                        refine last_ (i := 15) (N := none) #[true, true, true, true, true, true, true, true, true, true, true, true, true, true, true, true] rfl rfl (one_of HT_.out (by kernel_rfl)) (by decide) (fun K hK => ?_)
                        refine skip_ (w1 := ?_) (by rfl) rfl ?_ ?_
                        rotate_left
                        ·go_simp
                         rfl
                        refine hK.out _ _ ?_
                        clear hK K
                        refine done_ (done_of HT_.out (by kernel_rfl)) ?_
                        try go_wp2
                        (try simp only [← hl3_2])
                        go_roundg kj18
                        case measure => have := HK1.out; have := HK2.out; have := HJ18.out; omega
                        case rel => exact ⟨(y515), (ji24), (by first | rfl | (simp; done) | (simp only [← hji24] <;> (first | rfl | simp)) | (simp [*]; done)), H', ⟨by have := HK1.out; have := HK2.out; have := HJ18.out; omega⟩, ⟨by (try simp only [hl3_1]); (try simp only [hl3_2]); (with_reducible repeat (first | apply Kd.R_alloc | apply Kd.R_drewN | apply Kd.R_drew)); exact HQ46.out⟩, ⟨hb1_ HB.out GB6.out⟩⟩
                       ·rw [if_neg c43] at H
                        exact absurd H (by simp)
                      ·rw [if_neg c42] at H
                       exact absurd H (by simp)
                     ·rw [if_neg c40] at H
                      exact absurd H (by simp)
                    ·rw [if_neg c39] at H
                     exact absurd H (by simp)
                   ·rw [if_neg c38] at H
                    exact absurd H (by simp)
                 ·rw [if_neg c25] at H
                  exact absurd H (by simp)
             ·rw [if_neg c18] at H
              exact absurd H (by simp)
            ·rw [if_neg c17] at H
             exact absurd H (by simp)
           ·rw [if_neg c16] at H
            have c16b0 : decide (x29_2 < ((rd_L4 l0 (ji13)).length : Int)) = false := decide_eq_false c16
            clear c16
            have H' := Aside0.mk H
            clear H
            go_wp2
            (try simp only [← hl3_1, ← hl3_2])
            go_roundg k2
            case measure => have := HK1.out; have := HK2.out; omega
            case rel => exact ⟨(x3_2), (wrap64 (x4_1 + 1)), (by first | rfl | (simp; done) | (simp [*]; done)), H', ⟨by have := HK1.out; have := HK2.out; omega⟩, ⟨by (try simp only [hl3_1]); (try simp only [hl3_2]); (with_reducible repeat (first | apply Kd.R_alloc | apply Kd.R_drewN | apply Kd.R_drew)); exact HO_3.out⟩, ⟨hb0_ HB.out⟩⟩
        ·rw [if_neg c15] at H
         exact absurd H (by simp)
       ·rw [if_neg c14] at H
        exact absurd H (by simp)
      ·rw [if_neg c11] at H
       have c11b0 : decide (x4_1 < (x3_1.length : Int)) = false := decide_eq_false c11
       clear c11
       obtain ⟨ji47, hji47⟩ : ∃ j_ : Int, (wrap64 ((x3_1.length : Int) - 1)) = j_ := ⟨_, rfl⟩
       replace H : (if 0 ≤ (ji47) then (if (ji47) < (x3_1.length : Int) then (some (rd x3_1 (ji47))) else (none)) else (none)) = some r := by first | (rw [hji47] at H; exact H) | (simp only [hji47] at H ⊢; exact H)
       have hji47w : (IntKind.i64.wrap ((x3_1.length : Int) - 1)) = ji47 := (i64_w _).trans hji47
       by_cases c48 : 0 ≤ (ji47)
       ·rw [if_pos c48] at H
        have c48b0 : decide (0 ≤ (ji47)) = true := decide_eq_true c48
        clear c48
        by_cases c49 : (ji47) < (x3_1.length : Int)
        ·rw [if_pos c49] at H
         have c49b0 : decide ((ji47) < (x3_1.length : Int)) = true := decide_eq_true c49
         clear c49
         obtain rfl := Option.some.inj H
         have p505 : 0 ≤ ((ji47) : Int) := of_decide_eq_true (as_)
         have q505 : (ji47) < (x3_1.length : Int) := of_decide_eq_true (as_)
         obtain ⟨ad505, e505, hx505_0⟩ := Kd.at_int (Kd.R_reads' HO_3.out).2.2 (ji47) p505 q505
         obtain rfl : (⟨go6, 0, none⟩ : Addr) = ad505 := (by injection e505)
         (first | simp only [add_plain] at hx505_0 | simp only [add_at] at hx505_0 | simp only [Addr.add, Nat.zero_add] at hx505_0 | skip)
         replace p505 := eq_true p505
         replace q505 := eq_true q505
         go_wp2
         go_ret
         exact ⟨by first | rfl | (simp [errW_none, errW_some] <;> rfl) | (simp only [← hji2, ← hji47]; first | rfl | (simp [errW_none, errW_some] <;> rfl)) | (simp [*, errW_none, errW_some] <;> rfl), hb0_ HB.out⟩
        ·rw [if_neg c49] at H
         exact absurd H (by simp)
       ·rw [if_neg c48] at H
        exact absurd H (by simp)
   ·rw [if_neg c5] at H
    exact absurd H (by simp)
  ·rw [if_neg c4] at H
   exact absurd H (by simp)
 ·rw [if_neg c3] at H
  exact absurd H (by simp)

end Go.Proofs.Ytnfclfpicemojaa.X
