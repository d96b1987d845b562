-- Written by a program of this session (xprint.py), out of the translation and of hand-written contracts. Lean checks it.
import Derived.Test.YtgnnkjgfkdaddaaDoorX0
import Derived.Test.YtgnnkjgfkdaddaaDoorXspecMoveOne
import Derived.Test.YtgnnkjgfkdaddaaDoorXspecl28Copy
import Derived.Test.YtgnnkjgfkdaddaaDoorXspecl31Key
namespace Go.Proofs.YtgnnkjgfkdaddaaDoor.X
open Go.RowKit Go.Proofs.YtgnnkjgfkdaddaaDoorW.PrintWords Go.Proofs.YtgnnkjgfkdaddaaDoorW.PrintLast Go.Proofs.YtgnnkjgfkdaddaaDoorW.PrintMore
attribute [local go_sem] max2_int min2_int max_two min_two max_three min_three max_four min_four   -- for this text's walks alone
set_option linter.unusedVariables false
set_option linter.unusedSimpArgs false

/-! ### spec_l31Search: function 11 -/
mutual
def spec_l31Search.l0 : Nat → List Int → List (List Int) → List Bool → Int → Int → Int → Int → Option ((List (List Int)))
 | 0, _, _, _, _, _, _, _ => none
 | k + 1, x1, x5, x6, x7, x502000, x502001, x502002 => if x7 < (x5.length : Int) then (spec_l31Search.l1 k x1 x5 x6 x7 0 x502000 x502001 x502002) else (some x5)
def spec_l31Search.l1 : Nat → List Int → List (List Int) → List Bool → Int → Int → Int → Int → Int → Option ((List (List Int)))
 | 0, _, _, _, _, _, _, _, _ => none
 | k + 1, x1, x5, x6, x7, x8, x502000, x502001, x502002 => if x8 < (x1.length : Int) then (spec_l31Search.l2 k x1 x5 x6 x7 x8 0 x502000 x502001 x502002) else (spec_l31Search.l0 k x1 x5 x6 (wrap64 (x7 + 1)) x502000 x502001 x502002)
def spec_l31Search.l2 : Nat → List Int → List (List Int) → List Bool → Int → Int → Int → Int → Int → Int → Option ((List (List Int)))
 | 0, _, _, _, _, _, _, _, _, _ => none
 | k + 1, x1, x5, x6, x7, x8, x9, x502000, x502001, x502002 => if x9 ≤ 3 then (if 0 ≤ x7 then (if x7 < (x5.length : Int) then ((spec_MoveOne.f k x502000 x502001 x502002 (rd_L1 x5 x7) x8 x9).bind fun bt514 => (if bt514.2 = true then ((spec_l31Key.f k bt514.1).bind fun t518 => (if 0 ≤ t518 then (if t518 < (x6.length : Int) then (if rdOf false x6 t518 = true then (spec_l31Search.l2 k x1 x5 x6 x7 x8 (wrap64 (x9 + 1)) x502000 x502001 x502002) else ((spec_l31Key.f k bt514.1).bind fun t520 => (if 0 ≤ t520 then (if t520 < (x6.length : Int) then (if x5.length < 5864062014805 then (spec_l31Search.l2 k x1 (x5 ++ [bt514.1]) (x6.set (t520 : Int).toNat true) x7 x8 (wrap64 (x9 + 1)) x502000 x502001 x502002) else (none)) else (none)) else (none)))) else (none)) else (none))) else (spec_l31Search.l2 k x1 x5 x6 x7 x8 (wrap64 (x9 + 1)) x502000 x502001 x502002))) else (none)) else (none)) else (spec_l31Search.l1 k x1 x5 x6 x7 (wrap64 (x8 + 1)) x502000 x502001 x502002)
end
def spec_l31Search.f (k : Nat) (a0_0 : Int) (a0_1 : Int) (a0_2 : Int) (l1 : List Int) : Option ((List (List Int))) := (spec_l28Copy.f l1).bind fun t502 => (if 0 ≤ (wrap64 ((wrap64 (4 * (l1.length : Int))) + 1)) then (if 0 ≤ (shl .i64 1 (wrap64 ((wrap64 (4 * (l1.length : Int))) + 1))) then (if (shl .i64 1 (wrap64 ((wrap64 (4 * (l1.length : Int))) + 1)) : Int).toNat ≤ 281474976710656 then ((some (List.replicate (shl .i64 1 (wrap64 ((wrap64 (4 * (l1.length : Int))) + 1)) : Int).toNat false : List Bool)).bind fun y508 => ((spec_l31Key.f k l1).bind fun t511 => (if 0 ≤ t511 then (if t511 < (y508.length : Int) then (spec_l31Search.l0 k l1 (([t502] : List (List Int))) (y508.set (t511 : Int).toNat true) 0 a0_0 a0_1 a0_2) else (none)) else (none)))) else (none)) else (none)) else (none))
theorem spec_l31Search.mono_l : ∀ k, (∀ y0 y1 y2 y3 y4 y5 y6, LeO (spec_l31Search.l0 k y0 y1 y2 y3 y4 y5 y6) (spec_l31Search.l0 (k + 1) y0 y1 y2 y3 y4 y5 y6)) ∧ (∀ y0 y1 y2 y3 y4 y5 y6 y7, LeO (spec_l31Search.l1 k y0 y1 y2 y3 y4 y5 y6 y7) (spec_l31Search.l1 (k + 1) y0 y1 y2 y3 y4 y5 y6 y7)) ∧ (∀ y0 y1 y2 y3 y4 y5 y6 y7 y8, LeO (spec_l31Search.l2 k y0 y1 y2 y3 y4 y5 y6 y7 y8) (spec_l31Search.l2 (k + 1) y0 y1 y2 y3 y4 y5 y6 y7 y8))
 | 0 => ⟨fun _ _ _ _ _ _ _ r h => by simp [spec_l31Search.l0] at h, fun _ _ _ _ _ _ _ _ r h => by simp [spec_l31Search.l1] at h, fun _ _ _ _ _ _ _ _ _ r h => by simp [spec_l31Search.l2] at h⟩
 | k + 1 => by
  obtain ⟨ih0, ih1, ih2⟩ := spec_l31Search.mono_l k
  refine ⟨?_, ?_, ?_⟩
  ·intro y0 y1 y2 y3 y4 y5 y6
   unfold spec_l31Search.l0
   repeat' first
   | (with_reducible exact ih0 ..)
   | (with_reducible exact ih1 ..)
   | (with_reducible exact ih2 ..)
   | (with_reducible exact spec_MoveOne.mono ..)
   | (with_reducible exact spec_l31Key.mono ..)
   | (with_reducible first | exact lr_ _ | exact ln_ _ | refine li_ ?_ ?_ | refine lb_ ?_ fun _ => ?_)
   | exact ih0 ..
   | exact ih1 ..
   | exact ih2 ..
   | exact spec_MoveOne.mono ..
   | exact spec_l31Key.mono ..
   | exact ln_ _ | refine li_ ?_ ?_ | refine lb_ ?_ fun _ => ?_
  ·intro y0 y1 y2 y3 y4 y5 y6 y7
   unfold spec_l31Search.l1
   repeat' first
   | (with_reducible exact ih0 ..)
   | (with_reducible exact ih1 ..)
   | (with_reducible exact ih2 ..)
   | (with_reducible exact spec_MoveOne.mono ..)
   | (with_reducible exact spec_l31Key.mono ..)
   | (with_reducible first | exact lr_ _ | exact ln_ _ | refine li_ ?_ ?_ | refine lb_ ?_ fun _ => ?_)
   | exact ih0 ..
   | exact ih1 ..
   | exact ih2 ..
   | exact spec_MoveOne.mono ..
   | exact spec_l31Key.mono ..
   | exact ln_ _ | refine li_ ?_ ?_ | refine lb_ ?_ fun _ => ?_
  ·intro y0 y1 y2 y3 y4 y5 y6 y7 y8
   unfold spec_l31Search.l2
   repeat' first
   | (with_reducible exact ih0 ..)
   | (with_reducible exact ih1 ..)
   | (with_reducible exact ih2 ..)
   | (with_reducible exact spec_MoveOne.mono ..)
   | (with_reducible exact spec_l31Key.mono ..)
   | (with_reducible first | exact lr_ _ | exact ln_ _ | refine li_ ?_ ?_ | refine lb_ ?_ fun _ => ?_)
   | exact ih0 ..
   | exact ih1 ..
   | exact ih2 ..
   | exact spec_MoveOne.mono ..
   | exact spec_l31Key.mono ..
   | exact ln_ _ | refine li_ ?_ ?_ | refine lb_ ?_ fun _ => ?_
theorem spec_l31Search.mono : ∀ a0 a1 a2 a3 k, LeO (spec_l31Search.f k a0 a1 a2 a3) (spec_l31Search.f (k + 1) a0 a1 a2 a3) := by
 intro a0 a1 a2 a3 k
 obtain ⟨ih0, ih1, ih2⟩ := spec_l31Search.mono_l k
 unfold spec_l31Search.f
 repeat' first
   | (with_reducible exact ih0 ..)
   | (with_reducible exact ih1 ..)
   | (with_reducible exact ih2 ..)
   | (with_reducible exact spec_MoveOne.mono ..)
   | (with_reducible exact spec_l31Key.mono ..)
   | (with_reducible first | exact lr_ _ | exact ln_ _ | refine li_ ?_ ?_ | refine lb_ ?_ fun _ => ?_)
   | exact ih0 ..
   | exact ih1 ..
   | exact ih2 ..
   | exact spec_MoveOne.mono ..
   | exact spec_l31Key.mono ..
   | exact ln_ _ | refine li_ ?_ ?_ | refine lb_ ?_ fun _ => ?_
def spec_l31Search.T13 : Bool × List (List Nat × List Nat) := (true, [([], []), ([], []), ([], []), ([1, 2], [1, 2]), ([3], [3]), ([], []), ([], []), ([0, 4, 5, 6], [0, 4, 5, 6]), ([7], [7]), ([8], [8]), ([8], [8]), ([9, 7, 0, 1, 2, 3, 4, 5, 6, 7, 8, 9], [9]), ([10, 11, 0, 1, 2, 3, 4, 5, 6, 7, 8, 9, 10, 11], [10])])
def spec_l31Search.B13 : List Nat := [0, 0, 0, 6, 14, 0, 0, 127, 255, 511, 511, 1023, 4095]
theorem spec_l31Search.tab13 : rtab .any (opsOf Tryd.f11 13) = spec_l31Search.T13 := by kernel_rfl
theorem spec_l31Search.bits13 : waitsOk spec_l31Search.T13.2 spec_l31Search.B13 = true := by kernel_rfl
set_option maxHeartbeats 8000000 in
set_option maxRecDepth 100000 in
theorem spec_l31Search.calls (k : Nat) (a0_0 : Int) (a0_1 : Int) (a0_2 : Int) (A1 : Option Addr) (c1 : Nat) (l1 : List Int) (r : List (List Int)) (w : World) (hr1 : Kd.C (Kd.int .i64) w A1 l1.length l1) (hc1 : l1.length ≤ c1) (h : spec_l31Search.f k a0_0 a0_1 a0_2 l1 = some r) :
  Calls Tryd.prog 11 #[.agg #[.int .i64 a0_0, .int .i64 a0_1, .int .i64 a0_2], .slice A1 l1.length c1] w fun e w' => ∃ v0_ : Value, e = .returned (v0_) ∧ Kd.N (Kd.slice 3 (Kd.int .i64)) 26 w' w.heap.size (fun k_ => (w.heap.size ≤ k_)) v0_ r ∧ Below w.heap.size w w' := by
 have hu30 := Tryd.underlying30
 have HR1 := Aside0.mk hr1
 have HC1 := Aside0.mk hc1
 clear hr1 hc1
 have HB := Aside0.mk (Below.refl w.heap.size w)
 have H : ((spec_l28Copy.f l1).bind fun t502 => (if 0 ≤ (wrap64 ((wrap64 (4 * (l1.length : Int))) + 1)) then (if 0 ≤ (shl .i64 1 (wrap64 ((wrap64 (4 * (l1.length : Int))) + 1))) then (if (shl .i64 1 (wrap64 ((wrap64 (4 * (l1.length : Int))) + 1)) : Int).toNat ≤ 281474976710656 then ((some (List.replicate (shl .i64 1 (wrap64 ((wrap64 (4 * (l1.length : Int))) + 1)) : Int).toNat false : List Bool)).bind fun y508 => ((spec_l31Key.f k l1).bind fun t511 => (if 0 ≤ t511 then (if t511 < (y508.length : Int) then (spec_l31Search.l0 k l1 (([t502] : List (List Int))) (y508.set (t511 : Int).toNat true) 0 a0_0 a0_1 a0_2) else (none)) else (none)))) else (none)) else (none)) else (none))) = some r := h
 clear h
 replace H := Option.bind_eq_some_iff.mp H
 obtain ⟨t502, A30, H⟩ := H
 replace H : (if 0 ≤ (wrap64 ((wrap64 (4 * (l1.length : Int))) + 1)) then (if 0 ≤ (shl .i64 1 (wrap64 ((wrap64 (4 * (l1.length : Int))) + 1))) then (if (shl .i64 1 (wrap64 ((wrap64 (4 * (l1.length : Int))) + 1)) : Int).toNat ≤ 281474976710656 then ((some (List.replicate (shl .i64 1 (wrap64 ((wrap64 (4 * (l1.length : Int))) + 1)) : Int).toNat false : List Bool)).bind fun y508 => ((spec_l31Key.f k l1).bind fun t511 => (if 0 ≤ t511 then (if t511 < (y508.length : Int) then (spec_l31Search.l0 k l1 (([t502] : List (List Int))) (y508.set (t511 : Int).toNat true) 0 a0_0 a0_1 a0_2) else (none)) else (none)))) else (none)) else (none)) else (none)) = some r := H
 have A3 := Aside0.mk A30
 clear A30
 obtain ⟨y505, hy505⟩ : ∃ y_ : List (List Int), y_ = (([t502] : List (List Int))) := ⟨_, rfl⟩
 replace H : (if 0 ≤ (wrap64 ((wrap64 (4 * (l1.length : Int))) + 1)) then (if 0 ≤ (shl .i64 1 (wrap64 ((wrap64 (4 * (l1.length : Int))) + 1))) then (if (shl .i64 1 (wrap64 ((wrap64 (4 * (l1.length : Int))) + 1)) : Int).toNat ≤ 281474976710656 then ((some (List.replicate (shl .i64 1 (wrap64 ((wrap64 (4 * (l1.length : Int))) + 1)) : Int).toNat false : List Bool)).bind fun y508 => ((spec_l31Key.f k l1).bind fun t511 => (if 0 ≤ t511 then (if t511 < (y508.length : Int) then (spec_l31Search.l0 k l1 y505 (y508.set (t511 : Int).toNat true) 0 a0_0 a0_1 a0_2) else (none)) else (none)))) else (none)) else (none)) else (none)) = some r := by first | (rw [hy505]; with_reducible exact H) | (have H2_ := (Option.bind_some _ _).symm.trans H; rw [hy505]; with_reducible exact H2_) | (have H2_ := (Option.bind_some _ _).symm.trans H; with_reducible exact H2_) | with_reducible exact H | (rw [hy505]; exact H) | exact H
 have Ny505 := Aside0.mk hy505
 clear hy505
 obtain ⟨ji4, hji4⟩ : ∃ j_ : Int, (wrap64 ((wrap64 (4 * (l1.length : Int))) + 1)) = j_ := ⟨_, rfl⟩
 replace H : (if 0 ≤ (ji4) then (if 0 ≤ (shl .i64 1 (ji4)) then (if (shl .i64 1 (ji4) : Int).toNat ≤ 281474976710656 then ((some (List.replicate (shl .i64 1 (ji4) : Int).toNat false : List Bool)).bind fun y508 => ((spec_l31Key.f k l1).bind fun t511 => (if 0 ≤ t511 then (if t511 < (y508.length : Int) then (spec_l31Search.l0 k l1 y505 (y508.set (t511 : Int).toNat true) 0 a0_0 a0_1 a0_2) else (none)) else (none)))) else (none)) else (none)) else (none)) = some r := by first | (rw [hji4] at H; exact H) | (simp only [hji4] at H ⊢; exact H)
 (try rw [hji4] at A3)
 have hji4w : (IntKind.i64.wrap ((wrap64 (4 * (l1.length : Int))) + 1)) = ji4 := (i64_w _).trans hji4
 by_cases c5 : 0 ≤ (ji4)
 ·rw [if_pos c5] at H
  have c5b0 := eq_true c5
  have c5b1 : decide (0 ≤ (ji4)) = true := decide_eq_true c5
  clear c5
  obtain ⟨ji6, hji6⟩ : ∃ j_ : Int, (shl .i64 1 (ji4)) = j_ := ⟨_, rfl⟩
  replace H : (if 0 ≤ (ji6) then (if (ji6 : Int).toNat ≤ 281474976710656 then ((some (List.replicate (ji6 : Int).toNat false : List Bool)).bind fun y508 => ((spec_l31Key.f k l1).bind fun t511 => (if 0 ≤ t511 then (if t511 < (y508.length : Int) then (spec_l31Search.l0 k l1 y505 (y508.set (t511 : Int).toNat true) 0 a0_0 a0_1 a0_2) else (none)) else (none)))) else (none)) else (none)) = some r := by first | (rw [hji6] at H; exact H) | (simp only [hji6] at H ⊢; exact H)
  (try rw [hji6] at A3)
  have hji6_ : (IntKind.i64.wrap (1 * 2 ^ min (ji4).toNat 64)) = ji6 := hji6
  have hji6z : (ji4) ≤ 64 → (IntKind.i64.wrap (1 * 2 ^ (ji4).toNat)) = ji6 := shl_small hji6
  have hji6u : (IntKind.i64.wrap (2 ^ min (ji4).toNat 64)) = ji6 := by have h_ := hji6_; rw [Int.one_mul] at h_; exact h_
  have hji6v : (ji4) ≤ 64 → (IntKind.i64.wrap (2 ^ (ji4).toNat)) = ji6 := fun hle_ => by have h_ := hji6z hle_; rw [Int.one_mul] at h_; exact h_
  have hji6y : (wrap64 (1 * 2 ^ min (ji4).toNat 64)) = ji6 := (i64_w _).symm.trans hji6_
  have hji6x : (ji4) ≤ 64 → (wrap64 (1 * 2 ^ (ji4).toNat)) = ji6 := fun h_ => (i64_w _).symm.trans (hji6z h_)
  by_cases c7 : 0 ≤ (ji6)
  ·rw [if_pos c7] at H
   have c7b0 := eq_true c7
   have c7b1 : decide (0 ≤ (ji6)) = true := decide_eq_true c7
   clear c7
   by_cases c8 : (ji6 : Int).toNat ≤ 281474976710656
   ·rw [if_pos c8] at H
    have c8b0 := eq_true c8
    have c8b1 : decide ((ji6 : Int).toNat ≤ 281474976710656) = true := decide_eq_true c8
    clear c8
    obtain ⟨y508, hy508⟩ : ∃ y_ : List Bool, y_ = (List.replicate (ji6 : Int).toNat false) := ⟨_, rfl⟩
    replace H : ((spec_l31Key.f k l1).bind fun t511 => (if 0 ≤ t511 then (if t511 < (y508.length : Int) then (spec_l31Search.l0 k l1 y505 (y508.set (t511 : Int).toNat true) 0 a0_0 a0_1 a0_2) else (none)) else (none))) = some r := by first | (rw [hy508]; with_reducible exact H) | (have H2_ := (Option.bind_some _ _).symm.trans H; rw [hy508]; with_reducible exact H2_) | (have H2_ := (Option.bind_some _ _).symm.trans H; with_reducible exact H2_) | with_reducible exact H | (rw [hy508]; exact H) | exact H
    have Ny508 := Aside0.mk hy508
    clear hy508
    replace H := Option.bind_eq_some_iff.mp H
    obtain ⟨t511, A90, H⟩ := H
    replace H : (if 0 ≤ t511 then (if t511 < (y508.length : Int) then (spec_l31Search.l0 k l1 y505 (y508.set (t511 : Int).toNat true) 0 a0_0 a0_1 a0_2) else (none)) else (none)) = some r := H
    have A9 := Aside0.mk A90
    clear A90
    by_cases c10 : 0 ≤ t511
    ·rw [if_pos c10] at H
     have c10b0 : decide (0 ≤ t511) = true := decide_eq_true c10
     clear c10
     by_cases c11 : t511 < (y508.length : Int)
     ·rw [if_pos c11] at H
      have c11b0 : decide (t511 < (y508.length : Int)) = true := decide_eq_true c11
      clear c11
      obtain ⟨y512, hy512⟩ : ∃ y_ : List Bool, y_ = (y508.set (t511 : Int).toNat true) := ⟨_, rfl⟩
      replace H : (spec_l31Search.l0 k l1 y505 y512 0 a0_0 a0_1 a0_2) = some r := by first | (rw [hy512]; with_reducible exact H) | (have H2_ := (Option.bind_some _ _).symm.trans H; rw [hy512]; with_reducible exact H2_) | (have H2_ := (Option.bind_some _ _).symm.trans H; with_reducible exact H2_) | with_reducible exact H | (rw [hy512]; exact H) | exact H
      have Ny512 := Aside0.mk hy512
      clear hy512
      have H' := Aside0.mk H
      clear H
      go_enter Tryd.func11, Tryd.ntmps11
      go_wp2_with (first | (refine box_ (N := 2) (cs := #[.int .i64 a0_0, .int .i64 a0_1, .int .i64 a0_2]) (t := 30) ?_; intro gb501 hg w13 hbox hb; have BK501 := Aside0.mk (hbox); have GW501 := HB.g0 hg; have GE501 := HB.g0 hg; replace HB := HB.s0 hb; clear hb hbox hg) | (refine gl_ 13 Tryd.func18 #[.slice A1 l1.length c1] ?_; (with_reducible refine (spec_l28Copy.calls _ _ l1 t502 _ ?side1 ?side2 A3.out).mono ?_); (case side1 => repeat (first | exact (Kd.C_below HR1.out HB.out) | (with_reducible refine Kd.C_alloc ?_ _) | (with_reducible refine Kd.C_drewN ?_ _) | (with_reducible refine Kd.C_drew ?_))); (case side2 => exact HC1.out); rintro e w14 ⟨v503, rfl, ho0, hb⟩; refine ⟨_, rfl, ?_⟩; have HO504 := Aside0.mk (Kd.R_lower (Kd.R_newM (M := fun k_ => (w.heap.size ≤ k_)) ho0 (below_size (hb1_ HB.out GE501.out)) (fun k_ h_ => h_)) (below_size (hb1_ HB.out GE501.out))); replace BK501 := BK501.bb hb; replace HB := HB.s1 GE501 hb; (try clear hb); (try clear ho0); obtain ⟨Ao15, co15, eo15⟩ := Kd.R_slice HO504.out; subst eo15) | ((with_reducible refine gate_dst (N := 14) rfl ?_); refine Kd.N_lit (Kd.slice 3 (Kd.int .i64)) _ 26 ?hg (N' := 14) ?hd (xs := ([t502] : List (List Int))) (inner := [.slice Ao15 t502.length co15]) (ok := (fun k_ => (w.heap.size ≤ k_) ∧ k_ ≠ gb501)) (okp := (fun k_ => (w.heap.size ≤ k_) ∧ k_ ≠ gb501)) ?hr ?hp (fun _ hk => hk) ((show ∀ k_, w14.heap.size ≤ k_ → (fun k_ => (w.heap.size ≤ k_) ∧ k_ ≠ gb501) k_ from fun k_ hk => ⟨(Nat.le_trans (below_size (hb1_ HB.out GE501.out)) hk), Kd.freshB (g := gb501) (o := .cells #[.int .i64 a0_0, .int .i64 a0_1, .int .i64 a0_2] 30 (0, 0)) (bk_ BK501.out) k_ hk⟩) _ (Nat.le_refl _)) (Below.refl _ _) (Nat.le_refl _) (by simp) ?_; (case hd => rfl); (case hg => rfl); (case hr => first | (go_simp; done) | (go_simp; rfl)); (case hp => exact (Reps.one (show Kd.FK (Kd.slice 3 (Kd.int .i64)) _ _ t502 [.slice Ao15 t502.length co15] from (Kd.FK_slice_mk (Kd.R_reads' (Kd.R_mono (ok' := (fun k_ => (w.heap.size ≤ k_) ∧ k_ ≠ gb501)) (Kd.R_types (HO504.out) BK501.out (by decide)) (fun k_ hk => by first | exact ⟨hk.1.1, hk.2⟩ | exact hk | ((repeat' apply And.intro) <;> first | exact hk.1 | exact hk.2.1 | exact hk.2.2.1 | exact hk.2.2.2 | exact hk.2.2.2.1 | exact hk.2.2.2.2 | exact hk.2 | exact hk.1.2 | exact hk.1.1.2 | exact hk.1.1.1)))).2.1 (Kd.R_F (Kd.R_mono (ok' := (fun k_ => (w.heap.size ≤ k_) ∧ k_ ≠ gb501)) (Kd.R_types (HO504.out) BK501.out (by decide)) (fun k_ hk => by first | exact ⟨hk.1.1, hk.2⟩ | exact hk | ((repeat' apply And.intro) <;> first | exact hk.1 | exact hk.2.1 | exact hk.2.2.1 | exact hk.2.2.2 | exact hk.2.2.2.1 | exact hk.2.2.2.2 | exact hk.2 | exact hk.1.2 | exact hk.1.1.2 | exact hk.1.1.1)))))) (Reps.none _ _))); intro v506 w16 ho17 hb hg_ hnew_; clear hg_ hnew_; (first | rw [← Ny505.out] at ho17 | (simp only [Int.reduceToNat] at ho17; rw [← Ny505.out] at ho17)); have HO507 := Aside0.mk (Kd.N_lower ho17 (below_size (hb1_ HB.out GE501.out))); replace BK501 := BK501.bb hb; replace HB := HB.s1 GE501 hb; clear HO504; clear hb ho17) | ((with_reducible refine gate_dst (N := 20) rfl ?_); refine Kd.R_make Kd.bool _ 4 rfl (N := 20) rfl 46 _ _ rfl ji6 rfl rfl Tryd.underlying46 (.bool false) 1 info4 rfl (by decide) (by omega) false (ok := fun _ => True) (okp := fun _ => True) rfl (fun _ hk => hk) trivial (of_decide_eq_true (as_)) (Nat.le_trans (Nat.mul_le_mul_right _ (of_decide_eq_true (as_) : ji6.toNat ≤ 281474976710656)) (by omega)) (Below.refl _ _) (Nat.le_refl _) ?_; intro v509 w18 ho19 hb hg_ hnew_; clear hg_ hnew_; (first | rw [← Ny508.out] at ho19 | (simp only [Int.reduceToNat] at ho19; rw [← Ny508.out] at ho19)); replace HO507 := Aside0.mk (Kd.N_elder' (by (with_reducible repeat (first | apply Kd.N_alloc | apply Kd.N_drewN | apply Kd.N_drew)); exact HO507.out) (Kd.R_base ho19) hb); have HO510 := Aside0.mk (Kd.R_lower (Kd.R_newM (M := fun k_ => (w.heap.size ≤ k_)) ho19 (below_size (hb1_ HB.out GE501.out)) (fun k_ h_ => h_)) (below_size (hb1_ HB.out GE501.out))); replace BK501 := BK501.bb hb; replace HB := HB.s1 GE501 hb; clear hb ho19) | (refine gl_ 23 Tryd.func19 #[.slice A1 l1.length c1] ?_; (with_reducible refine (spec_l31Key.calls k _ _ l1 t511 _ ?side1 ?side2 A9.out).mono ?_); (case side1 => repeat (first | exact (Kd.C_below HR1.out HB.out) | (with_reducible refine Kd.C_alloc ?_ _) | (with_reducible refine Kd.C_drewN ?_ _) | (with_reducible refine Kd.C_drew ?_))); (case side2 => exact HC1.out); rintro e w' ⟨rfl, ⟨nd, rfl⟩⟩; refine ⟨_, rfl, ?_⟩; (try (rw [drewN_self w18]; generalize hq_ : World.drewN w18 _ = w18; have n0_ : Aside0 (Kd.N (Kd.slice 3 (Kd.int .i64)) 26 w18 w.heap.size (fun k_ => ((w.heap.size ≤ k_) ∧ k_ ≠ gb501) ∧ some k_ ≠ (v509 : Value).ownBlock) v506 y505) := ⟨by rw [← hq_]; exact (by (with_reducible repeat (first | apply Kd.N_alloc | apply Kd.N_drewN | apply Kd.N_drew)); exact Kd.N_mono HO507.out (fun _ hk => hk))⟩; have n1_ : Aside0 (Kd.R Kd.bool 4 w18 w.heap.size (fun k_ => (w.heap.size ≤ k_)) v509 y508) := ⟨by rw [← hq_]; exact (by (with_reducible repeat (first | apply Kd.R_alloc | apply Kd.R_drewN | apply Kd.R_drew)); exact Kd.R_mono HO510.out (fun _ hk => by first | exact hk.1 | exact hk | ((repeat' apply And.intro) <;> first | exact hk.1 | exact hk.2.1 | exact hk.2.2.1 | exact hk.2.2.2 | exact hk.2.2.2.1 | exact hk.2.2.2.2 | exact hk.2 | exact hk.1.2 | exact hk.1.1.2 | exact hk.1.1.1)))⟩; have n2_ : Aside0 (w18.heap[gb501]? = some (.cells #[.int .i64 a0_0, .int .i64 a0_1, .int .i64 a0_2] 30 (0, 0))) := ⟨by rw [← hq_]; exact (bk_ BK501.out)⟩; have n3_ : Aside0 (Below w.heap.size w w18) := ⟨by rw [← hq_]; exact (hb1_ HB.out GE501.out)⟩; clear HO507 HO510 BK501 HB hq_; have HO507 := n0_; have HO510 := n1_; have BK501 := n2_; have HB := n3_; clear n0_ n1_ n2_ n3_)); have p12 : 0 ≤ (t511 : Int) := of_decide_eq_true (as_); have q12 : (t511 : Int) < ((y508.length : Int) : Int) := of_decide_eq_true (as_); obtain ⟨go12, co12, eo12, gb12, gl12, cl12, HG12⟩ := Kd.R_form HO510.out (by omega); (first | cases eo12 | (injection eo12 with ea_ en_ ec_; (first | subst ea_ | (injection ea_ with ea_; subst ea_)); subst ec_; clear en_)); have GB12 := Aside0.mk gb12; have GG12 := Aside0.mk HG12; clear gb12 gl12 HG12; obtain ⟨hx12_0, hf12_0⟩ := Kd.R_celln false HO510.out (t511 : Int) p12 q12; replace p12 := eq_true p12; replace q12 := eq_true q12; have n_ := Aside0.mk (Kd.R_mono (ok' := (fun k_ => (w.heap.size ≤ k_))) HO510.out (fun k_ hk => by first | exact hk.1 | exact hk)); clear HO510; have HO510 := n_; clear n_; obtain ⟨hy20_, hz20_⟩ := Kd.R_celln false HO510.out (t511 : Int) (of_decide_eq_true (as_)) (of_decide_eq_true (as_)); have HP20 := Kd.R_putg HO510.out (t511 : Int) true) | ((with_reducible refine gate_store (t := 4) (p := 24) rfl ?_); refine store_event (t := 4) (p := 24) (v := ?vo_w21) (w1 := (w18.setCell ⟨go12, (t511 : Int).toNat, none⟩ (.bool true))) ?hg ?ho ?hn ?hr ?_; (case ho => rfl); (case hg => rfl); (case hn => rfl); (case hr => first | (go_simp; done) | (go_simp; rfl)); intro w21 hw; have hg : w18.grownBy w21 (some go12) := (by rw [hw]; exact HP20.2); have hp_ : Kd.R Kd.bool 4 w21 w.heap.size (fun k_ => (w.heap.size ≤ k_)) (.slice (some ⟨go12, 0, none⟩) y508.length co12) y512 := (by rw [hw, Ny512.out]; exact HP20.1); clear HP20; replace BK501 := Aside0.mk (blk_grown (g := gb501) (o := .cells #[.int .i64 a0_0, .int .i64 a0_1, .int .i64 a0_2] 30 (0, 0)) (bk_ BK501.out) hg (Kd.R_ne HO510.out BK501.out (by decide))); replace HO507 := Aside0.mk (Kd.N_afterv (v := (.slice (some ⟨go12, 0, none⟩) y508.length co12)) (v1 := (.slice (some ⟨go12, 0, none⟩) y508.length co12)) (ok := (fun k_ => (w.heap.size ≤ k_) ∧ k_ ≠ gb501)) (by (with_reducible repeat (first | apply Kd.N_alloc | apply Kd.N_drewN | apply Kd.N_drew)); exact HO507.out) hg (.inl rfl)); replace HO510 := Aside0.mk (hp_); replace HB := Aside0.mk ((by rw [hw]; exact below_set (HB.out) GB12.out : Below w.heap.size w w21)); clear hg hw hp_))
      go_loopg [5, 7] k (fun kq v5 v7 w' => ∃ (x5_1 : List (List Int)) (x6_1 : List Bool) (x7_1 : Int), v7 = .int .i64 x7_1 ∧ Aside0 (spec_l31Search.l0 kq l1 x5_1 x6_1 x7_1 a0_0 a0_1 a0_2 = some r) ∧ Aside0 (kq ≤ k) ∧ Aside0 (Kd.N (Kd.slice 3 (Kd.int .i64)) 26 w' w.heap.size (fun k_ => (w.heap.size ≤ k_) ∧ some k_ ≠ ((.slice (some ⟨go12, 0, none⟩) y508.length co12) : Value).ownBlock ∧ k_ ≠ gb501) v5 x5_1) ∧ Aside0 (Kd.R Kd.bool 4 w' w.heap.size (fun k_ => (w.heap.size ≤ k_)) (.slice (some ⟨go12, 0, none⟩) y508.length co12) x6_1) ∧ Aside0 (w'.heap[gb501]? = some (.cells #[.int .i64 a0_0, .int .i64 a0_1, .int .i64 a0_2] 30 (0, 0))) ∧ Aside0 (Below w.heap.size w w'))
      case atStart => exact ⟨(y505), (y512), (0), (by first | rfl | (simp; done) | (simp [*]; done)), H', ⟨Nat.le_refl _⟩, ⟨by (with_reducible repeat (first | apply Kd.N_alloc | apply Kd.N_drewN | apply Kd.N_drew)); exact Kd.N_mono HO507.out (fun _ hk => by first | exact ⟨hk.1.1, ⟨hk.2, hk.1.2⟩⟩ | exact hk | ((repeat' apply And.intro) <;> first | exact hk.1 | exact hk.2.1 | exact hk.2.2.1 | exact hk.2.2.2 | exact hk.2.2.2.1 | exact hk.2.2.2.2 | exact hk.2 | exact hk.1.2 | exact hk.1.1.2 | exact hk.1.1.1))⟩, ⟨kr_ HO510.out⟩, ⟨bk_ BK501.out⟩, ⟨hb1_ HB.out GE501.out⟩⟩
      case round =>
       clear H'
       try clear c1
       try clear p1
       try clear q1
       try clear hx1
       try clear p2
       try clear c5
       try clear c5b0
       try clear c5b1
       try clear p6
       try clear c7
       try clear c7b0
       try clear c7b1
       try clear c8
       try clear c8b0
       try clear c8b1
       try clear c10
       try clear c10b0
       try clear c11
       try clear c11b0
       try clear p12
       try clear q12
       try clear hx12
       try clear hf12
       try clear c18
       try clear c19
       try clear hx12_0
       try clear p12
       try clear q12
       obtain ⟨x5_1, x6_1, x7_1, rfl, HA, HK1, HO_5, HO_6, BK501, HB⟩ := hrel
       have hl6_1 := (Kd.R_reads' HO_6.out).1
       rw [hl6_1] at HO_6
       (try simp only [hl6_1])
       (try simp only [hl6_1] at BK501)
       (try simp only [hl6_1] at HO_5)
       cases gk with
       | zero => exact absurd HA.out (by simp [spec_l31Search.l0])
       | succ k1 =>
        have H := HA.out
        clear HA
        simp only [spec_l31Search.l0] at H
        by_cases c22 : x7_1 < (x5_1.length : Int)
        ·rw [if_pos c22] at H
         have c22b0 : decide (x7_1 < (x5_1.length : Int)) = true := decide_eq_true c22
         clear c22
         have H' := Aside0.mk H
         clear H
         obtain ⟨Ao23, co23, eo23⟩ := Kd.N_slice HO_5.out
         subst eo23
         go_wp2
         go_loopg [5, 8] k1 (fun kq v5 v8 w' => ∃ (x5_2 : List (List Int)) (x6_2 : List Bool) (x8_2 : Int), v8 = .int .i64 x8_2 ∧ Aside0 (spec_l31Search.l1 kq l1 x5_2 x6_2 x7_1 x8_2 a0_0 a0_1 a0_2 = some r) ∧ Aside0 (kq ≤ k1) ∧ Aside0 (Kd.N (Kd.slice 3 (Kd.int .i64)) 26 w' w.heap.size (fun k_ => (w.heap.size ≤ k_) ∧ some k_ ≠ ((.slice (some ⟨go12, 0, none⟩) x6_1.length co12) : Value).ownBlock ∧ k_ ≠ gb501) v5 x5_2) ∧ Aside0 (Kd.R Kd.bool 4 w' w.heap.size (fun k_ => (w.heap.size ≤ k_)) (.slice (some ⟨go12, 0, none⟩) x6_1.length co12) x6_2) ∧ Aside0 (w'.heap[gb501]? = some (.cells #[.int .i64 a0_0, .int .i64 a0_1, .int .i64 a0_2] 30 (0, 0))) ∧ Aside0 (Below w.heap.size w w'))
         case atStart => exact ⟨(x5_1), (x6_1), (0), (by first | rfl | (simp; done) | (simp [*]; done)), H', ⟨Nat.le_refl _⟩, ⟨by (try simp only [hl6_1]); (with_reducible repeat (first | apply Kd.N_alloc | apply Kd.N_drewN | apply Kd.N_drew)); exact HO_5.out⟩, ⟨by (try simp only [hl6_1]); (with_reducible repeat (first | apply Kd.R_alloc | apply Kd.R_drewN | apply Kd.R_drew)); exact HO_6.out⟩, ⟨by (try simp only [hl6_1]); (with_reducible repeat (first | refine blk_drewN ?_ _ | refine blk_drew ?_ | refine blk_alloc ?_ _)); exact BK501.out⟩, ⟨hb1_ HB.out GE501.out⟩⟩
         case round =>
          clear H'
          try clear c1
          try clear p1
          try clear q1
          try clear hx1
          try clear c2
          try clear p2
          try clear c5
          try clear c5b0
          try clear c5b1
          try clear p6
          try clear c7
          try clear c7b0
          try clear c7b1
          try clear c8
          try clear c8b0
          try clear c8b1
          try clear c10
          try clear c10b0
          try clear c11
          try clear c11b0
          try clear p12
          try clear q12
          try clear hx12
          try clear hf12
          try clear c18
          try clear c19
          try clear c22
          try clear c22b0
          try clear hx12_0
          try clear p1
          try clear p12
          try clear p2
          try clear p6
          try clear q1
          try clear q12
          obtain ⟨x5_2, x6_2, x8_2, rfl, HA, HK2, HO_5, HO_6, BK501, HB⟩ := hrel
          have hl6_2 := (Kd.R_reads' HO_6.out).1
          rw [hl6_2] at HO_6
          (try simp only [hl6_2])
          (try simp only [hl6_2] at BK501)
          (try simp only [hl6_2] at HO_5)
          cases gk with
          | zero => exact absurd HA.out (by simp [spec_l31Search.l1])
          | succ k2 =>
           have H := HA.out
           clear HA
           simp only [spec_l31Search.l1] at H
           by_cases c24 : x8_2 < (l1.length : Int)
           ·rw [if_pos c24] at H
            have c24b0 : decide (x8_2 < (l1.length : Int)) = true := decide_eq_true c24
            clear c24
            have H' := Aside0.mk H
            clear H
            go_wp2
            go_loopg [5, 9] k2 (fun kq v5 v9 w' => ∃ (x5_3 : List (List Int)) (x6_3 : List Bool) (x9_3 : Int), v9 = .int .i64 x9_3 ∧ Aside0 (spec_l31Search.l2 kq l1 x5_3 x6_3 x7_1 x8_2 x9_3 a0_0 a0_1 a0_2 = some r) ∧ Aside0 (kq ≤ k2) ∧ Aside0 (Kd.N (Kd.slice 3 (Kd.int .i64)) 26 w' w.heap.size (fun k_ => (w.heap.size ≤ k_) ∧ some k_ ≠ ((.slice (some ⟨go12, 0, none⟩) x6_2.length co12) : Value).ownBlock ∧ k_ ≠ gb501) v5 x5_3) ∧ Aside0 (Kd.R Kd.bool 4 w' w.heap.size (fun k_ => (w.heap.size ≤ k_)) (.slice (some ⟨go12, 0, none⟩) x6_2.length co12) x6_3) ∧ Aside0 (w'.heap[gb501]? = some (.cells #[.int .i64 a0_0, .int .i64 a0_1, .int .i64 a0_2] 30 (0, 0))) ∧ Aside0 (Below w.heap.size w w'))
            case atStart => exact ⟨(x5_2), (x6_2), (0), (by first | rfl | (simp; done) | (simp [*]; done)), H', ⟨Nat.le_refl _⟩, ⟨by (try simp only [hl6_1]); (try simp only [hl6_2]); (with_reducible repeat (first | apply Kd.N_alloc | apply Kd.N_drewN | apply Kd.N_drew)); exact HO_5.out⟩, ⟨by (try simp only [hl6_1]); (try simp only [hl6_2]); (with_reducible repeat (first | apply Kd.R_alloc | apply Kd.R_drewN | apply Kd.R_drew)); exact HO_6.out⟩, ⟨by (try simp only [hl6_1]); (try simp only [hl6_2]); (with_reducible repeat (first | refine blk_drewN ?_ _ | refine blk_drew ?_ | refine blk_alloc ?_ _)); exact BK501.out⟩, ⟨hb1_ HB.out GE501.out⟩⟩
            case round =>
             clear H'
             try clear c1
             try clear p1
             try clear q1
             try clear hx1
             try clear c2
             try clear p2
             try clear c5
             try clear c5b0
             try clear c5b1
             try clear p6
             try clear c7
             try clear c7b0
             try clear c7b1
             try clear c8
             try clear c8b0
             try clear c8b1
             try clear c10
             try clear c10b0
             try clear c11
             try clear c11b0
             try clear p12
             try clear q12
             try clear hx12
             try clear hf12
             try clear c18
             try clear c19
             try clear c22
             try clear c22b0
             try clear c24
             try clear c24b0
             try clear hx12_0
             try clear p1
             try clear p12
             try clear p2
             try clear p6
             try clear q1
             try clear q12
             obtain ⟨x5_3, x6_3, x9_3, rfl, HA, HK3, HO_5, HO_6, BK501, HB⟩ := hrel
             have hl6_3 := (Kd.R_reads' HO_6.out).1
             rw [hl6_3] at HO_6
             (try simp only [hl6_3])
             (try simp only [hl6_3] at BK501)
             (try simp only [hl6_3] at HO_5)
             cases gk with
             | zero => exact absurd HA.out (by simp [spec_l31Search.l2])
             | succ k3 =>
              have H := HA.out
              clear HA
              simp only [spec_l31Search.l2] at H
              by_cases c25 : x9_3 ≤ 3
              ·rw [if_pos c25] at H
               have c25b0 : decide (x9_3 ≤ 3) = true := decide_eq_true c25
               clear c25
               by_cases c26 : 0 ≤ x7_1
               ·rw [if_pos c26] at H
                have c26b0 : decide (0 ≤ x7_1) = true := decide_eq_true c26
                clear c26
                by_cases c27 : x7_1 < (x5_3.length : Int)
                ·rw [if_pos c27] at H
                 have c27b0 : decide (x7_1 < (x5_3.length : Int)) = true := decide_eq_true c27
                 clear c27
                 replace H := Option.bind_eq_some_iff.mp H
                 obtain ⟨⟨t514, t517⟩, A280, H⟩ := H
                 replace H : (if t517 = true then ((spec_l31Key.f k3 t514).bind fun t518 => (if 0 ≤ t518 then (if t518 < (x6_3.length : Int) then (if rdOf false x6_3 t518 = true then (spec_l31Search.l2 k3 l1 x5_3 x6_3 x7_1 x8_2 (wrap64 (x9_3 + 1)) a0_0 a0_1 a0_2) else ((spec_l31Key.f k3 t514).bind fun t520 => (if 0 ≤ t520 then (if t520 < (x6_3.length : Int) then (if x5_3.length < 5864062014805 then (spec_l31Search.l2 k3 l1 (x5_3 ++ [t514]) (x6_3.set (t520 : Int).toNat true) x7_1 x8_2 (wrap64 (x9_3 + 1)) a0_0 a0_1 a0_2) else (none)) else (none)) else (none)))) else (none)) else (none))) else (spec_l31Search.l2 k3 l1 x5_3 x6_3 x7_1 x8_2 (wrap64 (x9_3 + 1)) a0_0 a0_1 a0_2)) = some r := H
                 have A28 := Aside0.mk A280
                 clear A280
                 by_cases c29 : t517 = true
                 ·subst c29
                  have H1 : ((spec_l31Key.f k3 t514).bind fun t518 => (if 0 ≤ t518 then (if t518 < (x6_3.length : Int) then (if rdOf false x6_3 t518 = true then (spec_l31Search.l2 k3 l1 x5_3 x6_3 x7_1 x8_2 (wrap64 (x9_3 + 1)) a0_0 a0_1 a0_2) else ((spec_l31Key.f k3 t514).bind fun t520 => (if 0 ≤ t520 then (if t520 < (x6_3.length : Int) then (if x5_3.length < 5864062014805 then (spec_l31Search.l2 k3 l1 (x5_3 ++ [t514]) (x6_3.set (t520 : Int).toNat true) x7_1 x8_2 (wrap64 (x9_3 + 1)) a0_0 a0_1 a0_2) else (none)) else (none)) else (none)))) else (none)) else (none))) = some r := by rw [if_pos rfl] at H; exact H
                  clear H
                  have H := H1
                  clear H1
                  replace H := Option.bind_eq_some_iff.mp H
                  obtain ⟨t518, A300, H⟩ := H
                  replace H : (if 0 ≤ t518 then (if t518 < (x6_3.length : Int) then (if rdOf false x6_3 t518 = true then (spec_l31Search.l2 k3 l1 x5_3 x6_3 x7_1 x8_2 (wrap64 (x9_3 + 1)) a0_0 a0_1 a0_2) else ((spec_l31Key.f k3 t514).bind fun t520 => (if 0 ≤ t520 then (if t520 < (x6_3.length : Int) then (if x5_3.length < 5864062014805 then (spec_l31Search.l2 k3 l1 (x5_3 ++ [t514]) (x6_3.set (t520 : Int).toNat true) x7_1 x8_2 (wrap64 (x9_3 + 1)) a0_0 a0_1 a0_2) else (none)) else (none)) else (none)))) else (none)) else (none)) = some r := H
                  have A30 := Aside0.mk A300
                  clear A300
                  by_cases c31 : 0 ≤ t518
                  ·rw [if_pos c31] at H
                   have c31b0 : decide (0 ≤ t518) = true := decide_eq_true c31
                   clear c31
                   by_cases c32 : t518 < (x6_3.length : Int)
                   ·rw [if_pos c32] at H
                    have c32b0 : decide (t518 < (x6_3.length : Int)) = true := decide_eq_true c32
                    clear c32
                    obtain ⟨bq33, hbq33⟩ : ∃ b_ : Bool, b_ = (rdOf false x6_3 t518) := ⟨_, rfl⟩
                    replace H : (if bq33 = true then (spec_l31Search.l2 k3 l1 x5_3 x6_3 x7_1 x8_2 (wrap64 (x9_3 + 1)) a0_0 a0_1 a0_2) else ((spec_l31Key.f k3 t514).bind fun t520 => (if 0 ≤ t520 then (if t520 < (x6_3.length : Int) then (if x5_3.length < 5864062014805 then (spec_l31Search.l2 k3 l1 (x5_3 ++ [t514]) (x6_3.set (t520 : Int).toNat true) x7_1 x8_2 (wrap64 (x9_3 + 1)) a0_0 a0_1 a0_2) else (none)) else (none)) else (none)))) = some r := by rw [← hbq33] at H; exact H
                    have Nbq33 := Aside0.mk hbq33
                    clear hbq33
                    by_cases c34 : bq33 = true
                    ·subst c34
                     have H1 : (spec_l31Search.l2 k3 l1 x5_3 x6_3 x7_1 x8_2 (wrap64 (x9_3 + 1)) a0_0 a0_1 a0_2) = some r := by rw [if_pos rfl] at H; exact H
                     clear H
                     have H := H1
                     clear H1
                     have H' := Aside0.mk H
                     clear H
                     try go_wp2
                     replace HO_5 := Aside0.mk (Kd.N_drew HO_5.out)
                     replace HO_6 := Aside0.mk (Kd.R_drew HO_6.out)
                     replace BK501 := Aside0.mk (blk_drew BK501.out)
                     replace HB := Aside0.mk (below_drew1 HB.out)
                     obtain ⟨Ao36, co36, eo36⟩ := Kd.N_slice HO_5.out
                     (first | subst eo36 | (injection eo36 with f1_ f2_ f3_; have f4_ := f1_.symm; have f5_ := f3_.symm; clear f1_ f2_ f3_; subst f4_; subst f5_))
                     have p513 : 0 ≤ (x7_1 : Int) := of_decide_eq_true (as_)
                     have q513 : x7_1 < (x5_3.length : Int) := of_decide_eq_true (as_)
                     obtain ⟨ad513, A513_0, c513_0, e513, hx513_0, hl513_0, hi513_0⟩ := at_L1 (Kd.N_reads' HO_5.out).2.2 x7_1 p513 q513
                     cases e513
                     obtain ⟨ce513, hce513, hMe513, hcc513⟩ := Kd.N_get HO_5.out [] x7_1 p513 (by first | exact q513 | exact of_decide_eq_true (as_) | (have e_ := (Kd.N_reads' HO_5.out).1; omega))
                     obtain ⟨ua513_0, uc513_0, rfl, ul513_0, ge513_0⟩ := Kd.FK_slice_open hMe513
                     have hv513_0 := hcc513 0 _ rfl
                     rw [Nat.add_zero, show ((Kd.slice 3 (Kd.int .i64))).sz = 1 from rfl, Nat.mul_one] at hv513_0
                     replace hv513_0 := Option.some.inj (hv513_0.symm.trans hx513_0)
                     injection hv513_0 with hva_ hvn_ hvc_
                     rw [hva_] at ge513_0
                     rw [hvc_] at ul513_0
                     have HL513_0 := Aside0.mk (show Kd.V (Kd.int .i64) 3 _ w.heap.size _ _ (rd_L1 x5_3 x7_1) from Kd.V_mk ul513_0 ge513_0)
                     clear hva_ hvn_ hvc_ ge513_0 ul513_0
                     clear hcc513 hce513
                     have HR513_0 := Aside0.mk hi513_0
                     have HC513_0 := Aside0.mk hl513_0
                     clear hi513_0 hl513_0
                     replace p513 := eq_true p513
                     replace q513 := eq_true q513
                     refine start_ (n := 13) (S := fun w' => w'.cell? ⟨gb501, 0, none⟩ = some (.int .i64 a0_0) ∧ w'.cell? ⟨gb501, 1, none⟩ = some (.int .i64 a0_1) ∧ w'.cell? ⟨gb501, 2, none⟩ = some (.int .i64 a0_2) ∧ w'.cell? (ad513.add (x7_1).toNat) = some (.slice A513_0 (rd_L1 x5_3 x7_1).length c513_0)) (ds := []) #[false, false, false, false, false, false, false, false, false, false, false, false, false] (by kernel_rfl) rfl rfl ⟨BK501.c 0, BK501.c 1, BK501.c 2, hx513_0⟩ (fun hHeld => ?_); refine with_tabW spec_l31Search.tab13 spec_l31Search.bits13 (fun HT_ HW_ => ?_)
                     generalize wr.drew = w35 at HO_5 HO_6 BK501 HB HL513_0 HR513_0 hx513_0 hHeld ⊢
                     refine pv_ (i := 1) (N := some 43) HT_.out ?_
                     refine pv_ (i := 2) (N := some 44) HT_.out ?_
                     refine pv_ (i := 3) (N := some 45) HT_.out ?_
                     refine pv_ (i := 5) (N := some 47) HT_.out ?_
                     refine pv_ (i := 6) (N := some 48) HT_.out ?_
                     refine tv4_ (i := 0) (N := some 42) HT_.out HW_.out hHeld ?_
                     refine tv4_ (i := 4) (N := some 46) HT_.out HW_.out hHeld ?_
                     refine ov_ (i := 7) (N := some 49) HT_.out (fun K hK => ?_)
                     refine gq_ Tryd.func20 #[.agg #[.int .i64 a0_0, .int .i64 a0_1, .int .i64 a0_2], .slice A513_0 (rd_L1 x5_3 x7_1).length c513_0, .int .i64 x8_2, .int .i64 x9_3] ?_
                     with_reducible refine (spec_MoveOne.calls k3 a0_0 a0_1 a0_2 _ _ (rd_L1 x5_3 x7_1) x8_2 x9_3 t514 true _ ?side1 ?side2 A28.out).mono ?_
                     (case side1 => repeat (first | exact (by repeat (first | (with_reducible exact HR513_0.out) | (with_reducible refine Kd.C_alloc ?_ _) | (with_reducible refine Kd.C_drewN ?_ _) | (with_reducible refine Kd.C_drew ?_) | exact HR513_0.out)) | (with_reducible refine Kd.C_alloc ?_ _) | (with_reducible refine Kd.C_drewN ?_ _) | (with_reducible refine Kd.C_drew ?_)))
                     (case side2 => exact HC513_0.out)
                     rintro e w37 ⟨v515, rfl, ho0, hb⟩
                     have HS3_ := (hb.cell (World.block_lt_of_cell? _ _ (hHeld.2.2.2))).trans (hHeld.2.2.2)
                     refine ⟨_, rfl, ?_⟩
                     replace HO_5 := Aside0.mk (Kd.N_elder' (by (with_reducible repeat (first | apply Kd.N_alloc | apply Kd.N_drewN | apply Kd.N_drew)); exact HO_5.out) (Kd.R_base ho0) hb)
                     replace HO_6 := HO_6.kb hb
                     replace HL513_0 := Aside0.mk (Kd.V_elder' (by (with_reducible repeat (first | apply Kd.V_alloc | apply Kd.V_drewN | apply Kd.V_drew)); exact HL513_0.out) (Kd.R_base ho0) hb)
                     have HO516 := Aside0.mk (Kd.R_lower (Kd.R_newM (M := fun k_ => (w.heap.size ≤ k_)) ho0 (below_size (hb1_ HB.out GE501.out)) (fun k_ h_ => h_)) (below_size (hb1_ HB.out GE501.out)))
                     replace BK501 := BK501.bb hb
                     replace HR513_0 := Aside0.mk (Kd.C_below (by repeat (first | (with_reducible exact HR513_0.out) | (with_reducible refine Kd.C_alloc ?_ _) | (with_reducible refine Kd.C_drewN ?_ _) | (with_reducible refine Kd.C_drew ?_) | exact HR513_0.out)) hb)
                     replace HB := HB.s1 GE501 hb
                     skip
                     (try clear hb2)
                     (try clear hk)
                     (try clear hi)
                     (try clear ho0)
                     refine hK.out _ _ ⟨BK501.c 0, BK501.c 1, BK501.c 2, HS3_⟩ (fun hHeld => ?_)
                     clear hK K
                     refine nm_ ?_
                     refine pv_ (i := 8) (N := some 41) HT_.out ?_
                     refine pv_ (i := 9) (N := some 50) HT_.out ?_
                     refine pv_ (i := 10) (N := some 51) HT_.out ?_
                     refine pv_ (i := 11) (N := some 10) HT_.out ?_
                     refine pv_ (i := 12) (N := some 11) HT_.out ?_
                     refine done_ (done_of HT_.out (by kernel_rfl)) ?_
                     obtain ⟨Ao38, co38, eo38⟩ := Kd.R_slice HO516.out
                     subst eo38
                     try go_wp2_with (first | (go_at_call 19; (with_reducible refine (spec_l31Key.calls k3 _ _ t514 t518 _ ?side1 ?side2 A30.out).mono ?_); (case side1 => repeat (first | exact (Kd.R_reads' HO516.out).2.2 | (with_reducible refine Kd.C_alloc ?_ _) | (with_reducible refine Kd.C_drewN ?_ _) | (with_reducible refine Kd.C_drew ?_))); (case side2 => exact (Kd.R_reads' HO516.out).2.1); rintro e w' ⟨rfl, ⟨nd, rfl⟩⟩; have p519 : 0 ≤ (t518 : Int) := of_decide_eq_true (as_); have q519 : t518 < (x6_3.length : Int) := of_decide_eq_true (as_); obtain ⟨ad519, e519, hx519_0⟩ := Kd.at_bool (Kd.R_reads' HO_6.out).2.2 t518 p519 q519; (try rw [← Nbq33.out] at hx519_0); obtain rfl : (⟨go12, 0, none⟩ : Addr) = ad519 := (by injection e519); (first | simp only [add_plain] at hx519_0 | simp only [add_at] at hx519_0 | simp only [Addr.add, Nat.zero_add] at hx519_0 | skip); replace p519 := eq_true p519; replace q519 := eq_true q519))
                     (try simp only [← hl6_3])
                     go_roundg k3
                     case measure => have := HK1.out; have := HK2.out; have := HK3.out; omega
                     case rel => exact ⟨(x5_3), (x6_3), (wrap64 (x9_3 + 1)), (by first | rfl | (simp; done) | (simp [*]; done)), H', ⟨by have := HK1.out; have := HK2.out; have := HK3.out; omega⟩, ⟨by (try simp only [hl6_1]); (try simp only [hl6_2]); (try simp only [hl6_3]); (with_reducible repeat (first | apply Kd.N_alloc | apply Kd.N_drewN | apply Kd.N_drew)); exact Kd.N_mono HO_5.out (fun _ hk => by first | exact ⟨hk.1.1, ⟨hk.1.2.1, hk.1.2.2⟩⟩ | exact hk | ((repeat' apply And.intro) <;> first | exact hk.1 | exact hk.2.1 | exact hk.2.2.1 | exact hk.2.2.2 | exact hk.2.2.2.1 | exact hk.2.2.2.2 | exact hk.2 | exact hk.1.2 | exact hk.1.1.2 | exact hk.1.1.1))⟩, ⟨by (try simp only [hl6_1]); (try simp only [hl6_2]); (try simp only [hl6_3]); (with_reducible repeat (first | apply Kd.R_alloc | apply Kd.R_drewN | apply Kd.R_drew)); exact HO_6.out⟩, ⟨by (try simp only [hl6_1]); (try simp only [hl6_2]); (try simp only [hl6_3]); (with_reducible repeat (first | refine blk_drewN ?_ _ | refine blk_drew ?_ | refine blk_alloc ?_ _)); exact BK501.out⟩, ⟨hb1_ HB.out GE501.out⟩⟩
                    ·replace c34 := Bool.eq_false_iff.mpr c34
                     subst c34
                     have H1 : ((spec_l31Key.f k3 t514).bind fun t520 => (if 0 ≤ t520 then (if t520 < (x6_3.length : Int) then (if x5_3.length < 5864062014805 then (spec_l31Search.l2 k3 l1 (x5_3 ++ [t514]) (x6_3.set (t520 : Int).toNat true) x7_1 x8_2 (wrap64 (x9_3 + 1)) a0_0 a0_1 a0_2) else (none)) else (none)) else (none))) = some r := by rw [if_neg (show ¬ (false = true) by decide)] at H; exact H
                     clear H
                     have H := H1
                     clear H1
                     replace H := Option.bind_eq_some_iff.mp H
                     obtain ⟨t520, A390, H⟩ := H
                     replace H : (if 0 ≤ t520 then (if t520 < (x6_3.length : Int) then (if x5_3.length < 5864062014805 then (spec_l31Search.l2 k3 l1 (x5_3 ++ [t514]) (x6_3.set (t520 : Int).toNat true) x7_1 x8_2 (wrap64 (x9_3 + 1)) a0_0 a0_1 a0_2) else (none)) else (none)) else (none)) = some r := H
                     have A39 := Aside0.mk A390
                     clear A390
                     by_cases c40 : 0 ≤ t520
                     ·rw [if_pos c40] at H
                      have c40b0 : decide (0 ≤ t520) = true := decide_eq_true c40
                      clear c40
                      by_cases c41 : t520 < (x6_3.length : Int)
                      ·rw [if_pos c41] at H
                       have c41b0 : decide (t520 < (x6_3.length : Int)) = true := decide_eq_true c41
                       clear c41
                       obtain ⟨y521, hy521⟩ : ∃ y_ : List Bool, y_ = (x6_3.set (t520 : Int).toNat true) := ⟨_, rfl⟩
                       replace H : (if x5_3.length < 5864062014805 then (spec_l31Search.l2 k3 l1 (x5_3 ++ [t514]) y521 x7_1 x8_2 (wrap64 (x9_3 + 1)) a0_0 a0_1 a0_2) else (none)) = some r := by first | (rw [hy521]; with_reducible exact H) | (have H2_ := (Option.bind_some _ _).symm.trans H; rw [hy521]; with_reducible exact H2_) | (have H2_ := (Option.bind_some _ _).symm.trans H; with_reducible exact H2_) | with_reducible exact H | (rw [hy521]; exact H) | exact H
                       have Ny521 := Aside0.mk hy521
                       clear hy521
                       by_cases c43 : x5_3.length < 5864062014805
                       ·rw [if_pos c43] at H
                        have LMc43 := Aside0.mk c43
                        clear c43
                        obtain ⟨y522, hy522⟩ : ∃ y_ : List (List Int), y_ = (x5_3 ++ [t514]) := ⟨_, rfl⟩
                        replace H : (spec_l31Search.l2 k3 l1 y522 y521 x7_1 x8_2 (wrap64 (x9_3 + 1)) a0_0 a0_1 a0_2) = some r := by first | (rw [hy522]; with_reducible exact H) | (have H2_ := (Option.bind_some _ _).symm.trans H; rw [hy522]; with_reducible exact H2_) | (have H2_ := (Option.bind_some _ _).symm.trans H; with_reducible exact H2_) | with_reducible exact H | (rw [hy522]; exact H) | exact H
                        have Ny522 := Aside0.mk hy522
                        clear hy522
                        have H' := Aside0.mk H
                        clear H
                        try go_wp2
                        replace HO_5 := Aside0.mk (Kd.N_drew HO_5.out)
                        replace HO_6 := Aside0.mk (Kd.R_drew HO_6.out)
                        replace BK501 := Aside0.mk (blk_drew BK501.out)
                        replace HB := Aside0.mk (below_drew1 HB.out)
                        obtain ⟨Ao45, co45, eo45⟩ := Kd.N_slice HO_5.out
                        (first | subst eo45 | (injection eo45 with f1_ f2_ f3_; have f4_ := f1_.symm; have f5_ := f3_.symm; clear f1_ f2_ f3_; subst f4_; subst f5_))
                        have p513 : 0 ≤ (x7_1 : Int) := of_decide_eq_true (as_)
                        have q513 : x7_1 < (x5_3.length : Int) := of_decide_eq_true (as_)
                        obtain ⟨ad513, A513_0, c513_0, e513, hx513_0, hl513_0, hi513_0⟩ := at_L1 (Kd.N_reads' HO_5.out).2.2 x7_1 p513 q513
                        cases e513
                        obtain ⟨ce513, hce513, hMe513, hcc513⟩ := Kd.N_get HO_5.out [] x7_1 p513 (by first | exact q513 | exact of_decide_eq_true (as_) | (have e_ := (Kd.N_reads' HO_5.out).1; omega))
                        obtain ⟨ua513_0, uc513_0, rfl, ul513_0, ge513_0⟩ := Kd.FK_slice_open hMe513
                        have hv513_0 := hcc513 0 _ rfl
                        rw [Nat.add_zero, show ((Kd.slice 3 (Kd.int .i64))).sz = 1 from rfl, Nat.mul_one] at hv513_0
                        replace hv513_0 := Option.some.inj (hv513_0.symm.trans hx513_0)
                        injection hv513_0 with hva_ hvn_ hvc_
                        rw [hva_] at ge513_0
                        rw [hvc_] at ul513_0
                        have HL513_0 := Aside0.mk (show Kd.V (Kd.int .i64) 3 _ w.heap.size _ _ (rd_L1 x5_3 x7_1) from Kd.V_mk ul513_0 ge513_0)
                        clear hva_ hvn_ hvc_ ge513_0 ul513_0
                        clear hcc513 hce513
                        have HR513_0 := Aside0.mk hi513_0
                        have HC513_0 := Aside0.mk hl513_0
                        clear hi513_0 hl513_0
                        replace p513 := eq_true p513
                        replace q513 := eq_true q513
                        refine start_ (n := 13) (S := fun w' => w'.cell? ⟨gb501, 0, none⟩ = some (.int .i64 a0_0) ∧ w'.cell? ⟨gb501, 1, none⟩ = some (.int .i64 a0_1) ∧ w'.cell? ⟨gb501, 2, none⟩ = some (.int .i64 a0_2) ∧ w'.cell? (ad513.add (x7_1).toNat) = some (.slice A513_0 (rd_L1 x5_3 x7_1).length c513_0)) (ds := []) #[false, false, false, false, false, false, false, false, false, false, false, false, false] (by kernel_rfl) rfl rfl ⟨BK501.c 0, BK501.c 1, BK501.c 2, hx513_0⟩ (fun hHeld => ?_); refine with_tabW spec_l31Search.tab13 spec_l31Search.bits13 (fun HT_ HW_ => ?_)
                        generalize wr.drew = w44 at HO_5 HO_6 BK501 HB HL513_0 HR513_0 hx513_0 hHeld ⊢
                        refine pv_ (i := 1) (N := some 43) HT_.out ?_
                        refine pv_ (i := 2) (N := some 44) HT_.out ?_
                        refine pv_ (i := 3) (N := some 45) HT_.out ?_
                        refine pv_ (i := 5) (N := some 47) HT_.out ?_
                        refine pv_ (i := 6) (N := some 48) HT_.out ?_
                        refine tv4_ (i := 0) (N := some 42) HT_.out HW_.out hHeld ?_
                        refine tv4_ (i := 4) (N := some 46) HT_.out HW_.out hHeld ?_
                        refine ov_ (i := 7) (N := some 49) HT_.out (fun K hK => ?_)
                        refine gq_ Tryd.func20 #[.agg #[.int .i64 a0_0, .int .i64 a0_1, .int .i64 a0_2], .slice A513_0 (rd_L1 x5_3 x7_1).length c513_0, .int .i64 x8_2, .int .i64 x9_3] ?_
                        with_reducible refine (spec_MoveOne.calls k3 a0_0 a0_1 a0_2 _ _ (rd_L1 x5_3 x7_1) x8_2 x9_3 t514 true _ ?side1 ?side2 A28.out).mono ?_
                        (case side1 => repeat (first | exact (by repeat (first | (with_reducible exact HR513_0.out) | (with_reducible refine Kd.C_alloc ?_ _) | (with_reducible refine Kd.C_drewN ?_ _) | (with_reducible refine Kd.C_drew ?_) | exact HR513_0.out)) | (with_reducible refine Kd.C_alloc ?_ _) | (with_reducible refine Kd.C_drewN ?_ _) | (with_reducible refine Kd.C_drew ?_)))
                        (case side2 => exact HC513_0.out)
                        rintro e w46 ⟨v515, rfl, ho0, hb⟩
                        have HS3_ := (hb.cell (World.block_lt_of_cell? _ _ (hHeld.2.2.2))).trans (hHeld.2.2.2)
                        refine ⟨_, rfl, ?_⟩
                        replace HO_5 := Aside0.mk (Kd.N_elder' (by (with_reducible repeat (first | apply Kd.N_alloc | apply Kd.N_drewN | apply Kd.N_drew)); exact HO_5.out) (Kd.R_base ho0) hb)
                        replace HO_6 := HO_6.kb hb
                        replace HL513_0 := Aside0.mk (Kd.V_elder' (by (with_reducible repeat (first | apply Kd.V_alloc | apply Kd.V_drewN | apply Kd.V_drew)); exact HL513_0.out) (Kd.R_base ho0) hb)
                        have HO516 := Aside0.mk (Kd.R_lower (Kd.R_newM (M := fun k_ => (w.heap.size ≤ k_)) ho0 (below_size (hb1_ HB.out GE501.out)) (fun k_ h_ => h_)) (below_size (hb1_ HB.out GE501.out)))
                        replace BK501 := BK501.bb hb
                        replace HR513_0 := Aside0.mk (Kd.C_below (by repeat (first | (with_reducible exact HR513_0.out) | (with_reducible refine Kd.C_alloc ?_ _) | (with_reducible refine Kd.C_drewN ?_ _) | (with_reducible refine Kd.C_drew ?_) | exact HR513_0.out)) hb)
                        replace HB := HB.s1 GE501 hb
                        skip
                        (try clear hb2)
                        (try clear hk)
                        (try clear hi)
                        (try clear ho0)
                        refine hK.out _ _ ⟨BK501.c 0, BK501.c 1, BK501.c 2, HS3_⟩ (fun hHeld => ?_)
                        clear hK K
                        refine nm_ ?_
                        refine pv_ (i := 8) (N := some 41) HT_.out ?_
                        refine pv_ (i := 9) (N := some 50) HT_.out ?_
                        refine pv_ (i := 10) (N := some 51) HT_.out ?_
                        refine pv_ (i := 11) (N := some 10) HT_.out ?_
                        refine pv_ (i := 12) (N := some 11) HT_.out ?_
                        refine done_ (done_of HT_.out (by kernel_rfl)) ?_
                        obtain ⟨Ao47, co47, eo47⟩ := Kd.R_slice HO516.out
                        subst eo47
                        try go_wp2_with (first | (go_at_call 19; (with_reducible refine (spec_l31Key.calls k3 _ _ t514 t518 _ ?side1 ?side2 A30.out).mono ?_); (case side1 => repeat (first | exact (Kd.R_reads' HO516.out).2.2 | (with_reducible refine Kd.C_alloc ?_ _) | (with_reducible refine Kd.C_drewN ?_ _) | (with_reducible refine Kd.C_drew ?_))); (case side2 => exact (Kd.R_reads' HO516.out).2.1); rintro e w' ⟨rfl, ⟨nd, rfl⟩⟩; (try (rw [drewN_self w46]; generalize hq_ : World.drewN w46 _ = w46; have n0_ : Aside0 (Kd.V (Kd.int .i64) 3 w46 w.heap.size (fun k_ => (w.heap.size ≤ k_) ∧ some k_ ≠ (.slice Ao47 t514.length co47 : Value).ownBlock ∧ some k_ ≠ (.slice (some ad513) x5_3.length co45 : Value).ownBlock ∧ some k_ ≠ (.slice (some ⟨go12, 0, none⟩) x6_3.length co12 : Value).ownBlock ∧ k_ ≠ gb501) (.slice A513_0 (rd_L1 x5_3 x7_1).length c513_0) (rd_L1 x5_3 x7_1)) := ⟨by rw [← hq_]; exact (by (with_reducible repeat (first | apply Kd.V_alloc | apply Kd.V_drewN | apply Kd.V_drew)); exact Kd.V_mono HL513_0.out (fun _ hk => by first | exact ⟨hk.1.1.1, ⟨hk.2, ⟨hk.1.2, ⟨hk.1.1.2.1, hk.1.1.2.2⟩⟩⟩⟩ | exact hk | ((repeat' apply And.intro) <;> first | exact hk.1 | exact hk.2.1 | exact hk.2.2.1 | exact hk.2.2.2 | exact hk.2.2.2.1 | exact hk.2.2.2.2 | exact hk.2 | exact hk.1.2 | exact hk.1.1.2 | exact hk.1.1.1)))⟩; have n1_ : Aside0 (Kd.R (Kd.int .i64) 3 w46 w.heap.size (fun k_ => (w.heap.size ≤ k_)) (.slice Ao47 t514.length co47) t514) := ⟨by rw [← hq_]; exact (by (with_reducible repeat (first | apply Kd.R_alloc | apply Kd.R_drewN | apply Kd.R_drew)); exact Kd.R_mono HO516.out (fun _ hk => by first | exact hk.1 | exact hk | ((repeat' apply And.intro) <;> first | exact hk.1 | exact hk.2.1 | exact hk.2.2.1 | exact hk.2.2.2 | exact hk.2.2.2.1 | exact hk.2.2.2.2 | exact hk.2 | exact hk.1.2 | exact hk.1.1.2 | exact hk.1.1.1)))⟩; have n2_ : Aside0 (Kd.N (Kd.slice 3 (Kd.int .i64)) 26 w46 w.heap.size (fun k_ => (w.heap.size ≤ k_) ∧ some k_ ≠ (.slice Ao47 t514.length co47 : Value).ownBlock ∧ some k_ ≠ (.slice (some ⟨go12, 0, none⟩) x6_3.length co12 : Value).ownBlock ∧ k_ ≠ gb501) (.slice (some ad513) x5_3.length co45) x5_3) := ⟨by rw [← hq_]; exact (by (with_reducible repeat (first | apply Kd.N_alloc | apply Kd.N_drewN | apply Kd.N_drew)); exact Kd.N_mono HO_5.out (fun _ hk => by first | exact ⟨hk.1.1, ⟨hk.2, ⟨hk.1.2.1, hk.1.2.2⟩⟩⟩ | exact hk | ((repeat' apply And.intro) <;> first | exact hk.1 | exact hk.2.1 | exact hk.2.2.1 | exact hk.2.2.2 | exact hk.2.2.2.1 | exact hk.2.2.2.2 | exact hk.2 | exact hk.1.2 | exact hk.1.1.2 | exact hk.1.1.1)))⟩; have n3_ : Aside0 (Kd.R Kd.bool 4 w46 w.heap.size (fun k_ => (w.heap.size ≤ k_)) (.slice (some ⟨go12, 0, none⟩) x6_3.length co12) x6_3) := ⟨by rw [← hq_]; exact (kr_ HO_6.out)⟩; have n4_ : Aside0 (w46.heap[gb501]? = some (.cells #[.int .i64 a0_0, .int .i64 a0_1, .int .i64 a0_2] 30 (0, 0))) := ⟨by rw [← hq_]; exact (bk_ BK501.out)⟩; have n5_ : Aside0 (Below w.heap.size w w46) := ⟨by rw [← hq_]; exact (hb1_ HB.out GE501.out)⟩; have n6_ : Aside0 (Kd.C (Kd.int .i64) w46 A513_0 (rd_L1 x5_3 x7_1).length (rd_L1 x5_3 x7_1)) := ⟨by rw [← hq_]; exact (by repeat (first | (with_reducible exact HR513_0.out) | (with_reducible refine Kd.C_alloc ?_ _) | (with_reducible refine Kd.C_drewN ?_ _) | (with_reducible refine Kd.C_drew ?_) | exact HR513_0.out))⟩; clear HL513_0 HO516 HO_5 HO_6 BK501 HB HR513_0 hq_; have HL513_0 := n0_; have HO516 := n1_; have HO_5 := n2_; have HO_6 := n3_; have BK501 := n4_; have HB := n5_; have HR513_0 := n6_; clear n0_ n1_ n2_ n3_ n4_ n5_ n6_)); have p519 : 0 ≤ (t518 : Int) := of_decide_eq_true (as_); have q519 : t518 < (x6_3.length : Int) := of_decide_eq_true (as_); obtain ⟨ad519, e519, hx519_0⟩ := Kd.at_bool (Kd.R_reads' HO_6.out).2.2 t518 p519 q519; (try rw [← Nbq33.out] at hx519_0); obtain rfl : (⟨go12, 0, none⟩ : Addr) = ad519 := (by injection e519); (first | simp only [add_plain] at hx519_0 | simp only [add_at] at hx519_0 | simp only [Addr.add, Nat.zero_add] at hx519_0 | skip); replace p519 := eq_true p519; replace q519 := eq_true q519) | (refine gl_ 63 Tryd.func19 #[.slice Ao47 t514.length co47] ?_; (with_reducible refine (spec_l31Key.calls k3 _ _ t514 t520 _ ?side1 ?side2 A39.out).mono ?_); (case side1 => repeat (first | exact (Kd.R_reads' HO516.out).2.2 | (with_reducible refine Kd.C_alloc ?_ _) | (with_reducible refine Kd.C_drewN ?_ _) | (with_reducible refine Kd.C_drew ?_))); (case side2 => exact (Kd.R_reads' HO516.out).2.1); rintro e w' ⟨rfl, ⟨nd, rfl⟩⟩; refine ⟨_, rfl, ?_⟩; (try (rw [drewN_self w46]; generalize hq_ : World.drewN w46 _ = w46; have n0_ : Aside0 (Kd.V (Kd.int .i64) 3 w46 w.heap.size (fun k_ => (w.heap.size ≤ k_) ∧ some k_ ≠ (.slice Ao47 t514.length co47 : Value).ownBlock ∧ some k_ ≠ (.slice (some ad513) x5_3.length co45 : Value).ownBlock ∧ some k_ ≠ (.slice (some ⟨go12, 0, none⟩) x6_3.length co12 : Value).ownBlock ∧ k_ ≠ gb501) (.slice A513_0 (rd_L1 x5_3 x7_1).length c513_0) (rd_L1 x5_3 x7_1)) := ⟨by rw [← hq_]; exact (by (with_reducible repeat (first | apply Kd.V_alloc | apply Kd.V_drewN | apply Kd.V_drew)); exact Kd.V_mono HL513_0.out (fun _ hk => by first | exact ⟨hk.1.1.1, ⟨hk.2, ⟨hk.1.2, ⟨hk.1.1.2.1, hk.1.1.2.2⟩⟩⟩⟩ | exact hk | ((repeat' apply And.intro) <;> first | exact hk.1 | exact hk.2.1 | exact hk.2.2.1 | exact hk.2.2.2 | exact hk.2.2.2.1 | exact hk.2.2.2.2 | exact hk.2 | exact hk.1.2 | exact hk.1.1.2 | exact hk.1.1.1)))⟩; have n1_ : Aside0 (Kd.R (Kd.int .i64) 3 w46 w.heap.size (fun k_ => (w.heap.size ≤ k_)) (.slice Ao47 t514.length co47) t514) := ⟨by rw [← hq_]; exact (by (with_reducible repeat (first | apply Kd.R_alloc | apply Kd.R_drewN | apply Kd.R_drew)); exact Kd.R_mono HO516.out (fun _ hk => by first | exact hk.1 | exact hk | ((repeat' apply And.intro) <;> first | exact hk.1 | exact hk.2.1 | exact hk.2.2.1 | exact hk.2.2.2 | exact hk.2.2.2.1 | exact hk.2.2.2.2 | exact hk.2 | exact hk.1.2 | exact hk.1.1.2 | exact hk.1.1.1)))⟩; have n2_ : Aside0 (Kd.N (Kd.slice 3 (Kd.int .i64)) 26 w46 w.heap.size (fun k_ => (w.heap.size ≤ k_) ∧ some k_ ≠ (.slice Ao47 t514.length co47 : Value).ownBlock ∧ some k_ ≠ (.slice (some ⟨go12, 0, none⟩) x6_3.length co12 : Value).ownBlock ∧ k_ ≠ gb501) (.slice (some ad513) x5_3.length co45) x5_3) := ⟨by rw [← hq_]; exact (by (with_reducible repeat (first | apply Kd.N_alloc | apply Kd.N_drewN | apply Kd.N_drew)); exact Kd.N_mono HO_5.out (fun _ hk => by first | exact ⟨hk.1.1, ⟨hk.2, ⟨hk.1.2.1, hk.1.2.2⟩⟩⟩ | exact hk | ((repeat' apply And.intro) <;> first | exact hk.1 | exact hk.2.1 | exact hk.2.2.1 | exact hk.2.2.2 | exact hk.2.2.2.1 | exact hk.2.2.2.2 | exact hk.2 | exact hk.1.2 | exact hk.1.1.2 | exact hk.1.1.1)))⟩; have n3_ : Aside0 (Kd.R Kd.bool 4 w46 w.heap.size (fun k_ => (w.heap.size ≤ k_)) (.slice (some ⟨go12, 0, none⟩) x6_3.length co12) x6_3) := ⟨by rw [← hq_]; exact (kr_ HO_6.out)⟩; have n4_ : Aside0 (w46.heap[gb501]? = some (.cells #[.int .i64 a0_0, .int .i64 a0_1, .int .i64 a0_2] 30 (0, 0))) := ⟨by rw [← hq_]; exact (bk_ BK501.out)⟩; have n5_ : Aside0 (Below w.heap.size w w46) := ⟨by rw [← hq_]; exact (hb1_ HB.out GE501.out)⟩; have n6_ : Aside0 (Kd.C (Kd.int .i64) w46 A513_0 (rd_L1 x5_3 x7_1).length (rd_L1 x5_3 x7_1)) := ⟨by rw [← hq_]; exact (by repeat (first | (with_reducible exact HR513_0.out) | (with_reducible refine Kd.C_alloc ?_ _) | (with_reducible refine Kd.C_drewN ?_ _) | (with_reducible refine Kd.C_drew ?_) | exact HR513_0.out))⟩; clear HL513_0 HO516 HO_5 HO_6 BK501 HB HR513_0 hq_; have HL513_0 := n0_; have HO516 := n1_; have HO_5 := n2_; have HO_6 := n3_; have BK501 := n4_; have HB := n5_; have HR513_0 := n6_; clear n0_ n1_ n2_ n3_ n4_ n5_ n6_)); have p42 : 0 ≤ (t520 : Int) := of_decide_eq_true (as_); have q42 : (t520 : Int) < ((x6_3.length : Int) : Int) := of_decide_eq_true (as_); obtain ⟨hx42_0, hf42_0⟩ := Kd.R_celln false HO_6.out (t520 : Int) p42 q42; replace p42 := eq_true p42; replace q42 := eq_true q42; obtain ⟨hy48_, hz48_⟩ := Kd.R_celln false HO_6.out (t520 : Int) (of_decide_eq_true (as_)) (of_decide_eq_true (as_)); have HP48 := Kd.R_putg HO_6.out (t520 : Int) true) | ((with_reducible refine gate_store (t := 4) (p := 64) rfl ?_); refine store_event (t := 4) (p := 64) (v := ?vo_w49) (w1 := (w46.setCell ⟨go12, (t520 : Int).toNat, none⟩ (.bool true))) ?hg ?ho ?hn ?hr ?_; (case ho => rfl); (case hg => rfl); (case hn => rfl); (case hr => first | (go_simp; done) | (go_simp; rfl)); intro w49 hw; have hg : w46.grownBy w49 (some go12) := (by rw [hw]; exact HP48.2); have hp_ : Kd.R Kd.bool 4 w49 w.heap.size (fun k_ => (w.heap.size ≤ k_)) (.slice (some ⟨go12, 0, none⟩) x6_3.length co12) y521 := (by rw [hw, Ny521.out]; exact HP48.1); clear HP48; have n0_ := Aside0.mk (Kd.N_afterv (v := (.slice (some ⟨go12, 0, none⟩) x6_3.length co12)) (v1 := (.slice (some ⟨go12, 0, none⟩) x6_3.length co12)) (ok := (fun k_ => (w.heap.size ≤ k_) ∧ some k_ ≠ (.slice Ao47 t514.length co47 : Value).ownBlock ∧ k_ ≠ gb501)) (by (with_reducible repeat (first | apply Kd.N_alloc | apply Kd.N_drewN | apply Kd.N_drew)); exact Kd.N_mono HO_5.out (fun _ hk => by first | exact ⟨⟨hk.1.1, ⟨hk.2, hk.1.2.2⟩⟩, hk.1.2.1⟩ | exact hk | ((repeat' apply And.intro) <;> first | exact hk.1 | exact hk.2.1 | exact hk.2.2.1 | exact hk.2.2.2 | exact hk.2.2.2.1 | exact hk.2.2.2.2 | exact hk.2 | exact hk.1.2 | exact hk.1.1.2 | exact hk.1.1.1))) hg (.inl rfl)); have n1_ := Aside0.mk (hp_); have n2_ := Aside0.mk (blk_grown (g := gb501) (o := .cells #[.int .i64 a0_0, .int .i64 a0_1, .int .i64 a0_2] 30 (0, 0)) (bk_ BK501.out) hg (Kd.R_ne HO_6.out BK501.out (by decide))); have n3_ := Aside0.mk (Kd.V_afterv (v := (.slice (some ⟨go12, 0, none⟩) x6_3.length co12)) (v1 := (.slice (some ⟨go12, 0, none⟩) x6_3.length co12)) (ok := (fun k_ => (w.heap.size ≤ k_) ∧ some k_ ≠ (.slice (some ad513) x5_3.length co45 : Value).ownBlock ∧ some k_ ≠ (.slice Ao47 t514.length co47 : Value).ownBlock ∧ k_ ≠ gb501)) (by (with_reducible repeat (first | apply Kd.V_alloc | apply Kd.V_drewN | apply Kd.V_drew)); exact Kd.V_mono HL513_0.out (fun _ hk => by first | exact ⟨⟨hk.1.1.1, ⟨hk.1.2, ⟨hk.2, hk.1.1.2.2⟩⟩⟩, hk.1.1.2.1⟩ | exact hk | ((repeat' apply And.intro) <;> first | exact hk.1 | exact hk.2.1 | exact hk.2.2.1 | exact hk.2.2.2 | exact hk.2.2.2.1 | exact hk.2.2.2.2 | exact hk.2 | exact hk.1.2 | exact hk.1.1.2 | exact hk.1.1.1))) hg (.inl rfl)); have n4_ := Aside0.mk (Kd.R_over' (v := (.slice (some ⟨go12, 0, none⟩) x6_3.length co12)) (kr_ HO516.out) (Kd.R_typed HO_6.out) (by decide) hg); have n5_ := Aside0.mk ((by rw [hw]; exact below_set (HB.out) GB12.out : Below w.heap.size w w49)); clear HO_5; clear HO_6; clear BK501; clear HL513_0; clear HO516; clear HB; have HO_5 := n0_; have HO_6 := n1_; have BK501 := n2_; have HL513_0 := n3_; have HO516 := n4_; have HB := n5_; clear n0_ n1_ n2_ n3_ n4_ n5_; clear hg hw hp_) | ((with_reducible refine gate_builtin (b := .append) (xs := #[.tmp 65, .tmp 67]) rfl ?_); at_builtin; refine Kd.N_append (Kd.slice 3 (Kd.int .i64)) (w0 := w) w.heap.size rfl (.tmp 65) (.tmp 67) 37 26 (.slice none 0 0) 24 rfl Tryd.underlying37 info26 rfl (by decide) (by omega) (.slice (some ad513) x5_3.length co45) x5_3 t514 [.slice Ao47 t514.length co47] (fun k_ => (w.heap.size ≤ k_) ∧ some k_ ≠ (.slice (some ⟨go12, 0, none⟩) x6_3.length co12 : Value).ownBlock ∧ k_ ≠ gb501) (fun k_ => ((fun k_ => (w.heap.size ≤ k_) ∧ some k_ ≠ (.slice (some ⟨go12, 0, none⟩) x6_3.length co12 : Value).ownBlock ∧ k_ ≠ gb501)) k_ ∧ some k_ ≠ (.slice (some ad513) x5_3.length co45 : Value).ownBlock) rfl rfl ?aP (fun _ hk => hk) ?aF ?aO ?aB ?aS ?aL ?_; (case aP => exact (Kd.FK_slice_mk (Kd.R_reads' (Kd.R_mono (ok' := (fun k_ => ((fun k_ => (w.heap.size ≤ k_) ∧ some k_ ≠ (.slice (some ⟨go12, 0, none⟩) x6_3.length co12 : Value).ownBlock ∧ k_ ≠ gb501)) k_ ∧ some k_ ≠ (.slice (some ad513) x5_3.length co45 : Value).ownBlock)) (Kd.R_types (Kd.R_apart' (Kd.R_apart' (HO516.out) (Kd.R_typed HO_6.out) (by decide)) (Kd.N_typed HO_5.out) (by decide)) BK501.out (by decide)) (fun k_ hk => by first | exact ⟨⟨hk.1.1.1.1, ⟨hk.1.1.2, hk.2⟩⟩, hk.1.2⟩ | exact hk | ((repeat' apply And.intro) <;> first | exact hk.1 | exact hk.2.1 | exact hk.2.2.1 | exact hk.2.2.2 | exact hk.2.2.2.1 | exact hk.2.2.2.2 | exact hk.2 | exact hk.1.2 | exact hk.1.1.2 | exact hk.1.1.1)))).2.1 (Kd.R_F (Kd.R_mono (ok' := (fun k_ => ((fun k_ => (w.heap.size ≤ k_) ∧ some k_ ≠ (.slice (some ⟨go12, 0, none⟩) x6_3.length co12 : Value).ownBlock ∧ k_ ≠ gb501)) k_ ∧ some k_ ≠ (.slice (some ad513) x5_3.length co45 : Value).ownBlock)) (Kd.R_types (Kd.R_apart' (Kd.R_apart' (HO516.out) (Kd.R_typed HO_6.out) (by decide)) (Kd.N_typed HO_5.out) (by decide)) BK501.out (by decide)) (fun k_ hk => by first | exact ⟨⟨hk.1.1.1.1, ⟨hk.1.1.2, hk.2⟩⟩, hk.1.2⟩ | exact hk | ((repeat' apply And.intro) <;> first | exact hk.1 | exact hk.2.1 | exact hk.2.2.1 | exact hk.2.2.2 | exact hk.2.2.2.1 | exact hk.2.2.2.2 | exact hk.2 | exact hk.1.2 | exact hk.1.1.2 | exact hk.1.1.1)))))); (case aB => exact (hb1_ HB.out GE501.out)); (case aF => exact (fun k_ hk => ⟨(Nat.le_trans (below_size (hb1_ HB.out GE501.out)) hk), Kd.fresh' (Kd.R_lt (kr_ HO_6.out)) k_ hk, Kd.freshB (g := gb501) (o := .cells #[.int .i64 a0_0, .int .i64 a0_1, .int .i64 a0_2] 30 (0, 0)) (bk_ BK501.out) k_ hk⟩)); (case aO => exact (by (with_reducible repeat (first | apply Kd.N_alloc | apply Kd.N_drewN | apply Kd.N_drew)); exact Kd.N_mono HO_5.out (fun _ hk => by first | exact ⟨hk.1.1, ⟨hk.2, hk.1.2.2⟩⟩ | exact hk | ((repeat' apply And.intro) <;> first | exact hk.1 | exact hk.2.1 | exact hk.2.2.1 | exact hk.2.2.2 | exact hk.2.2.2.1 | exact hk.2.2.2.2 | exact hk.2 | exact hk.1.2 | exact hk.1.1.2 | exact hk.1.1.1)))); (case aS => exact (below_size (hb1_ HB.out GE501.out))); (case aL => have := LMc43.out; omega); intro v523 w50 ho hb hg hat; rw [← Ny522.out] at ho; replace HO_6 := Aside0.mk (Kd.R_over' (kr_ HO_6.out) (Kd.N_typed (by (with_reducible repeat (first | apply Kd.N_alloc | apply Kd.N_drewN | apply Kd.N_drew)); exact HO_5.out)) (by decide) hg); replace BK501 := Aside0.mk (blk_grown (g := gb501) (o := .cells #[.int .i64 a0_0, .int .i64 a0_1, .int .i64 a0_2] 30 (0, 0)) (bk_ BK501.out) hg (Kd.N_ne HO_5.out BK501.out (by decide))); replace HL513_0 := Aside0.mk (Kd.V_afterv (ok := (fun k_ => (w.heap.size ≤ k_) ∧ some k_ ≠ (.slice (some ⟨go12, 0, none⟩) x6_3.length co12 : Value).ownBlock ∧ some k_ ≠ (.slice Ao47 t514.length co47 : Value).ownBlock ∧ k_ ≠ gb501)) (by (with_reducible repeat (first | apply Kd.V_alloc | apply Kd.V_drewN | apply Kd.V_drew)); exact Kd.V_mono HL513_0.out (fun _ hk => by first | exact ⟨⟨hk.1.1, ⟨hk.2, ⟨hk.1.2.2.1, hk.1.2.2.2⟩⟩⟩, hk.1.2.1⟩ | exact hk | ((repeat' apply And.intro) <;> first | exact hk.1 | exact hk.2.1 | exact hk.2.2.1 | exact hk.2.2.2 | exact hk.2.2.2.1 | exact hk.2.2.2.2 | exact hk.2 | exact hk.1.2 | exact hk.1.1.2 | exact hk.1.1.1))) hg hat); replace HB := Aside0.mk (hb); have HO524 := Aside0.mk (ho); clear HO_5; clear HO516; clear ho hb hg hat))
                        (try simp only [← hl6_3])
                        go_roundg k3
                        case measure => have := HK1.out; have := HK2.out; have := HK3.out; omega
                        case rel => exact ⟨(y522), (y521), (wrap64 (x9_3 + 1)), (by first | rfl | (simp; done) | (simp [*]; done)), H', ⟨by have := HK1.out; have := HK2.out; have := HK3.out; omega⟩, ⟨by (try simp only [hl6_1]); (try simp only [hl6_2]); (try simp only [hl6_3]); (with_reducible repeat (first | apply Kd.N_alloc | apply Kd.N_drewN | apply Kd.N_drew)); exact HO524.out⟩, ⟨by (try simp only [hl6_1]); (try simp only [hl6_2]); (try simp only [hl6_3]); (with_reducible repeat (first | apply Kd.R_alloc | apply Kd.R_drewN | apply Kd.R_drew)); exact HO_6.out⟩, ⟨by (try simp only [hl6_1]); (try simp only [hl6_2]); (try simp only [hl6_3]); (with_reducible repeat (first | refine blk_drewN ?_ _ | refine blk_drew ?_ | refine blk_alloc ?_ _)); exact BK501.out⟩, ⟨hb1_ HB.out GE501.out⟩⟩
                       ·rw [if_neg c43] at H
                        exact absurd H (by simp)
                      ·rw [if_neg c41] at H
                       exact absurd H (by simp)
                     ·rw [if_neg c40] at H
                      exact absurd H (by simp)
                   ·rw [if_neg c32] at H
                    exact absurd H (by simp)
                  ·rw [if_neg c31] at H
                   exact absurd H (by simp)
                 ·replace c29 := Bool.eq_false_iff.mpr c29
                  subst c29
                  have H1 : (spec_l31Search.l2 k3 l1 x5_3 x6_3 x7_1 x8_2 (wrap64 (x9_3 + 1)) a0_0 a0_1 a0_2) = some r := by rw [if_neg (show ¬ (false = true) by decide)] at H; exact H
                  clear H
                  have H := H1
                  clear H1
                  have H' := Aside0.mk H
                  clear H
                  try go_wp2
                  replace HO_5 := Aside0.mk (Kd.N_drew HO_5.out)
                  replace HO_6 := Aside0.mk (Kd.R_drew HO_6.out)
                  replace BK501 := Aside0.mk (blk_drew BK501.out)
                  replace HB := Aside0.mk (below_drew1 HB.out)
                  obtain ⟨Ao52, co52, eo52⟩ := Kd.N_slice HO_5.out
                  (first | subst eo52 | (injection eo52 with f1_ f2_ f3_; have f4_ := f1_.symm; have f5_ := f3_.symm; clear f1_ f2_ f3_; subst f4_; subst f5_))
                  have p513 : 0 ≤ (x7_1 : Int) := of_decide_eq_true (as_)
                  have q513 : x7_1 < (x5_3.length : Int) := of_decide_eq_true (as_)
                  obtain ⟨ad513, A513_0, c513_0, e513, hx513_0, hl513_0, hi513_0⟩ := at_L1 (Kd.N_reads' HO_5.out).2.2 x7_1 p513 q513
                  cases e513
                  obtain ⟨ce513, hce513, hMe513, hcc513⟩ := Kd.N_get HO_5.out [] x7_1 p513 (by first | exact q513 | exact of_decide_eq_true (as_) | (have e_ := (Kd.N_reads' HO_5.out).1; omega))
                  obtain ⟨ua513_0, uc513_0, rfl, ul513_0, ge513_0⟩ := Kd.FK_slice_open hMe513
                  have hv513_0 := hcc513 0 _ rfl
                  rw [Nat.add_zero, show ((Kd.slice 3 (Kd.int .i64))).sz = 1 from rfl, Nat.mul_one] at hv513_0
                  replace hv513_0 := Option.some.inj (hv513_0.symm.trans hx513_0)
                  injection hv513_0 with hva_ hvn_ hvc_
                  rw [hva_] at ge513_0
                  rw [hvc_] at ul513_0
                  have HL513_0 := Aside0.mk (show Kd.V (Kd.int .i64) 3 _ w.heap.size _ _ (rd_L1 x5_3 x7_1) from Kd.V_mk ul513_0 ge513_0)
                  clear hva_ hvn_ hvc_ ge513_0 ul513_0
                  clear hcc513 hce513
                  have HR513_0 := Aside0.mk hi513_0
                  have HC513_0 := Aside0.mk hl513_0
                  clear hi513_0 hl513_0
                  replace p513 := eq_true p513
                  replace q513 := eq_true q513
                  refine start_ (n := 13) (S := fun w' => w'.cell? ⟨gb501, 0, none⟩ = some (.int .i64 a0_0) ∧ w'.cell? ⟨gb501, 1, none⟩ = some (.int .i64 a0_1) ∧ w'.cell? ⟨gb501, 2, none⟩ = some (.int .i64 a0_2) ∧ w'.cell? (ad513.add (x7_1).toNat) = some (.slice A513_0 (rd_L1 x5_3 x7_1).length c513_0)) (ds := []) #[false, false, false, false, false, false, false, false, false, false, false, false, false] (by kernel_rfl) rfl rfl ⟨BK501.c 0, BK501.c 1, BK501.c 2, hx513_0⟩ (fun hHeld => ?_); refine with_tabW spec_l31Search.tab13 spec_l31Search.bits13 (fun HT_ HW_ => ?_)
                  generalize wr.drew = w51 at HO_5 HO_6 BK501 HB HL513_0 HR513_0 hx513_0 hHeld ⊢
                  refine pv_ (i := 1) (N := some 43) HT_.out ?_
                  refine pv_ (i := 2) (N := some 44) HT_.out ?_
                  refine pv_ (i := 3) (N := some 45) HT_.out ?_
                  refine pv_ (i := 5) (N := some 47) HT_.out ?_
                  refine pv_ (i := 6) (N := some 48) HT_.out ?_
                  refine tv4_ (i := 0) (N := some 42) HT_.out HW_.out hHeld ?_
                  refine tv4_ (i := 4) (N := some 46) HT_.out HW_.out hHeld ?_
                  refine ov_ (i := 7) (N := some 49) HT_.out (fun K hK => ?_)
                  refine gq_ Tryd.func20 #[.agg #[.int .i64 a0_0, .int .i64 a0_1, .int .i64 a0_2], .slice A513_0 (rd_L1 x5_3 x7_1).length c513_0, .int .i64 x8_2, .int .i64 x9_3] ?_
                  with_reducible refine (spec_MoveOne.calls k3 a0_0 a0_1 a0_2 _ _ (rd_L1 x5_3 x7_1) x8_2 x9_3 t514 false _ ?side1 ?side2 A28.out).mono ?_
                  (case side1 => repeat (first | exact (by repeat (first | (with_reducible exact HR513_0.out) | (with_reducible refine Kd.C_alloc ?_ _) | (with_reducible refine Kd.C_drewN ?_ _) | (with_reducible refine Kd.C_drew ?_) | exact HR513_0.out)) | (with_reducible refine Kd.C_alloc ?_ _) | (with_reducible refine Kd.C_drewN ?_ _) | (with_reducible refine Kd.C_drew ?_)))
                  (case side2 => exact HC513_0.out)
                  rintro e w53 ⟨v515, rfl, ho0, hb⟩
                  have HS3_ := (hb.cell (World.block_lt_of_cell? _ _ (hHeld.2.2.2))).trans (hHeld.2.2.2)
                  refine ⟨_, rfl, ?_⟩
                  replace HO_5 := Aside0.mk (Kd.N_elder' (by (with_reducible repeat (first | apply Kd.N_alloc | apply Kd.N_drewN | apply Kd.N_drew)); exact HO_5.out) (Kd.R_base ho0) hb)
                  replace HO_6 := HO_6.kb hb
                  replace HL513_0 := Aside0.mk (Kd.V_elder' (by (with_reducible repeat (first | apply Kd.V_alloc | apply Kd.V_drewN | apply Kd.V_drew)); exact HL513_0.out) (Kd.R_base ho0) hb)
                  have HO516 := Aside0.mk (Kd.R_lower (Kd.R_newM (M := fun k_ => (w.heap.size ≤ k_)) ho0 (below_size (hb1_ HB.out GE501.out)) (fun k_ h_ => h_)) (below_size (hb1_ HB.out GE501.out)))
                  replace BK501 := BK501.bb hb
                  replace HR513_0 := Aside0.mk (Kd.C_below (by repeat (first | (with_reducible exact HR513_0.out) | (with_reducible refine Kd.C_alloc ?_ _) | (with_reducible refine Kd.C_drewN ?_ _) | (with_reducible refine Kd.C_drew ?_) | exact HR513_0.out)) hb)
                  replace HB := HB.s1 GE501 hb
                  skip
                  (try clear hb2)
                  (try clear hk)
                  (try clear hi)
                  (try clear ho0)
                  refine hK.out _ _ ⟨BK501.c 0, BK501.c 1, BK501.c 2, HS3_⟩ (fun hHeld => ?_)
                  clear hK K
                  refine nm_ ?_
                  refine pv_ (i := 8) (N := some 41) HT_.out ?_
                  refine pv_ (i := 9) (N := some 50) HT_.out ?_
                  refine pv_ (i := 10) (N := some 51) HT_.out ?_
                  refine pv_ (i := 11) (N := some 10) HT_.out ?_
                  refine pv_ (i := 12) (N := some 11) HT_.out ?_
                  refine done_ (done_of HT_.out (by kernel_rfl)) ?_
                  try go_wp2
                  (try simp only [← hl6_3])
                  go_roundg k3
                  case measure => have := HK1.out; have := HK2.out; have := HK3.out; omega
                  case rel => exact ⟨(x5_3), (x6_3), (wrap64 (x9_3 + 1)), (by first | rfl | (simp; done) | (simp [*]; done)), H', ⟨by have := HK1.out; have := HK2.out; have := HK3.out; omega⟩, ⟨by (try simp only [hl6_1]); (try simp only [hl6_2]); (try simp only [hl6_3]); (with_reducible repeat (first | apply Kd.N_alloc | apply Kd.N_drewN | apply Kd.N_drew)); exact Kd.N_mono HO_5.out (fun _ hk => by first | exact ⟨hk.1.1, ⟨hk.1.2.1, hk.1.2.2⟩⟩ | exact hk | ((repeat' apply And.intro) <;> first | exact hk.1 | exact hk.2.1 | exact hk.2.2.1 | exact hk.2.2.2 | exact hk.2.2.2.1 | exact hk.2.2.2.2 | exact hk.2 | exact hk.1.2 | exact hk.1.1.2 | exact hk.1.1.1))⟩, ⟨by (try simp only [hl6_1]); (try simp only [hl6_2]); (try simp only [hl6_3]); (with_reducible repeat (first | apply Kd.R_alloc | apply Kd.R_drewN | apply Kd.R_drew)); exact HO_6.out⟩, ⟨by (try simp only [hl6_1]); (try simp only [hl6_2]); (try simp only [hl6_3]); (with_reducible repeat (first | refine blk_drewN ?_ _ | refine blk_drew ?_ | refine blk_alloc ?_ _)); exact BK501.out⟩, ⟨hb1_ HB.out GE501.out⟩⟩
                ·rw [if_neg c27] at H
                 exact absurd H (by simp)
               ·rw [if_neg c26] at H
                exact absurd H (by simp)
              ·rw [if_neg c25] at H
               have c25b0 : decide (x9_3 ≤ 3) = false := decide_eq_false c25
               clear c25
               have H' := Aside0.mk H
               clear H
               go_wp2
               (try simp only [← hl6_2, ← hl6_3])
               go_roundg k3
               case measure => have := HK1.out; have := HK2.out; have := HK3.out; omega
               case rel => exact ⟨(x5_3), (x6_3), (wrap64 (x8_2 + 1)), (by first | rfl | (simp; done) | (simp [*]; done)), H', ⟨by have := HK1.out; have := HK2.out; have := HK3.out; omega⟩, ⟨by (try simp only [hl6_1]); (try simp only [hl6_2]); (try simp only [hl6_3]); (with_reducible repeat (first | apply Kd.N_alloc | apply Kd.N_drewN | apply Kd.N_drew)); exact HO_5.out⟩, ⟨by (try simp only [hl6_1]); (try simp only [hl6_2]); (try simp only [hl6_3]); (with_reducible repeat (first | apply Kd.R_alloc | apply Kd.R_drewN | apply Kd.R_drew)); exact HO_6.out⟩, ⟨by (try simp only [hl6_1]); (try simp only [hl6_2]); (try simp only [hl6_3]); (with_reducible repeat (first | refine blk_drewN ?_ _ | refine blk_drew ?_ | refine blk_alloc ?_ _)); exact BK501.out⟩, ⟨hb1_ HB.out GE501.out⟩⟩
           ·rw [if_neg c24] at H
            have c24b0 : decide (x8_2 < (l1.length : Int)) = false := decide_eq_false c24
            clear c24
            have H' := Aside0.mk H
            clear H
            go_wp2
            (try simp only [← hl6_1, ← hl6_2])
            go_roundg k2
            case measure => have := HK1.out; have := HK2.out; omega
            case rel => exact ⟨(x5_2), (x6_2), (wrap64 (x7_1 + 1)), (by first | rfl | (simp; done) | (simp [*]; done)), H', ⟨by have := HK1.out; have := HK2.out; omega⟩, ⟨by (try simp only [hl6_1]); (try simp only [hl6_2]); (with_reducible repeat (first | apply Kd.N_alloc | apply Kd.N_drewN | apply Kd.N_drew)); exact HO_5.out⟩, ⟨by (try simp only [hl6_1]); (try simp only [hl6_2]); (with_reducible repeat (first | apply Kd.R_alloc | apply Kd.R_drewN | apply Kd.R_drew)); exact HO_6.out⟩, ⟨by (try simp only [hl6_1]); (try simp only [hl6_2]); (with_reducible repeat (first | refine blk_drewN ?_ _ | refine blk_drew ?_ | refine blk_alloc ?_ _)); exact BK501.out⟩, ⟨hb1_ HB.out GE501.out⟩⟩
        ·rw [if_neg c22] at H
         have c22b0 : decide (x7_1 < (x5_1.length : Int)) = false := decide_eq_false c22
         clear c22
         obtain rfl := Option.some.inj H
         obtain ⟨Ao54, co54, eo54⟩ := Kd.N_slice HO_5.out
         subst eo54
         go_wp2
         go_ret
         exact ⟨_, by first | rfl | (simp [errW_none, errW_some] <;> rfl) | (simp only [← hji4, ← hji6]; first | rfl | (simp [errW_none, errW_some] <;> rfl)) | (simp [*, errW_none, errW_some] <;> rfl), by (with_reducible repeat (first | apply Kd.N_alloc | apply Kd.N_drewN | apply Kd.N_drew)); exact Kd.N_mono HO_5.out (fun _ hk => by first | exact hk.1 | exact hk | ((repeat' apply And.intro) <;> first | exact hk.1 | exact hk.2.1 | exact hk.2.2.1 | exact hk.2.2.2 | exact hk.2.2.2.1 | exact hk.2.2.2.2 | exact hk.2 | exact hk.1.2 | exact hk.1.1.2 | exact hk.1.1.1)), hb1_ HB.out GE501.out⟩
     ·rw [if_neg c11] at H
      exact absurd H (by simp)
    ·rw [if_neg c10] at H
     exact absurd H (by simp)
   ·rw [if_neg c8] at H
    exact absurd H (by simp)
  ·rw [if_neg c7] at H
   exact absurd H (by simp)
 ·rw [if_neg c5] at H
  exact absurd H (by simp)

end Go.Proofs.YtgnnkjgfkdaddaaDoor.X
