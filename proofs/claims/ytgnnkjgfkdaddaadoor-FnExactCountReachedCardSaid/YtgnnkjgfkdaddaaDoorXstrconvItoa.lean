-- Written by a program of this session (xprint.py), out of the translation and of hand-written contracts. Lean checks it.
import Derived.Test.YtgnnkjgfkdaddaaDoorX0
namespace Go.Proofs.YtgnnkjgfkdaddaaDoor.X
open Go.RowKit Go.Proofs.YtgnnkjgfkdaddaaDoorW.PrintWords Go.Proofs.YtgnnkjgfkdaddaaDoorW.PrintLast Go.Proofs.YtgnnkjgfkdaddaaDoorW.PrintMore
attribute [local go_sem] max2_int min2_int max_two min_two max_three min_three max_four min_four   -- for this text's walks alone
set_option linter.unusedVariables false
set_option linter.unusedSimpArgs false

/-! ### strconv_Itoa: function 44 (by hand) -/
/-- A digit's text. -/
def itoa_digit (i : Int) : ByteArray := ⟨#[UInt8.ofNat (48 + i.toNat)]⟩
theorem itoa_cut (w : World) (i : Nat) (hi : i < 10) : (Instr.slice 9 (.string ⟨#[48, 49, 50, 51, 52, 53, 54, 55, 56, 57, 97, 98, 99, 100, 101, 102, 103, 104, 105, 106, 107, 108, 109, 110, 111, 112, 113, 114, 115, 116, 117, 118, 119, 120, 121, 122]⟩) (some (.int .i64 (i : Int))) (some (.int .i64 ((i : Int) + 1))) none).run Tryd.prog w = .ok (.string (itoa_digit i)) w := by
 have h := run_slice_string w 9 ⟨#[48, 49, 50, 51, 52, 53, 54, 55, 56, 57, 97, 98, 99, 100, 101, 102, 103, 104, 105, 106, 107, 108, 109, 110, 111, 112, 113, 114, 115, 116, 117, 118, 119, 120, 121, 122]⟩ .i64 .i64 (i : Int) ((i : Int) + 1) Tryd.underlying9 (by omega) (by omega) (by
  show (i : Int) + 1 ≤ ((36 : Nat) : Int)
  omega)
 rw [h]
 have e : ∀ j : Fin 10, (ByteArray.mk #[48, 49, 50, 51, 52, 53, 54, 55, 56, 57, 97, 98, 99, 100, 101, 102, 103, 104, 105, 106, 107, 108, 109, 110, 111, 112, 113, 114, 115, 116, 117, 118, 119, 120, 121, 122]).extract j.val (j.val + 1) = itoa_digit (j.val : Int) := by decide +kernel
 rw [show ((i : Int)).toNat = i by omega, show ((i : Int) + 1).toNat = i + 1 by omega, e ⟨i, hi⟩]
set_option maxRecDepth 100000 in
theorem itoa_small (i : Nat) (hi : i < 10) (w : World) : Calls Tryd.prog 69 #[.int .i64 (i : Int)] w fun e w' => e = .returned (.string (itoa_digit i)) ∧ w' = w := by
 have hs : ∀ w, _ := fun w => itoa_cut w i hi
 have hw : wrap64 ((i : Int) + 1) = (i : Int) + 1 := by unfold wrap64; omega
 have c : decide ((i : Int) < 10) = true := decide_eq_true (by omega)
 go_enter Tryd.func69, Tryd.ntmps69
 go_wp2
 go_ret
 exact ⟨rfl, rfl⟩
set_option maxRecDepth 100000 in
theorem itoa_format (i : Nat) (hi : i < 10) (w : World) : Calls Tryd.prog 57 #[.int .i64 (i : Int), .int .i64 10] w fun e w' => e = .returned (.string (itoa_digit i)) ∧ w' = w := by
 have c0 : decide ((0 : Int) ≤ (i : Int)) = true := decide_eq_true (by omega)
 have c1 : decide ((i : Int) < 100) = true := decide_eq_true (by omega)
 go_enter Tryd.func57, Tryd.ntmps57
 go_wp2_with (go_at_call 69; refine (itoa_small i hi _).mono ?_; rintro e w' ⟨rfl, rfl⟩)
 go_ret
 exact ⟨rfl, rfl⟩
set_option maxRecDepth 100000 in
theorem itoa_inner (i : Nat) (hi : i < 10) (w : World) : Calls Tryd.prog 54 #[.int .i64 (i : Int)] w fun e w' => e = .returned (.string (itoa_digit i)) ∧ w' = w := by
 go_enter Tryd.func54, Tryd.ntmps54
 go_wp2_with (go_at_call 57; refine (itoa_format i hi _).mono ?_; rintro e w' ⟨rfl, rfl⟩)
 go_ret
 exact ⟨rfl, rfl⟩
def strconv_Itoa.f (a0 : Int) : Option ByteArray := if 0 ≤ a0 then (if a0 < 10 then some (itoa_digit a0) else none) else none
set_option maxRecDepth 100000 in
theorem strconv_Itoa.calls (a0 : Int) (r : ByteArray) (w : World) (h : strconv_Itoa.f a0 = some r) :
  Calls Tryd.prog 44 #[.int .i64 a0] w fun e w' => e = .returned (.string r) ∧ w' = w := by
 unfold strconv_Itoa.f at h
 by_cases c0 : 0 ≤ a0
 ·rw [if_pos c0] at h
  by_cases c1 : a0 < 10
  ·rw [if_pos c1] at h
   obtain rfl := Option.some.inj h
   obtain ⟨i, rfl⟩ := Int.eq_ofNat_of_zero_le c0
   have hi : i < 10 := by omega
   clear h c0 c1
   go_enter Tryd.func44, Tryd.ntmps44
   go_wp2_with (go_at_call 54; refine (itoa_inner i hi _).mono ?_; rintro e w' ⟨rfl, rfl⟩)
   go_ret
   exact ⟨rfl, rfl⟩
  ·rw [if_neg c1] at h
   cases h
 ·rw [if_neg c0] at h
  cases h

end Go.Proofs.YtgnnkjgfkdaddaaDoor.X
