/- Opening and closing one gap of a maze: one bit of a number. -/

import Derived.Test.YtnfclfpicemojaaLGrid
namespace Go.Proofs.Ytnfclfpicemojaa.L
open Go.RowKit Go.Proofs.Ytnfclfpicemojaa.X Go.Proofs.YtnfclfpicemojaaW.PrintWords Go.Proofs.YtnfclfpicemojaaW.PrintLast Go.Proofs.YtnfclfpicemojaaW.PrintMore
set_option linter.unusedSimpArgs false
set_option linter.unusedVariables false

def clrN (o g : Nat) : Nat := if o.testBit g = true then o ^^^ 2 ^ g else o
def setN (o g : Nat) : Nat := if o.testBit g = true then o else o ^^^ 2 ^ g
theorem testBit_xor_pow (o g i : Nat) : (o ^^^ 2 ^ g).testBit i = (o.testBit i ^^ decide (g = i)) := by
  rw [Nat.testBit_xor, Nat.testBit_two_pow]
theorem testBit_clrN (o g i : Nat) : (clrN o g).testBit i = (o.testBit i && !decide (g = i)) := by
  unfold clrN
  split
  · rw [testBit_xor_pow]
    by_cases e : g = i
    · subst e; simp [*]
    · simp [e]
  · by_cases e : g = i
    · subst e; simp_all
    · simp [e]
theorem testBit_setN (o g i : Nat) : (setN o g).testBit i = (o.testBit i || decide (g = i)) := by
  unfold setN
  split
  · by_cases e : g = i
    · subst e; simp [*]
    · simp [e]
  · rw [testBit_xor_pow]
    by_cases e : g = i
    · subst e; simp_all
    · simp [e]
theorem lt_of_bits {x n : Nat} (h : ∀ i, n ≤ i → x.testBit i = false) : x < 2 ^ n := by
  apply Nat.lt_of_not_le
  intro hle
  obtain ⟨i, hi, hb⟩ := Nat.exists_ge_and_testBit_of_ge_two_pow hle
  rw [h i hi] at hb
  cases hb
theorem bit_ge {x n i : Nat} (h : x < 2 ^ n) (hi : n ≤ i) : x.testBit i = false := Nat.testBit_lt_two_pow (Nat.lt_of_lt_of_le h (Nat.pow_le_pow_right (by decide) hi))
theorem clrN_lt {o g n : Nat} (h : o < 2 ^ n) : clrN o g < 2 ^ n := lt_of_bits fun i hi => by rw [testBit_clrN, bit_ge h hi]; rfl
theorem setN_lt {o g n : Nat} (h : o < 2 ^ n) (hg : g < n) : setN o g < 2 ^ n := lt_of_bits fun i hi => by
  rw [testBit_setN, bit_ge h hi]
  have : g ≠ i := by omega
  simp [this]
theorem wrap_nat {x : Nat} (h : x < 9223372036854775808) : IntKind.i64.wrap (x : Int) = (x : Int) := by rw [Go.IntKind.wrap_i64]; omega
theorem getLsbD_ofInt_nat (x i : Nat) : (BitVec.ofInt 64 (x : Int)).getLsbD i = (decide (i < 64) && x.testBit i) := by
  rw [BitVec.ofInt_natCast, BitVec.getLsbD_ofNat]
theorem bits_andNot (o g : Nat) (ho : o < 2 ^ 63) (hg : g < 63) : Go.bits .andNot .i64 (o : Int) ((2 ^ g : Nat) : Int) = (clrN o g : Int) := by
  have e : (BitVec.ofInt 64 (o : Int) &&& ~~~(BitVec.ofInt 64 ((2 ^ g : Nat) : Int))).toNat = clrN o g := by
    apply Nat.eq_of_testBit_eq
    intro i
    rw [← BitVec.getLsbD, BitVec.getLsbD_and, BitVec.getLsbD_not, getLsbD_ofInt_nat, getLsbD_ofInt_nat, testBit_clrN, Nat.testBit_two_pow]
    by_cases hi : i < 64
    · simp [hi]
    · simp [hi, bit_ge ho (show 63 ≤ i by omega)]
  show IntKind.i64.wrap ((BitVec.ofInt 64 (o : Int) &&& ~~~(BitVec.ofInt 64 ((2 ^ g : Nat) : Int))).toNat : Int) = _
  rw [e]
  exact wrap_nat (Nat.lt_of_lt_of_le (clrN_lt ho) (by decide))
theorem bits_xor (a b : Nat) (ha : a < 2 ^ 63) (hb : b < 2 ^ 63) : Go.bits .xor .i64 (a : Int) (b : Int) = ((a ^^^ b : Nat) : Int) := by
  have e : (BitVec.ofInt 64 (a : Int) ^^^ BitVec.ofInt 64 (b : Int)).toNat = a ^^^ b := by
    apply Nat.eq_of_testBit_eq
    intro i
    rw [← BitVec.getLsbD, BitVec.getLsbD_xor, getLsbD_ofInt_nat, getLsbD_ofInt_nat, Nat.testBit_xor]
    by_cases hi : i < 64
    · simp [hi]
    · simp [hi, bit_ge ha (show 63 ≤ i by omega), bit_ge hb (show 63 ≤ i by omega)]
  show IntKind.i64.wrap ((BitVec.ofInt 64 (a : Int) ^^^ BitVec.ofInt 64 (b : Int)).toNat : Int) = _
  rw [e]
  exact wrap_nat (Nat.lt_of_lt_of_le (Nat.xor_lt_two_pow ha hb) (by decide))
theorem bits_or (a b : Nat) (ha : a < 2 ^ 63) (hb : b < 2 ^ 63) : Go.bits .or .i64 (a : Int) (b : Int) = ((a ||| b : Nat) : Int) :=
  (Go.bits_nat .i64 63 (by decide) (fun m h0 h1 => by rw [Go.IntKind.wrap_i64]; omega) a b ha hb).2
theorem bits_and (a b : Nat) (ha : a < 2 ^ 63) (hb : b < 2 ^ 63) : Go.bits .and .i64 (a : Int) (b : Int) = ((a &&& b : Nat) : Int) :=
  (Go.bits_nat .i64 63 (by decide) (fun m h0 h1 => by rw [Go.IntKind.wrap_i64]; omega) a b ha hb).1
theorem clr_or (o g : Nat) : clrN o g ||| 2 ^ g = setN o g := by
  apply Nat.eq_of_testBit_eq
  intro i
  rw [Nat.testBit_or, testBit_clrN, testBit_setN, Nat.testBit_two_pow]
  by_cases e : g = i <;> simp [e]
/-- A number of open gaps with one gap opened, or closed. -/
def withO (o g : Int) (open_ : Bool) : Int := if open_ = true then (setN o.toNat g.toNat : Int) else (clrN o.toNat g.toNat : Int)
theorem withO_nn (o g : Int) (b : Bool) : 0 ≤ withO o g b := by unfold withO; split <;> exact Int.natCast_nonneg _
theorem bit_withO (o g i : Int) (b : Bool) (hg : 0 ≤ g) (hi : 0 ≤ i) : bit (withO o g b) i = if g = i then b else bit o i := by
  unfold bit withO
  have e : decide (g.toNat = i.toNat) = decide (g = i) := by rw [decide_eq_decide]; omega
  cases b with
  | true => rw [if_pos rfl, Int.toNat_natCast, testBit_setN, e]; by_cases h : g = i <;> simp [h]
  | false => rw [if_neg (by decide), Int.toNat_natCast, testBit_clrN, e]; by_cases h : g = i <;> simp [h]
theorem pow_cast (n : Nat) : ((2 : Int) ^ n) = ((2 ^ n : Nat) : Int) := by simp
theorem withO_lt {o g : Int} {n : Nat} (b : Bool) (h0 : 0 ≤ o) (h1 : o < 2 ^ n) (hg : 0 ≤ g) (hgn : g < n) : withO o g b < 2 ^ n := by
  rw [pow_cast] at h1 ⊢
  unfold withO
  split
  · exact Int.ofNat_lt.mpr (setN_lt (by omega) (by omega))
  · exact Int.ofNat_lt.mpr (clrN_lt (by omega))
theorem mazeOk_with {w h o g : Int} (b : Bool) (hm : mazeOk w h o = true) (hg : isGap w h g = true) : mazeOk w h (withO o g b) = true := by
  obtain ⟨h1, h2, h3, _⟩ := mazeOk_ok hm
  have hr := gaps_range w h
  unfold isGap at hg
  have hg := of_decide_eq_true hg
  unfold mazeOk
  rw [h1, Bool.true_and, decide_eq_true_eq]
  exact ⟨withO_nn _ _ _, withO_lt b h2 h3 hg.1 (by omega)⟩
end Go.Proofs.Ytnfclfpicemojaa.L
