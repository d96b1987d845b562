/- How many bits of a number are set: the program's library counts them by sums of fields, the reference one by one. -/
import Derived.Test.YtnfclfpicemojaaXcbits
import Derived.Test.YtnfclfpicemojaaXctrees
import Derived.Test.YtnfclfpicemojaaLBits
namespace Go.Proofs.Ytnfclfpicemojaa.L
open Go.RowKit Go.Proofs.Ytnfclfpicemojaa.X Go.Proofs.YtnfclfpicemojaaW.PrintWords Go.Proofs.YtnfclfpicemojaaW.PrintLast Go.Proofs.YtnfclfpicemojaaW.PrintMore
set_option linter.unusedSimpArgs false
set_option linter.unusedVariables false

def popN (n x : Nat) : Nat := ((List.range n).filter fun i => x.testBit i).length
theorem popN_succ (n x : Nat) : popN (n + 1) x = popN n x + (if x.testBit n = true then 1 else 0) := by
  unfold popN
  rw [List.range_succ, List.filter_append, List.length_append, List.filter_cons, List.filter_nil]
  split <;> rfl
theorem popN_le (n x : Nat) : popN n x ≤ n := by
  unfold popN
  have := List.length_filter_le (fun i => x.testBit i) (List.range n)
  rwa [List.length_range] at this
theorem popN_split (i y a : Nat) (ha : a < 2 ^ i) : ∀ n, popN (i + n) (2 ^ i * y + a) = popN i a + popN n y
  | 0 => by
    unfold popN
    simp only [Nat.add_zero, List.range_zero, List.filter_nil, List.length_nil]
    congr 1
    apply List.filter_congr
    intro j hj
    rw [Nat.testBit_two_pow_mul_add _ ha, if_pos (List.mem_range.1 hj)]
  | n + 1 => by
    have e : (2 ^ i * y + a).testBit (i + n) = y.testBit n := by
      rw [Nat.testBit_two_pow_mul_add _ ha, if_neg (by omega), show i + n - i = n by omega]
    rw [show i + (n + 1) = (i + n) + 1 by omega, popN_succ, popN_succ, popN_split i y a ha n, e]
    omega
theorem popN_big {n x : Nat} (hx : x < 2 ^ n) : ∀ m, n ≤ m → popN m x = popN n x
  | 0, h => by rw [show n = 0 by omega]
  | m + 1, h => by
    by_cases e : n = m + 1
    · rw [e]
    · rw [popN_succ, popN_big hx m (by omega), bit_ge hx (by omega)]
      rfl
theorem and_split (i a b c d : Nat) (hb : b < 2 ^ i) (hd : d < 2 ^ i) : (2 ^ i * a + b) &&& (2 ^ i * c + d) = 2 ^ i * (a &&& c) + (b &&& d) := by
  apply Nat.eq_of_testBit_eq
  intro j
  rw [Nat.testBit_and, Nat.testBit_two_pow_mul_add _ hb, Nat.testBit_two_pow_mul_add _ hd, Nat.testBit_two_pow_mul_add _ (Nat.and_lt_two_pow b hd), Nat.testBit_and, Nat.testBit_and]
  split <;> rfl
def f1 (m x : Nat) : Nat := (x / 2 &&& m) + (x &&& m)
def f2 (m x : Nat) : Nat := (x / 4 &&& m) + (x &&& m)
def f3 (m x : Nat) : Nat := (x / 16 + x) &&& m
theorem low1 : ∀ (a : Fin 256) (r : Fin 2), ((r.val * 128 + a.val / 2) &&& 85) = (a.val / 2 &&& 85) := by decide +kernel
theorem low2 : ∀ (a : Fin 256) (r : Fin 4), ((r.val * 64 + a.val / 4) &&& 51) = (a.val / 4 &&& 51) := by decide +kernel
theorem low3 : ∀ (a : Fin 69) (r : Fin 5), ((r.val * 16 + a.val / 16 + a.val) &&& 15) = ((a.val / 16 + a.val) &&& 15) := by decide +kernel
theorem lim1 : ∀ a : Fin 256, f1 85 a.val < 256 := by decide +kernel
theorem lim2 : ∀ a : Fin 256, f2 51 a.val % 16 ≤ 6 ∧ f2 51 (f1 85 a.val) < 69 ∧ f2 51 (f1 85 a.val) % 16 ≤ 4 := by decide +kernel
theorem lim3 : ∀ a : Fin 256, f3 15 (f2 51 (f1 85 a.val)) = popN 8 a.val := by decide +kernel
theorem f1_split (m y a : Nat) (ha : a < 256) : f1 (256 * m + 85) (256 * y + a) = 256 * f1 m y + f1 85 a := by
  have h1 := low1 ⟨a, ha⟩ ⟨y % 2, by omega⟩
  have e : (256 * y + a) / 2 = 256 * (y / 2) + (y % 2 * 128 + a / 2) := by omega
  have s1 := and_split 8 (y / 2) (y % 2 * 128 + a / 2) m 85 (by omega) (by omega)
  have s2 := and_split 8 y a m 85 (by omega) (by omega)
  simp only [Nat.reducePow] at s1 s2 h1
  unfold f1
  rw [e, s1, s2, h1]
  omega
theorem f2_split (m y a : Nat) (ha : a < 256) : f2 (256 * m + 51) (256 * y + a) = 256 * f2 m y + f2 51 a := by
  have h1 := low2 ⟨a, ha⟩ ⟨y % 4, by omega⟩
  have e : (256 * y + a) / 4 = 256 * (y / 4) + (y % 4 * 64 + a / 4) := by omega
  have s1 := and_split 8 (y / 4) (y % 4 * 64 + a / 4) m 51 (by omega) (by omega)
  have s2 := and_split 8 y a m 51 (by omega) (by omega)
  simp only [Nat.reducePow] at s1 s2 h1
  unfold f2
  rw [e, s1, s2, h1]
  omega
theorem f3_split (m y a : Nat) (ha : a < 69) (hy : y % 16 ≤ 4) : f3 (256 * m + 15) (256 * y + a) = 256 * f3 m y + f3 15 a := by
  have h1 := low3 ⟨a, ha⟩ ⟨y % 16, by omega⟩
  have e : (256 * y + a) / 16 + (256 * y + a) = 256 * (y / 16 + y) + (y % 16 * 16 + a / 16 + a) := by omega
  have s1 := and_split 8 (y / 16 + y) (y % 16 * 16 + a / 16 + a) m 15 (by omega) (by omega)
  simp only [Nat.reducePow] at s1 h1
  unfold f3
  rw [e, s1, h1]
theorem mask_small {x M j : Nat} (hx : x < 2 ^ j) : x &&& M = x &&& (M % 2 ^ j) := by
  apply Nat.eq_of_testBit_eq
  intro i
  rw [Nat.testBit_and, Nat.testBit_and, Nat.testBit_mod_two_pow]
  by_cases h : i < j
  · simp [h]
  · rw [bit_ge hx (by omega)]; rfl
theorem f1_small {M x : Nat} (hx : x < 256) : f1 M x = f1 (M % 256) x := by
  unfold f1
  rw [mask_small (x := x / 2) (M := M) (j := 8) (by omega), mask_small (x := x) (M := M) (j := 8) (by omega)]
theorem f2_small {M x : Nat} (hx : x < 256) : f2 M x = f2 (M % 256) x := by
  unfold f2
  rw [mask_small (x := x / 4) (M := M) (j := 8) (by omega), mask_small (x := x) (M := M) (j := 8) (by omega)]
theorem f3_small {M x : Nat} (hx : x < 69) : f3 M x = f3 (M % 256) x := by
  unfold f3
  rw [mask_small (x := x / 16 + x) (M := M) (j := 8) (by omega)]
/-- The three stages over three bytes. -/
theorem stages (x : Nat) (hx : x < 16777216) : f3 1085102592571150095 (f2 3689348814741910323 (f1 6148914691236517205 x)) = 65536 * popN 8 (x / 65536) + 256 * popN 8 (x / 256 % 256) + popN 8 (x % 256) := by
  have h0 : x % 256 < 256 := by omega
  have h1 : x / 256 % 256 < 256 := by omega
  have h2 : x / 65536 < 256 := by omega
  have e : x = 256 * (256 * (x / 65536) + x / 256 % 256) + x % 256 := by omega
  generalize x % 256 = a at *
  generalize x / 256 % 256 = b at *
  generalize x / 65536 = c at *
  subst e
  have A1 := lim1 ⟨a, h0⟩
  have B1 := lim1 ⟨b, h1⟩
  have C1 := lim1 ⟨c, h2⟩
  have A2 := lim2 ⟨a, h0⟩
  have B2 := lim2 ⟨b, h1⟩
  have C2 := lim2 ⟨c, h2⟩
  have A3 := lim3 ⟨a, h0⟩
  have B3 := lim3 ⟨b, h1⟩
  have C3 := lim3 ⟨c, h2⟩
  simp only at A1 B1 C1 A2 B2 C2 A3 B3 C3
  have s1 : f1 6148914691236517205 (256 * (256 * c + b) + a) = 256 * (256 * f1 85 c + f1 85 b) + f1 85 a := by
    have q := f1_split 24019198012642645 (256 * c + b) a h0
    have q2 := f1_split 93824992236885 c b h1
    have q3 := f1_small (M := 93824992236885) h2
    simp only [Nat.reduceMul, Nat.reduceAdd, Nat.reduceMod] at q q2 q3
    rw [q, q2, q3]
  rw [s1]
  generalize f1 85 a = a1 at *
  generalize f1 85 b = b1 at *
  generalize f1 85 c = c1 at *
  have s2 : f2 3689348814741910323 (256 * (256 * c1 + b1) + a1) = 256 * (256 * f2 51 c1 + f2 51 b1) + f2 51 a1 := by
    have q := f2_split 14411518807585587 (256 * c1 + b1) a1 A1
    have q2 := f2_split 56294995342131 c1 b1 B1
    have q3 := f2_small (M := 56294995342131) C1
    simp only [Nat.reduceMul, Nat.reduceAdd, Nat.reduceMod] at q q2 q3
    rw [q, q2, q3]
  rw [s2]
  generalize f2 51 a1 = a2 at *
  generalize f2 51 b1 = b2 at *
  generalize f2 51 c1 = c2 at *
  have s3 : f3 1085102592571150095 (256 * (256 * c2 + b2) + a2) = 256 * (256 * f3 15 c2 + f3 15 b2) + f3 15 a2 := by
    have q := f3_split 4238682002231055 (256 * c2 + b2) a2 A2.2.1 (by omega)
    have q2 := f3_split 16557351571215 c2 b2 B2.2.1 C2.2.2
    have q3 := f3_small (M := 16557351571215) C2.2.1
    simp only [Nat.reduceMul, Nat.reduceAdd, Nat.reduceMod] at q q2 q3
    rw [q, q2, q3]
  rw [s3, A3, B3, C3]
  omega
theorem popN_bytes (x : Nat) (hx : x < 16777216) : popN 24 x = popN 8 (x % 256) + (popN 8 (x / 256 % 256) + popN 8 (x / 65536)) := by
  have e : x = 2 ^ 8 * (2 ^ 8 * (x / 65536) + x / 256 % 256) + x % 256 := by omega
  have p1 := popN_split 8 (2 ^ 8 * (x / 65536) + x / 256 % 256) (x % 256) (by omega) 16
  have p2 := popN_split 8 (x / 65536) (x / 256 % 256) (by omega) 8
  simp only [Nat.reduceAdd] at p1 p2
  rw [← e] at p1
  omega
theorem wrapU {x : Nat} (h : x < 18446744073709551616) : IntKind.u64.wrap (x : Int) = (x : Int) := by
  rw [Go.IntKind.wrap_u64]; omega
theorem andU (a b : Nat) (ha : a < 2 ^ 64) (hb : b < 2 ^ 64) : Go.bits .and .u64 (a : Int) (b : Int) = ((a &&& b : Nat) : Int) :=
  (Go.bits_nat .u64 64 (by decide) (fun m h0 h1 => by rw [Go.IntKind.wrap_u64]; omega) a b ha hb).1
theorem and_127 (x : Nat) (hx : x < 2 ^ 63) : Go.bits .and .i64 (x : Int) 127 = ((x % 128 : Nat) : Int) := by
  have h := bits_and x 127 hx (by decide)
  rw [show ((127 : Int)) = ((127 : Nat) : Int) by rfl, h]
  congr 1
  exact Nat.and_two_pow_sub_one_eq_mod x 7
theorem onesCount64 (x : Nat) (hx : x < 16777216) : bits_OnesCount64.f (x : Int) = some (popN 24 x : Int) := by
  have cast2 : ∀ y : Nat, ((y : Int) / 2) = ((y / 2 : Nat) : Int) := fun y => by simp
  have cast4 : ∀ y : Nat, ((y : Int) / 4) = ((y / 4 : Nat) : Int) := fun y => by simp
  have cast16 : ∀ y : Nat, ((y : Int) / 16) = ((y / 16 : Nat) : Int) := fun y => by simp
  have F1 : ∀ y : Nat, y < 2 ^ 30 → IntKind.u64.wrap ((Go.bits .and .u64 ((y : Int) / 2) 6148914691236517205) + (Go.bits .and .u64 (y : Int) 6148914691236517205)) = (f1 6148914691236517205 y : Int) ∧ f1 6148914691236517205 y < 2 ^ 32 := fun y hy => by
    have h1 : (y / 2 &&& 6148914691236517205) ≤ y / 2 := Nat.and_le_left
    have h2 : (y &&& 6148914691236517205) ≤ y := Nat.and_le_left
    rw [cast2, show (6148914691236517205 : Int) = ((6148914691236517205 : Nat) : Int) by rfl, andU _ _ (by omega) (by decide), andU _ _ (by omega) (by decide), ← Int.natCast_add, wrapU (by omega)]
    exact ⟨rfl, by unfold f1; omega⟩
  have F2 : ∀ y : Nat, y < 2 ^ 32 → IntKind.u64.wrap ((Go.bits .and .u64 ((y : Int) / 4) 3689348814741910323) + (Go.bits .and .u64 (y : Int) 3689348814741910323)) = (f2 3689348814741910323 y : Int) ∧ f2 3689348814741910323 y < 2 ^ 34 := fun y hy => by
    have h1 : (y / 4 &&& 3689348814741910323) ≤ y / 4 := Nat.and_le_left
    have h2 : (y &&& 3689348814741910323) ≤ y := Nat.and_le_left
    rw [cast4, show (3689348814741910323 : Int) = ((3689348814741910323 : Nat) : Int) by rfl, andU _ _ (by omega) (by decide), andU _ _ (by omega) (by decide), ← Int.natCast_add, wrapU (by omega)]
    exact ⟨rfl, by unfold f2; omega⟩
  have F3 : ∀ y : Nat, y < 2 ^ 34 → Go.bits .and .u64 (IntKind.u64.wrap (((y : Int) / 16) + (y : Int))) 1085102592571150095 = (f3 1085102592571150095 y : Int) := fun y hy => by
    rw [cast16, ← Int.natCast_add, wrapU (by omega), show (1085102592571150095 : Int) = ((1085102592571150095 : Nat) : Int) by rfl, andU _ _ (by omega) (by decide)]
    rfl
  obtain ⟨e1, b1⟩ := F1 x (by omega)
  obtain ⟨e2, b2⟩ := F2 (f1 6148914691236517205 x) b1
  have e3 := F3 _ b2
  have hs := stages x hx
  have hp := popN_bytes x hx
  have p1 := popN_le 8 (x % 256)
  have p2 := popN_le 8 (x / 256 % 256)
  have p3 := popN_le 8 (x / 65536)
  unfold bits_OnesCount64.f
  rw [e1, e2, e3, hs]
  generalize popN 8 (x % 256) = a at *
  generalize popN 8 (x / 256 % 256) = b at *
  generalize popN 8 (x / 65536) = c at *
  have w1 : ∀ (y : Int) (d : Int), 0 ≤ y → y < 1000000000 → 1 ≤ d → IntKind.u64.wrap (y + y / d) = y + y / d := fun y d h0 h1 hd => by
    have h2 : 0 ≤ y / d := Int.ediv_nonneg h0 (by omega)
    have h3 : y / d ≤ y := Int.ediv_le_self d h0
    rw [Go.IntKind.wrap_u64]
    omega
  obtain ⟨y, hy⟩ : ∃ y : Nat, y = 65536 * c + 256 * b + a := ⟨_, rfl⟩
  rw [← hy]
  rw [w1 (y : Int) 256 (by omega) (by omega) (by omega)]
  have hA : (y : Int) / 256 = 256 * c + b := by omega
  rw [hA]
  rw [w1 ((y : Int) + (256 * (c : Int) + b)) 65536 (by omega) (by omega) (by omega)]
  have hB : ((y : Int) + (256 * (c : Int) + b)) / 65536 = c := by omega
  rw [hB]
  rw [w1 ((y : Int) + (256 * (c : Int) + b) + c) 4294967296 (by omega) (by omega) (by omega)]
  have hC : ((y : Int) + (256 * (c : Int) + b) + c) / 4294967296 = 0 := by omega
  rw [hC, w64 (by omega) (by omega), show ((y : Int) + (256 * (c : Int) + b) + c + 0) = ((y + (256 * c + b) + c : Nat) : Int) by omega, and_127 _ (by omega)]
  congr 2
  omega
theorem onesCount (x : Int) (h0 : 0 ≤ x) (h1 : x < 16777216) : bits_OnesCount.f (IntKind.u64.wrap x) = some (popN 24 x.toNat : Int) := by
  unfold bits_OnesCount.f
  have e : IntKind.u64.wrap x = (x.toNat : Int) := by rw [Go.IntKind.wrap_u64]; omega
  rw [e, onesCount64 x.toNat (by omega)]
  rfl
def passages (w h o : Int) : Int := if mazeOk w h o = true then (popN 24 o.toNat : Int) else 0
theorem iPassages (w h o : Int) : impl_CountPassages.f w h o = some (passages w h o) := by
  unfold impl_CountPassages.f passages
  rw [iMazeOk]
  simp only [Option.bind_some]
  by_cases hm : mazeOk w h o = true
  · have hmm := mazeOk_ok hm
    rw [if_pos hm, if_pos hm, onesCount o hmm.2.1 hmm.2.2.2]
    rfl
  · rw [if_neg hm, if_neg hm]
theorem mazeOk_lt {w h o : Int} (hm : mazeOk w h o = true) : o.toNat < 2 ^ (gaps w h).toNat := by
  have hmm := mazeOk_ok hm
  have h3 : o < ((2 ^ (gaps w h).toNat : Nat) : Int) := by rw [← pow_cast]; exact hmm.2.2.1
  omega
theorem popN_gaps {w h o : Int} (hm : mazeOk w h o = true) : popN 24 o.toNat = popN (gaps w h).toNat o.toNat := by
  have hg := gaps_range w h
  exact popN_big (mazeOk_lt hm) 24 (by omega)
end Go.Proofs.Ytnfclfpicemojaa.L
