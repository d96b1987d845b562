/- Mazes and passages: the program and the reference compute the same. -/
import Derived.Test.YtekgbinadmjapaaXimplIsPassage
import Derived.Test.YtekgbinadmjapaaXimplMazeOk
import Derived.Test.YtekgbinadmjapaaXimplisOpen
import Derived.Test.YtekgbinadmjapaaXspecIsPassage
import Derived.Test.YtekgbinadmjapaaXspecMazeOk
import Derived.Test.YtekgbinadmjapaaXspecl03Bit
import Derived.Test.YtekgbinadmjapaaLG1
namespace Go.Proofs.Ytekgbinadmjapaa.L
open Go.RowKit Go.Proofs.Ytekgbinadmjapaa.X Go.Proofs.YtekgbinadmjapaaW.PrintWords Go.Proofs.YtekgbinadmjapaaW.PrintLast Go.Proofs.YtekgbinadmjapaaW.PrintMore
set_option linter.unusedSimpArgs false
set_option linter.unusedVariables false

theorem pow_le_24 {n : Int} (h0 : 0 ≤ n) (h1 : n ≤ 24) : (1 : Int) ≤ 2 ^ n.toNat ∧ (2 : Int) ^ n.toNat ≤ 16777216 := by
  have h2 : n.toNat ≤ 24 := by omega
  have h3 : (2 : Nat) ^ n.toNat ≤ 2 ^ 24 := Nat.pow_le_pow_right (by decide) h2
  have h4 : 1 ≤ (2 : Nat) ^ n.toNat := Nat.one_le_two_pow
  have e : ((2 : Int) ^ n.toNat) = (((2 : Nat) ^ n.toNat : Nat) : Int) := by simp
  rw [e]
  omega
theorem shl_one {n : Int} (h0 : 0 ≤ n) (h1 : n ≤ 24) : shl .i64 1 n = 2 ^ n.toNat := by
  have h2 := pow_le_24 h0 h1
  unfold shl
  rw [show min n.toNat (IntKind.bits .i64) = n.toNat from Nat.min_eq_left (by simp [IntKind.bits]; omega), Int.one_mul, Go.IntKind.wrap_i64]
  omega
theorem mazeOk_ok {w h o : Int} (hm : mazeOk w h o = true) : gridOk w h = true ∧ 0 ≤ o ∧ o < 2 ^ (gaps w h).toNat ∧ o < 16777216 := by
  unfold mazeOk at hm
  rw [Bool.and_eq_true, decide_eq_true_eq] at hm
  have h1 := gaps_range w h
  have h2 := pow_le_24 h1.1 h1.2
  exact ⟨hm.1, hm.2.1, hm.2.2, by omega⟩
theorem iMazeOk (w h o : Int) : impl_MazeOk.f w h o = some (mazeOk w h o) := by
  unfold impl_MazeOk.f mazeOk
  have h1 := gaps_range w h
  simp only [iGridOk, iCountGaps, Option.bind_some, if_pos h1.1, shl_one h1.1 h1.2]
  cases gridOk w h <;> simp [ite_some_bool]
theorem sMazeOk (w h o : Int) : spec_MazeOk.f w h o = some (mazeOk w h o) := by
  unfold spec_MazeOk.f mazeOk
  have h1 := gaps_range w h
  have h2 := pow_le_24 h1.1 h1.2
  simp only [sGridOk, sCountGaps, sIn, Option.bind_some, if_pos h1.1, shl_one h1.1 h1.2]
  rw [w64 (by omega) (by omega)]
  cases gridOk w h
  · simp
  · simp only [if_true, Bool.true_and, Option.some.injEq, decide_eq_decide]
    omega
theorem and_one (n : Int) (h : 0 ≤ n) : Go.bits .and .i64 n 1 = n % 2 ∨ 9223372036854775808 ≤ n := by
  by_cases hb : n < 9223372036854775808
  · left
    have := Go.bits_mask .i64 63 (by decide) (fun m h0 h1 => by rw [Go.IntKind.wrap_i64]; omega) 1 (by decide) n h (by simpa using hb)
    simpa using this
  · right; omega
/-- One bit of a number, as both texts ask for it. -/
theorem bit_test {o g : Int} (h0 : 0 ≤ o) (h1 : o < 9223372036854775808) (hg : 0 ≤ g) (hg1 : g ≤ 64) : (Go.bits .and .i64 (shr .i64 o g) 1 == 1) = bit o g := by
  unfold shr bit
  rw [show min g.toNat (IntKind.bits .i64) = g.toNat from Nat.min_eq_left (by simp [IntKind.bits]; omega)]
  obtain ⟨n, rfl⟩ := Int.eq_ofNat_of_zero_le h0
  have e : ((n : Int) / 2 ^ g.toNat) = ((n / 2 ^ g.toNat : Nat) : Int) := by simp
  rw [e]
  have hle : n / 2 ^ g.toNat ≤ n := Nat.div_le_self _ _
  rcases and_one ((n / 2 ^ g.toNat : Nat) : Int) (Int.natCast_nonneg _) with h | h
  · rw [h, Nat.testBit_eq_decide_div_mod_eq]
    simp only [Int.toNat_natCast]
    rw [Bool.eq_iff_iff]
    simp
    omega
  · omega
theorem iisOpen (w h o g : Int) (h0 : 0 ≤ o) (h1 : o < 9223372036854775808) (hg1 : g ≤ 64) : impl_isOpen.f w h o g = some (decide (0 ≤ g) && bit o g) := by
  unfold impl_isOpen.f
  by_cases hg : 0 ≤ g
  · rw [if_pos hg, if_pos hg, bit_test h0 h1 hg hg1]; simp [hg]
  · rw [if_neg hg]; simp [hg]
theorem sBit (o g : Int) (h0 : 0 ≤ o) (h1 : o < 9223372036854775808) (hg : 0 ≤ g) (hg1 : g ≤ 64) : spec_l03Bit.f o g = some (bit o g) := by
  unfold spec_l03Bit.f
  rw [if_pos hg, bit_test h0 h1 hg hg1]
theorem iIsPassage (w h o g : Int) : impl_IsPassage.f w h o g = some (mazeOk w h o && (isGap w h g && bit o g)) := by
  unfold impl_IsPassage.f
  simp only [iMazeOk, Option.bind_some, iisGap]
  cases hm : mazeOk w h o with
  | false => simp
  | true =>
    obtain ⟨_, ho, _, ho'⟩ := mazeOk_ok hm
    cases hgp : isGap w h g with
    | false => simp
    | true =>
      unfold isGap at hgp
      have hgp := of_decide_eq_true hgp
      have := gaps_range w h
      simp only [if_true]
      rw [iisOpen w h o g ho (by omega) (by omega)]
      simp [hgp.1]
theorem sIsPassage (w h o g : Int) : spec_IsPassage.f w h o g = some (mazeOk w h o && (isGap w h g && bit o g)) := by
  unfold spec_IsPassage.f
  simp only [sMazeOk, Option.bind_some, sCountGaps, sIn, gap_test]
  cases hm : mazeOk w h o with
  | false => simp
  | true =>
    obtain ⟨_, ho, _, ho'⟩ := mazeOk_ok hm
    cases hgp : isGap w h g with
    | false => simp
    | true =>
      unfold isGap at hgp
      have hgp := of_decide_eq_true hgp
      have := gaps_range w h
      simp only [if_true]
      rw [sBit o g ho (by omega) hgp.1 (by omega)]
      simp
end Go.Proofs.Ytekgbinadmjapaa.L
