/- The program's SwapsBetween returns what the reference's returns, for all arguments: each swap takes one gap off, and none is left just if the mazes are the same. -/
import Derived.Test.YtbdodiaedocmjaaDoorXlawsFnExactSwapsBetween
import Derived.Test.YtbdodiaedocmjaaDoorLSwapTo
namespace Go.Proofs.YtbdodiaedocmjaaDoor.Pure
open Go.RowKit Go.Proofs.YtbdodiaedocmjaaDoor.X Go.Proofs.YtbdodiaedocmjaaDoor.L Go.Proofs.YtbdodiaedocmjaaDoorW.PrintWords Go.Proofs.YtbdodiaedocmjaaDoorW.PrintLast

theorem same_of_zero {w h a b : Int} (ha : perfect w h a = true) (hb : perfect w h b = true) (hz : popN 24 (less a b) = 0) : a = b := by
  have hz2 : popN 24 (less b a) = 0 := by rw [← apart_sym ha hb, hz]
  have hgr := gaps_range w h
  refine open_ext (perfect_parts ha).1 (perfect_parts hb).1 fun g hg => ?_
  have hgl := gap_lt hg
  have h1 := popN_none hz (i := g.toNat) (by omega)
  have h2 := popN_none hz2 (i := g.toNat) (by omega)
  rw [less_bit] at h1 h2
  unfold bit
  cases e : a.toNat.testBit g.toNat <;> cases e' : b.toNat.testBit g.toNat <;> simp [e, e'] at h1 h2 ⊢
theorem less_self (a : Int) : less a a = 0 := by
  apply Nat.eq_of_testBit_eq
  intro i
  rw [less_bit, Nat.zero_testBit]
  cases a.toNat.testBit i <;> rfl
theorem between {w h b : Int} (hb : perfect w h b = true) : ∀ (d k : Nat) (n a : Int), perfect w h a = true → popN 24 (less a b) = d → 0 ≤ n → n + d ≤ 1000 → d + 1100 ≤ k →
    impl_SwapsBetween.l0 k n w h a w h b = some (n + d) ∧ spec_SwapsBetween.l0 k n w h a w h b = some (n + d) := by
  intro d
  induction d with
  | zero =>
    intro k n a ha hd h0 h1 hk
    obtain ⟨k, rfl⟩ : ∃ m, k = m + 1 := ⟨k - 1, by omega⟩
    have hap := apart_same ha hb
    rw [hd] at hap
    have e := same_of_zero ha hb hd
    constructor
    · simp only [impl_SwapsBetween.l0]
      rw [iApart k w h a w h b (by omega), Option.bind_some, hap, if_neg (by omega), Option.bind_some, if_neg (by omega)]
      simp
    · simp only [spec_SwapsBetween.l0]
      rw [if_neg (by rw [e]; simp)]
      simp
  | succ d ih =>
    intro k n a ha hd h0 h1 hk
    obtain ⟨k, rfl⟩ : ∃ m, k = m + 1 := ⟨k - 1, by omega⟩
    have hap := apart_same ha hb
    obtain ⟨o, hf, hp, hpo⟩ := towards ha hb (by omega)
    have hr := ih k (n + 1) o hp (by omega) (by omega) (by omega) (by omega)
    have hne : a ≠ b := fun e => by rw [e, less_self, popN_zero] at hd; omega
    rw [show n + ((d + 1 : Nat) : Int) = n + 1 + (d : Int) by omega]
    constructor
    · simp only [impl_SwapsBetween.l0]
      rw [iApart k w h a w h b (by omega), Option.bind_some, hap, if_pos (by omega), (hf k (by omega)).1, Option.bind_some, if_pos rfl, w64 (by omega) (by omega)]
      exact hr.1
    · simp only [spec_SwapsBetween.l0]
      rw [if_pos (by simp [hne]), (hf k (by omega)).2, Option.bind_some, w64 (by omega) (by omega)]
      exact hr.2
theorem FnExactSwapsBetween : laws_FnExactSwapsBetween.Pure := by
  intro w h a w' h' b _ _ _ _ _ _
  refine ⟨1200, ?_⟩
  generalize hk : (1200 : Nat) = k
  have key : ∃ r : Int, impl_SwapsBetween.f k w h a w' h' b = some r ∧ spec_SwapsBetween.f k w h a w' h' b = some r := by
    by_cases hs : perfect w h a = true ∧ perfect w' h' b = true ∧ w = w' ∧ h = h'
    · obtain ⟨p, q, rfl, rfl⟩ := hs
      have hap := apart_same p q
      have hle := popN_le 24 (less a b)
      have hb := between q (popN 24 (less a b)) k 0 a p rfl (by omega) (by omega) (by omega)
      refine ⟨_, hb.1, ?_⟩
      unfold spec_SwapsBetween.f
      rw [sGApart k w h a w h b (by omega), Option.bind_some, hap, if_neg (by omega)]
      exact hb.2
    · have hap : apartG w h a w' h' b = -1 := by
        unfold apartG
        rw [if_neg hs]
      refine ⟨-1, ?_, ?_⟩
      · unfold impl_SwapsBetween.f
        obtain ⟨k, rfl⟩ : ∃ m, k = m + 1 := ⟨k - 1, by omega⟩
        simp only [impl_SwapsBetween.l0]
        rw [iApart k w h a w' h' b (by omega), Option.bind_some, hap, if_neg (by decide), Option.bind_some, if_pos (by decide)]
      · unfold spec_SwapsBetween.f
        rw [sGApart k w h a w' h' b (by omega), Option.bind_some, hap, if_pos (by decide)]
  obtain ⟨r, hi, hs⟩ := key
  unfold laws_FnExactSwapsBetween.f laws_toMaze.f laws_toGrid.f
  simp only [Option.bind_some, hi, hs]
  rw [if_pos trivial]
end Go.Proofs.YtbdodiaedocmjaaDoor.Pure
