/- A swap towards another maze: the program takes the lowest gap by the table of the library, the reference counts up to it; both find the same swap, and it takes one gap off. -/
import Derived.Test.YtbdodiaedocmjaaDoorXimplSwapTowards
import Derived.Test.YtbdodiaedocmjaaDoorXspecSwapTowards
import Derived.Test.YtbdodiaedocmjaaDoorLSwapRun
namespace Go.Proofs.YtbdodiaedocmjaaDoor.L
open Go.RowKit Go.Proofs.YtbdodiaedocmjaaDoor.X Go.Proofs.YtbdodiaedocmjaaDoorW.PrintWords Go.Proofs.YtbdodiaedocmjaaDoorW.PrintLast Go.Proofs.YtbdodiaedocmjaaDoorW.PrintMore
set_option linter.unusedSimpArgs false
set_option linter.unusedVariables false

theorem ctz_tells (x : Nat) (hx0 : x ≠ 0) (hx : x < 2 ^ 64) : x.testBit (Lib.ctz 64 x) = true ∧ ∀ i, i < Lib.ctz 64 x → x.testBit i = false := by
  obtain ⟨m, hm, _⟩ := Lib.ctzFrom_spec 64 x (by omega) hx
  have e : Lib.ctz 64 x = Lib.ctzFrom 64 x := by simp [Lib.ctz, hx0]
  rw [e]
  generalize Lib.ctzFrom 64 x = c at hm ⊢
  rw [hm]
  constructor
  · rw [Nat.testBit_two_pow_mul]
    simp
  · intro i hi
    rw [Nat.testBit_two_pow_mul, decide_eq_false (by omega), Bool.false_and]
theorem popN_both (a b : Int) : ∀ n, popN n (less a b) + popN n (a.toNat &&& b.toNat) = popN n a.toNat := by
  intro n
  induction n with
  | zero => rfl
  | succ n ih =>
    rw [popN_succ, popN_succ, popN_succ, less_bit, Nat.testBit_and]
    cases a.toNat.testBit n <;> cases b.toNat.testBit n <;> simp <;> omega
theorem apart_sym {w h a b : Int} (ha : perfect w h a = true) (hb : perfect w h b = true) : popN 24 (less a b) = popN 24 (less b a) := by
  have h1 := popN_both a b 24
  have h2 := popN_both b a 24
  have h3 := (perfect_parts ha).2.2.1
  have h4 := (perfect_parts hb).2.2.1
  rw [Nat.and_comm] at h2
  omega
theorem popN_none {n x : Nat} (h : popN n x = 0) {i : Nat} (hi : i < n) : x.testBit i = false := by
  unfold popN at h
  rw [List.length_eq_zero_iff, List.filter_eq_nil_iff] at h
  have := h i (List.mem_range.2 hi)
  simpa using this
theorem popN_zero : ∀ n, popN n 0 = 0 := by
  intro n
  induction n with
  | zero => rfl
  | succ n ih => rw [popN_succ, ih, Nat.zero_testBit]; rfl
theorem bit_less (a b x : Int) : bit (less a b : Int) x = (bit a x && !bit b x) := by
  unfold bit
  rw [Int.toNat_natCast, less_bit]
theorem less_maze {w h a b : Int} (ha : mazeOk w h a = true) : mazeOk w h (less a b : Int) = true :=
  sub_maze ha (subB_iff.2 fun i hi => by rw [less_bit, Bool.and_eq_true] at hi; exact hi.1)
theorem iTo_go {w h a b g : Int} (hb : mazeOk w h b = true) {L : List Int} (hL : L = loopG w h a g) : ∀ (suf : List Int) (k : Nat) (j : Int), 0 ≤ j → j ≤ (L.length : Int) → L.drop j.toNat = suf → suf.length + 502 ≤ k → ∀ s, suf.find? (fun s => !bit b s) = some s →
    impl_SwapTowards.l0 k g L (L.length : Int) j w h a w h b = some (w, h, withO (withO a g true) s false, true) := by
  have hmo := mazeOk_ok hb
  have hgr := gaps_range w h
  have hsm := loopG_small w h a g
  intro suf
  induction suf with
  | nil => intro k j h0 h1 he hk s hs; cases hs
  | cons x rest ih =>
    intro k j h0 h1 he hk s hs
    rw [List.length_cons] at hk
    obtain ⟨k, rfl⟩ : ∃ m, k = m + 1 := ⟨k - 1, by omega⟩
    have hlen := congrArg List.length he
    rw [List.length_drop, List.length_cons] at hlen
    have hj : j < (L.length : Int) := by omega
    rw [drop_cons h0 hj] at he
    injection he with e1 e2
    have hmem : x ∈ loopG w h a g := by rw [← hL, ← e1]; exact rd_memL h0 hj
    have ht := loopG_some hmem
    have hxg := gap_lt ((mem_loopG ht.1 ht.2.1 ht.2.2).1 hmem).1
    rw [← hL] at hsm
    simp only [impl_SwapTowards.l0]
    rw [if_pos hj, if_pos h0, if_pos hj, e1, iisOpen w h b x (by omega) (by omega) (by omega), Option.bind_some, decide_eq_true hxg.1, Bool.true_and, w64 (by omega) (by omega)]
    rw [List.find?_cons] at hs
    by_cases hbx : bit b x = true
    · rw [hbx] at hs
      rw [if_pos hbx, ih k (j + 1) (by omega) (by omega) e2 (by omega) s hs]
    · have hbx' : bit b x = false := by simpa using hbx
      rw [hbx'] at hs
      obtain rfl := Option.some.inj hs
      rw [if_neg hbx, (swaps k (by omega) hmem).1, Option.bind_some]
theorem sTo_l1 {w h a b g : Int} (hb : mazeOk w h b = true) {L : List Int} (hL : L = loopG w h a g) : ∀ (suf : List Int) (k : Nat) (j : Int), 0 ≤ j → j ≤ (L.length : Int) → L.drop j.toNat = suf → suf.length + 502 ≤ k → ∀ s, suf.find? (fun s => !bit b s) = some s →
    spec_SwapTowards.l1 k g L j w h a w h b = some (w, h, withO (withO a g true) s false, true) := by
  have hmo := mazeOk_ok hb
  have hgr := gaps_range w h
  have hsm := loopG_small w h a g
  intro suf
  induction suf with
  | nil => intro k j h0 h1 he hk s hs; cases hs
  | cons x rest ih =>
    intro k j h0 h1 he hk s hs
    rw [List.length_cons] at hk
    obtain ⟨k, rfl⟩ : ∃ m, k = m + 1 := ⟨k - 1, by omega⟩
    have hlen := congrArg List.length he
    rw [List.length_drop, List.length_cons] at hlen
    have hj : j < (L.length : Int) := by omega
    rw [drop_cons h0 hj] at he
    injection he with e1 e2
    have hmem : x ∈ loopG w h a g := by rw [← hL, ← e1]; exact rd_memL h0 hj
    have ht := loopG_some hmem
    have hxg := gap_lt ((mem_loopG ht.1 ht.2.1 ht.2.2).1 hmem).1
    rw [← hL] at hsm
    simp only [spec_SwapTowards.l1]
    rw [if_pos hj, if_pos h0, e1, sBit b x (by omega) (by omega) hxg.1 (by omega), Option.bind_some, w64 (by omega) (by omega)]
    rw [List.find?_cons] at hs
    by_cases hbx : bit b x = true
    · rw [hbx] at hs
      rw [if_pos hbx, ih k (j + 1) (by omega) (by omega) e2 (by omega) s hs]
    · have hbx' : bit b x = false := by simpa using hbx
      rw [hbx'] at hs
      obtain rfl := Option.some.inj hs
      rw [if_neg hbx, (swaps k (by omega) hmem).2, Option.bind_some]
theorem sTo_l0 {w h a b g s : Int} (ha : mazeOk w h a = true) (hb : mazeOk w h b = true) (hg : isGap w h g = true) (hga : bit a g = false) (hgb : bit b g = true) (hlow : ∀ i, 0 ≤ i → i < g → (bit b i && !bit a i) = false)
    (hs : (loopG w h a g).find? (fun s => !bit b s) = some s) : ∀ (n k : Nat) (i : Int), 0 ≤ i → i ≤ g → g - i = n → 2 * n + 600 ≤ k →
    spec_SwapTowards.l0 k i w h a w h b = some (w, h, withO (withO a g true) s false, true) := by
  have ha' := mazeOk_ok ha
  have hb' := mazeOk_ok hb
  have hgr := gaps_range w h
  have hgl := gap_lt hg
  have hsm := loopG_small w h a g
  intro n
  induction n with
  | zero =>
    intro k i h0 h1 hd hk
    obtain ⟨k, rfl⟩ : ∃ m, k = m + 2 := ⟨k - 2, by omega⟩
    obtain rfl : i = g := by omega
    simp only [spec_SwapTowards.l0]
    rw [sCountGaps, Option.bind_some, if_pos (by omega), sBit b i (by omega) (by omega) h0 (by omega), Option.bind_some, if_pos hgb, sBit a i (by omega) (by omega) h0 (by omega), Option.bind_some, hga]
    simp only [spec_SwapTowards.j1]
    rw [if_neg (by decide), sLoopGaps k w h a i (by omega), Option.bind_some]
    exact sTo_l1 hb rfl _ k 0 (by omega) (by omega) rfl (by simp; omega) s hs
  | succ n ih =>
    intro k i h0 h1 hd hk
    obtain ⟨k, rfl⟩ : ∃ m, k = m + 2 := ⟨k - 2, by omega⟩
    have hl := hlow i h0 (by omega)
    have hih := ih k (i + 1) (by omega) (by omega) (by omega) (by omega)
    simp only [spec_SwapTowards.l0]
    rw [sCountGaps, Option.bind_some, if_pos (by omega), sBit b i (by omega) (by omega) h0 (by omega), Option.bind_some]
    have hj : spec_SwapTowards.j1 (k + 1) i true w h a w h b = some (w, h, withO (withO a g true) s false, true) := by
      simp only [spec_SwapTowards.j1]
      rw [if_pos trivial, w64 (by omega) (by omega)]
      exact hih
    by_cases p : bit b i = true
    · rw [p, Bool.true_and] at hl
      have hai : bit a i = true := by simpa using hl
      rw [if_pos p, sBit a i (by omega) (by omega) h0 (by omega), Option.bind_some, hai]
      exact hj
    · rw [if_neg p]
      exact hj
theorem apart_same {w h a b : Int} (ha : perfect w h a = true) (hb : perfect w h b = true) : apartG w h a w h b = (popN 24 (less a b) : Int) := by
  unfold apartG
  rw [if_pos ⟨ha, hb, rfl, rfl⟩]
/-- The swap that both find. -/
theorem towards {w h a b : Int} (ha : perfect w h a = true) (hb : perfect w h b = true) (hpos : 0 < popN 24 (less a b)) : ∃ o, (∀ k, 1000 ≤ k → impl_SwapTowards.f k w h a w h b = some (w, h, o, true) ∧ spec_SwapTowards.f k w h a w h b = some (w, h, o, true)) ∧
    perfect w h o = true ∧ popN 24 (less o b) + 1 = popN 24 (less a b) := by
  have pa := perfect_parts ha
  have pb := perfect_parts hb
  have hsy := apart_sym ha hb
  have hlt := less_lt (b := a) pb.1
  have hgr := gaps_range w h
  have hx0 : less b a ≠ 0 := fun e => by rw [e, popN_zero] at hsy; omega
  have h64 : less b a < 2 ^ 64 := by omega
  obtain ⟨hbit, hlow⟩ := ctz_tells (less b a) hx0 h64
  generalize hgc : Lib.ctz 64 (less b a) = c at hbit hlow
  have hcg : c < (gaps w h).toNat := Classical.byContradiction fun z => by
    rw [Nat.testBit_lt_two_pow (Nat.lt_of_lt_of_le hlt.1 (Nat.pow_le_pow_right (by decide) (by omega)))] at hbit
    cases hbit
  have hg : isGap w h (c : Int) = true := gap_nat hcg
  rw [less_bit, Bool.and_eq_true] at hbit
  have hgb : bit b (c : Int) = true := by unfold bit; rw [Int.toNat_natCast]; exact hbit.1
  have hga : bit a (c : Int) = false := by unfold bit; rw [Int.toNat_natCast]; simpa using hbit.2
  have hlow' : ∀ i : Int, 0 ≤ i → i < (c : Int) → (bit b i && !bit a i) = false := fun i h0 h1 => by
    have := hlow i.toNat (by omega)
    rw [less_bit] at this
    exact this
  have he := end_tells hg
  obtain ⟨ds, gs, p, _, _⟩ := iWayBetween (w := w) (h := h) (o := a) 300 (by omega) pa.1 pa.2.1 he.1 he.2.1
  obtain ⟨s0, hs0, hb0⟩ := loop_other ha hb hg hga hgb p
  have hs1 : s0 ∈ loopG w h a c := by rw [← loopG_way ha hg hga p, ord_mem]; exact hs0
  obtain ⟨s, hs⟩ : ∃ s, (loopG w h a c).find? (fun s => !bit b s) = some s := by
    cases e : (loopG w h a c).find? (fun s => !bit b s) with
    | some s => exact ⟨s, rfl⟩
    | none =>
      rw [List.find?_eq_none] at e
      have := e s0 hs1
      rw [hb0] at this
      simp at this
  have hsm := List.mem_of_find?_eq_some hs
  have hsb : bit b s = false := by
    have := List.find?_some hs
    simpa using this
  have hst := (mem_loopG ha hg hga).1 hsm
  have hsw := swap_perfect ha hg hga hsm
  have hll := loopG_small w h a c
  refine ⟨withO (withO a c true) s false, fun k hk => ?_, hsw.1, ?_⟩
  · have hap : apartG w h a w h b = (popN 24 (less a b) : Int) := apart_same ha hb
    constructor
    · unfold impl_SwapTowards.f
      rw [iApart k w h a w h b (by omega), Option.bind_some, hap, if_neg (by omega), less_calc pb.1 pa.1, wrapU (by omega)]
      have hz : bits_TrailingZeros.f ((less b a : Nat) : Int) = some (c : Int) := by
        unfold bits_TrailingZeros.f
        rw [if_pos (by omega), Int.toNat_natCast, hgc]
      rw [hz, Option.bind_some, iLoopGaps k w h a c (by omega), Option.bind_some]
      exact iTo_go pb.1 rfl _ k 0 (by omega) (by omega) rfl (by simp; omega) s hs
    · unfold spec_SwapTowards.f
      rw [sGApart k w h a w h b (by omega), Option.bind_some, hap, if_neg (by omega)]
      exact sTo_l0 pa.1 pb.1 hg hga hgb hlow' hs c k 0 (by omega) (by omega) (by omega) (by omega)
  · have hbs : bit (less a b : Int) s = true := by rw [bit_less, hst.2.1, hsb]; rfl
    have hpl := pop_less (less_maze (b := b) pa.1) hst.1 hbs
    rw [Int.toNat_natCast] at hpl
    have hoe : ((less (withO (withO a c true) s false) b : Nat) : Int) = withO (less a b : Int) s false := by
      refine open_ext (less_maze (perfect_parts hsw.1).1) (mazeOk_with false (less_maze pa.1) hst.1) fun x hx => ?_
      have hx0 := (gap_lt hx).1
      rw [bit_less, hsw.2 x hx0, bit_withO _ s x false (gap_lt hst.1).1 hx0, bit_less]
      by_cases e : x = s
      · rw [if_pos e, if_pos (show s = x from e.symm)]
        rfl
      · rw [if_neg e, if_neg (show ¬ s = x from fun q => e q.symm)]
        by_cases e2 : x = (c : Int)
        · rw [if_pos e2, e2, hgb, hga]
          rfl
        · rw [if_neg e2]
    rw [← hoe, Int.toNat_natCast] at hpl
    exact hpl
theorem towards_no {w h a w' h' b : Int} (k : Nat) (hk : 400 ≤ k) (hz : apartG w h a w' h' b ≤ 0) : impl_SwapTowards.f k w h a w' h' b = some (w, h, a, false) ∧ spec_SwapTowards.f k w h a w' h' b = some (w, h, a, false) := by
  constructor
  · unfold impl_SwapTowards.f
    rw [iApart k w h a w' h' b (by omega), Option.bind_some, if_pos hz]
  · unfold spec_SwapTowards.f
    rw [sGApart k w h a w' h' b (by omega), Option.bind_some, if_pos hz]
theorem apart_pos {w h a w' h' b : Int} (hz : ¬ apartG w h a w' h' b ≤ 0) : w = w' ∧ h = h' ∧ perfect w h a = true ∧ perfect w' h' b = true ∧ 0 < popN 24 (less a b) := by
  unfold apartG at hz
  split at hz
  · rename_i hh
    exact ⟨hh.2.2.1, hh.2.2.2, hh.1, hh.2.1, by omega⟩
  · omega
end Go.Proofs.YtbdodiaedocmjaaDoor.L
