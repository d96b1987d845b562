/- Swaps: the program and the reference compute the same. -/
import Derived.Test.YtbdodiaedocmjaaDoorXcswapi
import Derived.Test.YtbdodiaedocmjaaDoorXcswaps
import Derived.Test.YtbdodiaedocmjaaDoorLSwap
import Derived.Test.YtbdodiaedocmjaaDoorLConn
import Derived.Test.YtbdodiaedocmjaaDoorLSort
namespace Go.Proofs.YtbdodiaedocmjaaDoor.L
open Go.RowKit Go.Proofs.YtbdodiaedocmjaaDoor.X Go.Proofs.YtbdodiaedocmjaaDoorW.PrintWords Go.Proofs.YtbdodiaedocmjaaDoorW.PrintLast Go.Proofs.YtbdodiaedocmjaaDoorW.PrintMore
set_option linter.unusedSimpArgs false
set_option linter.unusedVariables false

theorem iWay_l1 {w h o b c : Int} {far ws : List Int} (hfl : (far.length : Int) = cells w h) (hc : isCell w h c = true) (hws : ∀ t ∈ ws, 0 ≤ t ∧ t ≤ 3 ∧ 0 ≤ step w h o c t) (hwl : ws.length ≤ 4) :
    ∀ (n k : Nat) (acc : List Int) (j : Int), 0 ≤ j → j ≤ (ws.length : Int) → (ws.length : Int) - j = n → n + 6 ≤ k → acc.length < 1000 → (∃ t ∈ ws.drop j.toNat, rd far (step w h o c t) < rd far c) →
    ∃ t k', (0 ≤ t ∧ t ≤ 3 ∧ 0 ≤ step w h o c t) ∧ rd far (step w h o c t) < rd far c ∧ k ≤ k' + n ∧ impl_WayBetween.l1 k b far acc c ws (ws.length : Int) j w h o = impl_WayBetween.l0 k' b far (acc ++ [t]) (step w h o c t) w h o := by
  intro n
  induction n with
  | zero =>
    intro k acc j h0 h1 hd hk ha ⟨t, ht, _⟩
    rw [List.drop_of_length_le (by omega)] at ht
    cases ht
  | succ n ih =>
    intro k acc j h0 h1 hd hk ha ⟨t, ht, hlt⟩
    obtain ⟨k, rfl⟩ : ∃ m, k = m + 1 := ⟨k - 1, by omega⟩
    have hj : j < (ws.length : Int) := by omega
    have hm := hws _ (rd_memL h0 hj)
    have hcell := cellD_lt (step_cell hm.2.2)
    have hcc := cellD_lt hc
    simp only [impl_WayBetween.l1]
    rw [if_pos hj, if_pos h0, if_pos hj, iStep k w h o c _ (by omega), Option.bind_some, if_pos hm.2.2, if_pos (by omega), if_pos hcc.1, if_pos (by omega)]
    by_cases hb : rd far (step w h o c (rd ws j)) < rd far c
    · rw [if_pos hb, if_pos (by omega)]
      exact ⟨_, k, hm, hb, by omega, rfl⟩
    · rw [if_neg hb, w64 (by omega) (by omega)]
      rw [drop_cons h0 hj] at ht
      rcases List.mem_cons.1 ht with rfl | ht
      · exact absurd hlt hb
      · obtain ⟨t', k', a, b', c', d⟩ := ih k acc (j + 1) (by omega) (by omega) (by omega) (by omega) ha ⟨t, ht, hlt⟩
        exact ⟨t', k', a, b', by omega, d⟩
theorem iWay_l0 {w h o b : Int} (hm : mazeOk w h o = true) (hb : isCell w h b = true) : ∀ (m k : Nat) (acc : List Int) (c : Int), isCell w h c = true → Rch w h o b c → rd (dist w h o b) c ≤ m → 6 * m + 20 ≤ k → acc.length + m ≤ 100 →
    ∃ ds gs, Wy w h o (rd (dist w h o b)) b c ds gs ∧ ds.length ≤ m ∧ impl_WayBetween.l0 k b (dist w h o b) acc c w h o = some (acc ++ ds, true) := by
  have hd := dist_tells (o := o) hb
  intro m
  induction m with
  | zero =>
    intro k acc c hc hr hle hk ha
    obtain ⟨k, rfl⟩ : ∃ m, k = m + 1 := ⟨k - 1, by omega⟩
    by_cases e : c = b
    · subst e
      refine ⟨[], [], .stop, by simp, ?_⟩
      simp only [impl_WayBetween.l0]
      rw [if_pos trivial]
      simp
    · obtain ⟨t, t0, t3, hs, hlt⟩ := nearer hm hb hc hr e
      have := (hd.2.1 _ (step_cell hs)).2 (.step hr t0 t3 hs)
      omega
  | succ m ih =>
    intro k acc c hc hr hle hk ha
    obtain ⟨k, rfl⟩ : ∃ m, k = m + 1 := ⟨k - 1, by omega⟩
    simp only [impl_WayBetween.l0]
    by_cases e : c = b
    · subst e
      refine ⟨[], [], .stop, by simp, ?_⟩
      rw [if_pos rfl]
      simp
    · obtain ⟨t, t0, t3, hs, hlt⟩ := nearer hm hb hc hr e
      rw [if_neg e, iWaysFrom k w h o c (by omega), Option.bind_some]
      have hwt := ways_tell (w := w) (h := h) (o := o) (c := c)
      have hmem : t ∈ ways w h o c := by
        unfold ways
        rw [List.mem_filter]
        refine ⟨?_, decide_eq_true hs⟩
        have : t = 0 ∨ t = 1 ∨ t = 2 ∨ t = 3 := by omega
        simpa using this
      obtain ⟨t', k', a, b', c', d⟩ := iWay_l1 (b := b) (far := dist w h o b) hd.1 hc hwt.1 hwt.2 (ways w h o c).length k acc 0 (by omega) (by omega) (by omega) (by omega) (by omega) ⟨t, by simpa using hmem, hlt⟩
      rw [d]
      have hwl := hwt.2
      obtain ⟨ds, gs, p, q, r⟩ := ih k' (acc ++ [t']) (step w h o c t') (step_cell a.2.2) (.step hr a.1 a.2.1 a.2.2) (by omega) (by omega) (by simp; omega)
      refine ⟨t' :: ds, _, .go a.1 a.2.1 a.2.2 b' p, by simp; omega, ?_⟩
      rw [r]
      simp
theorem conn_rch {w h o : Int} (hm : mazeOk w h o = true) (hc : conn w h o = true) {a b : Int} (ha : isCell w h a = true) (hb : isCell w h b = true) : Rch w h o a b := (conn_iff hm ha).1 hc b hb
theorem iWayBetween {w h o a b : Int} (k : Nat) (hk : 300 ≤ k) (hm : mazeOk w h o = true) (hc : conn w h o = true) (ha : isCell w h a = true) (hb : isCell w h b = true) :
    ∃ ds gs, Wy w h o (rd (dist w h o b)) b a ds gs ∧ ds.length ≤ 16 ∧ impl_WayBetween.f k w h o a b = some (ds, true) := by
  have hr := conn_rch hm hc hb ha
  have hd := dist_tells (o := o) hb
  have hnn := (hd.2.1 a ha).2 hr
  have hlt := hd.2.2 a ha
  obtain ⟨ds, gs, p, q, r⟩ := iWay_l0 hm hb 16 k [] a ha hr (by omega) (by omega) (by simp)
  refine ⟨ds, gs, p, q, ?_⟩
  unfold impl_WayBetween.f
  have hn : ¬ distOf w h o a b < 0 := by
    unfold distOf
    rw [if_pos ⟨has_of hm ha, hb⟩]
    have := ((dist_tells (o := o) ha).2.1 b hb).2 (conn_rch hm hc ha hb)
    omega
  rw [iDistanceOf k w h o a b (by omega), Option.bind_some, if_neg hn, iDist k w h o b hb (by omega), Option.bind_some, r]
  simp
theorem iGaps_go {w h o b : Int} {f : Int → Int} (l : List Int) (hl : l.length ≤ 1000) {c : Int} {ds gs : List Int} (p : Wy w h o f b c ds gs) : ∀ (k : Nat) (acc : List Int) (j : Int), 0 ≤ j → j ≤ (l.length : Int) → l.drop j.toNat = ds → ds.length + 6 ≤ k → acc.length + ds.length ≤ 2000 →
    impl_gapsOn.l0 k c acc l (l.length : Int) j w h o = some (acc ++ gs) := by
  induction p with
  | stop =>
    intro k acc j h0 h1 he hk ha
    obtain ⟨k, rfl⟩ : ∃ m, k = m + 1 := ⟨k - 1, by omega⟩
    have := congrArg List.length he
    rw [List.length_drop, List.length_nil] at this
    simp only [impl_gapsOn.l0]
    rw [if_neg (by omega)]
    simp
  | @go c t ds gs t0 t3 hs hf _ ih =>
    intro k acc j h0 h1 he hk ha
    obtain ⟨k, rfl⟩ : ∃ m, k = m + 1 := ⟨k - 1, by omega⟩
    have hlen := congrArg List.length he
    rw [List.length_drop, List.length_cons] at hlen
    rw [List.length_cons] at hk ha
    have hj : j < (l.length : Int) := by omega
    rw [drop_cons h0 hj] at he
    injection he with e1 e2
    simp only [impl_gapsOn.l0]
    rw [if_pos hj, if_pos h0, if_pos hj, e1, iGapAt k w h c t (by omega), Option.bind_some, if_pos (by omega), iStep k w h o c t (by omega), Option.bind_some, w64 (by omega) (by omega),
      ih k _ (j + 1) (by omega) (by omega) e2 (by omega) (by simp; omega)]
    simp
theorem iLoopGaps (k : Nat) (w h o g : Int) (hk : 400 ≤ k) : impl_LoopGaps.f k w h o g = some (loopG w h o g) := by
  obtain ⟨k, rfl⟩ : ∃ m, k = m + 1 := ⟨k - 1, by omega⟩
  have no : ¬ (perfect w h o = true ∧ isGap w h g = true ∧ bit o g = false) → some ([] : List Int) = some (loopG w h o g) := fun z => by
    unfold loopG
    rw [if_neg z]
  unfold impl_LoopGaps.f
  simp only [impl_LoopGaps.j0]
  rw [iPerfect _ w h o (by omega), Option.bind_some]
  by_cases hp : perfect w h o = true
  · rw [if_pos hp, iisGap, Option.bind_some]
    by_cases hg : isGap w h g = true
    · have hmc := perfect_parts hp
      have hm := hmc.1
      have hgl := gap_lt hg
      have hgr := gaps_range w h
      have hmo := mazeOk_ok hm
      rw [if_pos hg, iisOpen w h o g (by omega) (by omega) (by omega), Option.bind_some, show decide (0 ≤ g) = true from decide_eq_true hgl.1, Bool.true_and]
      by_cases hb : bit o g = true
      · rw [if_pos hb]
        exact no fun z => by rw [hb] at z; cases z.2.2
      · rw [if_neg hb, iEndsOf w h g hg, Option.bind_some]
        have hb' : bit o g = false := by simpa using hb
        have he := end_tells hg
        obtain ⟨ds, gs, p, q, r⟩ := iWayBetween k (by omega) hm hmc.2.1 he.1 he.2.1
        have hgo : impl_gapsOn.f k w h o (endA w h g) (endB w h g) = some gs := by
          unfold impl_gapsOn.f
          rw [r, Option.bind_some]
          have := iGaps_go ds (by omega) p k [] 0 (by omega) (by omega) rfl (by omega) (by simp; omega)
          simpa using this
        have hgl2 : gs.length = ds.length := by
          have : ∀ {c : Int} {ds gs : List Int}, Wy w h o (rd (dist w h o (endB w h g))) (endB w h g) c ds gs → gs.length = ds.length := fun q => by
            induction q with
            | stop => rfl
            | go _ _ _ _ _ ih => simp [ih]
          exact this p
        show (impl_gapsOn.f k w h o (endA w h g) (endB w h g)).bind _ = _
        rw [hgo, Option.bind_some, iOrdered gs (by omega), Option.bind_some, loopG_way hp hg hb' p]
    · rw [if_neg hg, if_pos trivial]
      exact no fun z => hg z.2.1
  · rw [if_neg hp, if_pos trivial]
    exact no fun z => hp z.1
theorem sLoop_go {w h o a b : Int} (hm : mazeOk w h o = true) : ∀ (n k : Nat) (acc : List Int) (i : Int), 0 ≤ i → i ≤ gaps w h → gaps w h - i = n → n + 160 ≤ k → acc.length + n ≤ 1000 →
    spec_LoopGaps.l0 k acc a b i w h o = some (acc ++ ((List.range n).map fun j : Nat => i + (j : Int)).filter (lgP w h o a b)) := by
  have hmo := mazeOk_ok hm
  have hgr := gaps_range w h
  intro n
  induction n with
  | zero =>
    intro k acc i h0 h1 hd hk ha
    obtain ⟨k, rfl⟩ : ∃ m, k = m + 1 := ⟨k - 1, by omega⟩
    simp only [spec_LoopGaps.l0]
    rw [sCountGaps, Option.bind_some, if_neg (by omega)]
    simp
  | succ n ih =>
    intro k acc i h0 h1 hd hk ha
    obtain ⟨k, rfl⟩ : ∃ m, k = m + 1 := ⟨k - 1, by omega⟩
    have hg : isGap w h i = true := by unfold isGap; exact decide_eq_true ⟨h0, by omega⟩
    simp only [spec_LoopGaps.l0]
    rw [sCountGaps, Option.bind_some, if_pos (by omega), sBit o i (by omega) (by omega) h0 (by omega), Option.bind_some, w64 (by omega) (by omega), range_map, List.filter_cons]
    by_cases hb : bit o i = true
    · rw [if_pos hb, sSetGap k w h o i false (by omega) hm hg, Option.bind_some, sDistanceOf k w h (withO o i false) a b (by omega), Option.bind_some]
      by_cases hd2 : distOf w h (withO o i false) a b < 0
      · rw [if_pos hd2, if_pos (by omega), ih k _ (i + 1) (by omega) (by omega) (by omega) (by omega) (by simp; omega), if_pos (by unfold lgP; rw [hb, decide_eq_true hd2]; rfl)]
        simp
      · rw [if_neg hd2, ih k _ (i + 1) (by omega) (by omega) (by omega) (by omega) (by omega), if_neg (by unfold lgP; rw [decide_eq_false hd2]; simp)]
    · have hb' : bit o i = false := by simpa using hb
      rw [if_neg hb, ih k _ (i + 1) (by omega) (by omega) (by omega) (by omega) (by omega), if_neg (by unfold lgP; rw [hb']; simp)]
theorem gapL_eq (w h : Int) : gapL w h = (List.range (gaps w h).toNat).map fun j : Nat => (0 : Int) + (j : Int) := by
  unfold gapL
  congr 1
  funext j
  omega
theorem sLoopGaps (k : Nat) (w h o g : Int) (hk : 400 ≤ k) : spec_LoopGaps.f k w h o g = some (loopG w h o g) := by
  obtain ⟨k, rfl⟩ : ∃ m, k = m + 1 := ⟨k - 1, by omega⟩
  have no : ¬ (perfect w h o = true ∧ isGap w h g = true ∧ bit o g = false) → some ([] : List Int) = some (loopG w h o g) := fun z => by
    unfold loopG
    rw [if_neg z]
  unfold spec_LoopGaps.f
  rw [Option.bind_some, sPerfect _ w h o (by omega), Option.bind_some]
  simp only [spec_LoopGaps.j0]
  by_cases hp : perfect w h o = true
  · rw [if_pos hp, sCountGaps, Option.bind_some, sIn, gap_test, Option.bind_some]
    by_cases hg : isGap w h g = true
    · have hmc := perfect_parts hp
      have hm := hmc.1
      have hgl := gap_lt hg
      have hgr := gaps_range w h
      have hmo := mazeOk_ok hm
      rw [if_pos hg, sBit o g (by omega) (by omega) hgl.1 (by omega), Option.bind_some]
      by_cases hb : bit o g = true
      · rw [if_pos hb]
        exact no fun z => by rw [hb] at z; cases z.2.2
      · rw [if_neg hb, sEndsOf w h g hg, Option.bind_some]
        have hb' : bit o g = false := by simpa using hb
        show spec_LoopGaps.l0 k [] (endA w h g) (endB w h g) 0 w h o = _
        rw [sLoop_go hm (gaps w h).toNat k [] 0 (by omega) (by omega) (by omega) (by omega) (by simp; omega), ← gapL_eq]
        unfold loopG
        rw [if_pos ⟨hp, hg, hb'⟩]
        simp
    · rw [if_neg hg, if_pos trivial]
      exact no fun z => hg z.2.1
  · rw [if_neg hp, if_pos trivial]
    exact no fun z => hp z.1
theorem loopG_small (w h o g : Int) : (loopG w h o g).length ≤ 24 := by
  have hgr := gaps_range w h
  unfold loopG
  split
  · refine Nat.le_trans (List.length_filter_le _ _) ?_
    unfold gapL
    rw [List.length_map, List.length_range]
    omega
  · simp
theorem loopG_some {w h o g s : Int} (hs : s ∈ loopG w h o g) : perfect w h o = true ∧ isGap w h g = true ∧ bit o g = false := by
  unfold loopG at hs
  split at hs
  · rename_i hh
    exact hh
  · cases hs
/-- A swap along a loop, both sides. -/
theorem swaps {w h o g s : Int} (k : Nat) (hk : 500 ≤ k) (hs : s ∈ loopG w h o g) : impl_SwapGaps.f k w h o g s = some (w, h, withO (withO o g true) s false, true) ∧ spec_SwapGaps.f k w h o g s = some (w, h, withO (withO o g true) s false, true) := by
  obtain ⟨hp, hg, hb⟩ := loopG_some hs
  have hm := (perfect_parts hp).1
  have hsg := ((mem_loopG hp hg hb).1 hs).1
  have hm2 := mazeOk_with true hm hg
  have hmo := mazeOk_ok hm
  have hmo2 := mazeOk_ok hm2
  have hgl := gap_lt hg
  have hsl := gap_lt hsg
  have hgr := gaps_range w h
  have hll := loopG_small w h o g
  constructor
  · unfold impl_SwapGaps.f
    rw [iLoopGaps k w h o g (by omega), Option.bind_some, Contains k _ s (by omega) (by omega), Option.bind_some, if_pos (decide_eq_true hs), iWith w h o g true (by omega) (by omega) hgl.1 (by omega), Option.bind_some]
    show (impl_with.f w h (withO o g true) s false).bind _ = _
    rw [iWith w h (withO o g true) s false hmo2.2.1 hmo2.2.2.2 hsl.1 (by omega), Option.bind_some]
  · unfold spec_SwapGaps.f
    rw [sLoopGaps k w h o g (by omega), Option.bind_some, l07In k _ s (by omega) (by omega), Option.bind_some, if_pos (decide_eq_true hs), sSetGap k w h o g true (by omega) hm hg, Option.bind_some]
    show (spec_SetGap.f k w h (withO o g true) s false).bind _ = _
    rw [sSetGap k w h (withO o g true) s false (by omega) hm2 hsg, Option.bind_some]
/-! Gaps apart. -/
theorem bits_andNotB (a b : Nat) (ha : a < 2 ^ 63) (hb : b < 2 ^ 63) : Go.bits .andNot .i64 (a : Int) (b : Int) = ((a ^^^ (a &&& b) : Nat) : Int) := by
  have e : (BitVec.ofInt 64 (a : Int) &&& ~~~(BitVec.ofInt 64 (b : Int))).toNat = a ^^^ (a &&& b) := by
    apply Nat.eq_of_testBit_eq
    intro i
    rw [← BitVec.getLsbD, BitVec.getLsbD_and, BitVec.getLsbD_not, getLsbD_ofInt_nat, getLsbD_ofInt_nat, Nat.testBit_xor, Nat.testBit_and]
    by_cases hi : i < 64
    · cases a.testBit i <;> cases b.testBit i <;> simp [hi]
    · simp [hi, bit_ge ha (show 63 ≤ i by omega)]
  show IntKind.i64.wrap ((BitVec.ofInt 64 (a : Int) &&& ~~~(BitVec.ofInt 64 (b : Int))).toNat : Int) = _
  rw [e]
  exact wrap_nat (Nat.lt_of_lt_of_le (Nat.xor_lt_two_pow ha (Nat.lt_of_le_of_lt Nat.and_le_left ha)) (by decide))
/-- The open gaps of one that are shut in the other. -/
def less (a b : Int) : Nat := a.toNat ^^^ (a.toNat &&& b.toNat)
theorem less_bit (a b : Int) (i : Nat) : (less a b).testBit i = (a.toNat.testBit i && !b.toNat.testBit i) := by
  unfold less
  rw [Nat.testBit_xor, Nat.testBit_and]
  cases a.toNat.testBit i <;> cases b.toNat.testBit i <;> rfl
theorem less_calc {w h w' h' a b : Int} (ha : mazeOk w h a = true) (hb : mazeOk w' h' b = true) : Go.bits .andNot .i64 a b = (less a b : Int) := by
  have h1 := mazeOk_ok ha
  have h2 := mazeOk_ok hb
  have := bits_andNotB a.toNat b.toNat (by omega) (by omega)
  rwa [show ((a.toNat : Nat) : Int) = a by omega, show ((b.toNat : Nat) : Int) = b by omega] at this
theorem less_lt {w h a b : Int} (ha : mazeOk w h a = true) : less a b < 2 ^ (gaps w h).toNat ∧ less a b < 16777216 := by
  have h1 := mazeOk_ok ha
  have hl := mazeOk_lt ha
  have e : less a b ≤ a.toNat := by
    have : subB (less a b) a.toNat = true := subB_iff.2 fun i hi => by rw [less_bit, Bool.and_eq_true] at hi; exact hi.1
    exact subB_le this
  omega
open Classical in
noncomputable def apartG (w h a w' h' b : Int) : Int := if perfect w h a = true ∧ perfect w' h' b = true ∧ w = w' ∧ h = h' then (popN 24 (less a b) : Int) else -1
theorem apart_test (w h w' h' : Int) : ((!(w == w') || (!(h == h'))) = true) ↔ ¬ (w = w' ∧ h = h') := by
  by_cases a : w = w' <;> by_cases b : h = h' <;> simp [a, b]
theorem iApart (k : Nat) (w h a w' h' b : Int) (hk : 300 ≤ k) : impl_GapsApart.f k w h a w' h' b = some (apartG w h a w' h' b) := by
  have no : ¬ (perfect w h a = true ∧ perfect w' h' b = true ∧ w = w' ∧ h = h') → some (-1 : Int) = some (apartG w h a w' h' b) := fun z => by
    unfold apartG
    rw [if_neg z]
  unfold impl_GapsApart.f
  rw [iPerfect k w h a (by omega), Option.bind_some]
  by_cases hp : perfect w h a = true
  · rw [if_pos hp, iPerfect k w' h' b (by omega), Option.bind_some]
    by_cases hq : perfect w' h' b = true
    · rw [if_pos hq]
      by_cases hs : w = w' ∧ h = h'
      · have hl := less_lt (b := b) (perfect_parts hp).1
        rw [if_neg (fun z => (apart_test w h w' h').1 z hs), less_calc (perfect_parts hp).1 (perfect_parts hq).1, onesCount _ (by omega) (by omega), Option.bind_some]
        unfold apartG
        rw [if_pos ⟨hp, hq, hs⟩, Int.toNat_natCast]
      · rw [if_pos ((apart_test w h w' h').2 hs)]
        exact no fun z => hs z.2.2
    · rw [if_neg hq]
      exact no fun z => hq z.2.1
  · rw [if_neg hp]
    exact no fun z => hp z.1
theorem sApart_go {w h a b w' h' : Int} (ha : mazeOk w h a = true) (hb : mazeOk w' h' b = true) : ∀ (n k i : Nat), i ≤ (gaps w h).toNat → (gaps w h).toNat - i = n → n + 3 ≤ k →
    spec_GapsApart.l0 k (popN i (less a b) : Int) (i : Int) w h a w' h' b = some (popN (gaps w h).toNat (less a b) : Int) := by
  have h1 := mazeOk_ok ha
  have h2 := mazeOk_ok hb
  have hgr := gaps_range w h
  intro n
  induction n with
  | zero =>
    intro k i hi hd hk
    obtain ⟨k, rfl⟩ : ∃ m, k = m + 1 := ⟨k - 1, by omega⟩
    simp only [spec_GapsApart.l0]
    rw [sCountGaps, Option.bind_some, if_neg (by omega), show i = (gaps w h).toNat by omega]
  | succ n ih =>
    intro k i hi hd hk
    obtain ⟨k, rfl⟩ : ∃ m, k = m + 1 := ⟨k - 1, by omega⟩
    have hpl := popN_le i (less a b)
    have hsu := popN_succ i (less a b)
    rw [less_bit] at hsu
    have eA : bit a (i : Int) = a.toNat.testBit i := by unfold bit; rw [Int.toNat_natCast]
    have eB : bit b (i : Int) = b.toNat.testBit i := by unfold bit; rw [Int.toNat_natCast]
    have hih := ih k (i + 1) (by omega) (by omega) (by omega)
    simp only [spec_GapsApart.l0]
    rw [sCountGaps, Option.bind_some, if_pos (by omega), sBit a i (by omega) (by omega) (by omega) (by omega), Option.bind_some, w64 (x := (i : Int) + 1) (by omega) (by omega), show (i : Int) + 1 = ((i + 1 : Nat) : Int) by omega, eA]
    by_cases p : a.toNat.testBit i = true
    · rw [if_pos p, sBit b i (by omega) (by omega) (by omega) (by omega), Option.bind_some, eB]
      by_cases q : b.toNat.testBit i = true
      · rw [if_pos q, ← hih, hsu, p, q]
        simp
      · have q' : b.toNat.testBit i = false := by simpa using q
        rw [if_neg q, w64 (by omega) (by omega), ← hih, hsu, p, q']
        simp
    · have p' : a.toNat.testBit i = false := by simpa using p
      rw [if_neg p, ← hih, hsu, p']
      simp
theorem sGApart (k : Nat) (w h a w' h' b : Int) (hk : 300 ≤ k) : spec_GapsApart.f k w h a w' h' b = some (apartG w h a w' h' b) := by
  obtain ⟨k, rfl⟩ : ∃ m, k = m + 1 := ⟨k - 1, by omega⟩
  have hgr := gaps_range w h
  have no : ¬ (perfect w h a = true ∧ perfect w' h' b = true ∧ w = w' ∧ h = h') → some (-1 : Int) = some (apartG w h a w' h' b) := fun z => by
    unfold apartG
    rw [if_neg z]
  unfold spec_GapsApart.f
  simp only [spec_GapsApart.j0]
  rw [sPerfect _ w h a (by omega), Option.bind_some]
  by_cases hp : perfect w h a = true
  · rw [if_pos hp, sPerfect _ w' h' b (by omega), Option.bind_some]
    by_cases hq : perfect w' h' b = true
    · rw [if_pos hq]
      by_cases hs : w = w' ∧ h = h'
      · have hl := less_lt (b := b) (perfect_parts hp).1
        rw [if_neg (fun z => (apart_test w h w' h').1 z hs)]
        have := sApart_go (perfect_parts hp).1 (perfect_parts hq).1 (gaps w h).toNat k 0 (by omega) (by omega) (by omega)
        rw [show popN 0 (less a b) = 0 from rfl] at this
        refine this.trans ?_
        unfold apartG
        rw [if_pos ⟨hp, hq, hs⟩, popN_big hl.1 24 (by omega)]
      · rw [if_pos ((apart_test w h w' h').2 hs)]
        exact no fun z => hs z.2.2
    · rw [if_neg hq, if_pos trivial]
      exact no fun z => hq z.2.1
  · rw [if_neg hp, if_pos trivial]
    exact no fun z => hp z.1
end Go.Proofs.YtbdodiaedocmjaaDoor.L
