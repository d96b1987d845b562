/- P30: hedges only close what was open, growth adds up, and a cut passage is open again. For every text of bytes that the statement speaks of. -/
import Derived.Test.YtgfhpjnofmbcoaaXcsmall
import Derived.Test.YtgfhpjnofmbcoaaXlawsFnHedges
import Derived.Test.YtgfhpjnofmbcoaaXspecDrawHedge
import Derived.Test.YtgfhpjnofmbcoaaXspecl30Hedge
import Derived.Test.YtgfhpjnofmbcoaaLDrawMaze
import Derived.Test.YtgfhpjnofmbcoaaLDays
import Derived.Test.YtgfhpjnofmbcoaaLNext
import Derived.Test.YtgfhpjnofmbcoaaLPop
namespace Go.Proofs.Ytgfhpjnofmbcoaa.Pure
open Go.RowKit Go.Proofs.Ytgfhpjnofmbcoaa.X Go.Proofs.Ytgfhpjnofmbcoaa.L Go.Proofs.YtgfhpjnofmbcoaaW.PrintWords Go.Proofs.YtgfhpjnofmbcoaaW.PrintLast
set_option linter.unusedSimpArgs false
set_option linter.unusedVariables false

theorem at_ok (l : List Int) (hl : l.length ≤ 2000000) (hx : ∀ x ∈ l, (Lit.int .u8 x).wf = true) (j : Int) (hj : 0 ≤ j ∧ j ≤ 1) : ∃ v, laws_at.f l j = some v ∧ 0 ≤ v := by
  unfold laws_at.f
  by_cases c : (l.length : Int) = 0
  · rw [if_pos c]
    exact ⟨_, rfl, Int.le_refl _⟩
  · rw [if_neg c, w64 (x := j * 5) (by omega) (by omega), w64 (x := j * 5 + 1) (by omega) (by omega)]
    have e : Int.tmod (j * 5 + 1) (l.length : Int) = (j * 5 + 1) % (l.length : Int) := by
      rw [Int.tmod_eq_emod_of_nonneg (by omega)]
    have h0 : 0 ≤ (j * 5 + 1) % (l.length : Int) := Int.emod_nonneg _ c
    have h1 : (j * 5 + 1) % (l.length : Int) < (l.length : Int) := Int.emod_lt_of_pos _ (by omega)
    rw [e, if_pos h0, if_pos h1]
    have hb := hx _ (rd_memL h0 h1)
    have hb1 : IntKind.u8.min ≤ rd l ((j * 5 + 1) % (l.length : Int)) ∧ rd l ((j * 5 + 1) % (l.length : Int)) ≤ IntKind.u8.max := by simpa [Lit.wf] using hb
    have e0 : IntKind.u8.min = 0 := by decide
    have e1 : IntKind.u8.max = 255 := by decide
    rw [e0, e1] at hb1
    have hb2 : 0 ≤ rd l ((j * 5 + 1) % (l.length : Int)) ∧ rd l ((j * 5 + 1) % (l.length : Int)) ≤ 255 := hb1
    refine ⟨_, rfl, ?_⟩
    rw [w64 (by omega) (by omega)]
    exact hb2.1
theorem same_go (l : List Int) (hl : l.length ≤ 100) : ∀ (d k : Nat) (i : Int), 0 ≤ i → (l.length : Int) - i ≤ d → d < k → laws_sameInts.l0 k l l i = some true := by
  intro d
  induction d with
  | zero =>
    intro k i h0 h1 hk
    obtain ⟨k, rfl⟩ := kpos hk
    unfold laws_sameInts.l0
    rw [if_neg (by omega)]
  | succ d ih =>
    intro k i h0 h1 hk
    obtain ⟨k, rfl⟩ := kpos hk
    unfold laws_sameInts.l0
    by_cases c : i < (l.length : Int)
    · rw [if_pos c, if_pos h0, if_pos c, if_pos rfl, w64 (by omega) (by omega)]
      exact ih k (i + 1) (by omega) (by omega) (by omega)
    · rw [if_neg c]
theorem same (k : Nat) (l : List Int) (hl : l.length ≤ 100) (hk : l.length < k) : laws_sameInts.f k l l = some true := by
  unfold laws_sameInts.f
  rw [if_pos rfl]
  exact same_go l hl l.length k 0 (by omega) (by omega) hk
/-- The drawn hedge. -/
theorem draw_go (s : List Int) (hs : s.length ≤ 140737488355328) (w h o lim : Int) : ∀ (d k : Nat) (i ix hx : Int) (g : List Int), 0 ≤ i → (g.length : Int) = i → gaps w h - i = d → d < k → (∀ n ∈ g, 0 ≤ n ∧ n ≤ 1000) → 0 ≤ ix → ix ≤ (s.length : Int) →
    ∃ g' i' h', spec_l30Hedge.l0 k i s ix hx w h o w h o g lim = some (w, h, o, g', lim, i', h') ∧ (g'.length : Int) = gaps w h ∧ ∀ n ∈ g', 0 ≤ n ∧ n ≤ 1000 := by
  have hr := gaps_range w h
  intro d
  induction d with
  | zero =>
    intro k i ix hx g h0 hl hd hk hg a b
    obtain ⟨k, rfl⟩ := kpos hk
    rw [spec_l30Hedge.l0, sCountGaps]
    simp only [Option.bind_some]
    rw [if_neg (by omega)]
    exact ⟨_, _, _, rfl, by omega, hg⟩
  | succ d ih =>
    intro k i ix hx g h0 hl hd hk hg a b
    obtain ⟨k, rfl⟩ := kpos hk
    obtain ⟨v, i1, g1, e1, a1, b1, c1, d1⟩ := below_ok s ix hx 12 a b hs (by omega) (by omega)
    rw [spec_l30Hedge.l0, sCountGaps]
    simp only [Option.bind_some]
    rw [if_pos (by omega), e1]
    simp only [Option.bind_some]
    rw [if_pos (by omega), w64 (by omega) (by omega)]
    refine ih k (i + 1) i1 g1 (g ++ [v]) (by omega) (by simp; omega) (by omega) (by omega) ?_ c1 d1
    intro n hn
    rcases List.mem_append.1 hn with z | z
    · exact hg n z
    · rw [List.mem_singleton.1 z]
      omega
theorem draw_hedge (k : Nat) (s : List Int) (hs : s.length ≤ 140737488355328) (hk : 4001 < k) : ∃ w h o g lim, spec_DrawHedge.f k s = some (w, h, o, g, lim) ∧ hedgeOk w h o g lim = true := by
  obtain ⟨x, e⟩ := new_ok k s hk
  obtain ⟨w, h, o, i1, g1, e1, hm, a1, b1⟩ := draw_maze s hs k (by omega) 0 x (by omega) (by omega)
  obtain ⟨v, i2, g2, e2, a2, b2, c2, d2⟩ := below_ok s i1 g1 20 a1 b1 hs (by omega) (by omega)
  have hr := gaps_range w h
  obtain ⟨g, i3, g3, e3, hl, hg⟩ := draw_go s hs w h o (1 + v) (gaps w h).toNat k 0 i2 g2 [] (by omega) rfl (by omega) (by omega) (fun n hn => by cases hn) c2 d2
  refine ⟨w, h, o, g, 1 + v, ?_, ?_⟩
  · unfold spec_DrawHedge.f
    rw [e]
    simp only [Option.bind_some]
    unfold spec_l30Hedge.f
    rw [e1]
    simp only [Option.bind_some]
    rw [e2]
    simp only [Option.bind_some]
    rw [w64 (by omega) (by omega), e3]
    rfl
  · unfold hedgeOk
    simp only [Bool.and_eq_true, decide_eq_true_eq, List.all_eq_true]
    exact ⟨hm, ⟨by omega, by omega⟩, hl, hg⟩
/-- What is open. -/
theorem bit_openGo (lim : Int) : ∀ (r : List Int) (i o : Int), 0 ≤ i → ∀ j, 0 ≤ j → (bit (openGo lim r i o) j = true ↔ bit o j = true ∧ ∀ n : Nat, (hn : n < r.length) → i + n = j → r[n] < lim) := by
  intro r
  induction r with
  | nil =>
    intro i o h0 j hj
    unfold openGo
    simp
  | cons x r ih =>
    intro i o h0 j hj
    unfold openGo
    rw [ih (i + 1) _ (by omega) j hj]
    constructor
    · rintro ⟨a, b⟩
      by_cases c : x ≥ lim
      · rw [if_pos c, bit_withO _ _ _ _ h0 hj] at a
        by_cases e : i = j
        · rw [if_pos e] at a
          cases a
        · rw [if_neg e] at a
          refine ⟨a, fun n hn hz => ?_⟩
          cases n with
          | zero => omega
          | succ n => exact b n (by simpa using hn) (by omega)
      · rw [if_neg c] at a
        refine ⟨a, fun n hn hz => ?_⟩
        cases n with
        | zero => show x < lim; omega
        | succ n => exact b n (by simpa using hn) (by omega)
    · rintro ⟨a, b⟩
      refine ⟨?_, fun n hn hz => b (n + 1) (by simpa using hn) (by omega)⟩
      by_cases c : x ≥ lim
      · rw [if_pos c, bit_withO _ _ _ _ h0 hj]
        by_cases e : i = j
        · have := b 0 (by simp) (by omega)
          have : x < lim := this
          omega
        · rw [if_neg e]
          exact a
      · rw [if_neg c]
        exact a
theorem andNot_zero {x y : Int} (hx : 0 ≤ x ∧ x < 16777216) (hy : 0 ≤ y ∧ y < 16777216) (h : ∀ j, 0 ≤ j → bit x j = true → bit y j = true) : Go.bits .andNot .i64 x y = 0 := by
  obtain ⟨a, rfl⟩ := Int.eq_ofNat_of_zero_le hx.1
  obtain ⟨b, rfl⟩ := Int.eq_ofNat_of_zero_le hy.1
  have e : (BitVec.ofInt 64 (a : Int) &&& ~~~(BitVec.ofInt 64 (b : Int))).toNat = 0 := by
    apply Nat.eq_of_testBit_eq
    intro i
    rw [← BitVec.getLsbD, BitVec.getLsbD_and, BitVec.getLsbD_not, getLsbD_ofInt_nat, getLsbD_ofInt_nat, Nat.zero_testBit]
    have := h (i : Int) (by omega)
    unfold bit at this
    simp only [Int.toNat_natCast] at this
    cases ea : a.testBit i
    · simp
    · rw [this ea]
      by_cases hi : i < 64 <;> simp [hi]
  show IntKind.i64.wrap ((BitVec.ofInt 64 (a : Int) &&& ~~~(BitVec.ofInt 64 (b : Int))).toNat : Int) = _
  rw [e]
  decide
theorem grown_sum (a b x : Int) (ha : 0 ≤ a) (hb : 0 ≤ b) : grown b (grown a x) = grown (a + b) x := by
  unfold grown
  split <;> split <;> (try split) <;> omega
theorem next_spec (o : Int) (g : List Int) : ∀ (r : List Int) (i b : Int), 0 ≤ i → (b < 0 ∨ (0 ≤ b ∧ b < i ∧ bit o b = true)) →
    (nextGo o g r i b < 0 ∧ b < 0 ∧ ∀ j, i ≤ j → j < i + r.length → bit o j = false) ∨ (0 ≤ nextGo o g r i b ∧ nextGo o g r i b < i + r.length ∧ bit o (nextGo o g r i b) = true) := by
  intro r
  induction r with
  | nil =>
    intro i b h0 hb
    unfold nextGo
    rcases hb with z | z
    · exact .inl ⟨z, z, fun j h1 h2 => by simp at h2; omega⟩
    · exact .inr ⟨z.1, by simp; omega, z.2.2⟩
  | cons x r ih =>
    intro i b h0 hb
    unfold nextGo
    rw [List.length_cons]
    by_cases c : bit o i = true ∧ (b < 0 ∨ x > rd g b)
    · rw [if_pos c]
      rcases ih (i + 1) i (by omega) (.inr ⟨h0, by omega, c.1⟩) with ⟨_, z, _⟩ | ⟨z1, z2, z3⟩
      · omega
      · exact .inr ⟨z1, by omega, z3⟩
    · rw [if_neg c]
      rcases ih (i + 1) b (by omega) (by rcases hb with z | z; exact .inl z; exact .inr ⟨z.1, by omega, z.2.2⟩) with ⟨z1, z2, z3⟩ | ⟨z1, z2, z3⟩
      · refine .inl ⟨z1, z2, fun j h1 h2 => ?_⟩
        by_cases e : j = i
        · subst e
          cases hbit : bit o j
          · rfl
          · exact absurd ⟨hbit, .inl z2⟩ c
        · exact z3 j (by omega) (by omega)
      · exact .inr ⟨z1, by omega, z3⟩
theorem rch_none {w h o a y : Int} (hb : ∀ g, isGap w h g = true → bit o g = false) (r : Rch w h o a y) : y = a := by
  induction r with
  | refl => rfl
  | step _ t0 t3 hs _ =>
    obtain ⟨g, hg, hbit, _⟩ := step_adj t0 t3 hs
    rw [hb g hg] at hbit
    cases hbit
theorem parts_none {w h o : Int} (hm : mazeOk w h o = true) (hb : ∀ g, isGap w h g = true → bit o g = false) : parts w h o = (cells w h).toNat := by
  unfold parts
  rw [List.filter_eq_self.2 fun c hc => ?_, List.length_range]
  rw [rep_iff (has_of hm (cell_nat (List.mem_range.1 hc)))]
  intro y r
  rw [rch_none hb r]
  omega
theorem two_cells {w h : Int} (hg : gridOk w h = true) (h1 : 1 ≤ gaps w h) : 2 ≤ cells w h := by
  unfold gaps at h1
  unfold cells
  rw [if_pos hg] at h1 ⊢
  obtain ⟨hw | hw | hw | hw, hh | hh | hh | hh⟩ := grid_cases hg <;> subst hw <;> subst hh <;> omega
theorem conn_shut {w h o : Int} (hm : mazeOk w h o = true) (h1 : 1 ≤ gaps w h) (hb : ∀ g, isGap w h g = true → bit o g = false) : conn w h o = false := by
  have h2 := two_cells (mazeOk_ok hm).1 h1
  unfold conn countParts
  rw [if_pos hm, parts_none hm hb]
  simp only [beq_eq_false_iff_ne, ne_eq]
  omega
theorem gap_parts {w h g : Int} (hg : isGap w h g = true) : 0 ≤ g ∧ g < gaps w h := by
  unfold isGap at hg
  exact of_decide_eq_true hg
theorem all_shut {w h o lim : Int} {g : List Int} (hh : hedgeOk w h o g lim = true) (h1 : 1 ≤ gaps w h) (ha : ∀ x ∈ g, lim ≤ x) : connNow w h o g lim = false := by
  obtain ⟨a1, a2, a3, a4, a5⟩ := hedgeOk_parts hh
  unfold connNow
  refine conn_shut (openGo_ok w h lim g 0 o (by omega) (by omega) a1) h1 fun j hj => ?_
  obtain ⟨j0, j1⟩ := gap_parts hj
  cases z : bit (openGo lim g 0 o) j
  · rfl
  · have := ((bit_openGo lim g 0 o (by omega) j j0).1 z).2 j.toNat (by omega) (by omega)
    have h2 := ha _ (List.getElem_mem (l := g) (n := j.toNat) (by omega))
    omega
theorem days_le (w h o lim a : Int) (h0 : 1 ≤ a) (h1 : a ≤ 20) (hgp : 1 ≤ gaps w h) : ∀ (k m : Nat) (g : List Int) (n : Int), hedgeOk w h o g lim = true → (∀ x ∈ g, lim - m ≤ x) → n ≤ days w h o lim a k g n ∧ days w h o lim a k g n ≤ n + m := by
  intro k
  induction k with
  | zero =>
    intro m g n hh hg
    unfold days
    omega
  | succ k ih =>
    intro m g n hh hg
    have hh' := hedge_grown (a := a) hh (by omega) h1
    obtain ⟨a1, a2, a3, a4, a5⟩ := hedgeOk_parts hh
    unfold days
    split
    · next c =>
      cases m with
      | zero =>
        rw [all_shut hh' hgp fun x hx => ?_] at c
        · cases c
        · obtain ⟨y, hy, rfl⟩ := List.mem_map.1 hx
          have := hg y hy
          unfold grown
          split <;> omega
      | succ m =>
        have := ih m (g.map (grown a)) (n + 1) hh' fun x hx => by
          obtain ⟨y, hy, rfl⟩ := List.mem_map.1 hx
          have := hg y hy
          unfold grown
          split <;> omega
        omega
    · omega
theorem days_ge (w h o lim a : Int) : ∀ (k : Nat) (g : List Int) (n : Int), n ≤ days w h o lim a k g n := by
  intro k
  induction k with
  | zero => intro g n; unfold days; omega
  | succ k ih =>
    intro g n
    unfold days
    split
    · have := ih (g.map (grown a)) (n + 1)
      omega
    · omega
theorem pop_zero {n x : Nat} : popN n x = 0 ↔ ∀ i, i < n → x.testBit i = false := by
  unfold popN
  rw [List.length_eq_zero_iff, List.filter_eq_nil_iff]
  constructor
  · intro h i hi
    have := h i (List.mem_range.2 hi)
    simpa using this
  · intro h i hi
    rw [h i (List.mem_range.1 hi)]
    simp
theorem last_part (w h o : Int) (g gy : List Int) (lim b x : Int) (hh : hedgeOk w h o g lim = true) (hy : hedgeOk w h o gy lim = true) (hb : 0 ≤ b ∧ b ≤ 9) (hx : x < 0 ∨ (isGap w h x = true ∧ bit o x = true)) (k : Nat) (hk : 1000 ≤ k) :
    laws_FnHedges.j0 (k + 1) b x false w h o g lim w h o gy lim w h (openGo lim g 0 o) = some true := by
  obtain ⟨a1, a2, a3, a4, a5⟩ := hedgeOk_parts hh
  obtain ⟨c1, c2, c3, c4, c5⟩ := hedgeOk_parts hy
  have hr := gaps_range w h
  have hd : daysOpen w h o g lim (1 + b) = if connNow w h o g lim = true then days w h o lim (1 + b) 100 g 0 else 0 := by
    unfold daysOpen
    rw [if_pos ⟨hh, by omega, by omega⟩]
  have hge : 0 ≤ daysOpen w h o g lim (1 + b) := by
    rw [hd]
    split
    · exact days_ge w h o lim (1 + b) 100 g 0
    · omega
  rw [laws_FnHedges.j0, if_neg (by simp), w64 (by omega) (by omega), iDaysOpen k w h o g lim (1 + b) (by omega)]
  simp only [Option.bind_some]
  by_cases hx0 : x < 0
  · rw [if_pos hx0, decide_eq_true hge]
  · rcases hx with z | ⟨hgx, hbx⟩
    · exact absurd z hx0
    obtain ⟨x0, x1⟩ := gap_parts hgx
    have hle : daysOpen w h o g lim (1 + b) ≤ 20 := by
      rw [hd]
      split
      · have := (days_le w h o lim (1 + b) (by omega) (by omega) (by omega) 100 20 g 0 hh fun y hy => by have := a5 y hy; omega).2
        omega
      · omega
    have hc : cutHedge w h o gy lim x = (w, h, o, gy.set x.toNat 0, lim, true) := by
      unfold cutHedge
      rw [if_pos ⟨hy, hgx⟩]
    have hset : hedgeOk w h o (gy.set x.toNat 0) lim = true := by
      unfold hedgeOk
      simp only [Bool.and_eq_true, decide_eq_true_eq, List.length_set, List.all_eq_true]
      refine ⟨c1, ⟨c2, c3⟩, c4, fun n hn => ?_⟩
      rcases List.mem_or_eq_of_mem_set hn with z | z
      · exact c5 n z
      · omega
    rw [if_neg hx0, iCutHedge w h o gy lim x (by omega), hc]
    simp only [Option.bind_some]
    rw [if_pos trivial, iOpenNow k w h o _ lim (by rw [List.length_set]; omega), openNow_ok hset]
    simp only [Option.bind_some]
    rw [iIsPassage]
    simp only [Option.bind_some]
    have hm2 : mazeOk w h (openGo lim (gy.set x.toNat 0) 0 o) = true := openGo_ok w h lim _ 0 o (by omega) (by rw [List.length_set]; omega) c1
    have hb2 : bit (openGo lim (gy.set x.toNat 0) 0 o) x = true := by
      refine (bit_openGo lim _ 0 o (by omega) x x0).2 ⟨hbx, fun n hn hz => ?_⟩
      have : n = x.toNat := by omega
      subst this
      rw [List.getElem_set_self]
      omega
    rw [hm2, hgx, hb2, if_pos (by simp), if_pos hge, if_pos hle]
    by_cases hn : daysOpen w h o g lim (1 + b) = 0
    · rw [if_pos hn]
    · rw [if_neg hn, sConn k _ _ _ (by omega)]
      simp only [Option.bind_some]
      have : connNow w h o g lim = true := by
        rw [hd] at hn
        cases z : connNow w h o g lim
        · rw [z, if_neg (by simp)] at hn
          exact absurd rfl hn
        · rfl
      unfold connNow at this
      rw [this]
theorem FnHedges : laws_FnHedges.Pure := by
  intro s _ _ hx
  refine ⟨5000, ?_⟩
  unfold laws_FnHedges.f laws_big.f
  simp only [Option.bind_some]
  by_cases hb : (s.length : Int) > 1048576
  · rw [decide_eq_true hb, if_pos rfl]
  · rw [decide_eq_false hb, if_neg (by simp)]
    obtain ⟨w, h, o, g, lim, e, hh⟩ := draw_hedge 5000 s (by omega) (by omega)
    obtain ⟨va, ea, hva⟩ := at_ok s (by omega) hx 0 (by omega)
    obtain ⟨vb, eb, hvb⟩ := at_ok s (by omega) hx 1 (by omega)
    obtain ⟨a1, a2, a3, a4, a5⟩ := hedgeOk_parts hh
    have hr := gaps_range w h
    have hA : 0 ≤ Int.tmod va 11 ∧ Int.tmod va 11 ≤ 10 := by
      rw [tmod_nn hva]
      omega
    have hB : 0 ≤ Int.tmod vb 10 ∧ Int.tmod vb 10 ≤ 9 := by
      rw [tmod_nn hvb]
      omega
    rw [e]
    simp only [Option.bind_some]
    rw [ea]
    simp only [Option.bind_some]
    rw [eb]
    simp only [Option.bind_some]
    generalize Int.tmod va 11 = a at hA ⊢
    generalize Int.tmod vb 10 = b at hB ⊢
    have h1 := hedge_grown (a := a) hh hA.1 (by omega)
    have h2 := hedge_grown (a := b) h1 hB.1 (by omega)
    rw [iGrowHedge 5000 w h o g lim a (by omega) (by omega), growHedge_ok hh hA.1 (by omega)]
    simp only [Option.bind_some]
    rw [iGrowHedge 5000 w h o _ lim b (by rw [List.length_map]; omega) (by rw [List.length_map]; omega), growHedge_ok h1 hB.1 (by omega)]
    simp only [Option.bind_some]
    rw [w64 (x := a + b) (by omega) (by omega), iGrowHedge 5000 w h o g lim (a + b) (by omega) (by omega), growHedge_ok hh (by omega) (by omega)]
    simp only [Option.bind_some]
    rw [iOpenNow 5000 w h o g lim (by omega), openNow_ok hh]
    simp only [Option.bind_some]
    rw [iNextToCut 5000 w h o g lim (by omega)]
    simp only [Option.bind_some]
    rw [if_pos trivial, if_pos trivial, if_pos trivial]
    have esame : (g.map (grown a)).map (grown b) = g.map (grown (a + b)) := by
      rw [List.map_map]
      exact List.map_congr_left fun x _ => grown_sum a b x hA.1 hB.1
    rw [esame] at h2
    rw [esame, same 5000 _ (by rw [List.length_map]; omega) (by rw [List.length_map]; omega)]
    simp only [Option.bind_some]
    have m1 : mazeOk w h (openGo lim g 0 o) = true := openGo_ok w h lim g 0 o (by omega) (by omega) a1
    have m2 : mazeOk w h (openGo lim (g.map (grown (a + b))) 0 o) = true := openGo_ok w h lim _ 0 o (by omega) (by rw [List.length_map]; omega) a1
    have n0 := mazeOk_ok a1
    have n1 := mazeOk_ok m1
    have n2 := mazeOk_ok m2
    rw [if_pos trivial, if_pos (andNot_zero ⟨n1.2.1, n1.2.2.2⟩ ⟨n0.2.1, n0.2.2.2⟩ fun j hj z => ((bit_openGo lim g 0 o (by omega) j hj).1 z).1)]
    rw [iOpenNow 5000 w h o _ lim (by rw [List.length_map]; omega), openNow_ok h2]
    simp only [Option.bind_some]
    rw [if_pos (andNot_zero ⟨n2.2.1, n2.2.2.2⟩ ⟨n1.2.1, n1.2.2.2⟩ fun j hj z => ?_)]
    · rw [sPassages 5000 w h o (by omega)]
      simp only [Option.bind_some]
      have hnext : nextToCut w h o g lim = nextGo o g g 0 (-1) := by
        unfold nextToCut
        rw [if_pos hh]
      have hp : passages w h o = (popN (gaps w h).toNat o.toNat : Int) := by
        unfold passages
        rw [if_pos a1, popN_gaps a1]
      rw [hnext]
      rcases next_spec o g g 0 (-1) (by omega) (.inl (by omega)) with ⟨z1, _, z3⟩ | ⟨z1, z2, z3⟩
      · have : popN (gaps w h).toNat o.toNat = 0 := pop_zero.2 fun i hi => by
          have := z3 (i : Int) (by omega) (by omega)
          unfold bit at this
          simpa using this
        rw [hp, this, decide_eq_true z1]
        exact last_part w h o g _ lim b _ hh h2 hB (.inl z1) 4999 (by omega)
      · have hne : ¬ popN (gaps w h).toNat o.toNat = 0 := fun z => by
          have := pop_zero.1 z (nextGo o g g 0 (-1)).toNat (by omega)
          unfold bit at z3
          rw [this] at z3
          cases z3
        have e1 : (passages w h o == 0) = false := by
          rw [hp]
          simp only [beq_eq_false_iff_ne, ne_eq]
          omega
        rw [e1, decide_eq_false (by omega)]
        exact last_part w h o g _ lim b _ hh h2 hB (.inr ⟨gap_of (n := g.length) z1 (by omega) a4, z3⟩) 4999 (by omega)
    · obtain ⟨y1, y2⟩ := (bit_openGo lim _ 0 o (by omega) j hj).1 z
      refine (bit_openGo lim g 0 o (by omega) j hj).2 ⟨y1, fun n hn hz => ?_⟩
      have := y2 n (by rw [List.length_map]; exact hn) hz
      rw [List.getElem_map] at this
      have h3 := a5 _ (List.getElem_mem hn)
      unfold grown at this
      split at this <;> omega
end Go.Proofs.Ytgfhpjnofmbcoaa.Pure
