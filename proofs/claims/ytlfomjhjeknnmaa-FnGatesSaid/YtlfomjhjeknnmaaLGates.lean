/- Where a visitor can be, moment by moment, in a maze with gates. -/
import Derived.Test.YtlfomjhjeknnmaaXimplEarliestAt
import Derived.Test.YtlfomjhjeknnmaaLMoment
import Derived.Test.YtlfomjhjeknnmaaLShort
namespace Go.Proofs.Ytlfomjhjeknnmaa.L
open Go.RowKit Go.Proofs.Ytlfomjhjeknnmaa.X Go.Proofs.YtlfomjhjeknnmaaW.PrintWords Go.Proofs.YtlfomjhjeknnmaaW.PrintLast Go.Proofs.YtlfomjhjeknnmaaW.PrintMore
set_option linter.unusedSimpArgs false
set_option linter.unusedVariables false

/-- The maze at a moment. -/
def mzT (o p : Int) (l : List Gt) (t : Int) : Int := shutGo (t % p) l o
/-- Where one can be after k moments. -/
def Rs (w h o p : Int) (l : List Gt) (a q : Int) : Nat → Int → Prop
  | 0, x => x = a
  | k + 1, x => Rs w h o p l a q k x ∨ ∃ c t, Rs w h o p l a q k c ∧ 0 ≤ t ∧ t ≤ 3 ∧ 0 ≤ step w h (mzT o p l (q + k)) c t ∧ step w h (mzT o p l (q + k)) c t = x
section
variable {w h o p : Int} {l : List Gt} {a q : Int}
theorem Rs.cell (ha : isCell w h a = true) : ∀ (k : Nat) (x : Int), Rs w h o p l a q k x → isCell w h x = true
  | 0, x, z => by rw [show x = a from z]; exact ha
  | k + 1, x, z => by
    rcases z with z | ⟨c, t, _, _, _, hs, e⟩
    · exact Rs.cell ha k x z
    · rw [← e]; exact step_cell hs
theorem Rs.keep {k : Nat} {x : Int} (z : Rs w h o p l a q k x) : ∀ j : Nat, Rs w h o p l a q (k + j) x
  | 0 => z
  | j + 1 => .inl (Rs.keep z j)
theorem Rs.le {k m : Nat} {x : Int} (z : Rs w h o p l a q k x) (hm : k ≤ m) : Rs w h o p l a q m x := by
  have := z.keep (m - k)
  rwa [show k + (m - k) = m by omega] at this
/-- Nothing came for a whole period: nothing comes any more. -/
theorem Rs.still {k : Nat} (hp : 1 ≤ p) (hs : ∀ j : Nat, (j : Int) < p → ∀ x, Rs w h o p l a q (k + j + 1) x → Rs w h o p l a q (k + j) x) : ∀ (m : Nat) (x : Int), Rs w h o p l a q (k + m) x → Rs w h o p l a q k x := by
  have base : ∀ j : Nat, (j : Int) ≤ p → ∀ x, Rs w h o p l a q (k + j) x → Rs w h o p l a q k x := by
    intro j
    induction j with
    | zero => exact fun _ x z => z
    | succ j ih => exact fun hj x z => ih (by omega) x (hs j (by omega) x z)
  intro m
  induction m with
  | zero => exact fun x z => z
  | succ m ih =>
    intro x z
    rcases z with z | ⟨c, t, hc, t0, t3, h0, e⟩
    · exact ih x z
    · have hc := ih c hc
      have hr0 : 0 ≤ (m : Int) % p := Int.emod_nonneg _ (by omega)
      have hr1 : (m : Int) % p < p := Int.emod_lt_of_pos _ (by omega)
      have em : mzT o p l (q + ((k + m : Nat) : Int)) = mzT o p l (q + ((k + ((m : Int) % p).toNat : Nat) : Int)) := by
        unfold mzT
        congr 1
        have : q + ((k + m : Nat) : Int) = q + ((k + ((m : Int) % p).toNat : Nat) : Int) + p * ((m : Int) / p) := by
          have := Int.emod_add_mul_ediv (m : Int) p
          have e1 : ((k + ((m : Int) % p).toNat : Nat) : Int) = (k : Int) + (m : Int) % p := by omega
          rw [e1]
          omega
        rw [this, Int.add_mul_emod_self_left]
      have h0' : 0 ≤ step w h (mzT o p l (q + ((k + m : Nat) : Int))) c t := h0
      have e' : step w h (mzT o p l (q + ((k + m : Nat) : Int))) c t = x := e
      rw [em] at h0' e'
      exact base (((m : Int) % p).toNat + 1) (by omega) x (.inr ⟨c, t, hc.keep _, t0, t3, h0', e'⟩)
end
open Classical in
/-- The first moment at which one is there; -1 where there is none among the next ones. -/
noncomputable def eGo (w h o p : Int) (l : List Gt) (a q b : Int) : Nat → Nat → Int
  | 0, _ => -1
  | n + 1, k => if Rs w h o p l a q k b then q + k else eGo w h o p l a q b n (k + 1)
noncomputable def eAt (w h o p : Int) (l : List Gt) (a q b : Int) : Int := eGo w h o p l a q b 201 0
open Classical in
theorem eGo_hit {w h o p : Int} {l : List Gt} {a q b : Int} {n k : Nat} (z : Rs w h o p l a q k b) : eGo w h o p l a q b (n + 1) k = q + k := by unfold eGo; exact if_pos z
open Classical in
theorem eGo_miss {w h o p : Int} {l : List Gt} {a q b : Int} {n k : Nat} (z : ¬ Rs w h o p l a q k b) : eGo w h o p l a q b (n + 1) k = eGo w h o p l a q b n (k + 1) := by
  rw [eGo]
  exact if_neg z
theorem eGo_none {w h o p : Int} {l : List Gt} {a q b : Int} : ∀ (n k : Nat), (∀ j, k ≤ j → ¬ Rs w h o p l a q j b) → eGo w h o p l a q b n k = -1
  | 0, k, _ => rfl
  | n + 1, k, z => by rw [eGo_miss (z k (Nat.le_refl _))]; exact eGo_none n (k + 1) fun j hj => z j (by omega)
theorem wfI {n : Int} (h0 : -9223372036854775808 ≤ n) (h1 : n ≤ 9223372036854775807) : (Lit.int .i64 n).wf = true := by
  have e0 : IntKind.i64.min = -9223372036854775808 := by decide
  have e1 : IntKind.i64.max = 9223372036854775807 := by decide
  simp only [Lit.wf, Bool.and_eq_true, decide_eq_true_eq, e0, e1]
  exact ⟨h0, h1⟩
theorem nodup_dups : ∀ (n : Nat) (l : List Int), l.length ≤ n → l.eraseDups.Nodup
  | _, [], _ => by simp
  | 0, a :: l, h => by simp at h
  | n + 1, a :: l, h => by
    rw [List.eraseDups_cons, List.nodup_cons]
    refine ⟨fun z => ?_, nodup_dups n _ (Nat.le_trans (List.length_filter_le _ _) (by simpa using h))⟩
    have := List.mem_filter.1 (List.mem_eraseDups.1 z)
    simp at this
theorem ea_steps (k : Nat) (hk : 4 ≤ k) (w h o c : Int) : ∀ ds : List Int, ea.steps k w h o c ds = some (ds.map fun d => step w h o c d)
  | [] => rfl
  | d :: ds => by
    have hl := step_lt w h o c d
    unfold ea.steps
    rw [iStep k w h o c d hk, Option.bind_some, if_pos (wfI (by omega) (by omega)), ea_steps k hk w h o c ds]
    rfl
theorem ea_cell (k : Nat) (hk : 9 ≤ k) (w h o c : Int) (hc : isCell w h c = true) : ea.cell k w h o c = some (c :: (ways w h o c).map fun d => step w h o c d) := by
  have hl := cellD_lt hc
  have hr := cells_range w h
  have hw := (ways_tell (w := w) (h := h) (o := o) (c := c)).2
  unfold ea.cell
  rw [if_pos (wfI (by omega) (by omega)), iWaysFrom k w h o c hk, Option.bind_some, if_pos (by omega), ea_steps k (by omega)]
  rfl
theorem ea_next (k : Nat) (hk : 9 ≤ k) (w h o : Int) : ∀ L : List Int, (∀ c ∈ L, isCell w h c = true) → ∃ L', ea.next k w h o L = some L' ∧ L'.length ≤ 5 * L.length ∧ ∀ x, x ∈ L' ↔ x ∈ L ∨ ∃ c t, c ∈ L ∧ 0 ≤ t ∧ t ≤ 3 ∧ 0 ≤ step w h o c t ∧ step w h o c t = x
  | [], _ => ⟨[], rfl, by simp, fun x => by simp⟩
  | c :: cs, hL => by
    obtain ⟨L', e, hl, hm⟩ := ea_next k hk w h o cs fun x hx => hL x (List.mem_cons_of_mem _ hx)
    have hw := ways_tell (w := w) (h := h) (o := o) (c := c)
    refine ⟨(c :: (ways w h o c).map fun d => step w h o c d) ++ L', ?_, ?_, fun x => ?_⟩
    · unfold ea.next
      rw [ea_cell k hk w h o c (hL c List.mem_cons_self), Option.bind_some, e]
      rfl
    · simp only [List.length_append, List.length_cons, List.length_map]
      omega
    · rw [List.mem_append, hm x]
      constructor
      · rintro (z | z | ⟨d, t, hd, a1, a2, a3, a4⟩)
        · rcases List.mem_cons.1 z with rfl | z
          · exact .inl List.mem_cons_self
          · obtain ⟨d, hd, rfl⟩ := List.mem_map.1 z
            have := hw.1 d hd
            exact .inr ⟨c, d, List.mem_cons_self, this.1, this.2.1, this.2.2, rfl⟩
        · exact .inl (List.mem_cons_of_mem _ z)
        · exact .inr ⟨d, t, List.mem_cons_of_mem _ hd, a1, a2, a3, a4⟩
      · rintro (z | ⟨d, t, hd, a1, a2, a3, a4⟩)
        · rcases List.mem_cons.1 z with rfl | z
          · exact .inl List.mem_cons_self
          · exact .inr (.inl z)
        · rcases List.mem_cons.1 hd with rfl | hd
          · refine .inl (List.mem_cons_of_mem _ (List.mem_map.2 ⟨t, ?_, a4⟩))
            unfold ways
            rw [List.mem_filter]
            exact ⟨by simp only [List.mem_cons, List.not_mem_nil, or_false]; omega, decide_eq_true a3⟩
          · exact .inr (.inr ⟨d, t, hd, a1, a2, a3, a4⟩)
theorem iEarly_go (w h o p q b a : Int) (l : List Gt) (z : timedOk w h o p l = true) (ha : isCell w h a = true) (hq0 : 0 ≤ q) (hq1 : q ≤ 500) : ∀ (n K k : Nat) (L : List Int), k + n = 201 → n + 30 ≤ K → L.Nodup → (∀ x, x ∈ L ↔ Rs w h o p l a q k x) →
    ea.l0 K w h o p l (q + k) q b L = some (eGo w h o p l a q b n k) := by
  intro n
  induction n with
  | zero =>
    intro K k L hn hK hd hL
    obtain ⟨K, rfl⟩ : ∃ m, K = m + 1 := ⟨K - 1, by omega⟩
    rw [ea.l0, w64 (x := q + 200) (by omega) (by omega), if_neg (by omega)]
    rfl
  | succ n ih =>
    intro K k L hn hK hd hL
    obtain ⟨K, rfl⟩ : ∃ m, K = m + 1 := ⟨K - 1, by omega⟩
    have hcell : ∀ c ∈ L, isCell w h c = true := fun c hc => Rs.cell ha k c ((hL c).1 hc)
    have hlen : L.length ≤ 16 := nodup_le 16 L hd fun x hx => by
      have h1 := cellD_lt (hcell x hx)
      have h2 := cells_range w h
      omega
    rw [ea.l0, w64 (x := q + 200) (by omega) (by omega), if_pos (by omega)]
    by_cases hb : b ∈ L
    · rw [if_pos hb, eGo_hit ((hL b).1 hb)]
    · rw [if_neg hb, eGo_miss fun y => hb ((hL b).2 y), iMazeAtTime K w h o p (q + k) l (by omega)]
      have em : mazeAtTime w h o p l (q + k) = (w, h, mzT o p l (q + k), true) := by
        unfold mazeAtTime mzT
        rw [if_pos ⟨z, by omega, by omega⟩]
      obtain ⟨L', e, hl', hm⟩ := ea_next K (by omega) w h (mzT o p l (q + k)) L hcell
      rw [em, Option.bind_some]
      simp only []
      rw [e, Option.bind_some, if_pos (by omega), w64 (x := q + k + 1) (by omega) (by omega), show q + (k : Int) + 1 = q + ((k + 1 : Nat) : Int) by omega]
      refine ih K (k + 1) L'.eraseDups (by omega) (by omega) (nodup_dups _ _ (Nat.le_refl _)) fun x => ?_
      rw [List.mem_eraseDups, hm x]
      constructor
      · rintro (y | ⟨c, t, hc, a1, a2, a3, a4⟩)
        · exact .inl ((hL x).1 y)
        · exact .inr ⟨c, t, (hL c).1 hc, a1, a2, a3, a4⟩
      · rintro (y | ⟨c, t, hc, a1, a2, a3, a4⟩)
        · exact .inl ((hL x).2 y)
        · exact .inr ⟨c, t, (hL c).2 hc, a1, a2, a3, a4⟩
open Classical in
noncomputable def earliest (w h o p : Int) (l : List Gt) (a q b : Int) : Int := if timedOk w h o p l = true ∧ isCell w h a = true ∧ isCell w h b = true ∧ 0 ≤ q ∧ q ≤ 500 then eAt w h o p l a q b else -1
theorem orM (s : Nat) (x : Int) (hs : s < 2 ^ 16) (h0 : 0 ≤ x) (h1 : x ≤ 15) : Go.bits .or .i64 (s : Int) (shl .i64 1 x) = ((s ||| 2 ^ x.toNat : Nat) : Int) := by
  rw [shl_one h0 (by omega), pow_cast, bits_or s _ (by omega) (Nat.lt_of_lt_of_le (Nat.pow_lt_pow_right (by decide) (show x.toNat < 16 by omega)) (by decide))]
theorem orM_lt (s : Nat) (x : Int) (hs : s < 2 ^ 16) (h1 : x ≤ 15) : s ||| 2 ^ x.toNat < 2 ^ 16 := Nat.or_lt_two_pow hs (Nat.pow_lt_pow_right (by decide) (by omega))
theorem bit_orM (s : Nat) (n x : Int) (hn : 0 ≤ n) (hx : 0 ≤ x) : bit ((s ||| 2 ^ n.toNat : Nat) : Int) x = true ↔ bit (s : Int) x = true ∨ n = x := by
  unfold bit
  rw [Int.toNat_natCast, Int.toNat_natCast, Nat.testBit_or, Nat.testBit_two_pow, Bool.or_eq_true, decide_eq_true_eq]
  constructor
  · rintro (z | z)
    · exact .inl z
    · exact .inr (by omega)
  · rintro (z | z)
    · exact .inl z
    · exact .inr (by omega)
def Nx (w h o : Int) (s : Nat) (c x : Int) : Prop := ∃ c' t, c ≤ c' ∧ c' < cells w h ∧ bit (s : Int) c' = true ∧ 0 ≤ t ∧ t ≤ 3 ∧ 0 ≤ step w h o c' t ∧ step w h o c' t = x
theorem earliest_no {w h o p : Int} {l : List Gt} {a q b : Int} (z : ¬ (timedOk w h o p l = true ∧ isCell w h a = true ∧ isCell w h b = true ∧ 0 ≤ q ∧ q ≤ 500)) : earliest w h o p l a q b = -1 := by unfold earliest; exact if_neg z
theorem earliest_yes {w h o p : Int} {l : List Gt} {a q b : Int} (z : timedOk w h o p l = true ∧ isCell w h a = true ∧ isCell w h b = true ∧ 0 ≤ q ∧ q ≤ 500) : earliest w h o p l a q b = eGo w h o p l a q b 201 0 := by unfold earliest; exact if_pos z
theorem iEarliestAt (k : Nat) (hk : 240 ≤ k) (w h o p a q b : Int) (l : List Gt) : impl_EarliestAt.f k w h o p l a q b = some (earliest w h o p l a q b) := by
  unfold impl_EarliestAt.f
  rw [iTimedOk k w h o p l (by omega), Option.bind_some]
  by_cases z : timedOk w h o p l = true
  · rw [if_pos z, iisIn2, Option.bind_some, (timedOk_parts z).1]
    by_cases ha : isCell w h a = true
    · by_cases hb : isCell w h b = true
      · rw [if_pos (show (true && (isCell w h a && isCell w h b)) = true by rw [ha, hb]; rfl)]
        have la := cellD_lt ha
        have lb := cellD_lt hb
        have hr := cells_range w h
        by_cases q0 : q < 0
        · rw [if_pos q0, earliest_no fun y => by have := y.2.2.2.1; omega]
        · rw [if_neg q0]
          by_cases q1 : q > 500
          · rw [if_pos q1, earliest_no fun y => by have := y.2.2.2.2; omega]
          · rw [if_neg q1, if_pos ⟨wfI (by omega) (by omega), wfI (by omega) (by omega)⟩, earliest_yes ⟨z, ha, hb, by omega, by omega⟩]
            have e := iEarly_go w h o p q b a l z ha (by omega) (by omega) 201 k 0 [a] rfl (by omega) (by simp) (fun x => List.mem_singleton)
            rw [show q + ((0 : Nat) : Int) = q by omega] at e
            exact e
      · have hb' : isCell w h b = false := by simpa using hb
        rw [if_neg (by rw [hb']; simp), earliest_no fun y => hb y.2.2.1]
    · have ha' : isCell w h a = false := by simpa using ha
      rw [if_neg (by rw [ha']; simp), earliest_no fun y => ha y.2.1]
  · rw [if_neg z, earliest_no fun y => z y.1]
end Go.Proofs.Ytlfomjhjeknnmaa.L
