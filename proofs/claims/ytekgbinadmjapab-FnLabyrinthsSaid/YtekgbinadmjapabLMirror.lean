/- A labyrinth from the inside is one, too. -/
import Derived.Test.YtekgbinadmjapabXlawssameInts
import Derived.Test.YtekgbinadmjapabXspecDrawCircuits
import Derived.Test.YtekgbinadmjapabXspecl27Known
import Derived.Test.YtekgbinadmjapabXspecl27List
import Derived.Test.YtekgbinadmjapabLLab
import Derived.Test.YtekgbinadmjapabLDraw
namespace Go.Proofs.Ytekgbinadmjapab.L
open Go.RowKit Go.Proofs.Ytekgbinadmjapab.X Go.Proofs.YtekgbinadmjapabW.PrintWords Go.Proofs.YtekgbinadmjapabW.PrintLast Go.Proofs.YtekgbinadmjapabW.PrintMore
set_option linter.unusedSimpArgs false
set_option linter.unusedVariables false

/-- The numbers from 1 to the length, in some order; at most 7. -/
def Good (l : List Int) : Prop := 1 ≤ l.length ∧ l.length ≤ 7 ∧ l.Nodup ∧ ∀ x ∈ l, 1 ≤ x ∧ x ≤ (l.length : Int)
theorem good_perm {l m : List Int} (h : Good l) (p : m.Perm l) : Good m := by
  obtain ⟨a, b, c, d⟩ := h
  have e := p.length_eq
  exact ⟨by omega, by omega, p.nodup_iff.2 c, fun x hx => by have := d x (p.mem_iff.1 hx); omega⟩
open Classical in
theorem good_ok {l : List Int} (h : Good l) : circuitsOk l = true := by
  obtain ⟨a, b, c, d⟩ := h
  unfold circuitsOk
  refine decide_eq_true ⟨fun j h0 h1 => ?_, a, by omega⟩
  have hm := d _ (mem_rd' h0 h1)
  refine ⟨hm.1, hm.2, fun z => ?_⟩
  rw [← List.take_append_drop j.toNat l, drop_cons h0 h1] at c
  exact (List.nodup_append.1 c).2.2 _ z _ List.mem_cons_self rfl
theorem good_swap {l : List Int} (h : Good l) {i j : Int} (h0 : 0 ≤ i) (h1 : i < (l.length : Int)) (h2 : 0 ≤ j) (h3 : j < (l.length : Int)) : Good ((l.set i.toNat (rd l j)).set j.toNat (rd l i)) := by
  rw [rd_get h0 h1, rd_get h2 h3]
  exact good_perm h (List.set_set_perm (by omega) (by omega))
theorem swaps_go (s : List Int) (hs : s.length ≤ 140737488355328) : ∀ (m k : Nat) (l : List Int) (i h : Int), m ≤ 2 → m < k → Good l → 0 ≤ i → i ≤ (s.length : Int) → ∃ l' i' h', spec_l27List.l0 k l m s i h = some (l', i', h') ∧ Good l' := by
  intro m
  induction m with
  | zero =>
    intro k l i h hm hk hg h0 h1
    obtain ⟨k, rfl⟩ := kpos hk
    unfold spec_l27List.l0
    rw [if_neg (by omega)]
    exact ⟨_, _, _, rfl, hg⟩
  | succ m ih =>
    intro k l i h hm hk hg h0 h1
    obtain ⟨k, rfl⟩ := kpos hk
    obtain ⟨v, i1, g1, e1, a1, b1, c1, d1⟩ := below_ok s i h l.length h0 h1 hs (by have := hg.1; omega) (by have := hg.2.1; omega)
    obtain ⟨v2, i2, g2, e2, a2, b2, c2, d2⟩ := below_ok s i1 g1 l.length c1 d1 hs (by have := hg.1; omega) (by have := hg.2.1; omega)
    unfold spec_l27List.l0
    rw [if_pos (by omega), e1]
    simp only [Option.bind_some]
    rw [e2]
    simp only [Option.bind_some]
    rw [if_pos a1, if_pos b1, if_pos a2, if_pos b2, w64 (by omega) (by omega), show (((m + 1 : Nat) : Int) - 1) = (m : Int) by omega]
    exact ih k _ i2 g2 (by omega) (by omega) (good_swap hg a1 b1 a2 b2) c2 d2
theorem known_ok (s : List Int) (hs : s.length ≤ 140737488355328) (i h : Int) (h0 : 0 ≤ i) (h1 : i ≤ (s.length : Int)) : ∃ l i' h', spec_l27Known.f s i h = some (l, i', h') ∧ Good l ∧ 0 ≤ i' ∧ i' ≤ (s.length : Int) := by
  obtain ⟨v, i1, g1, e1, a1, b1, c1, d1⟩ := below_ok s i h 6 h0 h1 hs (by omega) (by omega)
  unfold spec_l27Known.f
  rw [e1]
  simp only [Option.bind_some]
  have g1' : Good [3, 2, 1, 4, 7, 6, 5] := ⟨by decide, by decide, by decide, by decide⟩
  have g2' : Good [1, 2, 3] := ⟨by decide, by decide, by decide, by decide⟩
  have g3' : Good [3, 2, 1] := ⟨by decide, by decide, by decide, by decide⟩
  have g4' : Good [1, 4, 3, 2, 5] := ⟨by decide, by decide, by decide, by decide⟩
  have g5' : Good [5, 2, 3, 4, 1] := ⟨by decide, by decide, by decide, by decide⟩
  have g6' : Good [1] := ⟨by decide, by decide, by decide, by decide⟩
  repeat' split
  · exact ⟨_, _, _, rfl, g1', c1, d1⟩
  · exact ⟨_, _, _, rfl, g2', c1, d1⟩
  · exact ⟨_, _, _, rfl, g3', c1, d1⟩
  · exact ⟨_, _, _, rfl, g4', c1, d1⟩
  · exact ⟨_, _, _, rfl, g5', c1, d1⟩
  · exact ⟨_, _, _, rfl, g6', c1, d1⟩
theorem circuits_drawn (k : Nat) (s : List Int) (hs : s.length ≤ 140737488355328) (hk : 4001 < k) : ∃ l, spec_DrawCircuits.f k s = some l ∧ Good l := by
  obtain ⟨h, e⟩ := new_ok k s hk
  obtain ⟨l, i, h2, e2, g, a, b⟩ := known_ok s hs 0 h (by omega) (by omega)
  obtain ⟨v, i1, g1, e1, a1, b1, c1, d1⟩ := below_ok s i h2 3 a b hs (by omega) (by omega)
  obtain ⟨l', i', h', e3, g'⟩ := swaps_go s hs v.toNat k l i1 g1 (by omega) (by omega) g c1 d1
  rw [Int.toNat_of_nonneg a1] at e3
  refine ⟨l', ?_, g'⟩
  unfold spec_DrawCircuits.f
  rw [e]
  simp only [Option.bind_some]
  unfold spec_l27List.f
  simp only [Option.bind_some]
  rw [e2]
  simp only [Option.bind_some]
  rw [if_pos (by have := g.2.1; simp; omega), e1]
  simp only [Option.bind_some, List.nil_append]
  rw [e3]
  rfl
theorem turn_turn (l : List Int) : turnInside (turnInside l) = l := by
  unfold turnInside
  rw [List.length_reverse, List.length_map, List.map_reverse, List.reverse_reverse, List.map_map]
  conv => rhs; rw [← List.map_id l]
  apply List.map_congr_left
  intro x _
  simp
  omega
theorem good_turn {l : List Int} (h : Good l) : Good (turnInside l) := by
  obtain ⟨a, b, c, d⟩ := h
  refine ⟨by rw [turnInside_length]; exact a, by rw [turnInside_length]; exact b, ?_, ?_⟩
  · unfold turnInside
    refine (List.reverse_perm _).nodup_iff.2 ?_
    refine List.pairwise_map.2 (List.Pairwise.imp (fun {x y} hne e => hne (by omega)) c)
  · intro x hx
    rw [turnInside_length]
    unfold turnInside at hx
    rw [List.mem_reverse, List.mem_map] at hx
    obtain ⟨y, hy, rfl⟩ := hx
    have := d y hy
    omega
theorem way_turn {l : List Int} (h : Good l) : way (turnInside l) = ((way l).map fun x => (l.length : Int) + 1 - x).reverse := by
  have hb := h.2.1
  unfold way
  rw [turnInside_length, w64 (by omega) (by omega)]
  unfold turnInside
  simp
theorem rd_way_turn {l : List Int} (h : Good l) {i : Int} (h0 : 0 ≤ i) (h1 : i ≤ (l.length : Int) + 1) : rd (way (turnInside l)) i = (l.length : Int) + 1 - rd (way l) ((l.length : Int) + 1 - i) := by
  have hl := way_length l
  have hlt : (way (turnInside l)).length = l.length + 2 := by rw [way_length, turnInside_length]
  rw [rd_get h0 (by omega), rd_get (l := way l) (by omega) (by omega)]
  have e : (way (turnInside l))[i.toNat]'(by omega) = (((way l).map fun x => (l.length : Int) + 1 - x).reverse)[i.toNat]'(by simp; omega) := by
    congr 1
    exact way_turn h
  rw [e, List.getElem_reverse, List.getElem_map]
  congr 2
  simp
  omega
/-- Whether two steps cross, out of their ends. -/
theorem cross_iff (a b c d : Int) : crossP [mn a b, mx a b] [mn c d, mx c d] = true ↔ (mn a b < mn c d ∧ mn c d < mx a b ∧ mx a b < mx c d) ∨ (mn c d < mn a b ∧ mn a b < mx c d ∧ mx c d < mx a b) := by
  have e : crossP [mn a b, mx a b] [mn c d, mx c d] = crossB (mn (mn a b) (mx a b)) (mx (mn a b) (mx a b)) (mn c d) (mx c d) := rfl
  rw [e]
  unfold crossB
  simp only [Bool.or_eq_true, Bool.and_eq_true, decide_eq_true_eq]
  unfold mn mx
  repeat' split
  all_goals omega
def crossAt (w : List Int) (i j : Int) : Bool := crossP (pr w i) (pr w j)
theorem crossAt_symm (w : List Int) (i j : Int) : crossAt w i j = crossAt w j i := by
  rw [Bool.eq_iff_iff]
  unfold crossAt pr
  rw [cross_iff, cross_iff]
  omega
theorem crossAt_turn {l : List Int} (h : Good l) {i j : Int} (h0 : 0 ≤ i) (h1 : i ≤ (l.length : Int)) (h2 : 0 ≤ j) (h3 : j ≤ (l.length : Int)) : crossAt (way (turnInside l)) i j = crossAt (way l) ((l.length : Int) - i) ((l.length : Int) - j) := by
  rw [Bool.eq_iff_iff]
  unfold crossAt pr
  rw [cross_iff, cross_iff, rd_way_turn h h0 (by omega), rd_way_turn h (i := i + 1) (by omega) (by omega), rd_way_turn h h2 (by omega), rd_way_turn h (i := j + 1) (by omega) (by omega)]
  rw [show (l.length : Int) + 1 - i = (l.length : Int) - i + 1 by omega, show (l.length : Int) + 1 - (i + 1) = (l.length : Int) - i by omega, show (l.length : Int) + 1 - j = (l.length : Int) - j + 1 by omega, show (l.length : Int) + 1 - (j + 1) = (l.length : Int) - j by omega]
  generalize rd (way l) ((l.length : Int) - i) = a
  generalize rd (way l) ((l.length : Int) - i + 1) = b
  generalize rd (way l) ((l.length : Int) - j) = c
  generalize rd (way l) ((l.length : Int) - j + 1) = d
  unfold mn mx
  repeat' split
  all_goals omega
theorem rd_prs (w : List Int) : ∀ (n : Nat) (s : Int) (i : Int), 0 ≤ i → i < ((prs w n s).length : Int) → rd_L2 (prs w n s) i = pr w (s + 2 * i)
  | 0, s, i, h0, h1 => by simp [prs] at h1; omega
  | n + 1, s, i, h0, h1 => by
    unfold prs at h1 ⊢
    split at h1
    · rename_i c
      rw [if_pos c]
      by_cases e : i = 0
      · subst e
        simp [rd_L2]
      · have ih := rd_prs w n (s + 2) (i - 1) (by omega) (by rw [List.length_cons] at h1; omega)
        rw [show s + 2 + 2 * (i - 1) = s + 2 * i by omega] at ih
        rw [← ih]
        unfold rd_L2
        rw [show i.toNat = (i - 1).toNat + 1 by omega]
        rfl
    · simp at h1; omega
theorem len_prs (w : List Int) : ∀ (n : Nat) (s : Int), 0 ≤ s → s ≤ (w.length : Int) → (w.length : Int) - s ≤ n → ((prs w n s).length : Int) = ((w.length : Int) - s) / 2
  | 0, s, h0, h1, h2 => by simp [prs]; omega
  | n + 1, s, h0, h1, h2 => by
    unfold prs
    by_cases c : s + 1 < (w.length : Int)
    · rw [if_pos c, List.length_cons]
      have := len_prs w n (s + 2) (by omega) (by omega) (by omega)
      omega
    · rw [if_neg c]
      simp
      omega
def allX (w : List Int) (s : Int) : Prop := ∀ i j : Int, 0 ≤ j → j < i → i + 1 < (w.length : Int) → i % 2 = s → j % 2 = s → crossAt w i j = false
theorem noX_iff (l : List Int) (s : Int) (hs : s = 0 ∨ s = 1) : noX (pairs l s) 0 ↔ allX (way l) s := by
  have hw := way_length l
  have hl := len_prs (way l) (l.length + 2) s (by omega) (by omega) (by omega)
  unfold pairs
  constructor
  · intro h i j h0 h1 h2 hi hj
    have := h ((i - s) / 2) (by omega) (by omega) ((j - s) / 2) (by omega) (by omega)
    rw [rd_prs _ _ _ _ (by omega) (by omega), rd_prs _ _ _ _ (by omega) (by omega), show s + 2 * ((i - s) / 2) = i by omega, show s + 2 * ((j - s) / 2) = j by omega] at this
    exact this
  · intro h i h0 h1 j h2 h3
    rw [rd_prs _ _ _ _ (by omega) (by omega), rd_prs _ _ _ _ (by omega) (by omega)]
    exact h (s + 2 * i) (s + 2 * j) (by omega) (by omega) (by omega) (by omega) (by omega)
open Classical in
theorem labOk_iff {l : List Int} (h : Good l) : labOk l = true ↔ odds (way l) 1 ∧ allX (way l) 0 ∧ allX (way l) 1 := by
  unfold labOk
  rw [good_ok h, Bool.true_and, Bool.and_eq_true, Bool.and_eq_true, Bool.and_eq_true, decide_eq_true_eq, decide_eq_true_eq, odds_iff (good_ok h), noX_iff l 0 (.inl rfl), noX_iff l 1 (.inr rfl), Bool.not_eq_true', Bool.not_eq_true']
  exact ⟨fun ⟨⟨a, b⟩, c, d⟩ => ⟨⟨b, d⟩, a, c⟩, fun ⟨⟨b, d⟩, a, c⟩ => ⟨⟨a, b⟩, c, d⟩⟩
theorem evenAt_turn {l : List Int} (h : Good l) {i : Int} (h0 : 0 ≤ i) (h1 : i ≤ (l.length : Int)) : evenAt (way (turnInside l)) i ↔ evenAt (way l) ((l.length : Int) - i) := by
  unfold evenAt
  rw [rd_way_turn h (i := i + 1) (by omega) (by omega), rd_way_turn h h0 (by omega), show (l.length : Int) + 1 - (i + 1) = (l.length : Int) - i by omega, show (l.length : Int) + 1 - i = (l.length : Int) - i + 1 by omega]
  rw [show (l.length : Int) + 1 - rd (way l) ((l.length : Int) - i) - ((l.length : Int) + 1 - rd (way l) ((l.length : Int) - i + 1)) = rd (way l) ((l.length : Int) - i + 1) - rd (way l) ((l.length : Int) - i) by omega]
theorem mirror_one {l : List Int} (h : Good l) (hk : labOk l = true) : labOk (turnInside l) = true := by
  obtain ⟨ho, h0, h1⟩ := (labOk_iff h).1 hk
  have hw := way_length l
  have hwt : (way (turnInside l)).length = l.length + 2 := by rw [way_length, turnInside_length]
  have hall : ∀ s, s = 0 ∨ s = 1 → allX (way l) s := fun s hs => by rcases hs with rfl | rfl; exact h0; exact h1
  have hX : ∀ s, s = 0 ∨ s = 1 → allX (way (turnInside l)) s := by
    intro s hs i j a b c d e
    rw [crossAt_turn h (by omega) (by omega) a (by omega), crossAt_symm]
    exact hall (((l.length : Int) - i) % 2) (by omega) _ _ (by omega) (by omega) (by omega) (by omega) rfl
  refine (labOk_iff (good_turn h)).2 ⟨?_, hX 0 (.inl rfl), hX 1 (.inr rfl)⟩
  intro i a b
  show ¬ evenAt (way (turnInside l)) (i - 1)
  rw [evenAt_turn h (by omega) (by omega)]
  have : ¬ evenAt (way l) ((l.length : Int) - (i - 1) + 1 - 1) := ho ((l.length : Int) - (i - 1) + 1) (by omega) (by omega)
  rw [show (l.length : Int) - (i - 1) + 1 - 1 = (l.length : Int) - (i - 1) by omega] at this
  exact this
theorem mirror {l : List Int} (h : Good l) : labOk (turnInside l) = labOk l := by
  rw [Bool.eq_iff_iff]
  refine ⟨fun k => ?_, mirror_one h⟩
  have := mirror_one (good_turn h) k
  rwa [turn_turn] at this
theorem pairs_sum {l : List Int} (h : Good l) : ((pairs l 0).length : Int) + ((pairs l 1).length : Int) = (l.length : Int) + 1 := by
  have hw := way_length l
  have h0 := len_prs (way l) (l.length + 2) 0 (by omega) (by omega) (by omega)
  have h1 := len_prs (way l) (l.length + 2) 1 (by omega) (by omega) (by omega)
  unfold pairs
  omega
theorem same_go (l : List Int) (hl : l.length ≤ 100) : ∀ (d k : Nat) (i : Int), 0 ≤ i → (l.length : Int) - i ≤ d → d < k → laws_sameInts.l0 k l l i = some true := by
  intro d
  induction d with
  | zero =>
    intro k i h0 h1 hk
    obtain ⟨k, rfl⟩ := kpos hk
    unfold laws_sameInts.l0
    rw [if_neg (by omega)]
  | succ d ih =>
    intro k i h0 h1 hk
    obtain ⟨k, rfl⟩ := kpos hk
    unfold laws_sameInts.l0
    by_cases c : i < (l.length : Int)
    · rw [if_pos c, if_pos h0, if_pos c, if_pos rfl, w64 (by omega) (by omega)]
      exact ih k (i + 1) (by omega) (by omega) (by omega)
    · rw [if_neg c]
theorem same (k : Nat) (l : List Int) (hl : l.length ≤ 100) (hk : l.length < k) : laws_sameInts.f k l l = some true := by
  unfold laws_sameInts.f
  rw [if_pos rfl]
  exact same_go l hl l.length k 0 (by omega) (by omega) hk
end Go.Proofs.Ytekgbinadmjapab.L
