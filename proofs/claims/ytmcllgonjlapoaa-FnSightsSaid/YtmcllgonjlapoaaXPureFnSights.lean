/- P25: who sees is seen, and of the fewest guards none can go. For every text of bytes that the statement speaks of. -/
import Derived.Test.YtmcllgonjlapoaaXlawsFnSights
import Derived.Test.YtmcllgonjlapoaaLRays
import Derived.Test.YtmcllgonjlapoaaLOpenCell
import Derived.Test.YtmcllgonjlapoaaLFewest
namespace Go.Proofs.Ytmcllgonjlapoaa.Pure
open Go.RowKit Go.Proofs.Ytmcllgonjlapoaa.X Go.Proofs.Ytmcllgonjlapoaa.L Go.Proofs.YtmcllgonjlapoaaW.PrintWords Go.Proofs.YtmcllgonjlapoaaW.PrintLast
set_option linter.unusedSimpArgs false

theorem at_ok (l : List Int) (hl : l.length ≤ 2000000) (hx : ∀ x ∈ l, (Lit.int .u8 x).wf = true) : ∃ v, laws_at.f l 0 = some v ∧ 0 ≤ v := by
  unfold laws_at.f
  by_cases c : (l.length : Int) = 0
  · rw [if_pos c]
    exact ⟨_, rfl, Int.le_refl _⟩
  · rw [if_neg c]
    have e : Int.tmod (wrap64 ((wrap64 (0 * 5)) + 1)) (l.length : Int) = 1 % (l.length : Int) := by
      rw [show wrap64 ((wrap64 (0 * 5)) + 1) = 1 by (unfold wrap64; omega), Int.tmod_eq_emod_of_nonneg (by omega)]
    have h0 : 0 ≤ 1 % (l.length : Int) := Int.emod_nonneg _ c
    have h1 : 1 % (l.length : Int) < (l.length : Int) := Int.emod_lt_of_pos _ (by omega)
    rw [e, if_pos h0, if_pos h1]
    have hb := hx _ (rd_memL h0 h1)
    have hb1 : IntKind.u8.min ≤ rd l (1 % (l.length : Int)) ∧ rd l (1 % (l.length : Int)) ≤ IntKind.u8.max := by simpa [Lit.wf] using hb
    have e0 : IntKind.u8.min = 0 := by decide
    have e1 : IntKind.u8.max = 255 := by decide
    rw [e0, e1] at hb1
    have hb2 : 0 ≤ rd l (1 % (l.length : Int)) ∧ rd l (1 % (l.length : Int)) ≤ 255 := hb1
    refine ⟨_, rfl, ?_⟩
    rw [w64 (by omega) (by omega)]
    exact hb2.1
theorem has_go (l : List Int) (hl : l.length ≤ 1000) (x : Int) : ∀ (d k : Nat) (i : Int), 0 ≤ i → i ≤ (l.length : Int) → (l.length : Int) - i = d → d < k → laws_has.l0 k l x i = some (decide (x ∈ l.drop i.toNat)) := by
  intro d
  induction d with
  | zero =>
    intro k i h0 h1 hd hk
    obtain ⟨k, rfl⟩ := kpos hk
    have hi : i = l.length := by omega
    subst hi
    unfold laws_has.l0
    rw [if_neg (by omega), Int.toNat_natCast, List.drop_length]
    simp
  | succ d ih =>
    intro k i h0 h1 hd hk
    obtain ⟨k, rfl⟩ := kpos hk
    have hlt : i < (l.length : Int) := by omega
    unfold laws_has.l0
    rw [if_pos hlt, if_pos h0, drop_cons h0 hlt]
    by_cases c : rd l i = x
    · rw [if_pos c, decide_eq_true (by rw [c]; exact List.mem_cons_self)]
    · rw [if_neg c, w64 (by omega) (by omega), ih k (i + 1) (by omega) (by omega) (by omega) (by omega)]
      congr 1
      have c' : ¬ x = rd l i := fun z => c z.symm
      simp [c']
theorem has_is (k : Nat) (l : List Int) (hl : l.length ≤ 1000) (x : Int) (hk : l.length < k) : laws_has.f k l x = some (decide (x ∈ l)) := by
  unfold laws_has.f
  rw [has_go l hl x l.length k 0 (by omega) (by omega) (by omega) hk]
  simp
theorem one_way (k : Nat) (w h o c t n d : Int) (hd : 0 ≤ d ∧ d < 4) (hn : 0 ≤ n ∧ n ≤ 1000) (hk : 30 ≤ k) : laws_FnSights.l1 (k + 1) c t n d w h o = laws_FnSights.l1 k c t (n + ((sight w h o c d).length : Int)) (d + 1) w h o := by
  have l0 := sight_length w h o c d
  rw [laws_FnSights.l1, if_pos hd.2, iSight k w h o c d hk, Option.bind_some, w64 (x := n + ((sight w h o c d).length : Int)) (by omega) (by omega), w64 (x := d + 1) (by omega) (by omega)]
theorem last_way (k : Nat) (w h o c t n : Int) (hn : ((seenC w h o c).length : Int) = n) (hk : 150 ≤ k) : laws_FnSights.l1 (k + 1) c t n 4 w h o = some true := by
  have hb := seenC_length w h o c
  rw [laws_FnSights.l1, if_neg (by omega), iSeenFrom k w h o c (by omega), Option.bind_some, if_pos hn, Option.bind_some, has_is k _ (by omega) t (by omega), Option.bind_some, iSeesEach k w h o c t (by omega), Option.bind_some, beq_self_eq_true]
/-- The last rounds: how many are seen, and who. -/
theorem seen_part (k : Nat) (w h o c t : Int) (hc : has w h o c = true) (hk : 300 ≤ k) : laws_FnSights.l1 k c t 1 0 w h o = some true := by
  have hl := seenC_len hc
  have l0 := sight_length w h o c 0
  have l1 := sight_length w h o c 1
  have l2 := sight_length w h o c 2
  have l3 := sight_length w h o c 3
  obtain ⟨k1, rfl⟩ : ∃ m, k = m + 1 := ⟨k - 1, by omega⟩
  rw [one_way k1 w h o c t 1 0 (by omega) (by omega) (by omega), show ((0 : Int) + 1) = 1 by omega]
  obtain ⟨k2, rfl⟩ : ∃ m, k1 = m + 1 := ⟨k1 - 1, by omega⟩
  rw [one_way k2 w h o c t _ 1 (by omega) (by omega) (by omega), show ((1 : Int) + 1) = 2 by omega]
  obtain ⟨k3, rfl⟩ : ∃ m, k2 = m + 1 := ⟨k2 - 1, by omega⟩
  rw [one_way k3 w h o c t _ 2 (by omega) (by omega) (by omega), show ((2 : Int) + 1) = 3 by omega]
  obtain ⟨k4, rfl⟩ : ∃ m, k3 = m + 1 := ⟨k3 - 1, by omega⟩
  rw [one_way k4 w h o c t _ 3 (by omega) (by omega) (by omega), show ((3 : Int) + 1) = 4 by omega]
  obtain ⟨k5, rfl⟩ : ∃ m, k4 = m + 1 := ⟨k4 - 1, by omega⟩
  exact last_way k5 w h o c t _ (by omega) (by omega)
theorem one_guard (k : Nat) (w h o c t : Int) (r : List Int) (hr : r.length ≤ 16) (i : Nat) (hi : i < r.length) (hg : guarded w h o (r.take i ++ r.drop (i + 1)) = false) (hk : 300 ≤ k) : laws_FnSights.l0 (k + 1) c t r i w h o = laws_FnSights.l0 k c t r ((i + 1 : Nat) : Int) w h o := by
  have hlen : (r.take i ++ r.drop (i + 1)).length ≤ 16 := by
    rw [List.length_append, List.length_take, List.length_drop]
    omega
  have hI := iIsGuarded k w h o (r.take i ++ r.drop (i + 1)) (by omega) (by omega)
  have hA : ([] : List Int).length + (r.take ((i : Int)).toNat).length < 17592186044416 := by
    rw [List.length_take, List.length_nil]
    omega
  have hB : (([] : List Int) ++ r.take ((i : Int)).toNat).length + (r.drop ((((i + 1 : Nat) : Int))).toNat).length < 17592186044416 := by
    rw [List.nil_append, List.length_take, List.length_drop]
    omega
  have hC : ([] : List Int) ++ r.take ((i : Int)).toNat ++ r.drop ((((i + 1 : Nat) : Int))).toNat = r.take i ++ r.drop (i + 1) := by
    rw [List.nil_append, Int.toNat_natCast, Int.toNat_natCast]
  have hW : wrap64 ((i : Int) + 1) = ((i + 1 : Nat) : Int) := by
    rw [w64 (by omega) (by omega)]
    omega
  rw [laws_FnSights.l0, if_pos (by omega), Option.bind_some, if_pos (by omega), if_pos (by omega), Option.bind_some, if_pos hA, Option.bind_some, hW, if_pos (by omega), if_pos (by omega), Option.bind_some, if_pos hB, hC, hI, Option.bind_some, hg, if_neg (by simp)]
theorem guards_part (w h o c t : Int) (hc : has w h o c = true) (r : List Int) (hr : r.length ≤ 16) (hg : ∀ k : Nat, k < r.length → guarded w h o (r.take k ++ r.drop (k + 1)) = false) : ∀ (d k i : Nat), i ≤ r.length → r.length - i = d → d + 400 ≤ k →
    laws_FnSights.l0 k c t r i w h o = some true := by
  intro d
  induction d with
  | zero =>
    intro k i h1 hd hk
    obtain ⟨k, rfl⟩ : ∃ m, k = m + 1 := ⟨k - 1, by omega⟩
    rw [laws_FnSights.l0, if_neg (by omega)]
    exact seen_part k w h o c t hc (by omega)
  | succ d ih =>
    intro k i h1 hd hk
    obtain ⟨k, rfl⟩ : ∃ m, k = m + 1 := ⟨k - 1, by omega⟩
    rw [one_guard k w h o c t r hr i (by omega) (hg i (by omega)) (by omega)]
    exact ih k (i + 1) (by omega) (by omega) (by omega)
theorem FnSights : laws_FnSights.Pure := by
  intro s _ _ hx
  refine ⟨5000, ?_⟩
  unfold laws_FnSights.f laws_big.f
  simp only [Option.bind_some]
  by_cases hb : (s.length : Int) > 1048576
  · rw [decide_eq_true hb, if_pos rfl]
  · rw [decide_eq_false hb, if_neg (by simp)]
    obtain ⟨w, h, o, c, e, hm, hc⟩ := open_cell 5000 s (by omega) (by omega)
    obtain ⟨v, ev, hv⟩ := at_ok s (by omega) hx
    obtain ⟨r, er, h1, h16, hgu, hgo⟩ := fewest_is 5000 (by omega) w h o hm
    have hn := cells_pos (mazeOk_ok hm).1
    have hct : 0 ≤ Int.tmod v (cells w h) ∧ Int.tmod v (cells w h) < cells w h := by
      rw [Int.tmod_eq_emod_of_nonneg hv]
      exact ⟨Int.emod_nonneg _ (by omega), Int.emod_lt_of_pos _ (by omega)⟩
    have hcc : has w h o c = true := by unfold has; rw [hm, hc]; rfl
    have htt : has w h o (Int.tmod v (cells w h)) = true := by
      unfold has isCell
      rw [hm, decide_eq_true hct]
      rfl
    rw [e]
    simp only [Option.bind_some]
    rw [ev]
    simp only [Option.bind_some]
    rw [sCountCells]
    simp only [Option.bind_some]
    rw [if_neg (by omega), er]
    simp only [Option.bind_some]
    rw [if_neg (by omega), iIsGuarded 5000 w h o r (by omega) (by omega), hgu]
    simp only [Option.bind_some, if_true]
    rw [iSeesEach 5000 w h o c _ (by omega)]
    simp only [Option.bind_some]
    rw [iSeesEach 5000 w h o _ c (by omega)]
    simp only [Option.bind_some]
    have hsym : decide (Int.tmod v (cells w h) ∈ seenC w h o c) = decide (c ∈ seenC w h o (Int.tmod v (cells w h))) := by
      have := seen_symm hcc htt
      simp only [this]
    rw [hsym, if_neg (by simp), iSeesEach 5000 w h o c c (by omega)]
    simp only [Option.bind_some]
    rw [decide_eq_true (seen_self hcc), laws_FnSights.j0, if_neg (by simp)]
    exact guards_part w h o c _ hcc r h16 hgo r.length 4999 0 (by omega) (by omega) (by omega)
end Go.Proofs.Ytmcllgonjlapoaa.Pure
