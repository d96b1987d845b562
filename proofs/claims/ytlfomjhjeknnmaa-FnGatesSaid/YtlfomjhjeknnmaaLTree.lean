/- A drawn perfect maze: whatever is drawn, the draw ends and gives a valid maze. -/
import Derived.Test.YtlfomjhjeknnmaaXcstrees
import Derived.Test.YtlfomjhjeknnmaaXspecSetGap
import Derived.Test.YtlfomjhjeknnmaaXspecl03Common
import Derived.Test.YtlfomjhjeknnmaaXspecl03Tree
import Derived.Test.YtlfomjhjeknnmaaLDraw
import Derived.Test.YtlfomjhjeknnmaaLGraph
namespace Go.Proofs.Ytlfomjhjeknnmaa.L
open Go.RowKit Go.Proofs.Ytlfomjhjeknnmaa.X Go.Proofs.YtlfomjhjeknnmaaW.PrintWords Go.Proofs.YtlfomjhjeknnmaaW.PrintLast Go.Proofs.YtlfomjhjeknnmaaW.PrintMore
set_option linter.unusedSimpArgs false
set_option linter.unusedVariables false

theorem common_go : ∀ (K : Nat) (a b : Int), 0 ≤ b → b < K → 0 ≤ a → ∃ r, spec_l03Common.l0 K a b = some r
  | 0, a, b, h0, h1, ha => by omega
  | K + 1, a, b, h0, h1, ha => by
    rw [spec_l03Common.l0]
    by_cases hb : b > 0
    · rw [if_pos hb, if_neg (by omega), tmod_nn ha]
      have m0 := Int.emod_nonneg a (show b ≠ 0 by omega)
      have m1 := Int.emod_lt_of_pos a (show 0 < b by omega)
      exact common_go K b (a % b) m0 (by omega) h0
    · rw [if_neg hb]
      exact ⟨_, rfl⟩
theorem common_next (n : Int) (hn : 1 ≤ n) (K : Nat) (hK : 4 ≤ K) : spec_l03Common.l0 K (n + 1) n = some false := by
  obtain ⟨K, rfl⟩ : ∃ m, K = m + 4 := ⟨K - 4, by omega⟩
  rw [spec_l03Common.l0, if_pos (by omega), if_neg (by omega), tmod_nn (by omega)]
  by_cases e : n = 1
  · subst e
    rw [show ((1 : Int) + 1) % 1 = 0 by decide, spec_l03Common.l0, if_neg (by omega)]
    rfl
  · rw [show (n + 1) % n = 1 by rw [Int.add_comm, Int.add_emod_right]; exact Int.emod_eq_of_lt (by omega) (by omega), spec_l03Common.l0, if_pos (by omega), if_neg (by omega), tmod_nn (by omega), Int.emod_one, spec_l03Common.l0, if_neg (by omega)]
    rfl
theorem tree_l3 (n f st j a v : Int) (s : List Int) (i g w h w' h' o : Int) (c : Nat) (hc : c ≤ 16) (ha0 : 0 ≤ a) (ha1 : a < (c : Int)) : ∀ (d m : Nat) (p : List Int) (x : Int), p.length = c → 0 ≤ x → (c : Int) - x = d →
    ∃ p', p'.length = c ∧ spec_l03Tree.l3 (m + d + 1) n p f st j a v x s i g w h w' h' o = spec_l03Tree.l2 m n p' f st (wrap64 (j + 1)) s i g w h w' h' o := by
  intro d
  induction d with
  | zero =>
    intro m p x hp h0 hd
    exact ⟨p, hp, by rw [show m + 0 + 1 = m + 1 by omega, spec_l03Tree.l3, if_neg (by omega)]⟩
  | succ d ih =>
    intro m p x hp h0 hd
    rw [show m + (d + 1) + 1 = (m + d + 1) + 1 by omega, spec_l03Tree.l3, if_pos (by omega), if_pos h0, w64 (x := x + 1) (by omega) (by omega)]
    by_cases e : rd p x = v
    · rw [if_pos e, if_pos ha0, if_pos (by omega)]
      exact ih m _ (x + 1) (by rw [List.length_set]; exact hp) (by omega) (by omega)
    · rw [if_neg e]
      exact ih m p (x + 1) hp (by omega) (by omega)
theorem tree_l2 (w h f st : Int) (hf0 : 0 ≤ f) (hf1 : f ≤ 24) (hs0 : 0 ≤ st) (hs1 : st ≤ 25) (s : List Int) (i g : Int) : ∀ (d K : Nat) (p : List Int) (N : Nat) (j : Int), (p.length : Int) = cells w h → 0 ≤ j → gaps w h - j = d → 40 * d + 2 ≤ K → N < 2 ^ (gaps w h).toNat →
    ∃ o, spec_l03Tree.l2 K (gaps w h) p f st j s i g w h w h (N : Int) = some (w, h, o, i, g) ∧ (gridOk w h = true → mazeOk w h o = true) := by
  have hr := gaps_range w h
  have hcr := cells_range w h
  intro d
  induction d with
  | zero =>
    intro K p N j hp h0 hd hK hN
    obtain ⟨K, rfl⟩ : ∃ m, K = m + 1 := ⟨K - 1, by omega⟩
    rw [spec_l03Tree.l2, if_neg (by omega)]
    refine ⟨_, rfl, fun hg => ?_⟩
    unfold mazeOk
    rw [hg, Bool.true_and, decide_eq_true_eq, pow_cast]
    omega
  | succ d ih =>
    intro K p N j hp h0 hd hK hN
    obtain ⟨m, rfl⟩ : ∃ m, K = (m + p.length + 1) + 1 := ⟨K - p.length - 2, by omega⟩
    have b0 : 0 ≤ j * st := Int.mul_nonneg h0 hs0
    have b1 : j * st ≤ 24 * 25 := Int.mul_le_mul (by omega) hs1 hs0 (by omega)
    rw [spec_l03Tree.l2, if_pos (by omega), if_neg (by omega), w64 (x := j * st) (by omega) (by omega), w64 (x := f + j * st) (by omega) (by omega), tmod_nn (by omega)]
    have m0 := Int.emod_nonneg (f + j * st) (show gaps w h ≠ 0 by omega)
    have m1 := Int.emod_lt_of_pos (f + j * st) (show 0 < gaps w h by omega)
    generalize (f + j * st) % gaps w h = q at m0 m1
    have hgap : isGap w h q = true := by unfold isGap; exact decide_eq_true ⟨m0, m1⟩
    obtain ⟨ca, cb, _, _⟩ := end_tells hgap
    have la := cellD_lt ca
    have lb := cellD_lt cb
    rw [sEndsOf w h q hgap]
    simp only [Option.bind_some]
    rw [if_pos la.1, if_pos (by omega), if_pos lb.1, if_pos (by omega), if_pos m0]
    by_cases e : rd p (endA w h q) = rd p (endB w h q)
    · rw [if_pos e, w64 (x := j + 1) (by omega) (by omega)]
      exact ih (m + p.length + 1) p N (j + 1) hp (by omega) (by omega) (by omega) hN
    · rw [if_neg e, shl_one m0 (by omega), pow_cast, bits_or N _ (Nat.lt_of_lt_of_le hN (Nat.pow_le_pow_right (by decide) (by omega))) (Nat.pow_lt_pow_right (by decide) (by omega))]
      obtain ⟨p', hp', e3⟩ := tree_l3 (gaps w h) f st j (endA w h q) (rd p (endB w h q)) s i g w h w h ((N ||| 2 ^ q.toNat : Nat) : Int) p.length (by omega) la.1 (by omega) p.length m p 0 rfl (by omega) (by omega)
      rw [e3, w64 (x := j + 1) (by omega) (by omega)]
      exact ih m p' _ (j + 1) (by omega) (by omega) (by omega) (by omega) (Nat.or_lt_two_pow hN (Nat.pow_lt_pow_right (by decide) (by omega)))
theorem tree_l1 (w h f : Int) (hf0 : 0 ≤ f) (hf1 : f ≤ 24) (s : List Int) (i g : Int) (p : List Int) (hp : (p.length : Int) = cells w h) (hn : 1 ≤ gaps w h) : ∀ (d K : Nat) (st : Int), 1 ≤ st → gaps w h + 1 - st = d → d + 1000 ≤ K →
    ∃ o, spec_l03Tree.l1 K (gaps w h) p f st s i g w h w h 0 = some (w, h, o, i, g) ∧ (gridOk w h = true → mazeOk w h o = true) := by
  have hr := gaps_range w h
  have fin : ∀ (K : Nat) (st : Int), 1 ≤ st → st ≤ 25 → 999 ≤ K → spec_l03Common.l0 K st (gaps w h) = some false → ∃ o, spec_l03Tree.l1 (K + 1) (gaps w h) p f st s i g w h w h 0 = some (w, h, o, i, g) ∧ (gridOk w h = true → mazeOk w h o = true) := fun K st h1 h2 hK e => by
    rw [spec_l03Tree.l1]
    unfold spec_l03Common.f
    rw [e, Option.bind_some, if_neg (by simp)]
    exact tree_l2 w h f st hf0 hf1 (by omega) h2 s i g (gaps w h).toNat K p 0 0 hp (by omega) (by omega) (by omega) (Nat.pow_pos (by decide))
  intro d
  induction d with
  | zero =>
    intro K st h1 hd hK
    obtain ⟨K, rfl⟩ : ∃ m, K = m + 1 := ⟨K - 1, by omega⟩
    refine fin K st h1 (by omega) (by omega) ?_
    rw [show st = gaps w h + 1 by omega]
    exact common_next _ hn K (by omega)
  | succ d ih =>
    intro K st h1 hd hK
    obtain ⟨K, rfl⟩ : ∃ m, K = m + 1 := ⟨K - 1, by omega⟩
    obtain ⟨r, e⟩ := common_go K st (gaps w h) hr.1 (by omega) (by omega)
    cases r with
    | false => exact fin K st h1 (by omega) (by omega) e
    | true =>
      rw [spec_l03Tree.l1]
      unfold spec_l03Common.f
      rw [e, Option.bind_some, if_pos rfl, w64 (x := st + 1) (by omega) (by omega)]
      exact ih K (st + 1) (by omega) (by omega) (by omega)
theorem tree_l0 (w h : Int) (hg : gridOk w h = true) (s : List Int) (hs : s.length ≤ 140737488355328) (i g : Int) (h0 : 0 ≤ i) (h1 : i ≤ (s.length : Int)) : ∀ (d K : Nat) (p : List Int) (x : Int), (p.length : Int) = cells w h → 0 ≤ x → cells w h - x = d → d + 1100 ≤ K →
    ∃ o i' g', spec_l03Tree.l0 K (gaps w h) p x s i g w h w h 0 = some (w, h, o, i', g') ∧ mazeOk w h o = true ∧ 0 ≤ i' ∧ i' ≤ (s.length : Int) := by
  have hr := gaps_range w h
  have hcr := cells_range w h
  intro d
  induction d with
  | zero =>
    intro K p x hp hx hd hK
    obtain ⟨K, rfl⟩ : ∃ m, K = m + 1 := ⟨K - 1, by omega⟩
    rw [spec_l03Tree.l0, if_neg (by omega)]
    by_cases e : gaps w h = 0
    · rw [if_pos e]
      refine ⟨0, i, g, rfl, ?_, h0, h1⟩
      unfold mazeOk
      rw [hg, e]
      rfl
    · rw [if_neg e]
      obtain ⟨v1, i1, g1, e1, a1, b1, c1, d1⟩ := below_ok s i g (gaps w h) h0 h1 hs (by omega) (by omega)
      obtain ⟨v2, i2, g2, e2, a2, b2, c2, d2⟩ := below_ok s i1 g1 (gaps w h) c1 d1 hs (by omega) (by omega)
      rw [e1]
      simp only [Option.bind_some]
      rw [e2]
      simp only [Option.bind_some]
      rw [w64 (x := 1 + v2) (by omega) (by omega)]
      obtain ⟨o, e3, ho⟩ := tree_l1 w h v1 a1 (by omega) s i2 g2 p hp (by omega) (gaps w h + 1 - (1 + v2)).toNat K (1 + v2) (by omega) (by omega) (by omega)
      exact ⟨o, i2, g2, e3, ho hg, c2, d2⟩
  | succ d ih =>
    intro K p x hp hx hd hK
    obtain ⟨K, rfl⟩ : ∃ m, K = m + 1 := ⟨K - 1, by omega⟩
    rw [spec_l03Tree.l0, if_pos (by omega), if_pos hx, w64 (x := x + 1) (by omega) (by omega)]
    exact ih K _ (x + 1) (by rw [List.length_set]; exact hp) (by omega) (by omega) (by omega)
theorem draw_tree (w h : Int) (hg : gridOk w h = true) (s : List Int) (hs : s.length ≤ 140737488355328) (i g : Int) (h0 : 0 ≤ i) (h1 : i ≤ (s.length : Int)) (K : Nat) (hK : 1200 ≤ K) :
    ∃ o i' g', spec_l03Tree.f K s i g w h = some (w, h, o, i', g') ∧ mazeOk w h o = true ∧ 0 ≤ i' ∧ i' ≤ (s.length : Int) := by
  have hcr := cells_range w h
  unfold spec_l03Tree.f
  rw [sCountGaps, Option.bind_some, sCountCells, Option.bind_some, if_pos hcr.1, if_pos (by omega)]
  exact tree_l0 w h hg s hs i g h0 h1 (cells w h).toNat K _ 0 (by rw [List.length_replicate]; omega) (by omega) (by omega) (by omega)
end Go.Proofs.Ytlfomjhjeknnmaa.L
