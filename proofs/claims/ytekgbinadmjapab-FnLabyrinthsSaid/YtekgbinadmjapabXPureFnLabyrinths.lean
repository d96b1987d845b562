/- P27: a labyrinth is one from the inside, too. For every text of bytes that the statement speaks of. -/
import Derived.Test.YtekgbinadmjapabXlawsFnLabyrinths
import Derived.Test.YtekgbinadmjapabLMirror
namespace Go.Proofs.Ytekgbinadmjapab.Pure
open Go.RowKit Go.Proofs.Ytekgbinadmjapab.X Go.Proofs.Ytekgbinadmjapab.L Go.Proofs.YtekgbinadmjapabW.PrintWords Go.Proofs.YtekgbinadmjapabW.PrintLast
set_option linter.unusedSimpArgs false

theorem at_ok (l : List Int) (hl : l.length ≤ 2000000) (hx : ∀ x ∈ l, (Lit.int .u8 x).wf = true) : ∃ v, laws_at.f l 0 = some v ∧ 0 ≤ v := by
  unfold laws_at.f
  by_cases c : (l.length : Int) = 0
  · rw [if_pos c]
    exact ⟨_, rfl, Int.le_refl _⟩
  · rw [if_neg c]
    have e : Int.tmod (wrap64 ((wrap64 (0 * 5)) + 1)) (l.length : Int) = 1 % (l.length : Int) := by
      rw [show wrap64 ((wrap64 (0 * 5)) + 1) = 1 by (unfold wrap64; omega), Int.tmod_eq_emod_of_nonneg (by omega)]
    have h0 : 0 ≤ 1 % (l.length : Int) := Int.emod_nonneg _ c
    have h1 : 1 % (l.length : Int) < (l.length : Int) := Int.emod_lt_of_pos _ (by omega)
    rw [e, if_pos h0, if_pos h1]
    have hb := hx _ (mem_rd' h0 h1)
    have hb1 : IntKind.u8.min ≤ rd l (1 % (l.length : Int)) ∧ rd l (1 % (l.length : Int)) ≤ IntKind.u8.max := by simpa [Lit.wf] using hb
    have e0 : IntKind.u8.min = 0 := by decide
    have e1 : IntKind.u8.max = 255 := by decide
    rw [e0, e1] at hb1
    have hb2 : 0 ≤ rd l (1 % (l.length : Int)) ∧ rd l (1 % (l.length : Int)) ≤ 255 := hb1
    refine ⟨_, rfl, ?_⟩
    rw [w64 (by omega) (by omega)]
    exact hb2.1
/-- The last tests: what they ask of the two known labyrinths is 'hu', 'hd'. -/
theorem last_ok (k : Nat) (l up down : List Int) (n : Int) (hg : L.Good l) (hk : 4500 ≤ k) (hu : n = 5 ∨ (labOk up = true ∧ up.length ≤ 9)) (hd : n = 5 ∨ (labOk down = true ∧ down.length ≤ 9)) : laws_FnLabyrinths.j1 k l (turnInside l) n up down = some true := by
  obtain ⟨k, rfl⟩ : ∃ m, k = m + 1 := ⟨k - 1, by omega⟩
  have h7 := hg.2.1
  have ht := good_turn hg
  have hlt := turnInside_length l
  have hc := good_ok hg
  have hct := good_ok ht
  have hs := pairs_sum hg
  rw [laws_FnLabyrinths.j1, iCircuitsOk k _ (by omega) (by omega), hct]
  simp only [Option.bind_some, if_true]
  rw [iTurnInside k _ (by omega) (by omega), hct]
  simp only [Option.bind_some, if_true]
  rw [turn_turn, same k l (by omega) (by omega)]
  simp only [Option.bind_some, if_true]
  rw [iIsLab k _ (by omega) (by omega)]
  simp only [Option.bind_some]
  rw [iIsLab k l (by omega) (by omega)]
  simp only [Option.bind_some]
  rw [mirror hg, if_pos (by simp)]
  have hp0 := iPairs k l 0 hc (.inl rfl) (by omega)
  have hp1 := iPairs k l 1 hc (.inr rfl) (by omega)
  have hfin : (wrap64 (((pairs l 0).length : Int) + ((pairs l 1).length : Int)) == wrap64 ((l.length : Int) + 1)) = true := by rw [hs]; simp
  by_cases e : n = 5
  · rw [if_pos e, hp0]
    simp only [Option.bind_some]
    rw [hp1]
    simp only [Option.bind_some]
    rw [hfin]
  · rw [if_neg e]
    have hu' := hu.resolve_left e
    have hd' := hd.resolve_left e
    rw [iIsLab k up (by omega) (by omega), hu'.1]
    simp only [Option.bind_some, if_true]
    rw [iIsLab k down (by omega) (by omega), hd'.1]
    simp only [Option.bind_some, if_true]
    rw [hp0]
    simp only [Option.bind_some]
    rw [hp1]
    simp only [Option.bind_some]
    rw [hfin]
theorem known_lab {l : List Int} (hl : l.length ≤ 9) (h : impl_IsLabyrinth.f 2000 l = some true) : labOk l = true ∧ l.length ≤ 9 := by
  have := iIsLab 2000 l (by omega) (by omega)
  rw [h] at this
  exact ⟨(Option.some.inj this).symm, hl⟩
set_option maxRecDepth 100000 in
theorem round_ok (l : List Int) (hg : L.Good l) (n : Int) (h0 : 0 ≤ n) (h5 : n ≤ 5) : laws_FnLabyrinths.l0 5000 l (turnInside l) n [] [] 1 = some true := by
  have hcases : n = 0 ∨ n = 1 ∨ n = 2 ∨ n = 3 ∨ n = 4 ∨ n = 5 := by omega
  rcases hcases with rfl | rfl | rfl | rfl | rfl | rfl
  · simp [laws_FnLabyrinths.l0, wrap64]
    exact last_ok _ l _ _ _ hg (by omega) (.inr (known_lab (by decide) (by decide +kernel))) (.inr (known_lab (by decide) (by decide +kernel)))
  · simp [laws_FnLabyrinths.l0, wrap64]
    exact last_ok _ l _ _ _ hg (by omega) (.inr (known_lab (by decide) (by decide +kernel))) (.inr (known_lab (by decide) (by decide +kernel)))
  · simp [laws_FnLabyrinths.l0, wrap64]
    exact last_ok _ l _ _ _ hg (by omega) (.inr (known_lab (by decide) (by decide +kernel))) (.inr (known_lab (by decide) (by decide +kernel)))
  · simp [laws_FnLabyrinths.l0, wrap64]
    exact last_ok _ l _ _ _ hg (by omega) (.inr (known_lab (by decide) (by decide +kernel))) (.inr (known_lab (by decide) (by decide +kernel)))
  · simp [laws_FnLabyrinths.l0, wrap64]
    exact last_ok _ l _ _ _ hg (by omega) (.inr (known_lab (by decide) (by decide +kernel))) (.inr (known_lab (by decide) (by decide +kernel)))
  · simp [laws_FnLabyrinths.l0, wrap64]
    exact last_ok _ l _ _ _ hg (by omega) (.inl rfl) (.inl rfl)
theorem FnLabyrinths : laws_FnLabyrinths.Pure := by
  intro s _ _ hx
  refine ⟨5000, ?_⟩
  unfold laws_FnLabyrinths.f laws_big.f
  simp only [Option.bind_some]
  by_cases hb : (s.length : Int) > 1048576
  · rw [decide_eq_true hb, if_pos rfl]
  · rw [decide_eq_false hb, if_neg (by simp)]
    obtain ⟨l, e, hg⟩ := circuits_drawn 5000 s (by omega) (by omega)
    obtain ⟨v, ev, hv⟩ := at_ok s (by omega) hx
    rw [e]
    simp only [Option.bind_some]
    rw [iTurnInside 5000 l (by have := hg.2.1; omega) (by have := hg.2.1; omega), good_ok hg]
    simp only [Option.bind_some, if_true]
    rw [ev]
    simp only [Option.bind_some]
    have h6 : 0 ≤ Int.tmod v 6 ∧ Int.tmod v 6 ≤ 5 := by
      rw [Int.tmod_eq_emod_of_nonneg hv]
      omega
    exact round_ok l hg _ h6.1 h6.2
end Go.Proofs.Ytekgbinadmjapab.Pure
