/- The cells from which one can miss another. -/
import Derived.Test.YtlfomjhjeknnmaaXimplIsSafe
import Derived.Test.YtlfomjhjeknnmaaXimplTrappedCells
import Derived.Test.YtlfomjhjeknnmaaXimplisTrapped
import Derived.Test.YtlfomjhjeknnmaaLGates
namespace Go.Proofs.Ytlfomjhjeknnmaa.L
open Go.RowKit Go.Proofs.Ytlfomjhjeknnmaa.X Go.Proofs.YtlfomjhjeknnmaaW.PrintWords Go.Proofs.YtlfomjhjeknnmaaW.PrintLast Go.Proofs.YtlfomjhjeknnmaaW.PrintMore
set_option linter.unusedSimpArgs false
set_option linter.unusedVariables false

noncomputable def trapB (w h o p : Int) (l : List Gt) (x b : Int) : Nat → Int → Bool
  | 0, _ => false
  | n + 1, j => if earliest w h o p l x j b < 0 then true else trapB w h o p l x b n (j + 1)
noncomputable def trapGo (w h o p : Int) (l : List Gt) (b : Int) : Nat → Int → List Int
  | 0, _ => []
  | n + 1, c => if trapB w h o p l c b p.toNat 0 = true then c :: trapGo w h o p l b n (c + 1) else trapGo w h o p l b n (c + 1)
noncomputable def trapped (w h o p : Int) (l : List Gt) (b : Int) : List Int := if timedOk w h o p l = true ∧ isCell w h b = true then trapGo w h o p l b (cells w h).toNat 0 else []
theorem trapGo_len (w h o p : Int) (l : List Gt) (b : Int) : ∀ (n : Nat) (c : Int), (trapGo w h o p l b n c).length ≤ n
  | 0, _ => Nat.le_refl _
  | n + 1, c => by
    have := trapGo_len w h o p l b n (c + 1)
    unfold trapGo
    split
    · simp only [List.length_cons]; omega
    · omega
theorem iTrapped_go (w h o p x b : Int) (l : List Gt) (hp : p ≤ 6) : ∀ (n K : Nat) (j : Int), 0 ≤ j → p - j = n → n + 242 ≤ K → impl_isTrapped.l0 K x b j w h o p l = some (trapB w h o p l x b n j) := by
  intro n
  induction n with
  | zero =>
    intro K j h0 hn hK
    obtain ⟨K, rfl⟩ : ∃ m, K = m + 1 := ⟨K - 1, by omega⟩
    rw [impl_isTrapped.l0, if_neg (by omega)]
    rfl
  | succ n ih =>
    intro K j h0 hn hK
    obtain ⟨K, rfl⟩ : ∃ m, K = m + 1 := ⟨K - 1, by omega⟩
    rw [impl_isTrapped.l0, if_pos (by omega), iEarliestAt K (by omega), Option.bind_some, trapB]
    by_cases e : earliest w h o p l x j b < 0
    · rw [if_pos e, if_pos e]
    · rw [if_neg e, if_neg e, w64 (x := j + 1) (by omega) (by omega)]
      exact ih K (j + 1) (by omega) (by omega) (by omega)
theorem iTrapped (w h o p x b : Int) (l : List Gt) (hp : 1 ≤ p ∧ p ≤ 6) (K : Nat) (hK : 260 ≤ K) : impl_isTrapped.f K w h o p l x b = some (trapB w h o p l x b p.toNat 0) := iTrapped_go w h o p x b l hp.2 p.toNat K 0 (by omega) (by omega) (by omega)
theorem iTrappedCells_go (w h o p b : Int) (l : List Gt) (hp : 1 ≤ p ∧ p ≤ 6) : ∀ (n K : Nat) (c : Int) (xs : List Int), 0 ≤ c → cells w h - c = n → n + 262 ≤ K → xs.length + n ≤ 16 → impl_TrappedCells.l0 K b xs c w h o p l = some (xs ++ trapGo w h o p l b n c) := by
  have hr := cells_range w h
  intro n
  induction n with
  | zero =>
    intro K c xs h0 hn hK hx
    obtain ⟨K, rfl⟩ : ∃ m, K = m + 1 := ⟨K - 1, by omega⟩
    rw [impl_TrappedCells.l0, iCountCells, Option.bind_some, if_neg (by omega)]
    simp [trapGo]
  | succ n ih =>
    intro K c xs h0 hn hK hx
    obtain ⟨K, rfl⟩ : ∃ m, K = m + 1 := ⟨K - 1, by omega⟩
    rw [impl_TrappedCells.l0, iCountCells, Option.bind_some, if_pos (by omega), iTrapped w h o p c b l hp K (by omega), Option.bind_some, trapGo, w64 (x := c + 1) (by omega) (by omega)]
    by_cases e : trapB w h o p l c b p.toNat 0 = true
    · rw [if_pos e, if_pos e, if_pos (by omega), ih K (c + 1) (xs ++ [c]) (by omega) (by omega) (by omega) (by simp only [List.length_append, List.length_singleton]; omega), List.append_assoc]
      rfl
    · rw [if_neg e, if_neg e, ih K (c + 1) xs (by omega) (by omega) (by omega) (by omega)]
theorem iTrappedCells (w h o p b : Int) (l : List Gt) (K : Nat) (hK : 290 ≤ K) : impl_TrappedCells.f K w h o p l b = some (trapped w h o p l b) := by
  have hr := cells_range w h
  obtain ⟨K', rfl⟩ : ∃ m, K = m + 1 := ⟨K - 1, by omega⟩
  unfold impl_TrappedCells.f trapped
  rw [iTimedOk _ w h o p l (by omega), Option.bind_some]
  by_cases z : timedOk w h o p l = true
  · have q := timedOk_parts z
    rw [if_pos z, iisIn1, Option.bind_some]
    unfold has
    rw [q.1, impl_TrappedCells.j0]
    by_cases hb : isCell w h b = true
    · rw [if_neg (by rw [hb]; simp), if_pos ⟨z, hb⟩]
      have e := iTrappedCells_go w h o p b l q.2.1 (cells w h).toNat K' 0 [] (by omega) (by omega) (by omega) (by simp only [List.length_nil]; omega)
      simpa using e
    · have hb' : isCell w h b = false := by simpa using hb
      rw [if_pos (by rw [hb']; rfl), if_neg fun y => hb y.2]
  · rw [if_neg z, impl_TrappedCells.j0, if_pos rfl, if_neg fun y => z y.1]
theorem iIsSafe (w h o p b : Int) (l : List Gt) (K : Nat) (hK : 290 ≤ K) : impl_IsSafe.f K w h o p l b = some (decide (timedOk w h o p l = true ∧ isCell w h b = true ∧ trapped w h o p l b = [])) := by
  unfold impl_IsSafe.f
  rw [iTimedOk _ w h o p l (by omega), Option.bind_some]
  by_cases z : timedOk w h o p l = true
  · rw [if_pos z, iisIn1, Option.bind_some]
    unfold has
    rw [(timedOk_parts z).1]
    by_cases hb : isCell w h b = true
    · rw [if_pos (by rw [hb]; rfl), iTrappedCells w h o p b l K hK, Option.bind_some]
      cases e : trapped w h o p l b with
      | nil => rw [decide_eq_true ⟨z, hb, rfl⟩]; rfl
      | cons x xs =>
        rw [decide_eq_false fun y => by cases y.2.2]
        have : (((x :: xs).length : Int) == 0) = false := by
          rw [beq_eq_false_iff_ne]
          simp only [List.length_cons]
          omega
        rw [this]
    · have hb' : isCell w h b = false := by simpa using hb
      rw [if_neg (by rw [hb']; simp), decide_eq_false fun y => hb y.2.1]
  · rw [if_neg z, decide_eq_false fun y => z y.1]
end Go.Proofs.Ytlfomjhjeknnmaa.L
