/- The cells from which one can miss another. -/
import Derived.Test.YtlfomjhjeknnmaaXimplIsSafe
import Derived.Test.YtlfomjhjeknnmaaXimplTrappedCells
import Derived.Test.YtlfomjhjeknnmaaXimplisTrapped
import Derived.Test.YtlfomjhjeknnmaaXlawsmarkGateS
import Derived.Test.YtlfomjhjeknnmaaXlawsmarkTimed
import Derived.Test.YtlfomjhjeknnmaaXspecIsSafe
import Derived.Test.YtlfomjhjeknnmaaXspecTrappedCells
import Derived.Test.YtlfomjhjeknnmaaLGates
namespace Go.Proofs.Ytlfomjhjeknnmaa.L
open Go.RowKit Go.Proofs.Ytlfomjhjeknnmaa.X Go.Proofs.YtlfomjhjeknnmaaW.PrintWords Go.Proofs.YtlfomjhjeknnmaaW.PrintLast Go.Proofs.YtlfomjhjeknnmaaW.PrintMore
set_option linter.unusedSimpArgs false
set_option linter.unusedVariables false

noncomputable def trapB (w h o p : Int) (l : List Gt) (x b : Int) : Nat → Int → Bool
  | 0, _ => false
  | n + 1, j => if earliest w h o p l x j b < 0 then true else trapB w h o p l x b n (j + 1)
noncomputable def trapGo (w h o p : Int) (l : List Gt) (b : Int) : Nat → Int → List Int
  | 0, _ => []
  | n + 1, c => if trapB w h o p l c b p.toNat 0 = true then c :: trapGo w h o p l b n (c + 1) else trapGo w h o p l b n (c + 1)
noncomputable def trapped (w h o p : Int) (l : List Gt) (b : Int) : List Int := if timedOk w h o p l = true ∧ isCell w h b = true then trapGo w h o p l b (cells w h).toNat 0 else []
theorem trapGo_len (w h o p : Int) (l : List Gt) (b : Int) : ∀ (n : Nat) (c : Int), (trapGo w h o p l b n c).length ≤ n
  | 0, _ => Nat.le_refl _
  | n + 1, c => by
    have := trapGo_len w h o p l b n (c + 1)
    unfold trapGo
    split
    · simp only [List.length_cons]; omega
    · omega
theorem iTrapped_go (w h o p x b : Int) (l : List Gt) (hp : p ≤ 6) : ∀ (n K : Nat) (j : Int), 0 ≤ j → p - j = n → n + 242 ≤ K → impl_isTrapped.l0 K x b j w h o p l = some (trapB w h o p l x b n j) := by
  intro n
  induction n with
  | zero =>
    intro K j h0 hn hK
    obtain ⟨K, rfl⟩ : ∃ m, K = m + 1 := ⟨K - 1, by omega⟩
    rw [impl_isTrapped.l0, if_neg (by omega)]
    rfl
  | succ n ih =>
    intro K j h0 hn hK
    obtain ⟨K, rfl⟩ : ∃ m, K = m + 1 := ⟨K - 1, by omega⟩
    rw [impl_isTrapped.l0, if_pos (by omega), iEarliestAt K (by omega), Option.bind_some, trapB]
    by_cases e : earliest w h o p l x j b < 0
    · rw [if_pos e, if_pos e]
    · rw [if_neg e, if_neg e, w64 (x := j + 1) (by omega) (by omega)]
      exact ih K (j + 1) (by omega) (by omega) (by omega)
theorem iTrapped (w h o p x b : Int) (l : List Gt) (hp : 1 ≤ p ∧ p ≤ 6) (K : Nat) (hK : 260 ≤ K) : impl_isTrapped.f K w h o p l x b = some (trapB w h o p l x b p.toNat 0) := iTrapped_go w h o p x b l hp.2 p.toNat K 0 (by omega) (by omega) (by omega)
theorem iTrappedCells_go (w h o p b : Int) (l : List Gt) (hp : 1 ≤ p ∧ p ≤ 6) : ∀ (n K : Nat) (c : Int) (xs : List Int), 0 ≤ c → cells w h - c = n → n + 262 ≤ K → xs.length + n ≤ 16 → impl_TrappedCells.l0 K b xs c w h o p l = some (xs ++ trapGo w h o p l b n c) := by
  have hr := cells_range w h
  intro n
  induction n with
  | zero =>
    intro K c xs h0 hn hK hx
    obtain ⟨K, rfl⟩ : ∃ m, K = m + 1 := ⟨K - 1, by omega⟩
    rw [impl_TrappedCells.l0, iCountCells, Option.bind_some, if_neg (by omega)]
    simp [trapGo]
  | succ n ih =>
    intro K c xs h0 hn hK hx
    obtain ⟨K, rfl⟩ : ∃ m, K = m + 1 := ⟨K - 1, by omega⟩
    rw [impl_TrappedCells.l0, iCountCells, Option.bind_some, if_pos (by omega), iTrapped w h o p c b l hp K (by omega), Option.bind_some, trapGo, w64 (x := c + 1) (by omega) (by omega)]
    by_cases e : trapB w h o p l c b p.toNat 0 = true
    · rw [if_pos e, if_pos e, if_pos (by omega), ih K (c + 1) (xs ++ [c]) (by omega) (by omega) (by omega) (by simp only [List.length_append, List.length_singleton]; omega), List.append_assoc]
      rfl
    · rw [if_neg e, if_neg e, ih K (c + 1) xs (by omega) (by omega) (by omega) (by omega)]
theorem iTrappedCells (w h o p b : Int) (l : List Gt) (K : Nat) (hK : 290 ≤ K) : impl_TrappedCells.f K w h o p l b = some (trapped w h o p l b) := by
  have hr := cells_range w h
  obtain ⟨K', rfl⟩ : ∃ m, K = m + 1 := ⟨K - 1, by omega⟩
  unfold impl_TrappedCells.f trapped
  rw [iTimedOk _ w h o p l (by omega), Option.bind_some]
  by_cases z : timedOk w h o p l = true
  · have q := timedOk_parts z
    rw [if_pos z, iisIn1, Option.bind_some]
    unfold has
    rw [q.1, impl_TrappedCells.j0]
    by_cases hb : isCell w h b = true
    · rw [if_neg (by rw [hb]; simp), if_pos ⟨z, hb⟩]
      have e := iTrappedCells_go w h o p b l q.2.1 (cells w h).toNat K' 0 [] (by omega) (by omega) (by omega) (by simp only [List.length_nil]; omega)
      simpa using e
    · have hb' : isCell w h b = false := by simpa using hb
      rw [if_pos (by rw [hb']; rfl), if_neg fun y => hb y.2]
  · rw [if_neg z, impl_TrappedCells.j0, if_pos rfl, if_neg fun y => z y.1]
theorem iIsSafe (w h o p b : Int) (l : List Gt) (K : Nat) (hK : 290 ≤ K) : impl_IsSafe.f K w h o p l b = some (decide (timedOk w h o p l = true ∧ isCell w h b = true ∧ trapped w h o p l b = [])) := by
  unfold impl_IsSafe.f
  rw [iTimedOk _ w h o p l (by omega), Option.bind_some]
  by_cases z : timedOk w h o p l = true
  · rw [if_pos z, iisIn1, Option.bind_some]
    unfold has
    rw [(timedOk_parts z).1]
    by_cases hb : isCell w h b = true
    · rw [if_pos (by rw [hb]; rfl), iTrappedCells w h o p b l K hK, Option.bind_some]
      cases e : trapped w h o p l b with
      | nil => rw [decide_eq_true ⟨z, hb, rfl⟩]; rfl
      | cons x xs =>
        rw [decide_eq_false fun y => by cases y.2.2]
        have : (((x :: xs).length : Int) == 0) = false := by
          rw [beq_eq_false_iff_ne]
          simp only [List.length_cons]
          omega
        rw [this]
    · have hb' : isCell w h b = false := by simpa using hb
      rw [if_neg (by rw [hb']; simp), decide_eq_false fun y => hb y.2.1]
  · rw [if_neg z, decide_eq_false fun y => z y.1]
theorem sTrapped_go (w h o p x b : Int) (l : List Gt) (hp : p ≤ 6) (xs : List Int) (hx : xs.length ≤ 16) : ∀ (n m : Nat) (j : Int) (f : Bool), 0 ≤ j → p - j = n → 1020 ≤ m →
    spec_TrappedCells.l1 (n + 1 + m) b xs x f j w h o p l = if (f || trapB w h o p l x b n j) = true then spec_TrappedCells.l0 m b (xs ++ [x]) (wrap64 (x + 1)) w h o p l else spec_TrappedCells.l0 m b xs (wrap64 (x + 1)) w h o p l := by
  intro n
  induction n with
  | zero =>
    intro m j f h0 hn hm
    rw [show 0 + 1 + m = m + 1 by omega, spec_TrappedCells.l1, if_neg (by omega), if_pos (show xs.length < 17592186044416 by omega)]
    rw [trapB, Bool.or_false]
  | succ n ih =>
    intro m j f h0 hn hm
    rw [show n + 1 + 1 + m = (n + 1 + m) + 1 by omega, spec_TrappedCells.l1, if_pos (by omega), w64 (x := j + 1) (by omega) (by omega), sEarliestAt (n + 1 + m) (by omega), Option.bind_some, ih m (j + 1) true (by omega) (by omega) hm, ih m (j + 1) _ (by omega) (by omega) hm, trapB]
    cases f with
    | true => simp
    | false =>
      by_cases e : earliest w h o p l x j b < 0
      · simp [e]
      · simp [e]
theorem sTrappedCells_go (w h o p b : Int) (l : List Gt) (z : timedOk w h o p l = true) (hb : isCell w h b = true) : ∀ (n K : Nat) (c : Int) (xs : List Int), 0 ≤ c → cells w h - c = n → 10 * n + 1040 ≤ K → xs.length + n ≤ 16 → spec_TrappedCells.l0 K b xs c w h o p l = some (xs ++ trapGo w h o p l b n c) := by
  have hr := cells_range w h
  have q := timedOk_parts z
  intro n
  induction n with
  | zero =>
    intro K c xs h0 hn hK hx
    obtain ⟨K, rfl⟩ : ∃ m, K = m + 2 := ⟨K - 2, by omega⟩
    rw [spec_TrappedCells.l0, sCountCells, Option.bind_some, if_neg (by omega), spec_TrappedCells.j1, if_neg (by simp)]
    simp [trapGo]
  | succ n ih =>
    intro K c xs h0 hn hK hx
    obtain ⟨m, rfl⟩ : ∃ m, K = (p.toNat + 1 + m) + 2 := ⟨K - 2 - (p.toNat + 1), by omega⟩
    rw [spec_TrappedCells.l0, sCountCells, Option.bind_some, if_pos (by omega), sTimedOk _ w h o p l (by omega), Option.bind_some, if_pos z, sHas, Option.bind_some]
    unfold has
    rw [q.1, hb, spec_TrappedCells.j1, if_pos (show (true && true) = true from rfl), sTrapped_go w h o p c b l q.2.1.2 xs (by omega) p.toNat m 0 false (by omega) (by omega) (by omega), Bool.false_or, trapGo, w64 (x := c + 1) (by omega) (by omega)]
    by_cases e : trapB w h o p l c b p.toNat 0 = true
    · rw [if_pos e, if_pos e, ih m (c + 1) (xs ++ [c]) (by omega) (by omega) (by omega) (by simp only [List.length_append, List.length_singleton]; omega), List.append_assoc]
      rfl
    · rw [if_neg e, if_neg e, ih m (c + 1) xs (by omega) (by omega) (by omega) (by omega)]
theorem sTrappedCells (w h o p b : Int) (l : List Gt) (K : Nat) (hK : 1300 ≤ K) : spec_TrappedCells.f K w h o p l b = some (trapped w h o p l b) := by
  have hr := cells_range w h
  unfold spec_TrappedCells.f trapped
  by_cases z : timedOk w h o p l = true ∧ isCell w h b = true
  · rw [if_pos z]
    have e := sTrappedCells_go w h o p b l z.1 z.2 (cells w h).toNat K 0 [] (by omega) (by omega) (by omega) (by simp only [List.length_nil]; omega)
    simpa using e
  · rw [if_neg z]
    obtain ⟨K, rfl⟩ : ∃ m, K = m + 2 := ⟨K - 2, by omega⟩
    have no : ∀ xs, spec_TrappedCells.j1 (K + 1) b xs 0 false w h o p l = some xs := fun xs => by rw [spec_TrappedCells.j1, if_neg (by simp)]
    rw [spec_TrappedCells.l0, sCountCells, Option.bind_some, sTimedOk _ w h o p l (by omega), Option.bind_some, sHas, Option.bind_some, no]
    by_cases c0 : 0 < cells w h
    · rw [if_pos c0]
      by_cases zt : timedOk w h o p l = true
      · have hb' : isCell w h b = false := by
          cases hb : isCell w h b with
          | false => rfl
          | true => exact absurd ⟨zt, hb⟩ z
        rw [if_pos zt]
        unfold has
        rw [hb', Bool.and_false, no]
      · rw [if_neg zt]
    · rw [if_neg c0]
theorem sIsSafe (w h o p b : Int) (l : List Gt) (K : Nat) (hK : 1300 ≤ K) : spec_IsSafe.f K w h o p l b = some (decide (timedOk w h o p l = true ∧ isCell w h b = true ∧ trapped w h o p l b = [])) := by
  unfold spec_IsSafe.f
  rw [sTimedOk _ w h o p l (by omega), Option.bind_some]
  by_cases z : timedOk w h o p l = true
  · rw [if_pos z, sHas, Option.bind_some]
    unfold has
    rw [(timedOk_parts z).1]
    by_cases hb : isCell w h b = true
    · rw [if_pos (by rw [hb]; rfl), sTrappedCells w h o p b l K hK, Option.bind_some]
      cases e : trapped w h o p l b with
      | nil => rw [decide_eq_true ⟨z, hb, rfl⟩]; rfl
      | cons x xs =>
        rw [decide_eq_false fun y => by cases y.2.2]
        have : (((x :: xs).length : Int) == 0) = false := by
          rw [beq_eq_false_iff_ne]
          simp only [List.length_cons]
          omega
        rw [this]
    · have hb' : isCell w h b = false := by simpa using hb
      rw [if_neg (by rw [hb']; simp), decide_eq_false fun y => hb y.2.1]
  · rw [if_neg z, decide_eq_false fun y => z y.1]
theorem markGateS_go : ∀ (d k : Nat) (x : List Gt) (m i : Int), 0 ≤ i → i ≤ (x.length : Int) → (x.length : Int) - i = d → d < k → 0 ≤ m → m + 2 * d ≤ 140737488355328 → i + d ≤ 140737488355328 → ∃ y, laws_markGateS.l0 k x m i = some (m + 2 * d, y) := by
  intro d
  induction d with
  | zero =>
    intro k x m i h0 h1 hd hk hm hm2 hi
    obtain ⟨k, rfl⟩ : ∃ z, k = z + 1 := ⟨k - 1, by omega⟩
    rw [laws_markGateS.l0, if_neg (by omega)]
    exact ⟨x, by simp⟩
  | succ d ih =>
    intro k x m i h0 h1 hd hk hm hm2 hi
    obtain ⟨k, rfl⟩ : ∃ z, k = z + 1 := ⟨k - 1, by omega⟩
    rw [laws_markGateS.l0, if_pos (by omega), if_pos h0, Option.bind_some, w64 (x := m + 1) (by omega) (by omega), w64 (x := m + 1 + 1) (by omega) (by omega), w64 (x := i + 1) (by omega) (by omega)]
    obtain ⟨y, e⟩ := ih k ((x.set i.toNat ⟨m, (rd_T56 x i).f1⟩).set i.toNat ⟨(rd_T56 (x.set i.toNat ⟨m, (rd_T56 x i).f1⟩) i).f0, m + 1⟩) (m + 1 + 1) (i + 1) (by omega) (by simp; omega) (by simp; omega) (by omega) (by omega) (by omega) (by omega)
    exact ⟨y, e.trans (by rw [show m + 1 + 1 + 2 * (d : Int) = m + 2 * ((d + 1 : Nat) : Int) by omega])⟩
theorem markTimed (k : Nat) (w h o p : Int) (l : List Gt) (hl : l.length ≤ 1048576) (hk : l.length < k) : ∃ y, laws_markTimed.f k w h o p l 1 = some (1 + 2 * (l.length : Int), y) := by
  unfold laws_markTimed.f laws_markGateS.f
  obtain ⟨y, e⟩ := markGateS_go l.length k l 1 0 (by omega) (by omega) (by omega) hk (by omega) (by omega) (by omega)
  rw [e]
  exact ⟨y, rfl⟩
end Go.Proofs.Ytlfomjhjeknnmaa.L
