/- If every gate is open at some time in a connected maze, nobody is trapped. No conditions beyond the given bounds on the size of what comes in. -/
import Derived.Test.YtlfomjhjeknnmaaXcsreach
import Derived.Test.YtlfomjhjeknnmaaXlawsFnTimetables
import Derived.Test.YtlfomjhjeknnmaaXlawsbig
import Derived.Test.YtlfomjhjeknnmaaXlawshas
import Derived.Test.YtlfomjhjeknnmaaLTime
import Derived.Test.YtlfomjhjeknnmaaLTrap
import Derived.Test.YtlfomjhjeknnmaaLDrawTimed
import Derived.Test.YtlfomjhjeknnmaaLConn
namespace Go.Proofs.Ytlfomjhjeknnmaa.Pure
open Go.RowKit Go.Proofs.Ytlfomjhjeknnmaa.X Go.Proofs.Ytlfomjhjeknnmaa.L Go.Proofs.YtlfomjhjeknnmaaW.PrintWords Go.Proofs.YtlfomjhjeknnmaaW.PrintLast
set_option linter.unusedSimpArgs false
set_option linter.unusedVariables false

/-- Nobody is trapped just if everybody comes to the exit from every moment of a period. -/
theorem trapB_iff (w h o p x b : Int) (l : List Gt) : ∀ (n : Nat) (j : Int), trapB w h o p l x b n j = false ↔ ∀ i, j ≤ i → i < j + n → 0 ≤ earliest w h o p l x i b
  | 0, j => ⟨fun _ i a b => by omega, fun _ => rfl⟩
  | n + 1, j => by
    unfold trapB
    by_cases e : earliest w h o p l x j b < 0
    · rw [if_pos e]
      exact ⟨fun z => (by cases z), fun z => (by have := z j (Int.le_refl _) (by omega); omega)⟩
    · rw [if_neg e, trapB_iff w h o p x b l n (j + 1)]
      constructor
      · intro z i a1 a2
        by_cases f : i = j
        · rw [f]; omega
        · exact z i (by omega) (by omega)
      · exact fun z i a1 a2 => z i (by omega) (by omega)
theorem mem_trapGo (w h o p b : Int) (l : List Gt) (x : Int) : ∀ (n : Nat) (c : Int), x ∈ trapGo w h o p l b n c ↔ c ≤ x ∧ x < c + n ∧ trapB w h o p l x b p.toNat 0 = true
  | 0, c => by
    unfold trapGo
    simp only [List.not_mem_nil, false_iff]
    omega
  | n + 1, c => by
    have ih := mem_trapGo w h o p b l x n (c + 1)
    unfold trapGo
    by_cases e : trapB w h o p l c b p.toNat 0 = true
    · rw [if_pos e, List.mem_cons, ih]
      constructor
      · rintro (rfl | ⟨a1, a2, a3⟩)
        · exact ⟨Int.le_refl _, by omega, e⟩
        · exact ⟨by omega, by omega, a3⟩
      · rintro ⟨a1, a2, a3⟩
        by_cases f : x = c
        · exact .inl f
        · exact .inr ⟨by omega, by omega, a3⟩
    · rw [if_neg e, ih]
      constructor
      · exact fun ⟨a1, a2, a3⟩ => ⟨by omega, by omega, a3⟩
      · rintro ⟨a1, a2, a3⟩
        refine ⟨?_, by omega, a3⟩
        by_cases f : x = c
        · rw [f] at a3; exact absurd a3 e
        · omega
theorem has_no (l : List Int) (hl : l.length ≤ 100) (x : Int) (hx : x ∉ l) : ∀ (d k : Nat) (i : Int), 0 ≤ i → (l.length : Int) - i = d → d < k → laws_has.l0 k l x i = some false := by
  intro d
  induction d with
  | zero =>
    intro k i h0 hd hk
    obtain ⟨k, rfl⟩ := kpos hk
    rw [laws_has.l0, if_neg (by omega)]
  | succ d ih =>
    intro k i h0 hd hk
    obtain ⟨k, rfl⟩ := kpos hk
    rw [laws_has.l0, if_pos (by omega), if_pos h0, if_neg (fun e => hx (by rw [← e]; exact rd_memL h0 (by omega))), w64 (by omega) (by omega)]
    exact ih k (i + 1) (by omega) (by omega) (by omega)
section
variable {w h o p : Int} {l : List Gt} {b : Int}
theorem safe_iff (z : timedOk w h o p l = true) (hb : isCell w h b = true) : trapped w h o p l b = [] ↔ ∀ c, isCell w h c = true → ∀ i, 0 ≤ i → i < p → 0 ≤ earliest w h o p l c i b := by
  have hp := (timedOk_parts z).2.1
  have hr := cells_range w h
  unfold trapped
  rw [if_pos ⟨z, hb⟩]
  constructor
  · intro e c hc i h0 h1
    have hl := cellD_lt hc
    have n : c ∉ trapGo w h o p l b (cells w h).toNat 0 := by rw [e]; simp
    rw [mem_trapGo] at n
    have f : trapB w h o p l c b p.toNat 0 = false := by
      cases q : trapB w h o p l c b p.toNat 0 with
      | false => rfl
      | true => exact absurd ⟨by omega, by omega, q⟩ n
    exact (trapB_iff w h o p c b l p.toNat 0).1 f i h0 (by omega)
  · intro A
    apply List.eq_nil_iff_forall_not_mem.2
    intro c hc
    rw [mem_trapGo] at hc
    have f := (trapB_iff w h o p c b l p.toNat 0).2 fun i h0 h1 => A c (cell_of hc.1 (by omega)) i h0 (by omega)
    rw [f] at hc
    cases hc.2.2
theorem exit_free (z : timedOk w h o p l = true) (hb : isCell w h b = true) : b ∉ trapped w h o p l b := by
  have hp := (timedOk_parts z).2.1
  unfold trapped
  rw [if_pos ⟨z, hb⟩, mem_trapGo]
  rintro ⟨_, _, e⟩
  rw [(trapB_iff w h o p b b l p.toNat 0).2 fun i h0 h1 => earliest_self z hb h0 (by omega)] at e
  cases e
theorem safe_conn (z : timedOk w h o p l = true) (hb : isCell w h b = true) (hall : ∀ x ∈ l, x.f1 ≠ 0) : trapped w h o p l b = [] ↔ conn w h o = true := by
  have hp := (timedOk_parts z).2.1
  have hm := (timedOk_parts z).1
  rw [safe_iff z hb, conn_iff hm hb]
  constructor
  · intro A c hc
    rcases earliest_tells (q := 0) z hc hb (by omega) (by omega) with ⟨j, _, hj, _, _⟩ | ⟨_, e⟩
    · obtain ⟨n, hn, _⟩ := rs_walk z j b hj
      exact (hn.rch).symm hm
    · have := A c hc 0 (by omega) (by omega)
      omega
  · intro A c hc i h0 h1
    obtain ⟨k, hk⟩ := rs_all (q := i) z hall h0 ((A c hc).symm hm)
    rcases earliest_tells (q := i) z hc hb h0 (by omega) with ⟨j, _, hj, _, e⟩ | ⟨f, _⟩
    · omega
    · exact absurd hk (f k)
theorem end_ok (k : Nat) (hk : 1400 ≤ k) (z : timedOk w h o p l = true) (hb : isCell w h b = true) (all : Bool) (hall : all = true → ∀ x ∈ l, x.f1 ≠ 0) (i : Int) (hi : (l.length : Int) ≤ i) : laws_FnTimetables.l0 (k + 1) b all i w h o p l = some true := by
  have hr := cells_range w h
  have hn : (trapped w h o p l b).length ≤ 16 := by
    unfold trapped
    split
    · have := trapGo_len w h o p l b (cells w h).toNat 0
      omega
    · simp
  have hs : (decide (timedOk w h o p l = true ∧ isCell w h b = true ∧ trapped w h o p l b = [])) = decide (trapped w h o p l b = []) := by
    rw [decide_eq_decide]
    exact ⟨fun y => y.2.2, fun y => ⟨z, hb, y⟩⟩
  have hlen : (decide (trapped w h o p l b = [])) = (((trapped w h o p l b).length : Int) == 0) := by
    rw [Bool.eq_iff_iff, decide_eq_true_eq, beq_iff_eq]
    constructor
    · intro e; rw [e]; rfl
    · intro e
      exact List.eq_nil_of_length_eq_zero (by omega)
  have hno : laws_has.f k (trapped w h o p l b) b = some false := has_no _ (by omega) b (exit_free z hb) (trapped w h o p l b).length k 0 (by omega) (by omega) (by omega)
  rw [laws_FnTimetables.l0, if_neg (by omega), iIsSafe w h o p b l k (by omega), Option.bind_some, iTrappedCells w h o p b l k (by omega), Option.bind_some, hs, hlen, beq_self_eq_true, if_pos rfl, ← hlen]
  cases all with
  | true =>
    have e : decide (trapped w h o p l b = []) = conn w h o := by
      rw [Bool.eq_iff_iff, decide_eq_true_eq]
      exact safe_conn z hb (hall rfl)
    rw [if_pos rfl, sConn k w h o (by omega), Option.bind_some, e, beq_self_eq_true, if_pos rfl, Option.bind_some, hno, Option.bind_some]
    rfl
  | false =>
    rw [if_neg (by simp), Option.bind_some, hno, Option.bind_some]
    rfl
theorem all_go (z : timedOk w h o p l = true) (hb : isCell w h b = true) : ∀ (d k : Nat) (all : Bool) (i : Int), 0 ≤ i → (l.length : Int) - i = d → d + 1401 ≤ k → i ≤ (l.length : Int) → (all = true → ∀ j : Int, 0 ≤ j → j < i → (gt l j).f1 ≠ 0) → laws_FnTimetables.l0 k b all i w h o p l = some true := by
  have h8 := (timedOk_parts z).2.2.1
  intro d
  induction d with
  | zero =>
    intro k all i h0 hd hk hi A
    obtain ⟨k, rfl⟩ : ∃ m, k = m + 1 := ⟨k - 1, by omega⟩
    refine end_ok k (by omega) z hb all (fun ha x hx => ?_) i (by omega)
    obtain ⟨n, hn, rfl⟩ := List.getElem_of_mem hx
    have := A ha (n : Int) (by omega) (by omega)
    rw [gt_get (by omega) (by omega)] at this
    simpa using this
  | succ d ih =>
    intro k all i h0 hd hk hi A
    obtain ⟨k, rfl⟩ : ∃ m, k = m + 1 := ⟨k - 1, by omega⟩
    rw [laws_FnTimetables.l0, if_pos (by omega), w64 (x := i + 1) (by omega) (by omega)]
    cases all with
    | true =>
      rw [if_pos rfl, if_pos h0]
      refine ih k _ (i + 1) (by omega) (by omega) (by omega) (by omega) fun e j j0 j1 => ?_
      by_cases q : j = i
      · subst q
        exact bne_iff_ne.1 e
      · exact A rfl j j0 (by omega)
    | false =>
      rw [if_neg (by simp)]
      exact ih k false (i + 1) (by omega) (by omega) (by omega) (by omega) fun e => by cases e
end
theorem main (s : List Int) (k : Nat) (hk : 5000 ≤ k) : laws_FnTimetables.f k s = some true := by
  unfold laws_FnTimetables.f laws_big.f
  simp only [Option.bind_some]
  by_cases hbig : (s.length : Int) > 1048576
  · rw [decide_eq_true hbig, if_pos rfl]
  · rw [decide_eq_false hbig, if_neg (by simp)]
    obtain ⟨w, h, o, p, l, a, b, e, z, ha, hb⟩ := draw_times s (by omega) k (by omega)
    rw [e]
    simp only [Option.bind_some]
    have h8 := (timedOk_parts z).2.2.1
    exact all_go z ha l.length k true 0 (by omega) (by omega) (by omega) (by omega) fun _ j j0 j1 => by omega
theorem FnTimetables : laws_FnTimetables.Pure := fun s _ _ _ => ⟨5000, main s 5000 (Nat.le_refl _)⟩
end Go.Proofs.Ytlfomjhjeknnmaa.Pure
