/- What time does in a maze with gates: waiting, the period, how soon a cell is come to, gates that open at some time. -/

import Derived.Test.YtlfomjhjeknnmaaLGates
import Derived.Test.YtlfomjhjeknnmaaLParts
import Derived.Test.YtlfomjhjeknnmaaLShort
import Derived.Test.YtlfomjhjeknnmaaLWays
namespace Go.Proofs.Ytlfomjhjeknnmaa.L
open Go.RowKit Go.Proofs.Ytlfomjhjeknnmaa.X Go.Proofs.YtlfomjhjeknnmaaW.PrintWords Go.Proofs.YtlfomjhjeknnmaaW.PrintLast Go.Proofs.YtlfomjhjeknnmaaW.PrintMore
set_option linter.unusedSimpArgs false
set_option linter.unusedVariables false

section
variable {w h o p : Int} {l : List Gt} {a q : Int}
theorem mzT_per (o p : Int) (l : List Gt) (t : Int) : mzT o p l (t + p) = mzT o p l t := by
  unfold mzT
  rw [Int.add_emod_right]
theorem rs_per (x : Int) : ∀ (k : Nat) (x : Int), Rs w h o p l a (q + p) k x ↔ Rs w h o p l a q k x
  | 0, x => Iff.rfl
  | k + 1, x => by
    have e : mzT o p l (q + p + k) = mzT o p l (q + k) := by rw [show q + p + (k : Int) = q + k + p by omega, mzT_per]
    show (Rs w h o p l a (q + p) k x ∨ ∃ c t, Rs w h o p l a (q + p) k c ∧ 0 ≤ t ∧ t ≤ 3 ∧ 0 ≤ step w h (mzT o p l (q + p + k)) c t ∧ step w h (mzT o p l (q + p + k)) c t = x) ↔ (Rs w h o p l a q k x ∨ ∃ c t, Rs w h o p l a q k c ∧ 0 ≤ t ∧ t ≤ 3 ∧ 0 ≤ step w h (mzT o p l (q + k)) c t ∧ step w h (mzT o p l (q + k)) c t = x)
    rw [e, rs_per x k x]
    simp only [rs_per x k]
theorem rs_wait : ∀ (k : Nat) (x : Int), Rs w h o p l a (q + 1) k x → Rs w h o p l a q (k + 1) x
  | 0, x, z => .inl z
  | k + 1, x, z => by
    rcases z with z | ⟨c, t, hc, t0, t3, h0, e⟩
    · exact .inl (rs_wait k x z)
    · have em : q + 1 + (k : Int) = q + ((k + 1 : Nat) : Int) := by omega
      rw [em] at h0 e
      exact .inr ⟨c, t, rs_wait k c hc, t0, t3, h0, e⟩
theorem rs_waits : ∀ (n k : Nat) (x : Int), Rs w h o p l a (q + n) k x → Rs w h o p l a q (k + n) x
  | 0, k, x, z => by
    rw [show q + ((0 : Nat) : Int) = q by omega] at z
    exact z
  | n + 1, k, x, z => by
    rw [show q + ((n + 1 : Nat) : Int) = q + n + 1 by omega] at z
    have := rs_waits n (k + 1) x (rs_wait k x z)
    rwa [show k + 1 + n = k + (n + 1) by omega] at this
/-- Steps in the maze of a moment are steps in the whole maze. -/
theorem bit_shut (r : Int) : ∀ (l : List Gt) (o g : Int), 0 ≤ g → (∀ x ∈ l, 0 ≤ x.f0) → (bit (shutGo r l o) g = true ↔ bit o g = true ∧ ∀ x ∈ l, x.f0 = g → bit x.f1 r = true)
  | [], o, g, hg, hl => by
    unfold shutGo
    exact ⟨fun z => ⟨z, fun x hx => by cases hx⟩, fun z => z.1⟩
  | y :: ys, o, g, hg, hl => by
    have h1 := hl y List.mem_cons_self
    unfold shutGo
    rw [bit_shut r ys _ g hg fun x hx => hl x (List.mem_cons_of_mem _ hx)]
    by_cases hb : bit y.f1 r = true
    · rw [if_pos hb]
      constructor
      · rintro ⟨z, f⟩
        refine ⟨z, fun x hx e => ?_⟩
        rcases List.mem_cons.1 hx with rfl | hx
        · exact hb
        · exact f x hx e
      · rintro ⟨z, f⟩
        exact ⟨z, fun x hx e => f x (List.mem_cons_of_mem _ hx) e⟩
    · rw [if_neg hb, bit_withO o y.f0 g false h1 hg]
      constructor
      · rintro ⟨z, f⟩
        by_cases e : y.f0 = g
        · rw [if_pos e] at z; cases z
        · rw [if_neg e] at z
          refine ⟨z, fun x hx e' => ?_⟩
          rcases List.mem_cons.1 hx with rfl | hx
          · exact absurd e' e
          · exact f x hx e'
      · rintro ⟨z, f⟩
        have e : ¬ y.f0 = g := fun e => hb (f y List.mem_cons_self e)
        rw [if_neg e]
        exact ⟨z, fun x hx e' => f x (List.mem_cons_of_mem _ hx) e'⟩
theorem gates_gap (z : timedOk w h o p l = true) : ∀ x ∈ l, isGap w h x.f0 = true ∧ 0 ≤ x.f1 ∧ x.f1 < 2 ^ p.toNat := fun x hx => by
  obtain ⟨n, hn, rfl⟩ := List.getElem_of_mem hx
  have q := (timedOk_parts z).2.2.2 n (by omega) (by omega)
  have e : gt l (n : Int) = l[n] := by rw [gt_get (by omega) (by omega)]; simp
  unfold gateOk at q
  rw [e] at q
  exact ⟨isPass_gap q.1, q.2.2.1, q.2.2.2⟩
theorem shut_ok (z : timedOk w h o p l = true) (r : Int) : mazeOk w h (shutGo r l o) = true := shutGo_ok w h r l o (fun g hg => (gates_gap z g hg).1) (timedOk_parts z).1
theorem step_shut (z : timedOk w h o p l = true) {r c t : Int} (hs : 0 ≤ step w h (shutGo r l o) c t) : step w h o c t = step w h (shutGo r l o) c t := by
  rcases step_range w h (shutGo r l o) c t with e | ⟨_, _, _, hn, hg, hb⟩
  · omega
  · have hb' := ((bit_shut r l o _ hg fun x hx => (gap_lt (gates_gap z x hx).1).1).1 hb).1
    rw [step_eq _ _ _ _ _ (timedOk_parts z).1, if_pos ⟨hg, hb'⟩, hn]
theorem rs_walk (z : timedOk w h o p l = true) : ∀ (k : Nat) (x : Int), Rs w h o p l a q k x → ∃ n, Wk w h o a x n ∧ n ≤ (k : Int)
  | 0, x, y => by rw [show x = a from y]; exact ⟨0, .refl, by omega⟩
  | k + 1, x, y => by
    rcases y with y | ⟨c, t, hc, t0, t3, h0, e⟩
    · obtain ⟨n, a1, a2⟩ := rs_walk z k x y
      exact ⟨n, a1, by omega⟩
    · obtain ⟨n, a1, a2⟩ := rs_walk z k c hc
      have es := step_shut z h0
      have h0' : 0 ≤ step w h o c t := by rw [es]; exact h0
      have := Wk.step a1 t0 t3 h0'
      rw [es, show step w h (shutGo ((q + (k : Int)) % p) l o) c t = x from e] at this
      exact ⟨n + 1, this, by omega⟩
/-- Without gates: what is come to in k moments is come to by at most k steps. -/
theorem rs_free (hm : mazeOk w h o = true) : ∀ (k : Nat) (x n : Int), Wk w h o a x n → n ≤ (k : Int) → Rs w h o 1 [] a q k x := by
  intro k x n hk
  induction hk generalizing k with
  | refl =>
    intro _
    have : Rs w h o 1 [] a q 0 a := rfl
    exact this.le (Nat.zero_le _)
  | @step x n t hw t0 t3 hs ih =>
    intro hn
    have hnn := hw.nn
    obtain ⟨k, rfl⟩ : ∃ m, k = m + 1 := ⟨k - 1, by omega⟩
    exact .inr ⟨x, t, ih k (by omega), t0, t3, hs, rfl⟩
end
open Classical in
noncomputable def cnt (P : Int → Prop) (n : Nat) : Nat := ((List.range n).filter fun (i : Nat) => decide (P (i : Int))).length
open Classical in
theorem cnt_le (P : Int → Prop) (n : Nat) : cnt P n ≤ n := by
  unfold cnt
  have := List.length_filter_le (fun i : Nat => decide (P (i : Int))) (List.range n)
  rwa [List.length_range] at this
open Classical in
theorem cnt_mono {P Q : Int → Prop} (hp : ∀ x, P x → Q x) : ∀ n, cnt P n ≤ cnt Q n
  | 0 => Nat.le_refl _
  | n + 1 => by
    have ih := cnt_mono hp n
    unfold cnt at ih ⊢
    rw [List.range_succ, List.filter_append, List.filter_append, List.length_append, List.length_append]
    by_cases e : P (n : Int)
    · have e' := hp _ e
      simp only [List.filter_cons, List.filter_nil, decide_eq_true e, decide_eq_true e', if_true, List.length_singleton]
      omega
    · simp only [List.filter_cons, List.filter_nil, decide_eq_false e, if_neg Bool.false_ne_true, List.length_nil]
      omega
open Classical in
theorem cnt_lt {P Q : Int → Prop} (hp : ∀ x, P x → Q x) {x : Int} (h1 : ¬ P x) (h2 : Q x) : ∀ n : Nat, 0 ≤ x → x < (n : Int) → cnt P n < cnt Q n
  | 0, h0, hn => by omega
  | n + 1, h0, hn => by
    by_cases e : x = (n : Int)
    · subst e
      have := cnt_mono hp n
      unfold cnt at this ⊢
      rw [List.range_succ, List.filter_append, List.filter_append, List.length_append, List.length_append]
      simp only [List.filter_cons, List.filter_nil, decide_eq_true h2, decide_eq_false h1, if_true, if_neg Bool.false_ne_true, List.length_nil, List.length_singleton]
      omega
    · have ih := cnt_lt hp h1 h2 n h0 (by omega)
      unfold cnt at ih ⊢
      rw [List.range_succ, List.filter_append, List.filter_append, List.length_append, List.length_append]
      by_cases f : P (n : Int)
      · have f' := hp _ f
        simp only [List.filter_cons, List.filter_nil, decide_eq_true f, decide_eq_true f', if_true, List.length_singleton]
        omega
      · simp only [List.filter_cons, List.filter_nil, decide_eq_false f, if_neg Bool.false_ne_true, List.length_nil]
        omega
section
variable {w h o p : Int} {l : List Gt} {a q : Int}
/-- After sixteen periods nothing new comes. -/
theorem rs_bound (hp : 1 ≤ p) (ha : isCell w h a = true) {m : Nat} {x : Int} (z : Rs w h o p l a q m x) : Rs w h o p l a q (16 * p.toNat) x := by
  have grow : ∀ j : Nat, (∃ i : Nat, i ≤ j ∧ ∀ x, Rs w h o p l a q ((i + 1) * p.toNat) x → Rs w h o p l a q (i * p.toNat) x) ∨ j + 1 < cnt (Rs w h o p l a q ((j + 1) * p.toNat)) 16 + 0 := by
    intro j
    induction j with
    | zero =>
      by_cases e : ∀ x, Rs w h o p l a q ((0 + 1) * p.toNat) x → Rs w h o p l a q (0 * p.toNat) x
      · exact .inl ⟨0, Nat.le_refl _, e⟩
      · right
        simp only [Classical.not_forall] at e
        obtain ⟨y, h2, h1⟩ := e
        have hy := cellD_lt (Rs.cell ha _ y h2)
        have hr := cells_range w h
        have h3 := cnt_lt (P := Rs w h o p l a q (0 * p.toNat)) (Q := Rs w h o p l a q ((0 + 1) * p.toNat)) (fun x r => r.le (by omega)) h1 h2 16 hy.1 (by omega)
        have hal := cellD_lt ha
        have h4 := cnt_lt (P := fun _ => False) (Q := Rs w h o p l a q (0 * p.toNat)) (fun x r => r.elim) (x := a) id (by rw [Nat.zero_mul]; exact (rfl : a = a)) 16 hal.1 (by omega)
        omega
    | succ j ih =>
      rcases ih with ⟨i, hi, e⟩ | ih
      · exact .inl ⟨i, by omega, e⟩
      · by_cases e : ∀ x, Rs w h o p l a q ((j + 1 + 1) * p.toNat) x → Rs w h o p l a q ((j + 1) * p.toNat) x
        · exact .inl ⟨j + 1, Nat.le_refl _, e⟩
        · right
          simp only [Classical.not_forall] at e
          obtain ⟨y, h2, h1⟩ := e
          have hy := cellD_lt (Rs.cell ha _ y h2)
          have hr := cells_range w h
          have h3 := cnt_lt (P := Rs w h o p l a q ((j + 1) * p.toNat)) (Q := Rs w h o p l a q ((j + 1 + 1) * p.toNat)) (fun x r => r.le (Nat.mul_le_mul_right _ (by omega))) h1 h2 16 hy.1 (by omega)
          omega
  rcases grow 15 with ⟨i, hi, e⟩ | g
  · have st := Rs.still (w := w) (h := h) (o := o) (l := l) (a := a) (q := q) (k := i * p.toNat) (p := p) hp (fun j hj x y => by
      have hm : i * p.toNat + j + 1 ≤ (i + 1) * p.toNat := by rw [Nat.add_mul]; omega
      exact (e x (y.le hm)).le (by omega))
    have y1 := z.le (show m ≤ i * p.toNat + m by omega)
    exact (st m x y1).le (Nat.mul_le_mul_right _ (by omega))
  · have := cnt_le (Rs w h o p l a q ((15 + 1) * p.toNat)) 16
    omega
theorem eGo_tells (b : Int) : ∀ (n k : Nat), (∃ j : Nat, k ≤ j ∧ j < k + n ∧ Rs w h o p l a q j b ∧ (∀ i, k ≤ i → i < j → ¬ Rs w h o p l a q i b) ∧ eGo w h o p l a q b n k = q + j) ∨ ((∀ j, k ≤ j → j < k + n → ¬ Rs w h o p l a q j b) ∧ eGo w h o p l a q b n k = -1)
  | 0, k => .inr ⟨fun j a b => by omega, rfl⟩
  | n + 1, k => by
    by_cases e : Rs w h o p l a q k b
    · exact .inl ⟨k, Nat.le_refl _, by omega, e, fun i a b => by omega, eGo_hit e⟩
    · rw [eGo_miss e]
      rcases eGo_tells b n (k + 1) with ⟨j, a1, a2, a3, a4, a5⟩ | ⟨a1, a2⟩
      · refine .inl ⟨j, by omega, by omega, a3, fun i b1 b2 => ?_, a5⟩
        by_cases f : i = k
        · rw [f]; exact e
        · exact a4 i (by omega) b2
      · refine .inr ⟨fun j b1 b2 => ?_, a2⟩
        by_cases f : j = k
        · rw [f]; exact e
        · exact a1 j (by omega) (by omega)
/-- The first moment: as soon as one can be there at all, within 200 moments. -/
theorem earliest_tells (z : timedOk w h o p l = true) (ha : isCell w h a = true) {b : Int} (hb : isCell w h b = true) (q0 : 0 ≤ q) (q1 : q ≤ 500) :
    (∃ j : Nat, j ≤ 96 ∧ Rs w h o p l a q j b ∧ (∀ i, i < j → ¬ Rs w h o p l a q i b) ∧ earliest w h o p l a q b = q + j) ∨ ((∀ j, ¬ Rs w h o p l a q j b) ∧ earliest w h o p l a q b = -1) := by
  have hp := (timedOk_parts z).2.1
  rw [earliest_yes ⟨z, ha, hb, q0, q1⟩]
  rcases eGo_tells (w := w) (h := h) (o := o) (p := p) (l := l) (a := a) (q := q) b 201 0 with ⟨j, a1, a2, a3, a4, a5⟩ | ⟨a1, a2⟩
  · refine .inl ⟨j, ?_, a3, fun i hi => a4 i (Nat.zero_le _) hi, a5⟩
    have y := rs_bound hp.1 ha a3
    by_cases f : 16 * p.toNat < j
    · exact absurd y (a4 _ (Nat.zero_le _) f)
    · omega
  · refine .inr ⟨fun j y => ?_, a2⟩
    have y := rs_bound hp.1 ha y
    exact a1 _ (Nat.zero_le _) (by omega) y
theorem earliest_self (z : timedOk w h o p l = true) (ha : isCell w h a = true) (q0 : 0 ≤ q) (q1 : q ≤ 500) : 0 ≤ earliest w h o p l a q a := by
  rcases earliest_tells z ha ha q0 q1 with ⟨j, _, _, _, e⟩ | ⟨f, _⟩
  · omega
  · exact absurd (rfl : a = a) (f 0)
/-- A gate is known by its gap. -/
theorem gates_one (z : timedOk w h o p l = true) : ∀ (i j : Int), 0 ≤ i → i < j → j < (l.length : Int) → (gt l i).f0 < (gt l j).f0 := by
  have hg := (timedOk_parts z).2.2.2
  intro i j h0 hij hj
  obtain ⟨n, rfl⟩ : ∃ n : Nat, j = i + 1 + n := ⟨(j - i - 1).toNat, by omega⟩
  induction n with
  | zero =>
    have := (hg (i + 1) (by omega) (by omega)).2.1 (by omega)
    rw [show i + 1 - 1 = i by omega] at this
    rw [show i + 1 + ((0 : Nat) : Int) = i + 1 by omega]
    exact this
  | succ n ih =>
    have h1 := ih (by omega) (by omega)
    have h2 := (hg (i + 1 + ((n + 1 : Nat) : Int)) (by omega) (by omega)).2.1 (by omega)
    rw [show i + 1 + ((n + 1 : Nat) : Int) - 1 = i + 1 + (n : Int) by omega] at h2
    omega
theorem gates_same (z : timedOk w h o p l = true) {x y : Gt} (hx : x ∈ l) (hy : y ∈ l) (e : x.f0 = y.f0) : x = y := by
  obtain ⟨n, hn, rfl⟩ := List.getElem_of_mem hx
  obtain ⟨m, hm, rfl⟩ := List.getElem_of_mem hy
  have en : gt l (n : Int) = l[n] := by rw [gt_get (by omega) (by omega)]; simp
  have em : gt l (m : Int) = l[m] := by rw [gt_get (by omega) (by omega)]; simp
  by_cases h1 : n = m
  · subst h1; rfl
  · exfalso
    rcases Nat.lt_or_gt_of_ne h1 with h1 | h1
    · have := gates_one z n m (by omega) (by omega) (by omega)
      rw [en, em] at this
      omega
    · have := gates_one z m n (by omega) (by omega) (by omega)
      rw [en, em] at this
      omega
theorem some_bit {f : Int} {n : Nat} (h0 : 0 ≤ f) (hne : f ≠ 0) (h1 : f < 2 ^ n) : ∃ r : Nat, r < n ∧ bit f (r : Int) = true := by
  obtain ⟨m, rfl⟩ := Int.eq_ofNat_of_zero_le h0
  have hm : m < 2 ^ n := by rw [pow_cast] at h1; omega
  have hm0 : m ≠ 0 := by omega
  obtain ⟨r, hr⟩ := Nat.exists_testBit_of_ne_zero hm0
  refine ⟨r, ?_, ?_⟩
  · apply Classical.byContradiction
    intro c
    have : m < 2 ^ r := Nat.lt_of_lt_of_le hm (Nat.pow_le_pow_right (by decide) (by omega))
    rw [Nat.testBit_lt_two_pow this] at hr
    cases hr
  · unfold bit
    rw [Int.toNat_natCast, Int.toNat_natCast]
    exact hr
/-- Gates that open at some time: each passage is open within a period. -/
theorem opens (z : timedOk w h o p l = true) (hall : ∀ x ∈ l, x.f1 ≠ 0) {g : Int} (hg : 0 ≤ g) (hb : bit o g = true) (t : Int) (ht : 0 ≤ t) : ∃ j : Nat, (j : Int) < p ∧ bit (mzT o p l (t + j)) g = true := by
  have hp := (timedOk_parts z).2.1
  have hpos : ∀ x ∈ l, 0 ≤ x.f0 := fun x hx => (gap_lt (gates_gap z x hx).1).1
  by_cases e : ∃ x ∈ l, x.f0 = g
  · obtain ⟨x, hx, ex⟩ := e
    have hgx := gates_gap z x hx
    obtain ⟨r, hr, hbr⟩ := some_bit hgx.2.1 (hall x hx) hgx.2.2
    have m0 := Int.emod_nonneg t (show p ≠ 0 by omega)
    have m1 := Int.emod_lt_of_pos t (show 0 < p by omega)
    have hdec := Int.emod_add_mul_ediv t p
    have key : ∀ j : Nat, (j : Int) < p → (t + j) % p = r → ∃ j : Nat, (j : Int) < p ∧ bit (mzT o p l (t + j)) g = true := fun j hj hjr => by
      refine ⟨j, hj, ?_⟩
      unfold mzT
      rw [hjr, bit_shut _ l o g hg hpos]
      refine ⟨hb, fun y hy ey => ?_⟩
      rw [gates_same z hy hx (by rw [ey, ex])]
      exact hbr
    by_cases c : t % p ≤ (r : Int)
    · refine key ((r : Int) - t % p).toNat (by omega) ?_
      have : t + (((r : Int) - t % p).toNat : Int) = r + p * (t / p) := by omega
      rw [this, Int.add_mul_emod_self_left]
      exact Int.emod_eq_of_lt (by omega) (by omega)
    · refine key ((r : Int) - t % p + p).toNat (by omega) ?_
      have : t + (((r : Int) - t % p + p).toNat : Int) = r + p * (t / p + 1) := by rw [Int.mul_add]; omega
      rw [this, Int.add_mul_emod_self_left]
      exact Int.emod_eq_of_lt (by omega) (by omega)
  · refine ⟨0, by omega, ?_⟩
    unfold mzT
    rw [bit_shut _ l o g hg hpos]
    exact ⟨hb, fun y hy ey => absurd ⟨y, hy, ey⟩ e⟩
theorem rs_all (z : timedOk w h o p l = true) (hall : ∀ x ∈ l, x.f1 ≠ 0) (q0 : 0 ≤ q) {x : Int} (r : Rch w h o a x) : ∃ k : Nat, Rs w h o p l a q k x := by
  have hp := (timedOk_parts z).2.1
  induction r with
  | refl => exact ⟨0, rfl⟩
  | @step x t r t0 t3 hs ih =>
    obtain ⟨k, hk⟩ := ih
    rcases step_range w h o x t with e | ⟨hm, _, _, hn, hg, hb⟩
    · omega
    · obtain ⟨j, hj, hbj⟩ := opens z hall hg hb (q + k) (by omega)
      have es : step w h (mzT o p l (q + ((k + j : Nat) : Int))) x t = step w h o x t := by
        rw [show q + ((k + j : Nat) : Int) = q + k + j by omega]
        have hm' : mazeOk w h (mzT o p l (q + k + j)) = true := shut_ok z _
        rw [step_eq _ _ _ _ _ hm', if_pos ⟨hg, hbj⟩, hn]
      exact ⟨k + j + 1, .inr ⟨x, t, hk.le (by omega), t0, t3, by rw [es]; exact hs, es⟩⟩
end
end Go.Proofs.Ytlfomjhjeknnmaa.L
