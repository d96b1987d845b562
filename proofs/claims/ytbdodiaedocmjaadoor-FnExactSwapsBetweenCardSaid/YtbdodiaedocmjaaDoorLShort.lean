/- The distances are those of a shortest way. -/

import Derived.Test.YtbdodiaedocmjaaDoorLDist
namespace Go.Proofs.YtbdodiaedocmjaaDoor.L
open Go.RowKit Go.Proofs.YtbdodiaedocmjaaDoor.X Go.Proofs.YtbdodiaedocmjaaDoorW.PrintWords Go.Proofs.YtbdodiaedocmjaaDoorW.PrintLast Go.Proofs.YtbdodiaedocmjaaDoorW.PrintMore
set_option linter.unusedSimpArgs false
set_option linter.unusedVariables false

/-- A walk of so many steps. -/
inductive Wk (w h o a : Int) : Int → Int → Prop
  | refl : Wk w h o a a 0
  | step {x n t : Int} : Wk w h o a x n → 0 ≤ t → t ≤ 3 → 0 ≤ step w h o x t → Wk w h o a (step w h o x t) (n + 1)
theorem Wk.rch {w h o a x n : Int} (k : Wk w h o a x n) : Rch w h o a x := by
  induction k with
  | refl => exact .refl
  | step _ a b c ih => exact .step ih a b c
theorem Wk.nn {w h o a x n : Int} (k : Wk w h o a x n) : 0 ≤ n := by
  induction k with
  | refl => omega
  | step _ _ _ _ ih => omega
structure SI (w h o a : Int) (d q : List Int) (m : Int) : Prop where
  wk : ∀ x ∈ q, Wk w h o a x (rd d x)
  srt : ∀ j k : Int, 0 ≤ j → j ≤ k → k < (q.length : Int) → rd d (rd q j) ≤ rd d (rd q k)
  top : ∀ x ∈ q, rd d x ≤ m + 1
  st0 : rd d a = 0
theorem SI.up {w h o a : Int} {d q : List Int} {m m' : Int} (s : SI w h o a d q m) (hm : m ≤ m') : SI w h o a d q m' := ⟨s.wk, s.srt, fun x hx => by have := s.top x hx; omega, s.st0⟩
theorem set_other {w h o a : Int} {d q : List Int} (b : BInv w h o a d q) {n v x : Int} (hn : isCell w h n = true) (hd : rd d n < 0) (hx : x ∈ q) : rd (d.set n.toNat v) x = rd d x := by
  have h1 := b.mem x hx
  have hl := cellD_lt hn
  have hlen := b.len
  rw [rd_set hl.1 (by omega) (cellD_lt h1.1).1, if_neg]
  intro z
  rw [z] at h1
  omega
theorem SI.put {w h o a : Int} {d q : List Int} {m : Int} (b : BInv w h o a d q) (s : SI w h o a d q m) {c t : Int} (hc : c ∈ q) (hm : rd d c = m) (h0 : 0 ≤ t) (h3 : t ≤ 3) (hs : 0 ≤ step w h o c t) (hd : rd d (step w h o c t) < 0) :
    SI w h o a (d.set (step w h o c t).toNat (rd d c + 1)) (q ++ [step w h o c t]) m := by
  have hn := step_cell hs
  have hl := cellD_lt hn
  have hlen := b.len
  have old : ∀ x ∈ q, rd (d.set (step w h o c t).toNat (rd d c + 1)) x = rd d x := fun x hx => set_other b hn hd hx
  have new : rd (d.set (step w h o c t).toNat (rd d c + 1)) (step w h o c t) = m + 1 := by rw [rd_set hl.1 (by omega) hl.1, if_pos rfl, hm]
  have last : rd (q ++ [step w h o c t]) (q.length : Int) = step w h o c t := by
    unfold rd
    rw [Int.toNat_natCast, List.getD_eq_getElem?_getD, List.getElem?_append_right (Nat.le_refl _)]
    simp
  refine ⟨fun x hx => ?_, fun j k hj hjk hk => ?_, fun x hx => ?_, by rw [old a b.ini]; exact s.st0⟩
  · rcases List.mem_append.1 hx with hx | hx
    · rw [old x hx]
      exact s.wk x hx
    · simp only [List.mem_singleton] at hx
      subst hx
      rw [new]
      have := s.wk c hc
      rw [hm] at this
      exact .step this h0 h3 hs
  · rw [List.length_append, List.length_singleton] at hk
    have oldj : ∀ j : Int, 0 ≤ j → j < (q.length : Int) → rd (d.set (step w h o c t).toNat (rd d c + 1)) (rd (q ++ [step w h o c t]) j) = rd d (rd q j) := fun j a1 a2 => by
      rw [rd_append_left a1 a2, old _ (rd_memL a1 a2)]
    by_cases e : k = (q.length : Int)
    · subst e
      rw [last, new]
      by_cases f : j = (q.length : Int)
      · subst f
        rw [last, new]
        exact Int.le_refl _
      · rw [oldj j hj (by omega)]
        exact s.top _ (rd_memL hj (by omega))
    · rw [oldj j hj (by omega), oldj k (by omega) (by omega)]
      exact s.srt j k hj hjk (by omega)
  · rcases List.mem_append.1 hx with hx | hx
    · rw [old x hx]
      exact s.top x hx
    · simp only [List.mem_singleton] at hx
      subst hx
      rw [new]
      exact Int.le_refl _
theorem relax_short {w h o a c m : Int} : ∀ (ts d q : List Int), BInv w h o a d q → SI w h o a d q m → c ∈ q → rd d c = m → (∀ t ∈ ts, 0 ≤ t ∧ t ≤ 3) →
    SI w h o a (relax w h o c ts d q).1 (relax w h o c ts d q).2 m ∧ ∀ x ∈ q, rd (relax w h o c ts d q).1 x = rd d x
  | [], d, q, b, s, _, _, _ => ⟨s, fun _ _ => rfl⟩
  | t :: ts, d, q, b, s, hc, hm, ht => by
    have h1 := ht t List.mem_cons_self
    have h2 : ∀ x ∈ ts, 0 ≤ x ∧ x ≤ 3 := fun x hx => ht x (List.mem_cons_of_mem _ hx)
    rw [relax]
    by_cases z : 0 ≤ step w h o c t ∧ rd d (step w h o c t) < 0
    · rw [if_pos z]
      have old : ∀ x ∈ q, rd (d.set (step w h o c t).toNat (rd d c + 1)) x = rd d x := fun x hx => set_other b (step_cell z.1) z.2 hx
      have r := relax_short ts _ _ (b.put hc h1.1 h1.2 z.1 z.2) (s.put b hc hm h1.1 h1.2 z.1 z.2) (List.mem_append_left _ hc) (by rw [old c hc]; exact hm) h2
      exact ⟨r.1, fun x hx => (r.2 x (List.mem_append_left _ hx)).trans (old x hx)⟩
    · rw [if_neg z]
      exact relax_short ts d q b s hc hm h2
theorem bfs_short {w h o a : Int} : ∀ (n : Nat) (d q : List Int) (i m : Int), BInv w h o a d q → SI w h o a d q m → 0 ≤ i → i ≤ (q.length : Int) → 17 - i = n → (i < (q.length : Int) → m ≤ rd d (rd q i)) →
    (∀ j, 0 ≤ j → j < i → ∀ t, 0 ≤ t → t ≤ 3 → 0 ≤ step w h o (rd q j) t → step w h o (rd q j) t ∈ q ∧ rd d (step w h o (rd q j) t) ≤ rd d (rd q j) + 1) →
    (∀ x k, Wk w h o a x k → rd (bfs w h o n d q i) x ≤ k ∧ Wk w h o a x (rd (bfs w h o n d q i) x))
  | 0, d, q, i, m, b, s, h0, h1, hn, hf, hc => by
    have := b.le16
    omega
  | n + 1, d, q, i, m, b, s, h0, h1, hn, hf, hc => by
    have h16 := b.le16
    rw [bfs]
    by_cases z : i < (q.length : Int)
    · rw [if_pos z]
      have hm : rd q i ∈ q := rd_memL h0 z
      have s1 := s.up (hf z)
      have r := relax_inv [0, 1, 2, 3] d q b hm dirs_ok
      have r2 := relax_short [0, 1, 2, 3] d q b s1 hm rfl dirs_ok
      obtain ⟨e, hq⟩ := r.2.1
      have ej : ∀ j : Int, 0 ≤ j → j < (q.length : Int) → rd (relax w h o (rd q i) [0, 1, 2, 3] d q).2 j = rd q j := fun j a1 a2 => by rw [hq]; exact rd_append_left a1 a2
      have hlen : (q.length : Int) ≤ ((relax w h o (rd q i) [0, 1, 2, 3] d q).2.length : Int) := by rw [hq, List.length_append]; omega
      refine bfs_short n _ _ (i + 1) (rd d (rd q i)) r.1 r2.1 (by omega) (by omega) (by omega) (fun hlt => ?_) (fun j hj0 hj1 t ht0 ht3 hs => ?_)
      · have := r2.1.srt i (i + 1) h0 (by omega) hlt
        rw [ej i h0 z, r2.2 _ hm] at this
        exact this
      · rw [ej j hj0 (by omega)] at hs ⊢
        by_cases e : j = i
        · subst e
          have h3 := r.2.2 t (by simp; omega) hs
          refine ⟨h3, ?_⟩
          rw [r2.2 _ hm]
          exact r2.1.top _ h3
        · have h3 := hc j hj0 (by omega) t ht0 ht3 hs
          refine ⟨by rw [hq]; exact List.mem_append_left _ h3.1, ?_⟩
          rw [r2.2 _ h3.1, r2.2 _ (rd_memL hj0 (by omega))]
          exact h3.2
    · rw [if_neg z]
      intro x k hk
      have key : x ∈ q ∧ rd d x ≤ k := by
        induction hk with
        | refl => exact ⟨b.ini, by rw [s.st0]; exact Int.le_refl _⟩
        | step hy ht0 ht3 hs ih =>
          obtain ⟨ih1, ih2⟩ := ih
          obtain ⟨j, hj0, hj1, e⟩ := mem_rd ih1
          subst e
          have := hc j hj0 (by omega) _ ht0 ht3 hs
          exact ⟨this.1, by omega⟩
      exact ⟨key.2, s.wk x key.1⟩
/-- No walk is shorter, and there is a walk that is as short. -/
theorem dist_short {w h o a : Int} (ha : isCell w h a = true) {x k : Int} (hk : Wk w h o a x k) : rd (dist w h o a) x ≤ k ∧ Wk w h o a x (rd (dist w h o a) x) := by
  have hl := cellD_lt ha
  have hr := cells_range w h
  have e0 : rd ((List.replicate (cells w h).toNat (-1)).set a.toNat 0) a = 0 := by rw [rd_set hl.1 (by simp; omega) hl.1, if_pos rfl]
  refine bfs_short 17 _ _ 0 0 (start_inv ha) ⟨fun x hx => ?_, fun j k hj hjk hkl => ?_, fun x hx => ?_, e0⟩ (by omega) (by simp) (by omega) (fun _ => ?_) (fun j h0 h1 => by omega) x k hk
  · simp only [List.mem_singleton] at hx
    subst hx
    rw [e0]
    exact .refl
  · simp only [List.length_singleton] at hkl
    have : j = 0 := by omega
    have : k = 0 := by omega
    subst j
    subst k
    exact Int.le_refl _
  · simp only [List.mem_singleton] at hx
    subst hx
    rw [e0]
    omega
  · rw [show rd [a] 0 = a from rfl, e0]
    exact Int.le_refl _
theorem rch_walk {w h o a x : Int} (r : Rch w h o a x) : ∃ k, Wk w h o a x k := by
  induction r with
  | refl => exact ⟨0, .refl⟩
  | step _ h0 h3 hs ih => obtain ⟨k, hk⟩ := ih; exact ⟨k + 1, .step hk h0 h3 hs⟩
end Go.Proofs.YtbdodiaedocmjaaDoor.L
