/- Distances and what is reached: the reference's breadth-first walk, and what it tells. -/
import Derived.Test.YtnfclfpicemojaaXcdist
import Derived.Test.YtnfclfpicemojaaXcreach
import Derived.Test.YtnfclfpicemojaaLStep
import Derived.Test.YtnfclfpicemojaaLWays
namespace Go.Proofs.Ytnfclfpicemojaa.L
open Go.RowKit Go.Proofs.Ytnfclfpicemojaa.X Go.Proofs.YtnfclfpicemojaaW.PrintWords Go.Proofs.YtnfclfpicemojaaW.PrintLast Go.Proofs.YtnfclfpicemojaaW.PrintMore
set_option linter.unusedSimpArgs false
set_option linter.unusedVariables false

theorem rd_set {l : List Int} {i j v : Int} (h0 : 0 ≤ i) (h1 : i < (l.length : Int)) (hj : 0 ≤ j) : rd (l.set i.toNat v) j = if j = i then v else rd l j := by
  unfold rd
  rw [List.getD_eq_getElem?_getD, List.getD_eq_getElem?_getD]
  by_cases e : j = i
  · subst e
    rw [if_pos rfl, List.getElem?_set_self (by omega)]
    rfl
  · rw [if_neg e, List.getElem?_set_ne (by omega)]
theorem rd_append_left {l m : List Int} {i : Int} (h0 : 0 ≤ i) (h1 : i < (l.length : Int)) : rd (l ++ m) i = rd l i := by
  unfold rd
  rw [List.getD_eq_getElem?_getD, List.getD_eq_getElem?_getD, List.getElem?_append_left (by omega)]
theorem mem_rd {l : List Int} {x : Int} (h : x ∈ l) : ∃ i : Int, 0 ≤ i ∧ i < (l.length : Int) ∧ rd l i = x := by
  obtain ⟨n, hn, rfl⟩ := List.getElem_of_mem h
  exact ⟨n, by omega, by omega, rd_nat hn⟩
theorem nodup_le : ∀ (n : Nat) (l : List Int), l.Nodup → (∀ x ∈ l, 0 ≤ x ∧ x < (n : Int)) → l.length ≤ n
  | 0, l, _, h => by
    cases l with
    | nil => simp
    | cons x l => have := h x List.mem_cons_self; omega
  | n + 1, l, hn, h => by
    by_cases e : ((n : Nat) : Int) ∈ l
    · have h1 := nodup_le n (l.erase (n : Int)) (hn.erase _) (fun x hx => by
        have h2 := (hn.mem_erase_iff).1 hx
        have h3 := h x h2.2
        have h4 := h2.1
        omega)
      rw [List.length_erase_of_mem e] at h1
      omega
    · have := nodup_le n l hn (fun x hx => by
        have h3 := h x hx
        have h4 : x ≠ (n : Int) := fun z => e (z ▸ hx)
        omega)
      omega
/-- One cell's neighbors, in the order of the directions. -/
def relax (w h o c : Int) : List Int → List Int → List Int → List Int × List Int
  | [], d, q => (d, q)
  | t :: ts, d, q => if 0 ≤ step w h o c t ∧ rd d (step w h o c t) < 0 then relax w h o c ts (d.set (step w h o c t).toNat (rd d c + 1)) (q ++ [step w h o c t]) else relax w h o c ts d q
def bfs (w h o : Int) : Nat → List Int → List Int → Int → List Int
  | 0, d, _, _ => d
  | n + 1, d, q, i => if i < (q.length : Int) then bfs w h o n (relax w h o (rd q i) [0, 1, 2, 3] d q).1 (relax w h o (rd q i) [0, 1, 2, 3] d q).2 (i + 1) else d
def dist (w h o a : Int) : List Int := bfs w h o 17 ((List.replicate (cells w h).toNat (-1)).set a.toNat 0) [a] 0
/-- What can be come to. -/
inductive Rch (w h o a : Int) : Int → Prop
  | refl : Rch w h o a a
  | step {x t : Int} : Rch w h o a x → 0 ≤ t → t ≤ 3 → 0 ≤ step w h o x t → Rch w h o a (step w h o x t)
structure BInv (w h o a : Int) (d q : List Int) : Prop where
  len : (d.length : Int) = cells w h
  mem : ∀ x ∈ q, isCell w h x = true ∧ 0 ≤ rd d x ∧ Rch w h o a x
  inq : ∀ x, isCell w h x = true → 0 ≤ rd d x → x ∈ q
  nod : q.Nodup
  bnd : ∀ x, isCell w h x = true → rd d x < (q.length : Int)
  ini : a ∈ q
theorem cellD_lt {w h x : Int} (z : isCell w h x = true) : 0 ≤ x ∧ x < cells w h := by unfold isCell at z; exact of_decide_eq_true z
theorem cell_of {w h x : Int} (h0 : 0 ≤ x) (h1 : x < cells w h) : isCell w h x = true := by unfold isCell; exact decide_eq_true ⟨h0, h1⟩
theorem BInv.le16 {w h o a : Int} {d q : List Int} (b : BInv w h o a d q) : q.length ≤ 16 := nodup_le 16 q b.nod (fun x hx => by
  have h1 := cellD_lt (b.mem x hx).1
  have h2 := cells_range w h
  omega)
theorem step_cell {w h o c t : Int} (z : 0 ≤ step w h o c t) : isCell w h (step w h o c t) = true := by
  rcases step_range w h o c t with e | ⟨_, _, e, _⟩
  · omega
  · exact e
theorem BInv.put {w h o a : Int} {d q : List Int} (b : BInv w h o a d q) {c t : Int} (hc : c ∈ q) (h0 : 0 ≤ t) (h3 : t ≤ 3) (hs : 0 ≤ step w h o c t) (hd : rd d (step w h o c t) < 0) : BInv w h o a (d.set (step w h o c t).toNat (rd d c + 1)) (q ++ [step w h o c t]) := by
  have hn := step_cell hs
  have hl := cellD_lt hn
  have hcc := b.mem c hc
  have hbc := b.bnd c hcc.1
  have hlen := b.len
  have e : ∀ x, isCell w h x = true → rd (d.set (step w h o c t).toNat (rd d c + 1)) x = if x = step w h o c t then rd d c + 1 else rd d x := fun x hx => rd_set hl.1 (by omega) (cellD_lt hx).1
  refine ⟨by simpa using hlen, fun x hx => ?_, fun x hx hp => ?_, ?_, fun x hx => ?_, List.mem_append_left _ b.ini⟩
  · rcases List.mem_append.1 hx with hx | hx
    · have h1 := b.mem x hx
      refine ⟨h1.1, ?_, h1.2.2⟩
      rw [e x h1.1]
      split
      · omega
      · exact h1.2.1
    · simp only [List.mem_singleton] at hx
      subst hx
      refine ⟨hn, ?_, Rch.step hcc.2.2 h0 h3 hs⟩
      rw [e _ hn, if_pos rfl]
      omega
  · rw [e x hx] at hp
    by_cases z : x = step w h o c t
    · rw [z]; exact List.mem_append_right _ (List.mem_singleton.2 rfl)
    · rw [if_neg z] at hp
      exact List.mem_append_left _ (b.inq x hx hp)
  · rw [List.nodup_append]
    refine ⟨b.nod, by simp, fun x hx y hy => ?_⟩
    simp only [List.mem_singleton] at hy
    subst hy
    intro z
    subst z
    have := (b.mem _ hx).2.1
    omega
  · rw [e x hx]
    simp only [List.length_append, List.length_singleton]
    split
    · omega
    · have := b.bnd x hx
      omega
theorem relax_inv {w h o a c : Int} : ∀ (ts d q : List Int), BInv w h o a d q → c ∈ q → (∀ t ∈ ts, 0 ≤ t ∧ t ≤ 3) →
    BInv w h o a (relax w h o c ts d q).1 (relax w h o c ts d q).2 ∧ (∃ m, (relax w h o c ts d q).2 = q ++ m) ∧ ∀ t ∈ ts, 0 ≤ step w h o c t → step w h o c t ∈ (relax w h o c ts d q).2
  | [], d, q, b, _, _ => ⟨b, ⟨[], by simp [relax]⟩, fun t ht => by cases ht⟩
  | t :: ts, d, q, b, hc, ht => by
    have h1 := ht t List.mem_cons_self
    have h2 : ∀ x ∈ ts, 0 ≤ x ∧ x ≤ 3 := fun x hx => ht x (List.mem_cons_of_mem _ hx)
    rw [relax]
    by_cases z : 0 ≤ step w h o c t ∧ rd d (step w h o c t) < 0
    · rw [if_pos z]
      have r := relax_inv ts _ _ (b.put hc h1.1 h1.2 z.1 z.2) (List.mem_append_left _ hc) h2
      obtain ⟨m, hm⟩ := r.2.1
      refine ⟨r.1, ⟨step w h o c t :: m, by rw [hm]; simp⟩, fun x hx hs => ?_⟩
      rcases List.mem_cons.1 hx with rfl | hx
      · rw [hm]; simp
      · exact r.2.2 x hx hs
    · rw [if_neg z]
      have r := relax_inv ts d q b hc h2
      obtain ⟨m, hm⟩ := r.2.1
      refine ⟨r.1, r.2.1, fun x hx hs => ?_⟩
      rcases List.mem_cons.1 hx with rfl | hx
      · rw [hm]
        refine List.mem_append_left _ (b.inq _ (step_cell hs) ?_)
        have : ¬ rd d (step w h o c x) < 0 := fun y => z ⟨hs, y⟩
        omega
      · exact r.2.2 x hx hs
theorem dirs_ok : ∀ t ∈ ([0, 1, 2, 3] : List Int), 0 ≤ t ∧ t ≤ 3 := by simp
theorem bfs_inv {w h o a : Int} : ∀ (n : Nat) (d q : List Int) (i : Int), BInv w h o a d q → 0 ≤ i → i ≤ (q.length : Int) → 17 - i = n →
    (∀ j, 0 ≤ j → j < i → ∀ t, 0 ≤ t → t ≤ 3 → 0 ≤ step w h o (rd q j) t → step w h o (rd q j) t ∈ q) →
    ((bfs w h o n d q i).length : Int) = cells w h ∧ (∀ x, isCell w h x = true → (0 ≤ rd (bfs w h o n d q i) x ↔ Rch w h o a x)) ∧ (∀ x, isCell w h x = true → rd (bfs w h o n d q i) x < 16)
  | 0, d, q, i, b, h0, h1, hn, hc => by
    have := b.le16
    omega
  | n + 1, d, q, i, b, h0, h1, hn, hc => by
    have h16 := b.le16
    rw [bfs]
    by_cases z : i < (q.length : Int)
    · rw [if_pos z]
      have hm : rd q i ∈ q := rd_memL h0 z
      have r := relax_inv [0, 1, 2, 3] d q b hm dirs_ok
      obtain ⟨m, hq⟩ := r.2.1
      refine bfs_inv n _ _ (i + 1) r.1 (by omega) (by rw [hq]; simp; omega) (by omega) (fun j hj0 hj1 t ht0 ht3 hs => ?_)
      have ej : rd (relax w h o (rd q i) [0, 1, 2, 3] d q).2 j = rd q j := by rw [hq]; exact rd_append_left hj0 (by omega)
      rw [ej] at hs ⊢
      by_cases e : j = i
      · subst e
        exact r.2.2 t (by simp; omega) hs
      · rw [hq]
        exact List.mem_append_left _ (hc j hj0 (by omega) t ht0 ht3 hs)
    · rw [if_neg z]
      have hi : i = (q.length : Int) := by omega
      refine ⟨b.len, fun x hx => ⟨fun hp => (b.mem x (b.inq x hx hp)).2.2, fun hr => ?_⟩, fun x hx => ?_⟩
      · have key : ∀ y, Rch w h o a y → y ∈ q := by
          intro y hy
          induction hy with
          | refl => exact b.ini
          | step hy ht0 ht3 hs ih =>
            obtain ⟨j, hj0, hj1, rfl⟩ := mem_rd ih
            exact hc j hj0 (by omega) _ ht0 ht3 hs
        exact (b.mem x (key x hr)).2.1
      · have := b.bnd x hx
        omega
theorem start_inv {w h o a : Int} (hc : isCell w h a = true) : BInv w h o a ((List.replicate (cells w h).toNat (-1)).set a.toNat 0) [a] := by
  have hl := cellD_lt hc
  have hr := cells_range w h
  have e : ∀ x, isCell w h x = true → rd ((List.replicate (cells w h).toNat (-1)).set a.toNat 0) x = if x = a then 0 else -1 := fun x hx => by
    have hx' := cellD_lt hx
    rw [rd_set hl.1 (by simp; omega) hx'.1]
    split
    · rfl
    · exact List.eq_of_mem_replicate (rd_memL (l := List.replicate (cells w h).toNat (-1)) hx'.1 (by simp; omega))
  refine ⟨by simp; omega, fun x hx => ?_, fun x hx hp => ?_, by simp, fun x hx => ?_, by simp⟩
  · simp only [List.mem_singleton] at hx
    subst hx
    exact ⟨hc, by rw [e x hc, if_pos rfl]; omega, Rch.refl⟩
  · rw [e x hx] at hp
    by_cases z : x = a
    · simp [z]
    · rw [if_neg z] at hp; omega
  · rw [e x hx]
    simp only [List.length_singleton]
    split <;> omega
/-- The distances: -1 just where there is no way. -/
theorem dist_tells {w h o a : Int} (hc : isCell w h a = true) : ((dist w h o a).length : Int) = cells w h ∧ (∀ x, isCell w h x = true → (0 ≤ rd (dist w h o a) x ↔ Rch w h o a x)) ∧ (∀ x, isCell w h x = true → rd (dist w h o a) x < 16) :=
  bfs_inv 17 _ _ 0 (start_inv hc) (by omega) (by simp) (by omega) (fun j h0 h1 => by omega)
theorem rch_cell {w h o a x : Int} (hc : isCell w h a = true) (z : Rch w h o a x) : isCell w h x = true := by
  cases z with
  | refl => exact hc
  | step _ _ _ hs => exact step_cell hs
/-- The places from i on where a list isn't below 0. -/
def places : List Int → Int → List Int
  | [], _ => []
  | x :: xs, i => if 0 ≤ x then i :: places xs (i + 1) else places xs (i + 1)
theorem mem_places : ∀ (l : List Int) (i x : Int), x ∈ places l i ↔ i ≤ x ∧ x < i + (l.length : Int) ∧ 0 ≤ rd l (x - i)
  | [], i, x => by simp [places]; omega
  | y :: l, i, x => by
    have ih := mem_places l (i + 1) x
    have e0 : rd (y :: l) 0 = y := rfl
    have e1 : i + 1 ≤ x → rd (y :: l) (x - i) = rd l (x - (i + 1)) := fun z => by
      unfold rd
      rw [show (x - i).toNat = (x - (i + 1)).toNat + 1 by omega]
      rfl
    rw [places]
    simp only [List.length_cons]
    by_cases z : 0 ≤ y
    · rw [if_pos z, List.mem_cons, ih]
      constructor
      · rintro (rfl | ⟨a, b, c⟩)
        · exact ⟨Int.le_refl _, by omega, by rw [show x - x = 0 by omega, e0]; exact z⟩
        · exact ⟨by omega, by omega, by rw [e1 a]; exact c⟩
      · rintro ⟨a, b, c⟩
        by_cases e : x = i
        · exact .inl e
        · exact .inr ⟨by omega, by omega, by rw [e1 (by omega)] at c; exact c⟩
    · rw [if_neg z, ih]
      constructor
      · rintro ⟨a, b, c⟩
        exact ⟨by omega, by omega, by rw [e1 a]; exact c⟩
      · rintro ⟨a, b, c⟩
        by_cases e : x = i
        · subst e
          rw [show x - x = 0 by omega, e0] at c
          exact absurd c z
        · exact ⟨by omega, by omega, by rw [e1 (by omega)] at c; exact c⟩
theorem places_length : ∀ (l : List Int) (i : Int), (places l i).length ≤ l.length
  | [], _ => by simp [places]
  | y :: l, i => by
    have := places_length l (i + 1)
    rw [places]
    split
    · simp only [List.length_cons]; omega
    · simp only [List.length_cons]; omega
def reached (w h o a : Int) : List Int := if has w h o a = true then places (dist w h o a) 0 else []
theorem mem_reached {w h o a x : Int} (z : has w h o a = true) : x ∈ reached w h o a ↔ Rch w h o a x := by
  have hc := (has_parts z).2
  have hd := dist_tells (o := o) hc
  unfold reached
  rw [if_pos z, mem_places]
  rw [show x - 0 = x by omega]
  constructor
  · rintro ⟨a1, b, c⟩
    exact (hd.2.1 x (cell_of (by omega) (by omega))).1 c
  · intro r
    have hx := rch_cell hc r
    have hl := cellD_lt hx
    exact ⟨by omega, by omega, (hd.2.1 x hx).2 r⟩
theorem range_map (n : Nat) (i : Int) : (List.range (n + 1)).map (fun j : Nat => i + (j : Int)) = i :: (List.range n).map (fun j : Nat => i + 1 + (j : Int)) := by
  rw [List.range_succ_eq_map, List.map_cons, List.map_map]
  congr 1
  · simp
  · apply List.map_congr_left
    intro j _
    simp only [Function.comp]
    omega
theorem places_eq : ∀ (l : List Int) (i : Int), places l i = ((List.range l.length).map fun j : Nat => i + (j : Int)).filter fun x => decide (0 ≤ rd l (x - i))
  | [], i => by simp [places]
  | y :: l, i => by
    have ih := places_eq l (i + 1)
    have e : ((List.range l.length).map fun j : Nat => i + 1 + (j : Int)).filter (fun x => decide (0 ≤ rd (y :: l) (x - i))) = ((List.range l.length).map fun j : Nat => i + 1 + (j : Int)).filter (fun x => decide (0 ≤ rd l (x - (i + 1)))) := by
      apply List.filter_congr
      intro x hx
      obtain ⟨j, _, rfl⟩ := List.mem_map.1 hx
      have e1 : rd (y :: l) (i + 1 + (j : Int) - i) = rd l (i + 1 + (j : Int) - (i + 1)) := by
        unfold rd
        rw [show (i + 1 + (j : Int) - i).toNat = (i + 1 + (j : Int) - (i + 1)).toNat + 1 by omega]
        rfl
      rw [e1]
    rw [List.length_cons, range_map, List.filter_cons, e, ← ih, places]
    have e0 : rd (y :: l) (i - i) = y := by rw [show i - i = 0 by omega]; rfl
    rw [e0]
    by_cases z : 0 ≤ y
    · rw [if_pos z, if_pos (decide_eq_true z)]
    · rw [if_neg z, if_neg (by simpa using z)]
theorem reached_length {w h o a : Int} : (reached w h o a).length ≤ 16 := by
  unfold reached
  split
  · rename_i z
    have h1 := (dist_tells (o := o) (has_parts z).2).1
    have h2 := cells_range w h
    have h3 := places_length (dist w h o a) 0
    omega
  · simp
theorem relax_ways (w h o c : Int) : ∀ (ts d q : List Int), relax w h o c (ts.filter fun t => decide (0 ≤ step w h o c t)) d q = relax w h o c ts d q
  | [], _, _ => rfl
  | t :: ts, d, q => by
    rw [List.filter_cons]
    by_cases z : 0 ≤ step w h o c t
    · rw [if_pos (decide_eq_true z), relax, relax]
      split <;> exact relax_ways w h o c ts _ _
    · rw [if_neg (by simpa using z), relax_ways w h o c ts, relax, if_neg fun y => z y.1]
def distOf (w h o a b : Int) : Int := if has w h o a = true ∧ isCell w h b = true then rd (dist w h o a) b else -1
theorem iDist_l1 (w h o a : Int) (i : Int) (ws : List Int) : ∀ (n k : Nat) (d q : List Int) (j : Int), (∀ t ∈ ws, 0 ≤ t ∧ t ≤ 3 ∧ 0 ≤ step w h o (rd q i) t) → 0 ≤ j → j ≤ (ws.length : Int) → ws.length ≤ 4 → (ws.length : Int) - j = n → 4 ≤ k → BInv w h o a d q → 0 ≤ i → i < (q.length : Int) →
    impl_distances.l1 (k + n + 1) d q i ws (ws.length : Int) j w h o = impl_distances.l0 k (relax w h o (rd q i) (ws.drop j.toNat) d q).1 (relax w h o (rd q i) (ws.drop j.toNat) d q).2 (i + 1) w h o := by
  intro n
  induction n with
  | zero =>
    intro k d q j hw h0 h1 h4 hj hk b hi0 hi1
    have h16 := b.le16
    simp only [Nat.add_zero]
    rw [impl_distances.l1, if_neg (by omega), List.drop_of_length_le (by omega), w64 (by omega) (by omega)]
    rfl
  | succ n ih =>
    intro k d q j hw h0 h1 h4 hj hk b hi0 hi1
    have h16 := b.le16
    have hm : rd q i ∈ q := rd_memL hi0 hi1
    have hcc := b.mem _ hm
    have hcl := cellD_lt hcc.1
    have hcr := cells_range w h
    have hbc := b.bnd _ hcc.1
    have hlen := b.len
    have ht := hw _ (rd_memL h0 (show j < (ws.length : Int) by omega))
    rw [show k + (n + 1) + 1 = (k + n + 1) + 1 by omega, impl_distances.l1, if_pos (by omega), if_pos h0, if_pos (by omega), if_pos hi0, if_pos hi1, iStep _ w h o _ _ (by omega), drop_cons (l := ws) h0 (by omega)]
    simp only [Option.bind_some]
    rw [w64 (x := j + 1) (by omega) (by omega), relax]
    generalize rd ws j = t at ht ⊢
    have z := ht.2.2
    have hn := step_cell z
    have hnl := cellD_lt hn
    rw [if_pos hnl.1, if_pos (by omega)]
    by_cases y : rd d (step w h o (rd q i) t) < 0
    · have e : 0 ≤ step w h o (rd q i) t ∧ rd d (step w h o (rd q i) t) < 0 := ⟨z, y⟩
      rw [if_pos y, if_pos hcl.1, if_pos (by omega), if_pos (by omega), if_pos e, w64 (x := rd d (rd q i) + 1) (by omega) (by omega)]
      have e2 : rd (q ++ [step w h o (rd q i) t]) i = rd q i := rd_append_left hi0 hi1
      have r := ih k _ _ (j + 1) (by rw [e2]; exact hw) (by omega) (by omega) h4 (by omega) hk (b.put hm ht.1 ht.2.1 z y) hi0 (by simp; omega)
      rw [e2] at r
      exact r
    · have e : ¬ (0 ≤ step w h o (rd q i) t ∧ rd d (step w h o (rd q i) t) < 0) := fun x => y x.2
      rw [if_neg y, if_neg e]
      exact ih k d q (j + 1) hw (by omega) (by omega) h4 (by omega) hk b hi0 hi1
theorem iDist_l0 (w h o a : Int) : ∀ (n k : Nat) (d q : List Int) (i : Int), BInv w h o a d q → 0 ≤ i → i ≤ (q.length : Int) → 17 - i = n → 6 * n + 15 ≤ k →
    impl_distances.l0 k d q i w h o = some (bfs w h o n d q i)
  | 0, k, d, q, i, b, h0, h1, hn, hk => by
    have := b.le16
    omega
  | n + 1, k, d, q, i, b, h0, h1, hn, hk => by
    have h16 := b.le16
    obtain ⟨k, rfl⟩ : ∃ m, k = m + 6 := ⟨k - 6, by omega⟩
    rw [impl_distances.l0, bfs]
    by_cases z : i < (q.length : Int)
    · rw [if_pos z, if_pos z, if_pos h0, iWaysFrom _ w h o _ (by omega)]
      simp only [Option.bind_some]
      have hm : rd q i ∈ q := rd_memL h0 z
      have r := relax_inv [0, 1, 2, 3] d q b hm dirs_ok
      obtain ⟨m, hq⟩ := r.2.1
      have hw := ways_tell (w := w) (h := h) (o := o) (c := rd q i)
      obtain ⟨e, he⟩ : ∃ e, e + (ways w h o (rd q i)).length = 4 := ⟨4 - (ways w h o (rd q i)).length, by omega⟩
      rw [show k + 5 = (k + e) + (ways w h o (rd q i)).length + 1 by omega, iDist_l1 w h o a i _ (ways w h o (rd q i)).length (k + e) d q 0 hw.1 (by omega) (by omega) hw.2 (by omega) (by omega) b h0 z]
      simp only [Int.toNat_zero, List.drop_zero]
      have e2 : relax w h o (rd q i) (ways w h o (rd q i)) d q = relax w h o (rd q i) [0, 1, 2, 3] d q := relax_ways w h o (rd q i) [0, 1, 2, 3] d q
      rw [e2]
      exact iDist_l0 w h o a n (k + e) _ _ (i + 1) r.1 (by omega) (by rw [hq]; simp; omega) (by omega) (by omega)
    · rw [if_neg z, if_neg z]
theorem iDist (k : Nat) (w h o a : Int) (hc : isCell w h a = true) (hk : 140 ≤ k) : impl_distances.f k w h o a = some (dist w h o a) := by
  have hr := cells_range w h
  have hl := cellD_lt hc
  unfold impl_distances.f slices_Repeat_int_int.f
  rw [iCountCells]
  simp only [Option.bind_some]
  rw [if_pos ⟨rfl, by omega, hr.2⟩]
  simp only [Option.bind_some]
  rw [if_pos hl.1, if_pos (by simp; omega)]
  exact iDist_l0 w h o a 17 k _ _ 0 (start_inv hc) (by omega) (by simp) (by omega) (by omega)
theorem iUpTo_go (n : Nat) (hn : n ≤ 1000) : ∀ (d k : Nat) (i : Nat), i ≤ n → n - i = d → d < k → impl_upTo.l0 k (n : Int) ((List.range i).map fun j : Nat => (j : Int)) (i : Int) = some ((List.range n).map fun j : Nat => (j : Int)) := by
  intro d
  induction d with
  | zero =>
    intro k i h1 hd hk
    obtain ⟨k, rfl⟩ := kpos hk
    rw [impl_upTo.l0, if_neg (by omega), show i = n by omega]
  | succ d ih =>
    intro k i h1 hd hk
    obtain ⟨k, rfl⟩ := kpos hk
    have hA : ((List.range i).map fun j : Nat => (j : Int)).length < 17592186044416 := by
      rw [List.length_map, List.length_range]
      omega
    rw [impl_upTo.l0, if_pos (by omega), if_pos hA, w64 (by omega) (by omega)]
    have r := ih k (i + 1) (by omega) (by omega) (by omega)
    rw [List.range_succ, List.map_append] at r
    exact r
theorem iUpTo (k n : Nat) (hn : n ≤ 1000) (hk : n < k) : impl_upTo.f k (n : Int) = some ((List.range n).map fun j : Nat => (j : Int)) := iUpTo_go n hn n k 0 (by omega) (by omega) hk
theorem iReached (k : Nat) (w h o a : Int) (hk : 140 ≤ k) : impl_Reached.f k w h o a = some (reached w h o a) := by
  unfold impl_Reached.f reached
  rw [iisIn1]
  simp only [Option.bind_some]
  by_cases z : has w h o a = true
  · have hc := (has_parts z).2
    have hd := dist_tells (o := o) hc
    have hr := cells_range w h
    rw [if_pos z, if_pos z, iDist k w h o a hc hk]
    simp only [Option.bind_some]
    rw [iUpTo k _ (by omega) (by omega)]
    simp only [Option.bind_some]
    have hall : (((List.range (dist w h o a).length).map fun j : Nat => (j : Int)).all fun x => decide (0 ≤ x ∧ x < ((dist w h o a).length : Int))) = true := by
      rw [List.all_eq_true]
      intro x hx
      obtain ⟨j, hj, rfl⟩ := List.mem_map.1 hx
      have := List.mem_range.1 hj
      exact decide_eq_true ⟨by omega, by omega⟩
    rw [if_pos hall, places_eq]
    congr 1
    have e : (fun j : Nat => (0 : Int) + (j : Int)) = fun j : Nat => (j : Int) := by funext j; omega
    rw [e]
    apply List.filter_congr
    intro x _
    rw [show x - 0 = x by omega, Bool.eq_iff_iff]
    simp
  · rw [if_neg z, if_neg z]
theorem iDistanceOf (k : Nat) (w h o a b : Int) (hk : 140 ≤ k) : impl_DistanceOf.f k w h o a b = some (distOf w h o a b) := by
  unfold impl_DistanceOf.f distOf
  rw [iisIn2]
  simp only [Option.bind_some]
  by_cases z : has w h o a = true ∧ isCell w h b = true
  · have hh := has_parts z.1
    have hd := dist_tells (o := o) hh.2
    have hb := cellD_lt z.2
    rw [if_pos (by rw [hh.1, hh.2, z.2]; rfl), if_pos z, iDist k w h o a hh.2 hk]
    simp only [Option.bind_some]
    rw [if_pos hb.1, if_pos (by omega)]
  · rw [if_neg (fun q => z ?_), if_neg z]
    simp only [Bool.and_eq_true] at q
    unfold has
    rw [q.1, q.2.1]
    exact ⟨rfl, q.2.2⟩
end Go.Proofs.Ytnfclfpicemojaa.L
