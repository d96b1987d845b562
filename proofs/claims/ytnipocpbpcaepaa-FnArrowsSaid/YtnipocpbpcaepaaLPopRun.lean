/- Walks by arrows: what the program's and the reference's walks return, for all arguments. -/
import Derived.Test.YtnipocpbpcaepaaXcints
import Derived.Test.YtnipocpbpcaepaaXcreach
import Derived.Test.YtnipocpbpcaepaaXimplpopped
import Derived.Test.YtnipocpbpcaepaaXslicesCloneintint
import Derived.Test.YtnipocpbpcaepaaLArrow
namespace Go.Proofs.Ytnipocpbpcaepaa.L
open Go.RowKit Go.Proofs.Ytnipocpbpcaepaa.X Go.Proofs.YtnipocpbpcaepaaW.PrintWords Go.Proofs.YtnipocpbpcaepaaW.PrintLast Go.Proofs.YtnipocpbpcaepaaW.PrintMore
set_option linter.unusedSimpArgs false
set_option linter.unusedVariables false

/-- From some number of rounds on, the answer. -/
def Ev {α : Type} (F : Nat → Option α) (r : α) : Prop := ∃ K, ∀ k, K ≤ k → F k = some r
theorem Ev.to {α : Type} {F G : Nat → Option α} {r : α} (K1 : Nat) (h1 : ∀ k, K1 ≤ k → F (k + 1) = G k) (e : Ev G r) : Ev F r := by
  obtain ⟨K2, h2⟩ := e
  refine ⟨K1 + K2 + 1, fun k hk => ?_⟩
  obtain ⟨m, rfl⟩ : ∃ m, k = m + 1 := ⟨k - 1, by omega⟩
  rw [h1 m (by omega), h2 m (by omega)]
theorem Ev.fin {α : Type} {F : Nat → Option α} {r : α} (K1 : Nat) (h1 : ∀ k, K1 ≤ k → F (k + 1) = some r) : Ev F r := by
  refine ⟨K1 + 1, fun k hk => ?_⟩
  obtain ⟨m, rfl⟩ : ∃ m, k = m + 1 := ⟨k - 1, by omega⟩
  exact h1 m (by omega)
theorem Ev.cong {α : Type} {F G : Nat → Option α} {r : α} (K1 : Nat) (h1 : ∀ k, K1 ≤ k → F k = G k) (e : Ev G r) : Ev F r := by
  obtain ⟨K2, h2⟩ := e
  exact ⟨K1 + K2, fun k hk => (h1 k (by omega)).trans (h2 k (by omega))⟩
theorem Ev.bind {α β : Type} {F : Nat → Option α} {G : Nat → α → Option β} {x : α} {r : β} (e : Ev F x) (g : Ev (fun k => G k x) r) : Ev (fun k => (F k).bind (G k)) r := by
  obtain ⟨K1, h1⟩ := e
  obtain ⟨K2, h2⟩ := g
  exact ⟨K1 + K2, fun k hk => by
    show (F k).bind (G k) = some r
    rw [h1 k (by omega), Option.bind_some]
    exact h2 k (by omega)⟩
theorem rl_rows (A : List (List Int)) (c : Int) : rd_L1 A c = rows A c := rfl
theorem lastC_app (W : List Int) (c : Int) : lastC (W ++ [c]) = c := by
  unfold lastC rd
  rw [List.length_append, List.length_singleton, show (((W.length + 1 : Nat) : Int) - 1).toNat = W.length by omega]
  simp
theorem rd_last (W : List Int) (c : Int) : rd (W ++ [c]) (((W ++ [c]).length : Int) - 1) = c := lastC_app W c
theorem take_idx {P : List Int} {x : Int} (h : x ∈ P) : P.take (P.idxOf x + 1) = P.take (P.idxOf x) ++ [x] := by
  have hl : P.idxOf x < P.length := List.idxOf_lt_length_iff.2 h
  rw [List.take_add_one, List.getElem?_eq_getElem hl, List.getElem_idxOf hl]
  rfl
/-- A walk's state: the path, its end, and the arrows used up. -/
structure V (w h : Int) (A : List (List Int)) (ins : List Bool) (W : List Int) (c : Int) (u : List Int) : Prop where
  ulen : (u.length : Int) = cells w h
  ilen : (ins.length : Int) = cells w h
  nod : (W ++ [c]).Nodup
  cel : ∀ x ∈ W ++ [c], isCell w h x = true ∧ rdOf false ins x = false
  lt : ∀ x ∈ W, rd u x < ((rows A x).length : Int)
  unn : ∀ x, isCell w h x = true → 0 ≤ rd u x ∧ rd u x ≤ ((rows A x).length : Int)
section
variable {w h o : Int} {A : List (List Int)} {ins : List Bool} {W u : List Int} {c : Int}
theorem V.cc (v : V w h A ins W c u) : isCell w h c = true := (v.cel c (by simp)).1
theorem V.ltP (v : V w h A ins W c u) (ht : rd u c < ((rows A c).length : Int)) : ∀ x ∈ W ++ [c], rd u x < ((rows A x).length : Int) := fun x hx => by
  rcases List.mem_append.1 hx with e | e
  · exact v.lt x e
  · rw [List.mem_singleton.1 e]
    exact ht
theorem V.nx (a : AOk w h A) (v : V w h A ins W c u) (ht : rd u c < ((rows A c).length : Int)) : isCell w h (nxt w h A u c) = true := (nxt_cell a v.cc (v.unn c v.cc).1 ht).1
theorem V.push (a : AOk w h A) (v : V w h A ins W c u) (ht : rd u c < ((rows A c).length : Int)) (hi : rdOf false ins (nxt w h A u c) = false) (hn : nxt w h A u c ∉ W ++ [c]) : V w h A ins (W ++ [c]) (nxt w h A u c) u :=
  ⟨v.ulen, v.ilen, List.nodup_append.2 ⟨v.nod, by simp, fun x hx y hy e => hn (by rw [List.mem_singleton.1 hy] at e; rw [← e]; exact hx)⟩, fun x hx => by
    rcases List.mem_append.1 hx with e | e
    · exact v.cel x e
    · rw [List.mem_singleton.1 e]
      exact ⟨v.nx a ht, hi⟩, v.ltP ht, v.unn⟩
theorem V.pop (a : AOk w h A) (v : V w h A ins W c u) (ht : rd u c < ((rows A c).length : Int)) {x : Int} (hx : x ∈ W ++ [c]) :
    V w h A ins ((W ++ [c]).take ((W ++ [c]).idxOf x)) x (inc ((W ++ [c]).drop ((W ++ [c]).idxOf x)) u) := by
  have hd : ((W ++ [c]).drop ((W ++ [c]).idxOf x)).Nodup := v.nod.sublist (List.drop_sublist _ _)
  have hdc : ∀ p ∈ (W ++ [c]).drop ((W ++ [c]).idxOf x), isCell w h p = true := fun p hp => (v.cel p (List.mem_of_mem_drop hp)).1
  have hr := inc_rd ((W ++ [c]).drop ((W ++ [c]).idxOf x)) u v.ulen hd hdc
  have htk := take_idx hx
  refine ⟨by rw [inc_length]; exact v.ulen, v.ilen, by rw [← htk]; exact v.nod.sublist (List.take_sublist _ _), fun y hy => v.cel y (by rw [← htk] at hy; exact List.mem_of_mem_take hy), fun y hy => ?_, fun y hy => ?_⟩
  · have hyP := List.mem_of_mem_take hy
    rw [hr y (v.cel y hyP).1, if_neg]
    · exact v.ltP ht y hyP
    · intro z
      have hn := v.nod
      rw [← List.take_append_drop ((W ++ [c]).idxOf x) (W ++ [c]), List.nodup_append] at hn
      exact hn.2.2 y hy y z rfl
  · rw [hr y hy]
    have h0 := v.unn y hy
    by_cases z : y ∈ (W ++ [c]).drop ((W ++ [c]).idxOf x)
    · rw [if_pos z]
      have := v.ltP ht y (List.mem_of_mem_drop z)
      omega
    · rw [if_neg z]
      exact h0
theorem V.le16 (v : V w h A ins W c u) : (W ++ [c]).length ≤ 16 := nodup_le 16 _ v.nod fun x hx => by
  have h1 := cellD_lt (v.cel x hx).1
  have h2 := cells_range w h
  omega
theorem V.u60 (a : AOk w h A) (v : V w h A ins W c u) : ∀ x, isCell w h x = true → 0 ≤ rd u x ∧ rd u x ≤ 60 := fun x hx => by
  have h1 := v.unn x hx
  have h2 := a.most x hx
  omega
theorem wl_suc (n : Nat) : wl w h A ins (n + 1) (W ++ [c]) u = if rd u c < ((rows A c).length : Int) then
      if rdOf false ins (nxt w h A u c) = true then some (some (W ++ [c], u))
      else if nxt w h A u c ∈ W ++ [c] then wl w h A ins n ((W ++ [c]).take ((W ++ [c]).idxOf (nxt w h A u c) + 1)) (inc ((W ++ [c]).drop ((W ++ [c]).idxOf (nxt w h A u c))) u)
      else wl w h A ins n ((W ++ [c]) ++ [nxt w h A u c]) u
    else some none := by rw [wl, lastC_app]
/-! ### The end of the walks -/
theorem inc_sum : ∀ (ps u : List Int), (∀ p ∈ ps, 0 ≤ p ∧ p < (u.length : Int)) → (inc ps u).sum = u.sum + ps.length
  | [], u, _ => by simp [inc]
  | p :: ps, u, hp => by
    have h0 := hp p List.mem_cons_self
    rw [inc, inc_sum ps _ (fun q hq => by rw [List.length_set]; exact hp q (List.mem_cons_of_mem _ hq)), List.length_cons]
    have : (u.set p.toNat (rd u p + 1)).sum = u.sum + 1 := by
      have key : ∀ (l : List Int) (n : Nat) (hn : n < l.length), (l.set n (l[n] + 1)).sum = l.sum + 1 := by
        intro l
        induction l with
        | nil => intro n hn; simp at hn
        | cons y l ih =>
          intro n hn
          cases n with
          | zero => simp; omega
          | succ n =>
            have := ih n (by simpa using hn)
            simp only [List.set_cons_succ, List.sum_cons, List.getElem_cons_succ]
            omega
      have := key u p.toNat (by omega)
      rw [rd_get h0.1 h0.2]
      exact this
    rw [this]
    push_cast
    omega
theorem sum_le (b : Int) : ∀ (l : List Int), (∀ x ∈ l, 0 ≤ x ∧ x ≤ b) → 0 ≤ l.sum ∧ l.sum ≤ b * l.length
  | [], _ => by simp
  | x :: l, hl => by
    have h1 := sum_le b l (fun y hy => hl y (List.mem_cons_of_mem _ hy))
    have h2 := hl x List.mem_cons_self
    rw [List.sum_cons, List.length_cons]
    have : b * ((l.length + 1 : Nat) : Int) = b * l.length + b := by rw [Int.natCast_add, Int.mul_add]; omega
    omega
theorem V.sum (a : AOk w h A) (v : V w h A ins W c u) : 0 ≤ u.sum ∧ u.sum ≤ 960 := by
  have h1 := sum_le 60 u (fun x hx => by
    obtain ⟨i, i0, i1, rfl⟩ := mem_rd hx
    have hu := v.ulen
    exact v.u60 a i (cell_of i0 (by omega)))
  have h2 := cells_range w h
  have h3 := v.ulen
  omega
theorem wl_ends (a : AOk w h A) : ∀ (n : Nat) (W : List Int) (c : Int) (u : List Int), V w h A ins W c u → (960 - u.sum) * 17 + (17 - (W.length : Int)) < (n : Int) → ∃ r, wl w h A ins n (W ++ [c]) u = some r
  | 0, W, c, u, v, hn => by
    have h1 := v.sum a
    have h2 := v.le16
    simp at h2
    omega
  | n + 1, W, c, u, v, hn => by
    rw [wl_suc]
    by_cases ht : rd u c < ((rows A c).length : Int)
    · rw [if_pos ht]
      by_cases hi : rdOf false ins (nxt w h A u c) = true
      · rw [if_pos hi]
        exact ⟨_, rfl⟩
      · rw [if_neg hi]
        by_cases hx : nxt w h A u c ∈ W ++ [c]
        · rw [if_pos hx, take_idx hx]
          refine wl_ends a n _ _ _ (v.pop a ht hx) ?_
          have hl : (W ++ [c]).idxOf (nxt w h A u c) < (W ++ [c]).length := List.idxOf_lt_length_iff.2 hx
          rw [inc_sum _ _ (fun p hp => by
            have := cellD_lt (v.cel p (List.mem_of_mem_drop hp)).1
            have := v.ulen
            omega), List.length_drop]
          have h2 := v.le16
          have h3 := (v.pop a ht hx).le16
          simp only [List.length_append, List.length_singleton] at h2 h3 hl ⊢
          push_cast
          omega
        · rw [if_neg hx]
          refine wl_ends a n _ _ _ (v.push a ht (by simpa using hi) hx) ?_
          rw [List.length_append, List.length_singleton]
          push_cast
          push_cast at hn
          omega
    · rw [if_neg ht]
      exact ⟨_, rfl⟩
/-! ### The program's walk -/
theorem idx_le {x : Int} : ∀ (P : List Int) (i : Nat) (hi : i < P.length), P[i] = x → P.idxOf x ≤ i
  | [], i, hi, _ => by simp at hi
  | y :: P, i, hi, e => by
    rw [List.idxOf_cons]
    by_cases z : y = x
    · simp [z]
    · have z2 : (y == x) = false := by simpa using z
      rw [z2]
      cases i with
      | zero => exact absurd e (by simpa using z)
      | succ i =>
        have := idx_le P i (by simpa using hi) (by simpa using e)
        simp only [cond_false]
        omega
theorem idx_int {P : List Int} {x i : Int} (h0 : 0 ≤ i) (h1 : i < (P.length : Int)) (hx : rd P i = x) (hn : ∀ j, 0 ≤ j → j < i → rd P j ≠ x) : x ∈ P ∧ i = (P.idxOf x : Int) := by
  have hm : x ∈ P := by rw [← hx]; exact rd_memL h0 h1
  have hl : P.idxOf x < P.length := List.idxOf_lt_length_iff.2 hm
  have he : rd P ((P.idxOf x : Nat) : Int) = x := by rw [rd_nat hl]; exact List.getElem_idxOf hl
  refine ⟨hm, ?_⟩
  rcases Int.lt_trichotomy i (P.idxOf x : Int) with z | z | z
  · exfalso
    rw [rd_get h0 h1] at hx
    have := idx_le P i.toNat (by omega) hx
    omega
  · exact z
  · exact absurd he (hn _ (by omega) z)
theorem inc_ev : ∀ (d : Nat) (q : List Int) (j : Int) (u : List Int), 0 ≤ j → (q.length : Int) - j = d → q.length ≤ 1000 → (∀ c ∈ q, 0 ≤ c ∧ c < (u.length : Int) ∧ 0 ≤ rd u c ∧ rd u c + d ≤ 5000) → Ev (fun k => pop.l1 k q j u) (inc (q.drop j.toNat) u)
  | 0, q, j, u, h0, hd, hq, hc => Ev.fin 0 fun k _ => by
    show pop.l1 (k + 1) q j u = _
    rw [pop.l1, if_neg (by omega), List.drop_eq_nil_of_le (by omega)]
    rfl
  | d + 1, q, j, u, h0, hd, hq, hc => by
    have hj : j < (q.length : Int) := by omega
    have hm := hc _ (rd_memL h0 hj)
    have he : q.drop j.toNat = rd q j :: q.drop (j + 1).toNat := drop_cons h0 hj
    rw [he]
    refine Ev.to 0 (fun k _ => ?_) (inc_ev d q (j + 1) (u.set (rd q j).toNat (rd u (rd q j) + 1)) (by omega) (by omega) hq (fun c hcq => ?_))
    · show pop.l1 (k + 1) q j u = _
      rw [pop.l1, if_pos hj, if_pos hm.1, if_pos hm.2.1, w64 (by omega) (by omega), w64 (by omega) (by omega)]
    · have h1 := hc c hcq
      rw [List.length_set, rd_set hm.1 hm.2.1 h1.1]
      refine ⟨h1.1, h1.2.1, ?_⟩
      by_cases e : c = rd q j
      · subst e
        rw [if_pos rfl]
        omega
      · rw [if_neg e]
        omega
theorem mark_ev (a : AOk w h A) (q : List Int) (hq : q.length ≤ 1000) : ∀ (d : Nat) (j : Int) (ins : List Bool) (o : Int), 0 ≤ j → (q.length : Int) - j = d → (ins.length : Int) = cells w h → (u.length : Int) = cells w h → mazeOk w h o = true → (∀ c ∈ q, isCell w h c = true ∧ 0 ≤ rd u c ∧ rd u c < ((rows A c).length : Int)) →
    Ev (fun k => pop.l2 k A u q j ins w h o) ((mark w h A u (q.drop j.toNat) ins o).1, w, h, (mark w h A u (q.drop j.toNat) ins o).2) ∧ mazeOk w h (mark w h A u (q.drop j.toNat) ins o).2 = true ∧ ((mark w h A u (q.drop j.toNat) ins o).1.length : Int) = cells w h
  | 0, j, ins, o, h0, hd, hi, hu, hm, hc => by
    rw [List.drop_eq_nil_of_le (by omega)]
    refine ⟨Ev.fin 0 fun k _ => ?_, hm, hi⟩
    show pop.l2 (k + 1) A u q j ins w h o = _
    rw [pop.l2, if_neg (by omega)]
    rfl
  | d + 1, j, ins, o, h0, hd, hi, hu, hm, hc => by
    have hj : j < (q.length : Int) := by omega
    have hx := hc _ (rd_memL h0 hj)
    have hxl := cellD_lt hx.1
    have he : q.drop j.toNat = rd q j :: q.drop (j + 1).toNat := drop_cons h0 hj
    have hn := nxt_cell a hx.1 hx.2.1 hx.2.2
    have hdir := nb_dir hn.2
    have hg : isGap w h (gapAt w h (rd q j) (arrow A u (rd q j))) = true := (nb_tells hx.1 hdir.1 hdir.2 hn.2).1
    have hgb : 0 ≤ gapAt w h (rd q j) (arrow A u (rd q j)) ∧ gapAt w h (rd q j) (arrow A u (rd q j)) < gaps w h := by unfold isGap at hg; exact of_decide_eq_true hg
    have hgr := gaps_range w h
    have hmo := mazeOk_ok hm
    have ih := mark_ev a q hq d (j + 1) (ins.set (rd q j).toNat true) (withO o (gapAt w h (rd q j) (arrow A u (rd q j))) true) (by omega) (by omega) (by rw [List.length_set]; exact hi) hu (mazeOk_with true hm hg) hc
    rw [he]
    refine ⟨Ev.to 4 (fun k hk => ?_) ih.1, ih.2⟩
    show pop.l2 (k + 1) A u q j ins w h o = _
    have hla := a.len
    rw [pop.l2, if_pos hj, if_pos hxl.1, if_pos (by omega), if_pos (by omega), if_pos (by omega), if_pos hx.2.1, if_pos (by rw [rl_rows]; exact hx.2.2), iGapAt k w h _ _ hk, Option.bind_some, rl_rows]
    show (impl_with.f w h o (gapAt w h (rd q j) (arrow A u (rd q j))) true).bind _ = _
    rw [iWith w h o _ true hmo.2.1 hmo.2.2.2 hgb.1 (by omega), Option.bind_some, w64 (by omega) (by omega)]
theorem walk_impl (a : AOk w h A) (hm : mazeOk w h o = true) : ∀ (n : Nat) (W : List Int) (c : Int) (u : List Int) (res : Option (List Int × List Int)), V w h A ins W c u → wl w h A ins n (W ++ [c]) u = some res →
    (res = none → ∃ u', Ev (fun k => pop.l0 k A (W ++ [c]) u ins w h o) (false, u', ins, w, h, o)) ∧
    (∀ P' u', res = some (P', u') → Ev (fun k => pop.l0 k A (W ++ [c]) u ins w h o) (true, u', (mark w h A u' P' ins o).1, w, h, (mark w h A u' P' ins o).2) ∧ (∃ W' c', P' = W' ++ [c'] ∧ V w h A ins W' c' u' ∧ rd u' c' < ((rows A c').length : Int)))
  | 0, W, c, u, res, v, hw => by simp [wl] at hw
  | n + 1, W, c, u, res, v, hw => by
    rw [wl_suc] at hw
    have hcl := cellD_lt v.cc
    have hul := v.ulen
    have hil := v.ilen
    have hla := a.len
    have hl16 := v.le16
    have hpl : 0 < (((W ++ [c]).length : Nat) : Int) := by rw [List.length_append, List.length_singleton]; omega
    have hu0 := v.unn c v.cc
    by_cases ht : rd u c < ((rows A c).length : Int)
    · rw [if_pos ht] at hw
      have hnx := v.nx a ht
      have hnl := cellD_lt hnx
      have hstep : ∀ k, 4 ≤ k → pop.l0 (k + 1) A (W ++ [c]) u ins w h o = (if rdOf false ins (nxt w h A u c) = true then ((pop.l2 k A u (W ++ [c]) 0 ins w h o).bind fun R => some (true, u, R)) else ((slices_Index_int_int.f k (W ++ [c]) (nxt w h A u c)).bind fun i => if i < 0 then (if (W ++ [c]).length < 17592186044415 then pop.l0 k A ((W ++ [c]) ++ [nxt w h A u c]) u ins w h o else none) else (if i < (((W ++ [c]).length : Nat) : Int) then ((pop.l1 k ((W ++ [c]).drop i.toNat) 0 u).bind fun u' => pop.l0 k A ((W ++ [c]).take (i + 1).toNat) u' ins w h o) else none))) := fun k hk => by
        rw [pop.l0, if_pos hpl, rd_last, if_pos hcl.1, if_pos (by omega), if_pos (by omega), rl_rows, if_neg (by omega), if_pos hu0.1, iNeighbor k w h c _ hk, Option.bind_some, show nb w h c (rd (rows A c) (rd u c)) = nxt w h A u c from rfl, if_pos hnl.1, if_pos (by omega)]
      by_cases hi : rdOf false ins (nxt w h A u c) = true
      · rw [if_pos hi] at hw
        obtain rfl := Option.some.inj hw
        refine ⟨fun e => (by cases e), fun P' u' e => ?_⟩
        have e2 := Option.some.inj e
        simp only [Prod.mk.injEq] at e2
        obtain ⟨rfl, rfl⟩ := e2
        refine ⟨?_, W, c, rfl, v, ht⟩
        have hmk := (mark_ev a (u := u) (W ++ [c]) (by omega) (W ++ [c]).length 0 ins o (Int.le_refl _) (by omega) hil hul hm (fun x hx => ⟨(v.cel x hx).1, (v.unn x (v.cel x hx).1).1, v.ltP ht x hx⟩)).1
        rw [show (0 : Int).toNat = 0 from rfl, List.drop_zero] at hmk
        exact Ev.to 4 (fun k hk => by
          show pop.l0 (k + 1) A (W ++ [c]) u ins w h o = _
          rw [hstep k hk, if_pos hi]) (Ev.bind hmk ⟨0, fun k _ => rfl⟩)
      · rw [if_neg hi] at hw
        by_cases hx : nxt w h A u c ∈ W ++ [c]
        · rw [if_pos hx, take_idx hx] at hw
          have ih := walk_impl a hm n _ _ _ res (v.pop a ht hx) hw
          have hidx : (W ++ [c]).idxOf (nxt w h A u c) < (W ++ [c]).length := List.idxOf_lt_length_iff.2 hx
          have hinc := inc_ev ((W ++ [c]).drop ((W ++ [c]).idxOf (nxt w h A u c))).length ((W ++ [c]).drop ((W ++ [c]).idxOf (nxt w h A u c))) 0 u (Int.le_refl _) (by omega) (by rw [List.length_drop]; omega) (fun x hx' => by
            have hxP := List.mem_of_mem_drop hx'
            have h1 := cellD_lt (v.cel x hxP).1
            have h2 := v.u60 a x (v.cel x hxP).1
            rw [List.length_drop]
            omega)
          rw [show (0 : Int).toNat = 0 from rfl, List.drop_zero] at hinc
          have hgo : ∀ (r : Bool × List Int × List Bool × Int × Int × Int), Ev (fun k => pop.l0 k A ((W ++ [c]).take ((W ++ [c]).idxOf (nxt w h A u c)) ++ [nxt w h A u c]) (inc ((W ++ [c]).drop ((W ++ [c]).idxOf (nxt w h A u c))) u) ins w h o) r → Ev (fun k => pop.l0 k A (W ++ [c]) u ins w h o) r := fun r hr => by
            refine Ev.to 30 (fun k hk => ?_) (Ev.bind (G := fun k u' => pop.l0 k A ((W ++ [c]).take ((W ++ [c]).idxOf (nxt w h A u c)) ++ [nxt w h A u c]) u' ins w h o) hinc hr)
            show pop.l0 (k + 1) A (W ++ [c]) u ins w h o = _
            rw [hstep k (by omega), if_neg hi]
            obtain ⟨i, hi1, hi2⟩ := Index k (W ++ [c]) (nxt w h A u c) (by omega) (by omega)
            rcases hi2 with ⟨_, hi2⟩ | ⟨i0, i1, i2, i3⟩
            · exact absurd hx hi2
            · obtain ⟨_, hie⟩ := idx_int i0 i1 i2 i3
              rw [hi1, Option.bind_some, if_neg (by omega), if_pos i1, hie, Int.toNat_natCast, show (((W ++ [c]).idxOf (nxt w h A u c) : Nat) : Int) + 1 = (((W ++ [c]).idxOf (nxt w h A u c) + 1 : Nat) : Int) from by push_cast; rfl, Int.toNat_natCast, take_idx hx]
          refine ⟨fun e => ?_, fun P' u' e => ?_⟩
          · obtain ⟨u', hu'⟩ := ih.1 e
            exact ⟨u', hgo _ hu'⟩
          · obtain ⟨h1, h2⟩ := ih.2 P' u' e
            exact ⟨hgo _ h1, h2⟩
        · rw [if_neg hx] at hw
          have ih := walk_impl a hm n _ _ _ res (v.push a ht (by simpa using hi) hx) hw
          have hgo : ∀ (r : Bool × List Int × List Bool × Int × Int × Int), Ev (fun k => pop.l0 k A ((W ++ [c]) ++ [nxt w h A u c]) u ins w h o) r → Ev (fun k => pop.l0 k A (W ++ [c]) u ins w h o) r := fun r hr => by
            refine Ev.to 30 (fun k hk => ?_) hr
            show pop.l0 (k + 1) A (W ++ [c]) u ins w h o = _
            rw [hstep k (by omega), if_neg hi]
            obtain ⟨i, hi1, hi2⟩ := Index k (W ++ [c]) (nxt w h A u c) (by omega) (by omega)
            rcases hi2 with ⟨hi2, _⟩ | ⟨i0, i1, i2, i3⟩
            · rw [hi1, Option.bind_some, hi2, if_pos (by omega), if_pos (by omega)]
            · exact absurd (idx_int i0 i1 i2 i3).1 hx
          refine ⟨fun e => ?_, fun P' u' e => ?_⟩
          · obtain ⟨u', hu'⟩ := ih.1 e
            exact ⟨u', hgo _ hu'⟩
          · obtain ⟨h1, h2⟩ := ih.2 P' u' e
            exact ⟨hgo _ h1, h2⟩
    · rw [if_neg ht] at hw
      obtain rfl := Option.some.inj hw
      refine ⟨fun _ => ⟨u, Ev.fin 4 fun k hk => ?_⟩, fun P' u' e => (by cases e)⟩
      show pop.l0 (k + 1) A (W ++ [c]) u ins w h o = _
      rw [pop.l0, if_pos hpl, rd_last, if_pos hcl.1, if_pos (by omega), if_pos (by omega), rl_rows, if_pos (by omega)]
/-! ### All walks -/
structure M0 (w h : Int) (A : List (List Int)) (u : List Int) (ins : List Bool) (o : Int) : Prop where
  ulen : (u.length : Int) = cells w h
  ilen : (ins.length : Int) = cells w h
  unn : ∀ x, isCell w h x = true → 0 ≤ rd u x ∧ rd u x ≤ ((rows A x).length : Int)
  okm : mazeOk w h o = true
theorem M0.start (m : M0 w h A u ins o) (hc : isCell w h c = true) (hi : rdOf false ins c = false) : V w h A ins [] c u :=
  ⟨m.ulen, m.ilen, by simp, fun x hx => by
    have : x = c := by simpa using hx
    rw [this]
    exact ⟨hc, hi⟩, (fun x hx => by cases hx), m.unn⟩
theorem run_impl (a : AOk w h A) (qo : List Int) (hql : qo.length ≤ 1000) (hqc : ∀ x ∈ qo, isCell w h x = true) : ∀ (d : Nat) (jj : Int) (u : List Int) (ins : List Bool) (o : Int), 0 ≤ jj → (qo.length : Int) - jj = d → M0 w h A u ins o →
    (runA w h A (qo.drop jj.toNat) u ins o = none → ∃ x, Ev (fun k => popd.walks k A qo jj u ins w h o) (false, x)) ∧
    (∀ u' ins' o', runA w h A (qo.drop jj.toNat) u ins o = some (u', ins', o') → Ev (fun k => popd.walks k A qo jj u ins w h o) (true, u', ins', w, h, o') ∧ M0 w h A u' ins' o')
  | 0, jj, u, ins, o, h0, hd, m => by
    rw [List.drop_eq_nil_of_le (by omega)]
    refine ⟨fun e => (by cases e), fun u' ins' o' e => ?_⟩
    have e2 := Option.some.inj e
    simp only [Prod.mk.injEq] at e2
    obtain ⟨rfl, rfl, rfl⟩ := e2
    refine ⟨Ev.fin 0 fun k _ => ?_, m⟩
    show popd.walks (k + 1) A qo jj u ins w h o = _
    rw [popd.walks, if_neg (by omega)]
  | d + 1, jj, u, ins, o, h0, hd, m => by
    have hj : jj < (qo.length : Int) := by omega
    have hc := hqc _ (rd_memL h0 hj)
    have hcl := cellD_lt hc
    have hil := m.ilen
    have he : qo.drop jj.toNat = rd qo jj :: qo.drop (jj + 1).toNat := drop_cons h0 hj
    rw [he]
    have hI1 : ∀ k, popd.walks (k + 1) A qo jj u ins w h o = if rdOf false ins (rd qo jj) = true then popd.walks k A qo (jj + 1) u ins w h o else ((pop.l0 k A [rd qo jj] u ins w h o).bind fun R => if R.1 = true then popd.walks k A qo (jj + 1) R.2.1 R.2.2.1 R.2.2.2.1 R.2.2.2.2.1 R.2.2.2.2.2 else some R) := fun k => by
      rw [popd.walks, if_pos hj, if_pos hcl.1, if_pos (by omega), w64 (by omega) (by omega)]
    by_cases hi : rdOf false ins (rd qo jj) = true
    · rw [runA, if_pos hi]
      have ih := run_impl a qo hql hqc d (jj + 1) u ins o (by omega) (by omega) m
      have gI : ∀ r, Ev (fun k => popd.walks k A qo (jj + 1) u ins w h o) r → Ev (fun k => popd.walks k A qo jj u ins w h o) r := fun r e => Ev.to 0 (fun k _ => by
        show popd.walks (k + 1) A qo jj u ins w h o = _
        rw [hI1, if_pos hi]) e
      refine ⟨fun e => ?_, fun u' ins' o' e => ?_⟩
      · obtain ⟨x, hx⟩ := ih.1 e
        exact ⟨x, gI _ hx⟩
      · obtain ⟨e1, e3⟩ := ih.2 u' ins' o' e
        exact ⟨gI _ e1, e3⟩
    · have hi' : rdOf false ins (rd qo jj) = false := by simpa using hi
      rw [runA, if_neg hi]
      have v := m.start hc hi'
      have hs := v.sum a
      obtain ⟨res, hres⟩ := wl_ends a 20000 [] (rd qo jj) u v (by simp; omega)
      have hres2 : wl w h A ins 20000 [rd qo jj] u = some res := hres
      have wi := walk_impl a m.okm 20000 [] (rd qo jj) u res v hres
      rw [hres2]
      cases res with
      | none =>
        refine ⟨fun _ => ?_, fun u' ins' o' e => (by cases e)⟩
        obtain ⟨u', hu'⟩ := wi.1 rfl
        refine ⟨_, Ev.to 0 (fun k _ => ?_) (Ev.bind (G := fun k (R : Bool × List Int × List Bool × Int × Int × Int) => if R.1 = true then popd.walks k A qo (jj + 1) R.2.1 R.2.2.1 R.2.2.2.1 R.2.2.2.2.1 R.2.2.2.2.2 else some R) hu' ⟨0, fun k _ => rfl⟩)⟩
        show popd.walks (k + 1) A qo jj u ins w h o = _
        rw [hI1, if_neg hi]
        rfl
      | some pu =>
        obtain ⟨P', u'⟩ := pu
        obtain ⟨e1, W', c', hP, v', ht'⟩ := wi.2 P' u' rfl
        have hmk := mark_ev a (u := u') P' (by have := v'.le16; rw [hP]; omega) P'.length 0 ins o (Int.le_refl _) (by omega) m.ilen v'.ulen m.okm (fun x hx => by
          rw [hP] at hx
          exact ⟨(v'.cel x hx).1, (v'.unn x (v'.cel x hx).1).1, v'.ltP ht' x hx⟩)
        rw [show (0 : Int).toNat = 0 from rfl, List.drop_zero] at hmk
        have ih := run_impl a qo hql hqc d (jj + 1) u' (mark w h A u' P' ins o).1 (mark w h A u' P' ins o).2 (by omega) (by omega) ⟨v'.ulen, hmk.2.2, v'.unn, hmk.2.1⟩
        have gI : ∀ r, Ev (fun k => popd.walks k A qo (jj + 1) u' (mark w h A u' P' ins o).1 w h (mark w h A u' P' ins o).2) r → Ev (fun k => popd.walks k A qo jj u ins w h o) r := fun r e =>
          Ev.to 0 (fun k _ => by
            show popd.walks (k + 1) A qo jj u ins w h o = _
            rw [hI1, if_neg hi]
            rfl) (Ev.bind (G := fun k (R : Bool × List Int × List Bool × Int × Int × Int) => if R.1 = true then popd.walks k A qo (jj + 1) R.2.1 R.2.2.1 R.2.2.2.1 R.2.2.2.2.1 R.2.2.2.2.2 else some R) e1 e)
        refine ⟨fun e => ?_, fun u2 ins2 o2 e => ?_⟩
        · obtain ⟨x, hx⟩ := ih.1 e
          exact ⟨x, gI _ hx⟩
        · obtain ⟨e1, e3⟩ := ih.2 u2 ins2 o2 e
          exact ⟨gI _ e1, e3⟩
theorem sum_ev (u : List Int) (hl : u.length ≤ 1000) (hu : ∀ x ∈ u, 0 ≤ x ∧ x ≤ 60) : ∀ (d : Nat) (j s : Int), 0 ≤ j → (u.length : Int) - j = d → 0 ≤ s → s + 60 * d ≤ 1000000 → Ev (fun k => popd.sum k u j s) (s + (u.drop j.toNat).sum)
  | 0, j, s, h0, hd, s0, s1 => by
    rw [List.drop_eq_nil_of_le (by omega)]
    refine Ev.fin 0 fun k _ => ?_
    show popd.sum (k + 1) u j s = _
    rw [popd.sum, if_neg (by omega)]
    simp
  | d + 1, j, s, h0, hd, s0, s1 => by
    have hj : j < (u.length : Int) := by omega
    have hx := hu _ (rd_memL h0 hj)
    have he : u.drop j.toNat = rd u j :: u.drop (j + 1).toNat := drop_cons h0 hj
    have ih := sum_ev u hl hu d (j + 1) (s + rd u j) (by omega) (by omega) (by omega) (by omega)
    rw [he, List.sum_cons, ← Int.add_assoc]
    refine Ev.to 0 (fun k _ => ?_) ih
    show popd.sum (k + 1) u j s = _
    rw [popd.sum, if_pos hj, w64 (by omega) (by omega), w64 (by omega) (by omega)]
/-- The whole order: what was asked for, then every cell. -/
def ordAll (A : List (List Int)) (l : List Int) : List Int := l ++ (List.range A.length).map fun j : Nat => (j : Int)
def u0 (A : List (List Int)) : List Int := List.replicate A.length 0
def ins0 (A : List (List Int)) : List Bool := (List.replicate A.length false).set 0 true
theorem rd_rep (n : Nat) (x : Int) : rd (List.replicate n 0) x = 0 := by
  unfold rd
  rw [List.getD_eq_getElem?_getD, List.getElem?_replicate]
  split <;> rfl
theorem M0.zero (a : AOk w h A) : M0 w h A (u0 A) (ins0 A) 0 := by
  have hl := a.len
  refine ⟨by unfold u0; rw [List.length_replicate]; exact hl, by unfold ins0; rw [List.length_set, List.length_replicate]; exact hl, fun x hx => ?_, ?_⟩
  · unfold u0
    rw [rd_rep]
    omega
  · unfold mazeOk
    rw [a.grid, Bool.true_and]
    have := gaps_range w h
    exact decide_eq_true ⟨Int.le_refl _, (pow_le_24 this.1 this.2).1⟩
theorem ord_cells (a : AOk w h A) {l : List Int} (hl : ∀ x ∈ l, isCell w h x = true) : ∀ x ∈ ordAll A l, isCell w h x = true := fun x hx => by
  unfold ordAll at hx
  rcases List.mem_append.1 hx with e | e
  · exact hl x e
  · obtain ⟨n, hn, rfl⟩ := List.mem_map.1 e
    have := List.mem_range.1 hn
    have := a.len
    exact cell_of (by omega) (by omega)
theorem ord_length (a : AOk w h A) (l : List Int) : (ordAll A l).length = l.length + A.length := by unfold ordAll; simp
theorem tail_impl (a : AOk w h A) {l : List Int} (hl : l.length ≤ 100) (hlc : ∀ x ∈ l, isCell w h x = true) :
    (runA w h A (ordAll A l) (u0 A) (ins0 A) 0 = none → Ev (fun k => popd.tail k w h (cells w h) A (ordAll A l)) (0, 0, 0, -1, false)) ∧
    (∀ u' ins' o', runA w h A (ordAll A l) (u0 A) (ins0 A) 0 = some (u', ins', o') → Ev (fun k => popd.tail k w h (cells w h) A (ordAll A l)) (w, h, o', u'.sum, true)) := by
  have hcr := cells_range w h
  have hla := a.len
  have hn : (cells w h).toNat = A.length := by omega
  have hoL := ord_length a l
  have rb := run_impl a (ordAll A l) (by omega) (ord_cells a hlc) (ordAll A l).length 0 (u0 A) (ins0 A) 0 (Int.le_refl _) (by omega) (M0.zero a)
  rw [show (0 : Int).toNat = 0 from rfl, List.drop_zero] at rb
  have hT : ∀ k, popd.tail k w h (cells w h) A (ordAll A l) = (popd.walks k A (ordAll A l) 0 (u0 A) (ins0 A) w h 0).bind fun R => if R.1 = true then ((popd.sum k R.2.1 0 0).bind fun s => some (R.2.2.2.1, R.2.2.2.2.1, R.2.2.2.2.2, s, true)) else some (0, 0, 0, -1, false) := fun k => by
    unfold popd.tail u0 ins0
    rw [hn]
  refine ⟨fun e => ?_, fun u' ins' o' e => ?_⟩
  · obtain ⟨x, hx⟩ := rb.1 e
    exact Ev.cong 0 (fun k _ => hT k) (Ev.bind (G := fun k (R : Bool × List Int × List Bool × Int × Int × Int) => if R.1 = true then ((popd.sum k R.2.1 0 0).bind fun s => some (R.2.2.2.1, R.2.2.2.2.1, R.2.2.2.2.2, s, true)) else some (0, 0, 0, -1, false)) hx ⟨0, fun k _ => rfl⟩)
  · obtain ⟨e1, e3⟩ := rb.2 u' ins' o' e
    have hul := e3.ulen
    have hs := sum_ev u' (by omega) (fun x hx => by
      obtain ⟨i, i0, i1, rfl⟩ := mem_rd hx
      have hci : isCell w h i = true := cell_of i0 (by omega)
      have h1 := e3.unn i hci
      have h2 := a.most i hci
      omega) u'.length 0 0 (Int.le_refl _) (by omega) (Int.le_refl _) (by omega)
    rw [show (0 : Int).toNat = 0 from rfl, List.drop_zero, Int.zero_add] at hs
    exact Ev.cong 0 (fun k _ => hT k) (Ev.bind (G := fun k (R : Bool × List Int × List Bool × Int × Int × Int) => if R.1 = true then ((popd.sum k R.2.1 0 0).bind fun s => some (R.2.2.2.1, R.2.2.2.2.1, R.2.2.2.2.2, s, true)) else some (0, 0, 0, -1, false)) e1 (Ev.bind (G := fun k s => some (w, h, o', s, true)) hs ⟨0, fun k _ => rfl⟩))
end
end Go.Proofs.Ytnipocpbpcaepaa.L
