/- Walks by arrows pop circles; whichever cells begin, the end is the same. -/

import Derived.Test.YtnipocpbpcaepaaLPopRun
import Derived.Test.YtnipocpbpcaepaaLCycle
namespace Go.Proofs.Ytnipocpbpcaepaa.L
open Go.RowKit Go.Proofs.Ytnipocpbpcaepaa.X Go.Proofs.YtnipocpbpcaepaaW.PrintWords Go.Proofs.YtnipocpbpcaepaaW.PrintLast Go.Proofs.YtnipocpbpcaepaaW.PrintMore
set_option linter.unusedSimpArgs false
set_option linter.unusedVariables false

def nxA (w h : Int) (A : List (List Int)) (c t : Int) : Int := nb w h c (rd (rows A c) t)
def okA (w h : Int) (A : List (List Int)) (c t : Int) : Prop := isCell w h c = true ∧ 0 ≤ t ∧ t < ((rows A c).length : Int)
section
variable {w h o : Int} {A : List (List Int)} {ins : List Bool} {W u : List Int} {c : Int}
theorem top_nxt (x : Int) : top (nxA w h A) (rd u) x = nxt w h A u x := rfl
theorem It_last (f : Int → Int) (n : Nat) (x : Int) : It f (n + 1) x = f (It f n x) := by
  rw [← It_add f n 1 x]
  rfl
/-- The state within a walk, and that each cell of the path leads to the next. -/
def Lnk (w h : Int) (A : List (List Int)) (P u : List Int) : Prop := ∀ j : Nat, (hj : j + 1 < P.length) → nxt w h A u P[j] = P[j + 1]
structure VL (w h : Int) (A : List (List Int)) (ins : List Bool) (W : List Int) (c : Int) (u : List Int) : Prop where
  v : V w h A ins W c u
  lnk : Lnk w h A (W ++ [c]) u
theorem nxt_same {u u' : List Int} {x : Int} (e : rd u' x = rd u x) : nxt w h A u' x = nxt w h A u x := by
  unfold nxt arrow
  rw [e]
theorem VL.push (a : AOk w h A) (s : VL w h A ins W c u) (ht : rd u c < ((rows A c).length : Int)) (hi : rdOf false ins (nxt w h A u c) = false) (hn : nxt w h A u c ∉ W ++ [c]) : VL w h A ins (W ++ [c]) (nxt w h A u c) u := by
  refine ⟨s.v.push a ht hi hn, fun j hj => ?_⟩
  have hl : ((W ++ [c]) ++ [nxt w h A u c]).length = (W ++ [c]).length + 1 := by simp
  by_cases z : j + 1 < (W ++ [c]).length
  · rw [List.getElem_append_left (by omega), List.getElem_append_left z]
    exact s.lnk j z
  · have hj2 : j + 1 = (W ++ [c]).length := by omega
    have hW : j = W.length := by simp at hj2; omega
    subst hW
    rw [List.getElem_append_left (by simp), List.getElem_append_right (by simp)]
    simp
theorem inc_off {x : Int} : ∀ (ps u : List Int), (∀ p ∈ ps, p.toNat ≠ x.toNat) → rd (inc ps u) x = rd u x
  | [], u, _ => rfl
  | p :: ps, u, hp => by
    rw [inc, inc_off ps _ (fun q hq => hp q (List.mem_cons_of_mem _ hq))]
    unfold rd
    simp only [List.getD_eq_getElem?_getD]
    rw [List.getElem?_set_ne (hp p List.mem_cons_self)]
theorem VL.pop (a : AOk w h A) (s : VL w h A ins W c u) (ht : rd u c < ((rows A c).length : Int)) {x : Int} (hx : x ∈ W ++ [c]) :
    VL w h A ins ((W ++ [c]).take ((W ++ [c]).idxOf x)) x (inc ((W ++ [c]).drop ((W ++ [c]).idxOf x)) u) := by
  have v := s.v
  refine ⟨v.pop a ht hx, ?_⟩
  rw [← take_idx hx]
  intro j hj
  rw [List.getElem_take, List.getElem_take]
  have hjl : j + 1 < (W ++ [c]).length := by rw [List.length_take] at hj; omega
  have hji : j < (W ++ [c]).idxOf x := by rw [List.length_take] at hj; omega
  rw [← s.lnk j hjl]
  refine nxt_same (inc_off _ _ fun p hp e => ?_)
  have hpc := cellD_lt (v.cel p (List.mem_of_mem_drop hp)).1
  have hjc := cellD_lt (v.cel (W ++ [c])[j] (List.getElem_mem _)).1
  have hpe : p = (W ++ [c])[j] := by omega
  have hn := v.nod
  rw [← List.take_append_drop ((W ++ [c]).idxOf x) (W ++ [c]), List.nodup_append] at hn
  refine hn.2.2 ((W ++ [c])[j]) ?_ p hp hpe.symm
  exact List.mem_take_iff_getElem.2 ⟨j, by omega, rfl⟩
/-- The circle that is popped. -/
theorem cyc_on (s : VL w h A ins W c u) {x : Int} (hxn : nxt w h A u c = x) (hx : x ∈ W ++ [c]) : Cyc (top (nxA w h A) (rd u)) x ∧ ∀ y, On (top (nxA w h A) (rd u)) x y ↔ y ∈ (W ++ [c]).drop ((W ++ [c]).idxOf x) := by
  have hl : (W ++ [c]).idxOf x < (W ++ [c]).length := List.idxOf_lt_length_iff.2 hx
  have hit : ∀ m : Nat, (hm : (W ++ [c]).idxOf x + m < (W ++ [c]).length) → It (top (nxA w h A) (rd u)) m x = (W ++ [c])[(W ++ [c]).idxOf x + m] := by
    intro m
    induction m with
    | zero =>
      intro hm
      exact (List.getElem_idxOf hl).symm
    | succ m ih =>
      intro hm
      rw [It_last, ih (by omega), top_nxt]
      exact s.lnk _ (by omega)
  have hlast : It (top (nxA w h A) (rd u)) ((W ++ [c]).length - 1 - (W ++ [c]).idxOf x) x = c := by
    rw [hit _ (by omega)]
    have : (W ++ [c]).idxOf x + ((W ++ [c]).length - 1 - (W ++ [c]).idxOf x) = W.length := by
      have : (W ++ [c]).length = W.length + 1 := by simp
      omega
    simp only [this]
    simp
  have hback : It (top (nxA w h A) (rd u)) ((W ++ [c]).length - 1 - (W ++ [c]).idxOf x + 1) x = x := by
    rw [It_last, hlast, top_nxt, hxn]
  refine ⟨⟨_, hback⟩, fun y => ?_⟩
  have hmem : ∀ n, It (top (nxA w h A) (rd u)) n x ∈ (W ++ [c]).drop ((W ++ [c]).idxOf x) := by
    intro n
    induction n with
    | zero =>
      refine List.mem_drop_iff_getElem.2 ⟨0, by omega, ?_⟩
      show (W ++ [c])[(W ++ [c]).idxOf x]'hl = x
      exact List.getElem_idxOf hl
    | succ n ih =>
      obtain ⟨j, hj, e⟩ := List.mem_drop_iff_getElem.1 ih
      rw [It_last, ← e, top_nxt]
      by_cases z : (W ++ [c]).idxOf x + j + 1 < (W ++ [c]).length
      · rw [s.lnk _ z]
        exact List.mem_drop_iff_getElem.2 ⟨j + 1, by omega, rfl⟩
      · have hc : (W ++ [c])[(W ++ [c]).idxOf x + j] = c := by
          have : (W ++ [c]).idxOf x + j = W.length := by
            have : (W ++ [c]).length = W.length + 1 := by simp
            omega
          simp only [this]
          simp
        rw [hc, hxn]
        refine List.mem_drop_iff_getElem.2 ⟨0, by omega, ?_⟩
        show (W ++ [c])[(W ++ [c]).idxOf x]'hl = x
        exact List.getElem_idxOf hl
  constructor
  · rintro ⟨n, rfl⟩
    exact hmem n
  · intro hy
    obtain ⟨j, hj, e⟩ := List.mem_drop_iff_getElem.1 hy
    exact ⟨j, (hit j (by omega)).trans e⟩
theorem VL.loop (a : AOk w h A) (s : VL w h A ins W c u) (ht : rd u c < ((rows A c).length : Int)) {x : Int} (hxn : nxt w h A u c = x) (hx : x ∈ W ++ [c]) : Loop (nxA w h A) (okA w h A) (rd u) x := by
  obtain ⟨h1, h2⟩ := cyc_on s hxn hx
  refine ⟨h1, fun y hy => ?_⟩
  have hm := List.mem_of_mem_drop ((h2 y).1 hy)
  exact ⟨(s.v.cel y hm).1, (s.v.unn y (s.v.cel y hm).1).1, s.v.ltP ht y hm⟩
theorem VL.popC (a : AOk w h A) (s : VL w h A ins W c u) (hroot : rdOf false ins 0 = true) {x : Int} (hxn : nxt w h A u c = x) (hx : x ∈ W ++ [c]) : rd (inc ((W ++ [c]).drop ((W ++ [c]).idxOf x)) u) = popC (nxA w h A) (rd u) x := by
  obtain ⟨h1, h2⟩ := cyc_on s hxn hx
  have v := s.v
  have hd : ((W ++ [c]).drop ((W ++ [c]).idxOf x)).Nodup := v.nod.sublist (List.drop_sublist _ _)
  have hdc : ∀ p ∈ (W ++ [c]).drop ((W ++ [c]).idxOf x), isCell w h p = true := fun p hp => (v.cel p (List.mem_of_mem_drop hp)).1
  funext y
  by_cases z : y ∈ (W ++ [c]).drop ((W ++ [c]).idxOf x)
  · rw [popC_on ((h2 y).2 z), inc_rd _ u v.ulen hd hdc y (hdc y z), if_pos z]
  · rw [popC_off (fun q => z ((h2 y).1 q))]
    by_cases hy : isCell w h y = true
    · rw [inc_rd _ u v.ulen hd hdc y hy, if_neg z]
    · refine inc_off _ _ fun p hp e => ?_
      have hp1 := cellD_lt (hdc p hp)
      have hp0 : p ≠ 0 := fun q => by
        have := (v.cel p (List.mem_of_mem_drop hp)).2
        rw [q, hroot] at this
        cases this
      have hyp : p = y := by omega
      exact hy (by rw [← hyp]; exact hdc p hp)
/-- What a walk does: pops circles, and leaves the cells of the maze as they were. -/
theorem wl_pops (a : AOk w h A) (hroot : rdOf false ins 0 = true) : ∀ (n : Nat) (W : List Int) (c : Int) (u : List Int) (res : Option (List Int × List Int)), VL w h A ins W c u → wl w h A ins n (W ++ [c]) u = some res →
    ∃ (m : Nat) (u2 W2 : List Int) (c2 : Int), Pops (nxA w h A) (okA w h A) m (rd u) (rd u2) ∧ VL w h A ins W2 c2 u2 ∧ (∀ y, rdOf false ins y = true → isCell w h y = true → rd u2 y = rd u y) ∧
      (res = none → ((rows A c2).length : Int) ≤ rd u2 c2) ∧ (∀ P' u', res = some (P', u') → P' = W2 ++ [c2] ∧ u' = u2 ∧ rd u2 c2 < ((rows A c2).length : Int) ∧ rdOf false ins (nxt w h A u2 c2) = true ∧ (W ++ [c]).head? = (W2 ++ [c2]).head?)
  | 0, W, c, u, res, v, hw => by simp [wl] at hw
  | n + 1, W, c, u, res, s, hw => by
    rw [wl_suc] at hw
    by_cases ht : rd u c < ((rows A c).length : Int)
    · rw [if_pos ht] at hw
      by_cases hi : rdOf false ins (nxt w h A u c) = true
      · rw [if_pos hi] at hw
        obtain rfl := Option.some.inj hw
        refine ⟨0, u, W, c, .done _, s, fun _ _ _ => rfl, fun e => (by cases e), fun P' u' e => ?_⟩
        have e2 := Option.some.inj e
        simp only [Prod.mk.injEq] at e2
        exact ⟨e2.1.symm, e2.2.symm, ht, hi, rfl⟩
      · rw [if_neg hi] at hw
        by_cases hx : nxt w h A u c ∈ W ++ [c]
        · rw [if_pos hx, take_idx hx] at hw
          obtain ⟨m, u2, W2, c2, p, s2, k, e1, e2⟩ := wl_pops a hroot n _ _ _ res (s.pop a ht hx) hw
          refine ⟨m + 1, u2, W2, c2, .pop (s.loop a ht rfl hx) ?_, s2, fun y hy hc => (k y hy hc).trans ?_, e1, fun P' u' e => ?_⟩
          · rw [← s.popC a hroot rfl hx]
            exact p
          · refine inc_off _ _ fun q hq e => ?_
            have h1 := (s.v.cel q (List.mem_of_mem_drop hq))
            have h2 := cellD_lt h1.1
            have h3 := cellD_lt hc
            have : q = y := by omega
            rw [this, hy] at h1
            cases h1.2
          · obtain ⟨f1, f2, f3, f4, f5⟩ := e2 P' u' e
            refine ⟨f1, f2, f3, f4, ?_⟩
            rw [← f5, ← take_idx hx]
            cases hWc : W ++ [c] with
            | nil => simp at hWc
            | cons y t => simp
        · rw [if_neg hx] at hw
          obtain ⟨m, u2, W2, c2, p, s2, k, e1, e2⟩ := wl_pops a hroot n _ _ _ res (s.push a ht (by simpa using hi) hx) hw
          refine ⟨m, u2, W2, c2, p, s2, k, e1, fun P' u' e => ?_⟩
          obtain ⟨f1, f2, f3, f4, f5⟩ := e2 P' u' e
          refine ⟨f1, f2, f3, f4, ?_⟩
          rw [← f5]
          cases hWc : W ++ [c] with
          | nil => simp at hWc
          | cons y t => simp
    · rw [if_neg ht] at hw
      obtain rfl := Option.some.inj hw
      exact ⟨0, u, W, c, .done _, s, fun _ _ _ => rfl, fun _ => by omega, fun P' u' e => (by cases e)⟩
/-! ### All walks -/
theorem pops_trans {nx : Int → Int → Int} {ok : Int → Int → Prop} {m n : Nat} {x y z : Int → Int} (p : Pops nx ok m x y) (q : Pops nx ok n y z) : ∃ k, Pops nx ok k x z := by
  induction p with
  | done u => exact ⟨n, q⟩
  | pop l _ ih =>
    obtain ⟨k, r⟩ := ih q
    exact ⟨k + 1, .pop l r⟩
theorem rdOf_set {l : List Bool} {i j : Int} (h0 : 0 ≤ i) (h1 : i < (l.length : Int)) (hj : 0 ≤ j) : rdOf false (l.set i.toNat true) j = (decide (j = i) || rdOf false l j) := by
  unfold rdOf
  rw [List.getD_eq_getElem?_getD, List.getD_eq_getElem?_getD]
  by_cases e : j = i
  · subst e
    rw [List.getElem?_set_self (by omega)]
    simp
  · rw [List.getElem?_set_ne (by omega)]
    simp [e]
theorem mark_ins : ∀ (q : List Int) (ins : List Bool) (o : Int), (ins.length : Int) = cells w h → (∀ c ∈ q, isCell w h c = true) → ∀ x, isCell w h x = true → (rdOf false (mark w h A u q ins o).1 x = true ↔ x ∈ q ∨ rdOf false ins x = true)
  | [], ins, o, hi, hc, x, hx => by simp [mark]
  | c :: q, ins, o, hi, hc, x, hx => by
    have h1 := cellD_lt (hc c List.mem_cons_self)
    have h2 := cellD_lt hx
    rw [mark, mark_ins q _ _ (by rw [List.length_set]; exact hi) (fun y hy => hc y (List.mem_cons_of_mem _ hy)) x hx, rdOf_set h1.1 (by omega) h2.1, List.mem_cons]
    by_cases e : x = c <;> simp [e]
theorem mark_bits : ∀ (q : List Int) (ins : List Bool) (o : Int), (∀ c ∈ q, isGap w h (gapAt w h c (arrow A u c)) = true) → ∀ g, isGap w h g = true → (bit (mark w h A u q ins o).2 g = true ↔ bit o g = true ∨ ∃ c ∈ q, gapAt w h c (arrow A u c) = g)
  | [], ins, o, hc, g, hg => by simp [mark]
  | c :: q, ins, o, hc, g, hg => by
    have h1 : 0 ≤ gapAt w h c (arrow A u c) := by have := hc c List.mem_cons_self; unfold isGap at this; exact (of_decide_eq_true this).1
    have h2 : 0 ≤ g := by unfold isGap at hg; exact (of_decide_eq_true hg).1
    rw [mark, mark_bits q _ _ (fun y hy => hc y (List.mem_cons_of_mem _ hy)) g hg, bit_withO o _ g true h1 h2]
    by_cases e : gapAt w h c (arrow A u c) = g
    · simp [e]
    · simp [e]
theorem Mid.start (m : Mid w h A u ins o) (hc : isCell w h c = true) (hi : rdOf false ins c = false) : VL w h A ins [] c u :=
  ⟨⟨m.ulen, m.ilen, by simp, fun x hx => by
    have : x = c := by simpa using hx
    rw [this]
    exact ⟨hc, hi⟩, (fun x hx => by cases hx), m.unn⟩, fun j hj => by simp at hj⟩
theorem arrow_same {u u' : List Int} {x : Int} (e : rd u' x = rd u x) : arrow A u' x = arrow A u x := by
  unfold arrow
  rw [e]
/-- One walk more: the tree grows. -/
theorem mid_step (a : AOk w h A) (m : Mid w h A u ins o) {W2 : List Int} {c2 : Int} {u2 : List Int} (s2 : VL w h A ins W2 c2 u2) (keep : ∀ y, rdOf false ins y = true → isCell w h y = true → rd u2 y = rd u y) (ht : rd u2 c2 < ((rows A c2).length : Int)) (hin : rdOf false ins (nxt w h A u2 c2) = true) :
    Mid w h A u2 (mark w h A u2 (W2 ++ [c2]) ins o).1 (mark w h A u2 (W2 ++ [c2]) ins o).2 := by
  have v := s2.v
  have hall : ∀ x ∈ W2 ++ [c2], isCell w h x = true ∧ 0 ≤ rd u2 x ∧ rd u2 x < ((rows A x).length : Int) := fun x hx => ⟨(v.cel x hx).1, (v.unn x (v.cel x hx).1).1, v.ltP ht x hx⟩
  have hgap : ∀ x ∈ W2 ++ [c2], isGap w h (gapAt w h x (arrow A u2 x)) = true := fun x hx => by
    have h1 := hall x hx
    have hn := nxt_cell a h1.1 h1.2.1 h1.2.2
    have hd := nb_dir hn.2
    exact (nb_tells h1.1 hd.1 hd.2 hn.2).1
  have hmk := mark_ev a (u := u2) (W2 ++ [c2]) (by have := v.le16; omega) (W2 ++ [c2]).length 0 ins o (Int.le_refl _) (by omega) m.ilen v.ulen m.okm hall
  rw [show (0 : Int).toNat = 0 from rfl, List.drop_zero] at hmk
  have hI := mark_ins (w := w) (h := h) (A := A) (u := u2) (W2 ++ [c2]) ins o m.ilen (fun x hx => (hall x hx).1)
  have hB := mark_bits (w := w) (h := h) (A := A) (u := u2) (W2 ++ [c2]) ins o hgap
  refine ⟨v.ulen, hmk.2.2, v.unn, (hI 0 a.zero).2 (Or.inr m.root), ?_, hmk.2.1, fun g hg => ?_⟩
  · obtain ⟨dep, hdep⟩ := m.up
    refine ⟨fun x => if x ∈ W2 ++ [c2] then dep (nxt w h A u2 c2) + ((W2 ++ [c2]).length - (W2 ++ [c2]).idxOf x) else dep x, fun x hx hxi hx0 => ?_⟩
    by_cases z : x ∈ W2 ++ [c2]
    · have hl : (W2 ++ [c2]).idxOf x < (W2 ++ [c2]).length := List.idxOf_lt_length_iff.2 z
      have hxe : (W2 ++ [c2])[(W2 ++ [c2]).idxOf x] = x := List.getElem_idxOf hl
      refine ⟨(hall x z).2.2, ?_⟩
      by_cases last : (W2 ++ [c2]).idxOf x + 1 < (W2 ++ [c2]).length
      · have hn : nxt w h A u2 x = (W2 ++ [c2])[(W2 ++ [c2]).idxOf x + 1] := by
          have := s2.lnk _ last
          rw [hxe] at this
          exact this
        have hnm : nxt w h A u2 x ∈ W2 ++ [c2] := by rw [hn]; exact List.getElem_mem _
        refine ⟨(hI _ (v.cel _ hnm).1).2 (Or.inl hnm), ?_⟩
        dsimp only
        rw [if_pos hnm, if_pos z]
        have hni : (W2 ++ [c2]).idxOf x + 1 ≤ (W2 ++ [c2]).idxOf (nxt w h A u2 x) := by
          have hl2 : (W2 ++ [c2]).idxOf (nxt w h A u2 x) < (W2 ++ [c2]).length := List.idxOf_lt_length_iff.2 hnm
          have he2 : (W2 ++ [c2])[(W2 ++ [c2]).idxOf (nxt w h A u2 x)] = nxt w h A u2 x := List.getElem_idxOf hl2
          have hp := List.pairwise_iff_getElem.1 v.nod
          rcases Nat.lt_trichotomy ((W2 ++ [c2]).idxOf (nxt w h A u2 x)) ((W2 ++ [c2]).idxOf x + 1) with y | y | y
          · exact absurd (he2.trans hn) (hp _ _ hl2 last y)
          · omega
          · omega
        omega
      · have hxc : x = c2 := by
          have he : (W2 ++ [c2]).idxOf x = W2.length := by
            have : (W2 ++ [c2]).length = W2.length + 1 := by simp
            omega
          rw [← hxe]
          simp only [he]
          simp
        subst hxc
        have hnc := (nxt_cell a hx (hall x z).2.1 (hall x z).2.2).1
        have hnp : nxt w h A u2 x ∉ W2 ++ [x] := fun q => by
          have := (v.cel _ q).2
          rw [hin] at this
          cases this
        refine ⟨(hI _ hnc).2 (Or.inr hin), ?_⟩
        dsimp only
        rw [if_neg hnp, if_pos z]
        omega
    · have hxo : rdOf false ins x = true := by
        rcases (hI x hx).1 hxi with q | q
        · exact absurd q z
        · exact q
      obtain ⟨d1, d2, d3⟩ := hdep x hx hxo hx0
      have hk := keep x hxo hx
      have hns := nxt_same (w := w) (h := h) (A := A) hk
      have hnc := (nxt_cell a hx (m.unn x hx).1 d1).1
      refine ⟨by rw [hk]; exact d1, ?_⟩
      rw [hns]
      have hnp : nxt w h A u x ∉ W2 ++ [c2] := fun q => by
        have := (v.cel _ q).2
        rw [d2] at this
        cases this
      refine ⟨(hI _ hnc).2 (Or.inr d2), ?_⟩
      dsimp only
      rw [if_neg hnp, if_neg z]
      exact d3
  · rw [hB g hg, m.bits g hg]
    constructor
    · rintro (⟨x, x1, x2, x3, x4⟩ | ⟨x, x1, x2⟩)
      · exact ⟨x, x1, (hI x x1).2 (Or.inr x2), x3, by rw [arrow_same (keep x x2 x1)]; exact x4⟩
      · refine ⟨x, (hall x x1).1, (hI x (hall x x1).1).2 (Or.inl x1), fun e => ?_, x2⟩
        have := (v.cel x x1).2
        rw [e, m.root] at this
        cases this
    · rintro ⟨x, x1, x2, x3, x4⟩
      rcases (hI x x1).1 x2 with q | q
      · exact Or.inr ⟨x, q, x4⟩
      · exact Or.inl ⟨x, x1, q, x3, by rw [← arrow_same (keep x q x1)]; exact x4⟩
theorem run_pops (a : AOk w h A) : ∀ (q : List Int) (u : List Int) (ins : List Bool) (o : Int), (∀ x ∈ q, isCell w h x = true) → Mid w h A u ins o →
    (runA w h A q u ins o = none → ∃ (m : Nat) (u2 : List Int) (x : Int), Pops (nxA w h A) (okA w h A) m (rd u) (rd u2) ∧ isCell w h x = true ∧ x ≠ 0 ∧ ((rows A x).length : Int) ≤ rd u2 x) ∧
    (∀ u' ins' o', runA w h A q u ins o = some (u', ins', o') → ∃ m : Nat, Pops (nxA w h A) (okA w h A) m (rd u) (rd u') ∧ Mid w h A u' ins' o' ∧ (∀ x ∈ q, rdOf false ins' x = true) ∧ ∀ x, isCell w h x = true → rdOf false ins x = true → rdOf false ins' x = true)
  | [], u, ins, o, hq, m => by
    refine ⟨fun e => (by cases e), fun u' ins' o' e => ?_⟩
    have e2 := Option.some.inj e
    simp only [Prod.mk.injEq] at e2
    obtain ⟨rfl, rfl, rfl⟩ := e2
    exact ⟨0, .done _, m, (fun x hx => by cases hx), fun _ _ z => z⟩
  | c :: q, u, ins, o, hq, m => by
    have hc := hq c List.mem_cons_self
    have hq2 : ∀ x ∈ q, isCell w h x = true := fun x hx => hq x (List.mem_cons_of_mem _ hx)
    by_cases hi : rdOf false ins c = true
    · rw [runA, if_pos hi]
      have ih := run_pops a q u ins o hq2 m
      refine ⟨ih.1, fun u' ins' o' e => ?_⟩
      obtain ⟨k, p, m', h1, h2⟩ := ih.2 u' ins' o' e
      refine ⟨k, p, m', fun x hx => ?_, h2⟩
      rcases List.mem_cons.1 hx with z | z
      · rw [z]; exact h2 c hc hi
      · exact h1 x z
    · have hi' : rdOf false ins c = false := by simpa using hi
      rw [runA, if_neg hi]
      have s := m.start hc hi'
      have hs := s.v.sum a
      obtain ⟨res, hres⟩ := wl_ends a 20000 [] c u s.v (by simp; omega)
      have hres2 : wl w h A ins 20000 [c] u = some res := hres
      obtain ⟨k, u2, W2, c2, p, s2, keep, e1, e2⟩ := wl_pops a m.root 20000 [] c u res s hres
      rw [hres2]
      have hc20 : c2 ≠ 0 := fun z => by
        have := (s2.v.cel c2 (by simp)).2
        rw [z, m.root] at this
        cases this
      cases res with
      | none => exact ⟨fun _ => ⟨k, u2, c2, p, s2.v.cc, hc20, e1 rfl⟩, fun u' ins' o' e => (by cases e)⟩
      | some pu =>
        obtain ⟨P', u'⟩ := pu
        obtain ⟨f1, f2, f3, f4, f5⟩ := e2 P' u' rfl
        subst f1
        subst f2
        have m2 := mid_step a m s2 keep f3 f4
        have ih := run_pops a q u' _ _ hq2 m2
        have hI := mark_ins (w := w) (h := h) (A := A) (u := u') (W2 ++ [c2]) ins o m.ilen (fun x hx => (s2.v.cel x hx).1)
        have hcm : c ∈ W2 ++ [c2] := by
          have : (W2 ++ [c2]).head? = some c := by rw [← f5]; rfl
          exact List.mem_of_mem_head? this
        refine ⟨fun e => ?_, fun u3 ins3 o3 e => ?_⟩
        · obtain ⟨k2, u4, x, p2, x1, x2, x3⟩ := ih.1 e
          obtain ⟨k3, p3⟩ := pops_trans p p2
          exact ⟨k3, u4, x, p3, x1, x2, x3⟩
        · obtain ⟨k2, p2, m3, h1, h2⟩ := ih.2 u3 ins3 o3 e
          obtain ⟨k3, p3⟩ := pops_trans p p2
          refine ⟨k3, p3, m3, fun x hx => ?_, fun x hx z => h2 x hx ((hI x hx).2 (Or.inr z))⟩
          rcases List.mem_cons.1 hx with z | z
          · rw [z]
            exact h2 c hc ((hI c hc).2 (Or.inl hcm))
          · exact h1 x z
theorem mid_noloop (a : AOk w h A) (m : Mid w h A u ins o) (hall : ∀ x, isCell w h x = true → rdOf false ins x = true) (x : Int) : ¬ Loop (nxA w h A) (okA w h A) (rd u) x := by
  rintro ⟨⟨n, hn⟩, hok⟩
  obtain ⟨dep, hdep⟩ := m.up
  have key : ∀ k, dep (It (top (nxA w h A) (rd u)) k x) + k ≤ dep x := by
    intro k
    induction k with
    | zero => exact Nat.le_refl _
    | succ k ih =>
      have ho := hok _ ⟨k, rfl⟩
      have h0 : It (top (nxA w h A) (rd u)) k x ≠ 0 := fun z => by
        have h2 := ho.2
        rw [z, a.root] at h2
        simp at h2
        omega
      have hd := (hdep _ ho.1 (hall _ ho.1) h0).2.2
      rw [It_last, top_nxt]
      omega
  have := key (n + 1)
  rw [hn] at this
  omega
end
end Go.Proofs.Ytnipocpbpcaepaa.L
