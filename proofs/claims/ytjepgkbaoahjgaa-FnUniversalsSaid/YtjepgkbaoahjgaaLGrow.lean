/- A maze grows cell by cell: what stands is a forest that joins just the cells of the set; at the end it is perfect. -/
import Derived.Test.YtjepgkbaoahjgaaXimplGrowMaze
import Derived.Test.YtjepgkbaoahjgaaLTrees
import Derived.Test.YtjepgkbaoahjgaaLConn
namespace Go.Proofs.Ytjepgkbaoahjgaa.L
open Go.RowKit Go.Proofs.Ytjepgkbaoahjgaa.X Go.Proofs.YtjepgkbaoahjgaaW.PrintWords Go.Proofs.YtjepgkbaoahjgaaW.PrintLast Go.Proofs.YtjepgkbaoahjgaaW.PrintMore
set_option linter.unusedSimpArgs false
set_option linter.unusedVariables false

theorem wfG {n : Int} (h0 : -9223372036854775808 ≤ n) (h1 : n ≤ 9223372036854775807) : (Lit.int .i64 n).wf = true := by
  have e0 : IntKind.i64.min = -9223372036854775808 := by decide
  have e1 : IntKind.i64.max = 9223372036854775807 := by decide
  simp only [Lit.wf, Bool.and_eq_true, decide_eq_true_eq, e0, e1]
  exact ⟨h0, h1⟩
/-- Just one end of the gap is in the set. -/
def bnd (w h : Int) (L : List Int) (g : Int) : Bool := !(decide (decide (endA w h g ∈ L) = decide (endB w h g ∈ L)))
theorem gm_l1 {w h : Int} {L : List Int} : ∀ (n k : Nat) (acc : List Int) (i : Int), 0 ≤ i → gaps w h - i = n → n + 2 ≤ k → acc.length + n ≤ 1000 →
    gm.l1 k w h L acc i = some (acc ++ ((List.range n).map fun j : Nat => i + (j : Int)).filter (bnd w h L)) := by
  have hgr := gaps_range w h
  intro n
  induction n with
  | zero =>
    intro k acc i h0 hd hk ha
    obtain ⟨k, rfl⟩ : ∃ m, k = m + 1 := ⟨k - 1, by omega⟩
    simp only [gm.l1]
    rw [iCountGaps, Option.bind_some, if_neg (by omega)]
    simp
  | succ n ih =>
    intro k acc i h0 hd hk ha
    obtain ⟨k, rfl⟩ : ∃ m, k = m + 1 := ⟨k - 1, by omega⟩
    have hg : isGap w h i = true := by unfold isGap; exact decide_eq_true ⟨h0, by omega⟩
    have he := end_tells hg
    have hA := isCell_grid he.1
    have hB := isCell_grid he.2.1
    simp only [gm.l1]
    rw [iCountGaps, Option.bind_some, if_pos (by omega), iEndsOf w h i hg, Option.bind_some, if_pos (wfG (by omega) (by omega)), if_pos (wfG (by omega) (by omega)), w64 (by omega) (by omega), range_map, List.filter_cons]
    by_cases p : decide (endA w h i ∈ L) = decide (endB w h i ∈ L)
    · have hb : ¬ bnd w h L i = true := by unfold bnd; rw [decide_eq_true p]; simp
      rw [if_pos p, ih k acc (i + 1) (by omega) (by omega) (by omega) (by omega), if_neg hb]
    · have hb : bnd w h L i = true := by unfold bnd; rw [decide_eq_false p]; rfl
      rw [if_neg p, if_pos (by omega), ih k _ (i + 1) (by omega) (by omega) (by omega) (by simp; omega), if_pos hb]
      simp
theorem sub_len : ∀ (a b : List Int), a.Nodup → (∀ x ∈ a, x ∈ b) → a.length ≤ b.length
  | [], b, _, _ => by simp
  | x :: a, b, hn, hs => by
    rw [List.nodup_cons] at hn
    have hx := hs x List.mem_cons_self
    have ih := sub_len a (b.erase x) hn.2 fun y hy => (List.mem_erase_of_ne (fun e => hn.1 (by rw [← e]; exact hy))).2 (hs y (List.mem_cons_of_mem _ hy))
    have := List.length_erase_of_mem hx
    have := List.length_pos_of_mem hx
    rw [List.length_cons]
    omega
structure GI (w h o : Int) (L : List Int) : Prop where
  maze : mazeOk w h o = true
  frst : forest w h o = true
  pop : popN 24 o.toNat + 1 = L.length
  zero : (0 : Int) ∈ L
  nod : L.Nodup
  cell : ∀ x ∈ L, isCell w h x = true
  come : ∀ x ∈ L, Rch w h o 0 x
  ends : ∀ g, isGap w h g = true → bit o g = true → endA w h g ∈ L ∧ endB w h g ∈ L
theorem GI.stay {w h o : Int} {L : List Int} (i : GI w h o L) {x y : Int} (r : Rch w h o x y) : x ∈ L → y ∈ L := by
  intro hx
  induction r with
  | refl => exact hx
  | step r t0 t3 hs ih =>
    obtain ⟨g, hg, hb, hj⟩ := step_adj t0 t3 hs
    have := i.ends g hg hb
    rcases hj with ⟨e1, e2⟩ | ⟨e1, e2⟩
    · rw [e2]; exact this.2
    · rw [e2]; exact this.1
theorem GI.len {w h o : Int} {L : List Int} (i : GI w h o L) : (L.length : Int) ≤ cells w h := by
  have hc := cells_range w h
  have := nodup_le (cells w h).toNat L i.nod fun x hx => by have := cellD_lt (i.cell x hx); omega
  omega
/-- Some gap leads out, as long as a cell is missing. -/
theorem GI.out {w h o : Int} {L : List Int} (i : GI w h o L) (hf : conn w h (fullO w h) = true) (hl : (L.length : Int) < cells w h) : ∃ g, isGap w h g = true ∧ bnd w h L g = true := by
  apply Classical.byContradiction
  intro z
  have hgo := (mazeOk_ok i.maze).1
  have full := full_ok hgo
  have same : ∀ g, isGap w h g = true → (endA w h g ∈ L ↔ endB w h g ∈ L) := fun g hg => by
    cases e : bnd w h L g with
    | true => exact absurd ⟨g, hg, e⟩ z
    | false =>
      unfold bnd at e
      have : decide (endA w h g ∈ L) = decide (endB w h g ∈ L) := by simpa using e
      rw [decide_eq_decide] at this
      exact this
  have all : ∀ x y, Rch w h (fullO w h) x y → x ∈ L → y ∈ L := fun x y r hx => by
    induction r with
    | refl => exact hx
    | step r t0 t3 hs ih =>
      obtain ⟨g, hg, hb, hj⟩ := step_adj t0 t3 hs
      rcases hj with ⟨e1, e2⟩ | ⟨e1, e2⟩
      · rw [e2]; exact (same g hg).1 (by rw [← e1]; exact ih)
      · rw [e2]; exact (same g hg).2 (by rw [← e1]; exact ih)
  have hcr := cells_range w h
  have h0 := i.cell 0 i.zero
  have hc := (conn_iff full.1 h0).1 hf
  have hnd : ((List.range (cells w h).toNat).map fun j : Nat => (j : Int)).Nodup := by
    unfold List.Nodup
    rw [List.pairwise_map]
    exact List.Pairwise.imp (S := fun a b : Nat => (a : Int) ≠ (b : Int)) (fun {a b} q e => q (Int.ofNat_inj.1 e)) List.nodup_range
  have := sub_len ((List.range (cells w h).toNat).map fun j : Nat => (j : Int)) L hnd (fun x hx => by
    obtain ⟨j, hj, rfl⟩ := List.mem_map.1 hx
    have := List.mem_range.1 hj
    exact all 0 _ (hc _ (cell_of (by omega) (by omega))) i.zero)
  rw [List.length_map, List.length_range] at this
  omega
theorem GI.grow {w h o g : Int} {L : List Int} (i : GI w h o L) (hg : isGap w h g = true) (hb : bnd w h L g = true) : GI w h (withO o g true) (gm.insL (endB w h g) (gm.insL (endA w h g) L)) ∧ (gm.insL (endB w h g) (gm.insL (endA w h g) L)).length = L.length + 1 := by
  have he := end_tells hg
  have hgl := gap_lt hg
  have hne : ¬ (endA w h g ∈ L ↔ endB w h g ∈ L) := fun e => by
    unfold bnd at hb
    rw [decide_eq_true (decide_eq_decide.2 e)] at hb
    cases hb
  have hbit : bit o g = false := by
    cases e : bit o g with
    | false => rfl
    | true => exact absurd ⟨fun _ => (i.ends g hg e).2, fun _ => (i.ends g hg e).1⟩ hne
  have hnr : ¬ Rch w h o (endA w h g) (endB w h g) := fun r => hne ⟨i.stay r, i.stay (r.symm i.maze)⟩
  have hfo := forest_up i.maze hg hbit i.frst ((wouldJoin_iff i.maze hg hbit).2 hnr)
  have hpo := pop_with hg hbit
  have hw := rch_with i.maze hg
  have hmem : ∀ y, y ∈ gm.insL (endB w h g) (gm.insL (endA w h g) L) ↔ y = endB w h g ∨ y = endA w h g ∨ y ∈ L := fun y => by rw [gm.mem_insL, gm.mem_insL]
  have hlen : (gm.insL (endB w h g) (gm.insL (endA w h g) L)).length = L.length + 1 ∧ (gm.insL (endB w h g) (gm.insL (endA w h g) L)).Nodup := by
    by_cases a : endA w h g ∈ L
    · have b : ¬ endB w h g ∈ L := fun b => hne ⟨fun _ => b, fun _ => a⟩
      rw [show gm.insL (endA w h g) L = L from if_pos a, show gm.insL (endB w h g) L = endB w h g :: L from if_neg b]
      exact ⟨rfl, List.nodup_cons.2 ⟨b, i.nod⟩⟩
    · have b : endB w h g ∈ L := Classical.byContradiction fun b => hne ⟨fun q => absurd q a, fun q => absurd q b⟩
      rw [show gm.insL (endA w h g) L = endA w h g :: L from if_neg a, show gm.insL (endB w h g) (endA w h g :: L) = endA w h g :: L from if_pos (List.mem_cons_of_mem _ b)]
      exact ⟨rfl, List.nodup_cons.2 ⟨a, i.nod⟩⟩
  refine ⟨⟨mazeOk_with true i.maze hg, hfo, by rw [hlen.1]; have := i.pop; omega, (hmem 0).2 (.inr (.inr i.zero)), hlen.2, fun x hx => ?_, fun x hx => ?_, fun g' hg' hb' => ?_⟩, hlen.1⟩
  · rcases (hmem x).1 hx with rfl | rfl | hx
    · exact he.2.1
    · exact he.1
    · exact i.cell x hx
  · rw [hw]
    rcases (hmem x).1 hx with rfl | rfl | hx
    · by_cases b : endB w h g ∈ L
      · exact .inl (i.come _ b)
      · have a : endA w h g ∈ L := Classical.byContradiction fun a => hne ⟨fun q => absurd q a, fun q => absurd q b⟩
        exact .inr (.inl ⟨i.come _ a, .refl⟩)
    · by_cases a : endA w h g ∈ L
      · exact .inl (i.come _ a)
      · have b : endB w h g ∈ L := Classical.byContradiction fun b => hne ⟨fun q => absurd q a, fun q => absurd q b⟩
        exact .inr (.inr ⟨i.come _ b, .refl⟩)
    · exact .inl (i.come x hx)
  · rw [bit_withO _ _ _ _ hgl.1 (gap_lt hg').1] at hb'
    by_cases e : g = g'
    · subst e
      exact ⟨(hmem _).2 (.inr (.inl rfl)), (hmem _).2 (.inl rfl)⟩
    · rw [if_neg e] at hb'
      have := i.ends g' hg' hb'
      exact ⟨(hmem _).2 (.inr (.inr this.1)), (hmem _).2 (.inr (.inr this.2))⟩
theorem pick_in (l : List Int) (n : Int) (hn : 0 < n) : 0 ≤ (gm.pick l n).1 ∧ (gm.pick l n).1 < n := by
  unfold gm.pick
  split
  · exact ⟨Int.le_refl _, hn⟩
  · have h0 : 0 ≤ mx (rd l 0) 0 := by unfold mx; split <;> omega
    rw [tmod_nn h0]
    exact ⟨Int.emod_nonneg _ (by omega), Int.emod_lt_of_pos _ hn⟩
theorem grow_go {w h : Int} (hf : conn w h (fullO w h) = true) : ∀ (d k n : Nat) (o : Int) (L l : List Int), GI w h o L → cells w h - (L.length : Int) = d → d + 60 ≤ k → n + 2 * d ≤ 1000 → ∃ o', gm.l0 k w h w h o n L l = some (w, h, o') ∧ perfect w h o' = true := by
  have hgr := gaps_range w h
  intro d
  induction d with
  | zero =>
    intro k n o L l i hd hk hn
    obtain ⟨k, rfl⟩ : ∃ m, k = m + 1 := ⟨k - 1, by omega⟩
    refine ⟨o, ?_, ?_⟩
    · simp only [gm.l0]
      rw [iCountCells, Option.bind_some, if_neg (by omega)]
    · rw [perfect_forest i.maze (by have := i.pop; omega)]
      exact i.frst
  | succ d ih =>
    intro k n o L l i hd hk hn
    obtain ⟨k, rfl⟩ : ∃ m, k = m + 1 := ⟨k - 1, by omega⟩
    obtain ⟨g0, hg0, hb0⟩ := i.out hf (by omega)
    have hl1 := gm_l1 (w := w) (h := h) (L := L) (gaps w h).toNat k [] 0 (by omega) (by omega) (by omega) (by simp; omega)
    rw [List.nil_append] at hl1
    generalize hgs : ((List.range (gaps w h).toNat).map fun j : Nat => (0 : Int) + (j : Int)).filter (bnd w h L) = gs at hl1
    have hmem : ∀ g, g ∈ gs ↔ isGap w h g = true ∧ bnd w h L g = true := fun g => by
      rw [← hgs, List.mem_filter, List.mem_map]
      constructor
      · rintro ⟨⟨j, hj, rfl⟩, q⟩
        rw [Int.zero_add] at q ⊢
        exact ⟨gap_nat (List.mem_range.1 hj), q⟩
      · rintro ⟨q, r⟩
        have := gap_lt q
        exact ⟨⟨g.toNat, List.mem_range.2 (by omega), by omega⟩, r⟩
    have hpos := List.length_pos_of_mem ((hmem g0).2 ⟨hg0, hb0⟩)
    have hp := pick_in l (gs.length : Int) (by omega)
    have hgm := (hmem _).1 (rd_memL hp.1 hp.2)
    have hgl := gap_lt hgm.1
    have he := end_tells hgm.1
    have hA := isCell_grid he.1
    have hB := isCell_grid he.2.1
    have hmo := mazeOk_ok i.maze
    have hgrow := i.grow hgm.1 hgm.2
    simp only [gm.l0]
    rw [iCountCells, Option.bind_some, if_pos (by omega), hl1, Option.bind_some, if_pos hpos, if_pos hp.1, if_pos hp.2, iEndsOf w h _ hgm.1, Option.bind_some, if_pos (wfG (by omega) (by omega)), if_pos (wfG (by omega) (by omega)), if_pos (by omega),
      iWith w h o _ true hmo.2.1 hmo.2.2.2 hgl.1 (by omega), Option.bind_some]
    exact ih k (n + 2) _ _ _ hgrow.1 (by rw [hgrow.2]; omega) (by omega) (by omega)
theorem iGrow {w h : Int} (hg : gridOk w h = true) (hf : conn w h (fullO w h) = true) (k : Nat) (hk : 100 ≤ k) (l : List Int) : ∃ o, impl_GrowMaze.f k w h l = some (w, h, o) ∧ perfect w h o = true := by
  have hz := forest_zero hg
  have hc := cells_pos hg
  have hcr := cells_range w h
  unfold impl_GrowMaze.f
  rw [iGridOk, Option.bind_some, if_pos hg]
  have h0 : isCell w h 0 = true := cell_of (by omega) (by omega)
  have hp : ∀ n, popN n 0 = 0 := fun n => by
    induction n with
    | zero => rfl
    | succ n ih => rw [popN_succ, ih, Nat.zero_testBit]; rfl
  refine grow_go hf (cells w h - 1).toNat k 1 0 [0] l ⟨hz.1, hz.2, by rw [show (0 : Int).toNat = 0 from rfl, hp]; rfl, by simp, by simp, fun x hx => by rw [List.mem_singleton.1 hx]; exact h0, fun x hx => by rw [List.mem_singleton.1 hx]; exact .refl, fun g _ hb => ?_⟩ (by simp; omega) (by omega) (by omega)
  unfold bit at hb
  rw [show (0 : Int).toNat = 0 from rfl, Nat.zero_testBit] at hb
  cases hb
end Go.Proofs.Ytjepgkbaoahjgaa.L
