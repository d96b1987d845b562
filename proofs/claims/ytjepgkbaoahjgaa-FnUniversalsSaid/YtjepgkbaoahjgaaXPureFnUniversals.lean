/- Turns that lead everywhere still do with further ones, and a failure is a failure: the law's text answers true for every text of bytes. -/
import Derived.Test.YtjepgkbaoahjgaaXlawsFnUniversals
import Derived.Test.YtjepgkbaoahjgaaLGrow
import Derived.Test.YtjepgkbaoahjgaaLFail
import Derived.Test.YtjepgkbaoahjgaaLDraw
namespace Go.Proofs.Ytjepgkbaoahjgaa.Pure
open Go.RowKit Go.Proofs.Ytjepgkbaoahjgaa.X Go.Proofs.Ytjepgkbaoahjgaa.L Go.Proofs.YtjepgkbaoahjgaaW.PrintWords Go.Proofs.YtjepgkbaoahjgaaW.PrintLast
set_option linter.unusedVariables false

theorem conn_small : ∀ (W : Fin 3) (H : Fin 2), gridOk ((W.val : Int) + 1) ((H.val : Int) + 1) = true ∧ conn ((W.val : Int) + 1) ((H.val : Int) + 1) (fullO ((W.val : Int) + 1) ((H.val : Int) + 1)) = true ∧ gaps ((W.val : Int) + 1) ((H.val : Int) + 1) ≤ 7 := by decide +kernel
theorem failIn_none {m : SM} {l : List Int} : ∀ (n : Nat) (i : Int), failIn m l n i = none → ∀ j, i ≤ j → j < i + n → covers m.f0.f0 m.f0.f1 m.f1 (j / 4) (j % 4) l = true
  | 0, i, _, j, h0, h1 => by omega
  | n + 1, i, h, j, h0, h1 => by
    unfold failIn at h
    by_cases e : covers m.f0.f0 m.f0.f1 m.f1 (i / 4) (i % 4) l = true
    · rw [if_pos e] at h
      by_cases q : j = i
      · rw [q]; exact e
      · exact failIn_none n (i + 1) h j (by omega) (by omega)
    · rw [if_neg e] at h
      cases h
theorem failIn_some {m : SM} {l : List Int} : ∀ (n : Nat) (i r : Int), failIn m l n i = some r → i ≤ r ∧ r < i + n ∧ covers m.f0.f0 m.f0.f1 m.f1 (r / 4) (r % 4) l = false
  | 0, i, r, h => by cases h
  | n + 1, i, r, h => by
    unfold failIn at h
    by_cases e : covers m.f0.f0 m.f0.f1 m.f1 (i / 4) (i % 4) l = true
    · rw [if_pos e] at h
      have := failIn_some n (i + 1) r h
      exact ⟨by omega, by omega, this.2.2⟩
    · rw [if_neg e] at h
      obtain rfl := Option.some.inj h
      exact ⟨by omega, by omega, by simpa using e⟩
theorem failGo_yes {l : List Int} {c : Nat} : ∀ L : List SM, (failGo l c L).2.2.2.2.2 = true → ∃ m ∈ L, ∃ i : Int, 0 ≤ i ∧ i < (c : Int) ∧ covers m.f0.f0 m.f0.f1 m.f1 (i / 4) (i % 4) l = false ∧ failGo l c L = (m.f0.f0, m.f0.f1, m.f1, i / 4, i % 4, true)
  | [], h => by cases h
  | m :: r, h => by
    unfold failGo at h ⊢
    cases e : failIn m l c 0 with
    | none =>
      rw [e] at h
      obtain ⟨m', hm, q⟩ := failGo_yes r h
      exact ⟨m', List.mem_cons_of_mem _ hm, q⟩
    | some i =>
      have := failIn_some c 0 i e
      exact ⟨m, List.mem_cons_self, i, this.1, by omega, this.2.2, rfl⟩
theorem failGo_no {l : List Int} {c : Nat} : ∀ L : List SM, (failGo l c L).2.2.2.2.2 = false → ∀ m ∈ L, ∀ i : Int, 0 ≤ i → i < (c : Int) → covers m.f0.f0 m.f0.f1 m.f1 (i / 4) (i % 4) l = true
  | [], h, m, hm, _, _, _ => by cases hm
  | m' :: r, h, m, hm, i, h0, h1 => by
    unfold failGo at h
    cases e : failIn m' l c 0 with
    | none =>
      rw [e] at h
      rcases List.mem_cons.1 hm with rfl | hm
      · exact failIn_none c 0 e i h0 (by omega)
      · exact failGo_no r h m hm i h0 h1
    | some i =>
      rw [e] at h
      cases h
theorem tree_perfect {w h : Int} (hg : gridOk w h = true) {o : Nat} (ho : o ∈ trees w h (fullO w h)) : perfect w h (o : Int) = true := by
  have hf := full_ok hg
  have hc := cells_pos hg
  unfold trees at ho
  rw [List.mem_filter] at ho
  have ht := ho.2
  unfold treeP at ht
  simp only [Bool.and_eq_true, decide_eq_true_eq] at ht
  have hm := sub_maze hf.1 ht.1
  rw [perfect_forest hm (by rw [Int.toNat_natCast]; omega)]
  exact ht.2.2
theorem perfect_tree {w h o : Int} (hp : perfect w h o = true) : o.toNat ∈ trees w h (fullO w h) := by
  have hp' := hp
  unfold perfect at hp'
  simp only [Bool.and_eq_true, beq_iff_eq] at hp'
  have hm : mazeOk w h o = true := Classical.byContradiction fun z => by
    have := hp'.1
    unfold conn at this
    rw [parts_no z] at this
    cases this
  have hpop : (popN 24 o.toNat : Int) = cells w h - 1 := by
    have := hp'.2
    unfold passages at this
    rwa [if_pos hm] at this
  have hfo : forest w h o = true := by rw [← perfect_forest hm hpop]; exact hp
  have hmo := mazeOk_ok hm
  have hf := full_ok hmo.1
  have hlt := mazeOk_lt hm
  have hsub : subB o.toNat (fullO w h).toNat = true := subB_iff.2 fun i hi => by
    rw [hf.2.2, Nat.testBit_two_pow_sub_one]
    refine decide_eq_true (Classical.byContradiction fun z => ?_)
    rw [Nat.testBit_lt_two_pow (Nat.lt_of_lt_of_le hlt (Nat.pow_le_pow_right (by decide) (by omega)))] at hi
    cases hi
  unfold trees
  rw [List.mem_filter, List.mem_range]
  refine ⟨by have := subB_le hsub; omega, ?_⟩
  unfold treeP
  rw [hsub, show decide (popN 24 o.toNat = (cells w h - 1).toNat) = true from decide_eq_true (by omega), show ((o.toNat : Nat) : Int) = o by omega, hfo]
  rfl
theorem follow_more (w h o t : Int) : ∀ (l : List Int) (c f : Int), ∃ x, L.follow w h o (l ++ [t]) c f = L.follow w h o l c f ++ [x]
  | [], c, f => by
    rw [List.nil_append]
    unfold L.follow
    split
    · exact ⟨_, rfl⟩
    · exact ⟨_, rfl⟩
  | n :: r, c, f => by
    rw [List.cons_append]
    unfold L.follow
    split
    · obtain ⟨x, hx⟩ := follow_more w h o t r (L.step w h o c ((f + n) % 4)) ((f + n) % 4)
      exact ⟨x, by rw [hx]; rfl⟩
    · obtain ⟨x, hx⟩ := follow_more w h o t r c ((f + n) % 4)
      exact ⟨x, by rw [hx]; rfl⟩
/-- What leads everywhere still does with one more turn. -/
theorem covers_more {w h o c f t : Int} {l : List Int} (hc : covers w h o c f l = true) (ht : turnsOk (l ++ [t]) = true) : covers w h o c f (l ++ [t]) = true := by
  have hc' := hc
  unfold covers at hc' ⊢
  simp only [Bool.and_eq_true, decide_eq_true_eq] at hc' ⊢
  have hw : walkerOk w h o c f = true ∧ turnsOk l = true := Classical.byContradiction fun z => by
    have := hc'.1
    unfold followTurns at this
    rw [if_neg z] at this
    simp at this
  obtain ⟨x, hx⟩ := follow_more w h o t l c f
  have e1 : followTurns w h o c f l = c :: L.follow w h o l c f := by unfold followTurns; rw [if_pos hw]
  have e2 : followTurns w h o c f (l ++ [t]) = (c :: L.follow w h o l c f) ++ [x] := by unfold followTurns; rw [if_pos ⟨hw.1, ht⟩, hx]; rfl
  have hcell := followTurns_cell w h o c f (l ++ [t])
  rw [e1] at hc'
  rw [e2] at hcell ⊢
  generalize (c :: L.follow w h o l c f) = L at hc' hcell
  have hcr := cells_range w h
  have hin : x ∈ L := Classical.byContradiction fun z => by
    have hnd : (x :: ord L).Nodup := List.nodup_cons.2 ⟨fun q => z ((ord_mem L x).1 q), (ord_strict L).imp (fun q => by omega)⟩
    have := nodup_le (cells w h).toNat (x :: ord L) hnd (fun y hy => by
      have hyc : isCell w h y = true := by
        rcases List.mem_cons.1 hy with rfl | hy
        · exact hcell _ (List.mem_append_right _ List.mem_cons_self)
        · exact hcell _ (List.mem_append_left _ ((ord_mem L y).1 hy))
      have := cellD_lt hyc
      omega)
    rw [List.length_cons] at this
    omega
  have eo : ord (L ++ [x]) = ord L := strict_ext (ord_strict _) (ord_strict _) fun y => by
    rw [ord_mem, ord_mem, List.mem_append, List.mem_singleton]
    exact ⟨fun q => q.elim id (fun e => e ▸ hin), .inl⟩
  rw [eo]
  exact ⟨by rw [List.length_append]; omega, hc'.2⟩
/-! What is drawn. -/
theorem pick3 (s : List Int) (i h : Int) (h0 : 0 ≤ i) (h1 : i ≤ (s.length : Int)) (hl : s.length ≤ 140737488355328) (l : List Int) (hn : 1 ≤ l.length) (hn2 : l.length ≤ 256) : ∃ v i' h', spec_l01PickInt.f s i h l = some (v, i', h') ∧ v ∈ l ∧ 0 ≤ i' ∧ i' ≤ (s.length : Int) := by
  obtain ⟨v, i1, g1, e1, a1, b1, c1, d1⟩ := below_ok s i h l.length h0 h1 hl (by omega) (by omega)
  refine ⟨rd l v, i1, g1, ?_, rd_memL a1 b1, c1, d1⟩
  unfold spec_l01PickInt.f
  rw [e1, Option.bind_some, if_pos a1, if_pos b1]
theorem list_go (s : List Int) (hl : s.length ≤ 140737488355328) (n : Int) (hn : n ≤ 200) : ∀ (d k : Nat) (acc : List Int) (i p h : Int), 0 ≤ p → p ≤ (s.length : Int) → n - i ≤ d → d + 2 ≤ k → 0 ≤ i → (acc.length : Int) = i → i ≤ 200 → (∀ x ∈ acc, 0 ≤ x ∧ x ≤ 3) →
    ∃ L p' h', spec_l26List.l0 k acc n i s p h = some (L, p', h') ∧ (∀ x ∈ L, 0 ≤ x ∧ x ≤ 3) ∧ L.length ≤ 200 := by
  intro d
  induction d with
  | zero =>
    intro k acc i p h p0 p1 hd hk h0 ha h2 hx
    obtain ⟨k, rfl⟩ : ∃ m, k = m + 1 := ⟨k - 1, by omega⟩
    refine ⟨acc, p, h, ?_, hx, by omega⟩
    simp only [spec_l26List.l0]
    rw [if_neg (by omega)]
  | succ d ih =>
    intro k acc i p h p0 p1 hd hk h0 ha h2 hx
    obtain ⟨k, rfl⟩ : ∃ m, k = m + 1 := ⟨k - 1, by omega⟩
    by_cases c : i < n
    · obtain ⟨v, i1, g1, e1, a1, b1, c1, d1⟩ := below_ok s p h 4 p0 p1 hl (by omega) (by omega)
      simp only [spec_l26List.l0]
      rw [if_pos c, e1, Option.bind_some, if_pos (by omega), w64 (by omega) (by omega)]
      exact ih k (acc ++ [v]) (i + 1) i1 g1 c1 d1 (by omega) (by omega) (by omega) (by simp; omega) (by omega) (fun x hx' => by
        rcases List.mem_append.1 hx' with q | q
        · exact hx x q
        · rw [List.mem_singleton.1 q]; omega)
    · refine ⟨acc, p, h, ?_, hx, by omega⟩
      simp only [spec_l26List.l0]
      rw [if_neg c]
theorem draw_ok (k : Nat) (s : List Int) (hl : s.length ≤ 140737488355328) (hk : 4100 ≤ k) : ∃ (W : Fin 3) (H : Fin 2) (l : List Int), spec_DrawTurns.f k s = some ((W.val : Int) + 1, (H.val : Int) + 1, l) ∧ l.length ≤ 200 ∧ ∀ x ∈ l, 0 ≤ x ∧ x ≤ 3 := by
  obtain ⟨g, e0⟩ := new_ok k s (by omega)
  obtain ⟨v1, i1, g1, e1, a1, b1, c1, d1⟩ := below_ok s 0 g 3 (by omega) (by omega) hl (by omega) (by omega)
  obtain ⟨v2, i2, g2, e2, a2, b2, c2, d2⟩ := below_ok s i1 g1 2 c1 d1 hl (by omega) (by omega)
  obtain ⟨v3, i3, g3, e3, a3, b3, c3, d3⟩ := below_ok s i2 g2 30 c2 d2 hl (by omega) (by omega)
  obtain ⟨n, i4, g4, e4, m4, c4, d4⟩ := pick3 s i3 g3 c3 d3 hl [200, 60, v3] (by simp) (by simp)
  have hn : n ≤ 200 ∧ 0 ≤ n := by
    simp only [List.mem_cons, List.not_mem_nil, or_false] at m4
    omega
  obtain ⟨L, i5, g5, e5, hx, hL⟩ := list_go s hl n hn.1 200 k [] 0 i4 g4 c4 d4 (by omega) (by omega) (by omega) (by simp) (by omega) (fun x hx => by cases hx)
  refine ⟨⟨v1.toNat, by omega⟩, ⟨v2.toNat, by omega⟩, L, ?_, hL, hx⟩
  unfold spec_DrawTurns.f
  rw [e0, Option.bind_some]
  show (spec_l01Below.f s 0 g 3).bind _ = _
  rw [e1, Option.bind_some]
  show (spec_l01Below.f s i1 g1 2).bind _ = _
  rw [e2, Option.bind_some]
  have e6 : spec_l26List.f k s i2 g2 = some (L, i5, g5) := by
    unfold spec_l26List.f
    rw [e3, Option.bind_some]
    show (spec_l01PickInt.f s i3 g3 [200, 60, v3]).bind _ = _
    rw [e4, Option.bind_some]
    exact e5
  show (spec_l26List.f k s i2 g2).bind _ = _
  rw [e6, Option.bind_some, w64 (by omega) (by omega), w64 (by omega) (by omega), show ((v1.toNat : Nat) : Int) + 1 = 1 + v1 by omega, show ((v2.toNat : Nat) : Int) + 1 = 1 + v2 by omega]
theorem at_ok (l : List Int) (hl : l.length ≤ 2000000) (hx : ∀ x ∈ l, (Lit.int .u8 x).wf = true) (j : Int) (hj : 0 ≤ j ∧ j ≤ 2) : ∃ v, laws_at.f l j = some v ∧ 0 ≤ v := by
  unfold laws_at.f
  by_cases c : (l.length : Int) = 0
  · rw [if_pos c]
    exact ⟨_, rfl, Int.le_refl _⟩
  · rw [if_neg c, w64 (x := j * 5) (by omega) (by omega), w64 (x := j * 5 + 1) (by omega) (by omega)]
    have e : Int.tmod (j * 5 + 1) (l.length : Int) = (j * 5 + 1) % (l.length : Int) := by
      rw [Int.tmod_eq_emod_of_nonneg (by omega)]
    have h0 : 0 ≤ (j * 5 + 1) % (l.length : Int) := Int.emod_nonneg _ c
    have h1 : (j * 5 + 1) % (l.length : Int) < (l.length : Int) := Int.emod_lt_of_pos _ (by omega)
    rw [e, if_pos h0, if_pos h1]
    have hb := hx _ (rd_memL h0 h1)
    have hb1 : IntKind.u8.min ≤ rd l ((j * 5 + 1) % (l.length : Int)) ∧ rd l ((j * 5 + 1) % (l.length : Int)) ≤ IntKind.u8.max := by simpa [Lit.wf] using hb
    have e0 : IntKind.u8.min = 0 := by decide
    have e1 : IntKind.u8.max = 255 := by decide
    rw [e0, e1] at hb1
    have hb2 : 0 ≤ rd l ((j * 5 + 1) % (l.length : Int)) ∧ rd l ((j * 5 + 1) % (l.length : Int)) ≤ 255 := hb1
    refine ⟨_, rfl, ?_⟩
    rw [w64 (by omega) (by omega)]
    exact hb2.1
theorem FnUniversals : laws_FnUniversals.Pure := by
  intro s _ hs hx
  refine ⟨20000, ?_⟩
  generalize hk : (20000 : Nat) = k
  unfold laws_FnUniversals.f laws_big.f
  rw [Option.bind_some]
  by_cases hbig : (s.length : Int) > 1048576
  · rw [if_pos (decide_eq_true hbig)]
  rw [if_neg (by simpa using hbig)]
  obtain ⟨W, H, l, hd, hl, hlx⟩ := draw_ok k s (by omega) (by omega)
  obtain ⟨hg, hf, h7⟩ := conn_small W H
  generalize (W.val : Int) + 1 = w at hd hg hf h7
  generalize (H.val : Int) + 1 = h at hd hg hf h7
  rw [hd, Option.bind_some]
  show (impl_FirstFailure.f k w h l).bind _ = _
  rw [iFF k w h l (by omega), Option.bind_some]
  have ht : turnsOk l = true := by
    unfold turnsOk
    rw [decide_eq_true (by omega), Bool.true_and, List.all_eq_true]
    intro x hx'
    have := hlx x hx'
    unfold isTurn
    exact decide_eq_true ⟨this.1, this.2⟩
  have hfew : few7 w h l = true := by
    unfold few7
    rw [hg, ht, decide_eq_true h7]
    rfl
  have hU := iUniversal k w h l (by omega)
  have hffe : ff w h l = failGo l (4 * (cells w h).toNat) ((trees w h (fullO w h)).map (mkM w h)) := by
    unfold ff
    rw [if_pos hfew]
  obtain ⟨v0, hv0, hv0n⟩ := at_ok s (by omega) hx 0 (by omega)
  obtain ⟨v1, hv1, hv1n⟩ := at_ok s (by omega) hx 1 (by omega)
  obtain ⟨v2, hv2, hv2n⟩ := at_ok s (by omega) hx 2 (by omega)
  have hcr := cells_range w h
  have hcp := cells_pos hg
  rw [Option.bind_some, if_pos (by simp; omega), Option.bind_some, hv0, Option.bind_some, if_pos (by simp; omega), List.nil_append]
  cases hfl : (ff w h l).2.2.2.2.2 with
  | true =>
    rw [hffe] at hfl
    obtain ⟨m, hm, i, i0, i1, hcv, hfe⟩ := failGo_yes _ hfl
    rw [← hffe] at hfe hfl
    obtain ⟨o, ho, rfl⟩ := List.mem_map.1 hm
    have hp := tree_perfect hg ho
    have hU2 : universal w h l = false := by
      unfold universal
      rw [hfl, hfew]
      rfl
    rw [hU2] at hU
    have e : ff w h l = (w, h, (o : Int), i / 4, i % 4, true) := hfe
    rw [e, if_pos rfl, hU, Option.bind_some, if_neg (by decide)]
    have hcell : isCell w h (i / 4) = true := cell_of (by omega) (by omega)
    have hmz : mazeOk w h (o : Int) = true := Classical.byContradiction fun z => by
      have hp' := hp
      unfold perfect conn at hp'
      rw [parts_no z] at hp'
      simp at hp'
    have hwk : walkerOk w h (o : Int) (i / 4) (i % 4) = true := by
      unfold walkerOk
      rw [has_of hmz hcell, decide_eq_true ⟨by omega, by omega⟩]
      rfl
    have hcv' : covers w h (o : Int) (i / 4) (i % 4) l = false := hcv
    show (impl_IsPerfect.f k w h (o : Int)).bind _ = _
    rw [iPerfect k w h o (by omega), Option.bind_some, if_pos hp]
    show (impl_WalkerOk.f w h (o : Int) (i / 4) (i % 4)).bind _ = _
    rw [iWalkerOk, Option.bind_some, if_pos hwk]
    show (impl_CoversAll.f k w h (o : Int) (i / 4) (i % 4) l).bind _ = _
    rw [iCovers k w h o (i / 4) (i % 4) l (by omega) (by omega), Option.bind_some, hcv', if_neg (by decide)]
    show (impl_FollowTurns.f k w h (o : Int) (i / 4) (i % 4) l).bind _ = _
    rw [iFollow k w h o (i / 4) (i % 4) l (by omega), Option.bind_some]
    have e1 : followTurns w h (o : Int) (i / 4) (i % 4) l = (i / 4) :: L.follow w h o l (i / 4) (i % 4) := by unfold followTurns; rw [if_pos ⟨hwk, ht⟩]
    show some ((((followTurns w h (o : Int) (i / 4) (i % 4) l).length : Nat) : Int) == wrap64 ((l.length : Int) + 1)) = some true
    rw [e1, List.length_cons, follow_length, w64 (by omega) (by omega)]
    simp
  | false =>
    rw [hffe] at hfl
    have hall := failGo_no _ hfl
    rw [← hffe] at hfl
    have hU2 : universal w h l = true := by
      unfold universal
      rw [hfl, hfew]
      rfl
    rw [hU2] at hU
    have ht2 : turnsOk (l ++ [Int.tmod v0 4]) = true := by
      unfold turnsOk
      rw [decide_eq_true (by simp; omega), Bool.true_and, List.all_eq_true]
      intro x hx'
      rcases List.mem_append.1 hx' with q | q
      · have := hlx x q
        unfold isTurn
        exact decide_eq_true ⟨this.1, this.2⟩
      · rw [List.mem_singleton.1 q, tmod_nn hv0n]
        unfold isTurn
        exact decide_eq_true ⟨by omega, by omega⟩
    have hfew2 : few7 w h (l ++ [Int.tmod v0 4]) = true := by
      unfold few7
      rw [hg, ht2, decide_eq_true h7]
      rfl
    have hcov : ∀ o ∈ trees w h (fullO w h), ∀ i : Int, 0 ≤ i → i < ((4 * (cells w h).toNat : Nat) : Int) → covers w h (o : Int) (i / 4) (i % 4) l = true := fun o ho i i0 i1 => hall _ (List.mem_map.2 ⟨o, ho, rfl⟩) i i0 i1
    have hU3 : universal w h (l ++ [Int.tmod v0 4]) = true := by
      unfold universal
      have : (ff w h (l ++ [Int.tmod v0 4])).2.2.2.2.2 = false := by
        cases q : (ff w h (l ++ [Int.tmod v0 4])).2.2.2.2.2 with
        | false => rfl
        | true =>
          have hffe2 : ff w h (l ++ [Int.tmod v0 4]) = failGo (l ++ [Int.tmod v0 4]) (4 * (cells w h).toNat) ((trees w h (fullO w h)).map (mkM w h)) := by
            unfold ff
            rw [if_pos hfew2]
          rw [hffe2] at q
          obtain ⟨m, hm, i, i0, i1, hcv, _⟩ := failGo_yes _ q
          obtain ⟨o, ho, rfl⟩ := List.mem_map.1 hm
          have := covers_more (hcov o ho i i0 i1) ht2
          have hcv' : covers w h (o : Int) (i / 4) (i % 4) (l ++ [Int.tmod v0 4]) = false := hcv
          rw [this] at hcv'
          cases hcv'
      rw [this, hfew2]
      rfl
    obtain ⟨o, hgo, hp⟩ := iGrow hg hf k (by omega) l
    have hmem := perfect_tree hp
    rw [if_neg (by decide), hv1, Option.bind_some]
    show (spec_CountCells.f w h).bind _ = _
    rw [sCountCells, Option.bind_some, if_neg (by omega), hv2, Option.bind_some, hU, Option.bind_some, if_pos rfl]
    show (impl_IsUniversal.f k w h (l ++ [Int.tmod v0 4])).bind _ = _
    rw [iUniversal k w h _ (by omega), hU3, Option.bind_some, if_pos rfl]
    show (impl_GrowMaze.f k w h l).bind _ = _
    rw [hgo, Option.bind_some]
    show (impl_CoversAll.f k w h o (Int.tmod v1 (cells w h)) (Int.tmod v2 4) l).bind _ = _
    have ho0 : 0 ≤ o := (mazeOk_ok (Classical.byContradiction fun z => by
      have hp' := hp
      unfold perfect conn at hp'
      rw [parts_no z] at hp'
      simp at hp' : mazeOk w h o = true)).2.1
    have hc1 : 0 ≤ v1 % cells w h := Int.emod_nonneg _ (by omega)
    have hc2 : v1 % cells w h < cells w h := Int.emod_lt_of_pos _ (by omega)
    have := hcov _ hmem (4 * (v1 % cells w h) + v2 % 4) (by omega) (by omega)
    rw [show ((o.toNat : Nat) : Int) = o by omega, show (4 * (v1 % cells w h) + v2 % 4) / 4 = v1 % cells w h by omega, show (4 * (v1 % cells w h) + v2 % 4) % 4 = v2 % 4 by omega] at this
    rw [tmod_nn hv1n, tmod_nn hv2n, iCovers k w h o _ _ l (by omega) (by omega), this, Option.bind_some]
end Go.Proofs.Ytjepgkbaoahjgaa.Pure
