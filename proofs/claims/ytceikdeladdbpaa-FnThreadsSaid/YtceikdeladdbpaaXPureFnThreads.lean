/- P24: a thread leads to every cell that can be come to and back, and its tree is perfect just if the maze is connected. For every text of bytes that the statement speaks of. -/
import Derived.Test.YtceikdeladdbpaaXlawsFnThreads
import Derived.Test.YtceikdeladdbpaaXlawsbig
import Derived.Test.YtceikdeladdbpaaXlawshas
import Derived.Test.YtceikdeladdbpaaXspecFarthestFrom
import Derived.Test.YtceikdeladdbpaaLThreadTree
import Derived.Test.YtceikdeladdbpaaLOpenCell
import Derived.Test.YtceikdeladdbpaaPThreadTree
namespace Go.Proofs.Ytceikdeladdbpaa.Pure
open Go.RowKit Go.Proofs.Ytceikdeladdbpaa.X Go.Proofs.Ytceikdeladdbpaa.L Go.Proofs.YtceikdeladdbpaaW.PrintWords Go.Proofs.YtceikdeladdbpaaW.PrintLast
set_option linter.unusedSimpArgs false
set_option linter.unusedVariables false

theorem far_go (l : List Int) (hl : l.length ≤ 100) : ∀ (d k : Nat) (b i : Int), 0 ≤ i → (l.length : Int) - i = d → d < k → 0 ≤ b → b < (l.length : Int) → ∃ v, spec_FarthestFrom.l0 k l b i = some v := by
  intro d
  induction d with
  | zero =>
    intro k b i h0 hd hk b0 b1
    obtain ⟨k, rfl⟩ := kpos hk
    rw [spec_FarthestFrom.l0, if_neg (by omega)]
    exact ⟨_, rfl⟩
  | succ d ih =>
    intro k b i h0 hd hk b0 b1
    obtain ⟨k, rfl⟩ := kpos hk
    rw [spec_FarthestFrom.l0, if_pos (by omega), if_pos h0, if_pos b0, if_pos b1, w64 (x := i + 1) (by omega) (by omega)]
    have r1 := ih k i (i + 1) (by omega) (by omega) (by omega) h0 (by omega)
    have r2 := ih k b (i + 1) (by omega) (by omega) (by omega) b0 b1
    split
    · exact r1
    · split
      · split
        · exact r1
        · exact r2
      · exact r2
theorem has_go (l : List Int) (hl : l.length ≤ 100) (x : Int) : ∀ (d k : Nat) (i : Int), 0 ≤ i → (l.length : Int) - i = d → d < k → x ∈ l.drop i.toNat → laws_has.l0 k l x i = some true := by
  intro d
  induction d with
  | zero =>
    intro k i h0 hd hk hx
    rw [List.drop_of_length_le (by omega)] at hx
    cases hx
  | succ d ih =>
    intro k i h0 hd hk hx
    obtain ⟨k, rfl⟩ := kpos hk
    rw [drop_cons h0 (by omega)] at hx
    rw [laws_has.l0, if_pos (by omega), if_pos h0]
    by_cases e : rd l i = x
    · rw [if_pos e]
    · rw [if_neg e, w64 (by omega) (by omega)]
      rcases List.mem_cons.1 hx with z | z
      · exact absurd z.symm e
      · exact ih k (i + 1) (by omega) (by omega) (by omega) z
theorem reached_filter {w h o st : Int} (ha : has w h o st = true) : (reached w h o st).length = ((List.range (cells w h).toNat).filter fun j : Nat => decide (0 ≤ rd (dist w h o st) (j : Int))).length := by
  have hd := dist_tells (o := o) (has_parts ha).2
  unfold reached
  rw [if_pos ha, places_eq, List.filter_map, List.length_map, show (dist w h o st).length = (cells w h).toNat by omega]
  congr 1
  apply List.filter_congr
  intro j _
  simp only [Function.comp]
  rw [show (0 : Int) + (j : Int) - 0 = (j : Int) by omega]
theorem comp_length (p : Nat → Bool) : ∀ n, ((List.range n).filter p).length + ((List.range n).filter fun j => !p j).length = n
  | 0 => rfl
  | n + 1 => by
    have ih := comp_length p n
    rw [List.range_succ, List.filter_append, List.filter_append, List.length_append, List.length_append]
    cases z : p n <;> simp [z] <;> omega
/-- How many cells have been seen: just those that can be come to. -/
theorem whole_count {w h o st : Int} (ha : has w h o st = true) {R : List Int × List Int × Int} (W : Whole w h o st R) : (reached w h o st).length + cntU w h st R.2.1 = (cells w h).toNat := by
  have hd := dist_tells (o := o) (has_parts ha).2
  rw [reached_filter ha]
  have e : ((List.range (cells w h).toNat).filter fun j : Nat => decide (0 ≤ rd (dist w h o st) (j : Int))) = (List.range (cells w h).toNat).filter fun j : Nat => seenF st R.2.1 (j : Int) := by
    apply List.filter_congr
    intro j hj
    have hc := cell_of (w := w) (h := h) (x := (j : Int)) (by omega) (by have := List.mem_range.1 hj; omega)
    rw [Bool.eq_iff_iff, decide_eq_true_eq, W.see _ hc]
    exact hd.2.1 _ hc
  rw [e]
  exact comp_length (fun j => seenF st R.2.1 (j : Int)) _
/-- The tree. -/
theorem treeGo_bit {w h : Int} : ∀ (l : List Int) (i o g : Int), 0 ≤ i → 0 ≤ g → (bit (treeGo w h l i o) g = true ↔ bit o g = true ∨ ∃ j : Int, 0 ≤ j ∧ j < (l.length : Int) ∧ 0 ≤ rd l j ∧ isGap w h (gapTo w h (rd l j) (i + j)) = true ∧ gapTo w h (rd l j) (i + j) = g)
  | [], i, o, g, hi, hg => by
    simp only [treeGo, List.length_nil]
    constructor
    · exact fun z => .inl z
    · rintro (z | ⟨j, a, b, _⟩)
      · exact z
      · omega
  | f :: r, i, o, g, hi, hg => by
    have ih := treeGo_bit (w := w) (h := h) r (i + 1) (treeAdd w h i f o) g (by omega) hg
    have r0 : rd (f :: r) 0 = f := rfl
    have rs : ∀ j : Int, 0 ≤ j → rd (f :: r) (j + 1) = rd r j := fun j hj => by
      unfold rd
      rw [show (j + 1).toNat = j.toNat + 1 by omega]
      rfl
    rw [treeGo, ih]
    have hadd : bit (treeAdd w h i f o) g = true ↔ bit o g = true ∨ (0 ≤ f ∧ isGap w h (gapTo w h f i) = true ∧ gapTo w h f i = g) := by
      unfold treeAdd
      by_cases z : 0 ≤ f ∧ isGap w h (gapTo w h f i) = true
      · rw [if_pos z, bit_with (gap_lt z.2).1 hg]
        exact ⟨fun q => q.imp id fun e => ⟨z.1, z.2, e.symm⟩, fun q => q.imp id fun e => e.2.2.symm⟩
      · rw [if_neg z]
        exact ⟨fun q => .inl q, fun q => q.elim id fun e => absurd ⟨e.1, e.2.1⟩ z⟩
    rw [hadd]
    constructor
    · rintro ((a | a) | ⟨j, j0, j1, a, b, c⟩)
      · exact .inl a
      · exact .inr ⟨0, Int.le_refl _, by simp only [List.length_cons]; omega, by rw [r0]; exact a.1, by rw [r0, Int.add_zero]; exact a.2.1, by rw [r0, Int.add_zero]; exact a.2.2⟩
      · exact .inr ⟨j + 1, by omega, by simp only [List.length_cons]; omega, by rw [rs j j0]; exact a, by rw [rs j j0, show i + (j + 1) = i + 1 + j by omega]; exact b, by rw [rs j j0, show i + (j + 1) = i + 1 + j by omega]; exact c⟩
    · rintro (a | ⟨j, j0, j1, a, b, c⟩)
      · exact .inl (.inl a)
      · by_cases z : j = 0
        · subst z
          rw [r0] at a
          rw [r0, Int.add_zero] at b c
          exact .inl (.inr ⟨a, b, c⟩)
        · obtain ⟨m, rfl⟩ : ∃ m, j = m + 1 := ⟨j - 1, by omega⟩
          rw [rs m (by omega)] at a b c
          rw [show i + (m + 1) = i + 1 + m by omega] at b c
          exact .inr ⟨m, by omega, by simp only [List.length_cons] at j1; omega, a, b, c⟩
theorem treeGo_ok {w h : Int} : ∀ (l : List Int) (i o : Int), mazeOk w h o = true → mazeOk w h (treeGo w h l i o) = true
  | [], _, _, hm => hm
  | f :: r, i, o, hm => treeGo_ok r (i + 1) _ (treeAdd_ok hm)
/-- The gap towards a neighbor behind a passage. -/
theorem gapTo_step {w h o p n t : Int} (t0 : 0 ≤ t) (t3 : t ≤ 3) (hn : 0 ≤ n) (e : L.step w h o p t = n) : isGap w h (gapTo w h p n) = true ∧ bit o (gapTo w h p n) = true ∧ ((n = endA w h (gapTo w h p n) ∧ p = endB w h (gapTo w h p n)) ∨ (n = endB w h (gapTo w h p n) ∧ p = endA w h (gapTo w h p n))) := by
  rcases step_range w h o p t with z | ⟨hm, hc, hc', hnb, hg, hb⟩
  · omega
  · have hd : dirTo w h p n = t := by
      have hnb' : nb w h p t = n := by rw [hnb, e]
      have ap : ∀ d, 0 ≤ d → d ≤ 3 → nb w h p d = n → d = t := fun d d0 d3 q => dirs_apart hc d0 d3 t0 t3 (by omega) (by rw [q, hnb'])
      have tt : t = 0 ∨ t = 1 ∨ t = 2 ∨ t = 3 := by omega
      unfold dirTo
      by_cases q0 : nb w h p 0 = n
      · rw [if_pos q0]; exact ap 0 (by omega) (by omega) q0
      · rw [if_neg q0]
        by_cases q1 : nb w h p 1 = n
        · rw [if_pos q1]; exact ap 1 (by omega) (by omega) q1
        · rw [if_neg q1]
          by_cases q2 : nb w h p 2 = n
          · rw [if_pos q2]; exact ap 2 (by omega) (by omega) q2
          · rw [if_neg q2]
            by_cases q3 : nb w h p 3 = n
            · rw [if_pos q3]; exact ap 3 (by omega) (by omega) q3
            · rcases tt with rfl | rfl | rfl | rfl
              · exact absurd hnb' q0
              · exact absurd hnb' q1
              · exact absurd hnb' q2
              · exact absurd hnb' q3
    have nt := nb_tells hc t0 t3 (by omega)
    unfold gapTo
    rw [hd]
    rw [hnb, e] at nt
    exact ⟨nt.1, hb, nt.2.2.1.elim (fun q => .inr ⟨q.2, q.1⟩) (fun q => .inl ⟨q.2, q.1⟩)⟩
theorem tree_facts {w h o st : Int} (ha : has w h o st = true) {R : List Int × List Int × Int} (W : Whole w h o st R) :
    (popN 24 (treeGo w h R.2.1 0 0).toNat + 1 = (reached w h o st).length) ∧ (∀ x, Rch w h o st x → Rch w h (treeGo w h R.2.1 0 0) st x) ∧ (∀ g, isGap w h g = true → bit (treeGo w h R.2.1 0 0) g = true → bit o g = true) ∧ mazeOk w h (treeGo w h R.2.1 0 0) = true := by
  have hm := (has_parts ha).1
  have hs := (has_parts ha).2
  have hlen := W.fi.len
  have hm0 := (forest_zero (w := w) (h := h) (mazeOk_ok hm).1).1
  have hmt := treeGo_ok (w := w) (h := h) R.2.1 0 0 hm0
  have hdep : ∀ c, isCell w h c = true → seenF st R.2.1 c = true → ∃ k : Nat, Ch st R.2.1 c (k : Int) := fun c hc s => by
    obtain ⟨k, hk, k0, _⟩ := W.inv.dep c hc s
    exact ⟨k.toNat, by rw [show ((k.toNat : Nat) : Int) = k by omega]; exact hk⟩
  have hch : ∃ dep : Int → Nat, ∀ c, isCell w h c = true → seenF st R.2.1 c = true → Ch st R.2.1 c (dep c : Int) := by
    have : ∀ c, ∃ k : Nat, isCell w h c = true → seenF st R.2.1 c = true → Ch st R.2.1 c (k : Int) := fun c => by
      by_cases z : isCell w h c = true ∧ seenF st R.2.1 c = true
      · obtain ⟨k, hk⟩ := hdep c z.1 z.2
        exact ⟨k, fun _ _ => hk⟩
      · exact ⟨0, fun a b => absurd ⟨a, b⟩ z⟩
    exact Classical.axiomOfChoice this
  obtain ⟨dep, hdp⟩ := hch
  have pos : ∀ c, seenF st R.2.1 c = true → c ≠ st → 0 ≤ rd R.2.1 c := fun c s n => (seenF_iff.1 s).resolve_left n
  have P : Par w h st (seenF st R.2.1) (fun c => rd R.2.1 c) (fun c => gapTo w h (rd R.2.1 c) c) dep := by
    refine ⟨fun c hc s n => ?_, fun c hc s n => ?_⟩
    · have h0 := pos c s n
      obtain ⟨p, t, t0, t3, e⟩ := W.fi.par c hc h0
      have k := hdp c hc s
      generalize hdc : (dep c : Int) = dc at k
      cases k with
      | base => exact absurd rfl n
      | step ne _ k' =>
        rename_i kk
        have sp : seenF st R.2.1 (rd R.2.1 c) = true := by
          cases k' with
          | base => exact seenF_iff.2 (.inl rfl)
          | step _ h1 _ => exact seenF_iff.2 (.inr h1)
        have := Ch.det W.inv.st0 k' (hdp _ p sp)
        exact ⟨p, sp, by show dep (rd R.2.1 c) < dep c; omega⟩
    · have h0 := pos c s n
      obtain ⟨p, t, t0, t3, e⟩ := W.fi.par c hc h0
      have q := gapTo_step t0 t3 (cellD_lt hc).1 e
      exact ⟨q.1, q.2.2⟩
  have hb : ∀ g, isGap w h g = true → (bit (treeGo w h R.2.1 0 0) g = true ↔ ∃ c, isCell w h c = true ∧ seenF st R.2.1 c = true ∧ c ≠ st ∧ gapTo w h (rd R.2.1 c) c = g) := by
    intro g hg
    rw [treeGo_bit R.2.1 0 0 g (Int.le_refl _) (gap_lt hg).1]
    have z0 : bit 0 g = false := by unfold bit; simp
    constructor
    · rintro (q | ⟨j, j0, j1, a, b, c⟩)
      · rw [z0] at q; cases q
      · rw [Int.zero_add] at b c
        refine ⟨j, cell_of j0 (by omega), seenF_iff.2 (.inr a), fun z => ?_, c⟩
        rw [z, W.inv.st0] at a
        omega
    · rintro ⟨c, hc, s, n, e⟩
      have hcl := cellD_lt hc
      refine .inr ⟨c, hcl.1, by omega, pos c s n, ?_, ?_⟩
      · rw [Int.zero_add, e]; exact hg
      · rw [Int.zero_add]; exact e
  have hcnt := P.count hmt hb
  refine ⟨?_, fun x hx => ?_, fun g hg hbt => ?_, hmt⟩
  · rw [hcnt]
    have hsl := cellD_lt hs
    have := filter_minus (fun j : Nat => seenF st R.2.1 (j : Int)) (fun j : Nat => seenF st R.2.1 (j : Int) && decide ((j : Int) ≠ st)) st.toNat (by show seenF st R.2.1 ((st.toNat : Nat) : Int) = true; rw [show ((st.toNat : Nat) : Int) = st by omega]; exact seenF_iff.2 (.inl rfl)) (fun c => by
      congr 1
      rw [Bool.eq_iff_iff, decide_eq_true_eq, decide_eq_true_eq]
      omega) (cells w h).toNat (by omega)
    rw [this]
    have wc := whole_count ha W
    have cl := comp_length (fun j => seenF st R.2.1 (j : Int)) (cells w h).toNat
    unfold cntU at wc
    omega
  · have hxc := rch_cell hs hx
    exact P.rch hmt (fun c hc s n => (hb _ (P.gap c hc s n).1).2 ⟨c, hc, s, n, rfl⟩) _ x rfl hxc ((W.see x hxc).2 hx)
  · obtain ⟨c, hc, s, n, e⟩ := (hb g hg).1 hbt
    obtain ⟨p, t, t0, t3, e'⟩ := W.fi.par c hc (pos c s n)
    have q := gapTo_step t0 t3 (cellD_lt hc).1 e'
    rw [e] at q
    exact q.2.1
/-- The tree is perfect just if the maze is connected. -/
theorem tree_perfect {w h o st : Int} (ha : has w h o st = true) {R : List Int × List Int × Int} (W : Whole w h o st R) : perfect w h (treeGo w h R.2.1 0 0) = conn w h o := by
  obtain ⟨t1, t2, t3, t4⟩ := tree_facts ha W
  have hm := (has_parts ha).1
  have hs := (has_parts ha).2
  have wc := whole_count ha W
  have hr := cells_range w h
  unfold perfect passages
  rw [if_pos t4, Bool.eq_iff_iff, Bool.and_eq_true, beq_iff_eq, conn_iff hm hs, conn_iff t4 hs]
  have full : (∀ c, isCell w h c = true → Rch w h o st c) → cntU w h st R.2.1 = 0 := fun z => by
    unfold cntU
    rw [List.length_eq_zero_iff, List.filter_eq_nil_iff]
    intro j hj
    have hc := cell_of (w := w) (h := h) (x := (j : Int)) (by omega) (by have := List.mem_range.1 hj; omega)
    rw [(W.see _ hc).2 (z _ hc)]
    simp
  constructor
  · rintro ⟨a, _⟩ c hc
    have sub : ∀ x y, Adj w h (treeGo w h R.2.1 0 0) x y → Adj w h o x y := fun x y ⟨g, g1, g2, g3⟩ => ⟨g, g1, t3 g g1 g2, g3⟩
    exact (rch_path hm).2 (((rch_path t4).1 (a c hc)).mono sub)
  · intro a
    have := full a
    exact ⟨fun c hc => t2 c (a c hc), by omega⟩
/-- What the program's functions tell of a walk with a thread. -/
theorem tells_walk (w h o st : Int) (R : List Int × List Int × Int) (k : Nat) (hR : impl_thread.f k w h o st = some (some R)) : impl_ThreadWalk.f k w h o st = some R.1 ∧ impl_EnteredFrom.f k w h o st = some R.2.1 ∧ impl_ThreadLength.f k w h o st = some R.2.2 := by
  refine ⟨?_, ?_, ?_⟩
  · unfold impl_ThreadWalk.f
    rw [hR]
    rfl
  · unfold impl_EnteredFrom.f
    rw [hR]
    rfl
  · unfold impl_ThreadLength.f
    rw [hR]
    rfl
theorem tells_tree (w h o st : Int) (R : List Int × List Int × Int) (k : Nat) (hk : 1000 ≤ k) (ha : has w h o st = true) (W : Whole w h o st R) (hR : impl_thread.f k w h o st = some (some R)) : impl_ThreadTree.f k w h o st = some (w, h, treeGo w h R.2.1 0 0, perfect w h (treeGo w h R.2.1 0 0)) := by
  have hlen := W.fi.len
  have hcr := cells_range w h
  unfold impl_ThreadTree.f
  rw [hR]
  simp only [Option.bind_some]
  exact iTree_go w h o R.2.1 hlen W.inv.rng R.2.1.length k 0 0 (by omega) (by omega) (by omega) (by omega) (forest_zero (mazeOk_ok (has_parts ha).1).1).1
theorem tells_far (w h o st : Int) (k : Nat) (hk : 1000 ≤ k) (ha : has w h o st = true) : ∃ v, spec_FarthestFrom.f k w h o st = some v := by
  have hs := (has_parts ha).2
  have hsl := cellD_lt hs
  have hdt := dist_tells (o := o) hs
  have hcr := cells_range w h
  unfold spec_FarthestFrom.f
  rw [sHas]
  simp only [Option.bind_some]
  rw [if_pos ha, sDist k w h o st hs (by omega)]
  simp only [Option.bind_some]
  exact far_go _ (by omega) (dist w h o st).length k st 0 (by omega) (by omega) (by omega) hsl.1 (by omega)
theorem far_le {w h o st far : Int} (ha : has w h o st = true) {R : List Int × List Int × Int} (W : Whole w h o st R) : distOf w h o st far ≤ R.2.2 := by
  have hs := (has_parts ha).2
  have hdt := dist_tells (o := o) hs
  unfold distOf
  split
  · next z =>
    by_cases q : 0 ≤ rd (dist w h o st) far
    · have rch := (hdt.2.1 far z.2).1 q
      obtain ⟨k, hk, _, k1⟩ := W.inv.dep far z.2 ((W.see far z.2).2 rch)
      have := (dist_short hs (hk.walk W.fi hs z.2)).1
      omega
    · have := W.inv.mo0
      omega
  · have := W.inv.mo0
    omega
theorem last_ok {w h o st : Int} {R : List Int × List Int × Int} (W : Whole w h o st R) : 1 ≤ R.1.length ∧ rd R.1 ((R.1.length : Int) - 1) = st := by
  obtain ⟨m, hlst⟩ := W.lst
  have hl1 : R.1.length = m.length + 1 := by rw [hlst]; simp
  refine ⟨by omega, ?_⟩
  unfold rd
  rw [show ((R.1.length : Int) - 1).toNat = m.length by omega, hlst, List.getD_eq_getElem?_getD, List.getElem?_append_right (Nat.le_refl _)]
  simp
theorem end_ok (w h o st far : Int) (ha : has w h o st = true) (R : List Int × List Int × Int) (W : Whole w h o st R) (k : Nat) (hk : 300 ≤ k) (hR : impl_thread.f k w h o st = some (some R)) (i : Int) (hi : ((reached w h o st).length : Int) ≤ i) :
    laws_FnThreads.l0 (k + 1) st R.1 (reached w h o st) (perfect w h (treeGo w h R.2.1 0 0)) R.2.1 (distOf w h o st far) i w h o w h (treeGo w h R.2.1 0 0) = some true := by
  have hm := (has_parts ha).1
  have hs := (has_parts ha).2
  have hcr := cells_range w h
  have hsl := cellD_lt hs
  have wc := whole_count ha W
  have hsiz := W.siz
  have hst := start_cnt hs
  have hr16 := reached_length (w := w) (h := h) (o := o) (a := st)
  have hlen := W.fi.len
  obtain ⟨t1, t2, t3, t4⟩ := tree_facts ha W
  have tp := tree_perfect ha W
  have hl := last_ok W
  have hfar := far_le (far := far) ha W
  have htop := W.top
  rw [laws_FnThreads.l0, if_neg (by omega), (tells_walk w h o st R k hR).2.2]
  rw [Option.bind_some]
  rw [w64 (x := 2 * ((reached w h o st).length : Int)) (by omega) (by omega), w64 (x := 2 * ((reached w h o st).length : Int) - 1) (by omega) (by omega), if_pos (by omega), w64 (x := (R.1.length : Int) - 1) (by omega) (by omega), if_pos (by omega), if_pos (by omega), if_pos hl.2, sConn k w h o (by omega)]
  rw [Option.bind_some]
  rw [tp, if_pos (by simp)]
  have hsub : Go.bits .andNot .i64 (treeGo w h R.2.1 0 0) o = 0 := by
    have h1 := mazeOk_ok t4
    have h2 := mazeOk_ok hm
    have := andNot_zero (treeGo w h R.2.1 0 0).toNat o.toNat (by omega) (by omega)
    rw [show (((treeGo w h R.2.1 0 0).toNat : Nat) : Int) = treeGo w h R.2.1 0 0 by omega, show ((o.toNat : Nat) : Int) = o by omega] at this
    refine this.2 (subB_iff.2 fun i hi => ?_)
    by_cases q : i < (gaps w h).toNat
    · have := t3 (i : Int) (gap_nat q) (by unfold bit; rw [Int.toNat_natCast]; exact hi)
      unfold bit at this
      rw [Int.toNat_natCast] at this
      exact this
    · rw [bit_ge (mazeOk_lt t4) (by omega)] at hi
      cases hi
  rw [if_pos hsub, iPassages]
  rw [Option.bind_some]
  unfold passages
  rw [if_pos t4, w64 (x := ((reached w h o st).length : Int) - 1) (by omega) (by omega), if_pos (by omega), sCountCells]
  rw [Option.bind_some]
  rw [if_pos hlen, if_pos hsl.1, if_pos (by omega), if_pos W.inv.st0, if_pos (show R.2.2 ≥ distOf w h o st far from hfar), decide_eq_true (by omega)]
theorem reach_ok (w h o st far : Int) (ha : has w h o st = true) (R : List Int × List Int × Int) (W : Whole w h o st R) (hR : ∀ k, 300 ≤ k → impl_thread.f k w h o st = some (some R)) : ∀ (d k : Nat) (i : Int), 0 ≤ i → ((reached w h o st).length : Int) - i = d → d + 1000 ≤ k →
    laws_FnThreads.l0 k st R.1 (reached w h o st) (perfect w h (treeGo w h R.2.1 0 0)) R.2.1 (distOf w h o st far) i w h o w h (treeGo w h R.2.1 0 0) = some true := by
  have hcr := cells_range w h
  have hsiz := W.siz
  have hst := start_cnt (has_parts ha).2
  have hr16 := reached_length (w := w) (h := h) (o := o) (a := st)
  intro d
  induction d with
  | zero =>
    intro k i h0 hd hk
    obtain ⟨k, rfl⟩ : ∃ z, k = z + 1 := ⟨k - 1, by omega⟩
    exact end_ok w h o st far ha R W k (by omega) (hR k (by omega)) i (by omega)
  | succ d ih =>
    intro k i h0 hd hk
    obtain ⟨k, rfl⟩ : ∃ z, k = z + 1 := ⟨k - 1, by omega⟩
    have hin : laws_has.f k R.1 (rd (reached w h o st) i) = some true := by
      unfold laws_has.f
      refine has_go R.1 (by omega) _ R.1.length k 0 (by omega) (by omega) (by omega) ?_
      simp only [Int.toNat_zero, List.drop_zero]
      exact W.all _ ((mem_reached ha).1 (rd_memL (l := reached w h o st) h0 (by omega)))
    rw [laws_FnThreads.l0, if_pos (by omega), if_pos h0, hin]
    simp only [Option.bind_some, reduceIte]
    rw [w64 (by omega) (by omega)]
    exact ih k (i + 1) (by omega) (by omega) (by omega)
theorem main (s : List Int) (hs : s.length ≤ 1048576) (k : Nat) (hk : 5000 ≤ k) : laws_FnThreads.f k s = some true := by
  unfold laws_FnThreads.f laws_big.f
  simp only [Option.bind_some]
  rw [decide_eq_false (by omega), if_neg (by simp)]
  obtain ⟨w, h, o, st, e, hm, hs⟩ := open_cell k s (by omega) (by omega)
  have ha : has w h o st = true := has_of hm hs
  obtain ⟨R, hR, W⟩ := thread_whole ha
  have hk3 := hR k (by omega)
  obtain ⟨far, eF⟩ := tells_far w h o st k (by omega) ha
  rw [e]
  simp only [Option.bind_some]
  rw [(tells_walk w h o st R k hk3).1]
  simp only [Option.bind_some]
  rw [sReached k w h o st (by omega)]
  simp only [Option.bind_some]
  rw [tells_tree w h o st R k (by omega) ha W hk3]
  simp only [Option.bind_some]
  rw [(tells_walk w h o st R k hk3).2.1]
  simp only [Option.bind_some]
  rw [eF]
  simp only [Option.bind_some]
  rw [iDistanceOf k w h o st far (by omega)]
  simp only [Option.bind_some]
  have hr16 := reached_length (w := w) (h := h) (o := o) (a := st)
  exact reach_ok w h o st far ha R W hR (reached w h o st).length k 0 (by omega) (by omega) (by omega)
theorem FnThreads : laws_FnThreads.Pure := by
  intro s _ _ hx
  by_cases hbig : (s.length : Int) > 1048576
  · refine ⟨0, ?_⟩
    unfold laws_FnThreads.f laws_big.f
    simp only [Option.bind_some]
    rw [decide_eq_true hbig, if_pos rfl]
  · exact ⟨5000, main s (by omega) 5000 (by omega)⟩
end Go.Proofs.Ytceikdeladdbpaa.Pure
