/- Counting passages from both ends: the directions from all cells are the two sides of all gaps. And what Tremaux's walk leaves. -/
import Derived.Test.YtdloifaaoiollacLMarks
namespace Go.Proofs.Ytdloifaaoiollac.L
open Go.RowKit Go.Proofs.Ytdloifaaoiollac.X Go.Proofs.YtdloifaaoiollacW.PrintWords Go.Proofs.YtdloifaaoiollacW.PrintLast Go.Proofs.YtdloifaaoiollacW.PrintMore
set_option linter.unusedSimpArgs false
set_option linter.unusedVariables false

def dirsAt (w h : Int) (c : Nat) : List (Int × Int) := (([0, 1, 2, 3] : List Int).filter fun t => decide (0 ≤ nb w h (c : Int) t)).map fun t => ((c : Int), gapAt w h (c : Int) t)
def sidesAt (w h : Int) (g : Nat) : List (Int × Int) := [(endA w h (g : Int), (g : Int)), (endB w h (g : Int), (g : Int))]
def dirsL (w h : Int) : List (Int × Int) := (List.range (cells w h).toNat).flatMap (dirsAt w h)
def sidesL (w h : Int) : List (Int × Int) := (List.range (gaps w h).toNat).flatMap (sidesAt w h)
theorem dirs_facts : ∀ (w h : Fin 5), (dirsL (w.val : Int) (h.val : Int)).isPerm (sidesL (w.val : Int) (h.val : Int)) = true := by decide +kernel
theorem dirs_perm {w h : Int} (hg : gridOk w h = true) : (dirsL w h).Perm (sidesL w h) := by
  have hg' := gridOk_iff.1 hg
  obtain ⟨W, rfl⟩ := fin_int (n := 5) (x := w) (by omega) (by omega)
  obtain ⟨H, rfl⟩ := fin_int (n := 5) (x := h) (by omega) (by omega)
  exact List.isPerm_iff.1 (dirs_facts W H)
theorem tot_append : ∀ l m : List Int, tot (l ++ m) = tot l + tot m
  | [], m => by simp [tot]
  | x :: l, m => by simp only [List.cons_append, tot, tot_append l m]; omega
theorem tot_range (l : List Int) : tot ((List.range l.length).map fun i : Nat => rd l (i : Int)) = tot l := by
  congr 1
  apply List.ext_getElem
  · simp
  · intro i h1 h2
    simp only [List.length_map, List.length_range] at h1
    simp [rd_nat h1]
theorem range_map (n : Nat) (i : Int) : (List.range (n + 1)).map (fun j : Nat => i + (j : Int)) = i :: (List.range n).map (fun j : Nat => i + 1 + (j : Int)) := by
  rw [List.range_succ_eq_map, List.map_cons, List.map_map]
  congr 1
  · simp
  · apply List.map_congr_left
    intro j _
    simp only [Function.comp]
    omega
theorem places_eq : ∀ (l : List Int) (i : Int), places l i = ((List.range l.length).map fun j : Nat => i + (j : Int)).filter fun x => decide (0 ≤ rd l (x - i))
  | [], i => by simp [places]
  | y :: l, i => by
    have ih := places_eq l (i + 1)
    have e : ((List.range l.length).map fun j : Nat => i + 1 + (j : Int)).filter (fun x => decide (0 ≤ rd (y :: l) (x - i))) = ((List.range l.length).map fun j : Nat => i + 1 + (j : Int)).filter (fun x => decide (0 ≤ rd l (x - (i + 1)))) := by
      apply List.filter_congr
      intro x hx
      obtain ⟨j, _, rfl⟩ := List.mem_map.1 hx
      have e1 : rd (y :: l) (i + 1 + (j : Int) - i) = rd l (i + 1 + (j : Int) - (i + 1)) := by
        unfold rd
        rw [show (i + 1 + (j : Int) - i).toNat = (i + 1 + (j : Int) - (i + 1)).toNat + 1 by omega]
        rfl
      rw [e1]
    rw [List.length_cons, range_map, List.filter_cons, e, ← ih, places]
    have e0 : rd (y :: l) (i - i) = y := by rw [show i - i = 0 by omega]; rfl
    rw [e0]
    by_cases z : 0 ≤ y
    · rw [if_pos z, if_pos (decide_eq_true z)]
    · rw [if_neg z, if_neg (by simpa using z)]
theorem reached_eq {w h o a : Int} (z : has w h o a = true) : reached w h o a = ((List.range (cells w h).toNat).map fun j : Nat => (j : Int)).filter fun x => decide (0 ≤ rd (dist w h o a) x) := by
  unfold reached
  rw [if_pos z, places_eq]
  have hl := (dist_tells (o := o) (has_parts z).2).1
  rw [show (dist w h o a).length = (cells w h).toNat by omega]
  simp
/-- All passages of what is reached, from both ends. -/
def degs (w h o : Int) (l : List Int) : Int := tot (l.map fun r => ((ways w h o r).length : Int))
theorem dirsAt_count {w h o : Int} (hm : mazeOk w h o = true) (R : Int → Bool) {c : Nat} (hc : isCell w h (c : Int) = true) : (((dirsAt w h c).filter fun p => bit o p.2 && R p.1).length : Int) = if R (c : Int) = true then ((ways w h o (c : Int)).length : Int) else 0 := by
  unfold dirsAt
  rw [List.filter_map, List.length_map, List.filter_filter]
  by_cases z : R (c : Int) = true
  · rw [if_pos z]
    congr 1
    unfold ways
    congr 1
    apply List.filter_congr
    intro t ht
    simp only [List.mem_cons, List.not_mem_nil, or_false] at ht
    have t0 : 0 ≤ t ∧ t ≤ 3 := by omega
    simp only [Function.comp, z, Bool.and_true]
    rw [Bool.eq_iff_iff, Bool.and_eq_true, decide_eq_true_eq, decide_eq_true_eq, step_eq _ _ _ _ _ hm]
    constructor
    · rintro ⟨a, b⟩
      have f := nb_tells hc t0.1 t0.2 b
      rw [if_pos ⟨(gap_lt f.1).1, a⟩]
      exact b
    · intro a
      split at a
      · rename_i q
        exact ⟨q.2, a⟩
      · omega
  · have z' : R (c : Int) = false := by simpa using z
    rw [if_neg z]
    have : (([0, 1, 2, 3] : List Int).filter fun a => ((fun p : Int × Int => bit o p.2 && R p.1) ∘ fun t => ((c : Int), gapAt w h (c : Int) t)) a && decide (0 ≤ nb w h (c : Int) a)) = [] := by
      rw [List.filter_eq_nil_iff]
      intro t _
      simp [z']
    rw [this]
    rfl
theorem dirsL_count {w h o : Int} (hm : mazeOk w h o = true) (R : Int → Bool) : ∀ L : List Nat, (∀ c ∈ L, isCell w h (c : Int) = true) → (((L.flatMap (dirsAt w h)).filter fun p => bit o p.2 && R p.1).length : Int) = degs w h o ((L.map fun j : Nat => (j : Int)).filter R)
  | [], _ => by simp [degs, tot]
  | c :: L, hc => by
    have ih := dirsL_count hm R L fun x hx => hc x (List.mem_cons_of_mem _ hx)
    have h1 := dirsAt_count hm R (hc c List.mem_cons_self)
    rw [List.flatMap_cons, List.filter_append, List.length_append, Int.natCast_add, h1, ih, List.map_cons, List.filter_cons]
    by_cases z : R (c : Int) = true
    · rw [if_pos z, if_pos z]
      simp [degs, tot]
    · rw [if_neg z, if_neg z]
      simp
theorem sidesL_count {w h o : Int} (R : Int → Bool) (m : Int → Int) (hR : ∀ g : Nat, isGap w h (g : Int) = true → m g = if bit o (g : Int) = true ∧ R (endA w h g) = true then 2 else 0) (hs : ∀ g : Nat, isGap w h (g : Int) = true → bit o (g : Int) = true → R (endA w h g) = R (endB w h g)) :
    ∀ L : List Nat, (∀ g ∈ L, isGap w h (g : Int) = true) → (((L.flatMap (sidesAt w h)).filter fun p => bit o p.2 && R p.1).length : Int) = tot (L.map fun g : Nat => m (g : Int))
  | [], _ => by simp [tot]
  | g :: L, hc => by
    have ih := sidesL_count R m hR hs L fun x hx => hc x (List.mem_cons_of_mem _ hx)
    have hg := hc g List.mem_cons_self
    rw [List.flatMap_cons, List.filter_append, List.length_append, Int.natCast_add, ih, List.map_cons, tot, hR g hg]
    congr 1
    unfold sidesAt
    by_cases b : bit o (g : Int) = true
    · have e := hs g hg b
      by_cases r : R (endA w h g) = true
      · rw [if_pos ⟨b, r⟩]
        rw [r] at e
        simp [List.filter_cons, b, r, ← e]
      · have r' : R (endA w h g) = false := by simpa using r
        rw [if_neg (fun z => r z.2)]
        rw [r'] at e
        simp [List.filter_cons, b, r', ← e]
    · rw [if_neg (fun z => b z.1)]
      simp [List.filter_cons, b]
theorem rd_zeros {n : Int} {g : Int} (h0 : 0 ≤ g) (h1 : g < n) : rd (zeros n) g = 0 := by
  unfold zeros
  exact List.eq_of_mem_replicate (rd_memL (l := List.replicate n.toNat 0) h0 (by simp; omega))
theorem tot_zeros : ∀ n : Nat, tot (List.replicate n 0) = 0
  | 0 => rfl
  | n + 1 => by rw [List.replicate_succ, tot, tot_zeros n]; rfl
theorem start_T {w h o a : Int} (ha : has w h o a = true) : TInv w h o a [a] (zeros (gaps w h)) := by
  have hr := gaps_range w h
  have z : ∀ g, isGap w h g = true → rd (zeros (gaps w h)) g = 0 := fun g hg => rd_zeros (gap_lt hg).1 (gap_lt hg).2
  refine ⟨by simp [zeros]; omega, fun n hn => ?_, fun g hg _ => z g hg, by simp, trivial, fun g hg h1 => ?_, fun x _ _ => .inl fun g hg => z g hg.1, fun g hg hp => ?_, fun x hx => ?_, ⟨[], rfl⟩⟩
  · have := List.eq_of_mem_replicate hn
    omega
  · rw [z g hg] at h1; omega
  · rw [z g hg] at hp; omega
  · simp only [List.mem_singleton] at hx
    subst hx
    exact .refl
theorem start_C {w h a : Int} : Cel w h a [a] a (zeros (gaps w h)) := by
  refine ⟨by unfold zeros; rw [tot_zeros]; rfl, rfl, rfl, by simp, fun g hg hp => ?_⟩
  rw [rd_zeros (gap_lt hg).1 (gap_lt hg).2] at hp
  omega
theorem tremaux_fin {w h o a : Int} (ha : has w h o a = true) : TInv w h o a [a] (tremaux w h o a).2 ∧ Cel w h a (tremaux w h o a).1 a (tremaux w h o a).2 ∧ ∀ g, At w h o a g → rd (tremaux w h o a).2 g = 2 := by
  have hm := (has_parts ha).1
  have hca := (has_parts ha).2
  have I0 := start_T ha
  have C0 := start_C (w := w) (h := h) (a := a)
  unfold tremaux
  rw [if_pos ha]
  by_cases e : (ways w h o a).length = 0
  · rw [if_pos e]
    refine ⟨I0, C0, fun g hg => ?_⟩
    obtain ⟨d, d0, d3, hs, he⟩ := at_dir hm hg
    have : d ∈ ways w h o a := by
      unfold ways
      rw [List.mem_filter]
      refine ⟨?_, decide_eq_true hs⟩
      simp only [List.mem_cons, List.not_mem_nil, or_false]
      omega
    rw [List.eq_nil_of_length_eq_zero e] at this
    cases this
  · rw [if_neg e]
    obtain ⟨hs, d0, d3⟩ := ways_first e
    generalize rd (ways w h o a) 0 = d at *
    obtain ⟨hg, hbit, hj, hsb, hgb, _, hcy, hnb⟩ := dir_tells d0 d3 hs
    have hel := gap_lt hg
    have hz : ∀ g, isGap w h g = true → rd (zeros (gaps w h)) g = 0 := fun g hg => rd_zeros (gap_lt hg).1 (gap_lt hg).2
    have I1 := I0.go hm hg hbit hj (hz _ hg) (by simp only [List.mem_singleton]; exact fun z => (hj.ne hg) z.symm) (Rch.step .refl d0 d3 hs) (fun g hg => hz g hg.1)
    have C1 := C0.step (v := 1) hg hj I0.len (by rw [hz _ hg]; rfl)
    have r1 : ∀ g, isGap w h g = true → rd ((zeros (gaps w h)).set (gapAt w h a d).toNat 1) g = if g = gapAt w h a d then 1 else 0 := fun g hg => by
      rw [rd_set hel.1 (by rw [I0.len]; exact hel.2) (gap_lt hg).1, hz g hg]
    have hsb' : 0 ≤ step w h o (step w h o a d) ((d + 2) % 4) := by rw [hsb]; exact (cellD_lt hca).1
    have mkb : mk w h o (step w h o a d) ((zeros (gaps w h)).set (gapAt w h a d).toNat 1) ((d + 2) % 4) = 1 := by rw [mk_eq hsb', hgb, r1 _ hg, if_pos rfl]
    obtain ⟨cs, ms, et, IT, CT, AT⟩ := twalk_fin ha 199 [a, step w h o a d] ((zeros (gaps w h)).set (gapAt w h a d).toNat 1) [a] (step w h o a d) d I1 C1 d0 d3 (by rw [mkb]; omega) (fun z => by
      obtain ⟨d2, d20, d23, hne, hp⟩ := oldB_iff.1 z.2
      have hs2 : 0 ≤ step w h o (step w h o a d) d2 := by
        unfold mk at hp
        split at hp <;> omega
      rw [mk_eq hs2] at hp
      have ht2 := dir_tells d20 d23 hs2
      rw [r1 _ ht2.1] at hp
      split at hp
      · rename_i q
        rw [q] at ht2
        have e1 := Joins.other hg ht2.2.2.1 hj.symm
        have tb := dir_tells (by omega) (by omega) hsb'
        refine hne (nb_inj hcy d20 d23 (by omega) (by omega) (by omega) ?_)
        rw [ht2.2.2.2.2.2.2.2, tb.2.2.2.2.2.2.2, hsb, e1]
      · omega) (by have := (tot_le _ I1.rng).1; omega)
    rw [et]
    exact ⟨IT, CT, AT⟩
/-- At the end every passage of what is reached bears two marks, and no other bears one. -/
theorem tremaux_two {w h o a : Int} (ha : has w h o a = true) {x : Int} (r : Rch w h o a x) : ∀ g, At w h o x g → rd (tremaux w h o a).2 g = 2 := by
  obtain ⟨I, C, A⟩ := tremaux_fin ha
  induction r with
  | refl => exact A
  | step r t0 t3 hs ih =>
    rename_i x d
    have h1 := ih _ (gapAt_at t0 t3 hs)
    have t := dir_tells t0 t3 hs
    by_cases e : step w h o x d = a
    · rw [e]; exact A
    · rcases I.off _ t.2.2.2.2.2.2.1 (by simpa using e) with o1 | o1
      · have := o1 _ ⟨t.1, t.2.1, t.2.2.1.mem.2⟩
        omega
      · exact o1
theorem tremaux_in {w h o a x : Int} (ha : has w h o a = true) (r : Rch w h o a x) : x ∈ (tremaux w h o a).1 := by
  obtain ⟨I, C, A⟩ := tremaux_fin ha
  cases r with
  | refl =>
    have h1 := C.pos
    have h2 := rd_memL (l := (tremaux w h o a).1) (i := 0) (by omega) (by omega)
    rw [C.fst] at h2
    exact h2
  | step r t0 t3 hs =>
    have t := dir_tells t0 t3 hs
    have h1 := tremaux_two ha r _ (gapAt_at t0 t3 hs)
    have h2 := C.mem _ t.1 (by omega)
    rcases t.2.2.1 with ⟨p, q⟩ | ⟨p, q⟩
    · rw [q]; exact h2.2
    · rw [q]; exact h2.1
theorem tremaux_sum {w h o a : Int} (ha : has w h o a = true) : tot (tremaux w h o a).2 = degs w h o (reached w h o a) := by
  obtain ⟨I, C, A⟩ := tremaux_fin ha
  have hm := (has_parts ha).1
  have hgr := gaps_range w h
  have hcr := cells_range w h
  have hd := dist_tells (o := o) (has_parts ha).2
  have hR : ∀ x, isCell w h x = true → (decide (0 ≤ rd (dist w h o a) x) = true ↔ Rch w h o a x) := fun x hx => by rw [decide_eq_true_eq]; exact hd.2.1 x hx
  rw [reached_eq ha, ← dirsL_count hm _ (List.range (cells w h).toNat) (fun c hc => cell_of (by omega) (by have := List.mem_range.1 hc; omega))]
  have hp := ((dirs_perm (mazeOk_ok hm).1).filter (fun p => bit o p.2 && decide (0 ≤ rd (dist w h o a) p.1))).length_eq
  unfold dirsL sidesL at hp
  have hrd : ∀ g : Nat, isGap w h (g : Int) = true → rd (tremaux w h o a).2 g = if bit o (g : Int) = true ∧ decide (0 ≤ rd (dist w h o a) (endA w h g)) = true then 2 else 0 := by
    intro g hg
    have hc := (end_tells hg).1
    by_cases b : bit o (g : Int) = true
    · by_cases r : decide (0 ≤ rd (dist w h o a) (endA w h g)) = true
      · rw [if_pos ⟨b, r⟩]
        exact tremaux_two ha ((hR _ hc).1 r) _ ⟨hg, b, .inl rfl⟩
      · rw [if_neg fun z => r z.2]
        have h1 := I.rng (rd (tremaux w h o a).2 g) (rd_memL (by omega) (by rw [I.len]; exact (gap_lt hg).2))
        have h2 : ¬ 0 < rd (tremaux w h o a).2 g := fun z => r ((hR _ hc).2 (I.rch _ hg z))
        omega
    · rw [if_neg fun z => b z.1]
      exact I.shut _ hg (by simpa using b)
  have hs := sidesL_count (w := w) (h := h) (o := o) (fun x => decide (0 ≤ rd (dist w h o a) x)) (fun g => rd (tremaux w h o a).2 g) hrd (fun g hg b => by
    have et := end_tells hg
    rw [Bool.eq_iff_iff, hR _ et.1, hR _ et.2.1]
    have ad : Adj w h o (endA w h g) (endB w h g) := ⟨g, hg, b, .inl ⟨rfl, rfl⟩⟩
    constructor
    · intro r
      obtain ⟨t, t0, t3, hst, e⟩ := adj_step hm ad
      rw [← e]
      exact r.step t0 t3 hst
    · intro r
      obtain ⟨t, t0, t3, hst, e⟩ := adj_step hm ad.symm
      rw [← e]
      exact r.step t0 t3 hst) (List.range (gaps w h).toNat) (fun g hg => by unfold isGap; exact decide_eq_true ⟨by omega, by have := List.mem_range.1 hg; omega⟩)
  rw [hp, hs]
  have e : (tremaux w h o a).2.length = (gaps w h).toNat := by have := I.len; omega
  rw [← e]
  exact (tot_range _).symm
theorem most_le : ∀ (l : List Int) (x b : Int), x ≤ b → (∀ n ∈ l, n ≤ b) → most l x ≤ b
  | [], x, b, hx, _ => hx
  | y :: l, x, b, hx, h => by
    unfold most
    rw [List.foldl_cons]
    refine most_le l _ b ?_ fun n hn => h n (List.mem_cons_of_mem _ hn)
    have := h y List.mem_cons_self
    unfold mx
    split <;> omega
theorem most_ge : ∀ (l : List Int) (x : Int), x ≤ most l x ∧ ∀ n ∈ l, n ≤ most l x
  | [], x => ⟨Int.le_refl _, fun n hn => by cases hn⟩
  | y :: l, x => by
    have ih := most_ge l (mx x y)
    unfold most at ih ⊢
    rw [List.foldl_cons]
    have h1 : x ≤ mx x y ∧ y ≤ mx x y := by unfold mx; split <;> omega
    refine ⟨by omega, fun n hn => ?_⟩
    rcases List.mem_cons.1 hn with rfl | hn
    · omega
    · exact ih.2 n hn
theorem tot_pos : ∀ l : List Int, (∀ n ∈ l, n = 0 ∨ n = 2) → 0 < tot l → (2 : Int) ∈ l
  | [], _, h => by simp [tot] at h
  | x :: l, h, hp => by
    rcases h x List.mem_cons_self with rfl | rfl
    · exact List.mem_cons_of_mem _ (tot_pos l (fun n hn => h n (List.mem_cons_of_mem _ hn)) (by simpa [tot] using hp))
    · exact List.mem_cons_self
theorem tremaux_vals {w h o a : Int} (ha : has w h o a = true) : ∀ n ∈ (tremaux w h o a).2, n = 0 ∨ n = 2 := by
  obtain ⟨I, C, A⟩ := tremaux_fin ha
  intro n hn
  obtain ⟨g, g0, g1, rfl⟩ := mem_rd hn
  have hg : isGap w h g = true := by unfold isGap; exact decide_eq_true ⟨g0, by rw [← I.len]; exact g1⟩
  have h1 := I.rng _ hn
  by_cases e : rd (tremaux w h o a).2 g = 1
  · exact (I.ones g hg e).elim
  · omega
theorem tremaux_most {w h o a : Int} (ha : has w h o a = true) : most (tremaux w h o a).2 0 = if 0 < tot (tremaux w h o a).2 then 2 else 0 := by
  obtain ⟨I, C, A⟩ := tremaux_fin ha
  have hv := tremaux_vals ha
  have hg := most_ge (tremaux w h o a).2 0
  by_cases z : 0 < tot (tremaux w h o a).2
  · rw [if_pos z]
    have h1 := hg.2 _ (tot_pos _ hv z)
    have h2 := most_le (tremaux w h o a).2 0 2 (by omega) fun n hn => (I.rng n hn).2
    omega
  · rw [if_neg z]
    have h0 : ∀ n ∈ (tremaux w h o a).2, n ≤ 0 := fun n hn => by
      rcases hv n hn with e | e
      · omega
      · exfalso
        subst e
        have key : ∀ l : List Int, (∀ n ∈ l, 0 ≤ n ∧ n ≤ 2) → (2 : Int) ∈ l → 0 < tot l := by
          intro l
          induction l with
          | nil => intro _ h; cases h
          | cons x l ih =>
            intro hl h
            have hx := hl x List.mem_cons_self
            have ht := tot_le l fun n hn => hl n (List.mem_cons_of_mem _ hn)
            simp only [tot]
            rcases List.mem_cons.1 h with e | h
            · omega
            · have := ih (fun n hn => hl n (List.mem_cons_of_mem _ hn)) h
              omega
        exact z (key _ I.rng hn)
    have h2 := most_le (tremaux w h o a).2 0 0 (by omega) h0
    omega
end Go.Proofs.Ytdloifaaoiollac.L
