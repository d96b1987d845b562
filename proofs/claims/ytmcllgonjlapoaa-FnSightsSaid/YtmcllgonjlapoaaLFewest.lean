/- The fewest guards see every cell, and of fewer none do. -/
import Derived.Test.YtmcllgonjlapoaaXimplFewestGuards
import Derived.Test.YtmcllgonjlapoaaXimplguards
import Derived.Test.YtmcllgonjlapoaaLGuards
namespace Go.Proofs.Ytmcllgonjlapoaa.L
open Go.RowKit Go.Proofs.Ytmcllgonjlapoaa.X Go.Proofs.YtmcllgonjlapoaaW.PrintWords Go.Proofs.YtmcllgonjlapoaaW.PrintLast Go.Proofs.YtmcllgonjlapoaaW.PrintMore
set_option linter.unusedSimpArgs false
set_option linter.unusedVariables false

/-- m sets, from number f on. -/
def sufOf (S : Int → Nat) : Nat → Int → List Int
  | 0, _ => []
  | m + 1, f => (S f : Int) :: sufOf S m (f + 1)
/-- Each bit that is missing is in one of the list's sets. -/
def cov (S : Int → Nat) (left : Nat) (r : List Int) : Prop := ∀ i, left.testBit i = true → ∃ g ∈ r, (S g).testBit i = true
theorem zero_of_cov {S : Int → Nat} {left : Nat} (h : cov S left []) : left = 0 := by
  apply Nat.eq_of_testBit_eq
  intro i
  rw [Nat.zero_testBit]
  cases e : left.testBit i with
  | false => rfl
  | true => obtain ⟨x, hx, _⟩ := h i e; simp at hx
theorem without_bit (a b i : Nat) : (a ^^^ (a &&& b)).testBit i = (a.testBit i && !b.testBit i) := by
  rw [Nat.testBit_xor, Nat.testBit_and]
  cases a.testBit i <;> cases b.testBit i <;> rfl
theorem gd_sound (S : Int → Nat) (hS : ∀ g, S g < 2 ^ 16) : ∀ (m : Nat) (f : Int) (n left : Nat), left < 2 ^ 16 → (gd f (sufOf S m f) n (left : Int)).2 = true →
    (gd f (sufOf S m f) n (left : Int)).1.length = n ∧ (gd f (sufOf S m f) n (left : Int)).1.Pairwise (· < ·) ∧ (∀ g ∈ (gd f (sufOf S m f) n (left : Int)).1, f ≤ g ∧ g < f + m) ∧ cov S left (gd f (sufOf S m f) n (left : Int)).1
  | m, f, 0, left, hl, h => by
    have e : gd f (sufOf S m f) 0 (left : Int) = ([], (left : Int) == 0) := by cases m <;> simp [sufOf, gd]
    rw [e] at h ⊢
    have h0 : left = 0 := by
      have := beq_iff_eq.1 h
      omega
    subst h0
    exact ⟨rfl, List.Pairwise.nil, fun g hg => by simp at hg, fun i hi => by simp at hi⟩
  | 0, f, n + 1, left, hl, h => by
    simp [sufOf, gd] at h
  | m + 1, f, n + 1, left, hl, h => by
    have hb := bits_andNotN left (S f) (by omega) (by have := hS f; omega)
    have hx : left ^^^ (left &&& S f) < 2 ^ 16 := Nat.xor_lt_two_pow hl (Nat.lt_of_le_of_lt Nat.and_le_left hl)
    simp only [sufOf, gd] at h ⊢
    rw [hb] at h ⊢
    by_cases c : (gd (f + 1) (sufOf S m (f + 1)) n ((left ^^^ (left &&& S f) : Nat) : Int)).2 = true
    · rw [if_pos c]
      obtain ⟨h1, h2, h3, h4⟩ := gd_sound S hS m (f + 1) n _ hx c
      refine ⟨by simp [h1], ?_, ?_, ?_⟩
      · rw [List.pairwise_cons]
        exact ⟨fun g hg => by have := h3 g hg; omega, h2⟩
      · intro g hg
        rcases List.mem_cons.1 hg with e | e
        · omega
        · have := h3 g e; omega
      · intro i hi
        cases z : (S f).testBit i with
        | true => exact ⟨f, List.mem_cons_self, z⟩
        | false =>
          obtain ⟨g, hg, hbit⟩ := h4 i (by rw [without_bit, hi, z]; rfl)
          exact ⟨g, List.mem_cons_of_mem _ hg, hbit⟩
    · rw [if_neg c] at h ⊢
      obtain ⟨h1, h2, h3, h4⟩ := gd_sound S hS m (f + 1) (n + 1) left hl h
      exact ⟨h1, h2, fun g hg => by have := h3 g hg; omega, h4⟩
theorem gd_complete (S : Int → Nat) (hS : ∀ g, S g < 2 ^ 16) : ∀ (m : Nat) (f : Int) (n left : Nat) (r : List Int), left < 2 ^ 16 → r.length = n → r.Pairwise (· < ·) → (∀ g ∈ r, f ≤ g ∧ g < f + m) → cov S left r → (gd f (sufOf S m f) n (left : Int)).2 = true
  | m, f, 0, left, r, hl, hn, hp, hr, hc => by
    have e : gd f (sufOf S m f) 0 (left : Int) = ([], (left : Int) == 0) := by cases m <;> simp [sufOf, gd]
    rw [List.length_eq_zero_iff.1 hn] at hc
    rw [e, zero_of_cov hc]
    rfl
  | 0, f, n + 1, left, r, hl, hn, hp, hr, hc => by
    cases r with
    | nil => simp at hn
    | cons g r => have := hr g List.mem_cons_self; omega
  | m + 1, f, n + 1, left, r, hl, hn, hp, hr, hc => by
    have hb := bits_andNotN left (S f) (by omega) (by have := hS f; omega)
    have hx : left ^^^ (left &&& S f) < 2 ^ 16 := Nat.xor_lt_two_pow hl (Nat.lt_of_le_of_lt Nat.and_le_left hl)
    simp only [sufOf, gd]
    rw [hb]
    by_cases c : (gd (f + 1) (sufOf S m (f + 1)) n ((left ^^^ (left &&& S f) : Nat) : Int)).2 = true
    · rw [if_pos c]
    · rw [if_neg c]
      cases r with
      | nil => simp at hn
      | cons g r =>
        rw [List.pairwise_cons] at hp
        have hg := hr g List.mem_cons_self
        by_cases e : g = f
        · exfalso
          apply c
          subst e
          refine gd_complete S hS m (g + 1) n _ r hx (by simpa using hn) hp.2 (fun z hz => ?_) (fun i hi => ?_)
          · have h1 := hp.1 z hz
            have h2 := hr z (List.mem_cons_of_mem _ hz)
            omega
          · rw [without_bit, Bool.and_eq_true] at hi
            obtain ⟨z, hz, hbit⟩ := hc i hi.1
            rcases List.mem_cons.1 hz with e | e
            · subst e
              have := hi.2
              rw [hbit] at this
              simp at this
            · exact ⟨z, e, hbit⟩
        · refine gd_complete S hS m (f + 1) (n + 1) left (g :: r) hl hn (List.pairwise_cons.2 hp) (fun z hz => ?_) hc
          have h2 := hr z hz
          rcases List.mem_cons.1 hz with e2 | e2
          · omega
          · have h1 := hp.1 z e2
            omega
theorem setsI_suf (w h o : Int) : setsI w h o = sufOf (fun g => seenBits w h o g) (cells w h).toNat 0 := by
  have key : ∀ (m : Nat) (f : Nat), sufOf (fun g => seenBits w h o g) m (f : Int) = (List.range m).map fun k : Nat => ((seenBits w h o ((f + k : Nat) : Int) : Nat) : Int) := by
    intro m
    induction m with
    | zero => intro f; rfl
    | succ m ih =>
      intro f
      rw [List.range_succ_eq_map, List.map_cons, List.map_map]
      unfold sufOf
      rw [show ((f : Int) + 1) = ((f + 1 : Nat) : Int) by omega, ih (f + 1)]
      simp only [Nat.add_zero]
      congr 1
      apply List.map_congr_left
      intro a _
      simp only [Function.comp]
      rw [show f + 1 + a = f + (a + 1) by omega]
  have := key (cells w h).toNat 0
  rw [show ((0 : Nat) : Int) = 0 from rfl] at this
  rw [this]
  unfold setsI sets
  rw [List.map_map]
  apply List.map_congr_left
  intro a _
  simp
/-- What FewestGuards finds. -/
theorem found (w h o : Int) (hc : 1 ≤ cells w h) : ∀ (d k : Nat) (n : Nat), 1 ≤ n → n ≤ (cells w h).toNat → (cells w h).toNat - n = d → d + 40 ≤ k →
    ∃ m : Nat, n ≤ m ∧ m ≤ (cells w h).toNat ∧ impl_FewestGuards.l1 k (setsI w h o) n = some (gd 0 (setsI w h o) m (full w h)).1 ∧ (gd 0 (setsI w h o) m (full w h)).2 = true ∧ ∀ q, n ≤ q → q < m → (gd 0 (setsI w h o) q (full w h)).2 = false := by
  have hr := cells_range w h
  have hlen := setsI_length w h o
  have hfull : wrap64 ((shl .i64 1 ((setsI w h o).length : Int)) - 1) = full w h := by
    unfold full
    rw [hlen, ← cells_cast]
  intro d
  induction d with
  | zero =>
    intro k n h1 hn hd hk
    obtain ⟨k, rfl⟩ : ∃ m, k = m + 1 := ⟨k - 1, by omega⟩
    have e : n = (setsI w h o).length := by omega
    have hg := iguards k (setsI w h o) n (full w h) (by omega) (by omega) (by omega)
    have hf := gd_full w h o
    rw [← e] at hf
    refine ⟨n, Nat.le_refl _, hn, ?_, hf, fun q a b => by omega⟩
    unfold impl_FewestGuards.l1
    rw [hfull, hg]
    simp only [Option.bind_some]
    rw [if_pos hf]
  | succ d ih =>
    intro k n h1 hn hd hk
    obtain ⟨k, rfl⟩ : ∃ m, k = m + 1 := ⟨k - 1, by omega⟩
    have hg := iguards k (setsI w h o) n (full w h) (by omega) (by omega) (by omega)
    by_cases c : (gd 0 (setsI w h o) n (full w h)).2 = true
    · refine ⟨n, Nat.le_refl _, hn, ?_, c, fun q a b => by omega⟩
      unfold impl_FewestGuards.l1
      rw [hfull, hg]
      simp only [Option.bind_some]
      rw [if_pos c]
    · obtain ⟨m, h2, h3, h4, h5, h6⟩ := ih k (n + 1) (by omega) (by omega) (by omega) (by omega)
      refine ⟨m, by omega, h3, ?_, h5, fun q a b => ?_⟩
      · unfold impl_FewestGuards.l1
        rw [hfull, hg]
        simp only [Option.bind_some]
        rw [if_neg c, w64 (by omega) (by omega)]
        exact h4
      · by_cases e : q = n
        · subst e; simpa using c
        · exact h6 q (by omega) b
theorem testBit_guard (w h o : Int) : ∀ (l : List Int) (s i : Nat), (guardBits w h o s l).testBit i = (s.testBit i || l.any fun g => (seenBits w h o g).testBit i)
  | [], s, i => by simp [guardBits]
  | g :: l, s, i => by
    have e : guardBits w h o s (g :: l) = guardBits w h o (s ||| seenBits w h o g) l := rfl
    rw [e, testBit_guard w h o l, Nat.testBit_or, List.any_cons, Bool.or_assoc]
/-- What the seen sets are where the numbers are cells; elsewhere nothing. -/
def seenAt (w h o g : Int) : Nat := if isCell w h g = true then seenBits w h o g else 0
theorem seenAt_lt (w h o g : Int) : seenAt w h o g < 2 ^ 16 := by
  unfold seenAt
  split
  · rename_i hc
    exact seenBits_lt hc
  · decide
theorem suf_at (w h o : Int) : ∀ (m : Nat) (f : Int), 0 ≤ f → f + m ≤ cells w h → sufOf (fun g => seenBits w h o g) m f = sufOf (fun g => seenAt w h o g) m f
  | 0, f, _, _ => rfl
  | m + 1, f, h0, h1 => by
    unfold sufOf
    rw [suf_at w h o m (f + 1) (by omega) (by omega)]
    congr 2
    unfold seenAt
    rw [if_pos (by unfold isCell; exact decide_eq_true ⟨h0, by omega⟩)]
/-- The list that FewestGuards finds: it is guarded, and without any one of its cells it is not. -/
theorem fewest_is (K : Nat) (hK : 400 ≤ K) (w h o : Int) (hm : mazeOk w h o = true) : ∃ r : List Int, impl_FewestGuards.f K w h o = some r ∧ 1 ≤ r.length ∧ r.length ≤ 16 ∧ guarded w h o r = true ∧ ∀ k : Nat, k < r.length → guarded w h o (r.take k ++ r.drop (k + 1)) = false := by
  have hg := (mazeOk_ok hm).1
  have hc := cells_pos hg
  have hr := cells_range w h
  obtain ⟨n, h1, h2, h3, h4, h5⟩ := found w h o hc ((cells w h).toNat - 1) (K - (cells w h).toNat - 1) 1 (by omega) (by omega) rfl (by omega)
  have hI := iFew_go w h o hm (cells w h).toNat K 0 (by omega) (by omega) (by omega)
  rw [List.take_zero, show ((0 : Nat) : Int) = 0 from rfl] at hI
  rw [show ((1 : Nat) : Int) = 1 from rfl] at h3
  obtain ⟨F, hF, hF1, hFb⟩ := full_nat w h
  have hF2 : F < 2 ^ 16 := lt_of_bits fun i hi => by rw [hFb]; exact decide_eq_false (by omega)
  have hsuf : setsI w h o = sufOf (fun g => seenAt w h o g) (cells w h).toNat 0 := by rw [setsI_suf, suf_at w h o _ _ (by omega) (by omega)]
  rw [hF, hsuf] at h4 h5
  rw [hF] at h3
  have hs := gd_sound (fun g => seenAt w h o g) (seenAt_lt w h o) _ 0 n F hF2 h4
  rw [← hsuf] at hs
  obtain ⟨s1, s2, s3, s4⟩ := hs
  generalize (gd 0 (setsI w h o) n (F : Int)).1 = r at h3 s1 s2 s3 s4
  have hcell : ∀ g ∈ r, isCell w h g = true := fun g hg => by
    have := s3 g hg
    unfold isCell
    exact decide_eq_true ⟨by omega, by omega⟩
  have hat : ∀ g, isCell w h g = true → seenAt w h o g = seenBits w h o g := fun g hg => by unfold seenAt; rw [if_pos hg]
  refine ⟨r, ?_, by omega, by omega, ?_, ?_⟩
  · unfold impl_FewestGuards.f
    rw [iMazeOk]
    simp only [Option.bind_some]
    rw [if_pos hm, hI, h3]
  · unfold guarded
    rw [hm, Bool.true_and, Bool.and_eq_true]
    refine ⟨List.all_eq_true.2 hcell, ?_⟩
    rw [hF, beq_iff_eq]
    congr 1
    apply Nat.eq_of_testBit_eq
    intro i
    rw [testBit_guard, Nat.zero_testBit, Bool.false_or, Bool.eq_iff_iff, List.any_eq_true]
    constructor
    · rintro ⟨g, hg, hb⟩
      rw [testBit_seen (hcell g hg)] at hb
      rw [hFb]
      have := cell_lt (seenL_cell (hcell g hg) _ (of_decide_eq_true hb))
      exact decide_eq_true (by omega)
    · intro hb
      obtain ⟨g, hg, hbit⟩ := s4 i hb
      exact ⟨g, hg, by rw [← hat g (hcell g hg)]; exact hbit⟩
  · intro k hk
    cases hgu : guarded w h o (r.take k ++ r.drop (k + 1)) with
    | false => rfl
    | true =>
      exfalso
      have hsub : (r.take k ++ r.drop (k + 1)).Sublist r := by
        have e : r = r.take k ++ (r[k] :: r.drop (k + 1)) := by rw [← List.drop_eq_getElem_cons hk, List.take_append_drop]
        conv => rhs; rw [e]
        exact (List.Sublist.refl _).append (List.sublist_cons_self _ _)
      have hlen : (r.take k ++ r.drop (k + 1)).length = n - 1 := by
        rw [List.length_append, List.length_take, List.length_drop]
        omega
      unfold guarded at hgu
      rw [hm, Bool.true_and, Bool.and_eq_true, hF, beq_iff_eq] at hgu
      have hcov : cov (fun g => seenAt w h o g) F (r.take k ++ r.drop (k + 1)) := by
        intro i hi
        have e : guardBits w h o 0 (r.take k ++ r.drop (k + 1)) = F := by omega
        rw [← e, testBit_guard, Nat.zero_testBit, Bool.false_or, List.any_eq_true] at hi
        obtain ⟨g, hg, hb⟩ := hi
        exact ⟨g, hg, by show (seenAt w h o g).testBit i = true; rw [hat g (hcell g (hsub.subset hg))]; exact hb⟩
      by_cases e1 : n = 1
      · rw [show r.take k ++ r.drop (k + 1) = [] from List.length_eq_zero_iff.1 (by omega)] at hcov
        have := zero_of_cov hcov
        have hb := hFb 0
        rw [this, Nat.zero_testBit] at hb
        have := decide_eq_true (show 0 < (cells w h).toNat by omega)
        rw [this] at hb
        simp at hb
      · have := gd_complete (fun g => seenAt w h o g) (seenAt_lt w h o) (cells w h).toNat 0 (n - 1) F _ hF2 hlen (s2.sublist hsub) (fun g hg => s3 g (hsub.subset hg)) hcov
        rw [h5 (n - 1) (by omega) (by omega)] at this
        simp at this
end Go.Proofs.Ytmcllgonjlapoaa.L
