/- Sights: the same back; no cell twice. -/
import Derived.Test.YtmcllgonjlapoaaXimplSightFrom
import Derived.Test.YtmcllgonjlapoaaLSee
namespace Go.Proofs.Ytmcllgonjlapoaa.L
open Go.RowKit Go.Proofs.Ytmcllgonjlapoaa.X Go.Proofs.YtmcllgonjlapoaaW.PrintWords Go.Proofs.YtmcllgonjlapoaaW.PrintLast Go.Proofs.YtmcllgonjlapoaaW.PrintMore
set_option linter.unusedSimpArgs false
set_option linter.unusedVariables false

def nums16 : List Int := [0, 1, 2, 3, 4, 5, 6, 7, 8, 9, 10, 11, 12, 13, 14, 15]
theorem in16 {c : Int} (h0 : 0 ≤ c) (h1 : c ≤ 15) : c ∈ nums16 := by
  have : c = 0 ∨ c = 1 ∨ c = 2 ∨ c = 3 ∨ c = 4 ∨ c = 5 ∨ c = 6 ∨ c = 7 ∨ c = 8 ∨ c = 9 ∨ c = 10 ∨ c = 11 ∨ c = 12 ∨ c = 13 ∨ c = 14 ∨ c = 15 := by omega
  rcases this with rfl | rfl | rfl | rfl | rfl | rfl | rfl | rfl | rfl | rfl | rfl | rfl | rfl | rfl | rfl | rfl <;> decide
theorem in4 {w : Int} (h : w = 1 ∨ w = 2 ∨ w = 3 ∨ w = 4) : w ∈ ([1, 2, 3, 4] : List Int) := by rcases h with rfl | rfl | rfl | rfl <;> decide
theorem inD {d : Int} (h0 : 0 ≤ d) (h1 : d ≤ 3) : d ∈ ([0, 1, 2, 3] : List Int) := by
  have : d = 0 ∨ d = 1 ∨ d = 2 ∨ d = 3 := by omega
  rcases this with rfl | rfl | rfl | rfl <;> decide
theorem nb_rev_all : ∀ w ∈ ([1, 2, 3, 4] : List Int), ∀ h ∈ ([1, 2, 3, 4] : List Int), ∀ c ∈ nums16, ∀ d ∈ ([0, 1, 2, 3] : List Int), isCell w h c = true → 0 ≤ nb w h c d → nb w h (nb w h c d) ((d + 2) % 4) = c ∧ gapAt w h (nb w h c d) ((d + 2) % 4) = gapAt w h c d := by decide +kernel
theorem nb_rev {w h c d : Int} (hc : isCell w h c = true) (h0 : 0 ≤ d) (h3 : d ≤ 3) (hn : 0 ≤ nb w h c d) : nb w h (nb w h c d) ((d + 2) % 4) = c ∧ gapAt w h (nb w h c d) ((d + 2) % 4) = gapAt w h c d := by
  have h1 := isCell_ok hc
  have hg := grid_cases h1.1
  exact nb_rev_all w (in4 hg.1) h (in4 hg.2) c (in16 h1.2.1 h1.2.2.2) d (inD h0 h3) hc hn
theorem step_dirs {w h o c d : Int} (hs : 0 ≤ step w h o c d) : 0 ≤ d ∧ d ≤ 3 := by
  by_cases e : d < 0 ∨ 3 < d
  · rw [step_dir w h o c d e] at hs; omega
  · omega
theorem step_back {w h o c d : Int} (hs : 0 ≤ step w h o c d) : step w h o (step w h o c d) ((d + 2) % 4) = c := by
  have hd := step_dirs hs
  rcases step_range w h o c d with e | ⟨hm, hc, hc2, hnb, hg, hb⟩
  · omega
  · have hr := nb_rev hc hd.1 hd.2 (by omega)
    rw [← hnb]
    rw [step_eq _ _ _ _ _ hm, hr.2, hr.1]
    have p : 0 ≤ gapAt w h c d ∧ bit o (gapAt w h c d) = true := ⟨hg, hb⟩
    rw [if_pos p]
theorem step_neg {w h o c d : Int} (hc : c < 0) : step w h o c d = -1 := by
  rcases step_range w h o c d with e | ⟨_, hc2, _⟩
  · exact e
  · have := isCell_ok hc2; omega
/-- j steps on. -/
def it (w h o d : Int) : Nat → Int → Int
  | 0, c => c
  | j + 1, c => it w h o d j (step w h o c d)
theorem it_neg (w h o d : Int) : ∀ (j : Nat) (c : Int), c < 0 → it w h o d j c < 0
  | 0, c, h => h
  | j + 1, c, hc => by
    unfold it
    rw [step_neg hc]
    exact it_neg w h o d j (-1) (by omega)
theorem it_tail (w h o d : Int) : ∀ (j : Nat) (c : Int), it w h o d (j + 1) c = step w h o (it w h o d j c) d
  | 0, c => rfl
  | j + 1, c => by
    rw [it, it_tail w h o d j (step w h o c d)]
    rfl
theorem it_back (w h o d : Int) : ∀ (j : Nat) (c x : Int), it w h o d j c = x → 0 ≤ x → it w h o ((d + 2) % 4) j x = c
  | 0, c, x, e, _ => e.symm
  | j + 1, c, x, e, hx => by
    have h1 : it w h o d j (step w h o c d) = x := e
    have hy : 0 ≤ step w h o c d := by
      by_cases z : step w h o c d < 0
      · have := it_neg w h o d j _ z
        omega
      · omega
    rw [it_tail, it_back w h o d j _ x h1 hx]
    exact step_back hy
theorem mem_sightGo (w h o d x : Int) (hx : 0 ≤ x) : ∀ (n : Nat) (c : Int), x ∈ sightGo w h o d n c ↔ ∃ j, j < n ∧ it w h o d j c = x
  | 0, c => by simp [sightGo]
  | n + 1, c => by
    have ih := mem_sightGo w h o d x hx n (step w h o c d)
    unfold sightGo
    by_cases hc : 0 ≤ c
    · rw [if_pos hc, List.mem_cons, ih]
      constructor
      · rintro (e | ⟨j, h1, h2⟩)
        · exact ⟨0, by omega, e.symm⟩
        · exact ⟨j + 1, by omega, h2⟩
      · rintro ⟨j, h1, h2⟩
        cases j with
        | zero => exact .inl h2.symm
        | succ j => exact .inr ⟨j, by omega, h2⟩
    · rw [if_neg hc]
      constructor
      · intro z; simp at z
      · rintro ⟨j, h1, h2⟩
        have := it_neg w h o d j c (by omega)
        omega
theorem mem_sight {w h o c d x : Int} (hc : has w h o c = true) (hx : 0 ≤ x) : x ∈ sight w h o c d ↔ ∃ j, j < 17 ∧ it w h o d (j + 1) c = x := by
  unfold sight
  rw [if_pos hc, mem_sightGo w h o d x hx]
  rfl
theorem sight_back {w h o c d x : Int} (hc : has w h o c = true) (hd : 0 ≤ d ∧ d ≤ 3) (hm : x ∈ sight w h o c d) : c ∈ sight w h o x ((d + 2) % 4) := by
  have hxc := sight_cell w h o c d x hm
  have h2 := (has_parts hc)
  have hx : has w h o x = true := by unfold has; rw [h2.1, hxc]; rfl
  have hc0 := cell_lt h2.2
  have hx0 := cell_lt hxc
  obtain ⟨j, h1, e⟩ := (mem_sight hc hx0.1).1 hm
  exact (mem_sight hx hc0.1).2 ⟨j, h1, it_back w h o d (j + 1) c x e hx0.1⟩
theorem mem_seenL (w h o c x : Int) : x ∈ seenL w h o c ↔ x = c ∨ ∃ d, (0 ≤ d ∧ d ≤ 3) ∧ x ∈ sight w h o c d := by
  unfold seenL sights
  rw [List.mem_cons, List.mem_flatMap]
  constructor
  · rintro (e | ⟨d, hd, hm⟩)
    · exact .inl e
    · refine .inr ⟨d, ?_, hm⟩
      simp at hd
      omega
  · rintro (e | ⟨d, hd, hm⟩)
    · exact .inl e
    · exact .inr ⟨d, inD hd.1 hd.2, hm⟩
theorem seen_symm_one {w h o a b : Int} (ha : has w h o a = true) (hb : has w h o b = true) (hm : b ∈ seenL w h o a) : a ∈ seenL w h o b := by
  rcases (mem_seenL w h o a b).1 hm with e | ⟨d, hd, h2⟩
  · exact (mem_seenL w h o b a).2 (.inl e.symm)
  · exact (mem_seenL w h o b a).2 (.inr ⟨(d + 2) % 4, by omega, sight_back ha hd h2⟩)
theorem mem_seenC {w h o c : Int} (hc : has w h o c = true) (x : Int) : x ∈ seenC w h o c ↔ x ∈ seenL w h o c := by
  unfold seenC
  rw [if_pos hc, ord_mem]
theorem seen_symm {w h o a b : Int} (ha : has w h o a = true) (hb : has w h o b = true) : b ∈ seenC w h o a ↔ a ∈ seenC w h o b := by
  rw [mem_seenC ha, mem_seenC hb]
  exact ⟨seen_symm_one ha hb, seen_symm_one hb ha⟩
theorem seen_self {w h o a : Int} (ha : has w h o a = true) : a ∈ seenC w h o a := by
  rw [mem_seenC ha]
  exact List.mem_cons_self
/-- The cells from c on as far as the grid goes. -/
def rayGo (w h d : Int) : Nat → Int → List Int
  | 0, _ => []
  | n + 1, c => if 0 ≤ c then c :: rayGo w h d n (nb w h c d) else []
theorem sight_ray (w h o d : Int) : ∀ (n : Nat) (c c' : Int), c' = c ∨ c' < 0 → (sightGo w h o d n c').Sublist (rayGo w h d n c)
  | 0, _, _, _ => by simp [sightGo]
  | n + 1, c, c', hc => by
    by_cases h0 : 0 ≤ c'
    · have e : c' = c := by omega
      subst e
      unfold sightGo rayGo
      rw [if_pos h0, if_pos h0]
      refine List.Sublist.cons_cons _ (sight_ray w h o d n _ _ ?_)
      rcases step_range w h o c' d with e | ⟨_, _, _, e, _⟩
      · omega
      · omega
    · unfold sightGo
      rw [if_neg h0]
      exact List.nil_sublist _
def rays (w h c : Int) : List Int := c :: (rayGo w h 0 17 (nb w h c 0) ++ (rayGo w h 1 17 (nb w h c 1) ++ (rayGo w h 2 17 (nb w h c 2) ++ (rayGo w h 3 17 (nb w h c 3) ++ []))))
theorem rays_all : ∀ w ∈ ([1, 2, 3, 4] : List Int), ∀ h ∈ ([1, 2, 3, 4] : List Int), ∀ c ∈ nums16, isCell w h c = true → (rays w h c).Nodup := by decide +kernel
theorem seenL_nodup {w h o c : Int} (hc : has w h o c = true) : (seenL w h o c).Nodup := by
  have h1 := isCell_ok (has_parts hc).2
  have hg := grid_cases h1.1
  have hn := rays_all w (in4 hg.1) h (in4 hg.2) c (in16 h1.2.1 h1.2.2.2) (has_parts hc).2
  have hs : ∀ d, (sight w h o c d).Sublist (rayGo w h d 17 (nb w h c d)) := by
    intro d
    unfold sight
    rw [if_pos hc]
    refine sight_ray w h o d 17 _ _ ?_
    rcases step_range w h o c d with e | ⟨_, _, _, e, _⟩
    · omega
    · omega
  refine List.Sublist.nodup ?_ hn
  unfold seenL sights rays
  simp only [List.flatMap_cons, List.flatMap_nil]
  exact List.Sublist.cons_cons _ ((hs 0).append ((hs 1).append ((hs 2).append ((hs 3).append (List.Sublist.refl _)))))
theorem seenC_len {w h o c : Int} (hc : has w h o c = true) : (seenC w h o c).length = 1 + (sight w h o c 0).length + (sight w h o c 1).length + (sight w h o c 2).length + (sight w h o c 3).length := by
  have e := (ord_length (seenL w h o c)).2 (seenL_nodup hc)
  unfold seenC
  rw [if_pos hc, e]
  unfold seenL sights
  simp only [List.flatMap_cons, List.flatMap_nil, List.length_cons, List.length_append, List.length_nil]
  omega
end Go.Proofs.Ytmcllgonjlapoaa.L
