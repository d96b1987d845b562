/- What is seen from a cell: as a list in order, and as a set of bits. -/
import Derived.Test.YtmcllgonjlapoaaXimplIsGuarded
import Derived.Test.YtmcllgonjlapoaaXimplSeenFrom
import Derived.Test.YtmcllgonjlapoaaXimplSeesEach
import Derived.Test.YtmcllgonjlapoaaXimplseen
import Derived.Test.YtmcllgonjlapoaaXspecIsGuarded
import Derived.Test.YtmcllgonjlapoaaXspecSeenFrom
import Derived.Test.YtmcllgonjlapoaaXspecSeesEach
import Derived.Test.YtmcllgonjlapoaaXspecl25Seen
import Derived.Test.YtmcllgonjlapoaaLSight
import Derived.Test.YtmcllgonjlapoaaLOrs
namespace Go.Proofs.Ytmcllgonjlapoaa.L
open Go.RowKit Go.Proofs.Ytmcllgonjlapoaa.X Go.Proofs.YtmcllgonjlapoaaW.PrintWords Go.Proofs.YtmcllgonjlapoaaW.PrintLast Go.Proofs.YtmcllgonjlapoaaW.PrintMore
set_option linter.unusedSimpArgs false
set_option linter.unusedVariables false

/-- The bits of a list's numbers, beside those of s. -/
theorem sightGo_cell (w h o d : Int) : ∀ (n : Nat) (c : Int), (0 ≤ c → isCell w h c = true) → ∀ x ∈ sightGo w h o d n c, isCell w h x = true := by
  intro n
  induction n with
  | zero => intro c _ x hx; simp [sightGo] at hx
  | succ n ih =>
    intro c hc x hx
    unfold sightGo at hx
    split at hx
    · rename_i h0
      rcases List.mem_cons.1 hx with e | e
      · rw [e]; exact hc h0
      · refine ih _ (fun h1 => ?_) x e
        rcases step_range w h o c d with e2 | ⟨_, _, e2, _⟩
        · omega
        · exact e2
    · simp at hx
theorem sight_cell (w h o c d : Int) : ∀ x ∈ sight w h o c d, isCell w h x = true := by
  intro x hx
  unfold sight at hx
  split at hx
  · refine sightGo_cell w h o d 17 _ (fun h1 => ?_) x hx
    rcases step_range w h o c d with e2 | ⟨_, _, e2, _⟩
    · omega
    · exact e2
  · simp at hx
def sights (w h o c : Int) (ds : List Int) : List Int := ds.flatMap (sight w h o c)
def seenL (w h o c : Int) : List Int := c :: sights w h o c [0, 1, 2, 3]
theorem sights_cell (w h o c : Int) (ds : List Int) : ∀ x ∈ sights w h o c ds, isCell w h x = true := by
  intro x hx
  obtain ⟨d, _, h2⟩ := List.mem_flatMap.1 hx
  exact sight_cell w h o c d x h2
theorem seenL_cell {w h o c : Int} (hc : isCell w h c = true) : ∀ x ∈ seenL w h o c, isCell w h x = true := by
  intro x hx
  rcases List.mem_cons.1 hx with e | e
  · rw [e]; exact hc
  · exact sights_cell _ _ _ _ _ x e
theorem sights_length (w h o c : Int) : ∀ ds : List Int, (sights w h o c ds).length ≤ 17 * ds.length
  | [] => by simp [sights]
  | d :: ds => by
    have h1 := sights_length w h o c ds
    have h2 := sight_length w h o c d
    unfold sights at h1 ⊢
    rw [List.flatMap_cons, List.length_append, List.length_cons]
    omega
def seenBits (w h o c : Int) : Nat := orL 0 (seenL w h o c)
theorem seenBits_lt {w h o c : Int} (hc : isCell w h c = true) : seenBits w h o c < 2 ^ 16 := orL_lt _ _ (by decide) (fun x hx => by have := cell_lt (seenL_cell hc x hx); omega)
theorem testBit_seen {w h o c : Int} (hc : isCell w h c = true) (i : Nat) : (seenBits w h o c).testBit i = decide ((i : Int) ∈ seenL w h o c) := by
  unfold seenBits
  rw [testBit_orL _ _ _ (fun x hx => (cell_lt (seenL_cell hc x hx)).1)]
  simp
/-- The cells that are seen, in order. -/
def seenC (w h o c : Int) : List Int := if has w h o c = true then ord (seenL w h o c) else []
theorem iSeen_go (w h o c : Int) : ∀ (n k : Nat) (acc : List Int) (d : Int), 0 ≤ d → d ≤ 4 → 4 - d = n → n + 31 ≤ k → acc.length + 17 * n ≤ 1000 →
    impl_SeenFrom.l0 k c acc d w h o = some (ord (acc ++ sights w h o c (([0, 1, 2, 3] : List Int).drop d.toNat))) := by
  intro n
  induction n with
  | zero =>
    intro k acc d h0 h4 hn hk ha
    obtain ⟨k, rfl⟩ : ∃ m, k = m + 1 := ⟨k - 1, by omega⟩
    have hd : d = 4 := by omega
    subst hd
    unfold impl_SeenFrom.l0
    rw [if_neg (by omega), iOrdered acc (by omega)]
    simp [sights]
  | succ n ih =>
    intro k acc d h0 h4 hn hk ha
    obtain ⟨k, rfl⟩ : ∃ m, k = m + 1 := ⟨k - 1, by omega⟩
    have hl := sight_length w h o c d
    unfold impl_SeenFrom.l0
    rw [if_pos (by omega), iSight k w h o c d (by omega), drop_dirs d h0 (by omega)]
    simp only [Option.bind_some]
    rw [if_pos (by omega), w64 (by omega) (by omega), ih k _ (d + 1) (by omega) (by omega) (by omega) (by omega) (by rw [List.length_append]; omega)]
    simp [sights]
theorem iSeenFrom (k : Nat) (w h o c : Int) (hk : 35 ≤ k) : impl_SeenFrom.f k w h o c = some (seenC w h o c) := by
  unfold impl_SeenFrom.f seenC
  rw [iisIn1]
  simp only [Option.bind_some]
  by_cases h1 : has w h o c = true
  · rw [if_pos h1, if_pos h1, iSeen_go w h o c 4 k _ 0 (by omega) (by omega) (by omega) (by omega) (by simp)]
    rfl
  · rw [if_neg h1, if_neg h1]
theorem sSeen_l1 (w h o c d : Int) (l : List Int) (hl : l.length ≤ 1000) (hc : ∀ x ∈ l, 0 ≤ x ∧ x ≤ 15) : ∀ (n k : Nat) (i : Int) (s : Nat), 0 ≤ i → i ≤ (l.length : Int) → (l.length : Int) - i = n → s < 2 ^ 16 →
    spec_l25Seen.l1 (k + n + 1) c s d l i w h o = spec_l25Seen.l0 k c (orL s (l.drop i.toNat)) (wrap64 (d + 1)) w h o := by
  intro n
  induction n with
  | zero =>
    intro k i s h0 h1 hn hs
    have hi : i = l.length := by omega
    subst hi
    rw [Nat.add_zero]
    unfold spec_l25Seen.l1
    rw [if_neg (by omega), Int.toNat_natCast, List.drop_length]
    rfl
  | succ n ih =>
    intro k i s h0 h1 hn hs
    have hlt : i < (l.length : Int) := by omega
    have hx := hc _ (rd_memL h0 hlt)
    rw [show k + (n + 1) + 1 = (k + n + 1) + 1 by omega]
    unfold spec_l25Seen.l1
    rw [if_pos hlt, if_pos h0, if_pos hx.1, or_step s _ hs hx.1 hx.2, w64 (by omega) (by omega), ih k (i + 1) _ (by omega) (by omega) (by omega) (or_step_lt s _ hs hx.2), drop_cons h0 hlt]
    rfl
theorem sSeen_go (w h o c : Int) : ∀ (n k : Nat) (s : Nat) (d : Int), 0 ≤ d → d ≤ 4 → 4 - d = n → 20 * n + 31 ≤ k → s < 2 ^ 16 →
    spec_l25Seen.l0 k c s d w h o = some ((orL s (sights w h o c (([0, 1, 2, 3] : List Int).drop d.toNat)) : Nat) : Int) := by
  intro n
  induction n with
  | zero =>
    intro k s d h0 h4 hn hk hs
    obtain ⟨k, rfl⟩ : ∃ m, k = m + 1 := ⟨k - 1, by omega⟩
    have hd : d = 4 := by omega
    subst hd
    unfold spec_l25Seen.l0
    rw [if_neg (by omega)]
    simp [sights, orL]
  | succ n ih =>
    intro k s d h0 h4 hn hk hs
    have hl := sight_length w h o c d
    obtain ⟨k, rfl⟩ : ∃ m, k = (m + (sight w h o c d).length + 1) + 1 := ⟨k - 2 - (sight w h o c d).length, by omega⟩
    have hc : ∀ x ∈ sight w h o c d, 0 ≤ x ∧ x ≤ 15 := fun x hx => by have := cell_lt (sight_cell w h o c d x hx); omega
    unfold spec_l25Seen.l0
    rw [if_pos (by omega), sSight _ w h o c d (by omega), drop_dirs d h0 (by omega)]
    simp only [Option.bind_some]
    rw [sSeen_l1 w h o c d _ (by omega) hc (sight w h o c d).length k 0 s (by omega) (by omega) (by omega) hs, w64 (by omega) (by omega), Int.toNat_zero, List.drop_zero, ih k _ (d + 1) (by omega) (by omega) (by omega) (by omega) (orL_lt _ _ hs hc)]
    simp [sights, orL_append]
theorem sSeenBits (k : Nat) (w h o c : Int) (hc : isCell w h c = true) (hk : 120 ≤ k) : spec_l25Seen.f k w h o c = some (seenBits w h o c : Int) := by
  have h1 := cell_lt hc
  unfold spec_l25Seen.f
  rw [if_pos h1.1, shl_one h1.1 (by omega), pow_cast, sSeen_go w h o c 4 k _ 0 (by omega) (by omega) (by omega) (by omega) (Nat.pow_lt_pow_right (by decide) (by omega))]
  simp [seenBits, seenL, orL]
theorem sSeenFrom_go (w h o : Int) (s : Nat) (hs : s < 2 ^ 16) (n : Nat) (hn : cells w h = n) : ∀ (d k i : Nat) (acc : List Int), i ≤ n → n - i = d → d + 5 ≤ k → acc.length + d ≤ 1000 →
    spec_SeenFrom.l0 k acc s i w h o = some (acc ++ (((List.range n).drop i).filter fun j => s.testBit j).map fun j : Nat => (j : Int)) := by
  have h16 := cells_range w h
  intro d
  induction d with
  | zero =>
    intro k i acc hi hd hk ha
    obtain ⟨k, rfl⟩ : ∃ m, k = m + 1 := ⟨k - 1, by omega⟩
    unfold spec_SeenFrom.l0
    rw [sCountCells]
    simp only [Option.bind_some]
    rw [if_neg (by omega), List.drop_eq_nil_of_le (by rw [List.length_range]; omega)]
    simp
  | succ d ih =>
    intro k i acc hi hd hk ha
    obtain ⟨k, rfl⟩ : ∃ m, k = m + 1 := ⟨k - 1, by omega⟩
    unfold spec_SeenFrom.l0
    rw [sCountCells]
    simp only [Option.bind_some]
    rw [if_pos (by omega), sBit _ _ (by omega) (by omega) (by omega) (by omega), range_drop (show i < n by omega), List.filter_cons]
    have e : bit (s : Int) (i : Int) = s.testBit i := by simp [bit]
    rw [e]
    simp only [Option.bind_some]
    by_cases b : s.testBit i = true
    · rw [if_pos b, if_pos b, if_pos (by omega), w64 (by omega) (by omega), show ((i : Int) + 1) = ((i + 1 : Nat) : Int) by omega, ih k (i + 1) _ (by omega) (by omega) (by omega) (by simp; omega)]
      simp
    · rw [if_neg b, if_neg b, w64 (by omega) (by omega), show ((i : Int) + 1) = ((i + 1 : Nat) : Int) by omega, ih k (i + 1) _ (by omega) (by omega) (by omega) (by omega)]
theorem sSeenFrom (k : Nat) (w h o c : Int) (hk : 130 ≤ k) : spec_SeenFrom.f k w h o c = some (seenC w h o c) := by
  unfold spec_SeenFrom.f seenC
  rw [sHas]
  simp only [Option.bind_some]
  by_cases h1 : has w h o c = true
  · have hc := (has_parts h1).2
    have hr := cells_range w h
    rw [if_pos h1, if_pos h1, sSeenBits k w h o c hc (by omega)]
    simp only [Option.bind_some]
    have := sSeenFrom_go w h o (seenBits w h o c) (seenBits_lt hc) (cells w h).toNat (cells_cast w h) (cells w h).toNat k 0 [] (by omega) (by omega) (by omega) (by simp; omega)
    rw [show ((0 : Nat) : Int) = 0 from rfl] at this
    rw [this, ord_range (cells w h).toNat _ (fun x hx => by have := cell_lt (seenL_cell hc x hx); omega)]
    simp only [List.drop_zero, List.nil_append]
    congr 2
    apply List.filter_congr
    intro j _
    exact testBit_seen hc j
  · rw [if_neg h1, if_neg h1]
theorem ord_len_le (l : List Int) : (ord l).length ≤ l.length := by
  have h := List.length_mergeSort (le := fun x y : Int => decide (x ≤ y)) l
  unfold ord Lib.compact Lib.compactUpTo
  rw [List.length_map]
  refine Nat.le_trans (List.length_filter_le _ _) ?_
  rw [List.length_range, h]
  exact Nat.le_refl _
theorem seenL_length (w h o c : Int) : (seenL w h o c).length ≤ 69 := by
  have := sights_length w h o c [0, 1, 2, 3]
  unfold seenL
  rw [List.length_cons]
  simp at this
  omega
theorem seenC_length (w h o c : Int) : (seenC w h o c).length ≤ 69 := by
  unfold seenC
  split
  · exact Nat.le_trans (ord_len_le _) (seenL_length w h o c)
  · simp
theorem iSeesEach (k : Nat) (w h o a b : Int) (hk : 100 ≤ k) : impl_SeesEach.f k w h o a b = some (decide (b ∈ seenC w h o a)) := by
  have hl := seenC_length w h o a
  unfold impl_SeesEach.f
  rw [iSeenFrom k w h o a (by omega)]
  simp only [Option.bind_some]
  rw [Contains k _ b (by omega) (by omega)]
  rfl
theorem sSeesEach (k : Nat) (w h o a b : Int) (hk : 130 ≤ k) : spec_SeesEach.f k w h o a b = some (decide (b ∈ seenC w h o a)) := by
  have hl := seenC_length w h o a
  unfold spec_SeesEach.f
  rw [sSeenFrom k w h o a (by omega)]
  simp only [Option.bind_some]
  rw [l07In k _ b (by omega) (by omega)]
  rfl
theorem iseen_go (l : List Int) (hl : l.length ≤ 1000) (hc : ∀ x ∈ l, 0 ≤ x ∧ x ≤ 15) : ∀ (n k : Nat) (i : Int) (s : Nat), 0 ≤ i → i ≤ (l.length : Int) → (l.length : Int) - i = n → n < k → s < 2 ^ 16 →
    impl_seen.l0 k s l (l.length : Int) i = some (orL s (l.drop i.toNat) : Int) := by
  intro n
  induction n with
  | zero =>
    intro k i s h0 h1 hn hk hs
    obtain ⟨k, rfl⟩ := kpos hk
    have hi : i = l.length := by omega
    subst hi
    unfold impl_seen.l0
    rw [if_neg (by omega), Int.toNat_natCast, List.drop_length]
    rfl
  | succ n ih =>
    intro k i s h0 h1 hn hk hs
    obtain ⟨k, rfl⟩ := kpos hk
    have hlt : i < (l.length : Int) := by omega
    have hx := hc _ (rd_memL h0 hlt)
    unfold impl_seen.l0
    rw [if_pos hlt, if_pos h0, if_pos hlt, if_pos hx.1, or_step s _ hs hx.1 hx.2, w64 (by omega) (by omega), ih k (i + 1) _ (by omega) (by omega) (by omega) (by omega) (or_step_lt s _ hs hx.2), drop_cons h0 hlt]
    rfl
theorem seenC_cell {w h o c : Int} : ∀ x ∈ seenC w h o c, isCell w h x = true := by
  intro x hx
  unfold seenC at hx
  split at hx
  · rename_i h1
    exact seenL_cell (has_parts h1).2 x ((ord_mem _ _).1 hx)
  · simp at hx
theorem iseen (k : Nat) (w h o c : Int) (hh : has w h o c = true) (hk : 100 ≤ k) : impl_seen.f k w h o c = some (seenBits w h o c : Int) := by
  have hl := seenC_length w h o c
  unfold impl_seen.f
  rw [iSeenFrom k w h o c (by omega)]
  simp only [Option.bind_some]
  have h1 : ∀ x ∈ seenC w h o c, 0 ≤ x ∧ x ≤ 15 := fun x hx => by have := cell_lt (seenC_cell x hx); omega
  have := iseen_go (seenC w h o c) (by omega) h1 (seenC w h o c).length k 0 0 (by omega) (by omega) (by omega) (by omega) (by decide)
  rw [show ((0 : Nat) : Int) = 0 from rfl] at this
  rw [this]
  congr 2
  apply Nat.eq_of_testBit_eq
  intro i
  rw [testBit_seen (has_parts hh).2]
  simp only [Int.toNat_zero, List.drop_zero]
  rw [testBit_orL _ _ _ (fun x hx => (h1 x hx).1)]
  have e : ((i : Int) ∈ seenC w h o c) ↔ ((i : Int) ∈ seenL w h o c) := by
    unfold seenC
    rw [if_pos hh, ord_mem]
  simp [e]
def guardBits (w h o : Int) (s : Nat) (l : List Int) : Nat := l.foldl (fun n g => n ||| seenBits w h o g) s
def guarded (w h o : Int) (l : List Int) : Bool := mazeOk w h o && (l.all (isCell w h) && ((guardBits w h o 0 l : Nat) : Int) == full w h)
theorem iGuard_go (w h o : Int) (hm : mazeOk w h o = true) (l : List Int) (hl : l.length ≤ 2000000) (hc : l.all (isCell w h) = true) : ∀ (n k : Nat) (i : Int) (s : Nat), 0 ≤ i → i ≤ (l.length : Int) → (l.length : Int) - i = n → n + 120 < k → s < 2 ^ 16 →
    impl_IsGuarded.l0 k s l (l.length : Int) i w h o = some (((guardBits w h o s (l.drop i.toNat) : Nat) : Int) == full w h) := by
  have hr := cells_range w h
  intro n
  induction n with
  | zero =>
    intro k i s h0 h1 hn hk hs
    obtain ⟨k, rfl⟩ := kpos hk
    have hi : i = l.length := by omega
    subst hi
    unfold impl_IsGuarded.l0
    rw [if_neg (by omega), iCountCells, Int.toNat_natCast, List.drop_length]
    simp only [Option.bind_some]
    rw [if_pos hr.1]
    rfl
  | succ n ih =>
    intro k i s h0 h1 hn hk hs
    obtain ⟨k, rfl⟩ := kpos hk
    have hlt : i < (l.length : Int) := by omega
    have hx := List.all_eq_true.1 hc _ (rd_memL h0 hlt)
    have hb := seenBits_lt (o := o) hx
    unfold impl_IsGuarded.l0
    rw [if_pos hlt, if_pos h0, if_pos hlt, iseen k w h o _ (by unfold has; rw [hm, hx]; rfl) (by omega)]
    simp only [Option.bind_some]
    rw [bits_or s _ (by omega) (by omega), w64 (by omega) (by omega), ih k (i + 1) _ (by omega) (by omega) (by omega) (by omega) (Nat.or_lt_two_pow hs hb), drop_cons h0 hlt]
    rfl
theorem iIsGuarded (k : Nat) (w h o : Int) (l : List Int) (hl : l.length ≤ 2000000) (hk : l.length + 125 ≤ k) : impl_IsGuarded.f k w h o l = some (guarded w h o l) := by
  unfold impl_IsGuarded.f guarded
  rw [iisIn]
  simp only [Option.bind_some]
  by_cases c : (mazeOk w h o && l.all (isCell w h)) = true
  · have c2 := Bool.and_eq_true .. ▸ c
    have := iGuard_go w h o c2.1 l hl c2.2 l.length k 0 0 (by omega) (by omega) (by omega) (by omega) (by decide)
    rw [show ((0 : Nat) : Int) = 0 from rfl] at this
    rw [if_pos c, this, c2.1, c2.2]
    rfl
  · rw [if_neg c]
    have c3 : (mazeOk w h o && l.all (isCell w h)) = false := by simpa using c
    rw [← Bool.and_assoc, c3]
    rfl
theorem sGuard_go (w h o : Int) (l : List Int) (hl : l.length ≤ 2000000) : ∀ (n k : Nat) (i : Int) (s : Nat), 0 ≤ i → i ≤ (l.length : Int) → (l.length : Int) - i = n → n + 130 < k → s < 2 ^ 16 →
    spec_IsGuarded.l0 k l s i w h o = some (mazeOk w h o && ((l.drop i.toNat).all (isCell w h) && ((guardBits w h o s (l.drop i.toNat) : Nat) : Int) == full w h)) := by
  have hr := cells_range w h
  intro n
  induction n with
  | zero =>
    intro k i s h0 h1 hn hk hs
    obtain ⟨k, rfl⟩ := kpos hk
    have hi : i = l.length := by omega
    subst hi
    unfold spec_IsGuarded.l0
    rw [if_neg (by omega), sMazeOk, Int.toNat_natCast, List.drop_length]
    simp only [Option.bind_some]
    by_cases m : mazeOk w h o = true
    · rw [if_pos m, sCountCells, m]
      simp only [Option.bind_some]
      rw [if_pos hr.1]
      rfl
    · rw [if_neg m]
      have m' : mazeOk w h o = false := by simpa using m
      rw [m']
      rfl
  | succ n ih =>
    intro k i s h0 h1 hn hk hs
    obtain ⟨k, rfl⟩ := kpos hk
    have hlt : i < (l.length : Int) := by omega
    unfold spec_IsGuarded.l0
    rw [if_pos hlt, if_pos h0, sHas, drop_cons h0 hlt]
    simp only [Option.bind_some]
    by_cases c : has w h o (rd l i) = true
    · have hx := (has_parts c).2
      have hb := seenBits_lt (o := o) hx
      rw [if_pos c, sSeenBits k w h o _ hx (by omega)]
      simp only [Option.bind_some]
      rw [bits_or s _ (by omega) (by omega), w64 (by omega) (by omega), ih k (i + 1) _ (by omega) (by omega) (by omega) (by omega) (Nat.or_lt_two_pow hs hb), List.all_cons, hx]
      rfl
    · rw [if_neg c, List.all_cons]
      unfold has at c
      cases hm : mazeOk w h o with
      | false => rfl
      | true =>
        rw [hm, Bool.true_and] at c
        have c' : isCell w h (rd l i) = false := by simpa using c
        rw [c']
        rfl
theorem sIsGuarded (k : Nat) (w h o : Int) (l : List Int) (hl : l.length ≤ 2000000) (hk : l.length + 135 ≤ k) : spec_IsGuarded.f k w h o l = some (guarded w h o l) := by
  unfold spec_IsGuarded.f guarded
  have := sGuard_go w h o l hl l.length k 0 0 (by omega) (by omega) (by omega) (by omega) (by decide)
  rw [show ((0 : Nat) : Int) = 0 from rfl] at this
  rw [this]
  rfl
end Go.Proofs.Ytmcllgonjlapoaa.L
