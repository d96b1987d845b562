/- The whole walk with marks: the program and the reference walk the same. -/
import Derived.Test.YtdloifaaoiollacXimplMostMarks
import Derived.Test.YtdloifaaoiollacXimplTremauxFinds
import Derived.Test.YtdloifaaoiollacXimplTremauxWalk
import Derived.Test.YtdloifaaoiollacLTremaux
import Derived.Test.YtdloifaaoiollacLWays
namespace Go.Proofs.Ytdloifaaoiollac.L
open Go.RowKit Go.Proofs.Ytdloifaaoiollac.X Go.Proofs.YtdloifaaoiollacW.PrintWords Go.Proofs.YtdloifaaoiollacW.PrintLast Go.Proofs.YtdloifaaoiollacW.PrintMore
set_option linter.unusedSimpArgs false
set_option linter.unusedVariables false

theorem mk_step {w h o c d : Int} {l : List Int} (z : 0 ≤ mk w h o c l d) : 0 ≤ step w h o c d := by
  by_cases y : step w h o c d < 0
  · unfold mk at z; rw [if_pos y] at z; omega
  · omega
theorem dirT_step {w h o c f : Int} {l : List Int} (z : 0 ≤ dirT w h o c f l) : 0 ≤ step w h o c (dirT w h o c f l) ∧ dirT w h o c f l ≤ 3 := by
  by_cases a : mk w h o c l ((f + 2) % 4) = 1 ∧ oldB w h o c f l = true
  · have hd : dirT w h o c f l = (f + 2) % 4 := by unfold dirT; rw [if_pos a]
    rw [hd]
    exact ⟨mk_step (l := l) (by omega), by omega⟩
  · have hd : dirT w h o c f l = if 0 ≤ firstT w h o c f l 0 [1, 0, 3] then firstT w h o c f l 0 [1, 0, 3] else firstT w h o c f l 1 [1, 0, 3, 2] := by unfold dirT; rw [if_neg a]
    rw [hd] at z ⊢
    by_cases b : 0 ≤ firstT w h o c f l 0 [1, 0, 3]
    · rw [if_pos b]
      rcases firstT_some w h o c f l 0 [1, 0, 3] with e | e
      · omega
      · exact ⟨mk_step (l := l) (by omega), e.2.1⟩
    · rw [if_neg b] at z ⊢
      rcases firstT_some w h o c f l 1 [1, 0, 3, 2] with e | e
      · omega
      · exact ⟨mk_step (l := l) (by omega), e.2.1⟩
theorem step_walker {w h o c d : Int} (hs : 0 ≤ step w h o c d) (h0 : 0 ≤ d) (h3 : d ≤ 3) : walkerOk w h o (step w h o c d) d = true := by
  rcases step_range w h o c d with e | ⟨hm, _, hc, _⟩
  · omega
  · unfold walkerOk has
    rw [hm, hc]
    have : 0 ≤ d ∧ d ≤ 3 := ⟨h0, h3⟩
    simp [this]
theorem tstep_ok {w h o c f : Int} {l : List Int} (z : (tstep w h o c f l).2.2 = true) :
    walkerOk w h o (tstep w h o c f l).1 (tstep w h o c f l).2.1 = true ∧ marksOk w h l = true ∧ 0 ≤ gapAt w h c (tstep w h o c f l).2.1 ∧ gapAt w h c (tstep w h o c f l).2.1 < gaps w h ∧ 0 ≤ step w h o c (tstep w h o c f l).2.1 ∧ (tstep w h o c f l).1 = step w h o c (tstep w h o c f l).2.1 := by
  unfold tstep at z ⊢
  by_cases a : walkerOk w h o c f = true ∧ marksOk w h l = true
  · rw [if_pos a] at z ⊢
    by_cases b : dirT w h o c f l < 0
    · rw [if_pos b] at z
      cases z
    · rw [if_neg b] at z ⊢
      have hd := dirT_step (w := w) (h := h) (o := o) (c := c) (f := f) (l := l) (by omega)
      have hg := step_gap hd.1
      exact ⟨step_walker hd.1 (by omega) hd.2, a.2, hg.1, hg.2, hd.1, rfl⟩
  · rw [if_neg a] at z
    cases z
def twalk (w h o : Int) : Nat → List Int → List Int → Int → Int → List Int × List Int
  | 0, cells, marks, _, _ => (cells, marks)
  | n + 1, cells, marks, c, f =>
    if (tstep w h o c f marks).2.2 = true then
      twalk w h o n (cells ++ [(tstep w h o c f marks).1]) (marks.set (gapAt w h c (tstep w h o c f marks).2.1).toNat (rd marks (gapAt w h c (tstep w h o c f marks).2.1) + 1)) (tstep w h o c f marks).1 (tstep w h o c f marks).2.1
    else (cells, marks)
theorem twalk_stop {w h o c f : Int} {marks : List Int} (z : ¬ (tstep w h o c f marks).2.2 = true) (n : Nat) (cells : List Int) : twalk w h o n cells marks c f = (cells, marks) := by
  cases n with
  | zero => rfl
  | succ n => rw [twalk, if_neg z]
theorem twalk_length (w h o : Int) : ∀ (n : Nat) (cells marks : List Int) (c f : Int), (twalk w h o n cells marks c f).1.length ≤ cells.length + n ∧ (twalk w h o n cells marks c f).2.length = marks.length
  | 0, cells, marks, c, f => ⟨by simp [twalk], rfl⟩
  | n + 1, cells, marks, c, f => by
    rw [twalk]
    split
    · have := twalk_length w h o n (cells ++ [(tstep w h o c f marks).1]) (marks.set (gapAt w h c (tstep w h o c f marks).2.1).toNat (rd marks (gapAt w h c (tstep w h o c f marks).2.1) + 1)) (tstep w h o c f marks).1 (tstep w h o c f marks).2.1
      simp only [List.length_append, List.length_singleton, List.length_set] at this
      exact ⟨by omega, this.2⟩
    · exact ⟨by simp, rfl⟩
def zeros (n : Int) : List Int := List.replicate n.toNat 0
def tremaux (w h o a : Int) : List Int × List Int :=
  if has w h o a = true then
    (if (ways w h o a).length = 0 then ([a], zeros (gaps w h))
     else twalk w h o 199 [a, step w h o a (rd (ways w h o a) 0)] ((zeros (gaps w h)).set (gapAt w h a (rd (ways w h o a) 0)).toNat 1) (step w h o a (rd (ways w h o a) 0)) (rd (ways w h o a) 0))
  else ([], [])
theorem ways_first {w h o a : Int} (z : ¬ (ways w h o a).length = 0) : 0 ≤ step w h o a (rd (ways w h o a) 0) ∧ 0 ≤ rd (ways w h o a) 0 ∧ rd (ways w h o a) 0 ≤ 3 := by
  have hm := rd_memL (l := ways w h o a) (i := 0) (by omega) (by omega)
  unfold ways at hm
  rw [List.mem_filter] at hm
  have h1 := hm.1
  have h2 := of_decide_eq_true hm.2
  simp only [List.mem_cons, List.not_mem_nil, or_false] at h1
  exact ⟨h2, by unfold ways; omega, by unfold ways; omega⟩
theorem tremaux_length (w h o a : Int) : (tremaux w h o a).1.length ≤ 201 ∧ (tremaux w h o a).2.length ≤ 24 := by
  have hr := gaps_range w h
  unfold tremaux
  split
  · split
    · exact ⟨by simp, by simp [zeros]; omega⟩
    · have := twalk_length w h o 199 [a, step w h o a (rd (ways w h o a) 0)] ((zeros (gaps w h)).set (gapAt w h a (rd (ways w h o a) 0)).toNat 1) (step w h o a (rd (ways w h o a) 0)) (rd (ways w h o a) 0)
      simp only [List.length_set, zeros, List.length_replicate, List.length_cons, List.length_nil] at this
      exact ⟨by simpa [zeros] using this.1, by simp only [zeros]; omega⟩
  · exact ⟨by simp, by simp⟩
theorem rd_set_mark {l : List Int} {g : Int} (h0 : 0 ≤ g) (h1 : g < (l.length : Int)) (hm : ∀ n ∈ l, 0 ≤ n ∧ n ≤ 2) : 0 ≤ rd l g ∧ rd l g ≤ 2 := hm _ (rd_memL h0 h1)
theorem iTWalk_go (w h o : Int) : ∀ (n k : Nat) (c f : Int) (cells marks : List Int), 201 - (cells.length : Int) = n → 2 * n + 80 ≤ k → (marks.length : Int) = gaps w h →
    impl_TremauxWalk.l0 k cells marks (tstep w h o c f marks).2.2 c w h o (tstep w h o c f marks).1 (tstep w h o c f marks).2.1 = some (twalk w h o n cells marks c f) := by
  have hr := gaps_range w h
  intro n
  induction n with
  | zero =>
    intro k c f cells marks hc hk hl
    obtain ⟨k, rfl⟩ : ∃ m, k = m + 2 := ⟨k - 2, by omega⟩
    simp only [impl_TremauxWalk.l0, impl_TremauxWalk.j1]
    have e : ¬ (cells.length : Int) ≤ 200 := by omega
    simp [e, twalk]
  | succ n ih =>
    intro k c f cells marks hc hk hl
    obtain ⟨k, rfl⟩ : ∃ m, k = m + 2 := ⟨k - 2, by omega⟩
    simp only [impl_TremauxWalk.l0, impl_TremauxWalk.j1]
    rw [twalk]
    by_cases z : (tstep w h o c f marks).2.2 = true
    · have q := tstep_ok z
      have p := marksOk_parts q.2.1
      have b := rd_set_mark q.2.2.1 (show _ < (marks.length : Int) by omega) p.2
      have e : (cells.length : Int) ≤ 200 := by omega
      rw [if_pos z, if_pos z]
      simp only [e, decide_true, if_true]
      rw [iGapAt k w h c _ (by omega)]
      simp only [Option.bind_some]
      rw [if_pos q.2.2.1, if_pos (by omega), w64 (x := rd marks _ + 1) (by omega) (by omega), if_pos (by omega), iTremauxStep k w h o _ _ _ (by omega)]
      simp only [Option.bind_some]
      exact ih k _ _ _ _ (by simp; omega) (by omega) (by simpa using hl)
    · rw [if_neg z, if_neg z]
      simp
theorem iTremauxWalk (k : Nat) (w h o a : Int) (hk : 600 ≤ k) : impl_TremauxWalk.f k w h o a = some (tremaux w h o a) := by
  have hr := gaps_range w h
  obtain ⟨k, rfl⟩ : ∃ m, k = m + 2 := ⟨k - 2, by omega⟩
  unfold impl_TremauxWalk.f tremaux
  rw [iisIn1, iCountGaps, iWaysFrom (k + 2) w h o a (by omega)]
  simp only [Option.bind_some]
  by_cases z : has w h o a = true
  · rw [if_pos z, if_pos z, if_pos hr.1, if_pos (by omega)]
    by_cases y : (ways w h o a).length = 0
    · rw [if_pos (by omega), if_pos y]
      rfl
    · have q := ways_first y
      have g := step_gap q.1
      have e0 : rd (List.replicate (gaps w h).toNat 0) (gapAt w h a (rd (ways w h o a) 0)) = 0 := by
        have := rd_memL (l := List.replicate (gaps w h).toNat 0) g.1 (by simp; omega)
        exact List.eq_of_mem_replicate this
      rw [if_neg (by omega), if_neg y, if_pos (by omega), imarked (k + 2) w h o a 0 _ (by omega)]
      simp only [Option.bind_some, impl_TremauxWalk.l0, impl_TremauxWalk.j1, if_true]
      rw [iGapAt k w h a _ (by omega)]
      simp only [List.length_singleton, Option.bind_some]
      rw [if_pos (by simp), if_pos g.1, if_pos (by simp; omega), if_pos (by decide), e0, show wrap64 (0 + 1) = 1 from w64 (by omega) (by omega), iTremauxStep k w h o _ _ _ (by omega)]
      simp only [Option.bind_some]
      refine iTWalk_go w h o 199 k (step w h o a (rd (ways w h o a) 0)) (rd (ways w h o a) 0) [a, step w h o a (rd (ways w h o a) 0)] ((zeros (gaps w h)).set (gapAt w h a (rd (ways w h o a) 0)).toNat 1) (by simp) (by omega) ?_
      simp [zeros]
      omega
  · rw [if_neg z, if_neg z]
def most (l : List Int) (x : Int) : Int := l.foldl mx x
theorem iMost_go (l : List Int) (hl : l.length ≤ 1000) : ∀ (d k : Nat) (i x : Int), 0 ≤ i → i ≤ (l.length : Int) → (l.length : Int) - i = d → d < k → impl_MostMarks.l0 k x l (l.length : Int) i = some (most (l.drop i.toNat) x) := by
  intro d
  induction d with
  | zero =>
    intro k i x h0 h1 hd hk
    obtain ⟨k, rfl⟩ := kpos hk
    simp only [impl_MostMarks.l0]
    rw [if_neg (by omega), List.drop_of_length_le (by omega)]
    rfl
  | succ d ih =>
    intro k i x h0 h1 hd hk
    obtain ⟨k, rfl⟩ := kpos hk
    simp only [impl_MostMarks.l0]
    rw [if_pos (by omega), if_pos h0, if_pos (by omega), w64 (by omega) (by omega), ih k (i + 1) _ (by omega) (by omega) (by omega) (by omega), drop_cons h0 (by omega)]
    rfl
theorem iMostMarks (k : Nat) (w h o a : Int) (hk : 600 ≤ k) : impl_MostMarks.f k w h o a = some (most (tremaux w h o a).2 0) := by
  have hl := tremaux_length w h o a
  unfold impl_MostMarks.f
  rw [iTremauxWalk k w h o a hk]
  simp only [Option.bind_some]
  rw [iMost_go _ (by omega) (tremaux w h o a).2.length k 0 0 (by omega) (by omega) (by omega) (by omega)]
  simp
theorem iTremauxFinds (k : Nat) (w h o a b : Int) (hk : 600 ≤ k) : impl_TremauxFinds.f k w h o a b = some (decide (b ∈ (tremaux w h o a).1)) := by
  have hl := tremaux_length w h o a
  unfold impl_TremauxFinds.f
  rw [iTremauxWalk k w h o a hk]
  simp only [Option.bind_some]
  rw [Contains k _ b (by omega) (by omega)]
  rfl
end Go.Proofs.Ytdloifaaoiollac.L
