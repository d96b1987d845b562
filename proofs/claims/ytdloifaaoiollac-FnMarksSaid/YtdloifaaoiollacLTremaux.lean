/- A walker with marks: one step, and the whole walk. -/
import Derived.Test.YtdloifaaoiollacXimplTremauxStep
import Derived.Test.YtdloifaaoiollacXimplTremauxStep1
import Derived.Test.YtdloifaaoiollacXimplareMarks
import Derived.Test.YtdloifaaoiollacXimplmarked
import Derived.Test.YtdloifaaoiollacLStep
namespace Go.Proofs.Ytdloifaaoiollac.L
open Go.RowKit Go.Proofs.Ytdloifaaoiollac.X Go.Proofs.YtdloifaaoiollacW.PrintWords Go.Proofs.YtdloifaaoiollacW.PrintLast Go.Proofs.YtdloifaaoiollacW.PrintMore
set_option linter.unusedSimpArgs false
set_option linter.unusedVariables false

def isMark (n : Int) : Bool := decide (0 ≤ n ∧ n ≤ 2)
def marksOk (w h : Int) (l : List Int) : Bool := decide ((l.length : Int) = gaps w h) && l.all isMark
theorem marksOk_parts {w h : Int} {l : List Int} (z : marksOk w h l = true) : (l.length : Int) = gaps w h ∧ ∀ n ∈ l, 0 ≤ n ∧ n ≤ 2 := by
  unfold marksOk isMark at z
  simpa using z
/-- What stands on the passage in a direction; -1 where there is none. -/
def mk (w h o c : Int) (l : List Int) (d : Int) : Int := if step w h o c d < 0 then -1 else rd l (gapAt w h c d)
def firstT (w h o c f : Int) (l : List Int) (v : Int) : List Int → Int
  | [] => -1
  | t :: ts => if mk w h o c l ((f + t) % 4) = v then (f + t) % 4 else firstT w h o c f l v ts
theorem firstT_hit {w h o c f : Int} {l : List Int} {v t : Int} {ts : List Int} (z : mk w h o c l ((f + t) % 4) = v) : firstT w h o c f l v (t :: ts) = (f + t) % 4 := by
  rw [firstT, if_pos z]
theorem firstT_miss {w h o c f : Int} {l : List Int} {v t : Int} {ts : List Int} (z : ¬ mk w h o c l ((f + t) % 4) = v) : firstT w h o c f l v (t :: ts) = firstT w h o c f l v ts := by
  rw [firstT, if_neg z]
def oldB (w h o c f : Int) (l : List Int) : Bool := (((decide (0 ≠ (f + 2) % 4) && decide (mk w h o c l 0 > 0)) || (decide (1 ≠ (f + 2) % 4) && decide (mk w h o c l 1 > 0))) || (decide (2 ≠ (f + 2) % 4) && decide (mk w h o c l 2 > 0))) || (decide (3 ≠ (f + 2) % 4) && decide (mk w h o c l 3 > 0))
def dirT (w h o c f : Int) (l : List Int) : Int :=
  if mk w h o c l ((f + 2) % 4) = 1 ∧ oldB w h o c f l = true then (f + 2) % 4
  else if 0 ≤ firstT w h o c f l 0 [1, 0, 3] then firstT w h o c f l 0 [1, 0, 3]
  else firstT w h o c f l 1 [1, 0, 3, 2]
def tstep (w h o c f : Int) (l : List Int) : Int × Int × Bool :=
  if walkerOk w h o c f = true ∧ marksOk w h l = true then (if dirT w h o c f l < 0 then (c, f, false) else (step w h o c (dirT w h o c f l), dirT w h o c f l, true)) else (c, f, false)
theorem firstT_some (w h o c f : Int) (l : List Int) (v : Int) : ∀ ts : List Int, firstT w h o c f l v ts = -1 ∨ (0 ≤ firstT w h o c f l v ts ∧ firstT w h o c f l v ts ≤ 3 ∧ mk w h o c l (firstT w h o c f l v ts) = v)
  | [] => .inl rfl
  | t :: ts => by
    unfold firstT
    split
    · rename_i z
      exact .inr ⟨by omega, by omega, z⟩
    · exact firstT_some w h o c f l v ts
theorem step_gap {w h o c d : Int} (hs : 0 ≤ step w h o c d) : 0 ≤ gapAt w h c d ∧ gapAt w h c d < gaps w h := by
  rcases step_range w h o c d with e | ⟨_, _, _, _, e, _⟩
  · omega
  · have := gapAt_range w h c d
    omega
theorem pass_step {w h o c d : Int} (hm : mazeOk w h o = true) : (mazeOk w h o && (isGap w h (gapAt w h c d) && bit o (gapAt w h c d))) = decide (0 ≤ step w h o c d) := by
  have h1 := gapAt_range w h c d
  have e : isGap w h (gapAt w h c d) = decide (0 ≤ gapAt w h c d) := by unfold isGap; rw [decide_eq_decide]; omega
  rw [e, hm, Bool.true_and, step_eq _ _ _ _ _ hm]
  by_cases g : 0 ≤ gapAt w h c d
  · have hn : 0 ≤ nb w h c d := by
      unfold gapAt at g
      by_cases hn : nb w h c d < 0
      · rw [if_pos hn] at g; omega
      · omega
    cases hb : bit o (gapAt w h c d) with
    | true => simp [g, hn]
    | false => simp
  · simp [g]
theorem all_any_marks (l : List Int) : (!(l.any fun x => decide (x < 0) || decide (x > 2))) = l.all isMark := by
  rw [List.any_eq_not_all_not, Bool.not_not]
  congr 1
  funext n
  unfold isMark
  rw [Bool.eq_iff_iff]
  simp <;> omega
theorem iareMarks (w h o : Int) (l : List Int) : impl_areMarks.f w h o l = some (marksOk w h l) := by
  unfold impl_areMarks.f marksOk contains_areMarks.f
  simp only [iCountGaps, Option.bind_some, all_any_marks]
  by_cases h1 : (l.length : Int) = gaps w h
  · rw [if_pos h1]; simp [h1]
  · rw [if_neg h1]; simp [h1]
theorem iof (k : Nat) (w h o c f : Int) (l : List Int) (d : Int) (hm : mazeOk w h o = true) (hl : (l.length : Int) = gaps w h) (hk : 4 ≤ k) : impl_TremauxStep_1.f k d w h o c f l = some (mk w h o c l d) := by
  unfold impl_TremauxStep_1.f mk
  rw [iStep k w h o c d hk, iGapAt k w h c d hk]
  simp only [Option.bind_some]
  by_cases z : step w h o c d < 0
  · rw [if_pos z, if_pos z]
  · have g := step_gap (w := w) (h := h) (o := o) (c := c) (d := d) (by omega)
    rw [if_neg z, if_neg z, if_pos g.1, if_pos (by omega)]
theorem imarked (k : Nat) (w h o c f d : Int) (hk : 4 ≤ k) : impl_marked.f k w h o c f d = some (step w h o c d, d) := by
  unfold impl_marked.f
  rw [iStep k w h o c d hk]
  rfl
theorem iT_l2 (w h o c f : Int) (l : List Int) (hm : mazeOk w h o = true) (hl : (l.length : Int) = gaps w h) (hf : 0 ≤ f ∧ f ≤ 3) (y : List Int) (hy : ∀ t ∈ y, 0 ≤ t ∧ t ≤ 3) (hyl : y.length ≤ 4) : ∀ (n k : Nat) (i : Int), 0 ≤ i → i ≤ (y.length : Int) → (y.length : Int) - i = n → n + 5 ≤ k →
    impl_TremauxStep.l2 k y (y.length : Int) i w h o l c f = some (if 0 ≤ firstT w h o c f l 1 (y.drop i.toNat) then (step w h o c (firstT w h o c f l 1 (y.drop i.toNat)), firstT w h o c f l 1 (y.drop i.toNat), true) else (c, f, false)) := by
  intro n
  induction n with
  | zero =>
    intro k i h0 h1 hd hk
    obtain ⟨k, rfl⟩ : ∃ m, k = m + 1 := ⟨k - 1, by omega⟩
    simp only [impl_TremauxStep.l2]
    rw [if_neg (by omega), List.drop_of_length_le (by omega)]
    simp [firstT]
  | succ n ih =>
    intro k i h0 h1 hd hk
    obtain ⟨k, rfl⟩ : ∃ m, k = m + 1 := ⟨k - 1, by omega⟩
    have ht := hy _ (rd_memL h0 (show i < (y.length : Int) by omega))
    simp only [impl_TremauxStep.l2]
    rw [if_pos (by omega), if_pos h0, if_pos (by omega), turn_add hf.1 hf.2 ht.1 ht.2, iof k w h o c f l _ hm hl (by omega), imarked k w h o c f _ (by omega), w64 (x := i + 1) (by omega) (by omega), ih k (i + 1) (by omega) (by omega) (by omega) (by omega), drop_cons h0 (by omega)]
    simp only [Option.bind_some]
    by_cases z : mk w h o c l ((f + rd y i) % 4) = 1
    · have z2 : 0 ≤ (f + rd y i) % 4 := by omega
      rw [if_pos z, firstT_hit z, if_pos z2]
    · rw [if_neg z, firstT_miss z]
theorem iT_l1 (w h o c f : Int) (l : List Int) (hm : mazeOk w h o = true) (hl : (l.length : Int) = gaps w h) (hf : 0 ≤ f ∧ f ≤ 3) (y : List Int) (hy : ∀ t ∈ y, 0 ≤ t ∧ t ≤ 3) (hyl : y.length ≤ 4) : ∀ (n k : Nat) (i : Int), 0 ≤ i → i ≤ (y.length : Int) → (y.length : Int) - i = n → n + 12 ≤ k →
    impl_TremauxStep.l1 k y (y.length : Int) i w h o l c f = some (if 0 ≤ firstT w h o c f l 0 (y.drop i.toNat) then (step w h o c (firstT w h o c f l 0 (y.drop i.toNat)), firstT w h o c f l 0 (y.drop i.toNat), true) else if 0 ≤ firstT w h o c f l 1 [1, 0, 3, 2] then (step w h o c (firstT w h o c f l 1 [1, 0, 3, 2]), firstT w h o c f l 1 [1, 0, 3, 2], true) else (c, f, false)) := by
  intro n
  induction n with
  | zero =>
    intro k i h0 h1 hd hk
    obtain ⟨k, rfl⟩ : ∃ m, k = m + 1 := ⟨k - 1, by omega⟩
    simp only [impl_TremauxStep.l1]
    rw [if_neg (by omega), List.drop_of_length_le (by omega)]
    simp only [Option.bind_some]
    rw [iT_l2 w h o c f l hm hl hf [1, 0, 3, 2] (by simp) (by simp) 4 k 0 (by omega) (by simp) (by simp) (by omega)]
    simp [firstT]
  | succ n ih =>
    intro k i h0 h1 hd hk
    obtain ⟨k, rfl⟩ : ∃ m, k = m + 1 := ⟨k - 1, by omega⟩
    have ht := hy _ (rd_memL h0 (show i < (y.length : Int) by omega))
    simp only [impl_TremauxStep.l1]
    rw [if_pos (by omega), if_pos h0, if_pos (by omega), turn_add hf.1 hf.2 ht.1 ht.2, iof k w h o c f l _ hm hl (by omega), imarked k w h o c f _ (by omega), w64 (x := i + 1) (by omega) (by omega), ih k (i + 1) (by omega) (by omega) (by omega) (by omega), drop_cons h0 (by omega)]
    simp only [Option.bind_some]
    by_cases z : mk w h o c l ((f + rd y i) % 4) = 0
    · have z2 : 0 ≤ (f + rd y i) % 4 := by omega
      rw [if_pos z, firstT_hit z, if_pos z2]
    · rw [if_neg z, firstT_miss z]
theorem iT_round (k : Nat) (w h o c f : Int) (l : List Int) (hm : mazeOk w h o = true) (hl : (l.length : Int) = gaps w h) (b : Int) (x : Bool) (d : Int) (h0 : 0 ≤ d) (h3 : d ≤ 3) (hk : 4 ≤ k) :
    impl_TremauxStep.l0 (k + 1) b x d w h o l c f = impl_TremauxStep.l0 k b (x || (decide (d ≠ b) && decide (mk w h o c l d > 0))) (d + 1) w h o l c f := by
  rw [impl_TremauxStep.l0, if_pos h3, iof k w h o c f l d hm hl hk, w64 (by omega) (by omega)]
  cases x with
  | true => simp
  | false =>
    by_cases e : d = b
    · simp [e]
    · simp [e]
theorem iTremauxStep (k : Nat) (w h o c f : Int) (l : List Int) (hk : 30 ≤ k) : impl_TremauxStep.f k w h o l c f = some (tstep w h o c f l) := by
  obtain ⟨k, rfl⟩ : ∃ m, k = m + 6 := ⟨k - 6, by omega⟩
  unfold impl_TremauxStep.f tstep
  rw [iWalkerOk, iareMarks]
  simp only [Option.bind_some, impl_TremauxStep.j0]
  by_cases h1 : walkerOk w h o c f = true
  · by_cases h2 : marksOk w h l = true
    · have z : walkerOk w h o c f = true ∧ marksOk w h l = true := ⟨h1, h2⟩
      have p := walkerOk_parts h1
      have q := marksOk_parts h2
      have hm := (has_parts p.1).1
      rw [if_pos h1, if_pos z, h2]
      simp only [Bool.not_true, Bool.false_eq_true, if_false]
      rw [show ((f + 2 : Int)) = f + 2 from rfl, turn_add p.2.1 p.2.2 (by omega) (by omega)]
      rw [iT_round (k + 4) w h o c f l hm q.1 _ _ 0 (by omega) (by omega) (by omega), iT_round (k + 3) w h o c f l hm q.1 _ _ (0 + 1) (by omega) (by omega) (by omega), iT_round (k + 2) w h o c f l hm q.1 _ _ (0 + 1 + 1) (by omega) (by omega) (by omega), iT_round (k + 1) w h o c f l hm q.1 _ _ (0 + 1 + 1 + 1) (by omega) (by omega) (by omega)]
      simp only [show (0 : Int) + 1 = 1 from rfl, show (1 : Int) + 1 = 2 from rfl, show (2 : Int) + 1 = 3 from rfl, show (3 : Int) + 1 = 4 from rfl, Bool.false_or]
      rw [impl_TremauxStep.l0, if_neg (by omega), iof k w h o c f l _ hm q.1 (by omega)]
      rw [show ((((decide (0 ≠ (f + 2) % 4) && decide (mk w h o c l 0 > 0)) || (decide (1 ≠ (f + 2) % 4) && decide (mk w h o c l 1 > 0))) || (decide (2 ≠ (f + 2) % 4) && decide (mk w h o c l 2 > 0))) || (decide (3 ≠ (f + 2) % 4) && decide (mk w h o c l 3 > 0))) = oldB w h o c f l from rfl]
      obtain ⟨k, rfl⟩ : ∃ m, k = m + 1 := ⟨k - 1, by omega⟩
      have hL := iT_l1 w h o c f l hm q.1 p.2 [1, 0, 3] (by simp) (by simp) 3 k 0 (by omega) (by simp) (by simp) (by omega)
      simp only [List.drop_zero, Int.toNat_zero] at hL
      have e1 : (if 0 ≤ firstT w h o c f l 0 [1, 0, 3] then some (step w h o c (firstT w h o c f l 0 [1, 0, 3]), firstT w h o c f l 0 [1, 0, 3], true) else if 0 ≤ firstT w h o c f l 1 [1, 0, 3, 2] then some (step w h o c (firstT w h o c f l 1 [1, 0, 3, 2]), firstT w h o c f l 1 [1, 0, 3, 2], true) else some (c, f, false)) = some (if (if 0 ≤ firstT w h o c f l 0 [1, 0, 3] then firstT w h o c f l 0 [1, 0, 3] else firstT w h o c f l 1 [1, 0, 3, 2]) < 0 then (c, f, false) else (step w h o c (if 0 ≤ firstT w h o c f l 0 [1, 0, 3] then firstT w h o c f l 0 [1, 0, 3] else firstT w h o c f l 1 [1, 0, 3, 2]), (if 0 ≤ firstT w h o c f l 0 [1, 0, 3] then firstT w h o c f l 0 [1, 0, 3] else firstT w h o c f l 1 [1, 0, 3, 2]), true)) := by
        by_cases a : 0 ≤ firstT w h o c f l 0 [1, 0, 3]
        · have b : ¬ firstT w h o c f l 0 [1, 0, 3] < 0 := by omega
          simp only [a, b, if_true, if_false]
        · by_cases b : 0 ≤ firstT w h o c f l 1 [1, 0, 3, 2]
          · have b' : ¬ firstT w h o c f l 1 [1, 0, 3, 2] < 0 := by omega
            simp only [a, b, b', if_true, if_false]
          · have b' : firstT w h o c f l 1 [1, 0, 3, 2] < 0 := by omega
            simp only [a, b, b', if_true, if_false]
      have e2 : ∀ (x y z : Int × Int × Bool) (a b : Prop) [Decidable a] [Decidable b], some (if a then x else if b then y else z) = if a then some x else if b then some y else some z := fun x y z a b _ _ => by split <;> (try split) <;> rfl
      rw [e2, e1] at hL
      simp only [Option.bind_some, impl_TremauxStep.j2]
      have z2 : ¬ (f + 2) % 4 < 0 := by omega
      by_cases a : mk w h o c l ((f + 2) % 4) = 1
      · rw [if_pos a]
        by_cases b : oldB w h o c f l = true
        · have hd : dirT w h o c f l = (f + 2) % 4 := by unfold dirT; rw [if_pos ⟨a, b⟩]
          rw [if_pos b, hd, if_neg z2, imarked k w h o c f _ (by omega)]
          rfl
        · have n : ¬ (mk w h o c l ((f + 2) % 4) = 1 ∧ oldB w h o c f l = true) := fun x => b x.2
          have hd : dirT w h o c f l = if 0 ≤ firstT w h o c f l 0 [1, 0, 3] then firstT w h o c f l 0 [1, 0, 3] else firstT w h o c f l 1 [1, 0, 3, 2] := by unfold dirT; rw [if_neg n]
          rw [if_neg b, hd]
          exact hL
      · have n : ¬ (mk w h o c l ((f + 2) % 4) = 1 ∧ oldB w h o c f l = true) := fun x => a x.1
        have hd : dirT w h o c f l = if 0 ≤ firstT w h o c f l 0 [1, 0, 3] then firstT w h o c f l 0 [1, 0, 3] else firstT w h o c f l 1 [1, 0, 3, 2] := by unfold dirT; rw [if_neg n]
        rw [if_neg a, if_neg (by decide), hd]
        exact hL
    · have z : ¬ (walkerOk w h o c f = true ∧ marksOk w h l = true) := fun x => h2 x.2
      rw [if_pos h1, if_neg z]
      simp [h2]
  · have z : ¬ (walkerOk w h o c f = true ∧ marksOk w h l = true) := fun x => h1 x.1
    rw [if_neg h1, if_neg z]
    simp
end Go.Proofs.Ytdloifaaoiollac.L
