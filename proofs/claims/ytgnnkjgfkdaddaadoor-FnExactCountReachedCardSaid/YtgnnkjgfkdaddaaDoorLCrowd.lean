/- Visitors in a maze: which lists of cells are right, and a step of one of them. -/
import Derived.Test.YtgnnkjgfkdaddaaDoorXimplCrowdOk
import Derived.Test.YtgnnkjgfkdaddaaDoorXimplMoveOne
import Derived.Test.YtgnnkjgfkdaddaaDoorXslicesCloneintint
import Derived.Test.YtgnnkjgfkdaddaaDoorXspecCrowdOk
import Derived.Test.YtgnnkjgfkdaddaaDoorXspecMoveOne
import Derived.Test.YtgnnkjgfkdaddaaDoorLStep
import Derived.Test.YtgnnkjgfkdaddaaDoorLSort
namespace Go.Proofs.YtgnnkjgfkdaddaaDoor.L
open Go.RowKit Go.Proofs.YtgnnkjgfkdaddaaDoor.X Go.Proofs.YtgnnkjgfkdaddaaDoorW.PrintWords Go.Proofs.YtgnnkjgfkdaddaaDoorW.PrintLast Go.Proofs.YtgnnkjgfkdaddaaDoorW.PrintMore
set_option linter.unusedSimpArgs false
set_option linter.unusedVariables false

theorem clone (l : List Int) (h : l.length < 17592186044416) : slices_Clone_int_int.f l = some l := by
  unfold slices_Clone_int_int.f
  rw [if_pos h]
def crowdOk (w h o : Int) (l : List Int) : Bool := decide (l.length ≤ 6) && (mazeOk w h o && (l.all (isCell w h) && decide l.Nodup))
theorem iIsSimple (l : List Int) (h : l.length < 17592186044416) : impl_IsSimple.f l = some (decide l.Nodup) := by
  unfold impl_IsSimple.f
  rw [clone l h]
  simp only [Option.bind_some]
  rw [iOrdered l (by omega)]
  simp only [Option.bind_some]
  congr 1
  have e := ord_length l
  by_cases c : l.Nodup
  · rw [decide_eq_true c, beq_iff_eq]
    have := e.2 c
    omega
  · rw [decide_eq_false c, beq_eq_false_iff_ne]
    intro h2
    exact c (e.1 (by omega))
theorem iCrowdOk (w h o : Int) (l : List Int) : impl_CrowdOk.f w h o l = some (crowdOk w h o l) := by
  unfold impl_CrowdOk.f crowdOk
  by_cases c : (l.length : Int) ≤ 6
  · rw [if_pos c, iisIn, decide_eq_true (show l.length ≤ 6 by omega)]
    simp only [Option.bind_some, Bool.true_and]
    by_cases c2 : (mazeOk w h o && l.all (isCell w h)) = true
    · rw [if_pos c2, iIsSimple l (by omega)]
      rw [Bool.and_eq_true] at c2
      simp [c2.1, c2.2]
    · rw [if_neg c2]
      have c3 : (mazeOk w h o && l.all (isCell w h)) = false := by simpa using c2
      rw [← Bool.and_assoc, c3]
      rfl
  · rw [if_neg c, decide_eq_false (by omega)]
    rfl
theorem take_succ_rd {l : List Int} {i : Int} (h0 : 0 ≤ i) (h1 : i < (l.length : Int)) : l.take (i + 1).toNat = l.take i.toNat ++ [rd l i] := by
  have e : (i + 1).toNat = i.toNat + 1 := by omega
  rw [e, List.take_succ_eq_append_getElem (by omega), rd_get h0 h1]
theorem sCrowd_go (w h o : Int) (l : List Int) (hl : l.length ≤ 2000000) : ∀ (d k : Nat) (i : Int), 0 ≤ i → i ≤ (l.length : Int) → (l.length : Int) - i = d → d + l.length < k → (l.take i.toNat).Nodup → (l.take i.toNat).all (isCell w h) = true → (0 < i → mazeOk w h o = true) →
    spec_CrowdOk.l0 k l i w h o = some (mazeOk w h o && (l.all (isCell w h) && decide l.Nodup) && decide (l.length ≤ 6)) := by
  intro d
  induction d with
  | zero =>
    intro k i h0 h1 hd hk hn ha hm
    obtain ⟨k, rfl⟩ := kpos hk
    have hi : i = l.length := by omega
    subst hi
    rw [Int.toNat_natCast, List.take_length] at hn ha
    unfold spec_CrowdOk.l0
    rw [if_neg (by omega), sMazeOk, decide_eq_true hn, ha]
    simp only [Option.bind_some, Bool.true_and, Bool.and_true]
    by_cases c : mazeOk w h o = true
    · rw [if_pos c, c]
      simp only [Bool.true_and]
      congr 1
      by_cases e : l.length ≤ 6
      · rw [decide_eq_true e, decide_eq_true (by omega)]
      · rw [decide_eq_false e, decide_eq_false (by omega)]
    · rw [if_neg c]
      have c' : mazeOk w h o = false := by simpa using c
      rw [c']
      rfl
  | succ d ih =>
    intro k i h0 h1 hd hk hn ha hm
    obtain ⟨k, rfl⟩ := kpos hk
    have hlt : i < (l.length : Int) := by omega
    have hmem : rd l i ∈ l := rd_memL h0 hlt
    unfold spec_CrowdOk.l0
    rw [if_pos hlt, if_pos h0, sHas]
    simp only [Option.bind_some]
    by_cases c : has w h o (rd l i) = true
    · have hp := has_parts c
      rw [if_pos c, if_pos (by omega), l07In k _ _ (by rw [List.length_take]; omega) (by rw [List.length_take]; omega)]
      simp only [Option.bind_some]
      by_cases m : rd l i ∈ l.take i.toNat
      · rw [decide_eq_true m]
        rw [if_pos rfl]
        have hd2 : ¬ l.Nodup := by
          intro hnd
          rw [← List.take_append_drop i.toNat l, drop_cons h0 hlt] at hnd
          have := (List.nodup_append.1 hnd).2.2 _ m _ List.mem_cons_self
          exact this rfl
        rw [decide_eq_false hd2]
        simp
      · rw [decide_eq_false m, if_neg (by simp)]
        rw [w64 (by omega) (by omega)]
        refine ih k (i + 1) (by omega) (by omega) (by omega) (by omega) ?_ ?_ (fun _ => hp.1)
        · rw [take_succ_rd h0 hlt, List.nodup_append]
          refine ⟨hn, by simp, ?_⟩
          intro a ha1 b hb
          rw [List.mem_singleton] at hb
          subst hb
          intro e
          subst e
          exact m ha1
        · rw [take_succ_rd h0 hlt, List.all_append, ha]
          simp [hp.2]
    · rw [if_neg c]
      have c' : (mazeOk w h o && l.all (isCell w h)) = false := by
        by_cases z : (mazeOk w h o && l.all (isCell w h)) = true
        · rw [Bool.and_eq_true] at z
          exact absurd (by unfold has; rw [z.1, List.all_eq_true.1 z.2 _ hmem]; rfl) c
        · simpa using z
      rw [← Bool.and_assoc (mazeOk w h o), c']
      rfl
theorem sCrowdOk (k : Nat) (w h o : Int) (l : List Int) (hl : l.length ≤ 2000000) (hk : 2 * l.length < k) : spec_CrowdOk.f k w h o l = some (crowdOk w h o l) := by
  unfold spec_CrowdOk.f crowdOk
  rw [sCrowd_go w h o l hl l.length k 0 (by omega) (by omega) (by omega) (by omega) (by simp) (by simp) (by omega)]
  congr 1
  rw [Bool.and_comm]
/-- What comes of a step of one visitor. -/
def moveOne (w h o : Int) (l : List Int) (who d : Int) : List Int × Bool :=
  if crowdOk w h o l = true ∧ 0 ≤ who ∧ who < (l.length : Int) ∧ 0 ≤ step w h o (rd l who) d ∧ step w h o (rd l who) d ∉ l then (l.set who.toNat (step w h o (rd l who) d), true) else (l, false)
theorem iMoveOne (k : Nat) (w h o : Int) (l : List Int) (who d : Int) (hl : l.length ≤ 2000000) (hk : l.length + 10 ≤ k) : impl_MoveOne.f k w h o l who d = some (moveOne w h o l who d) := by
  obtain ⟨k, rfl⟩ : ∃ m, k = m + 1 := ⟨k - 1, by omega⟩
  have hj : ∀ b : Bool, (b = false → 0 ≤ who ∧ who < (l.length : Int)) → impl_MoveOne.j0 (k + 1) l who d l b w h o = some (if b = false ∧ 0 ≤ step w h o (rd l who) d ∧ step w h o (rd l who) d ∉ l then (l.set who.toNat (step w h o (rd l who) d), true) else (l, false)) := by
    intro b hb
    cases b with
    | true => simp [impl_MoveOne.j0]
    | false =>
      obtain ⟨h0, h1⟩ := hb rfl
      simp only [impl_MoveOne.j0, Bool.false_eq_true, if_false]
      rw [if_pos h0, if_pos h1, iStep k w h o _ d (by omega)]
      simp only [Option.bind_some]
      by_cases c : step w h o (rd l who) d < 0
      · rw [if_pos c, if_neg (fun z => by have := z.2.1; omega)]
      · rw [if_neg c, Contains k l _ (by omega) (by omega)]
        simp only [Option.bind_some]
        by_cases m : step w h o (rd l who) d ∈ l
        · rw [decide_eq_true m, if_pos rfl, if_neg (fun z => z.2.2 m)]
        · rw [decide_eq_false m, if_neg (by simp), if_pos h1, if_pos ⟨trivial, by omega, m⟩]
  unfold impl_MoveOne.f
  rw [clone l (by omega), iCrowdOk]
  simp only [Option.bind_some]
  unfold moveOne
  by_cases c : crowdOk w h o l = true
  · rw [if_pos c]
    by_cases c1 : who < 0
    · rw [if_pos c1, hj true (by simp), if_neg (by simp), if_neg (fun z => by omega)]
    · rw [if_neg c1]
      by_cases c2 : (l.length : Int) ≤ who
      · rw [show decide (who ≥ (l.length : Int)) = true from decide_eq_true c2, hj true (by simp), if_neg (by simp), if_neg (fun z => by omega)]
      · rw [show decide (who ≥ (l.length : Int)) = false from decide_eq_false c2, hj false (fun _ => by omega)]
        congr 1
        by_cases c3 : 0 ≤ step w h o (rd l who) d ∧ step w h o (rd l who) d ∉ l
        · have p1 : (false = false ∧ 0 ≤ step w h o (rd l who) d ∧ step w h o (rd l who) d ∉ l) := ⟨rfl, c3⟩
          have p2 : (crowdOk w h o l = true ∧ 0 ≤ who ∧ who < (l.length : Int) ∧ 0 ≤ step w h o (rd l who) d ∧ step w h o (rd l who) d ∉ l) := ⟨c, by omega, by omega, c3⟩
          rw [if_pos p1, if_pos p2]
        · rw [if_neg (fun z => c3 z.2), if_neg (fun z => c3 z.2.2.2)]
  · rw [if_neg c, hj true (by simp), if_neg (by simp), if_neg (fun z => c z.1)]
theorem copy28 (l : List Int) (h : l.length < 17592186044416) : spec_l28Copy.f l = some l := by
  unfold spec_l28Copy.f
  simp only [Option.bind_some, List.length_nil, Nat.zero_add, List.nil_append]
  rw [if_pos h]
theorem sMoveOne (k : Nat) (w h o : Int) (l : List Int) (who d : Int) (hl : l.length ≤ 2000000) (hk : 2 * l.length + 10 ≤ k) : spec_MoveOne.f k w h o l who d = some (moveOne w h o l who d) := by
  obtain ⟨k, rfl⟩ : ∃ m, k = m + 1 := ⟨k - 1, by omega⟩
  have hj : ∀ b : Bool, (b = false → 0 ≤ who ∧ who < (l.length : Int)) → spec_MoveOne.j0 (k + 1) l who d l b w h o = some (if b = false ∧ 0 ≤ step w h o (rd l who) d ∧ step w h o (rd l who) d ∉ l then (l.set who.toNat (step w h o (rd l who) d), true) else (l, false)) := by
    intro b hb
    cases b with
    | true => simp [spec_MoveOne.j0]
    | false =>
      obtain ⟨h0, h1⟩ := hb rfl
      simp only [spec_MoveOne.j0, Bool.false_eq_true, if_false]
      rw [if_pos h0, if_pos h1, sStep k w h o _ d (by omega)]
      simp only [Option.bind_some]
      by_cases c : step w h o (rd l who) d < 0
      · rw [if_pos c, if_neg (fun z => by have := z.2.1; omega)]
      · rw [if_neg c, l07In k l _ (by omega) (by omega)]
        simp only [Option.bind_some]
        by_cases m : step w h o (rd l who) d ∈ l
        · rw [decide_eq_true m, if_pos rfl, if_neg (fun z => z.2.2 m)]
        · rw [decide_eq_false m, if_neg (by simp), if_pos h1, if_pos ⟨trivial, by omega, m⟩]
  unfold spec_MoveOne.f
  rw [copy28 l (by omega), sCrowdOk (k + 1) w h o l hl (by omega)]
  simp only [Option.bind_some]
  unfold moveOne
  by_cases c : crowdOk w h o l = true
  · rw [if_pos c, sIn, w64 (by omega) (by omega)]
    simp only [Option.bind_some]
    by_cases c2 : 0 ≤ who ∧ who ≤ (l.length : Int) - 1
    · rw [decide_eq_true c2, Bool.not_true, hj false (fun _ => by omega)]
      congr 1
      by_cases c3 : 0 ≤ step w h o (rd l who) d ∧ step w h o (rd l who) d ∉ l
      · have p1 : (false = false ∧ 0 ≤ step w h o (rd l who) d ∧ step w h o (rd l who) d ∉ l) := ⟨rfl, c3⟩
        have p2 : (crowdOk w h o l = true ∧ 0 ≤ who ∧ who < (l.length : Int) ∧ 0 ≤ step w h o (rd l who) d ∧ step w h o (rd l who) d ∉ l) := ⟨c, by omega, by omega, c3⟩
        rw [if_pos p1, if_pos p2]
      · rw [if_neg (fun z => c3 z.2), if_neg (fun z => c3 z.2.2.2)]
    · rw [decide_eq_false c2, Bool.not_false, hj true (by simp), if_neg (by simp), if_neg (fun z => c2 (by omega))]
  · rw [if_neg c, hj true (by simp), if_neg (by simp), if_neg (fun z => c z.1)]
def freeNb (w h o : Int) (l : List Int) (who : Int) : List Int := [0, 1, 2, 3].filter fun d => (moveOne w h o l who d).2
theorem freeNb_length (w h o : Int) (l : List Int) (who : Int) : (freeNb w h o l who).length ≤ 4 := by
  unfold freeNb
  exact Nat.le_trans (List.length_filter_le _ _) (by simp)
theorem moveOne_length (w h o : Int) (l : List Int) (who d : Int) : (moveOne w h o l who d).1.length = l.length := by
  unfold moveOne
  split <;> simp
end Go.Proofs.YtgnnkjgfkdaddaaDoor.L
