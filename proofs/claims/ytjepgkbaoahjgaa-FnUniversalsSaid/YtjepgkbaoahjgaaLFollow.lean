/- Following turns. -/
import Derived.Test.YtjepgkbaoahjgaaXcfollow
import Derived.Test.YtjepgkbaoahjgaaXcturns
import Derived.Test.YtjepgkbaoahjgaaLStep
namespace Go.Proofs.Ytjepgkbaoahjgaa.L
open Go.RowKit Go.Proofs.Ytjepgkbaoahjgaa.X Go.Proofs.YtjepgkbaoahjgaaW.PrintWords Go.Proofs.YtjepgkbaoahjgaaW.PrintLast Go.Proofs.YtjepgkbaoahjgaaW.PrintMore
set_option linter.unusedSimpArgs false
set_option linter.unusedVariables false

def isTurn (n : Int) : Bool := decide (0 ≤ n ∧ n ≤ 3)
def turnsOk (l : List Int) : Bool := decide (l.length ≤ 400) && l.all isTurn
theorem turnsOk_parts {l : List Int} (h : turnsOk l = true) : l.length ≤ 400 ∧ ∀ n ∈ l, 0 ≤ n ∧ n ≤ 3 := by
  unfold turnsOk isTurn at h
  simpa using h
theorem iareTurns (l : List Int) : impl_areTurns.f l 400 = some (turnsOk l) := by
  unfold impl_areTurns.f turnsOk contains_areTurns.f
  simp only [Option.bind_some]
  by_cases h : (l.length : Int) ≤ 400
  · rw [if_pos h]
    have h' : l.length ≤ 400 := by omega
    simp only [h', decide_true, Bool.true_and, Option.some.injEq]
    induction l with
    | nil => rfl
    | cons x l ih =>
      simp only [List.any_cons, List.all_cons, Bool.not_or, ih (by simp at h; omega) (by simp at h'; omega)]
      congr 1
      unfold isTurn
      by_cases a : x < 0 <;> by_cases b : x > 3 <;> by_cases c : 0 ≤ x <;> by_cases d : x ≤ 3 <;> first | omega | simp [a, b, c, d]
  · rw [if_neg h]
    have h' : ¬ l.length ≤ 400 := by omega
    simp [h']
/-- The cells that a walker comes to: at each turn it turns, and steps where it can. -/
def follow (w h o : Int) : List Int → Int → Int → List Int
  | [], _, _ => []
  | n :: r, c, f => if 0 ≤ step w h o c ((f + n) % 4) then step w h o c ((f + n) % 4) :: follow w h o r (step w h o c ((f + n) % 4)) ((f + n) % 4) else c :: follow w h o r c ((f + n) % 4)
def followTurns (w h o c f : Int) (l : List Int) : List Int := if walkerOk w h o c f = true ∧ turnsOk l = true then c :: follow w h o l c f else []
theorem follow_length (w h o : Int) : ∀ (l : List Int) (c f : Int), (follow w h o l c f).length = l.length
  | [], _, _ => rfl
  | n :: r, c, f => by
    unfold follow
    split <;> simp only [List.length_cons, follow_length w h o r]
theorem followTurns_length (w h o c f : Int) (l : List Int) : (followTurns w h o c f l).length ≤ l.length + 1 := by
  unfold followTurns
  split
  · simp [follow_length]
  · simp
theorem iFollow_go (w h o : Int) (l : List Int) (hl : l.length ≤ 400) (ht : ∀ n ∈ l, 0 ≤ n ∧ n ≤ 3) : ∀ (d k : Nat) (i c f : Int) (acc : List Int), 0 ≤ i → i ≤ (l.length : Int) → (l.length : Int) - i = d → d + 5 ≤ k → 0 ≤ f → f ≤ 3 → acc.length + d ≤ 1000 →
    impl_FollowTurns.l0 k acc l (l.length : Int) i w h o c f = some (acc ++ follow w h o (l.drop i.toNat) c f) := by
  intro d
  induction d with
  | zero =>
    intro k i c f acc h0 h1 hd hk f0 f3 ha
    obtain ⟨k, rfl⟩ : ∃ m, k = m + 1 := ⟨k - 1, by omega⟩
    simp only [impl_FollowTurns.l0]
    rw [if_neg (by omega), List.drop_of_length_le (by omega)]
    simp [follow]
  | succ d ih =>
    intro k i c f acc h0 h1 hd hk f0 f3 ha
    obtain ⟨k, rfl⟩ : ∃ m, k = m + 1 := ⟨k - 1, by omega⟩
    have hr := ht _ (rd_memL h0 (show i < (l.length : Int) by omega))
    simp only [impl_FollowTurns.l0]
    rw [if_pos (by omega), if_pos h0, if_pos (by omega), turn_add f0 f3 hr.1 hr.2, iStep k _ _ _ _ _ (by omega), w64 (x := i + 1) (by omega) (by omega), drop_cons h0 (by omega)]
    simp only [Option.bind_some, follow]
    by_cases hs : 0 ≤ step w h o c ((f + rd l i) % 4)
    · rw [if_pos hs, if_pos (by omega), if_pos hs, ih k (i + 1) _ _ _ (by omega) (by omega) (by omega) (by omega) (by omega) (by omega) (by simp; omega)]
      simp
    · rw [if_neg hs, if_pos (by omega), if_neg hs, ih k (i + 1) _ _ _ (by omega) (by omega) (by omega) (by omega) (by omega) (by omega) (by simp; omega)]
      simp
theorem iFollow (k : Nat) (w h o c f : Int) (l : List Int) (hk : l.length + 10 ≤ k) : impl_FollowTurns.f k w h o c f l = some (followTurns w h o c f l) := by
  obtain ⟨k, rfl⟩ : ∃ m, k = m + 1 := ⟨k - 1, by omega⟩
  unfold impl_FollowTurns.f followTurns
  rw [iWalkerOk, iareTurns]
  simp only [Option.bind_some, impl_FollowTurns.j0]
  by_cases h1 : walkerOk w h o c f = true
  · by_cases h2 : turnsOk l = true
    · have a := walkerOk_parts h1
      have b := turnsOk_parts h2
      have z : walkerOk w h o c f = true ∧ turnsOk l = true := ⟨h1, h2⟩
      rw [if_pos h1, if_pos z, h2]
      simp only [Bool.not_true, Bool.false_eq_true, if_false]
      rw [iFollow_go w h o l b.1 b.2 l.length k 0 c f [c] (by omega) (by omega) (by omega) (by omega) a.2.1 a.2.2 (by simp; omega)]
      simp
    · have z : ¬ (walkerOk w h o c f = true ∧ turnsOk l = true) := fun z => h2 z.2
      rw [if_pos h1, if_neg z]
      simp [h2]
  · have z : ¬ (walkerOk w h o c f = true ∧ turnsOk l = true) := fun z => h1 z.1
    rw [if_neg h1, if_neg z]
    simp
end Go.Proofs.Ytjepgkbaoahjgaa.L
