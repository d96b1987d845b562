/- Mazes that meet a wish. -/
import Derived.Test.YtnfclfpicemojaaXcmeet
import Derived.Test.YtnfclfpicemojaaXcmeeting
import Derived.Test.YtnfclfpicemojaaXimplCountMeeting
import Derived.Test.YtnfclfpicemojaaXimplFirstMeeting
import Derived.Test.YtnfclfpicemojaaLWish
import Derived.Test.YtnfclfpicemojaaLWays
namespace Go.Proofs.Ytnfclfpicemojaa.L
open Go.RowKit Go.Proofs.Ytnfclfpicemojaa.X Go.Proofs.YtnfclfpicemojaaW.PrintWords Go.Proofs.YtnfclfpicemojaaW.PrintLast Go.Proofs.YtnfclfpicemojaaW.PrintMore
set_option linter.unusedSimpArgs false
set_option linter.unusedVariables false

def deadEnds (w h o : Int) : List Int := if mazeOk w h o = true then ((List.range (cells w h).toNat).map fun j : Nat => (j : Int)).filter fun x => ((ways w h o x).length : Int) == 1 else []
theorem iDeadEnds (k : Nat) (w h o : Int) (hk : 30 ≤ k) : impl_DeadEnds.f k w h o = some (deadEnds w h o) := by
  have hr := cells_range w h
  unfold impl_DeadEnds.f deadEnds
  rw [iMazeOk]
  simp only [Option.bind_some]
  by_cases hm : mazeOk w h o = true
  · rw [if_pos hm, if_pos hm, iCountCells]
    simp only [Option.bind_some]
    rw [show cells w h = (((cells w h).toNat : Nat) : Int) by omega, iUpTo k _ (by omega) (by omega)]
    simp only [Option.bind_some]
    rw [if_pos]
    · congr 1
      apply List.filter_congr
      intro x _
      rw [iWaysFrom k w h o x (by omega)]
      rfl
    · rw [List.all_eq_true]
      intro x _
      rw [iWaysFrom k w h o x (by omega)]
      rfl
  · rw [if_neg hm, if_neg hm]
def meets (w h o a b c d : Int) : Bool := perfect w h o && (wishOk w h a b c d && (decide (distOf w h o a b ≥ c) && decide (((deadEnds w h o).length : Int) ≤ d)))
theorem iMeets (k : Nat) (w h o a b c d : Int) (hk : 200 ≤ k) : impl_MeetsWish.f k w h o a b c d = some (meets w h o a b c d) := by
  unfold impl_MeetsWish.f meets
  rw [iPerfect k w h o hk, iWishOk, iDistanceOf k w h o a b (by omega), iDeadEnds k w h o (by omega)]
  simp only [Option.bind_some]
  cases perfect w h o <;> cases wishOk w h a b c d <;> by_cases z : distOf w h o a b ≥ c <;> simp [z]
def meetsM (a b c d : Int) (m : SM) : Bool := meets m.f0.f0 m.f0.f1 m.f1 a b c d
def canMeet (w h a b c d : Int) : Bool := small w h && wishOk w h a b c d
def meeting (w h a b c d : Int) : List SM := (allTrees w h).filter (meetsM a b c d)
theorem iMeet_go (a b c d : Int) (l : List SM) (hl : l.length ≤ 5000) : ∀ (n k : Nat) (i : Int) (acc : List SM), 0 ≤ i → i ≤ (l.length : Int) → (l.length : Int) - i = n → n + 300 ≤ k → acc.length + n ≤ 10000 →
    impl_meeting.l0 k acc l (l.length : Int) i a b c d = some (acc ++ (l.drop i.toNat).filter (meetsM a b c d), true) := by
  intro n
  induction n with
  | zero =>
    intro k i acc h0 h1 hd hk ha
    obtain ⟨k, rfl⟩ : ∃ m, k = m + 1 := ⟨k - 1, by omega⟩
    rw [impl_meeting.l0, if_neg (by omega), List.drop_of_length_le (by omega)]
    simp
  | succ n ih =>
    intro k i acc h0 h1 hd hk ha
    obtain ⟨k, rfl⟩ : ∃ m, k = m + 1 := ⟨k - 1, by omega⟩
    have hA : acc.length < 5864062014805 := by omega
    rw [impl_meeting.l0, if_pos (by omega), if_pos h0, if_pos (by omega), iMeets k _ _ _ a b c d (by omega), rdT_get h0 (by omega), List.filter_cons]
    simp only [Option.bind_some]
    rw [w64 (by omega) (by omega)]
    generalize rd_T32 l i = m
    by_cases z : meets m.f0.f0 m.f0.f1 m.f1 a b c d = true
    · rw [if_pos z, if_pos hA, if_pos (show meetsM a b c d m = true from z), ih k (i + 1) _ (by omega) (by omega) (by omega) (by omega) (by simp; omega)]
      simp
    · rw [if_neg z, if_neg (show ¬ meetsM a b c d m = true from z)]
      exact ih k (i + 1) acc (by omega) (by omega) (by omega) (by omega) (by omega)
theorem iMeeting (k : Nat) (w h a b c d : Int) (hk : 9001 ≤ k) : impl_meeting.f k w h a b c d = some (if canMeet w h a b c d = true then (meeting w h a b c d, true) else ([], false)) := by
  obtain ⟨k, rfl⟩ : ∃ m, k = m + 1 := ⟨k - 1, by omega⟩
  unfold impl_meeting.f canMeet
  rw [iAll (k + 1) w h (by omega)]
  simp only [Option.bind_some]
  by_cases hs : small w h = true
  · have hal := allTrees_length hs
    rw [if_pos hs, if_pos rfl, iWishOk, hs, Bool.true_and]
    simp only [Option.bind_some]
    by_cases hw : wishOk w h a b c d = true
    · rw [if_pos hw, hw, impl_meeting.j0, if_neg (by simp), iMeet_go a b c d _ (by omega) (allTrees w h).length k 0 [] (by omega) (by omega) (by omega) (by omega) (by simp; omega)]
      rfl
    · have hw' : wishOk w h a b c d = false := by simpa using hw
      rw [if_neg hw, hw', impl_meeting.j0, if_pos (by simp)]
  · have hs' : small w h = false := by simpa using hs
    rw [if_neg hs, if_neg (by simp), hs', impl_meeting.j0, if_pos rfl]
    simp
theorem canMeet_of {w h a b c d : Int} (hw : wishOk w h a b c d = true) : canMeet w h a b c d = decide (¬ gaps w h > 12) := by
  have hw' := hw
  unfold wishOk at hw'
  simp only [Bool.and_eq_true] at hw'
  unfold canMeet small
  rw [hw, hw'.1, Bool.true_and, Bool.and_true, decide_eq_decide]
  omega
def countMeeting (w h a b c d : Int) : Int := if canMeet w h a b c d = true then ((meeting w h a b c d).length : Int) else -1
theorem iCountMeeting (k : Nat) (w h a b c d : Int) (hk : 9001 ≤ k) : impl_CountMeeting.f k w h a b c d = some (countMeeting w h a b c d) := by
  unfold impl_CountMeeting.f countMeeting
  rw [iMeeting k w h a b c d hk]
  simp only [Option.bind_some]
  by_cases z : canMeet w h a b c d = true
  · rw [if_pos z, if_pos z, if_pos rfl]
  · rw [if_neg z, if_neg z, if_neg (by simp)]
abbrev FM := Int × Int × Int × Bool
def fmOf : List SM → FM
  | [] => (0, 0, 0, false)
  | m :: _ => (m.f0.f0, m.f0.f1, m.f1, true)
def firstMeeting (w h a b c d : Int) : FM := if canMeet w h a b c d = true then fmOf (meeting w h a b c d) else (0, 0, 0, false)
theorem iFirstMeeting (k : Nat) (w h a b c d : Int) (hk : 9001 ≤ k) : impl_FirstMeeting.f k w h a b c d = some (firstMeeting w h a b c d) := by
  unfold impl_FirstMeeting.f firstMeeting
  rw [iMeeting k w h a b c d hk]
  simp only [Option.bind_some]
  by_cases z : canMeet w h a b c d = true
  · rw [if_pos z, if_pos z]
    cases e : meeting w h a b c d with
    | nil => rfl
    | cons m l =>
      rw [if_neg (by simp; omega), if_pos (by simp)]
      rfl
  · rw [if_neg z, if_neg z]
    simp
end Go.Proofs.Ytnfclfpicemojaa.L
