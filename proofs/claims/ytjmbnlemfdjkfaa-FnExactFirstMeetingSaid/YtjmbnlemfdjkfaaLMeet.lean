/- Mazes that meet a wish. -/
import Derived.Test.YtjmbnlemfdjkfaaXcmeet
import Derived.Test.YtjmbnlemfdjkfaaXcmeeting
import Derived.Test.YtjmbnlemfdjkfaaXcto
import Derived.Test.YtjmbnlemfdjkfaaXimplFirstMeeting
import Derived.Test.YtjmbnlemfdjkfaaXlawstoWish
import Derived.Test.YtjmbnlemfdjkfaaXspecFirstMeeting
import Derived.Test.YtjmbnlemfdjkfaaLWish
import Derived.Test.YtjmbnlemfdjkfaaLWays
namespace Go.Proofs.Ytjmbnlemfdjkfaa.L
open Go.RowKit Go.Proofs.Ytjmbnlemfdjkfaa.X Go.Proofs.YtjmbnlemfdjkfaaW.PrintWords Go.Proofs.YtjmbnlemfdjkfaaW.PrintLast Go.Proofs.YtjmbnlemfdjkfaaW.PrintMore
set_option linter.unusedSimpArgs false
set_option linter.unusedVariables false

def deadEnds (w h o : Int) : List Int := if mazeOk w h o = true then ((List.range (cells w h).toNat).map fun j : Nat => (j : Int)).filter fun x => ((ways w h o x).length : Int) == 1 else []
theorem iDeadEnds (k : Nat) (w h o : Int) (hk : 30 ≤ k) : impl_DeadEnds.f k w h o = some (deadEnds w h o) := by
  have hr := cells_range w h
  unfold impl_DeadEnds.f deadEnds
  rw [iMazeOk]
  simp only [Option.bind_some]
  by_cases hm : mazeOk w h o = true
  · rw [if_pos hm, if_pos hm, iCountCells]
    simp only [Option.bind_some]
    rw [show cells w h = (((cells w h).toNat : Nat) : Int) by omega, iUpTo k _ (by omega) (by omega)]
    simp only [Option.bind_some]
    rw [if_pos]
    · congr 1
      apply List.filter_congr
      intro x _
      rw [iWaysFrom k w h o x (by omega)]
      rfl
    · rw [List.all_eq_true]
      intro x _
      rw [iWaysFrom k w h o x (by omega)]
      rfl
  · rw [if_neg hm, if_neg hm]
theorem sDead_go (w h o : Int) (hm : mazeOk w h o = true) : ∀ (d k : Nat) (c : Nat), c ≤ (cells w h).toNat → (cells w h).toNat - c = d → 2 * d + 30 ≤ k →
    spec_DeadEnds.l0 k (((List.range c).map fun j : Nat => (j : Int)).filter fun x => ((ways w h o x).length : Int) == 1) (c : Int) w h o = some (((List.range (cells w h).toNat).map fun j : Nat => (j : Int)).filter fun x => ((ways w h o x).length : Int) == 1) := by
  have hr := cells_range w h
  intro d
  induction d with
  | zero =>
    intro k c h1 hd hk
    obtain ⟨k, rfl⟩ : ∃ m, k = m + 2 := ⟨k - 2, by omega⟩
    rw [spec_DeadEnds.l0, sCountCells]
    simp only [Option.bind_some]
    rw [if_neg (by omega), spec_DeadEnds.j1, if_neg (by simp), show c = (cells w h).toNat by omega]
  | succ d ih =>
    intro k c h1 hd hk
    obtain ⟨k, rfl⟩ : ∃ m, k = m + 2 := ⟨k - 2, by omega⟩
    have hl := List.length_filter_le (fun x => ((ways w h o x).length : Int) == 1) ((List.range c).map fun j : Nat => (j : Int))
    rw [List.length_map, List.length_range] at hl
    have hA : (((List.range c).map fun j : Nat => (j : Int)).filter fun x => ((ways w h o x).length : Int) == 1).length < 17592186044416 := by omega
    rw [spec_DeadEnds.l0, sCountCells]
    simp only [Option.bind_some]
    rw [if_pos (by omega), sMazeOk]
    simp only [Option.bind_some]
    rw [spec_DeadEnds.j1, if_pos hm, sWaysFrom k w h o _ (by omega)]
    simp only [Option.bind_some]
    have r := ih k (c + 1) (by omega) (by omega) (by omega)
    rw [List.range_succ, List.map_append, List.filter_append, List.map_cons, List.map_nil, List.filter_cons, List.filter_nil] at r
    rw [w64 (by omega) (by omega)]
    by_cases z : ((ways w h o (c : Int)).length : Int) = 1
    · rw [if_pos (show (((ways w h o (c : Int)).length : Int) == 1) = true by simpa using z)] at r
      rw [if_pos z, if_pos hA]
      exact r
    · rw [if_neg (show ¬ (((ways w h o (c : Int)).length : Int) == 1) = true by simpa using z), List.append_nil] at r
      rw [if_neg z]
      exact r
theorem sDeadEnds (k : Nat) (w h o : Int) (hk : 100 ≤ k) : spec_DeadEnds.f k w h o = some (deadEnds w h o) := by
  have hr := cells_range w h
  unfold spec_DeadEnds.f deadEnds
  by_cases hm : mazeOk w h o = true
  · rw [if_pos hm]
    exact sDead_go w h o hm (cells w h).toNat k 0 (by omega) (by omega) (by omega)
  · rw [if_neg hm]
    obtain ⟨k, rfl⟩ : ∃ m, k = m + 2 := ⟨k - 2, by omega⟩
    rw [spec_DeadEnds.l0, sCountCells]
    simp only [Option.bind_some]
    by_cases z : 0 < cells w h
    · rw [if_pos z, sMazeOk]
      simp only [Option.bind_some]
      rw [spec_DeadEnds.j1, if_neg hm]
    · rw [if_neg z, spec_DeadEnds.j1, if_neg (by simp)]
def meets (w h o a b c d : Int) : Bool := perfect w h o && (wishOk w h a b c d && (decide (distOf w h o a b ≥ c) && decide (((deadEnds w h o).length : Int) ≤ d)))
theorem iMeets (k : Nat) (w h o a b c d : Int) (hk : 200 ≤ k) : impl_MeetsWish.f k w h o a b c d = some (meets w h o a b c d) := by
  unfold impl_MeetsWish.f meets
  rw [iPerfect k w h o hk, iWishOk, iDistanceOf k w h o a b (by omega), iDeadEnds k w h o (by omega)]
  simp only [Option.bind_some]
  cases perfect w h o <;> cases wishOk w h a b c d <;> by_cases z : distOf w h o a b ≥ c <;> simp [z]
theorem sMeets (k : Nat) (w h o a b c d : Int) (hk : 200 ≤ k) : spec_MeetsWish.f k w h o a b c d = some (meets w h o a b c d) := by
  unfold spec_MeetsWish.f meets
  rw [sPerfect k w h o hk, sWishOk, sDistanceOf k w h o a b (by omega), sDeadEnds k w h o (by omega)]
  simp only [Option.bind_some]
  cases perfect w h o <;> cases wishOk w h a b c d <;> by_cases z : distOf w h o a b ≥ c <;> simp [z]
def meetsM (a b c d : Int) (m : SM) : Bool := meets m.f0.f0 m.f0.f1 m.f1 a b c d
def canMeet (w h a b c d : Int) : Bool := small w h && wishOk w h a b c d
def meeting (w h a b c d : Int) : List SM := (allTrees w h).filter (meetsM a b c d)
theorem iMeet_go (a b c d : Int) (l : List SM) (hl : l.length ≤ 5000) : ∀ (n k : Nat) (i : Int) (acc : List SM), 0 ≤ i → i ≤ (l.length : Int) → (l.length : Int) - i = n → n + 300 ≤ k → acc.length + n ≤ 10000 →
    impl_meeting.l0 k acc l (l.length : Int) i a b c d = some (acc ++ (l.drop i.toNat).filter (meetsM a b c d), true) := by
  intro n
  induction n with
  | zero =>
    intro k i acc h0 h1 hd hk ha
    obtain ⟨k, rfl⟩ : ∃ m, k = m + 1 := ⟨k - 1, by omega⟩
    rw [impl_meeting.l0, if_neg (by omega), List.drop_of_length_le (by omega)]
    simp
  | succ n ih =>
    intro k i acc h0 h1 hd hk ha
    obtain ⟨k, rfl⟩ : ∃ m, k = m + 1 := ⟨k - 1, by omega⟩
    have hA : acc.length < 5864062014805 := by omega
    rw [impl_meeting.l0, if_pos (by omega), if_pos h0, if_pos (by omega), iMeets k _ _ _ a b c d (by omega), rdT_get h0 (by omega), List.filter_cons]
    simp only [Option.bind_some]
    rw [w64 (by omega) (by omega)]
    generalize rd_T28 l i = m
    by_cases z : meets m.f0.f0 m.f0.f1 m.f1 a b c d = true
    · rw [if_pos z, if_pos hA, if_pos (show meetsM a b c d m = true from z), ih k (i + 1) _ (by omega) (by omega) (by omega) (by omega) (by simp; omega)]
      simp
    · rw [if_neg z, if_neg (show ¬ meetsM a b c d m = true from z)]
      exact ih k (i + 1) acc (by omega) (by omega) (by omega) (by omega) (by omega)
theorem iMeeting (k : Nat) (w h a b c d : Int) (hk : 9001 ≤ k) : impl_meeting.f k w h a b c d = some (if canMeet w h a b c d = true then (meeting w h a b c d, true) else ([], false)) := by
  obtain ⟨k, rfl⟩ : ∃ m, k = m + 1 := ⟨k - 1, by omega⟩
  unfold impl_meeting.f canMeet
  rw [iAll (k + 1) w h (by omega)]
  simp only [Option.bind_some]
  by_cases hs : small w h = true
  · have hal := allTrees_length hs
    rw [if_pos hs, if_pos rfl, iWishOk, hs, Bool.true_and]
    simp only [Option.bind_some]
    by_cases hw : wishOk w h a b c d = true
    · rw [if_pos hw, hw, impl_meeting.j0, if_neg (by simp), iMeet_go a b c d _ (by omega) (allTrees w h).length k 0 [] (by omega) (by omega) (by omega) (by omega) (by simp; omega)]
      rfl
    · have hw' : wishOk w h a b c d = false := by simpa using hw
      rw [if_neg hw, hw', impl_meeting.j0, if_pos (by simp)]
  · have hs' : small w h = false := by simpa using hs
    rw [if_neg hs, if_neg (by simp), hs', impl_meeting.j0, if_pos rfl]
    simp
theorem canMeet_of {w h a b c d : Int} (hw : wishOk w h a b c d = true) : canMeet w h a b c d = decide (¬ gaps w h > 12) := by
  have hw' := hw
  unfold wishOk at hw'
  simp only [Bool.and_eq_true] at hw'
  unfold canMeet small
  rw [hw, hw'.1, Bool.true_and, Bool.and_true, decide_eq_decide]
  omega
def countMeeting (w h a b c d : Int) : Int := if canMeet w h a b c d = true then ((meeting w h a b c d).length : Int) else -1
abbrev FM := Int × Int × Int × Bool
def fmOf : List SM → FM
  | [] => (0, 0, 0, false)
  | m :: _ => (m.f0.f0, m.f0.f1, m.f1, true)
def firstMeeting (w h a b c d : Int) : FM := if canMeet w h a b c d = true then fmOf (meeting w h a b c d) else (0, 0, 0, false)
theorem iFirstMeeting (k : Nat) (w h a b c d : Int) (hk : 9001 ≤ k) : impl_FirstMeeting.f k w h a b c d = some (firstMeeting w h a b c d) := by
  unfold impl_FirstMeeting.f firstMeeting
  rw [iMeeting k w h a b c d hk]
  simp only [Option.bind_some]
  by_cases z : canMeet w h a b c d = true
  · rw [if_pos z, if_pos z]
    cases e : meeting w h a b c d with
    | nil => rfl
    | cons m l =>
      rw [if_neg (by simp; omega), if_pos (by simp)]
      rfl
  · rw [if_neg z, if_neg z]
    simp
theorem sFirst_go (a b c d : Int) (l : List SM) (hl : l.length ≤ 5000) : ∀ (n k : Nat) (i : Int), 0 ≤ i → i ≤ (l.length : Int) → (l.length : Int) - i = n → n + 300 ≤ k →
    spec_FirstMeeting.l0 k l i a b c d = some (fmOf ((l.drop i.toNat).filter (meetsM a b c d))) := by
  intro n
  induction n with
  | zero =>
    intro k i h0 h1 hd hk
    obtain ⟨k, rfl⟩ : ∃ m, k = m + 1 := ⟨k - 1, by omega⟩
    rw [spec_FirstMeeting.l0, if_neg (by omega), List.drop_of_length_le (by omega)]
    rfl
  | succ n ih =>
    intro k i h0 h1 hd hk
    obtain ⟨k, rfl⟩ : ∃ m, k = m + 1 := ⟨k - 1, by omega⟩
    rw [spec_FirstMeeting.l0, if_pos (by omega), if_pos h0, sMeets k _ _ _ a b c d (by omega), rdT_get h0 (by omega), List.filter_cons]
    simp only [Option.bind_some]
    rw [w64 (by omega) (by omega)]
    generalize rd_T28 l i = m
    by_cases z : meets m.f0.f0 m.f0.f1 m.f1 a b c d = true
    · rw [if_pos z, if_pos (show meetsM a b c d m = true from z)]
      rfl
    · rw [if_neg z, if_neg (show ¬ meetsM a b c d m = true from z)]
      exact ih k (i + 1) (by omega) (by omega) (by omega) (by omega)
theorem sFirstMeeting (k : Nat) (w h a b c d : Int) (hk : 9001 ≤ k) : spec_FirstMeeting.f k w h a b c d = some (firstMeeting w h a b c d) := by
  obtain ⟨k, rfl⟩ : ∃ m, k = m + 1 := ⟨k - 1, by omega⟩
  unfold spec_FirstMeeting.f firstMeeting
  rw [sWishOk]
  simp only [Option.bind_some]
  by_cases hw : wishOk w h a b c d = true
  · have hc := canMeet_of hw
    have hw' := hw
    unfold wishOk at hw'
    simp only [Bool.and_eq_true] at hw'
    rw [if_pos hw, sCountGaps]
    simp only [Option.bind_some]
    by_cases hp : gaps w h > 12
    · rw [decide_eq_false (by omega)] at hc
      rw [decide_eq_true hp, spec_FirstMeeting.j0, if_pos rfl, hc, if_neg (by simp)]
    · rw [decide_eq_true hp] at hc
      have hs : small w h = true := by
        unfold canMeet at hc
        rw [Bool.and_eq_true] at hc
        exact hc.1
      have hal := allTrees_length hs
      rw [decide_eq_false hp, hc, if_pos rfl, spec_FirstMeeting.j0, if_neg (by simp), sFullMaze, if_pos hw'.1]
      simp only [Option.bind_some]
      rw [sListTrees k w h (fullO w h) (by omega), full_list hs]
      simp only [Option.bind_some]
      rw [sFirst_go a b c d _ (by omega) (allTrees w h).length k 0 (by omega) (by omega) (by omega) (by omega)]
      rfl
  · rw [if_neg hw, spec_FirstMeeting.j0, if_pos rfl, if_neg]
    intro z
    unfold canMeet at z
    rw [Bool.and_eq_true] at z
    exact hw z.2
end Go.Proofs.Ytjmbnlemfdjkfaa.L
