/- The maze of a timetable at a moment. -/
import Derived.Test.YtlfomjhjeknnmaaXimplMazeAtTime
import Derived.Test.YtlfomjhjeknnmaaLTimed
import Derived.Test.YtlfomjhjeknnmaaLBits
namespace Go.Proofs.Ytlfomjhjeknnmaa.L
open Go.RowKit Go.Proofs.Ytlfomjhjeknnmaa.X Go.Proofs.YtlfomjhjeknnmaaW.PrintWords Go.Proofs.YtlfomjhjeknnmaaW.PrintLast Go.Proofs.YtlfomjhjeknnmaaW.PrintMore
set_option linter.unusedSimpArgs false
set_option linter.unusedVariables false

/-- The gates that are shut are closed. -/
def shutGo (r : Int) : List Gt → Int → Int
  | [], o => o
  | g :: gs, o => shutGo r gs (if bit g.f1 r = true then o else withO o g.f0 false)
theorem shutGo_ok (w h r : Int) : ∀ (l : List Gt) (o : Int), (∀ g ∈ l, isGap w h g.f0 = true) → mazeOk w h o = true → mazeOk w h (shutGo r l o) = true := by
  intro l
  induction l with
  | nil => intro o _ z; exact z
  | cons g l ih =>
    intro o hg hm
    unfold shutGo
    refine ih _ (fun x hx => hg x (List.mem_cons_of_mem _ hx)) ?_
    split
    · exact hm
    · exact mazeOk_with false hm (hg g List.mem_cons_self)
noncomputable def mazeAtTime (w h o p : Int) (l : List Gt) (m : Int) : Int × Int × Int × Bool := if timedOk w h o p l = true ∧ 0 ≤ m ∧ m ≤ 1000 then (w, h, shutGo (m % p) l o, true) else (0, 0, 0, false)
theorem drop_gt {l : List Gt} {i : Int} (h0 : 0 ≤ i) (h1 : i < (l.length : Int)) : l.drop i.toNat = gt l i :: l.drop (i + 1).toNat := by
  rw [gt_get h0 h1, List.drop_eq_getElem_cons (by omega), show (i + 1).toNat = i.toNat + 1 by omega]
theorem isPass_gap {w h o g : Int} (z : isPass w h o g = true) : isGap w h g = true := by
  unfold isPass at z
  simp only [Bool.and_eq_true] at z
  exact z.2.1
theorem bit_zero {o g : Int} (h0 : 0 ≤ o) (h1 : o < 9223372036854775808) (hg : 0 ≤ g) (hg1 : g ≤ 64) : (Go.bits .and .i64 (shr .i64 o g) 1 = 0) ↔ bit o g = false := by
  have hb := bit_test h0 h1 hg hg1
  have hv : Go.bits .and .i64 (shr .i64 o g) 1 = 0 ∨ Go.bits .and .i64 (shr .i64 o g) 1 = 1 := by
    have e : 0 ≤ shr .i64 o g ∧ shr .i64 o g ≤ o := by
      unfold shr
      obtain ⟨n, rfl⟩ := Int.eq_ofNat_of_zero_le h0
      have e : ((n : Int) / 2 ^ min g.toNat (IntKind.bits .i64)) = ((n / 2 ^ min g.toNat (IntKind.bits .i64) : Nat) : Int) := by simp
      rw [e]
      exact ⟨Int.natCast_nonneg _, Int.ofNat_le.mpr (Nat.div_le_self _ _)⟩
    rcases and_one (shr .i64 o g) e.1 with z | z
    · rw [z]; omega
    · omega
  rcases hv with e | e
  · rw [e] at hb ⊢
    simp at hb
    simp [← hb]
  · rw [e] at hb ⊢
    simp at hb
    simp [hb]
theorem gates_small {w h o p : Int} {l : List Gt} (z : timedOk w h o p l = true) {i : Int} (h0 : 0 ≤ i) (h1 : i < (l.length : Int)) : isGap w h (gt l i).f0 = true ∧ 0 ≤ (gt l i).f1 ∧ (gt l i).f1 < 16777217 := by
  have q := timedOk_parts z
  have g := q.2.2.2 i h0 h1
  have hp := pow_le_24 (n := p) (by omega) (by omega)
  exact ⟨isPass_gap g.1, g.2.2.1, by have := g.2.2.2; omega⟩
theorem iMoment_go (w h o p m : Int) (l : List Gt) (z : timedOk w h o p l = true) (hm0 : 0 ≤ m) (hm1 : m ≤ 1000) : ∀ (d k : Nat) (i x : Int), 0 ≤ i → i ≤ (l.length : Int) → (l.length : Int) - i = d → d < k → mazeOk w h x = true →
    impl_MazeAtTime.l0 k m l (l.length : Int) i w h o p l w h x = some (w, h, shutGo (m % p) (l.drop i.toNat) x, true) := by
  have q := timedOk_parts z
  have hr0 : 0 ≤ m % p := Int.emod_nonneg _ (by omega)
  have hr1 : m % p < p := Int.emod_lt_of_pos _ (by omega)
  intro d
  induction d with
  | zero =>
    intro k i x h0 h1 hd hk hm
    obtain ⟨k, rfl⟩ := kpos hk
    simp only [impl_MazeAtTime.l0]
    rw [if_neg (by omega), List.drop_of_length_le (by omega)]
    rfl
  | succ d ih =>
    intro k i x h0 h1 hd hk hm
    obtain ⟨k, rfl⟩ := kpos hk
    have gs := gates_small z h0 (show i < (l.length : Int) by omega)
    obtain ⟨_, ho, _, ho'⟩ := mazeOk_ok hm
    have hgr := gaps_range w h
    have hgp := gs.1
    unfold isGap at hgp
    have hgp := of_decide_eq_true hgp
    have e0 : rd_T56 l i = gt l i := rfl
    simp only [impl_MazeAtTime.l0]
    rw [if_pos (by omega), if_pos h0, if_pos (by omega), if_neg (show ¬ p = 0 by omega), tmod_nn hm0, if_pos hr0, w64 (x := i + 1) (by omega) (by omega), drop_gt h0 (by omega), e0, iWith w h x (gt l i).f0 false ho ho' hgp.1 (by omega)]
    simp only [Option.bind_some, shutGo]
    by_cases hb : bit (gt l i).f1 (m % p) = true
    · rw [if_neg (fun e => by rw [bit_zero gs.2.1 (by omega) hr0 (by omega), hb] at e; cases e), if_pos hb, ih k (i + 1) _ (by omega) (by omega) (by omega) (by omega) hm]
    · rw [if_pos ((bit_zero gs.2.1 (by omega) hr0 (by omega)).2 (by simpa using hb)), if_neg hb, ih k (i + 1) _ (by omega) (by omega) (by omega) (by omega) (mazeOk_with false hm gs.1)]
theorem iMazeAtTime (k : Nat) (w h o p m : Int) (l : List Gt) (hk : 22 ≤ k) : impl_MazeAtTime.f k w h o p l m = some (mazeAtTime w h o p l m) := by
  obtain ⟨k, rfl⟩ : ∃ m, k = m + 1 := ⟨k - 1, by omega⟩
  unfold impl_MazeAtTime.f mazeAtTime
  rw [iTimedOk (k + 1) w h o p l (by omega)]
  simp only [Option.bind_some, impl_MazeAtTime.j0]
  by_cases z : timedOk w h o p l = true
  · have q := timedOk_parts z
    rw [if_pos z]
    by_cases a : m < 0
    · have n : ¬ (timedOk w h o p l = true ∧ 0 ≤ m ∧ m ≤ 1000) := fun x => by omega
      rw [if_pos a, if_neg n]
      simp
    · rw [if_neg a]
      by_cases b : m > 1000
      · have n : ¬ (timedOk w h o p l = true ∧ 0 ≤ m ∧ m ≤ 1000) := fun x => by omega
        rw [if_neg n]
        simp [b]
      · have n : timedOk w h o p l = true ∧ 0 ≤ m ∧ m ≤ 1000 := ⟨z, by omega, by omega⟩
        rw [if_pos n]
        simp only [b, decide_false, Bool.false_eq_true, if_false]
        rw [iMoment_go w h o p m l z (by omega) (by omega) l.length k 0 o (by omega) (by omega) (by omega) (by omega) q.1]
        simp
  · have n : ¬ (timedOk w h o p l = true ∧ 0 ≤ m ∧ m ≤ 1000) := fun x => z x.1
    rw [if_neg z, if_neg n]
    simp
end Go.Proofs.Ytlfomjhjeknnmaa.L
