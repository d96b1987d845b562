/- Timetables: what TimedOk asks. -/
import Derived.Test.YtlfomjhjeknnmaaXimplTimedOk
import Derived.Test.YtlfomjhjeknnmaaLGrid
namespace Go.Proofs.Ytlfomjhjeknnmaa.L
open Go.RowKit Go.Proofs.Ytlfomjhjeknnmaa.X Go.Proofs.YtlfomjhjeknnmaaW.PrintWords Go.Proofs.YtlfomjhjeknnmaaW.PrintLast Go.Proofs.YtlfomjhjeknnmaaW.PrintMore
set_option linter.unusedSimpArgs false
set_option linter.unusedVariables false

abbrev Gt := S56
abbrev LGt := S85
def gt (l : List Gt) (i : Int) : Gt := rd_T56 l i
def cvG (g : LGt) : Gt := ⟨g.f0, g.f1⟩
theorem gt_get {l : List Gt} {i : Int} (h0 : 0 ≤ i) (h1 : i < (l.length : Int)) : gt l i = l[i.toNat]'(by omega) := by
  unfold gt rd_T56
  rw [List.getD_eq_getElem?_getD, List.getElem?_eq_getElem (show i.toNat < l.length by omega)]
  rfl
theorem lgt_get {l : List LGt} {i : Int} (h0 : 0 ≤ i) (h1 : i < (l.length : Int)) : rd_T85 l i = l[i.toNat]'(by omega) := by
  unfold rd_T85
  rw [List.getD_eq_getElem?_getD, List.getElem?_eq_getElem (show i.toNat < l.length by omega)]
  rfl
def isPass (w h o g : Int) : Bool := mazeOk w h o && (isGap w h g && bit o g)
def gateOk (w h o p : Int) (l : List Gt) (i : Int) : Prop := isPass w h o (gt l i).f0 = true ∧ (0 < i → (gt l (i - 1)).f0 < (gt l i).f0) ∧ 0 ≤ (gt l i).f1 ∧ (gt l i).f1 < 2 ^ p.toNat
open Classical in
noncomputable def timedOk (w h o p : Int) (l : List Gt) : Bool := decide (mazeOk w h o = true ∧ (1 ≤ p ∧ p ≤ 6) ∧ l.length ≤ 8 ∧ AllFrom (gateOk w h o p l) 0 l.length)
open Classical in
theorem timedOk_parts {w h o p : Int} {l : List Gt} (z : timedOk w h o p l = true) : mazeOk w h o = true ∧ (1 ≤ p ∧ p ≤ 6) ∧ l.length ≤ 8 ∧ AllFrom (gateOk w h o p l) 0 l.length := by
  unfold timedOk at z
  exact of_decide_eq_true z
open Classical in
theorem iTimedOk_go (w h o p : Int) (l : List Gt) (hp : 1 ≤ p ∧ p ≤ 6) (hl : l.length ≤ 8) : ∀ (d k : Nat) (i : Int), 0 ≤ i → i ≤ (l.length : Int) → (l.length : Int) - i = d → 2 * d + 1 ≤ k →
    impl_TimedOk.l0 k l (l.length : Int) i w h o p l = some (decide (AllFrom (gateOk w h o p l) i l.length)) := by
  intro d
  induction d with
  | zero =>
    intro k i h0 h1 hd hk
    obtain ⟨k, rfl⟩ : ∃ m, k = m + 1 := ⟨k - 1, by omega⟩
    simp only [impl_TimedOk.l0]
    rw [if_neg (by omega)]
    simp only [allFrom_end (P := gateOk w h o p l) (i := i) (n := (l.length : Int)) (by omega), decide_true]
  | succ d ih =>
    intro k i h0 h1 hd hk
    obtain ⟨k, rfl⟩ : ∃ m, k = m + 2 := ⟨k - 2, by omega⟩
    have e0 : rd_T56 l i = gt l i := rfl
    have e1 : rd_T56 l (i - 1) = gt l (i - 1) := rfl
    simp only [impl_TimedOk.l0, impl_TimedOk.j2]
    rw [if_pos (by omega), if_pos h0, if_pos (by omega), iIsPassage, w64 (x := i - 1) (by omega) (by omega), w64 (x := i + 1) (by omega) (by omega), ih k (i + 1) (by omega) (by omega) (by omega) (by omega), shl_one (by omega) (by omega), e0, e1]
    simp only [allFrom_step (P := gateOk w h o p l) (i := i) (n := (l.length : Int)) (by omega), Option.bind_some]
    rw [show (mazeOk w h o && (isGap w h (gt l i).f0 && bit o (gt l i).f0)) = isPass w h o (gt l i).f0 from rfl]
    have c0 : (0 ≤ p) = True := eq_true (by omega)
    simp only [c0, if_true]
    by_cases a : isPass w h o (gt l i).f0 = true
    · rw [if_pos a]
      by_cases b : i > 0
      · rw [if_pos b, if_pos (by omega), if_pos (by omega)]
        by_cases c : (gt l (i - 1)).f0 ≥ (gt l i).f0
        · rw [if_pos c]
          have : ¬ gateOk w h o p l i := fun z => by have := z.2.1 b; omega
          simp [this]
        · rw [if_neg c]
          by_cases e : (gt l i).f1 < 0
          · rw [if_pos e]
            have : ¬ gateOk w h o p l i := fun z => by have := z.2.2.1; omega
            simp [this]
          · rw [if_neg e]
            by_cases f : (gt l i).f1 ≥ 2 ^ p.toNat
            · have : ¬ gateOk w h o p l i := fun z => by have := z.2.2.2; omega
              simp [this, f]
            · have : gateOk w h o p l i := ⟨a, fun _ => by omega, by omega, by omega⟩
              simp [this, f]
      · rw [if_neg b]
        by_cases e : (gt l i).f1 < 0
        · rw [if_pos e]
          have : ¬ gateOk w h o p l i := fun z => by have := z.2.2.1; omega
          simp [this]
        · rw [if_neg e]
          by_cases f : (gt l i).f1 ≥ 2 ^ p.toNat
          · have : ¬ gateOk w h o p l i := fun z => by have := z.2.2.2; omega
            simp [this, f]
          · have : gateOk w h o p l i := ⟨a, fun z => absurd z (by omega), by omega, by omega⟩
            simp [this, f]
    · rw [if_neg a]
      have : ¬ gateOk w h o p l i := fun z => a z.1
      simp [this]
open Classical in
theorem iTimedOk (k : Nat) (w h o p : Int) (l : List Gt) (hk : 20 ≤ k) : impl_TimedOk.f k w h o p l = some (timedOk w h o p l) := by
  obtain ⟨k, rfl⟩ : ∃ m, k = m + 1 := ⟨k - 1, by omega⟩
  unfold impl_TimedOk.f timedOk
  simp only [iMazeOk, Option.bind_some, impl_TimedOk.j0]
  by_cases a : mazeOk w h o = true
  · rw [if_pos a]
    by_cases b : p < 1
    · rw [if_pos b]
      have : ¬ (1 ≤ p ∧ p ≤ 6) := by omega
      simp [this]
    · rw [if_neg b]
      by_cases c : p > 6
      · rw [if_pos c]
        have : ¬ (1 ≤ p ∧ p ≤ 6) := by omega
        simp [this]
      · rw [if_neg c]
        by_cases d : l.length ≤ 8
        · have e : ¬ (l.length : Int) > 8 := by omega
          simp only [e, decide_false, Bool.false_eq_true, if_false]
          rw [iTimedOk_go w h o p l (by omega) d l.length k 0 (by omega) (by omega) (by omega) (by omega)]
          have : 1 ≤ p ∧ p ≤ 6 := by omega
          simp only [a, this, d, and_self, true_and]
        · have e : (l.length : Int) > 8 := by omega
          simp [e, d]
  · rw [if_neg a]
    simp [a]
end Go.Proofs.Ytlfomjhjeknnmaa.L
