/- Closed ways across a line: the program and the reference count the same. -/
import Derived.Test.YtkkjlbpffcdlfaaXimplCountLoopsOf
import Derived.Test.YtkkjlbpffcdlfaaXimplIsMeander
import Derived.Test.YtkkjlbpffcdlfaaXspecCountLoopsOf
import Derived.Test.YtkkjlbpffcdlfaaXspecIsMeander
import Derived.Test.YtkkjlbpffcdlfaaLArches
namespace Go.Proofs.Ytkkjlbpffcdlfaa.L
open Go.RowKit Go.Proofs.Ytkkjlbpffcdlfaa.X Go.Proofs.YtkkjlbpffcdlfaaW.PrintWords Go.Proofs.YtkkjlbpffcdlfaaW.PrintLast Go.Proofs.YtkkjlbpffcdlfaaW.PrintMore
set_option linter.unusedSimpArgs false
set_option linter.unusedVariables false

theorem loops_same (a b : List Int) (n : Int) : ∀ (k : Nat),
    (∀ (m : List Bool) (c i : Int), m.length = a.length → n = a.length → impl_CountLoopsOf.l0 k a b m c n i = spec_CountLoopsOf.l0 k a b c m i) ∧
    (∀ (m : List Bool) (c x i : Int), m.length = a.length → n = a.length → impl_CountLoopsOf.l1 k a b m c x n i = spec_CountLoopsOf.l1 k a b c m i x) := by
  intro k
  induction k with
  | zero => exact ⟨fun m c i h e => rfl, fun m c x i h e => rfl⟩
  | succ k ih =>
    refine ⟨fun m c i h e => ?_, fun m c x i h e => ?_⟩
    · simp only [impl_CountLoopsOf.l0, spec_CountLoopsOf.l0]
      rw [ih.1 m c _ h e, ih.2 m _ i i h e, e]
    · simp only [impl_CountLoopsOf.l1, spec_CountLoopsOf.l1]
      rw [ih.1 m c _ h e, ih.2 ((m.set x.toNat true).set (rd a x).toNat true) c _ i (by simp [h]) e]
def unmet (m : List Bool) : Nat := m.countP (fun x => !x)
theorem unmet_set {m : List Bool} {i : Nat} (h : i < m.length) : unmet (m.set i true) ≤ unmet m ∧ (m[i] = false → unmet (m.set i true) < unmet m) := by
  induction m generalizing i with
  | nil => simp at h
  | cons x m ih =>
    cases i with
    | zero => cases x <;> simp [unmet, List.countP_cons]
    | succ i =>
      have := ih (i := i) (by simpa using h)
      simp only [unmet, List.set_cons_succ, List.countP_cons, List.getElem_cons_succ] at this ⊢
      exact ⟨by omega, fun z => by have := this.2 z; omega⟩
theorem unmet_le (m : List Bool) : unmet m ≤ m.length := List.countP_le_length
theorem rdB {m : List Bool} {i : Int} (h0 : 0 ≤ i) (h1 : i < (m.length : Int)) : rdOf false m i = m[i.toNat]'(by omega) := by
  unfold rdOf
  rw [List.getD_eq_getElem?_getD, List.getElem?_eq_getElem (by omega)]
  rfl
theorem loops_in (a b : List Int) (ha : archesOk a = true) (hb : archesOk b = true) (hl : a.length = b.length) (i : Int) (K : Nat)
    (hK : ∀ (k : Nat) (m : List Bool) (c : Int), K ≤ k → m.length = a.length → ∃ r, spec_CountLoopsOf.l0 k a b c m (i + 1) = some r) (hi0 : 0 ≤ i) (hi1 : i < (a.length : Int)) :
    ∀ (u k : Nat) (m : List Bool) (c x : Int), m.length = a.length → unmet m ≤ u → 0 ≤ x → x < (a.length : Int) → K + u + 1 ≤ k → ∃ r, spec_CountLoopsOf.l1 k a b c m i x = some r := by
  have hlen := (archesOk_parts ha).1
  intro u
  induction u with
  | zero =>
    intro k m c x hm hu h0 h1 hk
    obtain ⟨k, rfl⟩ : ∃ j, k = j + 1 := ⟨k - 1, by omega⟩
    simp only [spec_CountLoopsOf.l1]
    rw [if_pos h0, if_pos (by omega), rdB h0 (by omega), w64 (by omega) (by omega)]
    cases e : m[x.toNat]'(by omega) with
    | true => rw [if_pos rfl]; exact hK k m c (by omega) hm
    | false =>
      have := (unmet_set (m := m) (i := x.toNat) (by omega)).2 e
      omega
  | succ u ih =>
    intro k m c x hm hu h0 h1 hk
    obtain ⟨k, rfl⟩ : ∃ j, k = j + 1 := ⟨k - 1, by omega⟩
    simp only [spec_CountLoopsOf.l1]
    rw [if_pos h0, if_pos (by omega), rdB h0 (by omega), w64 (by omega) (by omega)]
    have A := arches_at ha h0 h1
    have B := arches_at hb A.1 (by have := A.2.1; omega)
    cases e : m[x.toNat]'(by omega) with
    | true => rw [if_pos rfl]; exact hK k m c (by omega) hm
    | false =>
      have u1 := (unmet_set (m := m) (i := x.toNat) (by omega)).2 e
      have u2 := (unmet_set (m := m.set x.toNat true) (i := (rd a x).toNat) (by have := A.2.1; have := A.1; simp; omega)).1
      rw [if_neg (by decide), if_pos h1, if_pos A.1, if_pos (by have := A.2.1; omega), if_pos (by have := A.2.1; omega)]
      exact ih k _ c _ (by simp [hm]) (by omega) B.1 (by have := B.2.1; omega) (by omega)
theorem loops_some (a b : List Int) (ha : archesOk a = true) (hb : archesOk b = true) (hl : a.length = b.length) :
    ∀ (d k : Nat) (m : List Bool) (c i : Int), m.length = a.length → 0 ≤ i → i ≤ (a.length : Int) → (a.length : Int) - i = d → 15 * d + 1 ≤ k → ∃ r, spec_CountLoopsOf.l0 k a b c m i = some r := by
  have hlen := (archesOk_parts ha).1
  intro d
  induction d with
  | zero =>
    intro k m c i hm h0 h1 hd hk
    obtain ⟨k, rfl⟩ : ∃ j, k = j + 1 := ⟨k - 1, by omega⟩
    refine ⟨c, ?_⟩
    simp only [spec_CountLoopsOf.l0]
    rw [if_neg (by omega)]
  | succ d ih =>
    intro k m c i hm h0 h1 hd hk
    obtain ⟨k, rfl⟩ : ∃ j, k = j + 1 := ⟨k - 1, by omega⟩
    simp only [spec_CountLoopsOf.l0]
    rw [if_pos (by omega), if_pos h0, if_pos (by omega), w64 (x := i + 1) (by omega) (by omega)]
    have hu := unmet_le m
    by_cases e : rdOf false m i = true
    · rw [if_pos e]
      exact ih k m c (i + 1) hm (by omega) (by omega) (by omega) (by omega)
    · rw [if_neg e]
      exact loops_in a b ha hb hl i (15 * d + 1) (fun k m c hk hm => ih k m c (i + 1) hm (by omega) (by omega) (by omega) hk) h0 (by omega) (unmet m) k m _ i hm (Nat.le_refl _) h0 (by omega) (by omega)
/-- The program and the reference count the same number of closed ways. -/
theorem countLoops (k : Nat) (a b : List Int) (ha : a.length ≤ 140737488355328) (hb : b.length ≤ 140737488355328) (hk : 200 ≤ k) :
    ∃ r, spec_CountLoopsOf.f k a b = some r ∧ impl_CountLoopsOf.f k a b = some r := by
  obtain ⟨k, rfl⟩ : ∃ j, k = j + 1 := ⟨k - 1, by omega⟩
  unfold spec_CountLoopsOf.f impl_CountLoopsOf.f
  rw [sArchesOk _ a ha (by omega), sArchesOk _ b hb (by omega), iArchesOk _ a ha (by omega), iArchesOk _ b hb (by omega)]
  simp only [Option.bind_some, spec_CountLoopsOf.j0, impl_CountLoopsOf.j0]
  by_cases h1 : archesOk a = true
  · by_cases h2 : archesOk b = true
    · by_cases h3 : (a.length : Int) = (b.length : Int)
      · have hlen := (archesOk_parts h1).1
        rw [if_pos h1, if_pos h2, if_pos h1, if_pos h2, if_neg (by simp [h3]), if_pos (by omega), if_pos (by omega), if_neg (by simp [h3]), if_pos (by omega), if_pos (by omega)]
        obtain ⟨r, hr⟩ := loops_some a b h1 h2 (by omega) a.length k (List.replicate ((a.length : Int)).toNat false) 0 0 (by simp) (by omega) (by omega) (by omega) (by omega)
        refine ⟨r, hr, ?_⟩
        rw [← hr]
        exact (loops_same a b _ k).1 _ 0 0 (by simp) (by simp)
      · rw [if_pos h1, if_pos h2, if_pos h1, if_pos h2]
        exact ⟨0, by rw [if_pos (by simpa using h3)], by rw [if_pos (by simpa using h3)]⟩
    · rw [if_pos h1, if_neg h2, if_pos h1, if_neg h2]
      exact ⟨0, by simp, by simp⟩
  · rw [if_neg h1, if_neg h1]
    exact ⟨0, by simp, by simp⟩
theorem isMeander (k : Nat) (a b : List Int) (ha : a.length ≤ 140737488355328) (hb : b.length ≤ 140737488355328) (hk : 200 ≤ k) :
    ∃ r, spec_IsMeander.f k a b = some r ∧ impl_IsMeander.f k a b = some r := by
  obtain ⟨r, h1, h2⟩ := countLoops k a b ha hb hk
  unfold spec_IsMeander.f impl_IsMeander.f
  rw [h1, h2]
  exact ⟨_, rfl, rfl⟩
end Go.Proofs.Ytkkjlbpffcdlfaa.L
