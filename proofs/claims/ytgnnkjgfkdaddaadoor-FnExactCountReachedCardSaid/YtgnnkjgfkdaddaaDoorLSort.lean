/- A list in ascending order, each number once: what slices.Sort and slices.Compact make of it. -/
import Derived.Test.YtgnnkjgfkdaddaaDoorXimplordered
import Derived.Test.YtgnnkjgfkdaddaaDoorLBase
namespace Go.Proofs.YtgnnkjgfkdaddaaDoor.L
open Go.RowKit Go.Proofs.YtgnnkjgfkdaddaaDoor.X Go.Proofs.YtgnnkjgfkdaddaaDoorW.PrintWords Go.Proofs.YtgnnkjgfkdaddaaDoorW.PrintLast Go.Proofs.YtgnnkjgfkdaddaaDoorW.PrintMore
set_option linter.unusedSimpArgs false
set_option linter.unusedVariables false

/-- In ascending order, each once. -/
def ord (l : List Int) : List Int := Lib.compact (l.mergeSort fun x y => decide (x ≤ y))
theorem iOrdered (l : List Int) (h : l.length < 4611686018427387904) : impl_ordered.f l = some (ord l) := by
  unfold impl_ordered.f
  rw [if_pos h]
  rfl
theorem arr_get (zs : List Int) (i : Nat) (h : i < zs.length) : zs.toArray[i]! = zs[i] := by
  rw [getElem!_pos zs.toArray i (by simpa using h)]
  simp
theorem compact_mem (zs : List Int) (x : Int) : x ∈ Lib.compact zs ↔ x ∈ zs := by
  unfold Lib.compact Lib.compactUpTo
  simp only [List.mem_map, List.mem_filter, List.mem_range]
  constructor
  · rintro ⟨i, ⟨hi, _⟩, rfl⟩
    rw [arr_get zs i hi]
    exact List.getElem_mem hi
  · intro h
    obtain ⟨n, hn, rfl⟩ := List.getElem_of_mem h
    have : ∀ n (hn : n < zs.length), ∃ a, (a < zs.length ∧ Lib.keeps zs.toArray a = true) ∧ zs.toArray[a]! = zs[n] := by
      intro n
      induction n with
      | zero => exact fun hn => ⟨0, ⟨hn, by simp [Lib.keeps]⟩, arr_get zs 0 hn⟩
      | succ n ih =>
        intro hn
        by_cases e : zs[n + 1] = zs[n]
        · obtain ⟨a, h1, h2⟩ := ih (by omega)
          exact ⟨a, h1, by rw [h2, e]⟩
        · refine ⟨n + 1, ⟨hn, ?_⟩, arr_get zs (n + 1) hn⟩
          apply Lib.keeps_pos
          rw [arr_get zs (n + 1) hn, Nat.add_sub_cancel, arr_get zs n (by omega)]
          exact e
    exact this n hn
theorem sorted_get {zs : List Int} (hs : zs.Pairwise (· ≤ ·)) {i j : Nat} (hj : j < zs.length) (hij : i ≤ j) : zs[i] ≤ zs[j] := by
  rcases Nat.lt_or_ge i j with h | h
  · exact List.pairwise_iff_getElem.1 hs i j (by omega) hj h
  · have : i = j := by omega
    subst this
    exact Int.le_refl _
theorem compact_strict (zs : List Int) (hs : zs.Pairwise (· ≤ ·)) : (Lib.compact zs).Pairwise (· < ·) := by
  unfold Lib.compact Lib.compactUpTo
  rw [List.pairwise_map, List.pairwise_filter]
  refine List.Pairwise.imp_of_mem ?_ List.pairwise_lt_range
  intro i j hi hj hij ki kj
  have hj' := List.mem_range.1 hj
  rw [arr_get zs i (by omega), arr_get zs j hj']
  unfold Lib.keeps at kj
  have kj' := of_decide_eq_true kj
  rcases kj' with e | e
  · omega
  · rw [arr_get zs j hj', arr_get zs (j - 1) (by omega)] at e
    have h1 := sorted_get hs (i := i) (j := j - 1) (by omega) (by omega)
    have h2 := sorted_get hs (i := j - 1) (j := j) hj' (by omega)
    omega
theorem ms_sorted (l : List Int) : (l.mergeSort fun x y => decide (x ≤ y)).Pairwise (· ≤ ·) := by
  have h := List.pairwise_mergeSort (le := fun x y : Int => decide (x ≤ y)) (fun a b c h1 h2 => by simp at *; omega) (fun a b => by simp; omega) l
  exact h.imp (fun h => by simpa using h)
theorem ord_mem (l : List Int) (x : Int) : x ∈ ord l ↔ x ∈ l := by
  unfold ord
  rw [compact_mem, List.mem_mergeSort]
theorem ord_strict (l : List Int) : (ord l).Pairwise (· < ·) := compact_strict _ (ms_sorted l)
/-- Two lists in ascending order with the same members are one. -/
theorem strict_ext : ∀ {a b : List Int}, a.Pairwise (· < ·) → b.Pairwise (· < ·) → (∀ x, x ∈ a ↔ x ∈ b) → a = b
  | [], [], _, _, _ => rfl
  | [], y :: b, _, _, h => absurd ((h y).2 List.mem_cons_self) (by simp)
  | x :: a, [], _, _, h => absurd ((h x).1 List.mem_cons_self) (by simp)
  | x :: a, y :: b, ha, hb, h => by
    rw [List.pairwise_cons] at ha hb
    have e : x = y := by
      have h1 := (h x).1 List.mem_cons_self
      have h2 := (h y).2 List.mem_cons_self
      rcases List.mem_cons.1 h1 with h1 | h1
      · exact h1
      · rcases List.mem_cons.1 h2 with h2 | h2
        · exact h2.symm
        · have := ha.1 _ h2
          have := hb.1 _ h1
          omega
    subst e
    refine congrArg (x :: ·) (strict_ext ha.2 hb.2 (fun z => ?_))
    have hz := h z
    rw [List.mem_cons, List.mem_cons] at hz
    constructor
    · intro m
      rcases hz.1 (.inr m) with e | e
      · subst e
        have := ha.1 _ m
        omega
      · exact e
    · intro m
      rcases hz.2 (.inr m) with e | e
      · subst e
        have := hb.1 _ m
        omega
      · exact e
/-- As many as the list, just if none is there twice. -/
theorem ord_length (l : List Int) : (ord l).length = l.length ↔ l.Nodup := by
  have hp := List.mergeSort_perm l (fun x y : Int => decide (x ≤ y))
  constructor
  · intro h
    have h1 : (Lib.compact (l.mergeSort fun x y => decide (x ≤ y))).length = (l.mergeSort fun x y => decide (x ≤ y)).length := by
      rw [List.length_mergeSort]; exact h
    have h2 := compact_strict _ (ms_sorted l)
    generalize (l.mergeSort fun x y => decide (x ≤ y)) = zs at h1 h2 hp
    refine hp.nodup_iff.1 ?_
    have h3 : ∀ j, j < zs.length → Lib.keeps zs.toArray j = true := by
      unfold Lib.compact Lib.compactUpTo at h1
      rw [List.length_map] at h1
      have h4 : ((List.range zs.length).filter (Lib.keeps zs.toArray)).length = (List.range zs.length).length := by rw [h1, List.length_range]
      have h5 := List.length_filter_eq_length_iff.1 h4
      exact fun j hj => h5 j (List.mem_range.2 hj)
    have h6 : Lib.compact zs = zs := by
      unfold Lib.compact
      rw [Lib.compactUpTo_all _ _ h3]
      have := Lib.range_map_get zs.toArray
      simpa using this
    rw [h6] at h2
    exact h2.imp (fun h => by omega)
  · intro h
    have hn := hp.nodup_iff.2 h
    have hs := ms_sorted l
    have e : ord l = l.mergeSort fun x y => decide (x ≤ y) := by
      refine strict_ext (ord_strict l) ?_ (fun x => by rw [ord_mem, List.mem_mergeSort])
      refine (hs.and hn).imp (fun h => ?_)
      omega
    rw [e, List.length_mergeSort]
theorem nums_strict (n : Nat) (p : Nat → Bool) : (((List.range n).filter p).map fun k : Nat => (k : Int)).Pairwise (· < ·) := by
  rw [List.pairwise_map, List.pairwise_filter]
  exact (List.pairwise_lt_range (n := n)).imp (fun {a b} hab _ _ => Int.ofNat_lt.2 hab)
/-- Of the numbers below n: those that are on the list. -/
theorem ord_range (n : Nat) (l : List Int) (h : ∀ x ∈ l, 0 ≤ x ∧ x < (n : Int)) : ord l = ((List.range n).filter fun k : Nat => decide ((k : Int) ∈ l)).map fun k : Nat => (k : Int) := by
  refine strict_ext (ord_strict l) (nums_strict n _) (fun x => ?_)
  rw [ord_mem]
  simp only [List.mem_map, List.mem_filter, List.mem_range, decide_eq_true_eq]
  constructor
  · intro hx
    obtain ⟨h0, h1⟩ := h x hx
    exact ⟨x.toNat, ⟨by omega, by rw [Int.toNat_of_nonneg h0]; exact hx⟩, Int.toNat_of_nonneg h0⟩
  · rintro ⟨k, ⟨_, hk⟩, rfl⟩
    exact hk
end Go.Proofs.YtgnnkjgfkdaddaaDoor.L
