-- Written by a program of this session (xprint.py), out of the translation and of hand-written contracts. Lean checks it.
import Derived.Test.YtnfclfpicemojaaShelf
import Derived.Test.YtnfclfpicemojaaX0
namespace Go.Proofs.Ytnfclfpicemojaa.X
open Go.RowKit Go.Proofs.YtnfclfpicemojaaW.PrintWords Go.Proofs.YtnfclfpicemojaaW.PrintLast Go.Proofs.YtnfclfpicemojaaW.PrintMore
attribute [local go_sem] max2_int min2_int max_two min_two max_three min_three max_four min_four   -- for this text's walks alone
set_option linter.unusedVariables false
set_option linter.unusedSimpArgs false

/-! ### slices_Delete_int_int: function 60 (by hand) -/
theorem dlt_calls (T : TypeId) (g cap : Nat) (cur : Array Value) (l : List Int) (i j : Nat) (hij : i ≤ j) (hj : j ≤ l.length) (w : World) (hh : w.heap[g]? = some (.cells cur T (0, 0))) (hl : l.length ≤ cap) (hsz : cur.size = cap) (htk : cur.toList.take l.length = l.map (Value.int .i64)) (hb : cap ≤ 9223372036854775807) :
  Calls Try.prog 60 #[.slice (some ⟨g, 0, none⟩) l.length cap, .int .i64 i, .int .i64 j] w fun e w' => e = .returned (.slice (some ⟨g, 0, none⟩) (l.length - (j - i)) cap) ∧ w.grownBy w' (some g) ∧ ∃ cur2, w'.heap[g]? = some (.cells cur2 T (0, 0)) ∧ cur2.size = cap ∧ cur2.toList.take (l.length - (j - i)) = (l.take i ++ l.drop j).map (Value.int .i64) := by
 refine (Any.slices_Delete_int Try.laysDelete g 0 cap i j l w (holds_of_blockI hh htk) hl hb hij hj).mono ?_
 rintro e w' ⟨rfl, q, rfl⟩
 have hgr := grownBy_sortedI (w := w) (g := g) (n := q) (os := #[]) (l.take i ++ l.drop j ++ List.replicate (j - i) 0).toArray
 have hhe := heap_sortedI (w := w) (g := g) (n := q) (os := #[]) (l.take i ++ l.drop j ++ List.replicate (j - i) 0).toArray hh
 rw [Sort.grow_empty] at hgr hhe
 refine ⟨rfl, hgr, _, hhe, by simp [Sort.putCells, hsz], ?_⟩
 have hlen : (l.take i ++ l.drop j).length = l.length - (j - i) := by
  rw [List.length_append, List.length_take, List.length_drop]
  omega
 have ht := take_putCellsI cur (l.take i ++ l.drop j ++ List.replicate (j - i) 0) (by rw [List.length_append, hlen, List.length_replicate]; omega)
 have h2 := congrArg (List.take (l.length - (j - i))) ht
 rw [List.take_take, Nat.min_eq_left (by rw [List.length_append, hlen, List.length_replicate]; omega)] at h2
 rw [h2, List.map_append, List.take_left' (by rw [List.length_map, hlen])]
theorem dlt_reps_of {l : List Int} {inner : List Value} (h : Reps (fun x cs => cs = [Value.int .i64 x]) 1 l inner) : inner = l.map (Value.int .i64) := by
 apply List.ext_getElem
 ·rw [h.1, List.length_map, Nat.mul_one]
 ·intro j h1 h2
  have hj : j < l.length := by simpa using h2
  have := h.2 j l[j] (List.getElem?_eq_getElem hj)
  have e : ((inner.drop (j * 1)).take 1)[0]? = some (Value.int .i64 l[j]) := by rw [this]; rfl
  rw [List.getElem?_take_of_lt (by omega), List.getElem?_drop] at e
  rw [List.getElem_map]
  have e2 : inner[j]? = some (Value.int .i64 l[j]) := by simpa using e
  rw [List.getElem?_eq_getElem h1] at e2
  exact Option.some.inj e2
theorem dlt_reps_map (l : List Int) : Reps (fun x cs => cs = [Value.int .i64 x]) 1 l (l.map (Value.int .i64)) := by
 refine ⟨by simp, fun j p hj => ?_⟩
 have hl : j < l.length := (List.getElem?_eq_some_iff.1 hj).1
 apply List.ext_getElem
 ·simp; omega
 ·intro i h1 h2
  have hi : i = 0 := by simpa using h2
  subst hi
  have := (List.getElem?_eq_some_iff.1 hj).2
  simp [this]
def slices_Delete_int_int.f (l0 : List Int) (a1 a2 : Int) : Option (List Int) := if 0 ≤ a1 ∧ a1 < a2 ∧ a2 ≤ (l0.length : Int) then some (l0.take a1.toNat ++ l0.drop a2.toNat) else none
theorem slices_Delete_int_int.calls (P0_ : Nat → Prop) (u9000_ : Value) (l0 : List Int) (a1 a2 : Int) (r : List Int) (w0 w : World) (hB : Below w0.heap.size w0 w) (ho0 : Kd.R (Kd.int .i64) 3 w w0.heap.size P0_ u9000_ l0) (h : slices_Delete_int_int.f l0 a1 a2 = some r) :
  Calls Try.prog 60 #[u9000_, .int .i64 a1, .int .i64 a2] w fun e w' => ∃ v0_ : Value, e = .returned v0_ ∧ Kd.R (Kd.int .i64) 3 w' w0.heap.size (fun k_ => (P0_ k_ ∨ w.heap.size ≤ k_)) v0_ r ∧ Below w0.heap.size w0 w' ∧ Kept w w' (fun k_ => P0_ k_) := by
 unfold slices_Delete_int_int.f at h
 by_cases c : 0 ≤ a1 ∧ a1 < a2 ∧ a2 ≤ (l0.length : Int)
 ·rw [if_pos c] at h
  obtain rfl := Option.some.inj h
  clear h
  obtain ⟨c0, c1, c2⟩ := c
  obtain ⟨i, rfl⟩ := Int.eq_ofNat_of_zero_le c0
  obtain ⟨j, rfl⟩ := Int.eq_ofNat_of_zero_le (show 0 ≤ a2 by omega)
  simp only [Int.toNat_natCast]
  have hij : i < j := by omega
  have hj : j ≤ l0.length := by omega
  obtain ⟨hok, inner, ⟨hlen, hcase⟩, hreps⟩ := ho0
  have hin := dlt_reps_of hreps
  subst hin
  rcases hcase with ⟨rfl, hn⟩ | ⟨g, cap, cur, rfl, hg, hh, hcap, hmax, hsz, htk⟩
  ·omega
  ·change cur.size = cap * 1 at hsz
   change cur.toList.take (l0.length * 1) = _ at htk
   rw [Nat.mul_one] at hsz htk
   have hok' : P0_ g := hok g rfl
   have hgs := (Array.getElem?_eq_some_iff.1 hh).1
   refine (dlt_calls 3 g cap cur l0 i j (Nat.le_of_lt hij) hj w hh hcap hsz htk (Nat.le_trans hmax (by decide))).mono ?_
   rintro e w' ⟨rfl, hgr, cur2, hh2, hsz2, htk2⟩
   have hl : (l0.take i ++ l0.drop j).length = l0.length - (j - i) := by
    rw [List.length_append, List.length_take, List.length_drop]
    omega
   refine ⟨_, rfl, ⟨fun k hk => ?_, (l0.take i ++ l0.drop j).map (Value.int .i64), ⟨?_, .inr ⟨g, cap, _, by rw [hl], hg, hh2, by omega, hmax, ?_, ?_⟩⟩, dlt_reps_map _⟩, ?_, ?_⟩
   ·have : g = k := by simpa [Value.ownBlock] using hk
    exact .inl (this ▸ hok')
   ·show _ = _ * 1
    simp
   ·show _ = cap * 1
    omega
   ·show cur2.toList.take (_ * 1) = _
    rw [Nat.mul_one, hl]
    exact htk2
   ·refine Below.grown hB hgr hB.size ?_
    rintro k ⟨⟩; exact hg
   ·refine Kept.of_grown hgr (Kept.refl _ _) ?_
    rintro k ⟨⟩; exact .inl hok'
 ·rw [if_neg c] at h
  exact absurd h (by simp)

end Go.Proofs.Ytnfclfpicemojaa.X
