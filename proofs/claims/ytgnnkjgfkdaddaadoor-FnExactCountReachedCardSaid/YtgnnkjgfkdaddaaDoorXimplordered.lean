-- Written by a program of this session (xprint.py), out of the translation and of hand-written contracts. Lean checks it.
import Derived.Test.YtgnnkjgfkdaddaaDoorShelf
import Derived.Test.YtgnnkjgfkdaddaaDoorX0
namespace Go.Proofs.YtgnnkjgfkdaddaaDoor.X
open Go.RowKit Go.Proofs.YtgnnkjgfkdaddaaDoorW.PrintWords Go.Proofs.YtgnnkjgfkdaddaaDoorW.PrintLast Go.Proofs.YtgnnkjgfkdaddaaDoorW.PrintMore
attribute [local go_sem] max2_int min2_int max_two min_two max_three min_three max_four min_four   -- for this text's walks alone
set_option linter.unusedVariables false
set_option linter.unusedSimpArgs false

/-! ### impl_ordered: function 43 (by hand) -/
theorem ord_reps_of {l : List Int} {inner : List Value} (h : Reps (fun x cs => cs = [Value.int .i64 x]) 1 l inner) : inner = l.map (Value.int .i64) := by
 apply List.ext_getElem
 ·rw [h.1, List.length_map, Nat.mul_one]
 ·intro j h1 h2
  have hj : j < l.length := by simpa using h2
  have := h.2 j l[j] (List.getElem?_eq_getElem hj)
  have e : ((inner.drop (j * 1)).take 1)[0]? = some (Value.int .i64 l[j]) := by rw [this]; rfl
  rw [List.getElem?_take_of_lt (by omega), List.getElem?_drop] at e
  rw [List.getElem_map]
  have e2 : inner[j]? = some (Value.int .i64 l[j]) := by simpa using e
  rw [List.getElem?_eq_getElem h1] at e2
  exact Option.some.inj e2
theorem ord_reps_map (l : List Int) : Reps (fun x cs => cs = [Value.int .i64 x]) 1 l (l.map (Value.int .i64)) := by
 refine ⟨by simp, fun j p hj => ?_⟩
 have hl : j < l.length := (List.getElem?_eq_some_iff.1 hj).1
 apply List.ext_getElem
 ·simp; omega
 ·intro i h1 h2
  have hi : i = 0 := by simpa using h2
  subst hi
  have := (List.getElem?_eq_some_iff.1 hj).2
  simp [this]
theorem ord_compact_len (zs : List Int) : (Lib.compact zs).length ≤ zs.length := by
 unfold Lib.compact Lib.compactUpTo
 rw [List.length_map]
 exact Nat.le_trans (List.length_filter_le _ _) (by simp)
theorem ord_sort (T : TypeId) (g cap : Nat) (cur : Array Value) (l : List Int) (w : World) (hh : w.heap[g]? = some (.cells cur T (0, 0))) (hl : l.length ≤ cap) (hsz : cur.size = cap) (htk : cur.toList.take l.length = l.map (Value.int .i64)) (hb : l.length < 4611686018427387904) :
  Calls Tryd.prog 52 #[.slice (some ⟨g, 0, none⟩) l.length cap] w fun e w' => e = .returned (.tuple #[]) ∧ w.grownBy w' (some g) ∧ ∃ cur2, w'.heap[g]? = some (.cells cur2 T (0, 0)) ∧ cur2.size = cap ∧ cur2.toList.take l.length = (l.mergeSort fun x y => decide (x ≤ y)).map (Value.int .i64) := by
 have hg := (Array.getElem?_eq_some_iff.1 hh).1
 refine (Any.slices_Sort_int Tryd.laysSort g 0 cap l w (holds_of_blockI hh htk) hg hb).mono ?_
 rintro e w' ⟨rfl, n, os, rfl⟩
 refine ⟨rfl, grownBy_sortedI _, _, heap_sortedI _ hh, by simp [Sort.putCells, hsz], ?_⟩
 have := take_putCellsI cur (l.mergeSort fun x y => decide (x ≤ y)) (by rw [List.length_mergeSort]; omega)
 rwa [List.length_mergeSort] at this
theorem ord_compact (T : TypeId) (g cap : Nat) (cur : Array Value) (l : List Int) (n : Nat) (hn : n = l.length) (w : World) (hh : w.heap[g]? = some (.cells cur T (0, 0))) (hl : l.length ≤ cap) (hsz : cur.size = cap) (htk : cur.toList.take l.length = l.map (Value.int .i64)) (hb : l.length < 4611686018427387904) :
  Calls Tryd.prog 53 #[.slice (some ⟨g, 0, none⟩) n cap] w fun e w' => e = .returned (.slice (some ⟨g, 0, none⟩) (Lib.compact l).length cap) ∧ w.grownBy w' (some g) ∧ ∃ cur2, w'.heap[g]? = some (.cells cur2 T (0, 0)) ∧ cur2.size = cap ∧ cur2.toList.take (Lib.compact l).length = (Lib.compact l).map (Value.int .i64) := by
 subst hn
 have hc := ord_compact_len l
 refine (Any.slices_Compact_int Tryd.laysCompact g 0 cap l w (holds_of_blockI hh htk) (by omega) hl).mono ?_
 rintro e w' ⟨rfl, q, rfl⟩
 have hgr := grownBy_sortedI (w := w) (g := g) (n := q) (os := #[]) (Lib.compact l ++ List.replicate (l.length - (Lib.compact l).length) 0).toArray
 have hhe := heap_sortedI (w := w) (g := g) (n := q) (os := #[]) (Lib.compact l ++ List.replicate (l.length - (Lib.compact l).length) 0).toArray hh
 rw [Sort.grow_empty] at hgr hhe
 refine ⟨rfl, hgr, _, hhe, by simp [Sort.putCells, hsz], ?_⟩
 have ht := take_putCellsI cur (Lib.compact l ++ List.replicate (l.length - (Lib.compact l).length) 0) (by simp; omega)
 have h2 := congrArg (List.take (Lib.compact l).length) ht
 rw [List.take_take, Nat.min_eq_left (by simp)] at h2
 rw [h2, List.map_append, List.take_left' (by simp)]
def impl_ordered.f (l0 : List Int) : Option (List Int) := if l0.length < 4611686018427387904 then some (Lib.compact (l0.mergeSort fun x y => decide (x ≤ y))) else none
set_option maxHeartbeats 8000000 in
set_option maxRecDepth 100000 in
theorem impl_ordered.calls (P0_ : Nat → Prop) (u9000_ : Value) (l0 : List Int) (r : List Int) (w0 w : World) (hB : Below w0.heap.size w0 w) (ho0 : Kd.R (Kd.int .i64) 3 w w0.heap.size P0_ u9000_ l0) (h : impl_ordered.f l0 = some r) :
  Calls Tryd.prog 43 #[u9000_] w fun e w' => ∃ v0_ : Value, e = .returned v0_ ∧ Kd.R (Kd.int .i64) 3 w' w0.heap.size (fun k_ => (P0_ k_ ∨ w.heap.size ≤ k_)) v0_ r ∧ Below w0.heap.size w0 w' ∧ Kept w w' (fun k_ => P0_ k_) := by
 unfold impl_ordered.f at h
 by_cases c : l0.length < 4611686018427387904
 ·rw [if_pos c] at h
  obtain rfl := Option.some.inj h
  clear h
  obtain ⟨hok, inner, ⟨hlen, hcase⟩, hreps⟩ := ho0
  have hin := ord_reps_of hreps
  subst hin
  clear hreps hlen
  rcases hcase with ⟨rfl, hn⟩ | ⟨g, cap, cur, rfl, hg, hh, hcap, hmax, hsz, htk⟩
  ·obtain rfl := List.length_eq_zero_iff.mp hn
   have HB := Aside0.mk hB
   have S0 : ∀ w, Calls Tryd.prog 52 #[.slice none 0 0] w fun e w' => e = .returned (.tuple #[]) ∧ w' = w := fun w => calls_of_every_depth fun D => AnyS.slices_Sort_int_none_in Tryd.laysSort D none 0 w
   have C0 : ∀ w, Calls Tryd.prog 53 #[.slice none 0 0] w fun e w' => e = .returned (.slice none 0 0) ∧ w' = w := fun w => Any.slices_Compact_int_empty Tryd.laysCompact none 0 w
   clear hB hok hn c
   go_enter Tryd.func43, Tryd.ntmps43
   go_wp2_with (first | (go_at_call 52; refine (S0 _).mono ?_; rintro e w' ⟨rfl, rfl⟩) | (go_at_call 53; refine (C0 _).mono ?_; rintro e w' ⟨rfl, rfl⟩))
   go_ret
   have e0 : Lib.compact (([] : List Int).mergeSort fun x y => decide (x ≤ y)) = [] := by simp [Lib.compact, Lib.compactUpTo]
   exact ⟨_, rfl, by rw [e0]; exact Kd.R_nil _ _ _ _ _, HB.out, Kept.refl _ _⟩
  ·change cur.size = cap * 1 at hsz
   change cur.toList.take (l0.length * 1) = _ at htk
   rw [Nat.mul_one] at hsz htk
   have S1 := Aside0.mk (ord_sort 3 g cap cur l0 w hh hcap hsz htk c)
   have hok' : P0_ g := hok g rfl
   have F := Aside0.mk (And.intro hB (And.intro hok' (And.intro hg (And.intro hcap (And.intro hmax c)))))
   clear hB hok hok' hg hh hcap hmax hsz htk c
   go_enter Tryd.func43, Tryd.ntmps43
   go_wp2_with (first | (go_at_call 52; refine S1.out.mono ?_; rintro e w1 ⟨rfl, hgr, cur2, hh2, hsz2, htk2⟩; have G1 := Aside0.mk hgr; have S2 := Aside0.mk (ord_compact 3 g cap cur2 (l0.mergeSort fun x y => decide (x ≤ y)) l0.length (by simp) w1 hh2 (by rw [List.length_mergeSort]; exact F.out.2.2.2.1) hsz2 (by rw [List.length_mergeSort]; exact htk2) (by rw [List.length_mergeSort]; exact F.out.2.2.2.2.2)); clear hgr hh2 hsz2 htk2) | (go_at_call 53; refine S2.out.mono ?_; rintro e w2 ⟨rfl, hgr, cur3, hh3, hsz3, htk3⟩; have G2 := Aside0.mk hgr; have T2 := Aside0.mk (And.intro hh3 (And.intro hsz3 htk3)); clear hgr hh3 hsz3 htk3))
   go_ret
   obtain ⟨hB, hok', hg, hcap, hmax, c⟩ := F.out
   obtain ⟨hh3, hsz3, htk3⟩ := T2.out
   have hcl := ord_compact_len (l0.mergeSort fun x y => decide (x ≤ y))
   rw [List.length_mergeSort] at hcl
   refine ⟨_, rfl, ⟨fun k hk => ?_, (Lib.compact (l0.mergeSort fun x y => decide (x ≤ y))).map (Value.int .i64), ⟨?_, .inr ⟨g, cap, _, rfl, hg, hh3, by omega, hmax, ?_, ?_⟩⟩, ord_reps_map _⟩, ?_, ?_⟩
   ·have : g = k := by simpa [Value.ownBlock] using hk
    exact .inl (this ▸ hok')
   ·show _ = _ * 1
    simp
   ·show _ = cap * 1
    omega
   ·show cur3.toList.take (_ * 1) = _
    rw [Nat.mul_one]
    exact htk3
   ·refine Below.grown (Below.grown hB G1.out hB.size ?_) G2.out ?_ ?_
    ·rintro k ⟨⟩; exact hg
    ·exact Nat.le_trans hB.size G1.out.size
    ·rintro k ⟨⟩; exact hg
   ·refine Kept.of_grown G2.out (Kept.of_grown G1.out (Kept.refl _ _) ?_) ?_
    ·rintro k ⟨⟩; exact .inl hok'
    ·rintro k ⟨⟩; exact .inl hok'
 ·rw [if_neg c] at h
  exact absurd h (by simp)

end Go.Proofs.YtgnnkjgfkdaddaaDoor.X
