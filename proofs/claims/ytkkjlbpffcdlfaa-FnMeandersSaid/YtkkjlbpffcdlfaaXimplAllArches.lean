-- Written by a program of this session (xprint.py), out of the translation and of hand-written contracts. Lean checks it.
import Derived.Test.YtkkjlbpffcdlfaaShelf
import Derived.Test.YtkkjlbpffcdlfaaX0
import Derived.Test.YtkkjlbpffcdlfaaXcmpCompareint
import Derived.Test.YtkkjlbpffcdlfaaXcmpisNaNint
import Derived.Test.YtkkjlbpffcdlfaaXimplarches
import Derived.Test.YtkkjlbpffcdlfaaXslicesCompareintint
namespace Go.Proofs.Ytkkjlbpffcdlfaa.X
open Go.RowKit Go.Proofs.YtkkjlbpffcdlfaaW.PrintWords Go.Proofs.YtkkjlbpffcdlfaaW.PrintLast Go.Proofs.YtkkjlbpffcdlfaaW.PrintMore
attribute [local go_sem] max2_int min2_int max_two min_two max_three min_three max_four min_four   -- for this text's walks alone
set_option linter.unusedVariables false
set_option linter.unusedSimpArgs false

/-! ### impl_AllArches: function 16 (by hand) -/
open Go.Sort Go.Shelf in
theorem AA.grown {α : Type} [Inhabited α] (enc : α → Value) {w : World} {g n : Nat} {os : Array Obj} (d : Array α) : w.grownBy (sortWorld enc w g 0 n d os) (some g) := by
 refine ⟨rfl, rfl, rfl, by simp [sortWorld], fun k hk hne => ?_⟩
 unfold sortWorld
 rw [heap_grow_old _ _ (by simpa using hk)]
 have : g ≠ k := fun e => hne (by rw [e])
 simp [putRow, mapBlock, Sort.ahead, Array.getElem?_modify, this]
open Go.Sort Go.Shelf in
theorem AA.heap {α : Type} [Inhabited α] (enc : α → Value) {w : World} {g n : Nat} {os : Array Obj} {cur : Array Value} {e : TypeId} {fr : Nat × Nat} (d : Array α) (hb : w.heap[g]? = some (.cells cur e fr)) :
  (sortWorld enc w g 0 n d os).heap[g]? = some (.cells (putCells enc 0 d cur) e fr) := by
 have hg : g < w.heap.size := (Array.getElem?_eq_some_iff.1 hb).1
 unfold sortWorld
 rw [heap_grow_old _ _ (by simpa using hg)]
 simp [putRow, mapBlock, Sort.ahead, Array.getElem?_modify, hb, onCells]
/-- Go's order of two rows. -/
def AA.cmp : List Int → List Int → Int
 | [], [] => 0
 | [], _ :: _ => -1
 | _ :: _, [] => 1
 | x :: xs, y :: ys => if x < y then -1 else if x > y then 1 else AA.cmp xs ys
theorem AA.cmp_refl : ∀ a : List Int, AA.cmp a a = 0
 | [] => rfl
 | x :: xs => by rw [AA.cmp, if_neg (Int.lt_irrefl x), if_neg (Int.lt_irrefl x), AA.cmp_refl xs]
theorem AA.cmp_eq : ∀ a b : List Int, AA.cmp a b = 0 → a = b
 | [], [], _ => rfl
 | [], _ :: _, h => by cases h
 | _ :: _, [], h => by cases h
 | x :: xs, y :: ys, h => by
  rw [AA.cmp] at h
  by_cases c : x < y
  ·rw [if_pos c] at h; cases h
  ·rw [if_neg c] at h
   by_cases e : x > y
   ·rw [if_pos e] at h; cases h
   ·rw [if_neg e] at h
    rw [show x = y by omega, AA.cmp_eq xs ys h]
theorem AA.cmp_swap : ∀ a b : List Int, AA.cmp a b = - AA.cmp b a
 | [], [] => rfl
 | [], _ :: _ => rfl
 | _ :: _, [] => rfl
 | x :: xs, y :: ys => by
  have ih := AA.cmp_swap xs ys
  rw [AA.cmp, AA.cmp]
  by_cases c : x < y
  ·rw [if_pos c, if_neg (show ¬ y < x by omega), if_pos (show y > x by omega)]
  ·by_cases e : x > y
   ·rw [if_neg c, if_pos e, if_pos (show y < x by omega)]; rfl
   ·rw [if_neg c, if_neg e, if_neg (show ¬ y < x by omega), if_neg (show ¬ y > x by omega)]
    exact ih
theorem AA.cmp_trans : ∀ a b c : List Int, AA.cmp a b < 0 → AA.cmp b c < 0 → AA.cmp a c < 0
 | [], [], _, h, _ => by simp [AA.cmp] at h
 | _ :: _, [], _, h, _ => by simp [AA.cmp] at h
 | _, _ :: _, [], _, h => by simp [AA.cmp] at h
 | [], _ :: _, _ :: _, _, _ => by simp [AA.cmp]
 | x :: xs, y :: ys, z :: zs, h1, h2 => by
  have ih := AA.cmp_trans xs ys zs
  rw [AA.cmp] at h1 h2 ⊢
  by_cases c : x < y
  ·by_cases d : y < z
   ·rw [if_pos (show x < z by omega)]; decide
   ·rw [if_neg d] at h2
    by_cases e : y > z
    ·rw [if_pos e] at h2; omega
    ·rw [if_pos (show x < z by omega)]; decide
  ·rw [if_neg c] at h1
   by_cases e : x > y
   ·rw [if_pos e] at h1; omega
   ·rw [if_neg e] at h1
    by_cases d : y < z
    ·rw [if_pos (show x < z by omega)]; decide
    ·rw [if_neg d] at h2
     by_cases f : y > z
     ·rw [if_pos f] at h2; omega
     ·rw [if_neg f] at h2
      rw [if_neg (show ¬ x < z by omega), if_neg (show ¬ x > z by omega)]
      exact ih h1 h2
theorem AA.le_trans (a b c : List Int) (h1 : AA.cmp a b ≤ 0) (h2 : AA.cmp b c ≤ 0) : AA.cmp a c ≤ 0 := by
 by_cases e : AA.cmp a b = 0
 ·rw [AA.cmp_eq a b e]; exact h2
 ·by_cases f : AA.cmp b c = 0
  ·rw [← AA.cmp_eq b c f]; exact h1
  ·have := AA.cmp_trans a b c (by omega) (by omega); omega
def AA.le (a b : List Int) : Bool := decide (AA.cmp a b ≤ 0)
theorem AA.le_tr (a b c : List Int) (h1 : AA.le a b = true) (h2 : AA.le b c = true) : AA.le a c = true := decide_eq_true (AA.le_trans a b c (of_decide_eq_true h1) (of_decide_eq_true h2))
theorem AA.le_tot (a b : List Int) : (AA.le a b || AA.le b a) = true := by
 have := AA.cmp_swap a b
 unfold AA.le
 rw [Bool.or_eq_true, decide_eq_true_eq, decide_eq_true_eq]
 omega
theorem AA.f_go (a b : List Int) (ha : a.length ≤ 1000) (hb : b.length ≤ 1000) : ∀ (d k : Nat) (i : Int), 0 ≤ i → i ≤ (a.length : Int) → i ≤ (b.length : Int) → (a.length : Int) - i = d → d < k → slices_Compare_int_int.l0 k a b a (a.length : Int) i = some (AA.cmp (a.drop i.toNat) (b.drop i.toNat)) := by
 have rdc : ∀ (l : List Int) (i : Int), 0 ≤ i → i < (l.length : Int) → l.drop i.toNat = rd l i :: l.drop (i + 1).toNat := fun l i h0 h1 => by
  have e : rd l i = l[i.toNat]'(by omega) := by
   unfold rd
   rw [List.getD_eq_getElem?_getD, List.getElem?_eq_getElem (show i.toNat < l.length by omega)]
   rfl
  rw [e, List.drop_eq_getElem_cons (by omega), show (i + 1).toNat = i.toNat + 1 by omega]
 intro d
 induction d with
 | zero =>
  intro k i h0 h1 h2 hd hk
  obtain ⟨k, rfl⟩ : ∃ m, k = m + 1 := ⟨k - 1, by omega⟩
  rw [slices_Compare_int_int.l0, if_neg (by omega), List.drop_of_length_le (show a.length ≤ i.toNat by omega)]
  by_cases e : (a.length : Int) < (b.length : Int)
  ·rw [if_pos e, rdc b i h0 (by omega)]
   rfl
  ·rw [if_neg e, List.drop_of_length_le (show b.length ≤ i.toNat by omega)]
   rfl
 | succ d ih =>
  intro k i h0 h1 h2 hd hk
  obtain ⟨k, rfl⟩ : ∃ m, k = m + 1 := ⟨k - 1, by omega⟩
  rw [slices_Compare_int_int.l0, if_pos (by omega), if_pos h0, if_pos (by omega), rdc a i h0 (by omega)]
  by_cases e : i ≥ (b.length : Int)
  ·rw [if_pos e, List.drop_of_length_le (show b.length ≤ i.toNat by omega)]
   rfl
  ·have hw : wrap64 (i + 1) = i + 1 := by unfold wrap64; omega
   have hN : ∀ x : Int, (x != x) = false := fun x => bne_self_eq_false x
   rw [if_neg e, if_pos (by omega), rdc b i h0 (by omega), hw]
   unfold cmp_Compare_int.f cmp_isNaN_int.f
   simp only [Option.bind_some, hN, Bool.false_eq_true, if_false]
   rw [AA.cmp]
   by_cases c : rd a i < rd b i
   ·rw [if_pos c, if_pos c]; rfl
   ·rw [if_neg c, if_neg c]
    by_cases g : rd a i > rd b i
    ·rw [if_pos g, if_pos g]; rfl
    ·rw [if_neg g, if_neg g]
     exact ih k (i + 1) (by omega) (by omega) (by omega) (by omega) (by omega)
theorem AA.f_eq (a b : List Int) (ha : a.length ≤ 1000) (hb : b.length ≤ 1000) : slices_Compare_int_int.f 1001 a b = some (AA.cmp a b) := by
 unfold slices_Compare_int_int.f
 rw [AA.f_go a b ha hb a.length 1001 0 (by omega) (by omega) (by omega) (by omega) (by omega)]
 rfl
/-- The row of rows, sorted by the library. -/
theorem AA.sort {w : World} {base : Nat} {ok : Nat → Prop} {g cap : Nat} {L : List (List Int)} (hS : Kd.S (Kd.slice 3 (Kd.int .i64)) 22 w base ok (.slice (some ⟨g, 0, none⟩) L.length cap) L) (h0 : 0 < L.length) (h1 : L.length < 1000) (h2 : ∀ r ∈ L, r.length < 1000) :
  Calls Try.prog 33 #[.slice (some ⟨g, 0, none⟩) L.length cap, .func (.func 34) #[] #[]] w fun e w' => e = .returned (.tuple #[]) ∧ w.grownBy w' (some g) ∧ Kd.S (Kd.slice 3 (Kd.int .i64)) 22 w' base ok (.slice (some ⟨g, 0, none⟩) L.length cap) (L.mergeSort AA.le) := by
 obtain ⟨f, hok0, inner, ho, hr⟩ := hS
 rw [List.length_zipIdx] at ho
 obtain ⟨hlen, hcase⟩ := ho
 rcases hcase with ⟨hv, _⟩ | ⟨g', cap', cur, hv, hg, hh, hcap, hmax, hsz, htk⟩
 ·cases hv
 injection hv with e1 e2 e3
 injection e1 with e1
 injection e1 with e1 _ _
 subst e1
 subst e3
 change inner.length = L.length * 1 at hlen
 change cur.size = cap * 1 at hsz
 change cur.toList.take (L.length * 1) = inner at htk
 rw [Nat.mul_one] at hlen hsz htk
 have hok : ok g := hok0 g rfl
 -- the elements, one by one
 have hel : ∀ j, (hj : j < L.length) → ∃ v, inner[j]? = some v ∧ (Kd.int .i64).R 3 w base (fun k => (ok k ∧ some k ≠ (Value.slice (some ⟨g, 0, none⟩) L.length cap).ownBlock) ∧ f k = j) v L[j] := fun j hj => by
  obtain ⟨v, hv, hR⟩ := hr.2 j (L[j], j) (Kd.zip_at (List.getElem?_eq_getElem hj))
  refine ⟨v, ?_, hR⟩
  have e : ((inner.drop (j * 1)).take 1)[0]? = some v := by rw [show (inner.drop (j * 1)).take 1 = [v] from hv]; rfl
  rw [List.getElem?_take_of_lt (by omega), List.getElem?_drop] at e
  simpa using e
 obtain ⟨enc, henc⟩ : ∃ enc : Nat → Value, enc = fun i => inner.getD i (.slice none 0 0) := ⟨_, rfl⟩
 have encj : ∀ j, (hj : j < L.length) → (Kd.int .i64).R 3 w base (fun k => (ok k ∧ some k ≠ (Value.slice (some ⟨g, 0, none⟩) L.length cap).ownBlock) ∧ f k = j) (enc j) L[j] := fun j hj => by
  obtain ⟨v, e, hR⟩ := hel j hj
  rw [henc]
  show Kd.R _ _ _ _ _ (inner.getD j (.slice none 0 0)) _
  rw [List.getD_eq_getElem?_getD, e]
  exact hR
 have encn : ∀ j, ¬ j < L.length → enc j = .slice none 0 0 := fun j hj => by
  rw [henc]
  show inner.getD j (.slice none 0 0) = _
  rw [List.getD_eq_getElem?_getD, List.getElem?_eq_none (by omega)]
  rfl
 obtain ⟨row, hrow⟩ : ∃ row : Nat → List Int, row = fun i => L.getD i [] := ⟨_, rfl⟩
 have rowj : ∀ j, (hj : j < L.length) → row j = L[j] := fun j hj => by
  rw [hrow]
  show L.getD j [] = _
  rw [List.getD_eq_getElem?_getD, List.getElem?_eq_getElem hj]
  rfl
 have rown : ∀ j, ¬ j < L.length → row j = [] := fun j hj => by
  rw [hrow]
  show L.getD j [] = _
  rw [List.getD_eq_getElem?_getD, List.getElem?_eq_none (by omega)]
  rfl
 have rows : ∀ j, (row j).length < 1000 := fun j => by
  by_cases hj : j < L.length
  ·rw [rowj j hj]; exact h2 _ (List.getElem_mem hj)
  ·rw [rown j hj]; simp
 have reads : ∀ (j : Nat) (W : World), w.grownBy W (some g) → ∃ A c, enc j = .slice A (row j).length c ∧ (row j).length ≤ c ∧ (Kd.int .i64).C W A (row j).length (row j) := fun j W hG => by
  by_cases hj : j < L.length
  ·have hR := Kd.R_step (w1 := W) (encj j hj) (fun k hk hlt => hG.block k hlt (by have := hk.1.2; simpa [Value.ownBlock] using this))
   rw [rowj j hj]
   exact Kd.R_reads hR
  ·rw [rown j hj, encn j hj]
   exact ⟨none, 0, rfl, Nat.le_refl _, Kd.C_nil _ _⟩
 have hone : OneCell enc := fun j => by
  obtain ⟨A, c, e, _⟩ := reads j w ⟨rfl, rfl, rfl, Nat.le_refl _, fun k hk hne => rfl⟩
  rw [e]
  rfl
 have hcmp : CmpReads Try.prog 34 #[] enc (fun i j => AA.cmp (row i) (row j)) g 0 L.length w := fun m os dk _ x y => by
  have hG := AA.grown enc (w := w) (g := g) (n := m) (os := os) dk
  obtain ⟨A0, c0, ex, l0, r0⟩ := reads x _ hG
  obtain ⟨A1, c1, ey, l1, r1⟩ := reads y _ hG
  rw [ex, ey]
  refine (slices_Compare_int_int.calls 1001 A0 c0 (row x) A1 c1 (row y) (AA.cmp (row x) (row y)) _ r0 l0 r1 l1 (AA.f_eq _ _ (Nat.le_of_lt (rows x)) (Nat.le_of_lt (rows y)))).mono ?_
  rintro e w' ⟨rfl, ⟨q, rfl⟩⟩
  exact ⟨rfl, q, rfl⟩
 have hswo : Go.Sort.SWO (ltOf fun i j => AA.cmp (row i) (row j)) := by
  refine ⟨fun x => ?_, fun x y z p q => ?_, fun x y z p q => ?_⟩
  ·exact decide_eq_false (show ¬ AA.cmp (row x) (row x) < 0 by rw [AA.cmp_refl]; decide)
  ·exact decide_eq_true (AA.cmp_trans _ _ _ (of_decide_eq_true p) (of_decide_eq_true q))
  ·have p' : ¬ AA.cmp (row x) (row y) < 0 := of_decide_eq_false p
   have q' : ¬ AA.cmp (row y) (row z) < 0 := of_decide_eq_false q
   refine decide_eq_false fun c => ?_
   have c : AA.cmp (row x) (row z) < 0 := c
   have s1 := AA.cmp_swap (row x) (row y)
   have s2 := AA.cmp_swap (row y) (row z)
   have s3 := AA.cmp_swap (row x) (row z)
   have := AA.le_trans (row z) (row y) (row x) (by omega) (by omega)
   omega
 have eg : ∀ args w, (callFunc 34 args).run Try.prog w = .ok (.enter 34 args) w := enters_of Try.func34 (by kernel_rfl) rfl
 have hd : ∀ j, j < L.length → (List.range L.length).toArray[j]! = j := fun j hj => by simp [hj]
 have hH : Go.Sort.Holds enc w g 0 (List.range L.length).toArray := by
  intro j hj
  have hj' : j < L.length := by simpa using hj
  refine ⟨?_, by simp [World.frozen?, hh]⟩
  rw [hd j hj', Nat.zero_add, henc]
  show _ = some (inner.getD j (.slice none 0 0))
  have h3 : (cur.toList.take L.length)[j]? = inner[j]? := by rw [htk]
  rw [List.getElem?_take_of_lt hj'] at h3
  obtain ⟨v, e, _⟩ := hel j hj'
  rw [List.getD_eq_getElem?_getD, e]
  rw [e] at h3
  simp only [World.cell?, hh]
  simp only [Option.isSome_none, Bool.false_eq_true, if_false]
  rw [← Array.getElem?_toList, h3]
  rfl
 have hblk : g < w.heap.size := (Array.getElem?_eq_some_iff.1 hh).1
 have hs := Any.slices_SortFunc Try.sortRows enc hone (fun i j => AA.cmp (row i) (row j)) hswo 34 #[] g 0 cap (List.range L.length).toArray w eg (by have := hcmp.lays; simpa using this) hH hblk (by simp; omega)
 rw [show (List.range L.length).toArray.size = L.length by simp] at hs
 refine (show Calls Try.prog 33 _ _ _ from hs).mono ?_
 rintro e w' ⟨rfl, d', n, os, hperm, hsort, rfl⟩
 have hG := AA.grown enc (w := w) (g := g) (n := n) (os := os) d'
 refine ⟨rfl, hG, ?_⟩
 obtain ⟨hdsz, _, hp⟩ := hperm
 have hdsz : d'.size = L.length := by simpa using hdsz
 obtain ⟨ix, hix⟩ : ∃ ix, ix = d'.toList := ⟨_, rfl⟩
 have hpix : ix.Perm (List.range L.length) := by
  have e : d'.extract 0 L.length = d' := by rw [← hdsz, Array.extract_size]
  have e2 : (List.range L.length).toArray.extract 0 L.length = (List.range L.length).toArray := by
   simp
  rw [e, e2] at hp
  rw [hix]
  simpa using hp
 have hixn : ix.Nodup := (hpix.nodup_iff).2 List.nodup_range
 have hixl : ix.length = L.length := by rw [hpix.length_eq, List.length_range]
 have hixm : ∀ i ∈ ix, i < L.length := fun i hi => List.mem_range.1 (hpix.mem_iff.1 hi)
 have dget : ∀ j, (hj : j < L.length) → d'[j]! = ix[j]'(by omega) := fun j hj => by
  subst hix
  rw [getElem!_pos d' j (by omega)]
  rfl
 have hres : ix.map row = L.mergeSort AA.le := by
  have pr : (ix.map row).Perm L := by
   have := hpix.map row
   have e : (List.range L.length).map row = L := by
    apply List.ext_getElem
    ·simp
    ·intro j a b
     rw [List.getElem_map, List.getElem_range]
     exact rowj j b
   rwa [e] at this
  refine List.Perm.eq_of_pairwise (le := fun a b => AA.le a b = true) (fun a b _ _ p q => AA.cmp_eq a b ?_) ?_ ?_ (pr.trans (List.mergeSort_perm L AA.le).symm)
  ·have p' := of_decide_eq_true p
   have q' := of_decide_eq_true q
   have := AA.cmp_swap a b
   omega
  ·rw [List.pairwise_iff_getElem]
   intro i j hi hj hij
   rw [List.length_map] at hi hj
   have := hsort i j (Nat.zero_le _) hij (by omega)
   rw [dget i (by omega), dget j (by omega)] at this
   have h5 : ¬ AA.cmp (row ix[j]) (row ix[i]) < 0 := of_decide_eq_false this
   rw [List.getElem_map, List.getElem_map]
   refine decide_eq_true ?_
   have := AA.cmp_swap (row ix[j]) (row ix[i])
   omega
  ·exact List.pairwise_mergeSort AA.le_tr AA.le_tot L
 rw [← hres]
 refine ⟨fun k => ix.idxOf (f k), hok0, ix.map enc, ?_, ?_, fun j p hj => ?_⟩
 ·rw [List.length_zipIdx, List.length_map]
  refine ⟨by show _ = _ * 1; simp, .inr ⟨g, cap, _, by rw [hixl], hg, AA.heap enc d' hh, by omega, hmax, by show _ = cap * 1; simp [Go.Sort.putCells]; omega, ?_⟩⟩
  show List.take (ix.length * 1) _ = _
  rw [Nat.mul_one]
  apply List.ext_getElem?
  intro j
  by_cases hj : j < ix.length
  ·rw [List.getElem?_take_of_lt hj, Array.getElem?_toList]
   have hj2 : j < d'.size := by omega
   have hj3 : j < cur.size := by omega
   have := dget j (by omega)
   simp [Go.Sort.putCells, hj2, hj3, hj, this]
   subst hix
   rfl
  ·rw [List.getElem?_take_eq_none (by omega), List.getElem?_eq_none (by simp; omega)]
 ·rw [List.length_zipIdx, List.length_map, List.length_map]
  show _ = _ * 1
  omega
 ·have hjl : j < ix.length := by
   have := (List.getElem?_eq_some_iff.1 hj).1
   simpa using this
  have hp : p = ((ix.map row)[j]'(by simpa using hjl), j) := by
   have := (List.getElem?_eq_some_iff.1 hj).2
   rw [← this]
   simp
  subst hp
  have hm := hixm _ (List.getElem_mem hjl)
  refine ⟨enc ix[j], ?_, ?_⟩
  ·show ((ix.map enc).drop (j * 1)).take 1 = [enc ix[j]]
   rw [Nat.mul_one, List.drop_eq_getElem_cons (show j < (ix.map enc).length by simpa using hjl)]
   simp
  ·rw [List.getElem_map, rowj _ hm]
   refine Kd.R_mono (Kd.R_step (encj ix[j] hm) (fun k hk hlt => hG.block k hlt (by have := hk.1.2; simpa [Value.ownBlock] using this))) (fun k hk => ⟨⟨hk.1.1, ?_⟩, ?_⟩)
   ·have := hk.1.2
    simpa [Value.ownBlock] using this
   ·show ix.idxOf (f k) = j
    rw [hk.2]
    exact hixn.idxOf_getElem j hjl
def impl_AllArches.f (k : Nat) (a0 : Int) : Option (List (List Int)) := if a0 < 1 then some [] else if a0 > 5 then some [] else (impl_arches.f k (wrap64 (2 * a0)) 0).bind fun L => if 0 < L.length ∧ L.length < 1000 ∧ ∀ r ∈ L, r.length < 1000 then some (L.mergeSort AA.le) else none
theorem impl_AllArches.mono : ∀ a0 k, LeO (impl_AllArches.f k a0) (impl_AllArches.f (k + 1) a0) := fun a0 k => by
 unfold impl_AllArches.f
 exact LeO.ite (LeO.refl _) (LeO.ite (LeO.refl _) (LeO.bind (impl_arches.mono _ _ _) (fun _ => LeO.refl _)))
set_option maxHeartbeats 8000000 in
set_option maxRecDepth 100000 in
theorem impl_AllArches.calls (k : Nat) (a0 : Int) (r : List (List Int)) (w : World) (h : impl_AllArches.f k a0 = some r) :
  Calls Try.prog 16 #[.int .i64 a0] w fun e w' => ∃ v0_ : Value, e = .returned v0_ ∧ Kd.S (Kd.slice 3 (Kd.int .i64)) 22 w' w.heap.size (fun _ => True) v0_ r ∧ Below w.heap.size w w' := by
 unfold impl_AllArches.f at h
 by_cases c1 : a0 < 1
 ·rw [if_pos c1] at h
  obtain rfl := Option.some.inj h
  have c1b : decide (a0 < 1) = true := decide_eq_true c1
  clear h c1
  go_enter Try.func16, Try.ntmps16
  go_wp2
  go_ret
  exact ⟨_, rfl, Kd.S_nil _ _ _ _ _, Below.refl _ _⟩
 ·rw [if_neg c1] at h
  have c1b : decide (a0 < 1) = false := decide_eq_false c1
  clear c1
  by_cases c2 : a0 > 5
  ·rw [if_pos c2] at h
   obtain rfl := Option.some.inj h
   have c2b : decide (5 < a0) = true := decide_eq_true c2
   clear h c2
   go_enter Try.func16, Try.ntmps16
   go_wp2
   go_ret
   exact ⟨_, rfl, Kd.S_nil _ _ _ _ _, Below.refl _ _⟩
  ·rw [if_neg c2] at h
   have c2b : decide (5 < a0) = false := decide_eq_false c2
   clear c2
   obtain ⟨L, hL, h⟩ := Option.bind_eq_some_iff.mp h
   by_cases c3 : 0 < L.length ∧ L.length < 1000 ∧ ∀ r ∈ L, r.length < 1000
   ·rw [if_pos c3] at h
    obtain rfl := Option.some.inj h
    have A1 := Aside0.mk hL
    have A2 := Aside0.mk c3
    clear h hL c3
    go_enter Try.func16, Try.ntmps16
    go_wp2_with (first | (go_at_call 32; refine (impl_arches.calls k _ _ L _ A1.out).mono ?_; rintro e w1 ⟨v0_, rfl, hS, hb⟩; obtain ⟨g0_, cap0_, rfl, hg0_, _, _⟩ := Kd.S_form hS A2.out.1; have S1 := Aside0.mk hS; have B1 := Aside0.mk hb; have G1 := Aside0.mk hg0_; clear hS hb hg0_) | (go_at_call 33; refine (AA.sort S1.out A2.out.1 A2.out.2.1 A2.out.2.2).mono ?_; rintro e w2 ⟨rfl, hgr, hS2⟩; have S2 := Aside0.mk hS2; have B2 := Aside0.mk (Below.grown B1.out hgr B1.out.size (by rintro k ⟨⟩; exact G1.out)); clear hgr hS2))
    go_ret
    exact ⟨_, rfl, S2.out, B2.out⟩
   ·rw [if_neg c3] at h
    exact absurd h (by simp)

end Go.Proofs.Ytkkjlbpffcdlfaa.X
