-- Written by a program of this session (xprint.py), out of the translation and of hand-written contracts. Lean checks it.
import Derived.Test.YtnfclfpicemojaaX0
import Derived.Test.YtnfclfpicemojaaXcbits
import Derived.Test.YtnfclfpicemojaaXcgrid
import Derived.Test.YtnfclfpicemojaaXchof
import Derived.Test.YtnfclfpicemojaaXcin
import Derived.Test.YtnfclfpicemojaaXcstep
namespace Go.Proofs.Ytnfclfpicemojaa.X
open Go.RowKit Go.Proofs.YtnfclfpicemojaaW.PrintWords Go.Proofs.YtnfclfpicemojaaW.PrintLast Go.Proofs.YtnfclfpicemojaaW.PrintMore
attribute [local go_sem] max2_int min2_int max_two min_two max_three min_three max_four min_four   -- for this text's walks alone
set_option linter.unusedVariables false
set_option linter.unusedSimpArgs false

/-! ### slices_Repeat_int_int: function 39 (by hand) -/
theorem rep_mul : ∀ n : Fin 17, bits_Mul.f 1 (n.val : Int) = some (0, (n.val : Int)) := by decide +kernel
theorem rep_made (n : Nat) : madeCells (Value.int .i64 0).cells n = (List.replicate n (Value.int .i64 0)).toArray := by
 apply Array.ext
 ·simp [madeCells]
 ·intro i h1 h2
  simp [madeCells, Value.cells, Nat.mod_one]
theorem rep_splice (v z : Value) (n k m : Nat) (h : k + m ≤ n) : splice (List.replicate k v ++ List.replicate (n - k) z) k (List.replicate m v) = List.replicate (k + m) v ++ List.replicate (n - (k + m)) z := by
 unfold splice
 rw [List.take_left' (by simp), List.drop_append, List.length_replicate]
 rw [List.drop_of_length_le (by simp), List.nil_append, List.length_replicate, List.drop_replicate, ← List.append_assoc, List.replicate_append_replicate]
 congr 2
 omega
theorem rep_reps (l : List Int) : Reps (fun x cs => cs = [Value.int .i64 x]) 1 l (l.map (Value.int .i64)) := by
 refine ⟨by simp, fun j p hj => ?_⟩
 have hl : j < l.length := (List.getElem?_eq_some_iff.1 hj).1
 apply List.ext_getElem
 ·simp; omega
 ·intro i h1 h2
  have hi : i = 0 := by simpa using h2
  subst hi
  have := (List.getElem?_eq_some_iff.1 hj).2
  simp [this]
theorem rep_src {w : World} {ad : Addr} {v : Int} {nd : Nat} {o : Obj} (hx : w.cell? ad = some (.int .i64 v)) : ∀ j u, ([Value.int .i64 v])[j]? = some u → ((w.drewN nd).alloc o).cell? (ad.add j) = some u := by
 intro j u hu
 cases j with
 | succ j => simp at hu
 | zero =>
  have hu : u = Value.int .i64 v := by simpa using hu.symm
  subst hu
  have e : ad.add 0 = ad := by simp [Addr.add]
  rw [e]
  exact pw_cell_below (below_alloc (pw_below_drewN (Below.refl _ _) _) _) hx
def slices_Repeat_int_int.f (l0 : List Int) (a1 : Int) : Option (List Int) := if l0.length = 1 ∧ 1 ≤ a1 ∧ a1 ≤ 16 then some (List.replicate a1.toNat (rd l0 0)) else none
theorem rep_cells {w : World} {g n : Nat} {v : Value} {k : Nat} {T : TypeId} (hg : w.heap[g]? = some (.cells (List.replicate k v ++ List.replicate (n - k) (Value.int .i64 0)).toArray T (0, 0))) (m : Nat) (hm : m ≤ k) : ∀ j u, (List.replicate m v)[j]? = some u → w.cell? ((⟨g, 0, none⟩ : Addr).add j) = some u := by
 intro j u hu
 have hj : j < m := by
  have := (List.getElem?_eq_some_iff.1 hu).1
  simpa using this
 have hv : u = v := by
  have := (List.getElem?_eq_some_iff.1 hu).2
  simpa using this.symm
 subst hv
 have e : ((⟨g, 0, none⟩ : Addr).add j) = ⟨g, j, none⟩ := by unfold Addr.add; split <;> simp_all
 rw [e]
 rw [blk_cell hg j, List.getElem?_toArray, List.getElem?_append_left (by simp; omega), List.getElem?_replicate, if_pos (by omega)]
set_option maxHeartbeats 8000000 in
set_option maxRecDepth 100000 in
theorem slices_Repeat_int_int.calls (A0 : Option Addr) (c0 : Nat) (l0 : List Int) (a1 : Int) (r : List Int) (w : World) (hr0 : Kd.C (Kd.int .i64) w A0 l0.length l0) (hc0 : l0.length ≤ c0) (h : slices_Repeat_int_int.f l0 a1 = some r) :
  Calls Try.prog 39 #[.slice A0 l0.length c0, .int .i64 a1] w fun e w' => ∃ v0_ : Value, e = .returned (v0_) ∧ Kd.R (Kd.int .i64) 3 w' w.heap.size (fun _ => True) v0_ r ∧ Below w.heap.size w w' := by
 unfold slices_Repeat_int_int.f at h
 split at h
 ·rename_i hc
  obtain ⟨h1, hn1, hn2⟩ := hc
  obtain rfl := Option.some.inj h
  obtain ⟨ad, e, hx⟩ := Kd.at_int hr0 0 (by omega) (by omega)
  cases e
  clear h hr0 hc0
  generalize rd l0 0 = v at *
  rw [h1]
  clear h1
  obtain ⟨n, rfl⟩ := Int.eq_ofNat_of_zero_le (show 0 ≤ a1 by omega)
  replace hx : w.cell? ad = some (.int .i64 v) := by simpa [Addr.add] using hx
  have hmul : bits_Mul.f 1 (n : Int) = some (0, (n : Int)) := rep_mul ⟨n, by omega⟩
  have HM := Aside0.mk hmul
  have HX := Aside0.mk hx
  have HN := Aside0.mk (And.intro hn1 hn2)
  have c1 : decide ((n : Int) < 0) = false := decide_eq_false (by omega)
  have w1 : IntKind.u64.wrap (n : Int) = (n : Int) := by rw [IntKind.wrap_u64]; omega
  have w2 : IntKind.u64.wrap 1 = 1 := by decide
  have w3 : IntKind.i64.wrap (n : Int) = (n : Int) := by rw [IntKind.wrap_i64]; omega
  have c2 : decide ((n : Int) > 9223372036854775807) = false := decide_eq_false (by omega)
  have c3 : decide (9223372036854775807 < (n : Int)) = false := decide_eq_false (by omega)
  have hi : ∃ i, Try.prog.info? 3 = some i ∧ i.zero = some (Value.int .i64 0) ∧ i.size = 1 ∧ i.bytes = 8 := by
   obtain ⟨i, hi, hz⟩ := Option.map_eq_some_iff.1 info3
   simp only [Prod.mk.injEq] at hz
   exact ⟨i, hi, hz.1, hz.2.1, hz.2.2⟩
  obtain ⟨i, hi, hz, hs, hb⟩ := hi
  have hmk : ∀ W : World, (Instr.makeSlice 50 (.int .i64 (n : Int)) (.int .i64 (n : Int))).run Try.prog W = .ok (.slice (some ⟨W.heap.size, 0, none⟩) n n) (W.alloc (.cells (List.replicate n (Value.int .i64 0)).toArray 3)) := by
   intro W
   have := run_make (P := Try.prog) W 50 3 i (Value.int .i64 0) Try.underlying50 hi hz .i64 .i64 (n : Int) (n : Int) (by omega) (by omega) (by rw [hb]; omega) (by omega)
   rw [hs, Nat.mul_one, Int.toNat_natCast, rep_made] at this
   exact this
  have hsz : (Try.prog.info? 3).map (·.size) = some 1 := by rw [hi]; simp [hs]
  have HSZ := Aside0.mk hsz
  clear hi hz hs hb hmul hx hn1 hn2 hsz
  go_enter Try.func39, Try.ntmps39
  go_upto_region 7 with (go_at_call 54; refine (bits_Mul.calls 1 (n : Int) 0 (n : Int) _ HM.out).mono ?_; rintro e w' ⟨rfl, ⟨nd, rfl⟩⟩)
  have hx0 : ∀ j u, ([Value.int .i64 v])[j]? = some u → ((w.drewN nd).alloc (Obj.cells (Array.replicate n (Value.int .i64 0)) 3)).cell? (ad.add j) = some u := fun j u hu => rep_src HX.out j u hu
  have hg0 : ((w.drewN nd).alloc (Obj.cells (Array.replicate n (Value.int .i64 0)) 3)).heap[w.heap.size]? = some (.cells (List.replicate n (Value.int .i64 0)).toArray 3 (0, 0)) := by
   have hz_ := heap_alloc_new (w.drewN nd) (Obj.cells (Array.replicate n (Value.int .i64 0)) 3)
   simpa using hz_
  have hb0 : Below w.heap.size w ((w.drewN nd).alloc (Obj.cells (Array.replicate n (Value.int .i64 0)) 3)) := below_alloc (pw_below_drewN (Below.refl _ _) _) _
  generalize (w.drewN nd).alloc (Obj.cells (Array.replicate n (Value.int .i64 0)) 3) = W0 at *
  have hcp : ∀ ty, (Builtin.copy_ #[50, 50] ty #[.slice (some ⟨w.heap.size, 0, none⟩) n n, .slice (some ad) 1 c0]).run Try.prog W0 = .ok (goInt 1) (W0.setRow w.heap.size (splice (List.replicate n (Value.int .i64 0)) 0 [Value.int .i64 v]).toArray) := by
   intro ty
   have hN := HN.out
   have hz_ := run_copy_row (P := Try.prog) W0 50 50 ty 3 w.heap.size 0 n n ad 1 c0 _ 3 [Value.int .i64 v] Try.underlying50 HSZ.out hg0 (by rw [List.length_singleton]; exact (Nat.min_eq_left (by omega)).symm) hx0 (by simp; omega) (by intro u hu; rw [List.mem_singleton] at hu; subst hu; rfl)
   simpa [splice] using hz_
  have G1 := Aside0.mk (show (W0.setRow w.heap.size (splice (List.replicate n (Value.int .i64 0)) 0 [Value.int .i64 v]).toArray).heap[w.heap.size]? = some (.cells (splice (List.replicate n (Value.int .i64 0)) 0 [Value.int .i64 v]).toArray 3 (0, 0)) from setRow_heap W0 w.heap.size _ _ 3 _ hg0)
  have B1 := Aside0.mk (below_setRow hb0 (Nat.le_refl _) (splice (List.replicate n (Value.int .i64 0)) 0 [Value.int .i64 v]).toArray)
  clear hx0 hg0 hb0
  generalize W0.setRow w.heap.size (splice (List.replicate n (Value.int .i64 0)) 0 [Value.int .i64 v]).toArray = W1 at *
  go_wp2
  go_loopg [8] n (fun gg s8 wr => ∃ k : Nat, s8 = .int .i64 (k : Int) ∧ Aside0 (1 ≤ k) ∧ Aside0 (k ≤ n) ∧ Aside0 (n - k ≤ gg) ∧ Aside0 (wr.heap[w.heap.size]? = some (.cells (List.replicate k (Value.int .i64 v) ++ List.replicate (n - k) (Value.int .i64 0)).toArray 3 (0, 0))) ∧ Aside0 (Below w.heap.size w wr))
  case atStart =>
   refine ⟨1, rfl, ⟨Nat.le_refl _⟩, ⟨by have := HN.out; omega⟩, ⟨by omega⟩, ⟨?_⟩, B1⟩
   have := G1.out
   have e := rep_splice (Value.int .i64 v) (Value.int .i64 0) n 0 1 (by have := HN.out; omega)
   rw [List.replicate_zero, List.nil_append, Nat.sub_zero, Nat.zero_add] at e
   rw [← e]
   exact this
  case round =>
   obtain ⟨k, rfl, ⟨hk1⟩, ⟨hkn⟩, ⟨hgg⟩, HG, HBk⟩ := hrel
   by_cases hlt : k < n
   ·have c4 : decide ((k : Int) < (n : Int)) = true := decide_eq_true (by omega)
    have c5 : decide (k < n) = true := decide_eq_true hlt
    have p0 : (0 ≤ (k : Int)) = True := eq_true (by omega)
    have p1 : ((k : Int) ≤ (n : Int)) = True := eq_true (by omega)
    have HK := Aside0.mk (And.intro hk1 (And.intro hlt hgg))
    clear hk1 hkn hgg hlt
    obtain ⟨m, hm⟩ : ∃ m, m = Nat.min k (n - k) := ⟨_, rfl⟩
    have hm1 : m ≤ k ∧ k + m ≤ n ∧ 1 ≤ m := by
     have h1 := HK.out
     have h2 : m = min k (n - k) := hm
     omega
    have HMm := Aside0.mk hm
    have HM1 := Aside0.mk hm1
    have w5 : IntKind.i64.wrap ((k : Int) + (m : Int)) = (k : Int) + (m : Int) := by have := HN.out; rw [IntKind.wrap_i64]; omega
    have e5 : (n = k) = False := eq_false (by omega)
    clear hm hm1
    go_wp2_with fail
    go_region_law (refine step_copy_splice rfl (.tmp 41) (.tmp 44) 50 50 rfl 3 Try.underlying50 HSZ.out (some ⟨w.heap.size, k, none⟩) (some ⟨w.heap.size, 0, none⟩) (n - k) (n - k) k n (by have hz_ := HM1.out; simp [Act.eval, Act.put] <;> omega) (by simp [Act.eval, Act.put]) w.heap.size k (List.replicate k (Value.int .i64 v) ++ List.replicate (n - k) (Value.int .i64 0)) 3 HG.out (List.replicate m (Value.int .i64 v)) (by rw [List.length_replicate]; exact HMm.out) (fun _ => ⟨rfl, _, rfl, rep_cells HG.out m HM1.out.1⟩) (by have hz_ := HM1.out; have hy_ := HK.out; simp; omega) (by intro u hu; rw [(List.mem_replicate.1 hu).2]; rfl) w.heap.size w (below_drew1 HBk.out) (Nat.le_refl _) ?_; intro w4 hg4 hb4; have G4 := Aside0.mk hg4.out; have B4 := Aside0.mk hb4; clear hg4 hb4)
    go_wp2
    go_roundg (n - (k + m))
    case measure => have hz_ := HM1.out; have hy_ := HK.out; omega
    case rel =>
     have hz_ := HM1.out
     have hy_ := HK.out
     refine ⟨k + m, by first | rfl | simp, ⟨by omega⟩, ⟨by omega⟩, ⟨Nat.le_refl _⟩, ⟨?_⟩, B4⟩
     have e := rep_splice (Value.int .i64 v) (Value.int .i64 0) n k m (by omega)
     rw [← e]
     exact G4.out
   ·have c4 : decide ((k : Int) < (n : Int)) = false := decide_eq_false (by omega)
    have hkk : k = n := by omega
    subst hkk
    have HK := Aside0.mk hk1
    clear hk1 hkn hgg hlt
    go_wp2
    go_ret
    refine ⟨_, rfl, ⟨fun _ _ => trivial, (List.replicate k v).map (Value.int .i64), ⟨by simp [Kd.int, Kd.scalar], .inr ⟨w.heap.size, k, _, by simp, Nat.le_refl _, HG.out, by simp, by have := HN.out; simp [maxLen]; omega, by simp [Kd.int, Kd.scalar], by simp [Kd.int, Kd.scalar]⟩⟩, ?_⟩, HBk.out⟩
    rw [Int.toNat_natCast]
    exact rep_reps (List.replicate k v)
 ·exact absurd h (by simp)

/-! ### impl_distances: function 22 -/
mutual
def impl_distances.l0 : Nat → List Int → List Int → Int → Int → Int → Int → Option (List Int)
 | 0, _, _, _, _, _, _ => none
 | k + 1, x5, x6, x7, x502000, x502001, x502002 => if x7 < (x6.length : Int) then (if 0 ≤ x7 then ((impl_WaysFrom.f k x502000 x502001 x502002 (rd x6 x7)).bind fun t514 => (impl_distances.l1 k x5 x6 x7 t514 (t514.length : Int) 0 x502000 x502001 x502002)) else (none)) else (some x5)
def impl_distances.l1 : Nat → List Int → List Int → Int → List Int → Int → Int → Int → Int → Int → Option (List Int)
 | 0, _, _, _, _, _, _, _, _, _ => none
 | k + 1, x5, x6, x7, x32, x33, x34, x502000, x502001, x502002 => if x34 < x33 then (if 0 ≤ x34 then (if x34 < (x32.length : Int) then (if 0 ≤ x7 then (if x7 < (x6.length : Int) then ((impl_Step.f k x502000 x502001 x502002 (rd x6 x7) (rd x32 x34)).bind fun t519 => (if 0 ≤ t519 then (if t519 < (x5.length : Int) then (if (rd x5 t519) < 0 then (if 0 ≤ (rd x6 x7) then (if (rd x6 x7) < (x5.length : Int) then (if x6.length < 17592186044416 then (impl_distances.l1 k (x5.set (t519 : Int).toNat (wrap64 ((rd x5 (rd x6 x7)) + 1))) (x6 ++ [t519]) x7 x32 x33 (wrap64 (x34 + 1)) x502000 x502001 x502002) else (none)) else (none)) else (none)) else (impl_distances.l1 k x5 x6 x7 x32 x33 (wrap64 (x34 + 1)) x502000 x502001 x502002)) else (none)) else (none))) else (none)) else (none)) else (none)) else (none)) else (impl_distances.l0 k x5 x6 (wrap64 (x7 + 1)) x502000 x502001 x502002)
end
def impl_distances.f (k : Nat) (a0_0 : Int) (a0_1 : Int) (a0_2 : Int) (a1 : Int) : Option (List Int) := (impl_CountCells.f a0_0 a0_1).bind fun t505 => ((slices_Repeat_int_int.f (([(-1)] : List Int)) t505).bind fun t506 => (if 0 ≤ a1 then (if a1 < (t506.length : Int) then (impl_distances.l0 k (t506.set (a1 : Int).toNat 0) (([a1] : List Int)) 0 a0_0 a0_1 a0_2) else (none)) else (none)))
theorem impl_distances.mono_l : ∀ k, (∀ y0 y1 y2 y3 y4 y5, LeO (impl_distances.l0 k y0 y1 y2 y3 y4 y5) (impl_distances.l0 (k + 1) y0 y1 y2 y3 y4 y5)) ∧ (∀ y0 y1 y2 y3 y4 y5 y6 y7 y8, LeO (impl_distances.l1 k y0 y1 y2 y3 y4 y5 y6 y7 y8) (impl_distances.l1 (k + 1) y0 y1 y2 y3 y4 y5 y6 y7 y8))
 | 0 => ⟨fun _ _ _ _ _ _ r h => by simp [impl_distances.l0] at h, fun _ _ _ _ _ _ _ _ _ r h => by simp [impl_distances.l1] at h⟩
 | k + 1 => by
  obtain ⟨ih0, ih1⟩ := impl_distances.mono_l k
  refine ⟨?_, ?_⟩
  ·intro y0 y1 y2 y3 y4 y5
   unfold impl_distances.l0
   repeat' first
   | (with_reducible exact ih0 ..)
   | (with_reducible exact ih1 ..)
   | (with_reducible exact impl_Step.mono ..)
   | (with_reducible exact impl_WaysFrom.mono ..)
   | (with_reducible first | exact lr_ _ | exact ln_ _ | refine li_ ?_ ?_ | refine lb_ ?_ fun _ => ?_)
   | exact ih0 ..
   | exact ih1 ..
   | exact impl_Step.mono ..
   | exact impl_WaysFrom.mono ..
   | exact ln_ _ | refine li_ ?_ ?_ | refine lb_ ?_ fun _ => ?_
  ·intro y0 y1 y2 y3 y4 y5 y6 y7 y8
   unfold impl_distances.l1
   repeat' first
   | (with_reducible exact ih0 ..)
   | (with_reducible exact ih1 ..)
   | (with_reducible exact impl_Step.mono ..)
   | (with_reducible exact impl_WaysFrom.mono ..)
   | (with_reducible first | exact lr_ _ | exact ln_ _ | refine li_ ?_ ?_ | refine lb_ ?_ fun _ => ?_)
   | exact ih0 ..
   | exact ih1 ..
   | exact impl_Step.mono ..
   | exact impl_WaysFrom.mono ..
   | exact ln_ _ | refine li_ ?_ ?_ | refine lb_ ?_ fun _ => ?_
theorem impl_distances.mono : ∀ a0 a1 a2 a3 k, LeO (impl_distances.f k a0 a1 a2 a3) (impl_distances.f (k + 1) a0 a1 a2 a3) := by
 intro a0 a1 a2 a3 k
 obtain ⟨ih0, ih1⟩ := impl_distances.mono_l k
 unfold impl_distances.f
 repeat' first
   | (with_reducible exact ih0 ..)
   | (with_reducible exact ih1 ..)
   | (with_reducible exact impl_Step.mono ..)
   | (with_reducible exact impl_WaysFrom.mono ..)
   | (with_reducible first | exact lr_ _ | exact ln_ _ | refine li_ ?_ ?_ | refine lb_ ?_ fun _ => ?_)
   | exact ih0 ..
   | exact ih1 ..
   | exact impl_Step.mono ..
   | exact impl_WaysFrom.mono ..
   | exact ln_ _ | refine li_ ?_ ?_ | refine lb_ ?_ fun _ => ?_
def impl_distances.T7 : Bool × List (List Nat × List Nat) := (true, [([], []), ([], []), ([], []), ([1, 2], [1, 2]), ([3], [3]), ([0, 4], [0, 4]), ([5], [5]), ([], [])])
def impl_distances.B7 : List Nat := [0, 0, 0, 6, 14, 31, 63, 0]
theorem impl_distances.tab7 : rtab .any (opsOf Try.f22 7) = impl_distances.T7 := by kernel_rfl
theorem impl_distances.bits7 : waitsOk impl_distances.T7.2 impl_distances.B7 = true := by kernel_rfl
def impl_distances.T10 : Bool × List (List Nat × List Nat) := (true, [([], []), ([], []), ([], []), ([1, 2], [1, 2]), ([3], [3]), ([], []), ([0, 4, 5], [0, 4, 5]), ([6, 6, 0, 1, 2, 3, 4, 5, 6], [6])])
def impl_distances.B10 : List Nat := [0, 0, 0, 6, 14, 0, 63, 127]
theorem impl_distances.tab10 : rtab .any (opsOf Try.f22 10) = impl_distances.T10 := by kernel_rfl
theorem impl_distances.bits10 : waitsOk impl_distances.T10.2 impl_distances.B10 = true := by kernel_rfl
set_option maxHeartbeats 8000000 in
set_option maxRecDepth 100000 in
theorem impl_distances.calls (k : Nat) (a0_0 : Int) (a0_1 : Int) (a0_2 : Int) (a1 : Int) (r : List Int) (w : World) (h : impl_distances.f k a0_0 a0_1 a0_2 a1 = some r) :
  Calls Try.prog 22 #[.agg #[.int .i64 a0_0, .int .i64 a0_1, .int .i64 a0_2], .int .i64 a1] w fun e w' => ∃ v0_ : Value, e = .returned (v0_) ∧ Kd.R (Kd.int .i64) 3 w' w.heap.size (fun _ => True) v0_ r ∧ Below w.heap.size w w' := by
 have hu32 := Try.underlying32
 have hu25 := Try.underlying25
 have HB := Aside0.mk (Below.refl w.heap.size w)
 have H : ((impl_CountCells.f a0_0 a0_1).bind fun t505 => ((slices_Repeat_int_int.f (([(-1)] : List Int)) t505).bind fun t506 => (if 0 ≤ a1 then (if a1 < (t506.length : Int) then (impl_distances.l0 k (t506.set (a1 : Int).toNat 0) (([a1] : List Int)) 0 a0_0 a0_1 a0_2) else (none)) else (none)))) = some r := h
 clear h
 obtain ⟨y502, hy502⟩ : ∃ y_ : List Int, y_ = (([(-1)] : List Int)) := ⟨_, rfl⟩
 replace H : ((impl_CountCells.f a0_0 a0_1).bind fun t505 => ((slices_Repeat_int_int.f y502 t505).bind fun t506 => (if 0 ≤ a1 then (if a1 < (t506.length : Int) then (impl_distances.l0 k (t506.set (a1 : Int).toNat 0) (([a1] : List Int)) 0 a0_0 a0_1 a0_2) else (none)) else (none)))) = some r := by first | (rw [hy502]; with_reducible exact H) | (have H2_ := (Option.bind_some _ _).symm.trans H; rw [hy502]; with_reducible exact H2_) | (have H2_ := (Option.bind_some _ _).symm.trans H; with_reducible exact H2_) | with_reducible exact H | (rw [hy502]; exact H) | exact H
 have Ny502 := Aside0.mk hy502
 clear hy502
 replace H := Option.bind_eq_some_iff.mp H
 obtain ⟨t505, A30, H⟩ := H
 replace H : ((slices_Repeat_int_int.f y502 t505).bind fun t506 => (if 0 ≤ a1 then (if a1 < (t506.length : Int) then (impl_distances.l0 k (t506.set (a1 : Int).toNat 0) (([a1] : List Int)) 0 a0_0 a0_1 a0_2) else (none)) else (none))) = some r := H
 have A3 := Aside0.mk A30
 clear A30
 replace H := Option.bind_eq_some_iff.mp H
 obtain ⟨t506, A40, H⟩ := H
 replace H : (if 0 ≤ a1 then (if a1 < (t506.length : Int) then (impl_distances.l0 k (t506.set (a1 : Int).toNat 0) (([a1] : List Int)) 0 a0_0 a0_1 a0_2) else (none)) else (none)) = some r := H
 have A4 := Aside0.mk A40
 clear A40
 by_cases c5 : 0 ≤ a1
 ·rw [if_pos c5] at H
  have c5b0 : decide (0 ≤ a1) = true := decide_eq_true c5
  clear c5
  by_cases c6 : a1 < (t506.length : Int)
  ·rw [if_pos c6] at H
   have c6b0 : decide (a1 < (t506.length : Int)) = true := decide_eq_true c6
   clear c6
   obtain ⟨y509, hy509⟩ : ∃ y_ : List Int, y_ = (t506.set (a1 : Int).toNat 0) := ⟨_, rfl⟩
   replace H : (impl_distances.l0 k y509 (([a1] : List Int)) 0 a0_0 a0_1 a0_2) = some r := by first | (rw [hy509]; with_reducible exact H) | (have H2_ := (Option.bind_some _ _).symm.trans H; rw [hy509]; with_reducible exact H2_) | (have H2_ := (Option.bind_some _ _).symm.trans H; with_reducible exact H2_) | with_reducible exact H | (rw [hy509]; exact H) | exact H
   have Ny509 := Aside0.mk hy509
   clear hy509
   obtain ⟨y510, hy510⟩ : ∃ y_ : List Int, y_ = (([a1] : List Int)) := ⟨_, rfl⟩
   replace H : (impl_distances.l0 k y509 y510 0 a0_0 a0_1 a0_2) = some r := by first | (rw [hy510]; with_reducible exact H) | (have H2_ := (Option.bind_some _ _).symm.trans H; rw [hy510]; with_reducible exact H2_) | (have H2_ := (Option.bind_some _ _).symm.trans H; with_reducible exact H2_) | with_reducible exact H | (rw [hy510]; exact H) | exact H
   have Ny510 := Aside0.mk hy510
   clear hy510
   have H' := Aside0.mk H
   clear H
   go_enter Try.func22, Try.ntmps22
   go_wp2_with (first | (refine box_ (N := 2) (cs := #[.int .i64 a0_0, .int .i64 a0_1, .int .i64 a0_2]) (t := 32) ?_; intro gb501 hg w8 hbox hb; have BK501 := Aside0.mk (hbox); have GW501 := HB.g0 hg; have GE501 := HB.g0 hg; replace HB := HB.s0 hb; clear hb hbox hg) | ((with_reducible refine gate_dst (N := 11) rfl ?_); refine Kd.R_lit (Kd.int .i64) _ 3 ?hg (N := 11) ?hd (xs := ([(-1)] : List Int)) (inner := [.int .i64 (-1)]) (ok := fun _ => True) (okp := fun _ => True) ?hr ?hp (fun _ hk => hk) trivial (Below.refl _ _) (Nat.le_refl _) (by simp) ?_; (case hd => rfl); (case hg => rfl); (case hr => first | (go_simp; done) | (go_simp; rfl)); (case hp => exact (Reps.one (show Kd.M (Kd.int .i64) _ _ _ (-1) [.int .i64 (-1)] from rfl) (Reps.none _ _))); intro v503 w9 ho10 hb hg_ hnew_; clear hg_ hnew_; (first | rw [← Ny502.out] at ho10 | (simp only [Int.reduceToNat] at ho10; rw [← Ny502.out] at ho10)); have HO504 := Aside0.mk (Kd.R_lower ho10 (below_size (hb1_ HB.out GE501.out))); replace BK501 := BK501.bb hb; replace HB := HB.s1 GE501 hb; clear hb ho10; obtain ⟨hcz11_0, hcz11_1, hcz11_2⟩ := cz3_ BK501.out; obtain ⟨hfz11_0, hfz11_1, hfz11_2⟩ := fz3_ BK501.out) | (refine gl_ 14 Try.func31 #[.agg #[.int .i64 a0_0, .int .i64 a0_1]] ?_; (with_reducible refine (impl_CountCells.calls a0_0 a0_1 t505 _ A3.out).mono ?_); rintro e w12 ⟨rfl, hb⟩; refine ⟨_, rfl, ?_⟩; replace HO504 := HO504.kb hb; replace BK501 := BK501.bb hb; replace HB := HB.s1 GE501 hb; (try clear hb); obtain ⟨Ao13, co13, eo13⟩ := Kd.R_slice HO504.out; subst eo13) | (refine gl_ 15 Try.func39 #[.slice Ao13 y502.length co13, .int .i64 t505] ?_; (with_reducible refine (slices_Repeat_int_int.calls _ _ y502 t505 t506 _ ?side1 ?side2 A4.out).mono ?_); (case side1 => repeat (first | exact (Kd.R_reads' HO504.out).2.2 | (with_reducible refine Kd.C_alloc ?_ _) | (with_reducible refine Kd.C_drewN ?_ _) | (with_reducible refine Kd.C_drew ?_))); (case side2 => exact (Kd.R_reads' HO504.out).2.1); rintro e w14 ⟨v507, rfl, ho0, hb⟩; refine ⟨_, rfl, ?_⟩; have HO508 := Aside0.mk (Kd.R_lower (Kd.R_new' ho0 (Kd.R_lt (kr_ HO504.out))) (below_size (hb1_ HB.out GE501.out))); replace HO504 := Aside0.mk (Kd.R_elder' (kr_ HO504.out) (Kd.R_base ho0) hb); replace BK501 := BK501.bb hb; replace HB := HB.s1 GE501 hb; (try clear hb); (try clear ho0); have p7 : 0 ≤ (a1 : Int) := of_decide_eq_true (as_); have q7 : (a1 : Int) < ((t506.length : Int) : Int) := of_decide_eq_true (as_); obtain ⟨go7, co7, eo7, gb7, gl7, cl7, HG7⟩ := Kd.R_form HO508.out (by omega); (first | cases eo7 | (injection eo7 with ea_ en_ ec_; (first | subst ea_ | (injection ea_ with ea_; subst ea_)); subst ec_; clear en_)); have GB7 := Aside0.mk gb7; have GG7 := Aside0.mk HG7; clear gb7 gl7 HG7; obtain ⟨hx7_0, hf7_0⟩ := Kd.R_celln 0 HO508.out (a1 : Int) p7 q7; replace p7 := eq_true p7; replace q7 := eq_true q7; have n_ := Aside0.mk (Kd.R_mono (ok' := (fun k_ => some k_ ≠ (.slice Ao13 y502.length co13 : Value).ownBlock)) HO508.out (fun k_ hk => hk.2)); clear HO508; have HO508 := n_; clear n_; obtain ⟨hy15_, hz15_⟩ := Kd.R_celln 0 HO508.out (a1 : Int) (of_decide_eq_true (as_)) (of_decide_eq_true (as_)); have HP15 := Kd.R_putg HO508.out (a1 : Int) 0) | ((with_reducible refine gate_store (t := 3) (p := 18) rfl ?_); refine store_event (t := 3) (p := 18) (v := ?vo_w16) (w1 := (w14.setCell ⟨go7, (a1 : Int).toNat, none⟩ (.int .i64 0))) ?hg ?ho ?hn ?hr ?_; (case ho => rfl); (case hg => rfl); (case hn => rfl); (case hr => first | (go_simp; done) | (go_simp; rfl)); intro w16 hw; have hg : w14.grownBy w16 (some go7) := (by rw [hw]; exact HP15.2); have hp_ : Kd.R (Kd.int .i64) 3 w16 w.heap.size (fun k_ => some k_ ≠ (.slice Ao13 y502.length co13 : Value).ownBlock) (.slice (some ⟨go7, 0, none⟩) t506.length co7) y509 := (by rw [hw, Ny509.out]; exact HP15.1); clear HP15; replace BK501 := Aside0.mk (blk_grown (g := gb501) (o := .cells #[.int .i64 a0_0, .int .i64 a0_1, .int .i64 a0_2] 32 (0, 0)) (bk_ BK501.out) hg (Kd.R_ne HO508.out BK501.out (by decide))); replace HO504 := Aside0.mk (Kd.R_after (v := (.slice (some ⟨go7, 0, none⟩) t506.length co7)) (v1 := (.slice (some ⟨go7, 0, none⟩) t506.length co7)) (ok := (fun _ => True)) (kr_ HO504.out) hg (.inl rfl)); replace HO508 := Aside0.mk (hp_); replace HB := Aside0.mk ((by rw [hw]; exact below_set (HB.out) GB7.out : Below w.heap.size w w16)); clear hg hw hp_) | ((with_reducible refine gate_dst (N := 20) rfl ?_); refine Kd.R_lit (Kd.int .i64) _ 3 ?hg (N := 20) ?hd (xs := ([a1] : List Int)) (inner := [.int .i64 a1]) (ok := fun _ => True) (okp := fun _ => True) ?hr ?hp (fun _ hk => hk) trivial (Below.refl _ _) (Nat.le_refl _) (by simp) ?_; (case hd => rfl); (case hg => rfl); (case hr => first | (go_simp; done) | (go_simp; rfl)); (case hp => exact (Reps.one (show Kd.M (Kd.int .i64) _ _ _ a1 [.int .i64 a1] from rfl) (Reps.none _ _))); intro v511 w17 ho18 hb hg_ hnew_; clear hg_ hnew_; (first | rw [← Ny510.out] at ho18 | (simp only [Int.reduceToNat] at ho18; rw [← Ny510.out] at ho18)); have HO512 := Aside0.mk (Kd.R_lower (Kd.R_new' (Kd.R_new' ho18 (Kd.R_lt (kr_ HO504.out))) (Kd.R_lt (kr_ HO508.out))) (below_size (hb1_ HB.out GE501.out))); replace HO504 := Aside0.mk (Kd.R_elder' (kr_ HO504.out) (Kd.R_base ho18) hb); replace HO508 := Aside0.mk (Kd.R_elder' (kr_ HO508.out) (Kd.R_base ho18) hb); replace BK501 := BK501.bb hb; replace HB := HB.s1 GE501 hb; clear hb ho18))
   go_loopg [6, 7] k (fun kq v6 v7 w' => ∃ (x5_1 : List Int) (x6_1 : List Int) (x7_1 : Int), v7 = .int .i64 x7_1 ∧ Aside0 (impl_distances.l0 kq x5_1 x6_1 x7_1 a0_0 a0_1 a0_2 = some r) ∧ Aside0 (kq ≤ k) ∧ Aside0 (Kd.R (Kd.int .i64) 3 w' w.heap.size (fun k_ => some k_ ≠ (v6 : Value).ownBlock) (.slice (some ⟨go7, 0, none⟩) t506.length co7) x5_1) ∧ Aside0 (Kd.R (Kd.int .i64) 3 w' w.heap.size (fun k_ => some k_ ≠ ((.slice (some ⟨go7, 0, none⟩) t506.length co7) : Value).ownBlock) v6 x6_1) ∧ Aside0 (w'.heap[gb501]? = some (.cells #[.int .i64 a0_0, .int .i64 a0_1, .int .i64 a0_2] 32 (0, 0))) ∧ Aside0 (Below w.heap.size w w'))
   case atStart => exact ⟨(y509), (y510), (0), (by first | rfl | (simp; done) | (simp [*]; done)), H', ⟨Nat.le_refl _⟩, ⟨by (with_reducible repeat (first | apply Kd.R_alloc | apply Kd.R_drewN | apply Kd.R_drew)); exact Kd.R_mono HO508.out (fun _ hk => hk.2)⟩, ⟨by (with_reducible repeat (first | apply Kd.R_alloc | apply Kd.R_drewN | apply Kd.R_drew)); exact Kd.R_mono HO512.out (fun _ hk => hk.2)⟩, ⟨bk_ BK501.out⟩, ⟨hb1_ HB.out GE501.out⟩⟩
   case round =>
    clear H'
    try clear c2
    try clear p2
    try clear c3
    try clear c5
    try clear c5b0
    try clear c6
    try clear c6b0
    try clear p7
    try clear q7
    try clear hx7
    try clear hf7
    try clear hcz11_0
    try clear hcz11_1
    try clear hcz11_2
    try clear hfz11_0
    try clear hfz11_1
    try clear hfz11_2
    try clear hx7_0
    try clear p7
    try clear q7
    obtain ⟨x5_1, x6_1, x7_1, rfl, HA, HK1, HO_5, HO_6, BK501, HB⟩ := hrel
    have hl5_1 := (Kd.R_reads' HO_5.out).1
    rw [hl5_1] at HO_5
    (try simp only [hl5_1])
    (try simp only [hl5_1] at BK501)
    (try simp only [hl5_1] at HO_6)
    cases gk with
    | zero => exact absurd HA.out (by simp [impl_distances.l0])
    | succ k1 =>
     have H := HA.out
     clear HA
     simp only [impl_distances.l0] at H
     by_cases c19 : x7_1 < (x6_1.length : Int)
     ·rw [if_pos c19] at H
      have c19b0 : decide (x7_1 < (x6_1.length : Int)) = true := decide_eq_true c19
      clear c19
      by_cases c20 : 0 ≤ x7_1
      ·rw [if_pos c20] at H
       have c20b0 : decide (0 ≤ x7_1) = true := decide_eq_true c20
       clear c20
       replace H := Option.bind_eq_some_iff.mp H
       obtain ⟨t514, A210, H⟩ := H
       replace H : (impl_distances.l1 k1 x5_1 x6_1 x7_1 t514 (t514.length : Int) 0 a0_0 a0_1 a0_2) = some r := H
       have A21 := Aside0.mk A210
       clear A210
       have H' := Aside0.mk H
       clear H
       obtain ⟨Ao22, co22, eo22⟩ := Kd.R_slice HO_6.out
       subst eo22
       try go_wp2
       replace HO_5 := Aside0.mk (Kd.R_drew HO_5.out)
       replace HO_6 := Aside0.mk (Kd.R_drew HO_6.out)
       replace BK501 := Aside0.mk (blk_drew BK501.out)
       replace HB := Aside0.mk (below_drew1 HB.out)
       have p513 : 0 ≤ (x7_1 : Int) := of_decide_eq_true (as_)
       have q513 : x7_1 < (x6_1.length : Int) := of_decide_eq_true (as_)
       obtain ⟨ad513, e513, hx513_0⟩ := Kd.at_int (Kd.R_reads' HO_6.out).2.2 x7_1 p513 q513
       cases e513
       replace p513 := eq_true p513
       replace q513 := eq_true q513
       refine start_ (n := 8) (S := fun w' => w'.cell? ⟨gb501, 0, none⟩ = some (.int .i64 a0_0) ∧ w'.cell? ⟨gb501, 1, none⟩ = some (.int .i64 a0_1) ∧ w'.cell? ⟨gb501, 2, none⟩ = some (.int .i64 a0_2) ∧ w'.cell? (ad513.add (x7_1).toNat) = some (.int .i64 (rd x6_1 x7_1))) (ds := []) #[false, false, false, false, false, false, false, false] (by kernel_rfl) rfl rfl ⟨BK501.c 0, BK501.c 1, BK501.c 2, hx513_0⟩ (fun hHeld => ?_); refine with_tabW impl_distances.tab7 impl_distances.bits7 (fun HT_ HW_ => ?_)
       generalize wr.drew = w23 at HO_5 HO_6 BK501 HB hx513_0 hHeld ⊢
       refine pv_ (i := 1) (N := some 28) HT_.out ?_
       refine pv_ (i := 2) (N := some 29) HT_.out ?_
       refine pv_ (i := 3) (N := some 30) HT_.out ?_
       refine pv_ (i := 7) (N := some 34) HT_.out ?_
       refine tv4_ (i := 0) (N := some 27) HT_.out HW_.out hHeld ?_
       refine tv4_ (i := 4) (N := some 31) HT_.out HW_.out hHeld ?_
       refine ov_ (i := 5) (N := some 32) HT_.out (fun K hK => ?_)
       refine gq_ Try.func40 #[.agg #[.int .i64 a0_0, .int .i64 a0_1, .int .i64 a0_2], .int .i64 (rd x6_1 x7_1)] ?_
       with_reducible refine (impl_WaysFrom.calls k1 a0_0 a0_1 a0_2 (rd x6_1 x7_1) t514 _ A21.out).mono ?_
       rintro e w24 ⟨v515, rfl, ho0, hb⟩
       have HS3_ := (hb.cell (World.block_lt_of_cell? _ _ (hHeld.2.2.2))).trans (hHeld.2.2.2)
       refine ⟨_, rfl, ?_⟩
       have n0_ := Aside0.mk (Kd.R_elder' (kr_ HO_5.out) (Kd.R_base ho0) hb)
       have n1_ := Aside0.mk (Kd.R_elder' (kr_ HO_6.out) (Kd.R_base ho0) hb)
       have n2_ := Aside0.mk (Kd.R_lower (Kd.R_new' (Kd.R_new' ho0 (Kd.R_lt (kr_ HO_5.out))) (Kd.R_lt (kr_ HO_6.out))) (below_size (hb1_ HB.out GE501.out)))
       have n3_ := BK501.bb hb
       have n4_ := HB.s1 GE501 hb
       clear HO_5
       clear HO_6
       clear BK501
       clear HB
       have HO_5 := n0_
       have HO_6 := n1_
       have HO516 := n2_
       have BK501 := n3_
       have HB := n4_
       clear n0_ n1_ n2_ n3_ n4_
       skip
       (try clear hb2)
       (try clear hk)
       (try clear hi)
       (try clear ho0)
       obtain ⟨Ao25, co25, eo25⟩ := Kd.R_slice HO516.out
       (first | subst eo25 | (injection eo25 with f1_ f2_ f3_; have f4_ := f1_.symm; have f5_ := f3_.symm; clear f1_ f2_ f3_; subst f4_; subst f5_))
       refine hK.out _ _ ⟨BK501.c 0, BK501.c 1, BK501.c 2, HS3_⟩ (fun hHeld => ?_)
       clear hK K
       refine nm_ ?_
       refine pv_ (i := 6) (N := some 33) HT_.out ?_
       refine done_ (done_of HT_.out (by kernel_rfl)) ?_
       try go_wp2
       go_loopg [6, 34] k1 (fun kq v6 v34 w' => ∃ (x5_2 : List Int) (x6_2 : List Int) (x34_2 : Int), v34 = .int .i64 x34_2 ∧ Aside0 (impl_distances.l1 kq x5_2 x6_2 x7_1 t514 (t514.length : Int) x34_2 a0_0 a0_1 a0_2 = some r) ∧ Aside0 (kq ≤ k1) ∧ Aside0 (Kd.R (Kd.int .i64) 3 w' w.heap.size (fun k_ => some k_ ≠ (v6 : Value).ownBlock ∧ some k_ ≠ ((.slice Ao25 t514.length co25) : Value).ownBlock) (.slice (some ⟨go7, 0, none⟩) x5_1.length co7) x5_2) ∧ Aside0 (Kd.R (Kd.int .i64) 3 w' w.heap.size (fun k_ => some k_ ≠ ((.slice (some ⟨go7, 0, none⟩) x5_1.length co7) : Value).ownBlock ∧ some k_ ≠ ((.slice Ao25 t514.length co25) : Value).ownBlock) v6 x6_2) ∧ Aside0 (Kd.R (Kd.int .i64) 3 w' w.heap.size (fun k_ => some k_ ≠ ((.slice (some ⟨go7, 0, none⟩) x5_1.length co7) : Value).ownBlock ∧ some k_ ≠ (v6 : Value).ownBlock) (.slice Ao25 t514.length co25) t514) ∧ Aside0 (w'.heap[gb501]? = some (.cells #[.int .i64 a0_0, .int .i64 a0_1, .int .i64 a0_2] 32 (0, 0))) ∧ Aside0 (Below w.heap.size w w'))
       case atStart => exact ⟨(x5_1), (x6_1), (0), (by first | rfl | (simp; done) | (simp [*]; done)), H', ⟨Nat.le_refl _⟩, ⟨by (try simp only [hl5_1]); (with_reducible repeat (first | apply Kd.R_alloc | apply Kd.R_drewN | apply Kd.R_drew)); exact HO_5.out⟩, ⟨by (try simp only [hl5_1]); (with_reducible repeat (first | apply Kd.R_alloc | apply Kd.R_drewN | apply Kd.R_drew)); exact HO_6.out⟩, ⟨by (try simp only [hl5_1]); (with_reducible repeat (first | apply Kd.R_alloc | apply Kd.R_drewN | apply Kd.R_drew)); exact Kd.R_mono HO516.out (fun _ hk => ⟨hk.1.2, hk.2⟩)⟩, ⟨by (try simp only [hl5_1]); (with_reducible repeat (first | refine blk_drewN ?_ _ | refine blk_drew ?_ | refine blk_alloc ?_ _)); exact BK501.out⟩, ⟨hb1_ HB.out GE501.out⟩⟩
       case round =>
        clear H'
        try clear c1
        try clear c2
        try clear p2
        try clear c3
        try clear c4
        try clear c5
        try clear c5b0
        try clear p5
        try clear q5
        try clear hx5
        try clear c6
        try clear c6b0
        try clear p7
        try clear q7
        try clear hx7
        try clear hf7
        try clear c19
        try clear c19b0
        try clear c20
        try clear c20b0
        try clear c22
        try clear hcz11_0
        try clear hcz11_1
        try clear hcz11_2
        try clear hfz11_0
        try clear hfz11_1
        try clear hfz11_2
        try clear hx513_0
        try clear hx7_0
        try clear p2
        try clear p513
        try clear p7
        try clear q513
        try clear q7
        obtain ⟨x5_2, x6_2, x34_2, rfl, HA, HK2, HO_5, HO_6, HO_32, BK501, HB⟩ := hrel
        have hl5_2 := (Kd.R_reads' HO_5.out).1
        rw [hl5_2] at HO_5
        (try simp only [hl5_2])
        (try simp only [hl5_2] at BK501)
        (try simp only [hl5_2] at HO_6)
        (try simp only [hl5_2] at HO_32)
        cases gk with
        | zero => exact absurd HA.out (by simp [impl_distances.l1])
        | succ k2 =>
         have H := HA.out
         clear HA
         simp only [impl_distances.l1] at H
         by_cases c26 : x34_2 < (t514.length : Int)
         ·rw [if_pos c26] at H
          have c26b0 : decide (x34_2 < (t514.length : Int)) = true := decide_eq_true c26
          clear c26
          by_cases c27 : 0 ≤ x34_2
          ·rw [if_pos c27] at H
           have c27b0 : decide (0 ≤ x34_2) = true := decide_eq_true c27
           clear c27
           by_cases c28 : x34_2 < (t514.length : Int)
           ·rw [if_pos c28] at H
            have c28b0 : decide (x34_2 < (t514.length : Int)) = true := decide_eq_true c28
            clear c28
            by_cases c29 : 0 ≤ x7_1
            ·rw [if_pos c29] at H
             have c29b0 : decide (0 ≤ x7_1) = true := decide_eq_true c29
             clear c29
             by_cases c30 : x7_1 < (x6_2.length : Int)
             ·rw [if_pos c30] at H
              have c30b0 : decide (x7_1 < (x6_2.length : Int)) = true := decide_eq_true c30
              clear c30
              replace H := Option.bind_eq_some_iff.mp H
              obtain ⟨t519, A310, H⟩ := H
              replace H : (if 0 ≤ t519 then (if t519 < (x5_2.length : Int) then (if (rd x5_2 t519) < 0 then (if 0 ≤ (rd x6_2 x7_1) then (if (rd x6_2 x7_1) < (x5_2.length : Int) then (if x6_2.length < 17592186044416 then (impl_distances.l1 k2 (x5_2.set (t519 : Int).toNat (wrap64 ((rd x5_2 (rd x6_2 x7_1)) + 1))) (x6_2 ++ [t519]) x7_1 t514 (t514.length : Int) (wrap64 (x34_2 + 1)) a0_0 a0_1 a0_2) else (none)) else (none)) else (none)) else (impl_distances.l1 k2 x5_2 x6_2 x7_1 t514 (t514.length : Int) (wrap64 (x34_2 + 1)) a0_0 a0_1 a0_2)) else (none)) else (none)) = some r := H
              have A31 := Aside0.mk A310
              clear A310
              by_cases c32 : 0 ≤ t519
              ·rw [if_pos c32] at H
               have c32b0 : decide (0 ≤ t519) = true := decide_eq_true c32
               clear c32
               by_cases c33 : t519 < (x5_2.length : Int)
               ·rw [if_pos c33] at H
                have c33b0 : decide (t519 < (x5_2.length : Int)) = true := decide_eq_true c33
                clear c33
                by_cases c34 : (rd x5_2 t519) < 0
                ·rw [if_pos c34] at H
                 have c34b0 : decide ((rd x5_2 t519) < 0) = true := decide_eq_true c34
                 clear c34
                 by_cases c35 : 0 ≤ (rd x6_2 x7_1)
                 ·rw [if_pos c35] at H
                  have c35b0 : decide (0 ≤ (rd x6_2 x7_1)) = true := decide_eq_true c35
                  clear c35
                  by_cases c36 : (rd x6_2 x7_1) < (x5_2.length : Int)
                  ·rw [if_pos c36] at H
                   have c36b0 : decide ((rd x6_2 x7_1) < (x5_2.length : Int)) = true := decide_eq_true c36
                   clear c36
                   obtain ⟨y523, hy523⟩ : ∃ y_ : List Int, y_ = (x5_2.set (t519 : Int).toNat (wrap64 ((rd x5_2 (rd x6_2 x7_1)) + 1))) := ⟨_, rfl⟩
                   replace H : (if x6_2.length < 17592186044416 then (impl_distances.l1 k2 y523 (x6_2 ++ [t519]) x7_1 t514 (t514.length : Int) (wrap64 (x34_2 + 1)) a0_0 a0_1 a0_2) else (none)) = some r := by first | (rw [hy523]; with_reducible exact H) | (have H2_ := (Option.bind_some _ _).symm.trans H; rw [hy523]; with_reducible exact H2_) | (have H2_ := (Option.bind_some _ _).symm.trans H; with_reducible exact H2_) | with_reducible exact H | (rw [hy523]; exact H) | exact H
                   have Ny523 := Aside0.mk hy523
                   clear hy523
                   by_cases c38 : x6_2.length < 17592186044416
                   ·rw [if_pos c38] at H
                    have LMc38 := Aside0.mk c38
                    clear c38
                    obtain ⟨y524, hy524⟩ : ∃ y_ : List Int, y_ = (x6_2 ++ [t519]) := ⟨_, rfl⟩
                    replace H : (impl_distances.l1 k2 y523 y524 x7_1 t514 (t514.length : Int) (wrap64 (x34_2 + 1)) a0_0 a0_1 a0_2) = some r := by first | (rw [hy524]; with_reducible exact H) | (have H2_ := (Option.bind_some _ _).symm.trans H; rw [hy524]; with_reducible exact H2_) | (have H2_ := (Option.bind_some _ _).symm.trans H; with_reducible exact H2_) | with_reducible exact H | (rw [hy524]; exact H) | exact H
                    have Ny524 := Aside0.mk hy524
                    clear hy524
                    have H' := Aside0.mk H
                    clear H
                    have p517 : 0 ≤ (x34_2 : Int) := of_decide_eq_true (as_)
                    have q517 : x34_2 < (t514.length : Int) := of_decide_eq_true (as_)
                    obtain ⟨ad517, e517, hx517_0⟩ := Kd.at_int (Kd.R_reads' HO_32.out).2.2 x34_2 p517 q517
                    cases e517
                    replace p517 := eq_true p517
                    replace q517 := eq_true q517
                    try go_wp2
                    replace HO_5 := Aside0.mk (Kd.R_drew HO_5.out)
                    replace HO_6 := Aside0.mk (Kd.R_drew HO_6.out)
                    replace HO_32 := Aside0.mk (Kd.R_drew HO_32.out)
                    replace BK501 := Aside0.mk (blk_drew BK501.out)
                    replace HB := Aside0.mk (below_drew1 HB.out)
                    obtain ⟨Ao40, co40, eo40⟩ := Kd.R_slice HO_6.out
                    (first | subst eo40 | (injection eo40 with f1_ f2_ f3_; have f4_ := f1_.symm; have f5_ := f3_.symm; clear f1_ f2_ f3_; subst f4_; subst f5_))
                    have p518 : 0 ≤ (x7_1 : Int) := of_decide_eq_true (as_)
                    have q518 : x7_1 < (x6_2.length : Int) := of_decide_eq_true (as_)
                    obtain ⟨ad518, e518, hx518_0⟩ := Kd.at_int (Kd.R_reads' HO_6.out).2.2 x7_1 p518 q518
                    cases e518
                    replace p518 := eq_true p518
                    replace q518 := eq_true q518
                    refine start_ (n := 8) (S := fun w' => w'.cell? ⟨gb501, 0, none⟩ = some (.int .i64 a0_0) ∧ w'.cell? ⟨gb501, 1, none⟩ = some (.int .i64 a0_1) ∧ w'.cell? ⟨gb501, 2, none⟩ = some (.int .i64 a0_2) ∧ w'.cell? (ad518.add (x7_1).toNat) = some (.int .i64 (rd x6_2 x7_1))) (ds := []) #[false, false, false, false, false, false, false, false] (by kernel_rfl) rfl rfl ⟨BK501.c 0, BK501.c 1, BK501.c 2, hx518_0⟩ (fun hHeld => ?_); refine with_tabW impl_distances.tab10 impl_distances.bits10 (fun HT_ HW_ => ?_)
                    generalize wr.drew = w39 at HO_5 HO_6 HO_32 BK501 HB hx518_0 hHeld ⊢
                    refine pv_ (i := 1) (N := some 39) HT_.out ?_
                    refine pv_ (i := 2) (N := some 40) HT_.out ?_
                    refine pv_ (i := 3) (N := some 41) HT_.out ?_
                    refine pv_ (i := 5) (N := some 43) HT_.out ?_
                    refine tv4_ (i := 0) (N := some 38) HT_.out HW_.out hHeld ?_
                    refine tv4_ (i := 4) (N := some 42) HT_.out HW_.out hHeld ?_
                    refine ov_ (i := 6) (N := some 44) HT_.out (fun K hK => ?_)
                    refine gq_ Try.func41 #[.agg #[.int .i64 a0_0, .int .i64 a0_1, .int .i64 a0_2], .int .i64 (rd x6_2 x7_1), .int .i64 (rd t514 x34_2)] ?_
                    with_reducible refine (impl_Step.calls k2 a0_0 a0_1 a0_2 (rd x6_2 x7_1) (rd t514 x34_2) t519 _ A31.out).mono ?_
                    rintro e w41 ⟨rfl, hb⟩
                    have HS3_ := (hb.cell (World.block_lt_of_cell? _ _ (hHeld.2.2.2))).trans (hHeld.2.2.2)
                    refine ⟨_, rfl, ?_⟩
                    replace HO_5 := HO_5.kb hb
                    replace HO_6 := HO_6.kb hb
                    replace HO_32 := HO_32.kb hb
                    replace BK501 := BK501.bb hb
                    replace HB := HB.s1 GE501 hb
                    skip
                    (try clear hb2)
                    (try clear hk)
                    (try clear hi)
                    refine hK.out _ _ ⟨BK501.c 0, BK501.c 1, BK501.c 2, HS3_⟩ (fun hHeld => ?_)
                    clear hK K
                    refine nm_ ?_
                    refine pv_ (i := 7) (N := some 10) HT_.out ?_
                    refine done_ (done_of HT_.out (by kernel_rfl)) ?_
                    have p520 : 0 ≤ (t519 : Int) := of_decide_eq_true (as_)
                    have q520 : t519 < (x5_2.length : Int) := of_decide_eq_true (as_)
                    obtain ⟨ad520, e520, hx520_0⟩ := Kd.at_int (Kd.R_reads' HO_5.out).2.2 t519 p520 q520
                    obtain rfl : (⟨go7, 0, none⟩ : Addr) = ad520 := (by injection e520)
                    (first | simp only [add_plain] at hx520_0 | simp only [add_at] at hx520_0 | simp only [Addr.add, Nat.zero_add] at hx520_0 | skip)
                    replace p520 := eq_true p520
                    replace q520 := eq_true q520
                    have p521 : 0 ≤ (x7_1 : Int) := of_decide_eq_true (as_)
                    have q521 : x7_1 < (x6_2.length : Int) := of_decide_eq_true (as_)
                    obtain ⟨ad521, e521, hx521_0⟩ := Kd.at_int (Kd.R_reads' HO_6.out).2.2 x7_1 p521 q521
                    obtain rfl : ad518 = ad521 := (by injection e521)
                    replace p521 := eq_true p521
                    replace q521 := eq_true q521
                    have p522 : 0 ≤ ((rd x6_2 x7_1) : Int) := of_decide_eq_true (as_)
                    have q522 : (rd x6_2 x7_1) < (x5_2.length : Int) := of_decide_eq_true (as_)
                    obtain ⟨ad522, e522, hx522_0⟩ := Kd.at_int (Kd.R_reads' HO_5.out).2.2 (rd x6_2 x7_1) p522 q522
                    obtain rfl : (⟨go7, 0, none⟩ : Addr) = ad522 := (by injection e522)
                    (first | simp only [add_plain] at hx522_0 | simp only [add_at] at hx522_0 | simp only [Addr.add, Nat.zero_add] at hx522_0 | skip)
                    replace p522 := eq_true p522
                    replace q522 := eq_true q522
                    have p37 : 0 ≤ (t519 : Int) := of_decide_eq_true (as_)
                    have q37 : (t519 : Int) < ((x5_2.length : Int) : Int) := of_decide_eq_true (as_)
                    obtain ⟨hx37_0, hf37_0⟩ := Kd.R_celln 0 HO_5.out (t519 : Int) p37 q37
                    replace p37 := eq_true p37
                    replace q37 := eq_true q37
                    obtain ⟨hy42_, hz42_⟩ := Kd.R_celln 0 HO_5.out (t519 : Int) (of_decide_eq_true (as_)) (of_decide_eq_true (as_))
                    have HP42 := Kd.R_putg HO_5.out (t519 : Int) (wrap64 ((rd x5_2 (rd x6_2 x7_1)) + 1))
                    try go_wp2_with (first | ((with_reducible refine gate_store (t := 3) (p := 60) rfl ?_); refine store_event (t := 3) (p := 60) (v := ?vo_w43) (w1 := (w41.setCell ⟨go7, (t519 : Int).toNat, none⟩ (.int .i64 (wrap64 ((rd x5_2 (rd x6_2 x7_1)) + 1))))) ?hg ?ho ?hn ?hr ?_; (case ho => rfl); (case hg => rfl); (case hn => rfl); (case hr => first | (go_simp; done) | (go_simp; rfl)); intro w43 hw; have hg : w41.grownBy w43 (some go7) := (by rw [hw]; exact HP42.2); have hp_ : Kd.R (Kd.int .i64) 3 w43 w.heap.size (fun k_ => some k_ ≠ (.slice (some ad518) x6_2.length co40 : Value).ownBlock ∧ some k_ ≠ (.slice (some ad517) t514.length co25 : Value).ownBlock) (.slice (some ⟨go7, 0, none⟩) x5_2.length co7) y523 := (by rw [hw, Ny523.out]; exact HP42.1); clear HP42; have n0_ := Aside0.mk (hp_); have n1_ := Aside0.mk (Kd.R_after (v := (.slice (some ⟨go7, 0, none⟩) x5_2.length co7)) (v1 := (.slice (some ⟨go7, 0, none⟩) x5_2.length co7)) (ok := (fun k_ => some k_ ≠ (.slice (some ad517) t514.length co25 : Value).ownBlock)) (by (with_reducible repeat (first | apply Kd.R_alloc | apply Kd.R_drewN | apply Kd.R_drew)); exact Kd.R_mono HO_6.out (fun _ hk => ⟨hk.2, hk.1⟩)) hg (.inl rfl)); have n2_ := Aside0.mk (Kd.R_after (v := (.slice (some ⟨go7, 0, none⟩) x5_2.length co7)) (v1 := (.slice (some ⟨go7, 0, none⟩) x5_2.length co7)) (ok := (fun k_ => some k_ ≠ (.slice (some ad518) x6_2.length co40 : Value).ownBlock)) (by (with_reducible repeat (first | apply Kd.R_alloc | apply Kd.R_drewN | apply Kd.R_drew)); exact Kd.R_mono HO_32.out (fun _ hk => ⟨hk.2, hk.1⟩)) hg (.inl rfl)); have n3_ := Aside0.mk (blk_grown (g := gb501) (o := .cells #[.int .i64 a0_0, .int .i64 a0_1, .int .i64 a0_2] 32 (0, 0)) (bk_ BK501.out) hg (Kd.R_ne HO_5.out BK501.out (by decide))); have n4_ := Aside0.mk ((by rw [hw]; exact below_set (HB.out) GB7.out : Below w.heap.size w w43)); clear HO_5; clear HO_6; clear HO_32; clear BK501; clear HB; have HO_5 := n0_; have HO_6 := n1_; have HO_32 := n2_; have BK501 := n3_; have HB := n4_; clear n0_ n1_ n2_ n3_ n4_; clear hg hw hp_) | ((with_reducible refine gate_builtin (b := .append) (xs := #[.tmp 61, .tmp 63]) rfl ?_); at_builtin; refine Kd.R_append (Kd.int .i64) (w0 := w) w.heap.size rfl (.tmp 61) (.tmp 63) 50 3 (.int .i64 0) 8 rfl Try.underlying50 info3 rfl (by decide) (by omega) (.slice (some ad518) x6_2.length co40) x6_2 t519 [.int .i64 t519] (fun k_ => some k_ ≠ (.slice (some ⟨go7, 0, none⟩) x5_2.length co7 : Value).ownBlock ∧ some k_ ≠ (.slice (some ad517) t514.length co25 : Value).ownBlock) (fun _ => False) rfl rfl ?aP (fun _ hk => hk.elim) ?aF ?aO ?aB ?aS ?aL ?_; (case aP => exact rfl); (case aB => exact (hb1_ HB.out GE501.out)); (case aF => exact (fun k_ hk => ⟨Kd.fresh' (Kd.R_lt (kr_ HO_5.out)) k_ hk, Kd.fresh' (Kd.R_lt (kr_ HO_32.out)) k_ hk⟩)); (case aO => exact (by (with_reducible repeat (first | apply Kd.R_alloc | apply Kd.R_drewN | apply Kd.R_drew)); exact Kd.R_mono HO_6.out (fun _ hk => ⟨hk.2, hk.1⟩))); (case aS => exact (below_size (hb1_ HB.out GE501.out))); (case aL => have := LMc38.out; omega); intro v525 w44 ho hb hg hat; rw [← Ny524.out] at ho; replace HO_5 := Aside0.mk (Kd.R_after (ok := (fun k_ => some k_ ≠ (.slice (some ad517) t514.length co25 : Value).ownBlock)) (by (with_reducible repeat (first | apply Kd.R_alloc | apply Kd.R_drewN | apply Kd.R_drew)); exact Kd.R_mono HO_5.out (fun _ hk => ⟨hk.2, hk.1⟩)) hg hat); replace HO_32 := Aside0.mk (Kd.R_after (ok := (fun k_ => some k_ ≠ (.slice (some ⟨go7, 0, none⟩) x5_2.length co7 : Value).ownBlock)) (by (with_reducible repeat (first | apply Kd.R_alloc | apply Kd.R_drewN | apply Kd.R_drew)); exact Kd.R_mono HO_32.out (fun _ hk => ⟨hk.2, hk.1⟩)) hg hat); replace BK501 := Aside0.mk (blk_grown (g := gb501) (o := .cells #[.int .i64 a0_0, .int .i64 a0_1, .int .i64 a0_2] 32 (0, 0)) (bk_ BK501.out) hg (Kd.R_ne HO_6.out BK501.out (by decide))); replace HB := Aside0.mk (hb); have HO526 := Aside0.mk (ho); clear HO_6; clear ho hb hg hat))
                    (try simp only [← hl5_2])
                    go_roundg k2
                    case measure => have := HK1.out; have := HK2.out; omega
                    case rel => exact ⟨(y523), (y524), (wrap64 (x34_2 + 1)), (by first | rfl | (simp; done) | (simp [*]; done)), H', ⟨by have := HK1.out; have := HK2.out; omega⟩, ⟨by (try simp only [hl5_1]); (try simp only [hl5_2]); (with_reducible repeat (first | apply Kd.R_alloc | apply Kd.R_drewN | apply Kd.R_drew)); exact Kd.R_mono HO_5.out (fun _ hk => ⟨hk.2, hk.1⟩)⟩, ⟨by (try simp only [hl5_1]); (try simp only [hl5_2]); (with_reducible repeat (first | apply Kd.R_alloc | apply Kd.R_drewN | apply Kd.R_drew)); exact HO526.out⟩, ⟨by (try simp only [hl5_1]); (try simp only [hl5_2]); (with_reducible repeat (first | apply Kd.R_alloc | apply Kd.R_drewN | apply Kd.R_drew)); exact HO_32.out⟩, ⟨by (try simp only [hl5_1]); (try simp only [hl5_2]); (with_reducible repeat (first | refine blk_drewN ?_ _ | refine blk_drew ?_ | refine blk_alloc ?_ _)); exact BK501.out⟩, ⟨hb1_ HB.out GE501.out⟩⟩
                   ·rw [if_neg c38] at H
                    exact absurd H (by simp)
                  ·rw [if_neg c36] at H
                   exact absurd H (by simp)
                 ·rw [if_neg c35] at H
                  exact absurd H (by simp)
                ·rw [if_neg c34] at H
                 have c34b0 : decide ((rd x5_2 t519) < 0) = false := decide_eq_false c34
                 clear c34
                 have H' := Aside0.mk H
                 clear H
                 have p517 : 0 ≤ (x34_2 : Int) := of_decide_eq_true (as_)
                 have q517 : x34_2 < (t514.length : Int) := of_decide_eq_true (as_)
                 obtain ⟨ad517, e517, hx517_0⟩ := Kd.at_int (Kd.R_reads' HO_32.out).2.2 x34_2 p517 q517
                 cases e517
                 replace p517 := eq_true p517
                 replace q517 := eq_true q517
                 try go_wp2
                 replace HO_5 := Aside0.mk (Kd.R_drew HO_5.out)
                 replace HO_6 := Aside0.mk (Kd.R_drew HO_6.out)
                 replace HO_32 := Aside0.mk (Kd.R_drew HO_32.out)
                 replace BK501 := Aside0.mk (blk_drew BK501.out)
                 replace HB := Aside0.mk (below_drew1 HB.out)
                 obtain ⟨Ao46, co46, eo46⟩ := Kd.R_slice HO_6.out
                 (first | subst eo46 | (injection eo46 with f1_ f2_ f3_; have f4_ := f1_.symm; have f5_ := f3_.symm; clear f1_ f2_ f3_; subst f4_; subst f5_))
                 have p518 : 0 ≤ (x7_1 : Int) := of_decide_eq_true (as_)
                 have q518 : x7_1 < (x6_2.length : Int) := of_decide_eq_true (as_)
                 obtain ⟨ad518, e518, hx518_0⟩ := Kd.at_int (Kd.R_reads' HO_6.out).2.2 x7_1 p518 q518
                 cases e518
                 replace p518 := eq_true p518
                 replace q518 := eq_true q518
                 refine start_ (n := 8) (S := fun w' => w'.cell? ⟨gb501, 0, none⟩ = some (.int .i64 a0_0) ∧ w'.cell? ⟨gb501, 1, none⟩ = some (.int .i64 a0_1) ∧ w'.cell? ⟨gb501, 2, none⟩ = some (.int .i64 a0_2) ∧ w'.cell? (ad518.add (x7_1).toNat) = some (.int .i64 (rd x6_2 x7_1))) (ds := []) #[false, false, false, false, false, false, false, false] (by kernel_rfl) rfl rfl ⟨BK501.c 0, BK501.c 1, BK501.c 2, hx518_0⟩ (fun hHeld => ?_); refine with_tabW impl_distances.tab10 impl_distances.bits10 (fun HT_ HW_ => ?_)
                 generalize wr.drew = w45 at HO_5 HO_6 HO_32 BK501 HB hx518_0 hHeld ⊢
                 refine pv_ (i := 1) (N := some 39) HT_.out ?_
                 refine pv_ (i := 2) (N := some 40) HT_.out ?_
                 refine pv_ (i := 3) (N := some 41) HT_.out ?_
                 refine pv_ (i := 5) (N := some 43) HT_.out ?_
                 refine tv4_ (i := 0) (N := some 38) HT_.out HW_.out hHeld ?_
                 refine tv4_ (i := 4) (N := some 42) HT_.out HW_.out hHeld ?_
                 refine ov_ (i := 6) (N := some 44) HT_.out (fun K hK => ?_)
                 refine gq_ Try.func41 #[.agg #[.int .i64 a0_0, .int .i64 a0_1, .int .i64 a0_2], .int .i64 (rd x6_2 x7_1), .int .i64 (rd t514 x34_2)] ?_
                 with_reducible refine (impl_Step.calls k2 a0_0 a0_1 a0_2 (rd x6_2 x7_1) (rd t514 x34_2) t519 _ A31.out).mono ?_
                 rintro e w47 ⟨rfl, hb⟩
                 have HS3_ := (hb.cell (World.block_lt_of_cell? _ _ (hHeld.2.2.2))).trans (hHeld.2.2.2)
                 refine ⟨_, rfl, ?_⟩
                 replace HO_5 := HO_5.kb hb
                 replace HO_6 := HO_6.kb hb
                 replace HO_32 := HO_32.kb hb
                 replace BK501 := BK501.bb hb
                 replace HB := HB.s1 GE501 hb
                 skip
                 (try clear hb2)
                 (try clear hk)
                 (try clear hi)
                 refine hK.out _ _ ⟨BK501.c 0, BK501.c 1, BK501.c 2, HS3_⟩ (fun hHeld => ?_)
                 clear hK K
                 refine nm_ ?_
                 refine pv_ (i := 7) (N := some 10) HT_.out ?_
                 refine done_ (done_of HT_.out (by kernel_rfl)) ?_
                 have p520 : 0 ≤ (t519 : Int) := of_decide_eq_true (as_)
                 have q520 : t519 < (x5_2.length : Int) := of_decide_eq_true (as_)
                 obtain ⟨ad520, e520, hx520_0⟩ := Kd.at_int (Kd.R_reads' HO_5.out).2.2 t519 p520 q520
                 obtain rfl : (⟨go7, 0, none⟩ : Addr) = ad520 := (by injection e520)
                 (first | simp only [add_plain] at hx520_0 | simp only [add_at] at hx520_0 | simp only [Addr.add, Nat.zero_add] at hx520_0 | skip)
                 replace p520 := eq_true p520
                 replace q520 := eq_true q520
                 try go_wp2
                 (try simp only [← hl5_2])
                 go_roundg k2
                 case measure => have := HK1.out; have := HK2.out; omega
                 case rel => exact ⟨(x5_2), (x6_2), (wrap64 (x34_2 + 1)), (by first | rfl | (simp; done) | (simp [*]; done)), H', ⟨by have := HK1.out; have := HK2.out; omega⟩, ⟨by (try simp only [hl5_1]); (try simp only [hl5_2]); (with_reducible repeat (first | apply Kd.R_alloc | apply Kd.R_drewN | apply Kd.R_drew)); exact HO_5.out⟩, ⟨by (try simp only [hl5_1]); (try simp only [hl5_2]); (with_reducible repeat (first | apply Kd.R_alloc | apply Kd.R_drewN | apply Kd.R_drew)); exact HO_6.out⟩, ⟨by (try simp only [hl5_1]); (try simp only [hl5_2]); (with_reducible repeat (first | apply Kd.R_alloc | apply Kd.R_drewN | apply Kd.R_drew)); exact HO_32.out⟩, ⟨by (try simp only [hl5_1]); (try simp only [hl5_2]); (with_reducible repeat (first | refine blk_drewN ?_ _ | refine blk_drew ?_ | refine blk_alloc ?_ _)); exact BK501.out⟩, ⟨hb1_ HB.out GE501.out⟩⟩
               ·rw [if_neg c33] at H
                exact absurd H (by simp)
              ·rw [if_neg c32] at H
               exact absurd H (by simp)
             ·rw [if_neg c30] at H
              exact absurd H (by simp)
            ·rw [if_neg c29] at H
             exact absurd H (by simp)
           ·rw [if_neg c28] at H
            exact absurd H (by simp)
          ·rw [if_neg c27] at H
           exact absurd H (by simp)
         ·rw [if_neg c26] at H
          have c26b0 : decide (x34_2 < (t514.length : Int)) = false := decide_eq_false c26
          clear c26
          have H' := Aside0.mk H
          clear H
          go_wp2
          (try simp only [← hl5_1, ← hl5_2])
          go_roundg k2
          case measure => have := HK1.out; have := HK2.out; omega
          case rel => exact ⟨(x5_2), (x6_2), (wrap64 (x7_1 + 1)), (by first | rfl | (simp; done) | (simp [*]; done)), H', ⟨by have := HK1.out; have := HK2.out; omega⟩, ⟨by (try simp only [hl5_1]); (try simp only [hl5_2]); (with_reducible repeat (first | apply Kd.R_alloc | apply Kd.R_drewN | apply Kd.R_drew)); exact Kd.R_mono HO_5.out (fun _ hk => hk.1)⟩, ⟨by (try simp only [hl5_1]); (try simp only [hl5_2]); (with_reducible repeat (first | apply Kd.R_alloc | apply Kd.R_drewN | apply Kd.R_drew)); exact Kd.R_mono HO_6.out (fun _ hk => hk.1)⟩, ⟨by (try simp only [hl5_1]); (try simp only [hl5_2]); (with_reducible repeat (first | refine blk_drewN ?_ _ | refine blk_drew ?_ | refine blk_alloc ?_ _)); exact BK501.out⟩, ⟨hb1_ HB.out GE501.out⟩⟩
      ·rw [if_neg c20] at H
       exact absurd H (by simp)
     ·rw [if_neg c19] at H
      have c19b0 : decide (x7_1 < (x6_1.length : Int)) = false := decide_eq_false c19
      clear c19
      obtain rfl := Option.some.inj H
      obtain ⟨Ao48, co48, eo48⟩ := Kd.R_slice HO_6.out
      subst eo48
      go_wp2
      go_ret
      exact ⟨_, ex_, by (with_reducible repeat (first | apply Kd.R_alloc | apply Kd.R_drewN | apply Kd.R_drew)); exact Kd.R_mono HO_5.out (fun _ hk => trivial), hb1_ HB.out GE501.out⟩
  ·rw [if_neg c6] at H
   exact absurd H (by simp)
 ·rw [if_neg c5] at H
  exact absurd H (by simp)

/-! ### slices_DeleteFunc_int_int: function 50 (by hand) -/
/-- The row of block g holds the numbers cs. -/
def Rw (T : TypeId) (g cap : Nat) (cs : List Int) (W : World) : Prop := ∃ cur : Array Value, W.heap[g]? = some (.cells cur T (0, 0)) ∧ cur.size = cap ∧ cur.toList.take cs.length = cs.map (Value.int .i64) ∧ cs.length ≤ cap
theorem Rw.cell {T : TypeId} {g cap : Nat} {cs : List Int} {W : World} (h : Rw T g cap cs W) (j : Nat) (hj : j < cs.length) : W.cell? ⟨g, j, none⟩ = some (.int .i64 (rd cs (j : Int))) ∧ W.frozen? ⟨g, j, none⟩ = false := by
 obtain ⟨cur, hh, hs, ht, hl⟩ := h
 refine ⟨?_, blk_frozen hh j⟩
 rw [blk_cell hh j]
 have e : (cur.toList.take cs.length)[j]? = (cs.map (Value.int .i64))[j]? := by rw [ht]
 rw [List.getElem?_take_of_lt hj, Array.getElem?_toList] at e
 rw [e, List.getElem?_map, List.getElem?_eq_getElem hj]
 simp [rd, List.getD_eq_getElem?_getD, hj]
theorem Rw.set {T : TypeId} {g cap : Nat} {cs : List Int} {W : World} (h : Rw T g cap cs W) (i : Nat) (hi : i < cs.length) (v : Int) : Rw T g cap (cs.set i v) (W.setCell ⟨g, i, none⟩ (.int .i64 v)) := by
 obtain ⟨cur, hh, hs, ht, hl⟩ := h
 refine ⟨cur.setIfInBounds i (.int .i64 v), blk_set hh i _, by simpa using hs, ?_, by simpa using hl⟩
 rw [List.length_set, Array.toList_setIfInBounds, List.take_set, ht, List.map_set]
theorem Rw.below {T : TypeId} {g cap : Nat} {cs : List Int} {W W' : World} (h : Rw T g cap cs W) (hb : Below W.heap.size W W') : Rw T g cap cs W' := by
 obtain ⟨cur, hh, hr⟩ := h
 exact ⟨cur, (hb.block g (blk_lt hh)).trans hh, hr⟩
theorem Rw.clear {T : TypeId} {g cap : Nat} (z : Int) : ∀ (m i : Nat) (cs : List Int) (W : World), Rw T g cap cs W → i + m ≤ cs.length → ∃ cs', Rw T g cap cs' (W.setCells g i (List.replicate m (Value.int .i64 z))) ∧ cs'.length = cs.length ∧ cs'.take i = cs.take i
 | 0, i, cs, W, h, _ => ⟨cs, h, rfl, rfl⟩
 | m + 1, i, cs, W, h, hl => by
  obtain ⟨cs', h1, h2, h3⟩ := Rw.clear z m (i + 1) (cs.set i z) (W.setCell ⟨g, i, none⟩ (.int .i64 z)) (h.set i (by omega) z) (by simp; omega)
  refine ⟨cs', h1, by simpa using h2, ?_⟩
  have e := congrArg (List.take i) h3
  rw [List.take_take, List.take_take, Nat.min_eq_left (by omega), List.take_set_of_le (Nat.le_refl _)] at e
  exact e
theorem kept_setCells {w : World} {g : Nat} : ∀ (vs : List Value) (i : Nat) (W : World), Kept w W (fun k => k = g) → Kept w (W.setCells g i vs) (fun k => k = g)
 | [], _, _, h => h
 | v :: vs, i, W, h => kept_setCells vs (i + 1) _ (Kept.setCell (p := ⟨g, i, none⟩) h (.inl rfl) v)
theorem below_setCells {b : Nat} {w : World} {g : Nat} (hg : b ≤ g) : ∀ (vs : List Value) (i : Nat) (W : World), Below b w W → Below b w (W.setCells g i vs)
 | [], _, _, h => h
 | v :: vs, i, W, h => below_setCells hg vs (i + 1) _ (h.setCell (p := ⟨g, i, none⟩) hg v)
theorem Rw.take {T : TypeId} {g cap : Nat} {cs : List Int} {W : World} (h : Rw T g cap cs W) (k : Nat) (hk : k ≤ cs.length) : Rw T g cap (cs.take k) W := by
 obtain ⟨cur, hh, hs, ht, hl⟩ := h
 refine ⟨cur, hh, hs, ?_, by rw [List.length_take]; omega⟩
 have e := congrArg (List.take k) ht
 rw [List.take_take, Nat.min_eq_left hk, ← List.map_take] at e
 rw [List.length_take, Nat.min_eq_left hk]
 exact e
def DInv (p : Int → Bool) (l cs : List Int) (i j : Nat) : Prop := cs.length = l.length ∧ i ≤ j ∧ j ≤ l.length ∧ cs.take i = (l.take j).filter (fun x => !p x) ∧ cs.drop j = l.drop j
theorem DInv.elem {p : Int → Bool} {l cs : List Int} {i j : Nat} (h : DInv p l cs i j) (hj : j < l.length) : rd cs (j : Int) = l[j] := by
 have e := congrArg List.head? h.2.2.2.2
 rw [List.head?_drop, List.head?_drop, List.getElem?_eq_getElem hj] at e
 simp [rd, List.getD_eq_getElem?_getD, e]
theorem DInv.skip {p : Int → Bool} {l cs : List Int} {i j : Nat} (h : DInv p l cs i j) (hj : j < l.length) (hp : p l[j] = true) : DInv p l cs i (j + 1) := by
 obtain ⟨h1, h2, h3, h4, h5⟩ := h
 refine ⟨h1, by omega, by omega, ?_, ?_⟩
 ·rw [h4, List.take_succ_eq_append_getElem hj, List.filter_append]
  simp [hp]
 ·rw [← List.drop_drop, ← List.drop_drop, h5]
theorem DInv.keep {p : Int → Bool} {l cs : List Int} {i j : Nat} (h : DInv p l cs i j) (hj : j < l.length) (hp : p l[j] = false) : DInv p l (cs.set i l[j]) (i + 1) (j + 1) := by
 obtain ⟨h1, h2, h3, h4, h5⟩ := h
 refine ⟨by simpa using h1, by omega, by omega, ?_, ?_⟩
 ·rw [List.take_succ_eq_append_getElem (by simp; omega), List.take_set_of_le (Nat.le_refl _), h4, List.take_succ_eq_append_getElem hj, List.filter_append]
  simp [hp]
 ·rw [List.drop_set_of_lt (by omega), ← List.drop_drop, ← List.drop_drop, h5]
theorem del_reps_map (l : List Int) : Reps (fun x cs => cs = [Value.int .i64 x]) 1 l (l.map (Value.int .i64)) := by
 refine ⟨by simp, fun j p hj => ?_⟩
 have hl : j < l.length := (List.getElem?_eq_some_iff.1 hj).1
 apply List.ext_getElem
 ·simp; omega
 ·intro i h1 h2
  have hi : i = 0 := by simpa using h2
  subst hi
  have := (List.getElem?_eq_some_iff.1 hj).2
  simp [this]
theorem del_reps_of {l : List Int} {inner : List Value} (h : Reps (fun x cs => cs = [Value.int .i64 x]) 1 l inner) : inner = l.map (Value.int .i64) := by
 apply List.ext_getElem
 ·rw [h.1, List.length_map, Nat.mul_one]
 ·intro j h1 h2
  have hj : j < l.length := by simpa using h2
  have := h.2 j l[j] (List.getElem?_eq_getElem hj)
  have e : ((inner.drop (j * 1)).take 1)[0]? = some (Value.int .i64 l[j]) := by rw [this]; rfl
  rw [List.getElem?_take_of_lt (by omega), List.getElem?_drop] at e
  rw [List.getElem_map]
  have e2 : inner[j]? = some (Value.int .i64 l[j]) := by simpa using e
  rw [List.getElem?_eq_getElem h1] at e2
  exact Option.some.inj e2
set_option maxHeartbeats 8000000 in
set_option maxRecDepth 100000 in
/-- The main case: the row lies in a block g. -/
theorem del_main (p : Int → Bool) (gf : Nat) (lb : Array Value) (eg : ∀ args w, (callFunc gf args).run Try.prog w = .ok (.enter gf args) w) (g cap : Nat) (l0 : List Int) (w0 w : World) (hB : Below w0.heap.size w0 w) (hg : w0.heap.size ≤ g) (hR : Rw 3 g cap l0 w) (hmax : l0.length ≤ 9223372036854775807)
  (hC : Kd.C (Kd.int .i64) w (some ⟨g, 0, none⟩) l0.length l0)
  (hp : ∀ (W : World) (x : Int), Kept w W (fun k => k = g) → x ∈ l0 → Calls Try.prog gf (#[.int .i64 x] ++ lb) W fun e w' => e = .returned (.bool (p x)) ∧ Below W.heap.size W w') :
  Calls Try.prog 50 #[.slice (some ⟨g, 0, none⟩) l0.length cap, .func (.func gf) #[] lb] w fun e w' => e = .returned (.slice (some ⟨g, 0, none⟩) (l0.filter fun x => !p x).length cap) ∧ Rw 3 g cap (l0.filter fun x => !p x) w' ∧ Kept w w' (fun k => k = g) ∧ Below w0.heap.size w0 w' := by
 have HP := Aside0.mk hp
 have HR := Aside0.mk hR
 have HB := Aside0.mk hB
 have HIx := Aside0.mk (slices_IndexFunc.gen p gf lb eg (some ⟨g, 0, none⟩) cap l0 w hC (fun W x hW hx => (hp W x (Kept.of_below hW _) hx).mono (fun e w' h => ⟨h.1, below_step hW h.2⟩)))
 clear hp hR hB hC
 by_cases hall : l0.any p = true
 ·obtain ⟨i0, hi0, hip, hib⟩ : ∃ i0 : Nat, ∃ h : i0 < l0.length, p l0[i0] = true ∧ ∀ j (hj : j < i0), p (l0[j]'(by omega)) = false := by
   cases e : l0.findIdx? p with
   | none =>
    rw [List.findIdx?_eq_none_iff] at e
    obtain ⟨x, hx, hpx⟩ := List.any_eq_true.1 hall
    rw [e x hx] at hpx
    simp at hpx
   | some i =>
    rw [List.findIdx?_eq_some_iff_getElem] at e
    obtain ⟨h, hp, hn⟩ := e
    exact ⟨i, h, hp, fun j hj => by have := hn j hj; simpa using this⟩
  have e1 : idxF p l0 = (i0 : Int) := by
   refine idxF_hit p l0 i0 (by omega) (by omega) ?_ (fun j h0 h1 => ?_)
   ·have : rd l0 (i0 : Int) = l0[i0] := by simp [rd, List.getD_eq_getElem?_getD, hi0]
    rw [this]; exact hip
   ·obtain ⟨m, rfl⟩ := Int.eq_ofNat_of_zero_le h0
    have : rd l0 (m : Int) = l0[m]'(by omega) := by simp [rd, List.getD_eq_getElem?_getD, show m < l0.length by omega]
    rw [this]; exact hib m (by omega)
  have hstart : DInv p l0 l0 i0 (i0 + 1) := by
   refine ⟨rfl, by omega, by omega, ?_, rfl⟩
   rw [List.take_succ_eq_append_getElem hi0, List.filter_append]
   have : (l0.take i0).filter (fun x => !p x) = l0.take i0 := List.filter_eq_self.2 (fun x hx => by
    obtain ⟨m, hm, rfl⟩ := List.getElem_of_mem hx
    rw [List.length_take] at hm
    rw [List.getElem_take, hib m (by omega)]
    rfl)
   rw [this]
   simp [hip]
  rw [e1] at HIx
  have DS := Aside0.mk hstart
  have MX := Aside0.mk (And.intro hmax hi0)
  have ci : ((i0 : Int) == -1) = false := by rw [beq_eq_false_iff_ne]; omega
  have ci2 : decide ((i0 : Int) = -1) = false := decide_eq_false (by omega)
  have wI : IntKind.i64.wrap ((i0 : Int) + 1) = (i0 : Int) + 1 := by rw [IntKind.wrap_i64]; omega
  clear hall hip hib e1 hstart hmax
  go_enter Try.func50, Try.ntmps50
  go_wp2_with (go_at_call 53; refine HIx.out.mono ?_; rintro e w1 ⟨rfl, hb'⟩; have HB' := Aside0.mk hb'; clear hb')
  clear ci ci2 wI
  go_loopg [5, 6, 7] l0.length (fun gg s5 s6 _ wr => ∃ (i j : Nat) (cs : List Int), s5 = .int .i64 (i : Int) ∧ s6 = .int .i64 (j : Int) ∧ Aside0 (DInv p l0 cs i j ∧ i < j) ∧ Aside0 (Rw 3 g cap cs wr) ∧ Aside0 (Kept w wr (fun k => k = g)) ∧ Aside0 (Below w0.heap.size w0 wr) ∧ Aside0 (l0.length - j ≤ gg))
  case atStart => exact ⟨i0, i0 + 1, l0, rfl, by first | rfl | simp, ⟨DS.out, by omega⟩, ⟨HR.out.below HB'.out⟩, ⟨Kept.of_below HB'.out _⟩, ⟨below_then HB.out HB.out.size HB'.out⟩, ⟨by omega⟩⟩
  case round =>
   obtain ⟨i, j, cs, rfl, rfl, HD, HRw, HK, HBw, HG⟩ := hrel
   by_cases hlt : j < l0.length
   ·obtain ⟨x, hx⟩ : ∃ x, x = l0[j] := ⟨_, rfl⟩
    have hel := HD.out.1.elem hlt
    have hlen := HD.out.1.1
    have hcell := (HRw.out.cell j (by omega)).1
    rw [hel, ← hx] at hcell
    have hcall := HP.out wr x HK.out (by rw [hx]; exact List.getElem_mem hlt)
    have c4 : decide ((j : Int) < (l0.length : Int)) = true := decide_eq_true (by omega)
    have c5 : decide (j < l0.length) = true := decide_eq_true hlt
    have p0 : (0 ≤ (j : Int)) = True := eq_true (by omega)
    have p1 : ((j : Int) < (l0.length : Int)) = True := eq_true (by omega)
    have p2 : (j < l0.length) = True := eq_true hlt
    have wJ : IntKind.i64.wrap ((j : Int) + 1) = (j : Int) + 1 := by have := MX.out.1; rw [IntKind.wrap_i64]; omega
    have HJ := Aside0.mk hlt
    have HX := Aside0.mk (show x = l0[j]'HJ.out from hx)
    clear hel hlen hx hlt
    cases hq : p x with
    | true =>
     have HQ := Aside0.mk hq
     rw [hq] at hcall
     clear hq
     go_wp2_with (go_at_fn gf; refine hcall.mono ?_; rintro e w' ⟨rfl, hb'⟩; have HB2 := Aside0.mk hb'; clear hb')
     go_roundg (l0.length - (j + 1))
     case measure => have := HG.out; have := HJ.out; omega
     case rel =>
      have hlt := HJ.out
      exact ⟨i, j + 1, cs, rfl, by first | rfl | simp, ⟨HD.out.1.skip hlt (by rw [← HX.out]; exact HQ.out), by have := HD.out.2; omega⟩, ⟨HRw.out.below HB2.out⟩, ⟨Kept.below HK.out HB2.out⟩, ⟨below_then HBw.out HBw.out.size HB2.out⟩, ⟨Nat.le_refl _⟩⟩
    | false =>
     have HQ := Aside0.mk hq
     rw [hq] at hcall
     clear hq
     have q0 : (0 ≤ (i : Int)) = True := eq_true (by omega)
     have q1 : ((i : Int) < (l0.length : Int)) = True := eq_true (by have := HD.out.2; have := HJ.out; omega)
     have q2 : (i < l0.length) = True := eq_true (by have := HD.out.2; have := HJ.out; omega)
     have wI : IntKind.i64.wrap ((i : Int) + 1) = (i : Int) + 1 := by have := MX.out.1; have := HD.out.2; have := HJ.out; rw [IntKind.wrap_i64]; omega
     go_wp2_with (go_at_fn gf; refine hcall.mono ?_; rintro e w' ⟨rfl, hb'⟩; have HB2 := Aside0.mk hb'; have hs_ := (HRw.out.below hb').cell i (by have := HD.out.1.1; have := HD.out.2; have := HJ.out; omega); have hs1 := hs_.1; have hs2 := hs_.2; clear hb' hs_)
     go_roundg (l0.length - (j + 1))
     case measure => have := HG.out; have := HJ.out; omega
     case rel =>
      have hlt := HJ.out
      have hij := HD.out.2
      have hlen := HD.out.1.1
      have hx := HX.out
      refine ⟨i + 1, j + 1, cs.set i x, by first | rfl | simp, by first | rfl | simp, ⟨?_, by omega⟩, ⟨(HRw.out.below HB2.out).set i (by omega) x⟩, ⟨Kept.setCell (p := ⟨g, i, none⟩) (Kept.below HK.out HB2.out) (.inl rfl) _⟩, ⟨(below_then HBw.out HBw.out.size HB2.out).setCell (p := ⟨g, i, none⟩) hg _⟩, ⟨Nat.le_refl _⟩⟩
      rw [hx]
      exact HD.out.1.keep hlt (by rw [← hx]; exact HQ.out)
   ·have hjn : j = l0.length := by have := HD.out.1.2.2.1; omega
    subst hjn
    have c4 : decide (((l0.length : Nat) : Int) < (l0.length : Int)) = false := decide_eq_false (by omega)
    have hlen := HD.out.1.1
    have hi := HD.out.2
    have hcap : l0.length ≤ cap := by
     obtain ⟨cur, _, _, _, h⟩ := HRw.out
     omega
    have hz : ∀ w, (zeroValue 3).run Try.prog w = .ok (Value.int .i64 0) w := by
     obtain ⟨ti, hi, hz⟩ := Option.map_eq_some_iff.1 info3
     simp only [Prod.mk.injEq] at hz
     intro w
     simp [zeroValue, typeInfo, hi, hz.1]
    have hcl : ∀ ty, (Builtin.clear_ #[50] ty #[.slice (some ⟨g, i, none⟩) (l0.length - i) (cap - i)]).run Try.prog wr = .ok (.tuple #[]) (wr.setCells g i (List.replicate (l0.length - i) (Value.int .i64 0))) := fun ty =>
     Lib.run_clear_slice wr 50 3 ty (Value.int .i64 0) Try.underlying50 hz rfl rfl g i (l0.length - i) (cap - i) (by omega) (fun m hm => by rw [(HRw.out.cell (i + m) (by omega)).1]; rfl) (fun m hm => (HRw.out.cell (i + m) (by omega)).2)
    have RC := Aside0.mk (Rw.clear 0 (l0.length - i) i cs wr HRw.out (by omega))
    have KC := Aside0.mk (kept_setCells (List.replicate (l0.length - i) (Value.int .i64 0)) i wr HK.out)
    have BC := Aside0.mk (below_setCells hg (List.replicate (l0.length - i) (Value.int .i64 0)) i wr HBw.out)
    have e5 : (cap = i) = False := eq_false (by omega)
    have q0 : (0 ≤ (i : Int)) = True := eq_true (by omega)
    have q1 : ((i : Int) ≤ (l0.length : Int)) = True := eq_true (by omega)
    have q2 : (i ≤ l0.length) = True := eq_true (by omega)
    have q3 : ((i : Int) ≤ (cap : Int)) = True := eq_true (by omega)
    have q4 : (i ≤ cap) = True := eq_true (by omega)
    have HI := Aside0.mk hi
    clear hlen hi hcap hz
    generalize wr.setCells g i (List.replicate (l0.length - i) (Value.int .i64 0)) = W5 at *
    go_wp2
    go_ret
    obtain ⟨cs', r1, r2, r3⟩ := RC.out
    have hlen := HD.out.1.1
    have hi := HI.out
    have hf : cs'.take i = l0.filter fun x => !p x := by rw [r3, HD.out.1.2.2.2.1, List.take_length]
    have hfl : (l0.filter fun x => !p x).length = i := by rw [← hf, List.length_take]; omega
    refine ⟨by rw [hfl]; rfl, ?_, KC.out, BC.out⟩
    rw [← hf]
    exact r1.take i (by omega)
 ·have hno : ∀ x ∈ l0, p x = false := by simpa using hall
  have e1 : idxF p l0 = -1 := idxF_miss p l0 (fun j h0 h1 => hno _ (rd_mem l0 j h0 h1))
  have e2 : (l0.filter fun x => !p x) = l0 := List.filter_eq_self.2 (fun x hx => by simp [hno x hx])
  rw [e1] at HIx
  rw [e2]
  clear hno hall e1 e2
  go_enter Try.func50, Try.ntmps50
  go_wp2_with (go_at_call 53; refine HIx.out.mono ?_; rintro e w' ⟨rfl, hb'⟩; have HB' := Aside0.mk hb'; clear hb')
  go_ret
  exact ⟨rfl, HR.out.below HB'.out, Kept.of_below HB'.out _, below_then HB.out HB.out.size HB'.out⟩
set_option maxHeartbeats 8000000 in
set_option maxRecDepth 100000 in
/-- Of a row of the call's own: what stays is handed back in the same row. -/
theorem slices_DeleteFunc.gen (p : Int → Bool) (gf : Nat) (lb : Array Value) (eg : ∀ args w, (callFunc gf args).run Try.prog w = .ok (.enter gf args) w) (P0_ : Nat → Prop) (u : Value) (l0 : List Int) (w0 w : World) (hB : Below w0.heap.size w0 w) (ho0 : Kd.R (Kd.int .i64) 3 w w0.heap.size P0_ u l0)
  (hp : ∀ (W : World) (x : Int), Kept w W (fun k => u.ownBlock = some k) → x ∈ l0 → Calls Try.prog gf (#[.int .i64 x] ++ lb) W fun e w' => e = .returned (.bool (p x)) ∧ Below W.heap.size W w') :
  Calls Try.prog 50 #[u, .func (.func gf) #[] lb] w fun e w' => ∃ v0_ : Value, e = .returned v0_ ∧ Kd.R (Kd.int .i64) 3 w' w0.heap.size (fun k_ => (P0_ k_ ∨ w.heap.size ≤ k_)) v0_ (l0.filter fun x => !p x) ∧ Below w0.heap.size w0 w' ∧ Kept w w' (fun k_ => P0_ k_) := by
 have hCu := Kd.R_reads ho0
 obtain ⟨hok, inner, ⟨hlen, hcase⟩, hreps⟩ := ho0
 have hin := del_reps_of hreps
 subst hin
 clear hreps hlen
 rcases hcase with ⟨rfl, hn⟩ | ⟨g, cap, cur, rfl, hg, hh, hcap, hmax, hsz, htk⟩
 ·obtain rfl := List.length_eq_zero_iff.mp hn
  obtain ⟨A, c, he, _, hC⟩ := hCu
  cases he
  have HB := Aside0.mk hB
  have HIx := Aside0.mk (slices_IndexFunc.gen p gf lb eg none 0 [] w hC (fun W x hW hx => by simp at hx))
  clear hB hC hp hok hn
  go_enter Try.func50, Try.ntmps50
  go_wp2_with (go_at_call 53; refine HIx.out.mono ?_; rintro e w' ⟨rfl, hb'⟩; have HB' := Aside0.mk hb'; clear hb')
  go_ret
  exact ⟨_, rfl, Kd.R_nil _ _ _ _ _, below_then HB.out HB.out.size HB'.out, Kept.of_below HB'.out _⟩
 ·change cur.size = cap * 1 at hsz
  change cur.toList.take (l0.length * 1) = _ at htk
  rw [Nat.mul_one] at hsz htk
  obtain ⟨A, c, he, _, hC⟩ := hCu
  injection he with he1 he2 he3
  subst he1
  have hmx : l0.length ≤ 9223372036854775807 := by have := Kd.C_max hC; omega
  refine (del_main p gf lb eg g cap l0 w0 w hB hg ⟨cur, hh, hsz, htk, hcap⟩ hmx hC (fun W x hW hx => hp W x (hW.mono (fun k hk => by subst hk; rfl)) hx)).mono ?_
  rintro e w' ⟨rfl, ⟨cur2, h1, h2, h3, h4⟩, hk, hb⟩
  have hok' : P0_ g := hok g rfl
  refine ⟨_, rfl, ⟨fun k hk => ?_, (l0.filter fun x => !p x).map (Value.int .i64), ⟨?_, .inr ⟨g, cap, cur2, rfl, hg, h1, h4, hmax, ?_, ?_⟩⟩, del_reps_map _⟩, hb, hk.mono (fun k hk => by subst hk; exact hok')⟩
  ·have : g = k := by simpa [Value.ownBlock] using hk
   exact .inl (this ▸ hok')
  ·show _ = _ * 1
   simp
  ·show cur2.size = cap * 1
   omega
  ·show cur2.toList.take (_ * 1) = _
   rw [Nat.mul_one]
   exact h3

/-! ### impl_upTo: function 51 -/
def impl_upTo.l0 : Nat → Int → List Int → Int → Option (List Int)
 | 0, _, _, _ => none
 | k + 1, x0, x3, x4 => if x4 < x0 then (if x3.length < 17592186044416 then (impl_upTo.l0 k x0 (x3 ++ [x4]) (wrap64 (x4 + 1))) else (none)) else (some x3)
def impl_upTo.f (k : Nat) (a0 : Int) : Option (List Int) := impl_upTo.l0 k a0 ([] : List Int) 0
theorem impl_upTo.mono_l : ∀ k, (∀ y0 y1 y2, LeO (impl_upTo.l0 k y0 y1 y2) (impl_upTo.l0 (k + 1) y0 y1 y2))
 | 0 => fun _ _ _ r h => by simp [impl_upTo.l0] at h
 | k + 1 => by
  have ih0 := impl_upTo.mono_l k
  ·intro y0 y1 y2
   unfold impl_upTo.l0
   repeat' first
   | (with_reducible exact ih0 ..)
   | (with_reducible first | exact lr_ _ | exact ln_ _ | refine li_ ?_ ?_ | refine lb_ ?_ fun _ => ?_)
   | exact ih0 ..
   | exact ln_ _ | refine li_ ?_ ?_ | refine lb_ ?_ fun _ => ?_
theorem impl_upTo.mono : ∀ a0 k, LeO (impl_upTo.f k a0) (impl_upTo.f (k + 1) a0) := by
 intro a0 k
 have ih0 := impl_upTo.mono_l k
 unfold impl_upTo.f
 repeat' first
   | (with_reducible exact ih0 ..)
   | (with_reducible first | exact lr_ _ | exact ln_ _ | refine li_ ?_ ?_ | refine lb_ ?_ fun _ => ?_)
   | exact ih0 ..
   | exact ln_ _ | refine li_ ?_ ?_ | refine lb_ ?_ fun _ => ?_
set_option maxHeartbeats 8000000 in
set_option maxRecDepth 100000 in
theorem impl_upTo.calls (k : Nat) (a0 : Int) (r : List Int) (w : World) (h : impl_upTo.f k a0 = some r) :
  Calls Try.prog 51 #[.int .i64 a0] w fun e w' => ∃ v0_ : Value, e = .returned (v0_) ∧ Kd.R (Kd.int .i64) 3 w' w.heap.size (fun _ => True) v0_ r ∧ Below w.heap.size w w' := by
 have HB := Aside0.mk (Below.refl w.heap.size w)
 have H : (impl_upTo.l0 k a0 ([] : List Int) 0) = some r := h
 clear h
 have H' := Aside0.mk H
 clear H
 go_enter Try.func51, Try.ntmps51
 go_wp2
 go_loopg [3, 4] k (fun kq v3 v4 w' => ∃ (x3_1 : List Int) (x4_1 : Int), v4 = .int .i64 x4_1 ∧ Aside0 (impl_upTo.l0 kq a0 x3_1 x4_1 = some r) ∧ Aside0 (kq ≤ k) ∧ Aside0 (Kd.R (Kd.int .i64) 3 w' w.heap.size (fun _ => True) v3 x3_1) ∧ Aside0 (Below w.heap.size w w'))
 case atStart => exact ⟨(([] : List Int)), (0), (by first | rfl | (simp; done) | (simp [*]; done)), H', ⟨Nat.le_refl _⟩, ⟨by first | exact Kd.R_nil _ _ _ _ _ | exact Kd.N_nil _ _ _ _ _ | exact Kd.V_nil _ _ _ _ _ | exact Kd.Q_nil _ _ _ _ _ | exact Kd.S_nil _ _ _ _ _⟩, ⟨hb0_ HB.out⟩⟩
 case round =>
  clear H'
  obtain ⟨x3_1, x4_1, rfl, HA, HK1, HO_3, HB⟩ := hrel
  cases gk with
  | zero => exact absurd HA.out (by simp [impl_upTo.l0])
  | succ k1 =>
   have H := HA.out
   clear HA
   simp only [impl_upTo.l0] at H
   by_cases c2 : x4_1 < a0
   ·rw [if_pos c2] at H
    have c2b0 : decide (x4_1 < a0) = true := decide_eq_true c2
    clear c2
    by_cases c3 : x3_1.length < 17592186044416
    ·rw [if_pos c3] at H
     have LMc3 := Aside0.mk c3
     clear c3
     obtain ⟨y501, hy501⟩ : ∃ y_ : List Int, y_ = (x3_1 ++ [x4_1]) := ⟨_, rfl⟩
     replace H : (impl_upTo.l0 k1 a0 y501 (wrap64 (x4_1 + 1))) = some r := by first | (rw [hy501]; with_reducible exact H) | (have H2_ := (Option.bind_some _ _).symm.trans H; rw [hy501]; with_reducible exact H2_) | (have H2_ := (Option.bind_some _ _).symm.trans H; with_reducible exact H2_) | with_reducible exact H | (rw [hy501]; exact H) | exact H
     have Ny501 := Aside0.mk hy501
     clear hy501
     have H' := Aside0.mk H
     clear H
     go_wp2_with (first | ((with_reducible refine gate_builtin (b := .append) (xs := #[.tmp 10, .tmp 12]) rfl ?_); at_builtin; refine Kd.R_append (Kd.int .i64) (w0 := w) w.heap.size rfl (.tmp 10) (.tmp 12) 50 3 (.int .i64 0) 8 rfl Try.underlying50 info3 rfl (by decide) (by omega) u3 x3_1 x4_1 [.int .i64 x4_1] (fun _ => True) (fun _ => False) rfl rfl ?aP (fun _ hk => hk.elim) ?aF ?aO ?aB ?aS ?aL ?_; (case aP => exact rfl); (case aB => exact (hb0_ HB.out)); (case aF => exact (fun _ _ => trivial)); (case aO => exact (kr_ HO_3.out)); (case aS => exact (below_size (hb0_ HB.out))); (case aL => have := LMc3.out; omega); intro v502 w4 ho hb hg hat; rw [← Ny501.out] at ho; replace HB := Aside0.mk (hb); have HO503 := Aside0.mk (ho); clear HO_3; clear ho hb hg hat))
     go_roundg k1
     case measure => have := HK1.out; omega
     case rel => exact ⟨(y501), (wrap64 (x4_1 + 1)), (by first | rfl | (simp; done) | (simp [*]; done)), H', ⟨by have := HK1.out; omega⟩, ⟨kr_ HO503.out⟩, ⟨hb0_ HB.out⟩⟩
    ·rw [if_neg c3] at H
     exact absurd H (by simp)
   ·rw [if_neg c2] at H
    have c2b0 : decide (x4_1 < a0) = false := decide_eq_false c2
    clear c2
    obtain rfl := Option.some.inj H
    go_wp2
    go_ret
    exact ⟨_, ex_, kr_ HO_3.out, hb0_ HB.out⟩

/-! ### impl_Reached: function 43 (by hand) -/
set_option maxHeartbeats 2000000 in
theorem impl_Reached_1.calls (B : Nat) (A : Option Addr) (c : Nat) (far : List Int) (x : Int) (w : World) (hbox : w.cell? ⟨B, 0, none⟩ = some (.slice A far.length c)) (hC : Kd.C (Kd.int .i64) w A far.length far) (h0 : 0 ≤ x) (h1 : x < (far.length : Int)) :
  Calls Try.prog 58 #[.int .i64 x, .pointer (some ⟨B, 0, none⟩)] w fun e w' => e = .returned (.bool (decide (rd far x < 0))) ∧ Below w.heap.size w w' := by
 obtain ⟨ad, e, hx⟩ := Kd.at_int hC x h0 h1
 cases e
 have p0 := eq_true h0
 have p1 := eq_true h1
 have p2 : decide (x < (far.length : Int)) = true := decide_eq_true h1
 clear hC h0 h1
 go_enter Try.func58, Try.ntmps58
 go_wp2_with fail
 repeat (go_quiet (fail); try go_wp2_with fail)
 go_ret
 exact ⟨by first | rfl | simp, by repeat (first | exact Below.refl _ _ | apply below_drew1 | apply pw_below_drewN | exact ⟨rfl, rfl, rfl, Nat.le_refl _, fun _ _ => rfl⟩)⟩
theorem reach_hp {w W0 w12 : World} {A2 : Option Addr} {c2 : Nat} {far up : List Int} {g0 : Nat} {vu : Value} {T : TypeId} (hF : Kd.R (Kd.int .i64) 3 W0 w.heap.size (fun _ => True) (.slice A2 far.length c2) far) (hbx : W0.heap[g0]? = some (.cells #[Value.slice A2 far.length c2] T (0, 0))) (hlt : g0 < W0.heap.size) (hb : Below W0.heap.size W0 w12) (hU : Kd.R (Kd.int .i64) 3 w12 W0.heap.size (fun _ => True) vu up)
  (hall : (up.all fun x => decide (0 ≤ x ∧ x < (far.length : Int))) = true) : ∀ (W : World) (x : Int), Kept w12 W (fun k => vu.ownBlock = some k) → x ∈ up → Calls Try.prog 58 (#[.int .i64 x] ++ #[.pointer (some ⟨g0, 0, none⟩)]) W fun e w' => e = .returned (.bool (decide (rd far x < 0))) ∧ Below W.heap.size W w' := by
 intro W x hK hx
 have hm : ∀ k, k < W0.heap.size → W.heap[k]? = W0.heap[k]? := fun k hk =>
  (hK.2 k (Nat.lt_of_lt_of_le hk hb.size) (fun z => by have := Kd.R_base hU k z; omega)).trans (hb.block k hk)
 have h1 := Kd.R_move (Kd.R_bound hF) (w1 := W) (fun k hk => hm k hk.2.2.1)
 obtain ⟨A, c, he, _, hC⟩ := Kd.R_reads h1
 injection he with he1 he2 he3
 subst he1
 have hr := of_decide_eq_true (List.all_eq_true.1 hall x hx)
 exact impl_Reached_1.calls g0 A2 c2 far x W ((blk_cell ((hm g0 hlt).trans hbx) 0).trans rfl) hC hr.1 hr.2
def impl_Reached.f (k : Nat) (a0_0 : Int) (a0_1 : Int) (a0_2 : Int) (a1 : Int) : Option (List Int) := (impl_isIn.f a0_0 a0_1 a0_2 [a1]).bind fun t => if t = true then ((impl_distances.f k a0_0 a0_1 a0_2 a1).bind fun far => ((impl_upTo.f k (far.length : Int)).bind fun up => (if (up.all fun x => decide (0 ≤ x ∧ x < (far.length : Int))) = true then (some (up.filter fun x => !decide (rd far x < 0))) else none))) else (some [])
theorem impl_Reached.mono : ∀ a0_0 a0_1 a0_2 a1 k, LeO (impl_Reached.f k a0_0 a0_1 a0_2 a1) (impl_Reached.f (k + 1) a0_0 a0_1 a0_2 a1) := by
 intro a0_0 a0_1 a0_2 a1 k
 unfold impl_Reached.f
 refine LeO.bind (LeO.refl _) (fun t => LeO.ite ?_ (LeO.refl _))
 refine LeO.bind (impl_distances.mono _ _ _ _ _) (fun far => LeO.bind (impl_upTo.mono _ _) (fun up => LeO.refl _))
set_option maxHeartbeats 8000000 in
set_option maxRecDepth 100000 in
theorem impl_Reached.calls (k : Nat) (a0_0 : Int) (a0_1 : Int) (a0_2 : Int) (a1 : Int) (r : List Int) (w : World) (h : impl_Reached.f k a0_0 a0_1 a0_2 a1 = some r) :
  Calls Try.prog 43 #[.agg #[.int .i64 a0_0, .int .i64 a0_1, .int .i64 a0_2], .int .i64 a1] w fun e w' => ∃ v0_ : Value, e = .returned (v0_) ∧ Kd.R (Kd.int .i64) 3 w' w.heap.size (fun _ => True) v0_ r ∧ Below w.heap.size w w' := by
 have HB := Aside0.mk (Below.refl w.heap.size w)
 unfold impl_Reached.f at h
 have h2 := Option.bind_eq_some_iff.mp h
 clear h
 obtain ⟨t, hin, h⟩ := h2
 have A3 := Aside0.mk hin
 clear hin
 have hu29 := Try.underlying32
 obtain ⟨y502, hy502⟩ : ∃ y_ : List Int, y_ = (([a1] : List Int)) := ⟨_, rfl⟩
 rw [← hy502] at A3
 have Ny502 := Aside0.mk hy502
 clear hy502
 by_cases c : t = true
 ·subst c
  rw [if_pos rfl] at h
  have h2 := Option.bind_eq_some_iff.mp h
  clear h
  obtain ⟨far, hfar, h⟩ := h2
  have h2 := Option.bind_eq_some_iff.mp h
  clear h
  obtain ⟨up, hup, h⟩ := h2
  have AF := Aside0.mk hfar
  have AU := Aside0.mk hup
  have AH := Aside0.mk h
  clear hfar hup h
  go_enter Try.func43, Try.ntmps43
  go_upto_region 3 with (first | (refine box_ (N := 2) (cs := #[.int .i64 a0_0, .int .i64 a0_1, .int .i64 a0_2]) (t := 32) ?_; intro gb501 hg w5 hbox hb; have BK501 := Aside0.mk (hbox); have GW501 := HB.g0 hg; have GE501 := HB.g0 hg; replace HB := HB.s0 hb; clear hb hbox hg; obtain ⟨hcz6_0, hcz6_1, hcz6_2⟩ := cz3_ BK501.out; obtain ⟨hfz6_0, hfz6_1, hfz6_2⟩ := fz3_ BK501.out) | ((with_reducible refine gate_dst (N := 8) rfl ?_); refine Kd.R_lit (Kd.int .i64) _ 3 ?hg (N := 8) ?hd (xs := ([a1] : List Int)) (inner := [.int .i64 a1]) (ok := fun _ => True) (okp := fun _ => True) ?hr ?hp (fun _ hk => hk) trivial (Below.refl _ _) (Nat.le_refl _) (by simp) ?_; (case hd => rfl); (case hg => rfl); (case hr => first | (go_simp; done) | (go_simp; rfl)); (case hp => exact (Reps.one (show Kd.M (Kd.int .i64) _ _ _ a1 [.int .i64 a1] from rfl) (Reps.none _ _))); intro v503 w7 ho8 hb hg_ hnew_; clear hg_ hnew_; (first | rw [← Ny502.out] at ho8 | (simp only [Int.reduceToNat] at ho8; rw [← Ny502.out] at ho8)); have HO504 := Aside0.mk (Kd.R_lower ho8 (below_size (hb1_ HB.out GE501.out))); replace BK501 := BK501.bb hb; replace HB := HB.s1 GE501 hb; clear hb ho8; obtain ⟨Ao9, co9, eo9⟩ := Kd.R_slice HO504.out; subst eo9) | (refine gl_ 9 Try.func21 #[.agg #[.int .i64 a0_0, .int .i64 a0_1, .int .i64 a0_2], .slice Ao9 y502.length co9] ?_; (with_reducible refine (impl_isIn.calls a0_0 a0_1 a0_2 _ _ y502 true _ ?side1 ?side2 A3.out).mono ?_); (case side1 => repeat (first | exact (Kd.R_reads' HO504.out).2.2 | (with_reducible refine Kd.C_alloc ?_ _) | (with_reducible refine Kd.C_drewN ?_ _) | (with_reducible refine Kd.C_drew ?_))); (case side2 => exact (Kd.R_reads' HO504.out).2.1); rintro e w10 ⟨rfl, hb⟩; refine ⟨_, rfl, ?_⟩; replace HO504 := HO504.kb hb; replace BK501 := BK501.bb hb; replace HB := HB.s1 GE501 hb; (try clear hb)))
  clear hcz6_0 hcz6_1 hcz6_2 hfz6_0 hfz6_1 hfz6_2
  obtain ⟨z0, z1, z2⟩ := cz3_ BK501.out
  go_upto_region 4 with (go_at_call 22; refine (impl_distances.calls k a0_0 a0_1 a0_2 a1 far _ AF.out).mono ?_; rintro e w11 ⟨vf, rfl, hof, hb⟩; have HOF := Aside0.mk (Kd.R_lower hof (below_size (hb1_ HB.out GE501.out))); have BK2 := BK501.bb hb; have HB2 := HB.s1 GE501 hb; obtain ⟨A2, c2, ev⟩ := Kd.R_slice hof; clear hof hb; subst ev)
  have hAH := AH.out
  obtain ⟨hall, rfl⟩ : (up.all fun x => decide (0 ≤ x ∧ x < (far.length : Int))) = true ∧ (up.filter fun x => !decide (rd far x < 0)) = r := by
   by_cases q : (up.all fun x => decide (0 ≤ x ∧ x < (far.length : Int))) = true
   ·rw [if_pos q] at hAH
    exact ⟨q, Option.some.inj hAH⟩
   ·rw [if_neg q] at hAH
    exact absurd hAH (by simp)
  have HALL := Aside0.mk hall
  have hbx : (w11.alloc (Obj.cells #[Value.slice A2 far.length c2] 50)).heap[w11.heap.size]? = some (.cells #[Value.slice A2 far.length c2] 50 (0, 0)) := heap_alloc_new w11 _
  have hcx : (w11.alloc (Obj.cells #[Value.slice A2 far.length c2] 50)).cell? ⟨w11.heap.size, 0, none⟩ = some (.slice A2 far.length c2) := (blk_cell hbx 0).trans rfl
  have hlt : w11.heap.size < (w11.alloc (Obj.cells #[Value.slice A2 far.length c2] 50)).heap.size := blk_lt hbx
  have HF := Aside0.mk (Kd.R_below HOF.out (w1 := w11.alloc (Obj.cells #[Value.slice A2 far.length c2] 50)) (below_alloc (Below.refl _ _) _))
  have HB3 := Aside0.mk (HB2.out.alloc HB2.out.size (Obj.cells #[Value.slice A2 far.length c2] 50))
  have BX := Aside0.mk (And.intro hbx hlt)
  have eg := enters_of Try.func58 (by kernel_rfl) rfl
  have EG := Aside0.mk eg
  clear hAH AH hall hbx hlt HOF eg z0 z1 z2
  generalize w11.heap.size = g0 at *
  generalize w11.alloc (Obj.cells #[Value.slice A2 far.length c2] 50) = W0 at *
  go_wp2_with (first | (go_at_call 51; refine (impl_upTo.calls k (far.length : Int) up _ AU.out).mono ?_; rintro e w12 ⟨vu, rfl, hou, hb⟩; have HU := Aside0.mk hou; have HB4 := Aside0.mk hb; clear hou hb) | (go_at_call 50; refine (slices_DeleteFunc.gen (fun x => decide (rd far x < 0)) 58 #[.pointer (some ⟨g0, 0, none⟩)] EG.out (fun _ => True) vu up w w12 (below_then HB3.out HB3.out.size HB4.out) (Kd.R_lower HU.out HB3.out.size) (reach_hp HF.out BX.out.1 BX.out.2 HB4.out HU.out HALL.out)).mono ?_; rintro e w13 ⟨v13, rfl, h13, hb13, _⟩; have H13 := Aside0.mk h13; have B13 := Aside0.mk hb13; clear h13 hb13))
  go_ret
  exact ⟨_, rfl, Kd.R_mono H13.out (fun _ _ => trivial), B13.out⟩
 ·rw [if_neg c] at h
  obtain rfl := Option.some.inj h
  have c' : t = false := by simpa using c
  subst c'
  clear h c
  go_enter Try.func43, Try.ntmps43
  go_wp2_with (first | (refine box_ (N := 2) (cs := #[.int .i64 a0_0, .int .i64 a0_1, .int .i64 a0_2]) (t := 32) ?_; intro gb501 hg w5 hbox hb; have BK501 := Aside0.mk (hbox); have GW501 := HB.g0 hg; have GE501 := HB.g0 hg; replace HB := HB.s0 hb; clear hb hbox hg; obtain ⟨hcz6_0, hcz6_1, hcz6_2⟩ := cz3_ BK501.out; obtain ⟨hfz6_0, hfz6_1, hfz6_2⟩ := fz3_ BK501.out) | ((with_reducible refine gate_dst (N := 8) rfl ?_); refine Kd.R_lit (Kd.int .i64) _ 3 ?hg (N := 8) ?hd (xs := ([a1] : List Int)) (inner := [.int .i64 a1]) (ok := fun _ => True) (okp := fun _ => True) ?hr ?hp (fun _ hk => hk) trivial (Below.refl _ _) (Nat.le_refl _) (by simp) ?_; (case hd => rfl); (case hg => rfl); (case hr => first | (go_simp; done) | (go_simp; rfl)); (case hp => exact (Reps.one (show Kd.M (Kd.int .i64) _ _ _ a1 [.int .i64 a1] from rfl) (Reps.none _ _))); intro v503 w7 ho8 hb hg_ hnew_; clear hg_ hnew_; (first | rw [← Ny502.out] at ho8 | (simp only [Int.reduceToNat] at ho8; rw [← Ny502.out] at ho8)); have HO504 := Aside0.mk (Kd.R_lower ho8 (below_size (hb1_ HB.out GE501.out))); replace BK501 := BK501.bb hb; replace HB := HB.s1 GE501 hb; clear hb ho8; obtain ⟨Ao9, co9, eo9⟩ := Kd.R_slice HO504.out; subst eo9) | (refine gl_ 9 Try.func21 #[.agg #[.int .i64 a0_0, .int .i64 a0_1, .int .i64 a0_2], .slice Ao9 y502.length co9] ?_; (with_reducible refine (impl_isIn.calls a0_0 a0_1 a0_2 _ _ y502 false _ ?side1 ?side2 A3.out).mono ?_); (case side1 => repeat (first | exact (Kd.R_reads' HO504.out).2.2 | (with_reducible refine Kd.C_alloc ?_ _) | (with_reducible refine Kd.C_drewN ?_ _) | (with_reducible refine Kd.C_drew ?_))); (case side2 => exact (Kd.R_reads' HO504.out).2.1); rintro e w10 ⟨rfl, hb⟩; refine ⟨_, rfl, ?_⟩; replace HO504 := HO504.kb hb; replace BK501 := BK501.bb hb; replace HB := HB.s1 GE501 hb; (try clear hb)))
  go_ret
  exact ⟨_, rfl, Kd.R_nil _ _ _ _ _, hb1_ HB.out GE501.out⟩

/-! ### impl_CountParts: function 49 -/
def impl_CountParts.l0 : Nat → Int → Int → Int → Int → Int → Option (Int)
 | 0, _, _, _, _, _ => none
 | k + 1, x3, x4, x502000, x502001, x502002 => (impl_isIn.f x502000 x502001 x502002 (([x4] : List Int))).bind fun t505 => (if t505 = true then ((impl_Reached.f k x502000 x502001 x502002 x4).bind fun t506 => (if 0 < (t506.length : Int) then (if (rd t506 0) = x4 then (impl_CountParts.l0 k (wrap64 (x3 + 1)) (wrap64 (x4 + 1)) x502000 x502001 x502002) else (impl_CountParts.l0 k x3 (wrap64 (x4 + 1)) x502000 x502001 x502002)) else (none))) else (some x3))
def impl_CountParts.f (k : Nat) (a0_0 : Int) (a0_1 : Int) (a0_2 : Int) : Option (Int) := impl_CountParts.l0 k 0 0 a0_0 a0_1 a0_2
theorem impl_CountParts.mono_l : ∀ k, (∀ y0 y1 y2 y3 y4, LeO (impl_CountParts.l0 k y0 y1 y2 y3 y4) (impl_CountParts.l0 (k + 1) y0 y1 y2 y3 y4))
 | 0 => fun _ _ _ _ _ r h => by simp [impl_CountParts.l0] at h
 | k + 1 => by
  have ih0 := impl_CountParts.mono_l k
  ·intro y0 y1 y2 y3 y4
   unfold impl_CountParts.l0
   repeat' first
   | (with_reducible exact ih0 ..)
   | (with_reducible exact impl_Reached.mono ..)
   | (with_reducible first | exact lr_ _ | exact ln_ _ | refine li_ ?_ ?_ | refine lb_ ?_ fun _ => ?_)
   | exact ih0 ..
   | exact impl_Reached.mono ..
   | exact ln_ _ | refine li_ ?_ ?_ | refine lb_ ?_ fun _ => ?_
theorem impl_CountParts.mono : ∀ a0 a1 a2 k, LeO (impl_CountParts.f k a0 a1 a2) (impl_CountParts.f (k + 1) a0 a1 a2) := by
 intro a0 a1 a2 k
 have ih0 := impl_CountParts.mono_l k
 unfold impl_CountParts.f
 repeat' first
   | (with_reducible exact ih0 ..)
   | (with_reducible exact impl_Reached.mono ..)
   | (with_reducible first | exact lr_ _ | exact ln_ _ | refine li_ ?_ ?_ | refine lb_ ?_ fun _ => ?_)
   | exact ih0 ..
   | exact impl_Reached.mono ..
   | exact ln_ _ | refine li_ ?_ ?_ | refine lb_ ?_ fun _ => ?_
set_option maxHeartbeats 8000000 in
set_option maxRecDepth 100000 in
theorem impl_CountParts.calls (k : Nat) (a0_0 : Int) (a0_1 : Int) (a0_2 : Int) (r : Int) (w : World) (h : impl_CountParts.f k a0_0 a0_1 a0_2 = some r) :
  Calls Try.prog 49 #[.agg #[.int .i64 a0_0, .int .i64 a0_1, .int .i64 a0_2]] w fun e w' => e = .returned (.int .i64 r) ∧ Below w.heap.size w w' := by
 have hu32 := Try.underlying32
 have HB := Aside0.mk (Below.refl w.heap.size w)
 have H : (impl_CountParts.l0 k 0 0 a0_0 a0_1 a0_2) = some r := h
 clear h
 have H' := Aside0.mk H
 clear H
 go_enter Try.func49, Try.ntmps49
 go_wp2_with (first | (refine box_ (N := 1) (cs := #[.int .i64 a0_0, .int .i64 a0_1, .int .i64 a0_2]) (t := 32) ?_; intro gb501 hg w2 hbox hb; have BK501 := Aside0.mk (hbox); have GW501 := HB.g0 hg; have GE501 := HB.g0 hg; replace HB := HB.s0 hb; clear hb hbox hg))
 go_loopg [3, 4] k (fun kq v3 v4 w' => ∃ (x3_1 : Int) (x4_1 : Int), v3 = .int .i64 x3_1 ∧ v4 = .int .i64 x4_1 ∧ Aside0 (impl_CountParts.l0 kq x3_1 x4_1 a0_0 a0_1 a0_2 = some r) ∧ Aside0 (kq ≤ k) ∧ Aside0 (w'.heap[gb501]? = some (.cells #[.int .i64 a0_0, .int .i64 a0_1, .int .i64 a0_2] 32 (0, 0))) ∧ Aside0 (Below w.heap.size w w'))
 case atStart => exact ⟨(0), (0), (by first | rfl | (simp; done) | (simp [*]; done)), (by first | rfl | (simp; done) | (simp [*]; done)), H', ⟨Nat.le_refl _⟩, ⟨bk_ BK501.out⟩, ⟨hb1_ HB.out GE501.out⟩⟩
 case round =>
  clear H'
  try clear p2
  obtain ⟨x3_1, x4_1, rfl, rfl, HA, HK1, BK501, HB⟩ := hrel
  cases gk with
  | zero => exact absurd HA.out (by simp [impl_CountParts.l0])
  | succ k1 =>
   have H := HA.out
   clear HA
   simp only [impl_CountParts.l0] at H
   obtain ⟨y502, hy502⟩ : ∃ y_ : List Int, y_ = (([x4_1] : List Int)) := ⟨_, rfl⟩
   replace H : ((impl_isIn.f a0_0 a0_1 a0_2 y502).bind fun t505 => (if t505 = true then ((impl_Reached.f k1 a0_0 a0_1 a0_2 x4_1).bind fun t506 => (if 0 < (t506.length : Int) then (if (rd t506 0) = x4_1 then (impl_CountParts.l0 k1 (wrap64 (x3_1 + 1)) (wrap64 (x4_1 + 1)) a0_0 a0_1 a0_2) else (impl_CountParts.l0 k1 x3_1 (wrap64 (x4_1 + 1)) a0_0 a0_1 a0_2)) else (none))) else (some x3_1))) = some r := by first | (rw [hy502]; with_reducible exact H) | (have H2_ := (Option.bind_some _ _).symm.trans H; rw [hy502]; with_reducible exact H2_) | (have H2_ := (Option.bind_some _ _).symm.trans H; with_reducible exact H2_) | with_reducible exact H | (rw [hy502]; exact H) | exact H
   have Ny502 := Aside0.mk hy502
   clear hy502
   replace H := Option.bind_eq_some_iff.mp H
   obtain ⟨t505, A30, H⟩ := H
   replace H : (if t505 = true then ((impl_Reached.f k1 a0_0 a0_1 a0_2 x4_1).bind fun t506 => (if 0 < (t506.length : Int) then (if (rd t506 0) = x4_1 then (impl_CountParts.l0 k1 (wrap64 (x3_1 + 1)) (wrap64 (x4_1 + 1)) a0_0 a0_1 a0_2) else (impl_CountParts.l0 k1 x3_1 (wrap64 (x4_1 + 1)) a0_0 a0_1 a0_2)) else (none))) else (some x3_1)) = some r := H
   have A3 := Aside0.mk A30
   clear A30
   by_cases c4 : t505 = true
   ·subst c4
    have H1 : ((impl_Reached.f k1 a0_0 a0_1 a0_2 x4_1).bind fun t506 => (if 0 < (t506.length : Int) then (if (rd t506 0) = x4_1 then (impl_CountParts.l0 k1 (wrap64 (x3_1 + 1)) (wrap64 (x4_1 + 1)) a0_0 a0_1 a0_2) else (impl_CountParts.l0 k1 x3_1 (wrap64 (x4_1 + 1)) a0_0 a0_1 a0_2)) else (none))) = some r := by rw [if_pos rfl] at H; exact H
    clear H
    have H := H1
    clear H1
    replace H := Option.bind_eq_some_iff.mp H
    obtain ⟨t506, A50, H⟩ := H
    replace H : (if 0 < (t506.length : Int) then (if (rd t506 0) = x4_1 then (impl_CountParts.l0 k1 (wrap64 (x3_1 + 1)) (wrap64 (x4_1 + 1)) a0_0 a0_1 a0_2) else (impl_CountParts.l0 k1 x3_1 (wrap64 (x4_1 + 1)) a0_0 a0_1 a0_2)) else (none)) = some r := H
    have A5 := Aside0.mk A50
    clear A50
    by_cases c6 : 0 < (t506.length : Int)
    ·rw [if_pos c6] at H
     have c6b0 : decide (0 < (t506.length : Int)) = true := decide_eq_true c6
     have c6b1 : decide (0 < t506.length) = true := decide_eq_true (by omega)
     clear c6
     by_cases c7 : (rd t506 0) = x4_1
     ·rw [if_pos c7] at H
      have c7b0 : ((rd t506 0) == x4_1) = true := beq_iff_eq.mpr c7
      have c7b1 : ((rd t506 0) != x4_1) = false := bne_eq_false_iff_eq.mpr c7
      clear c7
      have H' := Aside0.mk H
      clear H
      obtain ⟨hcz8_0, hcz8_1, hcz8_2⟩ := cz3_ BK501.out
      obtain ⟨hfz8_0, hfz8_1, hfz8_2⟩ := fz3_ BK501.out
      go_wp2_with (first | ((with_reducible refine gate_dst (N := 7) rfl ?_); refine Kd.R_lit (Kd.int .i64) _ 3 ?hg (N := 7) ?hd (xs := ([x4_1] : List Int)) (inner := [.int .i64 x4_1]) (ok := fun _ => True) (okp := fun _ => True) ?hr ?hp (fun _ hk => hk) trivial (Below.refl _ _) (Nat.le_refl _) (by simp) ?_; (case hd => rfl); (case hg => rfl); (case hr => first | (go_simp; done) | (go_simp; rfl)); (case hp => exact (Reps.one (show Kd.M (Kd.int .i64) _ _ _ x4_1 [.int .i64 x4_1] from rfl) (Reps.none _ _))); intro v503 w9 ho10 hb hg_ hnew_; clear hg_ hnew_; (first | rw [← Ny502.out] at ho10 | (simp only [Int.reduceToNat] at ho10; rw [← Ny502.out] at ho10)); have HO504 := Aside0.mk (Kd.R_lower ho10 (below_size (hb1_ HB.out GE501.out))); replace BK501 := BK501.bb hb; replace HB := HB.s1 GE501 hb; clear hb ho10; obtain ⟨Ao11, co11, eo11⟩ := Kd.R_slice HO504.out; subst eo11) | (refine gl_ 8 Try.func21 #[.agg #[.int .i64 a0_0, .int .i64 a0_1, .int .i64 a0_2], .slice Ao11 y502.length co11] ?_; (with_reducible refine (impl_isIn.calls a0_0 a0_1 a0_2 _ _ y502 true _ ?side1 ?side2 A3.out).mono ?_); (case side1 => repeat (first | exact (Kd.R_reads' HO504.out).2.2 | (with_reducible refine Kd.C_alloc ?_ _) | (with_reducible refine Kd.C_drewN ?_ _) | (with_reducible refine Kd.C_drew ?_))); (case side2 => exact (Kd.R_reads' HO504.out).2.1); rintro e w12 ⟨rfl, hb⟩; refine ⟨_, rfl, ?_⟩; replace HO504 := HO504.kb hb; replace BK501 := BK501.bb hb; replace HB := HB.s1 GE501 hb; (try clear hb); obtain ⟨hcz13_0, hcz13_1, hcz13_2⟩ := cz3_ BK501.out; obtain ⟨hfz13_0, hfz13_1, hfz13_2⟩ := fz3_ BK501.out) | (refine gl_ 13 Try.func43 #[.agg #[.int .i64 a0_0, .int .i64 a0_1, .int .i64 a0_2], .int .i64 x4_1] ?_; (with_reducible refine (impl_Reached.calls k1 a0_0 a0_1 a0_2 x4_1 t506 _ A5.out).mono ?_); rintro e w14 ⟨v507, rfl, ho0, hb⟩; refine ⟨_, rfl, ?_⟩; have HO508 := Aside0.mk (Kd.R_lower (Kd.R_new' ho0 (Kd.R_lt (kr_ HO504.out))) (below_size (hb1_ HB.out GE501.out))); replace HO504 := Aside0.mk (Kd.R_elder' (kr_ HO504.out) (Kd.R_base ho0) hb); replace BK501 := BK501.bb hb; replace HB := HB.s1 GE501 hb; (try clear hb); (try clear ho0); obtain ⟨Ao15, co15, eo15⟩ := Kd.R_slice HO508.out; subst eo15; have p509 : 0 ≤ (0 : Int) := (by omega); have q509 : 0 < (t506.length : Int) := of_decide_eq_true (as_); obtain ⟨ad509, e509, hx509_0⟩ := Kd.at_int (Kd.R_reads' HO508.out).2.2 0 p509 q509; cases e509; have qi509 : (0 < t506.length) = True := eq_true (by omega); (try rw [show ((0 : Int)).toNat = 0 from rfl] at hx509_0); (try rw [Addr.add_zero'] at hx509_0); replace p509 := eq_true p509; replace q509 := eq_true q509))
      go_roundg k1
      case measure => have := HK1.out; omega
      case rel => exact ⟨(wrap64 (x3_1 + 1)), (wrap64 (x4_1 + 1)), (by first | rfl | (simp; done) | (simp [*]; done)), (by first | rfl | (simp; done) | (simp [*]; done)), H', ⟨by have := HK1.out; omega⟩, ⟨bk_ BK501.out⟩, ⟨hb1_ HB.out GE501.out⟩⟩
     ·rw [if_neg c7] at H
      have c7b0 : ((rd t506 0) == x4_1) = false := beq_eq_false_iff_ne.mpr c7
      have c7b1 : ((rd t506 0) != x4_1) = true := bne_iff_ne.mpr c7
      have H' := Aside0.mk H
      clear H
      obtain ⟨hcz16_0, hcz16_1, hcz16_2⟩ := cz3_ BK501.out
      obtain ⟨hfz16_0, hfz16_1, hfz16_2⟩ := fz3_ BK501.out
      go_wp2_with (first | ((with_reducible refine gate_dst (N := 7) rfl ?_); refine Kd.R_lit (Kd.int .i64) _ 3 ?hg (N := 7) ?hd (xs := ([x4_1] : List Int)) (inner := [.int .i64 x4_1]) (ok := fun _ => True) (okp := fun _ => True) ?hr ?hp (fun _ hk => hk) trivial (Below.refl _ _) (Nat.le_refl _) (by simp) ?_; (case hd => rfl); (case hg => rfl); (case hr => first | (go_simp; done) | (go_simp; rfl)); (case hp => exact (Reps.one (show Kd.M (Kd.int .i64) _ _ _ x4_1 [.int .i64 x4_1] from rfl) (Reps.none _ _))); intro v503 w17 ho18 hb hg_ hnew_; clear hg_ hnew_; (first | rw [← Ny502.out] at ho18 | (simp only [Int.reduceToNat] at ho18; rw [← Ny502.out] at ho18)); have HO504 := Aside0.mk (Kd.R_lower ho18 (below_size (hb1_ HB.out GE501.out))); replace BK501 := BK501.bb hb; replace HB := HB.s1 GE501 hb; clear hb ho18; obtain ⟨Ao19, co19, eo19⟩ := Kd.R_slice HO504.out; subst eo19) | (refine gl_ 8 Try.func21 #[.agg #[.int .i64 a0_0, .int .i64 a0_1, .int .i64 a0_2], .slice Ao19 y502.length co19] ?_; (with_reducible refine (impl_isIn.calls a0_0 a0_1 a0_2 _ _ y502 true _ ?side1 ?side2 A3.out).mono ?_); (case side1 => repeat (first | exact (Kd.R_reads' HO504.out).2.2 | (with_reducible refine Kd.C_alloc ?_ _) | (with_reducible refine Kd.C_drewN ?_ _) | (with_reducible refine Kd.C_drew ?_))); (case side2 => exact (Kd.R_reads' HO504.out).2.1); rintro e w20 ⟨rfl, hb⟩; refine ⟨_, rfl, ?_⟩; replace HO504 := HO504.kb hb; replace BK501 := BK501.bb hb; replace HB := HB.s1 GE501 hb; (try clear hb); obtain ⟨hcz21_0, hcz21_1, hcz21_2⟩ := cz3_ BK501.out; obtain ⟨hfz21_0, hfz21_1, hfz21_2⟩ := fz3_ BK501.out) | (refine gl_ 13 Try.func43 #[.agg #[.int .i64 a0_0, .int .i64 a0_1, .int .i64 a0_2], .int .i64 x4_1] ?_; (with_reducible refine (impl_Reached.calls k1 a0_0 a0_1 a0_2 x4_1 t506 _ A5.out).mono ?_); rintro e w22 ⟨v507, rfl, ho0, hb⟩; refine ⟨_, rfl, ?_⟩; have HO508 := Aside0.mk (Kd.R_lower (Kd.R_new' ho0 (Kd.R_lt (kr_ HO504.out))) (below_size (hb1_ HB.out GE501.out))); replace HO504 := Aside0.mk (Kd.R_elder' (kr_ HO504.out) (Kd.R_base ho0) hb); replace BK501 := BK501.bb hb; replace HB := HB.s1 GE501 hb; (try clear hb); (try clear ho0); obtain ⟨Ao23, co23, eo23⟩ := Kd.R_slice HO508.out; subst eo23; have p509 : 0 ≤ (0 : Int) := (by omega); have q509 : 0 < (t506.length : Int) := of_decide_eq_true (as_); obtain ⟨ad509, e509, hx509_0⟩ := Kd.at_int (Kd.R_reads' HO508.out).2.2 0 p509 q509; cases e509; have qi509 : (0 < t506.length) = True := eq_true (by omega); (try rw [show ((0 : Int)).toNat = 0 from rfl] at hx509_0); (try rw [Addr.add_zero'] at hx509_0); replace p509 := eq_true p509; replace q509 := eq_true q509))
      go_roundg k1
      case measure => have := HK1.out; omega
      case rel => exact ⟨(x3_1), (wrap64 (x4_1 + 1)), (by first | rfl | (simp; done) | (simp [*]; done)), (by first | rfl | (simp; done) | (simp [*]; done)), H', ⟨by have := HK1.out; omega⟩, ⟨bk_ BK501.out⟩, ⟨hb1_ HB.out GE501.out⟩⟩
    ·rw [if_neg c6] at H
     exact absurd H (by simp)
   ·replace c4 := Bool.eq_false_iff.mpr c4
    subst c4
    have H1 : (some x3_1) = some r := by rw [if_neg (show ¬ (false = true) by decide)] at H; exact H
    clear H
    have H := H1
    clear H1
    obtain rfl := Option.some.inj H
    obtain ⟨hcz24_0, hcz24_1, hcz24_2⟩ := cz3_ BK501.out
    obtain ⟨hfz24_0, hfz24_1, hfz24_2⟩ := fz3_ BK501.out
    go_wp2_with (first | ((with_reducible refine gate_dst (N := 7) rfl ?_); refine Kd.R_lit (Kd.int .i64) _ 3 ?hg (N := 7) ?hd (xs := ([x4_1] : List Int)) (inner := [.int .i64 x4_1]) (ok := fun _ => True) (okp := fun _ => True) ?hr ?hp (fun _ hk => hk) trivial (Below.refl _ _) (Nat.le_refl _) (by simp) ?_; (case hd => rfl); (case hg => rfl); (case hr => first | (go_simp; done) | (go_simp; rfl)); (case hp => exact (Reps.one (show Kd.M (Kd.int .i64) _ _ _ x4_1 [.int .i64 x4_1] from rfl) (Reps.none _ _))); intro v503 w25 ho26 hb hg_ hnew_; clear hg_ hnew_; (first | rw [← Ny502.out] at ho26 | (simp only [Int.reduceToNat] at ho26; rw [← Ny502.out] at ho26)); have HO504 := Aside0.mk (Kd.R_lower ho26 (below_size (hb1_ HB.out GE501.out))); replace BK501 := BK501.bb hb; replace HB := HB.s1 GE501 hb; clear hb ho26; obtain ⟨Ao27, co27, eo27⟩ := Kd.R_slice HO504.out; subst eo27) | (refine gl_ 8 Try.func21 #[.agg #[.int .i64 a0_0, .int .i64 a0_1, .int .i64 a0_2], .slice Ao27 y502.length co27] ?_; (with_reducible refine (impl_isIn.calls a0_0 a0_1 a0_2 _ _ y502 false _ ?side1 ?side2 A3.out).mono ?_); (case side1 => repeat (first | exact (Kd.R_reads' HO504.out).2.2 | (with_reducible refine Kd.C_alloc ?_ _) | (with_reducible refine Kd.C_drewN ?_ _) | (with_reducible refine Kd.C_drew ?_))); (case side2 => exact (Kd.R_reads' HO504.out).2.1); rintro e w28 ⟨rfl, hb⟩; refine ⟨_, rfl, ?_⟩; replace HO504 := HO504.kb hb; replace BK501 := BK501.bb hb; replace HB := HB.s1 GE501 hb; (try clear hb)))
    go_ret
    exact ⟨ex_, hb1_ HB.out GE501.out⟩

/-! ### impl_IsConnected: function 32 -/
def impl_IsConnected.f (k : Nat) (a0_0 : Int) (a0_1 : Int) (a0_2 : Int) : Option (Bool) := (impl_CountParts.f k a0_0 a0_1 a0_2).bind fun t502 => (some (t502 == 1))
theorem impl_IsConnected.mono : ∀ a0 a1 a2 k, LeO (impl_IsConnected.f k a0 a1 a2) (impl_IsConnected.f (k + 1) a0 a1 a2) := by
 intro a0 a1 a2 k
 unfold impl_IsConnected.f
 repeat' first
   | (with_reducible exact impl_CountParts.mono ..)
   | (with_reducible first | exact lr_ _ | exact ln_ _ | refine li_ ?_ ?_ | refine lb_ ?_ fun _ => ?_)
   | exact impl_CountParts.mono ..
   | exact ln_ _ | refine li_ ?_ ?_ | refine lb_ ?_ fun _ => ?_
set_option maxHeartbeats 8000000 in
set_option maxRecDepth 100000 in
theorem impl_IsConnected.calls (k : Nat) (a0_0 : Int) (a0_1 : Int) (a0_2 : Int) (r : Bool) (w : World) (h : impl_IsConnected.f k a0_0 a0_1 a0_2 = some r) :
  Calls Try.prog 32 #[.agg #[.int .i64 a0_0, .int .i64 a0_1, .int .i64 a0_2]] w fun e w' => e = .returned (.bool r) ∧ Below w.heap.size w w' := by
 have hu32 := Try.underlying32
 have HB := Aside0.mk (Below.refl w.heap.size w)
 have H : ((impl_CountParts.f k a0_0 a0_1 a0_2).bind fun t502 => (some (t502 == 1))) = some r := h
 clear h
 replace H := Option.bind_eq_some_iff.mp H
 obtain ⟨t502, A20, H⟩ := H
 replace H : (some (t502 == 1)) = some r := H
 have A2 := Aside0.mk A20
 clear A20
 obtain rfl := Option.some.inj H
 go_enter Try.func32, Try.ntmps32
 go_wp2_with (first | (refine box_ (N := 1) (cs := #[.int .i64 a0_0, .int .i64 a0_1, .int .i64 a0_2]) (t := 32) ?_; intro gb501 hg w3 hbox hb; have BK501 := Aside0.mk (hbox); have GW501 := HB.g0 hg; have GE501 := HB.g0 hg; replace HB := HB.s0 hb; clear hb hbox hg; obtain ⟨hcz4_0, hcz4_1, hcz4_2⟩ := cz3_ BK501.out; obtain ⟨hfz4_0, hfz4_1, hfz4_2⟩ := fz3_ BK501.out) | (refine gl_ 4 Try.func49 #[.agg #[.int .i64 a0_0, .int .i64 a0_1, .int .i64 a0_2]] ?_; (with_reducible refine (impl_CountParts.calls k a0_0 a0_1 a0_2 t502 _ A2.out).mono ?_); rintro e w5 ⟨rfl, hb⟩; refine ⟨_, rfl, ?_⟩; replace BK501 := BK501.bb hb; replace HB := HB.s1 GE501 hb; (try clear hb)))
 go_ret
 exact ⟨ex_, hb1_ HB.out GE501.out⟩

end Go.Proofs.Ytnfclfpicemojaa.X
