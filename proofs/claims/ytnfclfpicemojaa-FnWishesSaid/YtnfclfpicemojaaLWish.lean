/- Wishes over all perfect mazes of a small grid. -/
import Derived.Test.YtnfclfpicemojaaXcmeeting
import Derived.Test.YtnfclfpicemojaaXcwish
import Derived.Test.YtnfclfpicemojaaXimplLongestWay
import Derived.Test.YtnfclfpicemojaaLTrees
namespace Go.Proofs.Ytnfclfpicemojaa.L
open Go.RowKit Go.Proofs.Ytnfclfpicemojaa.X Go.Proofs.YtnfclfpicemojaaW.PrintWords Go.Proofs.YtnfclfpicemojaaW.PrintLast Go.Proofs.YtnfclfpicemojaaW.PrintMore
set_option linter.unusedSimpArgs false
set_option linter.unusedVariables false

def few (n : Int) : Bool := decide (0 ≤ n ∧ n ≤ 20)
def wishOk (w h a b c d : Int) : Bool := gridOk w h && (isCell w h a && (isCell w h b && (few c && few d)))
theorem iWishOk (w h a b c d : Int) : impl_WishOk.f w h a b c d = some (wishOk w h a b c d) := by
  unfold impl_WishOk.f wishOk impl_isFew.f few
  simp only [iGridOk, iisCell, Option.bind_some]
  cases gridOk w h <;> cases isCell w h a <;> cases isCell w h b <;> simp [ite_some_bool]
/-- All perfect mazes of a grid with at most 12 gaps. -/
def small (w h : Int) : Bool := gridOk w h && decide (gaps w h ≤ 12)
def allTrees (w h : Int) : List SM := (trees w h (fullO w h)).map (mkM w h)
theorem full_list {w h : Int} (hs : small w h = true) : treeList w h (fullO w h) = allTrees w h := by
  unfold small at hs
  rw [Bool.and_eq_true, decide_eq_true_eq] at hs
  have f := full_ok hs.1
  unfold treeList
  rw [if_pos ⟨f.1, by omega⟩]
  rfl
theorem full_le {w h : Int} (hs : small w h = true) : (fullO w h).toNat ≤ 4095 := by
  unfold small at hs
  rw [Bool.and_eq_true, decide_eq_true_eq] at hs
  have f := full_ok hs.1
  have hgr := gaps_range w h
  have hp := Nat.pow_le_pow_right (show 0 < 2 by decide) (show (gaps w h).toNat ≤ 12 by omega)
  omega
theorem allTrees_length {w h : Int} (hs : small w h = true) : (allTrees w h).length ≤ 4096 := by
  have := full_le hs
  unfold allTrees trees
  rw [List.length_map]
  refine Nat.le_trans (List.length_filter_le _ _) ?_
  rw [List.length_range]
  omega
def comb (w h : Nat) : Nat := 2 ^ ((w - 1) * h) - 1 + ((List.range (h - 1)).foldl (fun x y => x + 2 ^ ((w - 1) * h + y * w)) 0)
theorem comb_facts : ∀ w h : Fin 5, (!(gridOk (w.val : Int) (h.val : Int)) || (decide (comb w.val h.val ≤ (fullO (w.val : Int) (h.val : Int)).toNat) && treeP (w.val : Int) (h.val : Int) (fullO (w.val : Int) (h.val : Int)).toNat (cells (w.val : Int) (h.val : Int) - 1).toNat (comb w.val h.val))) = true := by decide +kernel
theorem trees_some {w h : Int} (hg : gridOk w h = true) : trees w h (fullO w h) ≠ [] := by
  have hg' := gridOk_iff.1 hg
  obtain ⟨W, rfl⟩ := fin_int (n := 5) (x := w) (by omega) (by omega)
  obtain ⟨H, rfl⟩ := fin_int (n := 5) (x := h) (by omega) (by omega)
  have f := comb_facts W H
  rw [hg] at f
  simp only [Bool.not_true, Bool.false_or, Bool.and_eq_true, decide_eq_true_eq] at f
  intro e
  have : comb W.val H.val ∈ trees (W.val : Int) (H.val : Int) (fullO (W.val : Int) (H.val : Int)) := by
    unfold trees
    rw [List.mem_filter, List.mem_range]
    exact ⟨by omega, f.2⟩
  rw [e] at this
  cases this
theorem conn_all {w h o : Int} (hm : mazeOk w h o = true) (hc : conn w h o = true) {a b : Int} (ha : isCell w h a = true) (hb : isCell w h b = true) : Rch w h o a b := by
  unfold conn countParts at hc
  rw [if_pos hm, beq_iff_eq] at hc
  have h1 : parts w h o = 1 := by omega
  obtain ⟨pa, la⟩ := reached_head (has_of hm ha)
  obtain ⟨pb, lb⟩ := reached_head (has_of hm hb)
  have key : ∀ {c r : Int}, isCell w h c = true → Rch w h o c r → (∀ y, Rch w h o c y → r ≤ y) → r.toNat ∈ (List.range (cells w h).toNat).filter (fun (c : Nat) => isRep w h o (c : Int)) ∧ 0 ≤ r := fun {c r} hc' p l => by
    have hr := rch_cell hc' p
    have hl := cellD_lt hr
    rw [List.mem_filter, List.mem_range]
    refine ⟨⟨by omega, ?_⟩, hl.1⟩
    rw [show ((r.toNat : Nat) : Int) = r by omega, rep_iff (has_of hm hr)]
    exact fun y q => l y (p.trans q)
  have ka := key ha pa la
  have kb := key hb pb lb
  unfold parts at h1
  obtain ⟨x, hx⟩ := List.length_eq_one_iff.1 h1
  rw [hx, List.mem_singleton] at ka kb
  have e : rd (reached w h o a) 0 = rd (reached w h o b) 0 := by omega
  exact pa.trans (e ▸ Rch.symm hm pb)
theorem dist_conn {w h o : Int} (hm : mazeOk w h o = true) (hc : conn w h o = true) {a b : Int} (ha : isCell w h a = true) (hb : isCell w h b = true) : 0 ≤ distOf w h o a b := by
  unfold distOf
  rw [if_pos ⟨has_of hm ha, hb⟩]
  exact ((dist_tells (o := o) ha).2.1 b hb).2 (conn_all hm hc ha hb)
theorem tree_tells {w h M : Int} (hm : mazeOk w h M = true) {o : Nat} (ho : o ∈ trees w h M) : mazeOk w h (o : Int) = true ∧ conn w h (o : Int) = true ∧ perfect w h (o : Int) = true ∧ (popN 24 o : Int) = cells w h - 1 := by
  unfold trees at ho
  rw [List.mem_filter] at ho
  have hp := ho.2
  unfold treeP at hp
  simp only [Bool.and_eq_true, decide_eq_true_eq] at hp
  have hmo := sub_maze hm hp.1
  have hcp := cells_pos (mazeOk_ok hm).1
  have hpop : (popN 24 o : Int) = cells w h - 1 := by omega
  have hpf := perfect_forest hmo (by rw [Int.toNat_natCast]; exact hpop)
  rw [hp.2.2] at hpf
  have hpp := hpf
  unfold perfect at hpf
  rw [Bool.and_eq_true] at hpf
  exact ⟨hmo, hpf.1, hpp, hpop⟩
def longestGo (a b : Int) (l : List SM) (x : Int) : Int := l.foldl (fun x m => mx x (distOf m.f0.f0 m.f0.f1 m.f1 a b)) x
def longest (w h a b : Int) : Int := if small w h = true ∧ isCell w h a = true ∧ isCell w h b = true then longestGo a b (allTrees w h) 0 else -1
theorem longest_start {w h a b : Int} (hs : small w h = true) (ha : isCell w h a = true) (hb : isCell w h b = true) : longestGo a b (allTrees w h) (-1) = longestGo a b (allTrees w h) 0 := by
  have hg : gridOk w h = true := by unfold small at hs; rw [Bool.and_eq_true] at hs; exact hs.1
  have hne := trees_some hg
  have f := full_ok hg
  unfold allTrees
  cases e : trees w h (fullO w h) with
  | nil => exact absurd e hne
  | cons o l =>
    have ht := tree_tells f.1 (show o ∈ trees w h (fullO w h) by rw [e]; exact List.mem_cons_self)
    have hd := dist_conn ht.1 ht.2.1 ha hb
    rw [List.map_cons]
    unfold longestGo
    rw [List.foldl_cons, List.foldl_cons]
    have : mx (-1) (distOf w h (o : Int) a b) = mx 0 (distOf w h (o : Int) a b) := by
      unfold mx
      split <;> split <;> omega
    exact congrArg (fun z => List.foldl _ z _) this
theorem rdT_get {l : List SM} {i : Int} (h0 : 0 ≤ i) (h1 : i < (l.length : Int)) : l.drop i.toNat = rd_T32 l i :: l.drop (i + 1).toNat := by
  rw [List.drop_eq_getElem_cons (show i.toNat < l.length by omega), show (i + 1).toNat = i.toNat + 1 by omega]
  congr 1
  unfold rd_T32
  rw [List.getD_eq_getElem?_getD, List.getElem?_eq_getElem (show i.toNat < l.length by omega)]
  rfl
theorem iAll (k : Nat) (w h : Int) (hk : 9000 ≤ k) : impl_perfect.f k w h = some (if small w h = true then (allTrees w h, true) else ([], false)) := by
  obtain ⟨k, rfl⟩ : ∃ m, k = m + 1 := ⟨k - 1, by omega⟩
  unfold impl_perfect.f
  rw [iGridOk, iCountGaps]
  simp only [Option.bind_some]
  by_cases hg : gridOk w h = true
  · rw [if_pos hg]
    by_cases hp : gaps w h > 12
    · rw [decide_eq_true hp, impl_perfect.j0, if_pos rfl, if_neg]
      unfold small
      rw [decide_eq_false (by omega)]
      simp
    · have hs : small w h = true := by
        unfold small
        rw [hg, decide_eq_true (by omega)]
        rfl
      have hl := full_le hs
      rw [decide_eq_false hp, if_pos hs, impl_perfect.j0, if_neg (by simp), iFullMaze, if_pos hg]
      simp only [Option.bind_some]
      rw [iListTrees k w h (fullO w h) (by omega), full_list hs]
      rfl
  · rw [if_neg hg, impl_perfect.j0, if_pos rfl, if_neg]
    unfold small
    have : gridOk w h = false := by simpa using hg
    rw [this]
    simp
theorem iLong_go (a b : Int) (l : List SM) (hl : l.length ≤ 5000) : ∀ (d k : Nat) (i x : Int), 0 ≤ i → i ≤ (l.length : Int) → (l.length : Int) - i = d → d + 150 ≤ k → impl_LongestWay.l0 k a b x l (l.length : Int) i = some (longestGo a b (l.drop i.toNat) x) := by
  intro d
  induction d with
  | zero =>
    intro k i x h0 h1 hd hk
    obtain ⟨k, rfl⟩ : ∃ m, k = m + 1 := ⟨k - 1, by omega⟩
    rw [impl_LongestWay.l0, if_neg (by omega), List.drop_of_length_le (by omega)]
    rfl
  | succ d ih =>
    intro k i x h0 h1 hd hk
    obtain ⟨k, rfl⟩ : ∃ m, k = m + 1 := ⟨k - 1, by omega⟩
    rw [impl_LongestWay.l0, if_pos (by omega), if_pos h0, if_pos (by omega), iDistanceOf k _ _ _ a b (by omega), rdT_get h0 (by omega)]
    simp only [Option.bind_some]
    rw [w64 (by omega) (by omega), ih k (i + 1) _ (by omega) (by omega) (by omega) (by omega)]
    rfl
theorem iLongest (k : Nat) (w h a b : Int) (hk : 9001 ≤ k) : impl_LongestWay.f k w h a b = some (longest w h a b) := by
  obtain ⟨k, rfl⟩ : ∃ m, k = m + 1 := ⟨k - 1, by omega⟩
  unfold impl_LongestWay.f longest
  rw [iAll (k + 1) w h (by omega)]
  simp only [Option.bind_some]
  by_cases hs : small w h = true
  · have hal := allTrees_length hs
    rw [if_pos hs, if_pos rfl, iisCell]
    simp only [Option.bind_some]
    by_cases ha : isCell w h a = true
    · rw [if_pos ha, iisCell]
      simp only [Option.bind_some]
      by_cases hb : isCell w h b = true
      · rw [hb, if_pos ⟨hs, ha, rfl⟩, impl_LongestWay.j0, if_neg (by simp), iLong_go a b _ (by omega) (allTrees w h).length k 0 (-1) (by omega) (by omega) (by omega) (by omega)]
        simp only [Int.toNat_zero, List.drop_zero]
        rw [longest_start hs ha hb]
      · rw [if_neg (fun z => hb z.2.2)]
        have : isCell w h b = false := by simpa using hb
        rw [this, impl_LongestWay.j0, if_pos (by simp)]
    · rw [if_neg ha, if_neg (fun z => ha z.2.1), impl_LongestWay.j0, if_pos rfl]
  · rw [if_neg hs, if_neg (by simp), if_neg (fun z => hs z.1), impl_LongestWay.j0, if_pos rfl]
end Go.Proofs.Ytnfclfpicemojaa.L
