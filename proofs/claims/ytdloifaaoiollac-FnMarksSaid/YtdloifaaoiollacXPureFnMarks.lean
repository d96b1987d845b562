/- P23: a walker with marks comes to every cell that can be come to, goes through each passage once in each direction, and is back at the end. For every text of bytes that the statement speaks of. -/
import Derived.Test.YtdloifaaoiollacXlawsFnMarks
import Derived.Test.YtdloifaaoiollacLCount
import Derived.Test.YtdloifaaoiollacLOpenCell
namespace Go.Proofs.Ytdloifaaoiollac.Pure
open Go.RowKit Go.Proofs.Ytdloifaaoiollac.X Go.Proofs.Ytdloifaaoiollac.L Go.Proofs.YtdloifaaoiollacW.PrintWords Go.Proofs.YtdloifaaoiollacW.PrintLast
set_option linter.unusedSimpArgs false
set_option linter.unusedVariables false

theorem ways_len (w h o c : Int) : (L.ways w h o c).length ≤ 4 := by
  unfold L.ways
  exact Nat.le_trans (List.length_filter_le _ _) (by simp)
theorem sum_part (w h o a : Int) (ha : has w h o a = true) (e : Int) (he : e = tot (tremaux w h o a).2) : ∀ (d k : Nat) (i x : Int), 0 ≤ i → i ≤ ((tremaux w h o a).2.length : Int) → ((tremaux w h o a).2.length : Int) - i = d → d + 700 ≤ k → x + tot ((tremaux w h o a).2.drop i.toNat) = e →
    laws_FnMarks.l1 k a (tremaux w h o a).2 e x i w h o = some true := by
  obtain ⟨I, C, A⟩ := tremaux_fin ha
  have hgr := gaps_range w h
  have hlen := I.len
  have htl := tot_le _ I.rng
  intro d
  induction d with
  | zero =>
    intro k i x h0 h1 hd hk hx
    obtain ⟨k, rfl⟩ : ∃ m, k = m + 1 := ⟨k - 1, by omega⟩
    rw [List.drop_of_length_le (by omega)] at hx
    simp only [tot] at hx
    rw [laws_FnMarks.l1, if_neg (by omega), if_pos (by omega), iMostMarks k w h o a (by omega)]
    simp only [Option.bind_some]
    unfold laws_btoi.f
    rw [tremaux_most ha, ← he]
    by_cases z : e > 0
    · rw [decide_eq_true z, if_pos rfl, if_pos z, Option.bind_some, w64 (by omega) (by omega)]
      rfl
    · rw [decide_eq_false z, if_neg (by simp), if_neg z, Option.bind_some, w64 (by omega) (by omega)]
      rfl
  | succ d ih =>
    intro k i x h0 h1 hd hk hx
    obtain ⟨k, rfl⟩ : ∃ m, k = m + 1 := ⟨k - 1, by omega⟩
    rw [drop_cons h0 (by omega)] at hx
    simp only [tot] at hx
    have h3 := I.rng _ (rd_memL (l := (tremaux w h o a).2) h0 (by omega))
    have h4 := tot_le ((tremaux w h o a).2.drop (i + 1).toNat) fun n hn => I.rng n (List.mem_of_mem_drop hn)
    have h5 : ((tremaux w h o a).2.drop (i + 1).toNat).length ≤ 24 := by rw [List.length_drop]; omega
    rw [laws_FnMarks.l1, if_pos (by omega), if_pos h0, w64 (by omega) (by omega), w64 (by omega) (by omega)]
    exact ih k (i + 1) _ (by omega) (by omega) (by omega) (by omega) (by omega)
theorem main_part (w h o a : Int) (ha : has w h o a = true) : ∀ (d k : Nat) (i x : Int), 0 ≤ i → i ≤ ((reached w h o a).length : Int) → ((reached w h o a).length : Int) - i = d → d + 800 ≤ k → x + degs w h o ((reached w h o a).drop i.toNat) = degs w h o (reached w h o a) → 0 ≤ x →
    laws_FnMarks.l0 k a (tremaux w h o a).1 (tremaux w h o a).2 (reached w h o a) x i w h o = some true := by
  obtain ⟨I, C, A⟩ := tremaux_fin ha
  have hgr := gaps_range w h
  have hlen := I.len
  have htl := tot_le _ I.rng
  have hsum := tremaux_sum ha
  have hclen := C.len
  have hr16 : (reached w h o a).length ≤ 16 := by
    have h1 := dist_tells (o := o) (has_parts ha).2
    have h2 := cells_range w h
    have h3 : (reached w h o a).length ≤ (dist w h o a).length := by
      unfold reached
      rw [if_pos ha]
      exact places_length _ _
    omega
  intro d
  induction d with
  | zero =>
    intro k i x h0 h1 hd hk hx hx0
    obtain ⟨k, rfl⟩ : ∃ m, k = m + 1 := ⟨k - 1, by omega⟩
    rw [List.drop_of_length_le (by omega)] at hx
    simp only [degs, List.map_nil, tot] at hx
    have hx' : x = tot (tremaux w h o a).2 := by rw [hsum]; simp only [degs]; omega
    have e1 : wrap64 (x + 1) = x + 1 := w64 (by omega) (by omega)
    have e2 : wrap64 (((tremaux w h o a).1.length : Int) - 1) = ((tremaux w h o a).1.length : Int) - 1 := w64 (by omega) (by omega)
    have hne : (((tremaux w h o a).2.length : Int) != gaps w h) = false := by rw [hlen]; simp
    rw [laws_FnMarks.l0, if_neg (by omega), e1, if_pos (by omega), if_pos (by omega), if_pos C.fst, e2, if_pos (by omega), if_pos (by omega), if_pos C.lst, sCountGaps]
    simp only [Option.bind_some]
    rw [hne]
    obtain ⟨k, rfl⟩ : ∃ m, k = m + 1 := ⟨k - 1, by omega⟩
    rw [laws_FnMarks.j1, if_neg (by simp)]
    exact sum_part w h o a ha x hx' (tremaux w h o a).2.length k 0 0 (by omega) (by omega) (by omega) (by omega) (by simp; omega)
  | succ d ih =>
    intro k i x h0 h1 hd hk hx hx0
    obtain ⟨k, rfl⟩ : ∃ m, k = m + 1 := ⟨k - 1, by omega⟩
    rw [drop_cons h0 (by omega)] at hx
    simp only [degs, List.map_cons, tot] at hx
    have hw := ways_len w h o (rd (reached w h o a) i)
    have hrr := (mem_reached ha).1 (rd_memL (l := reached w h o a) h0 (by omega))
    have hnn : 0 ≤ tot (((reached w h o a).drop (i + 1).toNat).map fun r => ((L.ways w h o r).length : Int)) := by
      generalize (reached w h o a).drop (i + 1).toNat = l
      induction l with
      | nil => simp [tot]
      | cons y l ih => simp only [List.map_cons, tot]; omega
    have hb : tot ((reached w h o a).map fun r => ((L.ways w h o r).length : Int)) ≤ 48 := by
      have : tot (tremaux w h o a).2 = tot ((reached w h o a).map fun r => ((L.ways w h o r).length : Int)) := hsum
      omega
    rw [laws_FnMarks.l0, if_pos (by omega), if_pos h0, sWaysFrom k w h o _ (by omega)]
    simp only [Option.bind_some]
    rw [iTremauxFinds k w h o a _ (by omega)]
    simp only [Option.bind_some]
    rw [decide_eq_true (tremaux_in ha hrr), if_pos rfl, w64 (by omega) (by omega), w64 (by omega) (by omega)]
    exact ih k (i + 1) _ (by omega) (by omega) (by omega) (by omega) (by simp only [degs]; omega) (by omega)
theorem FnMarks : laws_FnMarks.Pure := by
  intro s _ _ hx
  refine ⟨5000, ?_⟩
  unfold laws_FnMarks.f laws_big.f
  simp only [Option.bind_some]
  by_cases hb : (s.length : Int) > 1048576
  · rw [decide_eq_true hb, if_pos rfl]
  · rw [decide_eq_false hb, if_neg (by simp)]
    obtain ⟨w, h, o, c, e, hm, hc⟩ := open_cell 5000 s (by omega) (by omega)
    have ha : has w h o c = true := has_of' hm hc
    rw [e]
    simp only [Option.bind_some]
    rw [iTremauxWalk 5000 w h o c (by omega)]
    simp only [Option.bind_some]
    rw [sReached 5000 w h o c (by omega)]
    simp only [Option.bind_some]
    have h16 : (reached w h o c).length ≤ 16 := by
      have h1 := dist_tells (o := o) (has_parts ha).2
      have h2 := cells_range w h
      have h3 : (reached w h o c).length ≤ (dist w h o c).length := by
        unfold reached
        rw [if_pos ha]
        exact places_length _ _
      omega
    exact main_part w h o c ha (reached w h o c).length 5000 0 0 (by omega) (by omega) (by omega) (by omega) (by simp) (by omega)
end Go.Proofs.Ytdloifaaoiollac.Pure
