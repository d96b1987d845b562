/- A first maze is there just if some maze meets the wish, and no way is longer than the longest. No conditions: every code. -/
import Derived.Test.YtnfclfpicemojaaXlawsFnWishes
import Derived.Test.YtnfclfpicemojaaLMeet
import Derived.Test.YtnfclfpicemojaaLDraw
import Derived.Test.YtnfclfpicemojaaLCountAll
namespace Go.Proofs.Ytnfclfpicemojaa.Pure
open Go.RowKit Go.Proofs.Ytnfclfpicemojaa.X Go.Proofs.Ytnfclfpicemojaa.L Go.Proofs.YtnfclfpicemojaaW.PrintWords Go.Proofs.YtnfclfpicemojaaW.PrintLast

theorem wish_draw (k : Nat) (l : List Int) (hl : l.length ≤ 140737488355328) (hk : 4001 < k) : ∃ w h a b c d, spec_DrawWish.f k l = some (w, h, a, b, c, d) ∧ 1 ≤ w ∧ w ≤ 3 ∧ 1 ≤ h ∧ h ≤ 3 ∧ wishOk w h a b c d = true := by
  obtain ⟨h0, e0⟩ := new_ok k l hk
  obtain ⟨v1, i1, g1, e1, a1, b1, c1, d1⟩ := below_ok l 0 h0 3 (by omega) (by omega) hl (by omega) (by omega)
  obtain ⟨v2, i2, g2, e2, a2, b2, c2, d2⟩ := below_ok l i1 g1 3 c1 d1 hl (by omega) (by omega)
  have hw : wrap64 (1 + v1) = 1 + v1 := w64 (by omega) (by omega)
  have hh : wrap64 (1 + v2) = 1 + v2 := w64 (by omega) (by omega)
  have hg : gridOk (1 + v1) (1 + v2) = true := gridOk_iff.2 (by omega)
  have hcp := cells_pos hg
  have hc16 : cells (1 + v1) (1 + v2) ≤ 16 := (cells_range _ _).2
  have hmx : mx 1 (cells (1 + v1) (1 + v2)) = cells (1 + v1) (1 + v2) := by unfold mx; split <;> omega
  obtain ⟨v3, i3, g3, e3, a3, b3, c3, d3⟩ := below_ok l i2 g2 (cells (1 + v1) (1 + v2)) c2 d2 hl (by omega) (by omega)
  obtain ⟨v4, i4, g4, e4, a4, b4, c4, d4⟩ := below_ok l i3 g3 (cells (1 + v1) (1 + v2)) c3 d3 hl (by omega) (by omega)
  obtain ⟨v5, i5, g5, e5, a5, b5, c5, d5⟩ := below_ok l i4 g4 9 c4 d4 hl (by omega) (by omega)
  obtain ⟨v6, i6, g6, e6, a6, b6, c6, d6⟩ := below_ok l i5 g5 5 c5 d5 hl (by omega) (by omega)
  have h6 : wrap64 (2 + v6) = 2 + v6 := w64 (by omega) (by omega)
  refine ⟨1 + v1, 1 + v2, v3, v4, v5, 2 + v6, ?_, by omega, by omega, by omega, by omega, ?_⟩
  · unfold spec_DrawWish.f
    rw [e0]
    simp only [Option.bind_some]
    rw [e1]
    simp only [Option.bind_some]
    rw [e2]
    simp only [Option.bind_some]
    rw [hw, hh]
    unfold spec_l22Wish.f
    rw [sCountCells]
    simp only [Option.bind_some]
    rw [hmx, e3]
    simp only [Option.bind_some]
    rw [e4]
    simp only [Option.bind_some]
    rw [e5]
    simp only [Option.bind_some]
    rw [e6]
    simp only [Option.bind_some]
    rw [h6]
  · unfold wishOk
    rw [hg, cell_of a3 b3, cell_of a4 b4]
    unfold few
    rw [decide_eq_true (show 0 ≤ v5 ∧ v5 ≤ 20 by omega), decide_eq_true (show 0 ≤ 2 + v6 ∧ 2 + v6 ≤ 20 by omega)]
    rfl

theorem dist_16 {w h o a b : Int} (ha : isCell w h a = true) (hb : isCell w h b = true) : distOf w h o a b < 16 := by
  unfold distOf
  split
  · exact (dist_tells ha).2.2 b hb
  · omega
theorem longest_ge (a b : Int) : ∀ (l : List SM) (x : Int), x ≤ longestGo a b l x ∧ ∀ m ∈ l, distOf m.f0.f0 m.f0.f1 m.f1 a b ≤ longestGo a b l x
  | [], x => ⟨Int.le_refl _, fun m hm => by cases hm⟩
  | m :: l, x => by
    have ih := longest_ge a b l (mx x (distOf m.f0.f0 m.f0.f1 m.f1 a b))
    have e : longestGo a b (m :: l) x = longestGo a b l (mx x (distOf m.f0.f0 m.f0.f1 m.f1 a b)) := rfl
    have hx : x ≤ mx x (distOf m.f0.f0 m.f0.f1 m.f1 a b) ∧ distOf m.f0.f0 m.f0.f1 m.f1 a b ≤ mx x (distOf m.f0.f0 m.f0.f1 m.f1 a b) := by unfold mx; split <;> omega
    rw [e]
    refine ⟨by omega, fun n hn => ?_⟩
    rcases List.mem_cons.1 hn with rfl | hn
    · omega
    · exact ih.2 n hn
theorem longest_lt (a b : Int) : ∀ (l : List SM) (x : Int), x < 16 → (∀ m ∈ l, distOf m.f0.f0 m.f0.f1 m.f1 a b < 16) → longestGo a b l x < 16
  | [], x, hx, _ => hx
  | m :: l, x, hx, hl => by
    have e : longestGo a b (m :: l) x = longestGo a b l (mx x (distOf m.f0.f0 m.f0.f1 m.f1 a b)) := rfl
    rw [e]
    refine longest_lt a b l _ ?_ (fun n hn => hl n (List.mem_cons_of_mem _ hn))
    have := hl m List.mem_cons_self
    unfold mx
    split <;> omega

theorem FnWishes : laws_FnWishes.Pure := by
  intro l0 hl hl2 hb
  refine ⟨10000, ?_⟩
  unfold laws_FnWishes.f
  cases hbig : laws_big.f l0 with
  | none =>
    exfalso
    unfold laws_big.f at hbig
    repeat' split at hbig
    all_goals simp at hbig
  | some t =>
  rw [Option.bind_some]
  by_cases ht : t = true
  · rw [if_pos ht]
  rw [if_neg ht]
  obtain ⟨w, h, a, b, c, d, e, w1, w2, h1, h2, hok⟩ := wish_draw 10000 l0 (by omega) (by omega)
  rw [e, Option.bind_some]
  have hok' := hok
  unfold wishOk at hok'
  simp only [Bool.and_eq_true] at hok'
  obtain ⟨hg, ha, hb', hc, hd⟩ := hok'
  have hgp : gaps w h ≤ 12 := by
    have : w = 1 ∨ w = 2 ∨ w = 3 := by omega
    have : h = 1 ∨ h = 2 ∨ h = 3 := by omega
    rcases ‹w = 1 ∨ w = 2 ∨ w = 3› with rfl | rfl | rfl <;> rcases ‹h = 1 ∨ h = 2 ∨ h = 3› with rfl | rfl | rfl <;> decide
  have hs : small w h = true := by unfold small; rw [hg, decide_eq_true hgp]; rfl
  have hcan : ∀ x y : Int, few x = true → few y = true → canMeet w h a b x y = true := fun x y hx hy => by
    unfold canMeet wishOk
    rw [hs, hg, ha, hb', hx, hy]
    rfl
  have hcm : ∀ x y : Int, few x = true → few y = true → countMeeting w h a b x y = ((meeting w h a b x y).length : Int) := fun x y hx hy => by
    unfold countMeeting
    rw [if_pos (hcan x y hx hy)]
  have f := full_ok hg
  have htree : ∀ m ∈ allTrees w h, m.f0.f0 = w ∧ m.f0.f1 = h ∧ mazeOk w h m.f1 = true ∧ conn w h m.f1 = true ∧ perfect w h m.f1 = true := fun m hm => by
    unfold allTrees at hm
    obtain ⟨o, ho, rfl⟩ := List.mem_map.1 hm
    have := tree_tells f.1 ho
    exact ⟨rfl, rfl, this.1, this.2.1, this.2.2.1⟩
  have hlg : longest w h a b = longestGo a b (allTrees w h) 0 := by
    unfold longest
    rw [if_pos ⟨hs, ha, hb'⟩]
  have hge := longest_ge a b (allTrees w h) 0
  have hlt := longest_lt a b (allTrees w h) 0 (by omega) (fun m hm => by
    have := htree m hm
    rw [this.1, this.2.1]
    exact dist_16 ha hb')
  rw [← hlg] at hge hlt
  have hw1 : wrap64 (longest w h a b + 1) = longest w h a b + 1 := w64 (by omega) (by omega)
  have hmn : mn 20 (longest w h a b + 1) = longest w h a b + 1 := by unfold mn; split <;> omega
  have hf0 : few 0 = true := by decide
  have hf20 : few 20 = true := by decide
  have hfl : few (longest w h a b + 1) = true := by unfold few; exact decide_eq_true (by omega)
  -- every tree meets the free wish
  have hall : meeting w h a b 0 20 = allTrees w h := by
    unfold meeting
    rw [List.filter_eq_self]
    intro m hm
    obtain ⟨e0, e1, mo, mc, mp⟩ := htree m hm
    unfold meetsM meets wishOk
    rw [e0, e1, mp, hg, ha, hb', hf0, hf20, decide_eq_true (dist_conn mo mc ha hb')]
    have hde : ((deadEnds w h m.f1).length : Int) ≤ 20 := by
      have hc16 := (cells_range w h).2
      have hcp := cells_pos hg
      unfold deadEnds
      rw [if_pos mo]
      have := List.length_filter_le (fun x => ((Go.Proofs.Ytnfclfpicemojaa.L.ways w h m.f1 x).length : Int) == 1) ((List.range (cells w h).toNat).map fun j : Nat => (j : Int))
      rw [List.length_map, List.length_range] at this
      omega
    rw [decide_eq_true hde]
    rfl
  have hnone : meeting w h a b (longest w h a b + 1) 20 = [] := by
    unfold meeting
    rw [List.filter_eq_nil_iff]
    intro m hm hq
    obtain ⟨e0, e1, mo, mc, mp⟩ := htree m hm
    unfold meetsM meets at hq
    simp only [Bool.and_eq_true, decide_eq_true_eq] at hq
    have := hge.2 m hm
    omega
  have hle : ((meeting w h a b c d).length : Int) ≤ ((allTrees w h).length : Int) := by
    have := List.length_filter_le (meetsM a b c d) (allTrees w h)
    unfold meeting
    omega
  have hca := countAll_eq w h w1 w2 h1 h2
  dsimp only
  rw [iCountMeeting 10000 w h a b c d (by omega), Option.bind_some, iFirstMeeting 10000 w h a b c d (by omega), Option.bind_some, iLongest 10000 w h a b (by omega), Option.bind_some, iCountMeeting 10000 w h a b 0 20 (by omega), Option.bind_some]
  rw [hw1, hmn, hcm c d hc hd, hcm 0 20 hf0 hf20, hall, if_pos (show ((meeting w h a b c d).length : Int) ≥ 0 by omega)]
  have hfm : firstMeeting w h a b c d = fmOf (meeting w h a b c d) := by
    unfold firstMeeting
    rw [if_pos (hcan c d hc hd)]
  rw [hfm]
  have tail : ∀ n : Int, n = ((allTrees w h).length : Int) → ((impl_CountAll.f 10000 w h).bind fun t521 => (if n = t521 then (if ((meeting w h a b c d).length : Int) ≤ n then ((impl_CountMeeting.f 10000 w h a b (longest w h a b + 1) 20).bind fun t522 => (if t522 = 0 then ((impl_WishOk.f w h a b c d).bind fun t523 => (some t523)) else (some false))) else (some false)) else (some false))) = some true := by
    intro n hn
    subst hn
    rw [hca, Option.bind_some, if_pos rfl, if_pos hle, iCountMeeting 10000 w h a b _ 20 (by omega), Option.bind_some, hcm _ 20 hfl hf20, hnone, if_pos (show ((([] : List SM).length : Nat) : Int) = 0 from rfl), iWishOk, hok]
    rfl
  cases hme : meeting w h a b c d with
  | nil =>
    rw [hme] at tail
    rw [if_pos (by simp [fmOf]), if_neg (by simp [fmOf])]
    exact tail _ rfl
  | cons m l =>
    rw [hme] at tail
    have hmm : m ∈ meeting w h a b c d := by rw [hme]; exact List.mem_cons_self
    unfold meeting at hmm
    rw [List.mem_filter] at hmm
    obtain ⟨e0, e1, mo, mc, mp⟩ := htree m hmm.1
    have hgm := hge.2 m hmm.1
    have hmt : meets w h m.f1 a b c d = true := by
      have := hmm.2
      unfold meetsM at this
      rw [e0, e1] at this
      exact this
    rw [e0, e1] at hgm
    rw [if_pos (by simp [fmOf]), if_pos (show (fmOf (m :: l)).2.2.2 = true from rfl)]
    show (impl_MeetsWish.f 10000 m.f0.f0 m.f0.f1 m.f1 a b c d).bind _ = _
    rw [iMeets 10000 m.f0.f0 m.f0.f1 m.f1 a b c d (by omega), Option.bind_some, e0, e1, if_pos hmt]
    show (impl_DistanceOf.f 10000 m.f0.f0 m.f0.f1 m.f1 a b).bind _ = _
    rw [iDistanceOf 10000 m.f0.f0 m.f0.f1 m.f1 a b (by omega), Option.bind_some, e0, e1, if_pos hgm]
    exact tail _ rfl
end Go.Proofs.Ytnfclfpicemojaa.Pure
