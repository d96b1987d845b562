/- Hedges that grow and are cut. -/
import Derived.Test.YtgfhpjnofmbcoaaXchedge
import Derived.Test.YtgfhpjnofmbcoaaXimplCutHedge
import Derived.Test.YtgfhpjnofmbcoaaLHedge
namespace Go.Proofs.Ytgfhpjnofmbcoaa.L
open Go.RowKit Go.Proofs.Ytgfhpjnofmbcoaa.X Go.Proofs.YtgfhpjnofmbcoaaW.PrintWords Go.Proofs.YtgfhpjnofmbcoaaW.PrintLast Go.Proofs.YtgfhpjnofmbcoaaW.PrintMore
set_option linter.unusedSimpArgs false
set_option linter.unusedVariables false

theorem iCopy (w h o : Int) (g : List Int) (lim : Int) (hl : g.length < 17592186044416) : impl_copyHedge.f w h o g lim = some (w, h, o, g, lim) := by
  unfold impl_copyHedge.f slices_Clone_int_int.f
  rw [if_pos hl]
  rfl
def cutHedge (w h o : Int) (g : List Int) (lim a : Int) : Int × Int × Int × List Int × Int × Bool :=
  if hedgeOk w h o g lim = true ∧ isGap w h a = true then (w, h, o, g.set a.toNat 0, lim, true) else (w, h, o, g, lim, false)
theorem cutHedge_form (w h o : Int) (g : List Int) (lim a : Int) : ∃ (g' : List Int) (b : Bool), cutHedge w h o g lim a = (w, h, o, g', lim, b) ∧ g'.length = g.length := by
  unfold cutHedge
  split
  · exact ⟨_, _, rfl, by simp⟩
  · exact ⟨_, _, rfl, rfl⟩
theorem iCutHedge (w h o : Int) (g : List Int) (lim a : Int) (hl : g.length < 17592186044416) : impl_CutHedge.f w h o g lim a = some (cutHedge w h o g lim a) := by
  unfold impl_CutHedge.f cutHedge
  rw [iCopy w h o g lim hl, iHedgeOk, iisGap]
  simp only [Option.bind_some]
  by_cases h1 : hedgeOk w h o g lim = true
  · by_cases h2 : isGap w h a = true
    · have p := hedgeOk_parts h1
      have q := h2
      unfold isGap at q
      have q := of_decide_eq_true q
      have z : hedgeOk w h o g lim = true ∧ isGap w h a = true := ⟨h1, h2⟩
      rw [if_pos h1, if_pos h2, if_pos q.1, if_pos (by omega), if_pos z]
    · have z : ¬ (hedgeOk w h o g lim = true ∧ isGap w h a = true) := fun z => h2 z.2
      rw [if_pos h1, if_neg h2, if_neg z]
  · have z : ¬ (hedgeOk w h o g lim = true ∧ isGap w h a = true) := fun z => h1 z.1
    rw [if_neg h1, if_neg z]
def grown (by_ : Int) (x : Int) : Int := if x + by_ ≤ 1000 then x + by_ else 1000
def growHedge (w h o : Int) (g : List Int) (lim a : Int) : Int × Int × Int × List Int × Int × Bool :=
  if hedgeOk w h o g lim = true ∧ 0 ≤ a ∧ a ≤ 20 then (w, h, o, g.map (grown a), lim, true) else (w, h, o, g, lim, false)
theorem growHedge_form (w h o : Int) (g : List Int) (lim a : Int) : ∃ (g' : List Int) (b : Bool), growHedge w h o g lim a = (w, h, o, g', lim, b) ∧ g'.length = g.length := by
  unfold growHedge
  split
  · exact ⟨_, _, rfl, by simp⟩
  · exact ⟨_, _, rfl, rfl⟩
/-- The first i have grown. -/
def grownTo (a : Int) (g : List Int) (i : Int) : List Int := (g.take i.toNat).map (grown a) ++ g.drop i.toNat
theorem grownTo_length (a : Int) (g : List Int) (i : Int) : (grownTo a g i).length = g.length := by simp [grownTo]; omega
theorem grownTo_end (a : Int) (g : List Int) (i : Int) (h : (g.length : Int) ≤ i) : grownTo a g i = g.map (grown a) := by
  unfold grownTo
  rw [List.take_of_length_le (by omega), List.drop_of_length_le (by omega), List.append_nil]
theorem grownTo_at (a : Int) (g : List Int) (i : Int) (h0 : 0 ≤ i) (h1 : i < (g.length : Int)) : rd (grownTo a g i) i = rd g i ∧ (grownTo a g i).set i.toNat (grown a (rd g i)) = grownTo a g (i + 1) := by
  have e : (g.take i.toNat).length = i.toNat := by rw [List.length_take]; omega
  constructor
  · unfold rd grownTo
    rw [List.getD_eq_getElem?_getD, List.getD_eq_getElem?_getD, List.getElem?_append_right (by simp; omega)]
    simp only [List.length_map, e, Nat.sub_self]
    rw [List.getElem?_drop, Nat.add_zero]
  · unfold grownTo
    rw [drop_cons h0 h1, List.set_append_right _ _ (by simp; omega)]
    simp only [List.length_map, e, Nat.sub_self, List.set_cons_zero]
    rw [show (i + 1).toNat = i.toNat + 1 by omega, List.take_succ_eq_append_getElem (by omega), ← rd_get h0 h1]
    simp
theorem iGrow_go (w h o : Int) (g : List Int) (lim a : Int) (hl : g.length ≤ 1000) (ha : 0 ≤ a ∧ a ≤ 20) (hg : ∀ n ∈ g, 0 ≤ n ∧ n ≤ 1000) : ∀ (d k : Nat) (i : Int), 0 ≤ i → i ≤ (g.length : Int) → (g.length : Int) - i = d → d < k →
    impl_GrowHedge.l0 k a (g.length : Int) i w h o (grownTo a g i) lim = some (w, h, o, g.map (grown a), lim, true) := by
  intro d
  induction d with
  | zero =>
    intro k i h0 h1 hd hk
    obtain ⟨k, rfl⟩ := kpos hk
    simp only [impl_GrowHedge.l0]
    rw [if_neg (by omega), grownTo_end a g i (by omega)]
  | succ d ih =>
    intro k i h0 h1 hd hk
    obtain ⟨k, rfl⟩ := kpos hk
    have hx := grownTo_at a g i h0 (by omega)
    have hm := hg (rd g i) (by rw [rd_get h0 (by omega)]; exact List.getElem_mem _)
    have e : mn (wrap64 (rd g i + a)) 1000 = grown a (rd g i) := by rw [w64 (by omega) (by omega)]; unfold mn grown; split <;> split <;> omega
    simp only [impl_GrowHedge.l0]
    rw [if_pos (by omega), if_pos h0, grownTo_length, if_pos (by omega), w64 (x := i + 1) (by omega) (by omega), hx.1, e, hx.2]
    exact ih k (i + 1) (by omega) (by omega) (by omega) (by omega)
theorem iGrowHedge (k : Nat) (w h o : Int) (g : List Int) (lim a : Int) (hl : g.length < 17592186044416) (hk : g.length + 1 < k) : impl_GrowHedge.f k w h o g lim a = some (growHedge w h o g lim a) := by
  obtain ⟨k, rfl⟩ : ∃ m, k = m + 1 := ⟨k - 1, by omega⟩
  unfold impl_GrowHedge.f growHedge impl_isFew.f
  rw [iCopy w h o g lim hl, iHedgeOk]
  simp only [Option.bind_some]
  by_cases h1 : hedgeOk w h o g lim = true
  · have p := hedgeOk_parts h1
    have r := gaps_range w h
    by_cases h2 : 0 ≤ a ∧ a ≤ 20
    · have z : hedgeOk w h o g lim = true ∧ 0 ≤ a ∧ a ≤ 20 := ⟨h1, h2⟩
      rw [if_pos h1, if_pos z, if_pos h2.1]
      have e := iGrow_go w h o g lim a (by omega) h2 p.2.2.2.2 g.length k 0 (by omega) (by omega) (by omega) (by omega)
      simp only [grownTo, Int.toNat_zero, List.take_zero, List.map_nil, List.nil_append, List.drop_zero] at e
      simp [h2.2, impl_GrowHedge.j0, e]
    · have z : ¬ (hedgeOk w h o g lim = true ∧ 0 ≤ a ∧ a ≤ 20) := fun z => h2 z.2
      rw [if_pos h1, if_neg z]
      by_cases h3 : a ≥ 0
      · have h4 : ¬ a ≤ 20 := by omega
        simp [h3, h4, impl_GrowHedge.j0]
      · simp [h3, impl_GrowHedge.j0]
  · have z : ¬ (hedgeOk w h o g lim = true ∧ 0 ≤ a ∧ a ≤ 20) := fun z => h1 z.1
    rw [if_neg h1, if_neg z]
    simp [impl_GrowHedge.j0]
end Go.Proofs.Ytgfhpjnofmbcoaa.L
