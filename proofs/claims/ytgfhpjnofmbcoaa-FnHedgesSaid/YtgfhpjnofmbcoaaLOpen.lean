/- What is open now behind hedges. -/
import Derived.Test.YtgfhpjnofmbcoaaXimplOpenNow
import Derived.Test.YtgfhpjnofmbcoaaLHedge
import Derived.Test.YtgfhpjnofmbcoaaLBits
namespace Go.Proofs.Ytgfhpjnofmbcoaa.L
open Go.RowKit Go.Proofs.Ytgfhpjnofmbcoaa.X Go.Proofs.YtgfhpjnofmbcoaaW.PrintWords Go.Proofs.YtgfhpjnofmbcoaaW.PrintLast Go.Proofs.YtgfhpjnofmbcoaaW.PrintMore
set_option linter.unusedSimpArgs false
set_option linter.unusedVariables false

def openGo (lim : Int) : List Int → Int → Int → Int
  | [], _, o => o
  | n :: r, i, o => openGo lim r (i + 1) (if n ≥ lim then withO o i false else o)
def openNow (w h o : Int) (g : List Int) (lim : Int) : Int × Int × Int := if hedgeOk w h o g lim = true then (w, h, openGo lim g 0 o) else (0, 0, 0)
theorem gap_of {w h i : Int} {n : Nat} (h0 : 0 ≤ i) (h1 : i < (n : Int)) (hn : (n : Int) = gaps w h) : isGap w h i = true := by
  unfold isGap
  exact decide_eq_true ⟨h0, by omega⟩
theorem openGo_ok (w h lim : Int) : ∀ (r : List Int) (i o : Int), 0 ≤ i → i + r.length = gaps w h → mazeOk w h o = true → mazeOk w h (openGo lim r i o) = true := by
  intro r
  induction r with
  | nil => intro i o _ _ h; exact h
  | cons n r ih =>
    intro i o h0 hl hm
    simp only [List.length_cons] at hl
    unfold openGo
    refine ih (i + 1) _ (by omega) (by omega) ?_
    split
    · exact mazeOk_with false hm (gap_of (n := i.toNat + (r.length + 1)) h0 (by omega) (by omega))
    · exact hm
theorem iOpenNow_go (w h : Int) (g : List Int) (lim a b c : Int) (hl : (g.length : Int) = gaps w h) : ∀ (d k : Nat) (i o : Int), 0 ≤ i → i ≤ (g.length : Int) → (g.length : Int) - i = d → d < k → mazeOk w h o = true →
    impl_OpenNow.l0 k g (g.length : Int) i a b c g lim w h o = some (w, h, openGo lim (g.drop i.toNat) i o) := by
  have hr := gaps_range w h
  intro d
  induction d with
  | zero =>
    intro k i o h0 h1 hd hk hm
    obtain ⟨k, rfl⟩ := kpos hk
    simp only [impl_OpenNow.l0]
    rw [if_neg (by omega), List.drop_of_length_le (by omega)]
    rfl
  | succ d ih =>
    intro k i o h0 h1 hd hk hm
    obtain ⟨k, rfl⟩ := kpos hk
    obtain ⟨_, ho, _, ho'⟩ := mazeOk_ok hm
    have hgp : isGap w h i = true := gap_of h0 (by omega) hl
    simp only [impl_OpenNow.l0]
    rw [if_pos (by omega), if_pos h0, if_pos (by omega), w64 (by omega) (by omega), iWith w h o i false ho ho' h0 (by omega), drop_cons h0 (by omega)]
    simp only [Option.bind_some, openGo]
    by_cases hc : rd g i ≥ lim
    · rw [if_pos hc, if_pos hc, ih k (i + 1) _ (by omega) (by omega) (by omega) (by omega) (mazeOk_with false hm hgp)]
    · rw [if_neg hc, if_neg hc, ih k (i + 1) _ (by omega) (by omega) (by omega) (by omega) hm]
theorem iOpenNow (k : Nat) (w h o : Int) (g : List Int) (lim : Int) (hk : g.length < k) : impl_OpenNow.f k w h o g lim = some (openNow w h o g lim) := by
  unfold impl_OpenNow.f openNow
  rw [iHedgeOk]
  simp only [Option.bind_some]
  by_cases hh : hedgeOk w h o g lim = true
  · obtain ⟨hm, _, _, hl, _⟩ := hedgeOk_parts hh
    rw [if_pos hh, if_pos hh, iOpenNow_go w h g lim _ _ _ hl g.length k 0 o (by omega) (by omega) (by omega) hk hm]
    simp
  · rw [if_neg hh, if_neg hh]
end Go.Proofs.Ytgfhpjnofmbcoaa.L
