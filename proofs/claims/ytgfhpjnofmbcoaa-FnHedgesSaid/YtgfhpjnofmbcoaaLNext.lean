/- Which hedge is cut next. -/
import Derived.Test.YtgfhpjnofmbcoaaXimplNextToCut
import Derived.Test.YtgfhpjnofmbcoaaLHedge
namespace Go.Proofs.Ytgfhpjnofmbcoaa.L
open Go.RowKit Go.Proofs.Ytgfhpjnofmbcoaa.X Go.Proofs.YtgfhpjnofmbcoaaW.PrintWords Go.Proofs.YtgfhpjnofmbcoaaW.PrintLast Go.Proofs.YtgfhpjnofmbcoaaW.PrintMore
set_option linter.unusedSimpArgs false
set_option linter.unusedVariables false

def nextGo (o : Int) (g : List Int) : List Int → Int → Int → Int
  | [], _, b => b
  | n :: r, i, b => nextGo o g r (i + 1) (if bit o i = true ∧ (b < 0 ∨ n > rd g b) then i else b)
def nextToCut (w h o : Int) (g : List Int) (lim : Int) : Int := if hedgeOk w h o g lim = true then nextGo o g g 0 (-1) else -1
theorem iNext_go (w h o : Int) (g : List Int) (lim : Int) (hl : (g.length : Int) ≤ 24) (h0 : 0 ≤ o) (h1 : o < 16777216) : ∀ (d k : Nat) (i b : Int), 0 ≤ i → i ≤ (g.length : Int) → (g.length : Int) - i = d → d < k → b < i →
    impl_NextToCut.l0 k b g (g.length : Int) i w h o g lim = some (nextGo o g (g.drop i.toNat) i b) := by
  intro d
  induction d with
  | zero =>
    intro k i b hi h1 hd hk hb
    obtain ⟨k, rfl⟩ := kpos hk
    simp only [impl_NextToCut.l0]
    rw [if_neg (by omega), List.drop_of_length_le (by omega)]
    rfl
  | succ d ih =>
    intro k i b hi hil hd hk hb
    obtain ⟨k, rfl⟩ := kpos hk
    simp only [impl_NextToCut.l0]
    rw [if_pos (by omega), if_pos hi, if_pos (by omega), w64 (by omega) (by omega), iisOpen w h o i h0 (by omega) (by omega), drop_cons hi (by omega), ih k (i + 1) i (by omega) (by omega) (by omega) (by omega) (by omega), ih k (i + 1) b (by omega) (by omega) (by omega) (by omega) (by omega)]
    simp only [Option.bind_some, nextGo, Bool.and_eq_true, decide_eq_true_eq]
    cases hbit : bit o i with
    | false => simp
    | true =>
      by_cases hb0 : b < 0
      · simp [hb0, hi]
      · rw [if_pos ⟨hi, rfl⟩, if_neg hb0, if_pos (by omega), if_pos (by omega)]
        by_cases hc : rd g i > rd g b
        · simp [hc]
        · simp [hc, hb0]
theorem iNextToCut (k : Nat) (w h o : Int) (g : List Int) (lim : Int) (hk : g.length < k) : impl_NextToCut.f k w h o g lim = some (nextToCut w h o g lim) := by
  unfold impl_NextToCut.f nextToCut
  rw [iHedgeOk]
  simp only [Option.bind_some]
  by_cases hh : hedgeOk w h o g lim = true
  · obtain ⟨hm, _, _, hl, _⟩ := hedgeOk_parts hh
    obtain ⟨_, ho, _, ho'⟩ := mazeOk_ok hm
    have hr := gaps_range w h
    rw [if_pos hh, if_pos hh, iNext_go w h o g lim (by omega) ho ho' g.length k 0 (-1) (by omega) (by omega) (by omega) hk (by omega)]
    simp
  · rw [if_neg hh, if_neg hh]
end Go.Proofs.Ytgfhpjnofmbcoaa.L
