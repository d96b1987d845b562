/- For how many days a hedged maze stays connected: the program and the reference count the same. -/
import Derived.Test.YtgfhpjnofmbcoaaXimplDaysOpen
import Derived.Test.YtgfhpjnofmbcoaaLParts
import Derived.Test.YtgfhpjnofmbcoaaLOpen
import Derived.Test.YtgfhpjnofmbcoaaLCut
namespace Go.Proofs.Ytgfhpjnofmbcoaa.L
open Go.RowKit Go.Proofs.Ytgfhpjnofmbcoaa.X Go.Proofs.YtgfhpjnofmbcoaaW.PrintWords Go.Proofs.YtgfhpjnofmbcoaaW.PrintLast Go.Proofs.YtgfhpjnofmbcoaaW.PrintMore
set_option linter.unusedSimpArgs false
set_option linter.unusedVariables false

def connNow (w h o : Int) (g : List Int) (lim : Int) : Bool := conn w h (openGo lim g 0 o)
def days (w h o lim a : Int) : Nat → List Int → Int → Int
  | 0, _, n => n
  | k + 1, g, n => if connNow w h o (g.map (grown a)) lim = true then days w h o lim a k (g.map (grown a)) (n + 1) else n
def daysOpen (w h o : Int) (g : List Int) (lim a : Int) : Int := if hedgeOk w h o g lim = true ∧ 1 ≤ a ∧ a ≤ 20 then (if connNow w h o g lim = true then days w h o lim a 100 g 0 else 0) else -1
theorem hedge_grown {w h o : Int} {g : List Int} {lim a : Int} (hh : hedgeOk w h o g lim = true) (h0 : 0 ≤ a) (h1 : a ≤ 20) : hedgeOk w h o (g.map (grown a)) lim = true := by
  obtain ⟨a1, a2, a3, a4, a5⟩ := hedgeOk_parts hh
  unfold hedgeOk
  simp only [Bool.and_eq_true, decide_eq_true_eq, List.length_map, List.all_eq_true]
  refine ⟨a1, ⟨a2, a3⟩, a4, fun n hn => ?_⟩
  obtain ⟨x, hx, rfl⟩ := List.mem_map.1 hn
  have := a5 x hx
  unfold grown
  split <;> omega
theorem growHedge_ok {w h o : Int} {g : List Int} {lim a : Int} (hh : hedgeOk w h o g lim = true) (h0 : 0 ≤ a) (h1 : a ≤ 20) : growHedge w h o g lim a = (w, h, o, g.map (grown a), lim, true) := by
  unfold growHedge
  rw [if_pos ⟨hh, h0, h1⟩]
theorem openNow_ok {w h o : Int} {g : List Int} {lim : Int} (hh : hedgeOk w h o g lim = true) : openNow w h o g lim = (w, h, openGo lim g 0 o) := by
  unfold openNow
  rw [if_pos hh]
theorem iDays_go (w h o lim a : Int) (h0 : 1 ≤ a) (h1 : a ≤ 20) : ∀ (n k : Nat) (g : List Int) (x : Int), hedgeOk w h o g lim = true → 0 ≤ x → 100 - x = n → n + 300 ≤ k → impl_DaysOpen.l0 k a x w h o g lim = some (days w h o lim a n g x)
  | 0, k, g, x, hh, hx, hn, hk => by
    obtain ⟨k, rfl⟩ : ∃ m, k = m + 1 := ⟨k - 1, by omega⟩
    rw [impl_DaysOpen.l0, if_neg (by omega)]
    rfl
  | n + 1, k, g, x, hh, hx, hn, hk => by
    obtain ⟨k, rfl⟩ : ∃ m, k = m + 1 := ⟨k - 1, by omega⟩
    have hgr := gaps_range w h
    have hl := (hedgeOk_parts hh).2.2.2.1
    have hh' := hedge_grown (a := a) hh (by omega) h1
    rw [impl_DaysOpen.l0, if_pos (by omega), iGrowHedge k w h o g lim a (by omega) (by omega), growHedge_ok hh (by omega) h1]
    simp only [Option.bind_some]
    rw [iOpenNow k w h o _ lim (by simp only [List.length_map]; omega), openNow_ok hh']
    simp only [Option.bind_some]
    rw [iConn k _ _ _ (by omega)]
    simp only [Option.bind_some]
    rw [days]
    unfold connNow
    split
    · rw [w64 (by omega) (by omega)]
      exact iDays_go w h o lim a h0 h1 n k _ (x + 1) hh' (by omega) (by omega) (by omega)
    · rfl
theorem iDaysOpen (k : Nat) (w h o : Int) (g : List Int) (lim a : Int) (hk : 500 ≤ k) : impl_DaysOpen.f k w h o g lim a = some (daysOpen w h o g lim a) := by
  obtain ⟨k, rfl⟩ : ∃ m, k = m + 1 := ⟨k - 1, by omega⟩
  unfold impl_DaysOpen.f daysOpen
  rw [iHedgeOk]
  simp only [Option.bind_some]
  by_cases hh : hedgeOk w h o g lim = true
  · have hgr := gaps_range w h
    have hl := (hedgeOk_parts hh).2.2.2.1
    rw [if_pos hh]
    have key : (impl_DaysOpen.j0 (k + 1) a false w h o g lim) = some (if connNow w h o g lim = true then days w h o lim a 100 g 0 else 0) ∨ ¬ (1 ≤ a ∧ a ≤ 20) := by
      by_cases ha : 1 ≤ a ∧ a ≤ 20
      · left
        rw [impl_DaysOpen.j0, if_neg (by simp), iOpenNow k w h o g lim (by omega), openNow_ok hh]
        simp only [Option.bind_some]
        rw [iConn k _ _ _ (by omega)]
        simp only [Option.bind_some]
        unfold connNow
        split
        · exact iDays_go w h o lim a ha.1 ha.2 100 k g 0 hh (by omega) (by omega) (by omega)
        · rfl
      · exact .inr ha
    by_cases h1 : a < 1
    · rw [if_pos h1, if_neg (by omega), impl_DaysOpen.j0, if_pos rfl]
    · rw [if_neg h1]
      by_cases h2 : a > 20
      · rw [decide_eq_true h2, if_neg (by omega), impl_DaysOpen.j0, if_pos rfl]
      · rw [decide_eq_false h2, if_pos ⟨hh, by omega, by omega⟩]
        exact key.resolve_right fun z => z ⟨by omega, by omega⟩
  · rw [if_neg hh, if_neg (fun z => hh z.1), impl_DaysOpen.j0, if_pos rfl]
end Go.Proofs.Ytgfhpjnofmbcoaa.L
