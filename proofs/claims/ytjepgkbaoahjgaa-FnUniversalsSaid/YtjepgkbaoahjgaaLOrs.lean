/- Sets of cells as bits of a number. -/
import Derived.Test.YtjepgkbaoahjgaaLSort
import Derived.Test.YtjepgkbaoahjgaaLBits
import Derived.Test.YtjepgkbaoahjgaaLStep
namespace Go.Proofs.Ytjepgkbaoahjgaa.L
open Go.RowKit Go.Proofs.Ytjepgkbaoahjgaa.X Go.Proofs.YtjepgkbaoahjgaaW.PrintWords Go.Proofs.YtjepgkbaoahjgaaW.PrintLast Go.Proofs.YtjepgkbaoahjgaaW.PrintMore
set_option linter.unusedSimpArgs false
set_option linter.unusedVariables false

def orL (s : Nat) (l : List Int) : Nat := l.foldl (fun n x => n ||| 2 ^ x.toNat) s
theorem orL_append (s : Nat) (l m : List Int) : orL s (l ++ m) = orL (orL s l) m := List.foldl_append ..
theorem testBit_orL : ∀ (l : List Int) (s i : Nat), (∀ x ∈ l, 0 ≤ x) → (orL s l).testBit i = (s.testBit i || decide ((i : Int) ∈ l))
  | [], s, i, _ => by simp [orL]
  | x :: l, s, i, h => by
    have h1 : orL s (x :: l) = orL (s ||| 2 ^ x.toNat) l := rfl
    have h0 := h x List.mem_cons_self
    rw [h1, testBit_orL l _ i (fun y hy => h y (List.mem_cons_of_mem _ hy)), Nat.testBit_or, Nat.testBit_two_pow, Bool.or_assoc]
    congr 1
    by_cases e : x.toNat = i
    · rw [decide_eq_true e, decide_eq_true (show (i : Int) ∈ x :: l from by rw [show (i : Int) = x by omega]; exact List.mem_cons_self)]
      rfl
    · rw [decide_eq_false e, Bool.false_or]
      by_cases m : (i : Int) ∈ l
      · rw [decide_eq_true m, decide_eq_true (List.mem_cons_of_mem _ m)]
      · rw [decide_eq_false m, decide_eq_false (fun z => by rcases List.mem_cons.1 z with z | z; omega; exact m z)]
theorem orL_lt : ∀ (l : List Int) (s : Nat), s < 2 ^ 16 → (∀ x ∈ l, 0 ≤ x ∧ x ≤ 15) → orL s l < 2 ^ 16
  | [], s, h, _ => h
  | x :: l, s, h, hx => by
    have h0 := hx x List.mem_cons_self
    refine orL_lt l _ (Nat.or_lt_two_pow h (Nat.pow_lt_pow_right (by decide) (by omega))) (fun y hy => hx y (List.mem_cons_of_mem _ hy))
theorem or_step (s : Nat) (x : Int) (hs : s < 2 ^ 16) (h0 : 0 ≤ x) (h1 : x ≤ 15) : Go.bits .or .i64 (s : Int) (shl .i64 1 x) = ((s ||| 2 ^ x.toNat : Nat) : Int) := by
  rw [shl_one h0 (by omega), pow_cast, bits_or s _ (by omega) (Nat.lt_of_lt_of_le (Nat.pow_lt_pow_right (by decide) (show x.toNat < 16 by omega)) (by decide))]
theorem or_step_lt (s : Nat) (x : Int) (hs : s < 2 ^ 16) (h1 : x ≤ 15) : s ||| 2 ^ x.toNat < 2 ^ 16 := Nat.or_lt_two_pow hs (Nat.pow_lt_pow_right (by decide) (by omega))
theorem cell_lt {w h x : Int} (hx : isCell w h x = true) : 0 ≤ x ∧ x < cells w h ∧ x ≤ 15 := by
  have h2 := isCell_ok hx
  unfold isCell at hx
  have := of_decide_eq_true hx
  omega
theorem range_drop {n i : Nat} (h : i < n) : (List.range n).drop i = i :: (List.range n).drop (i + 1) := by
  rw [List.drop_eq_getElem_cons (by simpa using h), List.getElem_range]
theorem cells_cast (w h : Int) : cells w h = ((cells w h).toNat : Int) := by have := cells_range w h; omega
def full (w h : Int) : Int := wrap64 ((shl .i64 1 (cells w h)) - 1)
end Go.Proofs.Ytjepgkbaoahjgaa.L
