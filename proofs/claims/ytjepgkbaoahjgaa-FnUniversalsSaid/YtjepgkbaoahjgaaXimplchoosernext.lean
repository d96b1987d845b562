-- Written by a program of this session (xprint.py), out of the translation and of hand-written contracts. Lean checks it.
import Derived.Test.YtjepgkbaoahjgaaX0
namespace Go.Proofs.Ytjepgkbaoahjgaa.X
open Go.RowKit Go.Proofs.YtjepgkbaoahjgaaW.PrintWords Go.Proofs.YtjepgkbaoahjgaaW.PrintLast Go.Proofs.YtjepgkbaoahjgaaW.PrintMore
attribute [local go_sem] max2_int min2_int max_two min_two max_three min_three max_four min_four   -- for this text's walks alone
set_option linter.unusedVariables false
set_option linter.unusedSimpArgs false

/-! ### impl_chooser_next: function 33 (by hand) -/
/-- A choice, and what is left of the list. -/
def gm.pick (l : List Int) (n : Int) : Int × List Int := if (l.length : Int) = 0 then (0, l) else (Int.tmod (mx (rd l 0) 0) n, l.tail)
/-- What a choice leaves: the number, and the list's rest in its place. -/
def gm.Post (w0 w : World) (q : Nat) (l : List Int) (n : Int) (e : Ending) (w' : World) : Prop := e = .returned (.int .i64 (gm.pick l n).1) ∧ w.grownBy w' (some q) ∧
   ∃ A' c', w'.heap[q]? = some (.cells #[.slice A' (gm.pick l n).2.length c'] 60 (0, 0)) ∧ Kd.C (Kd.int .i64) w0 A' (gm.pick l n).2.length (gm.pick l n).2 ∧ (gm.pick l n).2.length ≤ c'
theorem gm.grown_set (w : World) (q i : Nat) (v : Value) : w.grownBy (w.setCell ⟨q, i, none⟩ v) (some q) := ⟨rfl, rfl, rfl, by simp [World.setCell], fun j _ hne => Below.heap_setCell w ⟨q, i, none⟩ v j (fun e => hne (by rw [e]))⟩
set_option maxHeartbeats 4000000 in
set_option maxRecDepth 100000 in
theorem gm.next (w0 w : World) (q : Nat) (A : Option Addr) (c : Nat) (l : List Int) (n : Int) (hb : Below w0.heap.size w0 w) (hq : w.heap[q]? = some (.cells #[.slice A l.length c] 60 (0, 0))) (hC : Kd.C (Kd.int .i64) w0 A l.length l) (hc : l.length ≤ c) (hn : 0 < n) :
  Calls Try.prog 33 #[.pointer (some ⟨q, 0, none⟩), .int .i64 n] w fun e w' => gm.Post w0 w q l n e w' := by
 have hu1 := Try.underlying60
 have hu2 := Try.underlying26
 have y0 : w.cell? ⟨q, 0, none⟩ = some (.slice A l.length c) := blk_cell hq 0
 have y1 := blk_frozen hq 0
 by_cases e : (l.length : Int) = 0
 ·have HX := Aside0.mk (show gm.Post w0 w q l n (.returned (.int .i64 0)) w by
   unfold gm.Post gm.pick
   rw [if_pos e]
   exact ⟨rfl, grown_of_below (Below.refl _ _) _, A, c, hq, hC, hc⟩)
  have c1 : ((l.length : Int) == 0) = true := by simpa using e
  clear hq hC hc e hb
  go_enter Try.func33, Try.ntmps33
  go_wp2
  go_ret
  exact HX.out
 ·obtain ⟨ad, rfl, hx⟩ := Kd.at_int (Kd.C_below hC hb) 0 (by omega) (by omega)
  have hx0 : ad.add 0 = ad := by cases ad with | mk b o f => cases f <;> simp [Addr.add]
  replace hx : w.cell? ad = some (.int .i64 (rd l 0)) := by rw [← hx0]; exact hx
  clear hx0
  obtain ⟨ti, hi1⟩ : ∃ i, Try.prog.info? 3 = some i := Option.isSome_iff_exists.1 (by kernel_rfl)
  have hi2 : (Try.prog.info? 3).map (·.size) = some 1 := by kernel_rfl
  rw [hi1] at hi2
  replace hi2 := Option.some.inj hi2
  obtain ⟨A', hr1, hr2, hr3⟩ := print_drop_of (P := Try.prog) (Value.int .i64) (0 : Int) 26 3 .i64 hu2 hi1 hi2 (some ad) c l 1 (by omega) (by omega) hc
  have el : (l.drop (1 : Int).toNat).length = l.length - 1 := List.length_drop
  have HX := Aside0.mk (show ∀ v, v = mx (rd l 0) 0 → gm.Post w0 w q l n (.returned (.int .i64 (Int.tmod v n))) (w.setCell ⟨q, 0, none⟩ (.slice A' (l.length - 1) (c - 1))) from fun v hv => by
   unfold gm.Post gm.pick
   rw [if_neg e, hv]
   refine ⟨rfl, gm.grown_set _ _ _ _, A', c - 1, ?_, ?_, ?_⟩
   ·rw [List.length_tail]
    exact blk_put hq 0 _ rfl
   ·have := Kd.C_of_reads (h1 := fun _ => rfl) (hr2 w0 (Kd.reads_of_C hC))
    rw [show l.drop (1 : Int).toNat = l.tail from List.drop_one] at this
    exact this
   ·rw [List.length_tail]
    omega)
  have HR : ∀ W : World, (Instr.slice 26 (.slice (some ad) l.length c) (some (.int .i64 1)) none none).run Try.prog W = .ok (.slice A' (l.length - 1) (c - 1)) W := fun W => by
   have := hr1 W
   rw [el] at this
   exact this
  have c1 : ((l.length : Int) == 0) = false := by simpa using e
  have c2 : (n == 0) = false := by simp; omega
  have c2' : ¬ n = 0 := by omega
  have c4 : (0 : Int) < (l.length : Int) := by omega
  have c5 : 1 ≤ l.length := by omega
  clear hq hC hc e hb hr1 hr2 hr3 hn el
  by_cases c6 : rd l 0 < 0
  ·have HV : Aside0 ((0 : Int) = mx (rd l 0) 0) := ⟨by unfold mx; rw [if_pos c6]⟩
   replace c6 := eq_true c6
   go_enter Try.func33, Try.ntmps33
   go_wp2
   go_ret
   have hz := HX.out _ HV.out
   rw [Int.zero_tmod] at hz
   exact hz
  ·have HV : Aside0 (rd l 0 = mx (rd l 0) 0) := ⟨by unfold mx; rw [if_neg c6]⟩
   replace c6 := eq_false c6
   go_enter Try.func33, Try.ntmps33
   go_wp2
   go_ret
   exact HX.out _ HV.out

end Go.Proofs.Ytjepgkbaoahjgaa.X
