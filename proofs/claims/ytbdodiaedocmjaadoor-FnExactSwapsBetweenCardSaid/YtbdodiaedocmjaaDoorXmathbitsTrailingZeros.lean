-- Written by a program of this session (xprint.py), out of the translation and of hand-written contracts. Lean checks it.
import Derived.Test.YtbdodiaedocmjaaDoorShelf
import Derived.Test.YtbdodiaedocmjaaDoorX0
namespace Go.Proofs.YtbdodiaedocmjaaDoor.X
open Go.RowKit Go.Proofs.YtbdodiaedocmjaaDoorW.PrintWords Go.Proofs.YtbdodiaedocmjaaDoorW.PrintLast Go.Proofs.YtbdodiaedocmjaaDoorW.PrintMore
attribute [local go_sem] max2_int min2_int max_two min_two max_three min_three max_four min_four   -- for this text's walks alone
set_option linter.unusedVariables false
set_option linter.unusedSimpArgs false

/-! ### bits_TrailingZeros: function 18 (by hand) -/
/-- The library's table, where the program keeps it. -/
def TzTab (w : World) : Prop := TabAt 1 Lib.deBruijn64tab w
theorem TzTab.move {B : Nat} {w w' : World} (h : TzTab w) (hB : w.heap.size ≤ B) (hb : Below B w w') : TzTab w' := fun j hj => by
 have h1 := h j hj
 have hlt : 1 < w.heap.size := Classical.byContradiction fun hn => by
  have h2 : w.heap[1]? = none := Array.getElem?_eq_none (by omega)
  simp [World.cell?, h2] at h1
 rw [hb.cell (p := ⟨1, j, none⟩) (Nat.lt_of_lt_of_le hlt hB)]
 exact h1
def bits_TrailingZeros.f (a0 : Int) : Option Int := if 0 ≤ a0 ∧ a0 < 18446744073709551616 then some (Lib.ctz 64 a0.toNat : Int) else none
theorem bits_TrailingZeros.calls (a0 : Int) (r : Int) (w : World) (h : bits_TrailingZeros.f a0 = some r) (ht : TzTab w) :
  Calls Tryd.prog 18 #[.int .u64 a0] w fun e w' => e = .returned (.int .i64 r) ∧ Drawn0 w w' := by
 unfold bits_TrailingZeros.f at h
 by_cases h0 : 0 ≤ a0 ∧ a0 < 18446744073709551616
 ·rw [if_pos h0] at h
  obtain rfl := Option.some.inj h
  have := Any7.bits_TrailingZeros Tryd.laysTz a0.toNat (by omega) w (fun _ => ht)
  rw [show ((a0.toNat : Nat) : Int) = a0 by omega] at this
  refine this.mono ?_
  rintro e w' ⟨rfl, rfl⟩
  exact ⟨rfl, ⟨0, rfl⟩⟩
 ·rw [if_neg h0] at h
  cases h

end Go.Proofs.YtbdodiaedocmjaaDoor.X
