-- Written by a program of this session (xprint.py), out of the translation and of hand-written contracts. Lean checks it.
import Derived.Test.YtnfclfpicemojaaX0
import Derived.Test.YtnfclfpicemojaaXcgrid
import Derived.Test.YtnfclfpicemojaaXchof
import Derived.Test.YtnfclfpicemojaaXcmaze
namespace Go.Proofs.Ytnfclfpicemojaa.X
open Go.RowKit Go.Proofs.YtnfclfpicemojaaW.PrintWords Go.Proofs.YtnfclfpicemojaaW.PrintLast Go.Proofs.YtnfclfpicemojaaW.PrintMore
attribute [local go_sem] max2_int min2_int max_two min_two max_three min_three max_four min_four   -- for this text's walks alone
set_option linter.unusedVariables false
set_option linter.unusedSimpArgs false

/-! ### impl_isIn_1: function 38 (by hand) -/
def isCellB (a0 a1 c : Int) : Bool := (impl_isCell.f a0 a1 c).getD false
theorem isCellB_eq (a0 a1 c : Int) : impl_isCell.f a0 a1 c = some (isCellB a0 a1 c) := by
 unfold isCellB
 cases e : impl_isCell.f a0 a1 c with
 | some b => rfl
 | none =>
  exfalso
  revert e
  unfold impl_isCell.f impl_CountCells.f impl_GridOk.f
  repeat' split
  all_goals simp
  all_goals (repeat' split)
  all_goals simp
set_option maxHeartbeats 1000000 in
theorem impl_isIn_1.calls (B : Nat) (a0 a1 a2 x : Int) (w : World) (h0 : w.cell? ⟨B, 0, none⟩ = some (.int .i64 a0)) (h1 : w.cell? ⟨B, 1, none⟩ = some (.int .i64 a1)) :
  Calls Try.prog 38 #[.int .i64 x, .pointer (some ⟨B, 0, none⟩)] w fun e w' => e = .returned (.bool (!isCellB a0 a1 x)) ∧ Below w.heap.size w w' := by
 have hu := Try.underlying32
 have hu2 := Try.underlying25
 have HE := Aside0.mk (isCellB_eq a0 a1 x)
 go_enter Try.func38, Try.ntmps38
 go_wp2_with (go_at_call 18; refine (impl_isCell.calls a0 a1 x _ _ HE.out).mono ?_; rintro e w' ⟨rfl, hb⟩)
 go_ret
 exact ⟨rfl, hb⟩

/-! ### impl_isIn: function 21 (by hand) -/
def impl_isIn.f (a0_0 : Int) (a0_1 : Int) (a0_2 : Int) (l1 : List Int) : Option Bool := (impl_MazeOk.f a0_0 a0_1 a0_2).bind fun t => if t = true then some (!(l1.any fun c => !isCellB a0_0 a0_1 c)) else some false
set_option maxHeartbeats 2000000 in
theorem impl_isIn.calls (a0_0 : Int) (a0_1 : Int) (a0_2 : Int) (A1 : Option Addr) (c1 : Nat) (l1 : List Int) (r : Bool) (w : World) (hr1 : Kd.C (Kd.int .i64) w A1 l1.length l1) (hc1 : l1.length ≤ c1) (h : impl_isIn.f a0_0 a0_1 a0_2 l1 = some r) :
  Calls Try.prog 21 #[.agg #[.int .i64 a0_0, .int .i64 a0_1, .int .i64 a0_2], .slice A1 l1.length c1] w fun e w' => e = .returned (.bool r) ∧ Below w.heap.size w w' := by
 have hu := Try.underlying32
 have HR := Aside0.mk hr1
 have HB := Aside0.mk (Below.refl w.heap.size w)
 have eg : ∀ args w, (callFunc 38 args).run Try.prog w = .ok (.enter 38 args) w := enters_of Try.func38 (by kernel_rfl) rfl
 clear hr1 hc1
 obtain ⟨t, ht, H⟩ := Option.bind_eq_some_iff.mp h
 have HT := Aside0.mk ht
 clear h ht
 cases t with
 | false =>
  obtain rfl := Option.some.inj H
  clear H
  go_enter Try.func21, Try.ntmps21
  go_wp2_with (go_at_call 36; refine (impl_MazeOk.calls a0_0 a0_1 a0_2 false _ HT.out).mono ?_; rintro e w1 ⟨rfl, hb⟩)
  go_ret
  exact ⟨rfl, below_step (below_alloc HB.out _) hb⟩
 | true =>
  obtain rfl := Option.some.inj H
  clear H
  go_enter Try.func21, Try.ntmps21
  go_wp2_with (first | (go_at_call 36; refine (impl_MazeOk.calls a0_0 a0_1 a0_2 true _ HT.out).mono ?_; rintro e w1 ⟨rfl, hb⟩; have HB1 := Aside0.mk hb; clear hb) | (go_at_call 37; refine (slices_ContainsFunc.gen (fun c => !isCellB a0_0 a0_1 c) 38 _ eg A1 c1 l1 _ ?c1 ?c2).mono ?c3))
  case c1 => exact Kd.C_below (Kd.C_alloc HR.out _) HB1.out
  case c2 =>
   intro W x hW hx
   have b0 := heap_alloc_new w (.cells #[.int .i64 a0_0, .int .i64 a0_1, .int .i64 a0_2] 32)
   have b1 := blk_below b0 HB1.out
   have b2 := blk_below b1 hW
   refine (impl_isIn_1.calls w.heap.size a0_0 a0_1 a0_2 x W ((blk_cell b2 0).trans rfl) ((blk_cell b2 1).trans rfl)).mono ?_
   rintro e w' ⟨rfl, hb⟩
   exact ⟨rfl, below_step hW hb⟩
  case c3 =>
   rintro e w2 ⟨rfl, hb2⟩
   go_wp2
   go_ret
   exact ⟨rfl, below_step (below_step (below_alloc HB.out _) HB1.out) hb2⟩

end Go.Proofs.Ytnfclfpicemojaa.X
