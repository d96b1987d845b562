-- Written by a program of this session (xprint.py), out of the translation and of hand-written contracts. Lean checks it.
import Derived.Test.YtgnnkjgfkdaddaaDoorX0
import Derived.Test.YtgnnkjgfkdaddaaDoorXcgrid
import Derived.Test.YtgnnkjgfkdaddaaDoorXchof
import Derived.Test.YtgnnkjgfkdaddaaDoorXcmaze
namespace Go.Proofs.YtgnnkjgfkdaddaaDoor.X
open Go.RowKit Go.Proofs.YtgnnkjgfkdaddaaDoorW.PrintWords Go.Proofs.YtgnnkjgfkdaddaaDoorW.PrintLast Go.Proofs.YtgnnkjgfkdaddaaDoorW.PrintMore
attribute [local go_sem] max2_int min2_int max_two min_two max_three min_three max_four min_four   -- for this text's walks alone
set_option linter.unusedVariables false
set_option linter.unusedSimpArgs false

/-! ### spec_l04Has: function 14 -/
def spec_l04Has.f (a0_0 : Int) (a0_1 : Int) (a0_2 : Int) (a1 : Int) : Option (Bool) := (spec_MazeOk.f a0_0 a0_1 a0_2).bind fun t502 => (if t502 = true then ((spec_CountCells.f a0_0 a0_1).bind fun t503 => ((spec_l01In.f a1 0 (wrap64 (t503 - 1))).bind fun t504 => (some t504))) else (some false))
set_option maxHeartbeats 8000000 in
set_option maxRecDepth 100000 in
theorem spec_l04Has.calls (a0_0 : Int) (a0_1 : Int) (a0_2 : Int) (a1 : Int) (r : Bool) (w : World) (h : spec_l04Has.f a0_0 a0_1 a0_2 a1 = some r) :
  Calls Tryd.prog 14 #[.agg #[.int .i64 a0_0, .int .i64 a0_1, .int .i64 a0_2], .int .i64 a1] w fun e w' => e = .returned (.bool r) ∧ Below w.heap.size w w' := by
 have hu30 := Tryd.underlying30
 have hu28 := Tryd.underlying28
 have HB := Aside0.mk (Below.refl w.heap.size w)
 have H : ((spec_MazeOk.f a0_0 a0_1 a0_2).bind fun t502 => (if t502 = true then ((spec_CountCells.f a0_0 a0_1).bind fun t503 => ((spec_l01In.f a1 0 (wrap64 (t503 - 1))).bind fun t504 => (some t504))) else (some false))) = some r := h
 clear h
 replace H := Option.bind_eq_some_iff.mp H
 obtain ⟨t502, A30, H⟩ := H
 replace H : (if t502 = true then ((spec_CountCells.f a0_0 a0_1).bind fun t503 => ((spec_l01In.f a1 0 (wrap64 (t503 - 1))).bind fun t504 => (some t504))) else (some false)) = some r := H
 have A3 := Aside0.mk A30
 clear A30
 by_cases c4 : t502 = true
 ·subst c4
  have H1 : ((spec_CountCells.f a0_0 a0_1).bind fun t503 => ((spec_l01In.f a1 0 (wrap64 (t503 - 1))).bind fun t504 => (some t504))) = some r := by rw [if_pos rfl] at H; exact H
  clear H
  have H := H1
  clear H1
  replace H := Option.bind_eq_some_iff.mp H
  obtain ⟨t503, A50, H⟩ := H
  replace H : ((spec_l01In.f a1 0 (wrap64 (t503 - 1))).bind fun t504 => (some t504)) = some r := H
  have A5 := Aside0.mk A50
  clear A50
  replace H := Option.bind_eq_some_iff.mp H
  obtain ⟨t504, A60, H⟩ := H
  replace H : (some t504) = some r := H
  have A6 := Aside0.mk A60
  clear A60
  obtain rfl := Option.some.inj H
  go_enter Tryd.func14, Tryd.ntmps14
  go_wp2_with (first | (refine box_ (N := 2) (cs := #[.int .i64 a0_0, .int .i64 a0_1, .int .i64 a0_2]) (t := 30) ?_; intro gb501 hg w7 hbox hb; have BK501 := Aside0.mk (hbox); have GW501 := HB.g0 hg; have GE501 := HB.g0 hg; replace HB := HB.s0 hb; clear hb hbox hg; obtain ⟨hcz8_0, hcz8_1, hcz8_2⟩ := cz3_ BK501.out; obtain ⟨hfz8_0, hfz8_1, hfz8_2⟩ := fz3_ BK501.out) | (refine gl_ 6 Tryd.func16 #[.agg #[.int .i64 a0_0, .int .i64 a0_1, .int .i64 a0_2]] ?_; (with_reducible refine (spec_MazeOk.calls a0_0 a0_1 a0_2 true _ A3.out).mono ?_); rintro e w9 ⟨rfl, hb⟩; refine ⟨_, rfl, ?_⟩; replace BK501 := BK501.bb hb; replace HB := HB.s1 GE501 hb; (try clear hb); obtain ⟨hcz10_0, hcz10_1, hcz10_2⟩ := cz3_ BK501.out; obtain ⟨hfz10_0, hfz10_1, hfz10_2⟩ := fz3_ BK501.out) | (go_at_call 10; (with_reducible refine (spec_CountCells.calls a0_0 a0_1 t503 _ A5.out).mono ?_); rintro e w11 ⟨rfl, hb⟩; replace BK501 := BK501.bb hb; replace HB := HB.s1 GE501 hb; (try clear hb)) | (go_at_call 25; (with_reducible refine (spec_l01In.calls a1 0 (wrap64 (t503 - 1)) t504 _ A6.out).mono ?_); rintro e w' ⟨rfl, ⟨nd, rfl⟩⟩))
  go_ret
  exact ⟨ex_, hb1_ HB.out GE501.out⟩
 ·replace c4 := Bool.eq_false_iff.mpr c4
  subst c4
  have H1 : (some false) = some r := by rw [if_neg (show ¬ (false = true) by decide)] at H; exact H
  clear H
  have H := H1
  clear H1
  obtain rfl := Option.some.inj H
  go_enter Tryd.func14, Tryd.ntmps14
  go_wp2_with (first | (refine box_ (N := 2) (cs := #[.int .i64 a0_0, .int .i64 a0_1, .int .i64 a0_2]) (t := 30) ?_; intro gb501 hg w12 hbox hb; have BK501 := Aside0.mk (hbox); have GW501 := HB.g0 hg; have GE501 := HB.g0 hg; replace HB := HB.s0 hb; clear hb hbox hg; obtain ⟨hcz13_0, hcz13_1, hcz13_2⟩ := cz3_ BK501.out; obtain ⟨hfz13_0, hfz13_1, hfz13_2⟩ := fz3_ BK501.out) | (refine gl_ 6 Tryd.func16 #[.agg #[.int .i64 a0_0, .int .i64 a0_1, .int .i64 a0_2]] ?_; (with_reducible refine (spec_MazeOk.calls a0_0 a0_1 a0_2 false _ A3.out).mono ?_); rintro e w14 ⟨rfl, hb⟩; refine ⟨_, rfl, ?_⟩; replace BK501 := BK501.bb hb; replace HB := HB.s1 GE501 hb; (try clear hb)))
  go_ret
  exact ⟨ex_, hb1_ HB.out GE501.out⟩

/-! ### impl_isIn_1: function 41 (by hand) -/
def isCellB (a0 a1 c : Int) : Bool := (impl_isCell.f a0 a1 c).getD false
theorem isCellB_eq (a0 a1 c : Int) : impl_isCell.f a0 a1 c = some (isCellB a0 a1 c) := by
 unfold isCellB
 cases e : impl_isCell.f a0 a1 c with
 | some b => rfl
 | none =>
  exfalso
  revert e
  unfold impl_isCell.f impl_CountCells.f impl_GridOk.f
  repeat' split
  all_goals simp
  all_goals (repeat' split)
  all_goals simp
set_option maxHeartbeats 1000000 in
theorem impl_isIn_1.calls (B : Nat) (a0 a1 a2 x : Int) (w : World) (h0 : w.cell? ⟨B, 0, none⟩ = some (.int .i64 a0)) (h1 : w.cell? ⟨B, 1, none⟩ = some (.int .i64 a1)) :
  Calls Tryd.prog 41 #[.int .i64 x, .pointer (some ⟨B, 0, none⟩)] w fun e w' => e = .returned (.bool (!isCellB a0 a1 x)) ∧ Below w.heap.size w w' := by
 have hu := Tryd.underlying30
 have hu2 := Tryd.underlying28
 have HE := Aside0.mk (isCellB_eq a0 a1 x)
 go_enter Tryd.func41, Tryd.ntmps41
 go_wp2_with (go_at_call 42; refine (impl_isCell.calls a0 a1 x _ _ HE.out).mono ?_; rintro e w' ⟨rfl, hb⟩)
 go_ret
 exact ⟨rfl, hb⟩

/-! ### impl_isIn: function 28 (by hand) -/
def impl_isIn.f (a0_0 : Int) (a0_1 : Int) (a0_2 : Int) (l1 : List Int) : Option Bool := (impl_MazeOk.f a0_0 a0_1 a0_2).bind fun t => if t = true then some (!(l1.any fun c => !isCellB a0_0 a0_1 c)) else some false
set_option maxHeartbeats 2000000 in
theorem impl_isIn.calls (a0_0 : Int) (a0_1 : Int) (a0_2 : Int) (A1 : Option Addr) (c1 : Nat) (l1 : List Int) (r : Bool) (w : World) (hr1 : Kd.C (Kd.int .i64) w A1 l1.length l1) (hc1 : l1.length ≤ c1) (h : impl_isIn.f a0_0 a0_1 a0_2 l1 = some r) :
  Calls Tryd.prog 28 #[.agg #[.int .i64 a0_0, .int .i64 a0_1, .int .i64 a0_2], .slice A1 l1.length c1] w fun e w' => e = .returned (.bool r) ∧ Below w.heap.size w w' := by
 have hu := Tryd.underlying30
 have HR := Aside0.mk hr1
 have HB := Aside0.mk (Below.refl w.heap.size w)
 have eg : ∀ args w, (callFunc 41 args).run Tryd.prog w = .ok (.enter 41 args) w := enters_of Tryd.func41 (by kernel_rfl) rfl
 clear hr1 hc1
 obtain ⟨t, ht, H⟩ := Option.bind_eq_some_iff.mp h
 have HT := Aside0.mk ht
 clear h ht
 cases t with
 | false =>
  obtain rfl := Option.some.inj H
  clear H
  go_enter Tryd.func28, Tryd.ntmps28
  go_wp2_with (go_at_call 39; refine (impl_MazeOk.calls a0_0 a0_1 a0_2 false _ HT.out).mono ?_; rintro e w1 ⟨rfl, hb⟩)
  go_ret
  exact ⟨rfl, below_step (below_alloc HB.out _) hb⟩
 | true =>
  obtain rfl := Option.some.inj H
  clear H
  go_enter Tryd.func28, Tryd.ntmps28
  go_wp2_with (first | (go_at_call 39; refine (impl_MazeOk.calls a0_0 a0_1 a0_2 true _ HT.out).mono ?_; rintro e w1 ⟨rfl, hb⟩; have HB1 := Aside0.mk hb; clear hb) | (go_at_call 40; refine (slices_ContainsFunc.gen (fun c => !isCellB a0_0 a0_1 c) 41 _ eg A1 c1 l1 _ ?c1 ?c2).mono ?c3))
  case c1 => exact Kd.C_below (Kd.C_alloc HR.out _) HB1.out
  case c2 =>
   intro W x hW hx
   have b0 := heap_alloc_new w (.cells #[.int .i64 a0_0, .int .i64 a0_1, .int .i64 a0_2] 30)
   have b1 := blk_below b0 HB1.out
   have b2 := blk_below b1 hW
   refine (impl_isIn_1.calls w.heap.size a0_0 a0_1 a0_2 x W ((blk_cell b2 0).trans rfl) ((blk_cell b2 1).trans rfl)).mono ?_
   rintro e w' ⟨rfl, hb⟩
   exact ⟨rfl, below_step hW hb⟩
  case c3 =>
   rintro e w2 ⟨rfl, hb2⟩
   go_wp2
   go_ret
   exact ⟨rfl, below_step (below_step (below_alloc HB.out _) HB1.out) hb2⟩

end Go.Proofs.YtgnnkjgfkdaddaaDoor.X
