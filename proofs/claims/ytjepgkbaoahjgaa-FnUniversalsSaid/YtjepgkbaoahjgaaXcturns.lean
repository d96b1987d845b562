-- Written by a program of this session (xprint.py), out of the translation and of hand-written contracts. Lean checks it.
import Derived.Test.YtjepgkbaoahjgaaX0
import Derived.Test.YtjepgkbaoahjgaaXchof
namespace Go.Proofs.Ytjepgkbaoahjgaa.X
open Go.RowKit Go.Proofs.YtjepgkbaoahjgaaW.PrintWords Go.Proofs.YtjepgkbaoahjgaaW.PrintLast Go.Proofs.YtjepgkbaoahjgaaW.PrintMore
attribute [local go_sem] max2_int min2_int max_two min_two max_three min_three max_four min_four   -- for this text's walks alone
set_option linter.unusedVariables false
set_option linter.unusedSimpArgs false

/-! ### impl_areTurns_1: function 45 (by hand) -/
set_option maxHeartbeats 1000000 in
theorem impl_areTurns_1.calls (x : Int) (w : World) :
  Calls Try.prog 45 #[.int .i64 x] w fun e w' => e = .returned (.bool (decide (x < 0) || decide (x > 3))) ∧ w' = w := by
 by_cases c : x < 0
 ·go_enter Try.func45, Try.ntmps45
  go_wp2
  go_ret
  exact ⟨by simp <;> omega, rfl⟩
 ·by_cases d : 3 < x
  all_goals
   go_enter Try.func45, Try.ntmps45
   go_wp2
   go_ret
   exact ⟨by simp <;> omega, rfl⟩
def contains_areTurns.f (l0 : List Int) : Option Bool := some (l0.any fun x => decide (x < 0) || decide (x > 3))
theorem contains_areTurns.calls (A0 : Option Addr) (c0 : Nat) (l0 : List Int) (r : Bool) (w : World) (hr0 : Kd.C (Kd.int .i64) w A0 l0.length l0) (hc0 : l0.length ≤ c0) (h : contains_areTurns.f l0 = some r) :
  Calls Try.prog 40 #[.slice A0 l0.length c0, .func (.func 45) #[] #[]] w fun e w' => e = .returned (.bool r) ∧ Below w.heap.size w w' := by
 obtain rfl := Option.some.inj h
 refine slices_ContainsFunc.gen (fun x => decide (x < 0) || decide (x > 3)) 45 #[] (enters_of Try.func45 (by kernel_rfl) rfl) A0 c0 l0 w hr0 (fun W x hW hx => ?_)
 refine (impl_areTurns_1.calls x W).mono ?_
 rintro e w' ⟨rfl, rfl⟩
 exact ⟨rfl, hW⟩

/-! ### impl_areTurns: function 27 (by hand) -/
def impl_areTurns.f (l0 : List Int) (a1 : Int) : Option Bool := if (l0.length : Int) ≤ a1 then ((contains_areTurns.f l0).bind fun t => some (!t)) else some false
set_option maxHeartbeats 1000000 in
theorem impl_areTurns.calls (A0 : Option Addr) (c0 : Nat) (l0 : List Int) (a1 : Int) (r : Bool) (w : World) (hr0 : Kd.C (Kd.int .i64) w A0 l0.length l0) (hc0 : l0.length ≤ c0) (h : impl_areTurns.f l0 a1 = some r) :
  Calls Try.prog 27 #[.slice A0 l0.length c0, .int .i64 a1] w fun e w' => e = .returned (.bool r) ∧ Below w.heap.size w w' := by
 have HR0 := Aside0.mk hr0
 have HC0 := Aside0.mk hc0
 have HB := Aside0.mk (Below.refl w.heap.size w)
 clear hr0 hc0
 unfold impl_areTurns.f at h
 by_cases c3 : (l0.length : Int) ≤ a1
 ·rw [if_pos c3] at h
  have c3b0 : decide ((l0.length : Int) ≤ a1) = true := decide_eq_true c3
  clear c3
  obtain ⟨t, A4, H⟩ := Option.bind_eq_some_iff.mp h
  have A4 := Aside0.mk A4
  clear h
  obtain rfl := Option.some.inj H
  clear H
  go_enter Try.func27, Try.ntmps27
  go_wp2_with (go_at_call 40; (with_reducible refine (contains_areTurns.calls _ _ l0 t _ HR0.out HC0.out A4.out).mono ?_); rintro e w5 ⟨rfl, hb⟩)
  go_ret
  exact ⟨rfl, hb⟩
 ·rw [if_neg c3] at h
  have c3b0 : decide ((l0.length : Int) ≤ a1) = false := decide_eq_false c3
  clear c3
  obtain rfl := Option.some.inj h
  clear h
  go_enter Try.func27, Try.ntmps27
  go_wp2
  go_ret
  exact ⟨rfl, HB.out⟩

end Go.Proofs.Ytjepgkbaoahjgaa.X
