-- Written by a program of this session (xprint.py), out of the translation and of hand-written contracts. Lean checks it.
import Derived.Test.YtmcllgonjlapoaaX0
import Derived.Test.YtmcllgonjlapoaaXcgrid
import Derived.Test.YtmcllgonjlapoaaXchof
namespace Go.Proofs.Ytmcllgonjlapoaa.X
open Go.RowKit Go.Proofs.YtmcllgonjlapoaaW.PrintWords Go.Proofs.YtmcllgonjlapoaaW.PrintLast Go.Proofs.YtmcllgonjlapoaaW.PrintMore
attribute [local go_sem] max2_int min2_int max_two min_two max_three min_three max_four min_four   -- for this text's walks alone
set_option linter.unusedVariables false
set_option linter.unusedSimpArgs false

/-! ### spec_l26Turns: function 75 -/
def spec_l26Turns.l0 : Nat → List Int → Int → Option (Bool)
 | 0, _, _ => none
 | k + 1, x0, x3 => if x3 < (x0.length : Int) then (if 0 ≤ x3 then ((spec_l01In.f (rd x0 x3) 0 3).bind fun t502 => (if t502 = true then (spec_l26Turns.l0 k x0 (wrap64 (x3 + 1))) else (some false))) else (none)) else (some (decide ((x0.length : Int) ≤ 400)))
def spec_l26Turns.f (k : Nat) (l0 : List Int) : Option (Bool) := spec_l26Turns.l0 k l0 0
theorem spec_l26Turns.mono_l : ∀ k, (∀ y0 y1, LeO (spec_l26Turns.l0 k y0 y1) (spec_l26Turns.l0 (k + 1) y0 y1))
 | 0 => fun _ _ r h => by simp [spec_l26Turns.l0] at h
 | k + 1 => by
  have ih0 := spec_l26Turns.mono_l k
  ·intro y0 y1
   unfold spec_l26Turns.l0
   repeat' first
   | (with_reducible exact ih0 ..)
   | (with_reducible first | exact lr_ _ | exact ln_ _ | refine li_ ?_ ?_ | refine lb_ ?_ fun _ => ?_)
   | exact ih0 ..
   | exact ln_ _ | refine li_ ?_ ?_ | refine lb_ ?_ fun _ => ?_
theorem spec_l26Turns.mono : ∀ a0 k, LeO (spec_l26Turns.f k a0) (spec_l26Turns.f (k + 1) a0) := by
 intro a0 k
 have ih0 := spec_l26Turns.mono_l k
 unfold spec_l26Turns.f
 repeat' first
   | (with_reducible exact ih0 ..)
   | (with_reducible first | exact lr_ _ | exact ln_ _ | refine li_ ?_ ?_ | refine lb_ ?_ fun _ => ?_)
   | exact ih0 ..
   | exact ln_ _ | refine li_ ?_ ?_ | refine lb_ ?_ fun _ => ?_
set_option maxHeartbeats 8000000 in
set_option maxRecDepth 100000 in
theorem spec_l26Turns.calls (k : Nat) (A0 : Option Addr) (c0 : Nat) (l0 : List Int) (r : Bool) (w : World) (hr0 : Kd.C (Kd.int .i64) w A0 l0.length l0) (hc0 : l0.length ≤ c0) (h : spec_l26Turns.f k l0 = some r) :
  Calls Try.prog 75 #[.slice A0 l0.length c0] w fun e w' => e = .returned (.bool r) ∧ Drawn0 w w' := by
 have HR0 := Aside0.mk hr0
 have HC0 := Aside0.mk hc0
 clear hr0 hc0
 have H : (spec_l26Turns.l0 k l0 0) = some r := h
 clear h
 have H' := Aside0.mk H
 clear H
 go_enter Try.func75, Try.ntmps75
 go_wp2
 go_loopg [3] k (fun kq v3 w' => ∃ (x3_1 : Int), v3 = .int .i64 x3_1 ∧ Aside0 (spec_l26Turns.l0 kq l0 x3_1 = some r) ∧ Aside0 (kq ≤ k) ∧ Drawn0 w w')
 case atStart => exact ⟨(0), (by first | rfl | (simp; done) | (simp [*]; done)), H', ⟨Nat.le_refl _⟩, dr_⟩
 case round =>
  clear H'
  obtain ⟨x3_1, rfl, HA, HK1, ⟨m1, rfl⟩⟩ := hrel
  cases gk with
  | zero => exact absurd HA.out (by simp [spec_l26Turns.l0])
  | succ k1 =>
   have H := HA.out
   clear HA
   simp only [spec_l26Turns.l0] at H
   by_cases c2 : x3_1 < (l0.length : Int)
   ·rw [if_pos c2] at H
    have c2b0 : decide (x3_1 < (l0.length : Int)) = true := decide_eq_true c2
    clear c2
    by_cases c3 : 0 ≤ x3_1
    ·rw [if_pos c3] at H
     have c3b0 : decide (0 ≤ x3_1) = true := decide_eq_true c3
     clear c3
     replace H := Option.bind_eq_some_iff.mp H
     obtain ⟨t502, A40, H⟩ := H
     replace H : (if t502 = true then (spec_l26Turns.l0 k1 l0 (wrap64 (x3_1 + 1))) else (some false)) = some r := H
     have A4 := Aside0.mk A40
     clear A40
     by_cases c5 : t502 = true
     ·subst c5
      have H1 : (spec_l26Turns.l0 k1 l0 (wrap64 (x3_1 + 1))) = some r := by rw [if_pos rfl] at H; exact H
      clear H
      have H := H1
      clear H1
      have H' := Aside0.mk H
      clear H
      have p501 : 0 ≤ (x3_1 : Int) := of_decide_eq_true (as_)
      have q501 : x3_1 < (l0.length : Int) := of_decide_eq_true (as_)
      obtain ⟨ad501, e501, hx501_0⟩ := Kd.at_int HR0.out x3_1 p501 q501
      cases e501
      replace p501 := eq_true p501
      replace q501 := eq_true q501
      go_wp2_with (first | (refine gl_ 14 Try.func55 #[.int .i64 (rd l0 x3_1), .int .i64 0, .int .i64 3] ?_; (with_reducible refine (spec_l01In.calls (rd l0 x3_1) 0 3 true _ A4.out).mono ?_); rintro e w' ⟨rfl, ⟨nd, rfl⟩⟩; refine ⟨_, rfl, ?_⟩))
      go_roundg k1
      case measure => have := HK1.out; omega
      case rel => exact ⟨(wrap64 (x3_1 + 1)), (by first | rfl | (simp; done) | (simp [*]; done)), H', ⟨by have := HK1.out; omega⟩, dr_⟩
     ·replace c5 := Bool.eq_false_iff.mpr c5
      subst c5
      have H1 : (some false) = some r := by rw [if_neg (show ¬ (false = true) by decide)] at H; exact H
      clear H
      have H := H1
      clear H1
      obtain rfl := Option.some.inj H
      have p501 : 0 ≤ (x3_1 : Int) := of_decide_eq_true (as_)
      have q501 : x3_1 < (l0.length : Int) := of_decide_eq_true (as_)
      obtain ⟨ad501, e501, hx501_0⟩ := Kd.at_int HR0.out x3_1 p501 q501
      cases e501
      replace p501 := eq_true p501
      replace q501 := eq_true q501
      go_wp2_with (first | (refine gl_ 14 Try.func55 #[.int .i64 (rd l0 x3_1), .int .i64 0, .int .i64 3] ?_; (with_reducible refine (spec_l01In.calls (rd l0 x3_1) 0 3 false _ A4.out).mono ?_); rintro e w' ⟨rfl, ⟨nd, rfl⟩⟩; refine ⟨_, rfl, ?_⟩))
      go_ret
      exact ⟨by first | rfl | (simp; done) | (simp [*]; done), dr_⟩
    ·rw [if_neg c3] at H
     exact absurd H (by simp)
   ·rw [if_neg c2] at H
    have c2b0 : decide (x3_1 < (l0.length : Int)) = false := decide_eq_false c2
    clear c2
    obtain rfl := Option.some.inj H
    go_wp2
    go_ret
    exact ⟨by first | rfl | (simp; done) | (simp [*]; done), dr_⟩

/-! ### impl_areTurns_1: function 113 (by hand) -/
set_option maxHeartbeats 1000000 in
theorem impl_areTurns_1.calls (x : Int) (w : World) :
  Calls Try.prog 113 #[.int .i64 x] w fun e w' => e = .returned (.bool (decide (x < 0) || decide (x > 3))) ∧ w' = w := by
 by_cases c : x < 0
 ·go_enter Try.func113, Try.ntmps113
  go_wp2
  go_ret
  exact ⟨by simp <;> omega, rfl⟩
 ·by_cases d : 3 < x
  all_goals
   go_enter Try.func113, Try.ntmps113
   go_wp2
   go_ret
   exact ⟨by simp <;> omega, rfl⟩
def contains_areTurns.f (l0 : List Int) : Option Bool := some (l0.any fun x => decide (x < 0) || decide (x > 3))
theorem contains_areTurns.calls (A0 : Option Addr) (c0 : Nat) (l0 : List Int) (r : Bool) (w : World) (hr0 : Kd.C (Kd.int .i64) w A0 l0.length l0) (hc0 : l0.length ≤ c0) (h : contains_areTurns.f l0 = some r) :
  Calls Try.prog 82 #[.slice A0 l0.length c0, .func (.func 113) #[] #[]] w fun e w' => e = .returned (.bool r) ∧ Below w.heap.size w w' := by
 obtain rfl := Option.some.inj h
 refine slices_ContainsFunc.gen (fun x => decide (x < 0) || decide (x > 3)) 113 #[] (enters_of Try.func113 (by kernel_rfl) rfl) A0 c0 l0 w hr0 (fun W x hW hx => ?_)
 refine (impl_areTurns_1.calls x W).mono ?_
 rintro e w' ⟨rfl, rfl⟩
 exact ⟨rfl, hW⟩

/-! ### impl_areTurns: function 98 (by hand) -/
def impl_areTurns.f (l0 : List Int) (a1 : Int) : Option Bool := if (l0.length : Int) ≤ a1 then ((contains_areTurns.f l0).bind fun t => some (!t)) else some false
set_option maxHeartbeats 1000000 in
theorem impl_areTurns.calls (A0 : Option Addr) (c0 : Nat) (l0 : List Int) (a1 : Int) (r : Bool) (w : World) (hr0 : Kd.C (Kd.int .i64) w A0 l0.length l0) (hc0 : l0.length ≤ c0) (h : impl_areTurns.f l0 a1 = some r) :
  Calls Try.prog 98 #[.slice A0 l0.length c0, .int .i64 a1] w fun e w' => e = .returned (.bool r) ∧ Below w.heap.size w w' := by
 have HR0 := Aside0.mk hr0
 have HC0 := Aside0.mk hc0
 have HB := Aside0.mk (Below.refl w.heap.size w)
 clear hr0 hc0
 unfold impl_areTurns.f at h
 by_cases c3 : (l0.length : Int) ≤ a1
 ·rw [if_pos c3] at h
  have c3b0 : decide ((l0.length : Int) ≤ a1) = true := decide_eq_true c3
  clear c3
  obtain ⟨t, A4, H⟩ := Option.bind_eq_some_iff.mp h
  have A4 := Aside0.mk A4
  clear h
  obtain rfl := Option.some.inj H
  clear H
  go_enter Try.func98, Try.ntmps98
  go_wp2_with (go_at_call 82; (with_reducible refine (contains_areTurns.calls _ _ l0 t _ HR0.out HC0.out A4.out).mono ?_); rintro e w5 ⟨rfl, hb⟩)
  go_ret
  exact ⟨rfl, hb⟩
 ·rw [if_neg c3] at h
  have c3b0 : decide ((l0.length : Int) ≤ a1) = false := decide_eq_false c3
  clear c3
  obtain rfl := Option.some.inj h
  clear h
  go_enter Try.func98, Try.ntmps98
  go_wp2
  go_ret
  exact ⟨rfl, HB.out⟩

end Go.Proofs.Ytmcllgonjlapoaa.X
