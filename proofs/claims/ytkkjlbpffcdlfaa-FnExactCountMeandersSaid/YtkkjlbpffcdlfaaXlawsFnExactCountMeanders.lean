-- Written by a program of this session (xprint.py), out of the translation and of hand-written contracts. Lean checks it.
import Derived.Test.YtkkjlbpffcdlfaaX0
import Derived.Test.YtkkjlbpffcdlfaaXimplCountMeanders
import Derived.Test.YtkkjlbpffcdlfaaXspecCountMeanders
namespace Go.Proofs.Ytkkjlbpffcdlfaa.X
open Go.RowKit Go.Proofs.YtkkjlbpffcdlfaaW.PrintWords Go.Proofs.YtkkjlbpffcdlfaaW.PrintLast Go.Proofs.YtkkjlbpffcdlfaaW.PrintMore
attribute [local go_sem] max2_int min2_int max_two min_two max_three min_three max_four min_four   -- for this text's walks alone
set_option linter.unusedVariables false
set_option linter.unusedSimpArgs false

/-! ### laws_FnExactCountMeanders: function 5 -/
def laws_FnExactCountMeanders.f (k : Nat) (a0 : Int) : Option (Bool) := (spec_CountMeanders.f k a0).bind fun t501 => ((impl_CountMeanders.f k a0).bind fun t502 => (if t502 = t501 then (some true) else (some false)))
theorem laws_FnExactCountMeanders.mono : ∀ a0 k, LeO (laws_FnExactCountMeanders.f k a0) (laws_FnExactCountMeanders.f (k + 1) a0) := by
 intro a0 k
 unfold laws_FnExactCountMeanders.f
 repeat' first
   | (with_reducible exact impl_CountMeanders.mono ..)
   | (with_reducible exact spec_CountMeanders.mono ..)
   | (with_reducible first | exact lr_ _ | exact ln_ _ | refine li_ ?_ ?_ | refine lb_ ?_ fun _ => ?_)
   | exact impl_CountMeanders.mono ..
   | exact spec_CountMeanders.mono ..
   | exact ln_ _ | refine li_ ?_ ?_ | refine lb_ ?_ fun _ => ?_
set_option maxHeartbeats 8000000 in
set_option maxRecDepth 100000 in
theorem laws_FnExactCountMeanders.calls (k : Nat) (a0 : Int) (r : Bool) (w : World) (h : laws_FnExactCountMeanders.f k a0 = some r) :
  Calls Try.prog 5 #[.int .i64 a0] w fun e w' => e = .returned (.bool r) ∧ Below w.heap.size w w' := by
 have HB := Aside0.mk (Below.refl w.heap.size w)
 have H : ((spec_CountMeanders.f k a0).bind fun t501 => ((impl_CountMeanders.f k a0).bind fun t502 => (if t502 = t501 then (some true) else (some false)))) = some r := h
 clear h
 replace H := Option.bind_eq_some_iff.mp H
 obtain ⟨t501, A20, H⟩ := H
 replace H : ((impl_CountMeanders.f k a0).bind fun t502 => (if t502 = t501 then (some true) else (some false))) = some r := H
 have A2 := Aside0.mk A20
 clear A20
 replace H := Option.bind_eq_some_iff.mp H
 obtain ⟨t502, A30, H⟩ := H
 replace H : (if t502 = t501 then (some true) else (some false)) = some r := H
 have A3 := Aside0.mk A30
 clear A30
 by_cases c4 : t502 = t501
 ·rw [if_pos c4] at H
  have c4b0 : (t502 == t501) = true := beq_iff_eq.mpr c4
  have c4b1 : (t502 != t501) = false := bne_eq_false_iff_eq.mpr c4
  clear c4
  obtain rfl := Option.some.inj H
  go_enter Try.func5, Try.ntmps5
  go_wp2_with ((with_reducible refine gw_ ?_); first | (refine gl_ 6 Try.func17 #[.int .i64 a0] ?_; (with_reducible refine (spec_CountMeanders.calls k a0 t501 _ A2.out).mono ?_); rintro e w5 ⟨rfl, hb⟩; refine ⟨_, rfl, ?_⟩; replace HB := HB.s0 hb; (try clear hb)) | (refine gl_ 8 Try.func18 #[.int .i64 a0] ?_; (with_reducible refine (impl_CountMeanders.calls k a0 t502 _ A3.out).mono ?_); rintro e w6 ⟨rfl, hb⟩; refine ⟨_, rfl, ?_⟩; replace HB := HB.s0 hb; (try clear hb)))
  go_ret
  exact ⟨ex_, hb0_ HB.out⟩
 ·rw [if_neg c4] at H
  have c4b0 : (t502 == t501) = false := beq_eq_false_iff_ne.mpr c4
  have c4b1 : (t502 != t501) = true := bne_iff_ne.mpr c4
  obtain rfl := Option.some.inj H
  go_enter Try.func5, Try.ntmps5
  go_wp2_with ((with_reducible refine gw_ ?_); first | (refine gl_ 6 Try.func17 #[.int .i64 a0] ?_; (with_reducible refine (spec_CountMeanders.calls k a0 t501 _ A2.out).mono ?_); rintro e w7 ⟨rfl, hb⟩; refine ⟨_, rfl, ?_⟩; replace HB := HB.s0 hb; (try clear hb)) | (refine gl_ 8 Try.func18 #[.int .i64 a0] ?_; (with_reducible refine (impl_CountMeanders.calls k a0 t502 _ A3.out).mono ?_); rintro e w8 ⟨rfl, hb⟩; refine ⟨_, rfl, ?_⟩; replace HB := HB.s0 hb; (try clear hb)))
  go_ret
  exact ⟨ex_, hb0_ HB.out⟩

/-- THE ONE PURE STATEMENT of laws_FnExactCountMeanders: yours. -/
def laws_FnExactCountMeanders.Pure : Prop := ∀ (a0 : Int), (Lit.int .i64 a0).wf = true → ∃ k, laws_FnExactCountMeanders.f k a0 = some true
theorem laws_FnExactCountMeanders.walk (P : laws_FnExactCountMeanders.Pure) (a0 : Int) (w : World) (w0 : (Lit.int .i64 a0).wf = true) :
  Calls Try.prog 5 #[.int .i64 a0] w fun e w' => e = .returned (.bool true) ∧ Below w.heap.size w w' := by
 obtain ⟨k, h⟩ := P a0 w0
 refine (laws_FnExactCountMeanders.calls k a0 true w h).mono ?_
 rintro e w' ⟨rfl, hd⟩
 exact ⟨rfl, hd⟩

end Go.Proofs.Ytkkjlbpffcdlfaa.X
