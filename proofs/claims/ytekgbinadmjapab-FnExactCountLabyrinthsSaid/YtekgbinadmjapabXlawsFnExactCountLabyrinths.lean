-- Written by a program of this session (xprint.py), out of the translation and of hand-written contracts. Lean checks it.
import Derived.Test.YtekgbinadmjapabX0
import Derived.Test.YtekgbinadmjapabXimplCountLabyrinths
import Derived.Test.YtekgbinadmjapabXspecCountLabyrinths
namespace Go.Proofs.Ytekgbinadmjapab.X
open Go.RowKit Go.Proofs.YtekgbinadmjapabW.PrintWords Go.Proofs.YtekgbinadmjapabW.PrintLast Go.Proofs.YtekgbinadmjapabW.PrintMore
attribute [local go_sem] max2_int min2_int max_two min_two max_three min_three max_four min_four   -- for this text's walks alone
set_option linter.unusedVariables false
set_option linter.unusedSimpArgs false

/-! ### laws_FnExactCountLabyrinths: function 5 -/
def laws_FnExactCountLabyrinths.f (k : Nat) (a0 : Int) : Option (Bool) := (spec_CountLabyrinths.f k a0).bind fun t501 => ((impl_CountLabyrinths.f k a0).bind fun t502 => (if t502 = t501 then (some true) else (some false)))
theorem laws_FnExactCountLabyrinths.mono : ∀ a0 k, LeO (laws_FnExactCountLabyrinths.f k a0) (laws_FnExactCountLabyrinths.f (k + 1) a0) := by
 intro a0 k
 unfold laws_FnExactCountLabyrinths.f
 repeat' first
   | (with_reducible exact impl_CountLabyrinths.mono _ _)
   | (with_reducible exact spec_CountLabyrinths.mono _ _)
   | (with_reducible exact LeO.refl _)
   | (with_reducible exact LeO.none _)
   | (with_reducible refine LeO.ite ?_ ?_)
   | (with_reducible refine LeO.bind ?_ (fun _ => ?_))
   | exact impl_CountLabyrinths.mono _ _
   | exact spec_CountLabyrinths.mono _ _
   | exact LeO.none _
   | refine LeO.ite ?_ ?_
   | refine LeO.bind ?_ (fun _ => ?_)
set_option maxHeartbeats 8000000 in
set_option maxRecDepth 100000 in
theorem laws_FnExactCountLabyrinths.calls (k : Nat) (a0 : Int) (r : Bool) (w : World) (h : laws_FnExactCountLabyrinths.f k a0 = some r) :
  Calls Try.prog 5 #[.int .i64 a0] w fun e w' => e = .returned (.bool r) ∧ Below w.heap.size w w' := by
 have HB := Aside0.mk (Below.refl w.heap.size w)
 have H : ((spec_CountLabyrinths.f k a0).bind fun t501 => ((impl_CountLabyrinths.f k a0).bind fun t502 => (if t502 = t501 then (some true) else (some false)))) = some r := h
 clear h
 replace H := Option.bind_eq_some_iff.mp H
 obtain ⟨t501, A20, H⟩ := H
 replace H : ((impl_CountLabyrinths.f k a0).bind fun t502 => (if t502 = t501 then (some true) else (some false))) = some r := H
 have A2 := Aside0.mk A20
 clear A20
 replace H := Option.bind_eq_some_iff.mp H
 obtain ⟨t502, A30, H⟩ := H
 replace H : (if t502 = t501 then (some true) else (some false)) = some r := H
 have A3 := Aside0.mk A30
 clear A30
 by_cases c4 : t502 = t501
 ·rw [if_pos c4] at H
  have c4b0 : (t502 == t501) = true := beq_iff_eq.mpr c4
  have c4b1 : (t502 != t501) = false := bne_eq_false_iff_eq.mpr c4
  clear c4
  obtain rfl := Option.some.inj H
  go_enter Try.func5, Try.ntmps5
  go_wp2_with (first | ((with_reducible refine gate_callee (f := 20) rfl ?_); refine goesL_ (some 6) rfl rfl Try.func20 (by kernel_rfl) rfl #[.int .i64 a0] rfl (ml_) ?_; (with_reducible refine (spec_CountLabyrinths.calls k a0 t501 _ A2.out).mono ?_); rintro e w5 ⟨rfl, hb⟩; refine ⟨_, rfl, ?_⟩; replace HB := Aside0.mk (below_step (hb0_ HB.out) hb); (try clear hb); (try clear hb2); (try clear hk); (try clear hi)) | ((with_reducible refine gate_callee (f := 21) rfl ?_); refine goesL_ (some 8) rfl rfl Try.func21 (by kernel_rfl) rfl #[.int .i64 a0] rfl (ml_) ?_; (with_reducible refine (impl_CountLabyrinths.calls k a0 t502 _ A3.out).mono ?_); rintro e w6 ⟨rfl, hb⟩; refine ⟨_, rfl, ?_⟩; replace HB := Aside0.mk (below_step (hb0_ HB.out) hb); (try clear hb); (try clear hb2); (try clear hk); (try clear hi)))
  go_ret
  exact ⟨by first | rfl | (simp [errW_none, errW_some] <;> rfl) | (simp [*, errW_none, errW_some] <;> rfl), hb0_ HB.out⟩
 ·rw [if_neg c4] at H
  have c4b0 : (t502 == t501) = false := beq_eq_false_iff_ne.mpr c4
  have c4b1 : (t502 != t501) = true := bne_iff_ne.mpr c4
  obtain rfl := Option.some.inj H
  go_enter Try.func5, Try.ntmps5
  go_wp2_with (first | ((with_reducible refine gate_callee (f := 20) rfl ?_); refine goesL_ (some 6) rfl rfl Try.func20 (by kernel_rfl) rfl #[.int .i64 a0] rfl (ml_) ?_; (with_reducible refine (spec_CountLabyrinths.calls k a0 t501 _ A2.out).mono ?_); rintro e w7 ⟨rfl, hb⟩; refine ⟨_, rfl, ?_⟩; replace HB := Aside0.mk (below_step (hb0_ HB.out) hb); (try clear hb); (try clear hb2); (try clear hk); (try clear hi)) | ((with_reducible refine gate_callee (f := 21) rfl ?_); refine goesL_ (some 8) rfl rfl Try.func21 (by kernel_rfl) rfl #[.int .i64 a0] rfl (ml_) ?_; (with_reducible refine (impl_CountLabyrinths.calls k a0 t502 _ A3.out).mono ?_); rintro e w8 ⟨rfl, hb⟩; refine ⟨_, rfl, ?_⟩; replace HB := Aside0.mk (below_step (hb0_ HB.out) hb); (try clear hb); (try clear hb2); (try clear hk); (try clear hi)))
  go_ret
  exact ⟨by first | rfl | (simp [errW_none, errW_some] <;> rfl) | (simp [*, errW_none, errW_some] <;> rfl), hb0_ HB.out⟩

/-- THE ONE PURE STATEMENT of laws_FnExactCountLabyrinths: yours. -/
def laws_FnExactCountLabyrinths.Pure : Prop := ∀ (a0 : Int), (Lit.int .i64 a0).wf = true → ∃ k, laws_FnExactCountLabyrinths.f k a0 = some true
theorem laws_FnExactCountLabyrinths.walk (P : laws_FnExactCountLabyrinths.Pure) (a0 : Int) (w : World) (w0 : (Lit.int .i64 a0).wf = true) :
  Calls Try.prog 5 #[.int .i64 a0] w fun e w' => e = .returned (.bool true) ∧ Below w.heap.size w w' := by
 obtain ⟨k, h⟩ := P a0 w0
 refine (laws_FnExactCountLabyrinths.calls k a0 true w h).mono ?_
 rintro e w' ⟨rfl, hd⟩
 exact ⟨rfl, hd⟩

end Go.Proofs.Ytekgbinadmjapab.X
