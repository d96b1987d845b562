-- Written by a program of this session (xprint.py), out of the translation and of hand-written contracts. Lean checks it.
import Derived.Test.YtmcllgonjlapoaaX0
import Derived.Test.YtmcllgonjlapoaaXcto
import Derived.Test.YtmcllgonjlapoaaXimplSeesEach
import Derived.Test.YtmcllgonjlapoaaXspecSeesEach
namespace Go.Proofs.Ytmcllgonjlapoaa.X
open Go.RowKit Go.Proofs.YtmcllgonjlapoaaW.PrintWords Go.Proofs.YtmcllgonjlapoaaW.PrintLast Go.Proofs.YtmcllgonjlapoaaW.PrintMore
attribute [local go_sem] max2_int min2_int max_two min_two max_three min_three max_four min_four   -- for this text's walks alone
set_option linter.unusedVariables false
set_option linter.unusedSimpArgs false

/-! ### laws_FnExactSeesEach: function 7 -/
def laws_FnExactSeesEach.f (k : Nat) (a0_0 : Int) (a0_1 : Int) (a0_2 : Int) (a1 : Int) (a2 : Int) : Option (Bool) := (laws_toMaze.f a0_0 a0_1 a0_2).bind fun bt502 => ((spec_SeesEach.f k bt502.1 bt502.2.1 bt502.2.2 a1 a2).bind fun t505 => ((laws_toMaze.f a0_0 a0_1 a0_2).bind fun bt506 => ((impl_SeesEach.f k bt506.1 bt506.2.1 bt506.2.2 a1 a2).bind fun t509 => (if (t509 != t505) = true then (some false) else (some true)))))
theorem laws_FnExactSeesEach.mono : ∀ a0 a1 a2 a3 a4 k, LeO (laws_FnExactSeesEach.f k a0 a1 a2 a3 a4) (laws_FnExactSeesEach.f (k + 1) a0 a1 a2 a3 a4) := by
 intro a0 a1 a2 a3 a4 k
 unfold laws_FnExactSeesEach.f
 repeat' first
   | (with_reducible exact impl_SeesEach.mono ..)
   | (with_reducible exact spec_SeesEach.mono ..)
   | (with_reducible first | exact lr_ _ | exact ln_ _ | refine li_ ?_ ?_ | refine lb_ ?_ fun _ => ?_)
   | exact impl_SeesEach.mono ..
   | exact spec_SeesEach.mono ..
   | exact ln_ _ | refine li_ ?_ ?_ | refine lb_ ?_ fun _ => ?_
set_option maxHeartbeats 8000000 in
set_option maxRecDepth 100000 in
theorem laws_FnExactSeesEach.calls (k : Nat) (a0_0 : Int) (a0_1 : Int) (a0_2 : Int) (a1 : Int) (a2 : Int) (r : Bool) (w : World) (h : laws_FnExactSeesEach.f k a0_0 a0_1 a0_2 a1 a2 = some r) :
  Calls Try.prog 7 #[.agg #[.int .i64 a0_0, .int .i64 a0_1, .int .i64 a0_2], .int .i64 a1, .int .i64 a2] w fun e w' => e = .returned (.bool r) ∧ Below w.heap.size w w' := by
 have hu25 := Try.underlying25
 have HB := Aside0.mk (Below.refl w.heap.size w)
 have H : ((laws_toMaze.f a0_0 a0_1 a0_2).bind fun bt502 => ((spec_SeesEach.f k bt502.1 bt502.2.1 bt502.2.2 a1 a2).bind fun t505 => ((laws_toMaze.f a0_0 a0_1 a0_2).bind fun bt506 => ((impl_SeesEach.f k bt506.1 bt506.2.1 bt506.2.2 a1 a2).bind fun t509 => (if (t509 != t505) = true then (some false) else (some true)))))) = some r := h
 clear h
 replace H := Option.bind_eq_some_iff.mp H
 obtain ⟨⟨t502, t503, t504⟩, A40, H⟩ := H
 replace H : ((spec_SeesEach.f k t502 t503 t504 a1 a2).bind fun t505 => ((laws_toMaze.f a0_0 a0_1 a0_2).bind fun bt506 => ((impl_SeesEach.f k bt506.1 bt506.2.1 bt506.2.2 a1 a2).bind fun t509 => (if (t509 != t505) = true then (some false) else (some true))))) = some r := H
 have A4 := Aside0.mk A40
 clear A40
 replace H := Option.bind_eq_some_iff.mp H
 obtain ⟨t505, A50, H⟩ := H
 replace H : ((laws_toMaze.f a0_0 a0_1 a0_2).bind fun bt506 => ((impl_SeesEach.f k bt506.1 bt506.2.1 bt506.2.2 a1 a2).bind fun t509 => (if (t509 != t505) = true then (some false) else (some true)))) = some r := H
 have A5 := Aside0.mk A50
 clear A50
 replace H := Option.bind_eq_some_iff.mp H
 obtain ⟨⟨t506, t507, t508⟩, A60, H⟩ := H
 replace H : ((impl_SeesEach.f k t506 t507 t508 a1 a2).bind fun t509 => (if (t509 != t505) = true then (some false) else (some true))) = some r := H
 have A6 := Aside0.mk A60
 clear A60
 replace H := Option.bind_eq_some_iff.mp H
 obtain ⟨t509, A70, H⟩ := H
 replace H : (if (t509 != t505) = true then (some false) else (some true)) = some r := H
 have A7 := Aside0.mk A70
 clear A70
 by_cases c8 : (t509 != t505) = true
 ·rw [if_pos c8] at H
  have c8b0 : (t509 != t505) = true := c8
  (try (have c8b1 : decide (t509 = t505) = false := by simpa using c8))
  (try (have c8b2 : (t509 == t505) = false := by simpa using c8))
  (try (have c8b3 : ¬ (t509 = t505) := by simpa using c8))
  clear c8
  obtain rfl := Option.some.inj H
  go_enter Try.func7, Try.ntmps7
  go_wp2_with ((with_reducible refine gw_ ?_); first | (refine box_ (N := 3) (cs := #[.int .i64 a0_0, .int .i64 a0_1, .int .i64 a0_2]) (t := 25) ?_; intro gb501 hg w9 hbox hb; have BK501 := Aside0.mk (hbox); have GW501 := HB.g0 hg; have GE501 := HB.g0 hg; replace HB := HB.s0 hb; clear hb hbox hg; obtain ⟨hcz10_0, hcz10_1, hcz10_2⟩ := cz3_ BK501.out; obtain ⟨hfz10_0, hfz10_1, hfz10_2⟩ := fz3_ BK501.out) | (refine gl_ 10 Try.func15 #[.agg #[.int .i64 a0_0, .int .i64 a0_1, .int .i64 a0_2]] ?_; (with_reducible refine (laws_toMaze.calls a0_0 a0_1 a0_2 t502 t503 t504 _ A4.out).mono ?_); rintro e w11 ⟨rfl, hb⟩; refine ⟨_, rfl, ?_⟩; replace BK501 := BK501.bb hb; replace HB := HB.s1 GE501 hb; (try clear hb)) | (refine gl_ 13 Try.func27 #[.agg #[.int .i64 t502, .int .i64 t503, .int .i64 t504], .int .i64 a1, .int .i64 a2] ?_; (with_reducible refine (spec_SeesEach.calls k t502 t503 t504 a1 a2 t505 _ A5.out).mono ?_); rintro e w12 ⟨rfl, hb⟩; refine ⟨_, rfl, ?_⟩; replace BK501 := BK501.bb hb; replace HB := HB.s1 GE501 hb; (try clear hb); obtain ⟨hcz13_0, hcz13_1, hcz13_2⟩ := cz3_ BK501.out; obtain ⟨hfz13_0, hfz13_1, hfz13_2⟩ := fz3_ BK501.out) | (refine gl_ 15 Try.func15 #[.agg #[.int .i64 a0_0, .int .i64 a0_1, .int .i64 a0_2]] ?_; (with_reducible refine (laws_toMaze.calls a0_0 a0_1 a0_2 t506 t507 t508 _ A6.out).mono ?_); rintro e w14 ⟨rfl, hb⟩; refine ⟨_, rfl, ?_⟩; replace BK501 := BK501.bb hb; replace HB := HB.s1 GE501 hb; (try clear hb)) | (refine gl_ 18 Try.func28 #[.agg #[.int .i64 t506, .int .i64 t507, .int .i64 t508], .int .i64 a1, .int .i64 a2] ?_; (with_reducible refine (impl_SeesEach.calls k t506 t507 t508 a1 a2 t509 _ A7.out).mono ?_); rintro e w15 ⟨rfl, hb⟩; refine ⟨_, rfl, ?_⟩; replace BK501 := BK501.bb hb; replace HB := HB.s1 GE501 hb; (try clear hb)))
  go_ret
  exact ⟨ex_, hb1_ HB.out GE501.out⟩
 ·rw [if_neg c8] at H
  have c8b0 : (t509 != t505) = false := by simpa using c8
  (try (have c8b1 : decide (t509 = t505) = true := by simpa using c8))
  (try (have c8b2 : (t509 == t505) = true := by simpa using c8))
  clear c8
  obtain rfl := Option.some.inj H
  go_enter Try.func7, Try.ntmps7
  go_wp2_with ((with_reducible refine gw_ ?_); first | (refine box_ (N := 3) (cs := #[.int .i64 a0_0, .int .i64 a0_1, .int .i64 a0_2]) (t := 25) ?_; intro gb501 hg w16 hbox hb; have BK501 := Aside0.mk (hbox); have GW501 := HB.g0 hg; have GE501 := HB.g0 hg; replace HB := HB.s0 hb; clear hb hbox hg; obtain ⟨hcz17_0, hcz17_1, hcz17_2⟩ := cz3_ BK501.out; obtain ⟨hfz17_0, hfz17_1, hfz17_2⟩ := fz3_ BK501.out) | (refine gl_ 10 Try.func15 #[.agg #[.int .i64 a0_0, .int .i64 a0_1, .int .i64 a0_2]] ?_; (with_reducible refine (laws_toMaze.calls a0_0 a0_1 a0_2 t502 t503 t504 _ A4.out).mono ?_); rintro e w18 ⟨rfl, hb⟩; refine ⟨_, rfl, ?_⟩; replace BK501 := BK501.bb hb; replace HB := HB.s1 GE501 hb; (try clear hb)) | (refine gl_ 13 Try.func27 #[.agg #[.int .i64 t502, .int .i64 t503, .int .i64 t504], .int .i64 a1, .int .i64 a2] ?_; (with_reducible refine (spec_SeesEach.calls k t502 t503 t504 a1 a2 t505 _ A5.out).mono ?_); rintro e w19 ⟨rfl, hb⟩; refine ⟨_, rfl, ?_⟩; replace BK501 := BK501.bb hb; replace HB := HB.s1 GE501 hb; (try clear hb); obtain ⟨hcz20_0, hcz20_1, hcz20_2⟩ := cz3_ BK501.out; obtain ⟨hfz20_0, hfz20_1, hfz20_2⟩ := fz3_ BK501.out) | (refine gl_ 15 Try.func15 #[.agg #[.int .i64 a0_0, .int .i64 a0_1, .int .i64 a0_2]] ?_; (with_reducible refine (laws_toMaze.calls a0_0 a0_1 a0_2 t506 t507 t508 _ A6.out).mono ?_); rintro e w21 ⟨rfl, hb⟩; refine ⟨_, rfl, ?_⟩; replace BK501 := BK501.bb hb; replace HB := HB.s1 GE501 hb; (try clear hb)) | (refine gl_ 18 Try.func28 #[.agg #[.int .i64 t506, .int .i64 t507, .int .i64 t508], .int .i64 a1, .int .i64 a2] ?_; (with_reducible refine (impl_SeesEach.calls k t506 t507 t508 a1 a2 t509 _ A7.out).mono ?_); rintro e w22 ⟨rfl, hb⟩; refine ⟨_, rfl, ?_⟩; replace BK501 := BK501.bb hb; replace HB := HB.s1 GE501 hb; (try clear hb)))
  go_ret
  exact ⟨ex_, hb1_ HB.out GE501.out⟩

/-- THE ONE PURE STATEMENT of laws_FnExactSeesEach: yours. -/
def laws_FnExactSeesEach.Pure : Prop := ∀ (a0_0 : Int) (a0_1 : Int) (a0_2 : Int) (a1 : Int) (a2 : Int), (Lit.int .i64 a0_0).wf = true → (Lit.int .i64 a0_1).wf = true → (Lit.int .i64 a0_2).wf = true → (Lit.int .i64 a1).wf = true → (Lit.int .i64 a2).wf = true → ∃ k, laws_FnExactSeesEach.f k a0_0 a0_1 a0_2 a1 a2 = some true
theorem laws_FnExactSeesEach.walk (P : laws_FnExactSeesEach.Pure) (a0_0 : Int) (a0_1 : Int) (a0_2 : Int) (a1 : Int) (a2 : Int) (w : World) (w0_0 : (Lit.int .i64 a0_0).wf = true) (w0_1 : (Lit.int .i64 a0_1).wf = true) (w0_2 : (Lit.int .i64 a0_2).wf = true) (w1 : (Lit.int .i64 a1).wf = true) (w2 : (Lit.int .i64 a2).wf = true) :
  Calls Try.prog 7 #[.agg #[.int .i64 a0_0, .int .i64 a0_1, .int .i64 a0_2], .int .i64 a1, .int .i64 a2] w fun e w' => e = .returned (.bool true) ∧ Below w.heap.size w w' := by
 obtain ⟨k, h⟩ := P a0_0 a0_1 a0_2 a1 a2 w0_0 w0_1 w0_2 w1 w2
 refine (laws_FnExactSeesEach.calls k a0_0 a0_1 a0_2 a1 a2 true w h).mono ?_
 rintro e w' ⟨rfl, hd⟩
 exact ⟨rfl, hd⟩

end Go.Proofs.Ytmcllgonjlapoaa.X
