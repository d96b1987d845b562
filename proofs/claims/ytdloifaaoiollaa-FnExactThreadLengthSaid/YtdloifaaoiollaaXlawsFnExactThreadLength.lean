-- Written by a program of this session (xprint.py), out of the translation and of hand-written contracts. Lean checks it.
import Derived.Test.YtdloifaaoiollaaX0
import Derived.Test.YtdloifaaoiollaaXcto
import Derived.Test.YtdloifaaoiollaaXimplThreadLength
import Derived.Test.YtdloifaaoiollaaXspecThreadLength
namespace Go.Proofs.Ytdloifaaoiollaa.X
open Go.RowKit Go.Proofs.YtdloifaaoiollaaW.PrintWords Go.Proofs.YtdloifaaoiollaaW.PrintLast Go.Proofs.YtdloifaaoiollaaW.PrintMore
attribute [local go_sem] max2_int min2_int max_two min_two max_three min_three max_four min_four   -- for this text's walks alone
set_option linter.unusedVariables false
set_option linter.unusedSimpArgs false

/-! ### laws_FnExactThreadLength: function 3 -/
def laws_FnExactThreadLength.f (k : Nat) (a0_0 : Int) (a0_1 : Int) (a0_2 : Int) (a1 : Int) : Option (Bool) := (laws_toMaze.f a0_0 a0_1 a0_2).bind fun bt502 => ((spec_ThreadLength.f k bt502.1 bt502.2.1 bt502.2.2 a1).bind fun t505 => ((laws_toMaze.f a0_0 a0_1 a0_2).bind fun bt506 => ((impl_ThreadLength.f k bt506.1 bt506.2.1 bt506.2.2 a1).bind fun t509 => (if t509 = t505 then (some true) else (some false)))))
theorem laws_FnExactThreadLength.mono : ∀ a0 a1 a2 a3 k, LeO (laws_FnExactThreadLength.f k a0 a1 a2 a3) (laws_FnExactThreadLength.f (k + 1) a0 a1 a2 a3) := by
 intro a0 a1 a2 a3 k
 unfold laws_FnExactThreadLength.f
 repeat' first
   | (with_reducible exact impl_ThreadLength.mono _ _ _ _ _)
   | (with_reducible exact spec_ThreadLength.mono _ _ _ _ _)
   | (with_reducible exact LeO.refl _)
   | (with_reducible exact LeO.none _)
   | (with_reducible refine LeO.ite ?_ ?_)
   | (with_reducible refine LeO.bind ?_ (fun _ => ?_))
   | exact impl_ThreadLength.mono _ _ _ _ _
   | exact spec_ThreadLength.mono _ _ _ _ _
   | exact LeO.none _
   | refine LeO.ite ?_ ?_
   | refine LeO.bind ?_ (fun _ => ?_)
set_option maxHeartbeats 8000000 in
set_option maxRecDepth 100000 in
theorem laws_FnExactThreadLength.calls (k : Nat) (a0_0 : Int) (a0_1 : Int) (a0_2 : Int) (a1 : Int) (r : Bool) (w : World) (h : laws_FnExactThreadLength.f k a0_0 a0_1 a0_2 a1 = some r) :
  Calls Try.prog 3 #[.agg #[.int .i64 a0_0, .int .i64 a0_1, .int .i64 a0_2], .int .i64 a1] w fun e w' => e = .returned (.bool r) ∧ Below w.heap.size w w' := by
 have hu25 := Try.underlying25
 have HB := Aside0.mk (Below.refl w.heap.size w)
 have H : ((laws_toMaze.f a0_0 a0_1 a0_2).bind fun bt502 => ((spec_ThreadLength.f k bt502.1 bt502.2.1 bt502.2.2 a1).bind fun t505 => ((laws_toMaze.f a0_0 a0_1 a0_2).bind fun bt506 => ((impl_ThreadLength.f k bt506.1 bt506.2.1 bt506.2.2 a1).bind fun t509 => (if t509 = t505 then (some true) else (some false)))))) = some r := h
 clear h
 replace H := Option.bind_eq_some_iff.mp H
 obtain ⟨⟨t502, t503, t504⟩, A30, H⟩ := H
 replace H : ((spec_ThreadLength.f k t502 t503 t504 a1).bind fun t505 => ((laws_toMaze.f a0_0 a0_1 a0_2).bind fun bt506 => ((impl_ThreadLength.f k bt506.1 bt506.2.1 bt506.2.2 a1).bind fun t509 => (if t509 = t505 then (some true) else (some false))))) = some r := H
 have A3 := Aside0.mk A30
 clear A30
 replace H := Option.bind_eq_some_iff.mp H
 obtain ⟨t505, A40, H⟩ := H
 replace H : ((laws_toMaze.f a0_0 a0_1 a0_2).bind fun bt506 => ((impl_ThreadLength.f k bt506.1 bt506.2.1 bt506.2.2 a1).bind fun t509 => (if t509 = t505 then (some true) else (some false)))) = some r := H
 have A4 := Aside0.mk A40
 clear A40
 replace H := Option.bind_eq_some_iff.mp H
 obtain ⟨⟨t506, t507, t508⟩, A50, H⟩ := H
 replace H : ((impl_ThreadLength.f k t506 t507 t508 a1).bind fun t509 => (if t509 = t505 then (some true) else (some false))) = some r := H
 have A5 := Aside0.mk A50
 clear A50
 replace H := Option.bind_eq_some_iff.mp H
 obtain ⟨t509, A60, H⟩ := H
 replace H : (if t509 = t505 then (some true) else (some false)) = some r := H
 have A6 := Aside0.mk A60
 clear A60
 by_cases c7 : t509 = t505
 ·rw [if_pos c7] at H
  have c7b0 : (t509 == t505) = true := beq_iff_eq.mpr c7
  have c7b1 : (t509 != t505) = false := bne_eq_false_iff_eq.mpr c7
  clear c7
  obtain rfl := Option.some.inj H
  go_enter Try.func3, Try.ntmps3
  go_wp2_with (first | (refine box_ (N := 2) (cs := #[.int .i64 a0_0, .int .i64 a0_1, .int .i64 a0_2]) (t := 25) ?_; intro gb501 hg w8 hbox hb; have BK501 := Aside0.mk (hbox); have GW501 := HB.g0 hg; have GE501 := HB.g0 hg; replace HB := HB.s0 hb; clear hb hbox hg; obtain ⟨hcz9_0, hcz9_1, hcz9_2⟩ := cz3_ BK501.out; obtain ⟨hfz9_0, hfz9_1, hfz9_2⟩ := fz3_ BK501.out) | (refine gl_ 8 Try.func16 #[.agg #[.int .i64 a0_0, .int .i64 a0_1, .int .i64 a0_2]] ?_; (with_reducible refine (laws_toMaze.calls a0_0 a0_1 a0_2 t502 t503 t504 _ A3.out).mono ?_); rintro e w10 ⟨rfl, hb⟩; refine ⟨_, rfl, ?_⟩; replace BK501 := BK501.bb hb; replace HB := HB.s1 GE501 hb; (try clear hb)) | (refine gl_ 10 Try.func15 #[.agg #[.int .i64 t502, .int .i64 t503, .int .i64 t504], .int .i64 a1] ?_; (with_reducible refine (spec_ThreadLength.calls k t502 t503 t504 a1 t505 _ A4.out).mono ?_); rintro e w11 ⟨rfl, hb⟩; refine ⟨_, rfl, ?_⟩; replace BK501 := BK501.bb hb; replace HB := HB.s1 GE501 hb; (try clear hb); obtain ⟨hcz12_0, hcz12_1, hcz12_2⟩ := cz3_ BK501.out; obtain ⟨hfz12_0, hfz12_1, hfz12_2⟩ := fz3_ BK501.out) | (refine gl_ 12 Try.func16 #[.agg #[.int .i64 a0_0, .int .i64 a0_1, .int .i64 a0_2]] ?_; (with_reducible refine (laws_toMaze.calls a0_0 a0_1 a0_2 t506 t507 t508 _ A5.out).mono ?_); rintro e w13 ⟨rfl, hb⟩; refine ⟨_, rfl, ?_⟩; replace BK501 := BK501.bb hb; replace HB := HB.s1 GE501 hb; (try clear hb)) | (refine gl_ 14 Try.func17 #[.agg #[.int .i64 t506, .int .i64 t507, .int .i64 t508], .int .i64 a1] ?_; (with_reducible refine (impl_ThreadLength.calls k t506 t507 t508 a1 t509 _ A6.out).mono ?_); rintro e w14 ⟨rfl, hb⟩; refine ⟨_, rfl, ?_⟩; replace BK501 := BK501.bb hb; replace HB := HB.s1 GE501 hb; (try clear hb)))
  go_ret
  exact ⟨ex_, hb1_ HB.out GE501.out⟩
 ·rw [if_neg c7] at H
  have c7b0 : (t509 == t505) = false := beq_eq_false_iff_ne.mpr c7
  have c7b1 : (t509 != t505) = true := bne_iff_ne.mpr c7
  obtain rfl := Option.some.inj H
  go_enter Try.func3, Try.ntmps3
  go_wp2_with (first | (refine box_ (N := 2) (cs := #[.int .i64 a0_0, .int .i64 a0_1, .int .i64 a0_2]) (t := 25) ?_; intro gb501 hg w15 hbox hb; have BK501 := Aside0.mk (hbox); have GW501 := HB.g0 hg; have GE501 := HB.g0 hg; replace HB := HB.s0 hb; clear hb hbox hg; obtain ⟨hcz16_0, hcz16_1, hcz16_2⟩ := cz3_ BK501.out; obtain ⟨hfz16_0, hfz16_1, hfz16_2⟩ := fz3_ BK501.out) | (refine gl_ 8 Try.func16 #[.agg #[.int .i64 a0_0, .int .i64 a0_1, .int .i64 a0_2]] ?_; (with_reducible refine (laws_toMaze.calls a0_0 a0_1 a0_2 t502 t503 t504 _ A3.out).mono ?_); rintro e w17 ⟨rfl, hb⟩; refine ⟨_, rfl, ?_⟩; replace BK501 := BK501.bb hb; replace HB := HB.s1 GE501 hb; (try clear hb)) | (refine gl_ 10 Try.func15 #[.agg #[.int .i64 t502, .int .i64 t503, .int .i64 t504], .int .i64 a1] ?_; (with_reducible refine (spec_ThreadLength.calls k t502 t503 t504 a1 t505 _ A4.out).mono ?_); rintro e w18 ⟨rfl, hb⟩; refine ⟨_, rfl, ?_⟩; replace BK501 := BK501.bb hb; replace HB := HB.s1 GE501 hb; (try clear hb); obtain ⟨hcz19_0, hcz19_1, hcz19_2⟩ := cz3_ BK501.out; obtain ⟨hfz19_0, hfz19_1, hfz19_2⟩ := fz3_ BK501.out) | (refine gl_ 12 Try.func16 #[.agg #[.int .i64 a0_0, .int .i64 a0_1, .int .i64 a0_2]] ?_; (with_reducible refine (laws_toMaze.calls a0_0 a0_1 a0_2 t506 t507 t508 _ A5.out).mono ?_); rintro e w20 ⟨rfl, hb⟩; refine ⟨_, rfl, ?_⟩; replace BK501 := BK501.bb hb; replace HB := HB.s1 GE501 hb; (try clear hb)) | (refine gl_ 14 Try.func17 #[.agg #[.int .i64 t506, .int .i64 t507, .int .i64 t508], .int .i64 a1] ?_; (with_reducible refine (impl_ThreadLength.calls k t506 t507 t508 a1 t509 _ A6.out).mono ?_); rintro e w21 ⟨rfl, hb⟩; refine ⟨_, rfl, ?_⟩; replace BK501 := BK501.bb hb; replace HB := HB.s1 GE501 hb; (try clear hb)))
  go_ret
  exact ⟨ex_, hb1_ HB.out GE501.out⟩

/-- THE ONE PURE STATEMENT of laws_FnExactThreadLength: yours. -/
def laws_FnExactThreadLength.Pure : Prop := ∀ (a0_0 : Int) (a0_1 : Int) (a0_2 : Int) (a1 : Int), (Lit.int .i64 a0_0).wf = true → (Lit.int .i64 a0_1).wf = true → (Lit.int .i64 a0_2).wf = true → (Lit.int .i64 a1).wf = true → ∃ k, laws_FnExactThreadLength.f k a0_0 a0_1 a0_2 a1 = some true
theorem laws_FnExactThreadLength.walk (P : laws_FnExactThreadLength.Pure) (a0_0 : Int) (a0_1 : Int) (a0_2 : Int) (a1 : Int) (w : World) (w0_0 : (Lit.int .i64 a0_0).wf = true) (w0_1 : (Lit.int .i64 a0_1).wf = true) (w0_2 : (Lit.int .i64 a0_2).wf = true) (w1 : (Lit.int .i64 a1).wf = true) :
  Calls Try.prog 3 #[.agg #[.int .i64 a0_0, .int .i64 a0_1, .int .i64 a0_2], .int .i64 a1] w fun e w' => e = .returned (.bool true) ∧ Below w.heap.size w w' := by
 obtain ⟨k, h⟩ := P a0_0 a0_1 a0_2 a1 w0_0 w0_1 w0_2 w1
 refine (laws_FnExactThreadLength.calls k a0_0 a0_1 a0_2 a1 true w h).mono ?_
 rintro e w' ⟨rfl, hd⟩
 exact ⟨rfl, hd⟩

end Go.Proofs.Ytdloifaaoiollaa.X
