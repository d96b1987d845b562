-- Written by a program of this session (xprint.py), out of the translation and of hand-written contracts. Lean checks it.
import Derived.Test.YtjmbnlemfdjkfaaX0
import Derived.Test.YtjmbnlemfdjkfaaXcgaps
import Derived.Test.YtjmbnlemfdjkfaaXcgrid
import Derived.Test.YtjmbnlemfdjkfaaXcmaze
import Derived.Test.YtjmbnlemfdjkfaaXcperfs
import Derived.Test.YtjmbnlemfdjkfaaXcsreach
import Derived.Test.YtjmbnlemfdjkfaaXspecSetGap
namespace Go.Proofs.Ytjmbnlemfdjkfaa.X
open Go.RowKit Go.Proofs.YtjmbnlemfdjkfaaW.PrintWords Go.Proofs.YtjmbnlemfdjkfaaW.PrintLast Go.Proofs.YtjmbnlemfdjkfaaW.PrintMore
attribute [local go_sem] max2_int min2_int max_two min_two max_three min_three max_four min_four   -- for this text's walks alone
set_option linter.unusedVariables false
set_option linter.unusedSimpArgs false

/-! ### spec_EndsOf: function 86 -/
def spec_EndsOf.f (a0_0 : Int) (a0_1 : Int) (a1 : Int) : Option (Int × Int) := (spec_CountGaps.f a0_0 a0_1).bind fun t502 => ((spec_l01In.f a1 0 (wrap64 (t502 - 1))).bind fun t503 => (if t503 = true then ((spec_l02East.f a0_0 a0_1).bind fun t504 => (if a1 < t504 then (if (wrap64 (a0_0 - 1)) = 0 then (none) else (some (wrap64 ((wrap64 ((wrap64 (Int.tdiv a1 (wrap64 (a0_0 - 1)))) * a0_0)) + (Int.tmod a1 (wrap64 (a0_0 - 1)))), wrap64 ((wrap64 ((wrap64 ((wrap64 (Int.tdiv a1 (wrap64 (a0_0 - 1)))) * a0_0)) + (Int.tmod a1 (wrap64 (a0_0 - 1))))) + 1)))) else ((spec_l02East.f a0_0 a0_1).bind fun t505 => (some (wrap64 (a1 - t505), wrap64 ((wrap64 (a1 - t505)) + a0_0)))))) else (some ((-1), (-1)))))
set_option maxHeartbeats 8000000 in
set_option maxRecDepth 100000 in
theorem spec_EndsOf.calls (a0_0 : Int) (a0_1 : Int) (a1 : Int) (r1 : Int) (r2 : Int) (w : World) (h : spec_EndsOf.f a0_0 a0_1 a1 = some (r1, r2)) :
  Calls Try.prog 86 #[.agg #[.int .i64 a0_0, .int .i64 a0_1], .int .i64 a1] w fun e w' => e = .returned (.tuple #[.int .i64 r1, .int .i64 r2]) ∧ Below w.heap.size w w' := by
 have hu26 := Try.underlying26
 have HB := Aside0.mk (Below.refl w.heap.size w)
 have H : ((spec_CountGaps.f a0_0 a0_1).bind fun t502 => ((spec_l01In.f a1 0 (wrap64 (t502 - 1))).bind fun t503 => (if t503 = true then ((spec_l02East.f a0_0 a0_1).bind fun t504 => (if a1 < t504 then (if (wrap64 (a0_0 - 1)) = 0 then (none) else (some (wrap64 ((wrap64 ((wrap64 (Int.tdiv a1 (wrap64 (a0_0 - 1)))) * a0_0)) + (Int.tmod a1 (wrap64 (a0_0 - 1)))), wrap64 ((wrap64 ((wrap64 ((wrap64 (Int.tdiv a1 (wrap64 (a0_0 - 1)))) * a0_0)) + (Int.tmod a1 (wrap64 (a0_0 - 1))))) + 1)))) else ((spec_l02East.f a0_0 a0_1).bind fun t505 => (some (wrap64 (a1 - t505), wrap64 ((wrap64 (a1 - t505)) + a0_0)))))) else (some ((-1), (-1)))))) = some (r1, r2) := h
 clear h
 replace H := Option.bind_eq_some_iff.mp H
 obtain ⟨t502, A30, H⟩ := H
 replace H : ((spec_l01In.f a1 0 (wrap64 (t502 - 1))).bind fun t503 => (if t503 = true then ((spec_l02East.f a0_0 a0_1).bind fun t504 => (if a1 < t504 then (if (wrap64 (a0_0 - 1)) = 0 then (none) else (some (wrap64 ((wrap64 ((wrap64 (Int.tdiv a1 (wrap64 (a0_0 - 1)))) * a0_0)) + (Int.tmod a1 (wrap64 (a0_0 - 1)))), wrap64 ((wrap64 ((wrap64 ((wrap64 (Int.tdiv a1 (wrap64 (a0_0 - 1)))) * a0_0)) + (Int.tmod a1 (wrap64 (a0_0 - 1))))) + 1)))) else ((spec_l02East.f a0_0 a0_1).bind fun t505 => (some (wrap64 (a1 - t505), wrap64 ((wrap64 (a1 - t505)) + a0_0)))))) else (some ((-1), (-1))))) = some (r1, r2) := H
 have A3 := Aside0.mk A30
 clear A30
 replace H := Option.bind_eq_some_iff.mp H
 obtain ⟨t503, A40, H⟩ := H
 replace H : (if t503 = true then ((spec_l02East.f a0_0 a0_1).bind fun t504 => (if a1 < t504 then (if (wrap64 (a0_0 - 1)) = 0 then (none) else (some (wrap64 ((wrap64 ((wrap64 (Int.tdiv a1 (wrap64 (a0_0 - 1)))) * a0_0)) + (Int.tmod a1 (wrap64 (a0_0 - 1)))), wrap64 ((wrap64 ((wrap64 ((wrap64 (Int.tdiv a1 (wrap64 (a0_0 - 1)))) * a0_0)) + (Int.tmod a1 (wrap64 (a0_0 - 1))))) + 1)))) else ((spec_l02East.f a0_0 a0_1).bind fun t505 => (some (wrap64 (a1 - t505), wrap64 ((wrap64 (a1 - t505)) + a0_0)))))) else (some ((-1), (-1)))) = some (r1, r2) := H
 have A4 := Aside0.mk A40
 clear A40
 by_cases c5 : t503 = true
 ·subst c5
  have H1 : ((spec_l02East.f a0_0 a0_1).bind fun t504 => (if a1 < t504 then (if (wrap64 (a0_0 - 1)) = 0 then (none) else (some (wrap64 ((wrap64 ((wrap64 (Int.tdiv a1 (wrap64 (a0_0 - 1)))) * a0_0)) + (Int.tmod a1 (wrap64 (a0_0 - 1)))), wrap64 ((wrap64 ((wrap64 ((wrap64 (Int.tdiv a1 (wrap64 (a0_0 - 1)))) * a0_0)) + (Int.tmod a1 (wrap64 (a0_0 - 1))))) + 1)))) else ((spec_l02East.f a0_0 a0_1).bind fun t505 => (some (wrap64 (a1 - t505), wrap64 ((wrap64 (a1 - t505)) + a0_0)))))) = some (r1, r2) := by rw [if_pos rfl] at H; exact H
  clear H
  have H := H1
  clear H1
  replace H := Option.bind_eq_some_iff.mp H
  obtain ⟨t504, A60, H⟩ := H
  replace H : (if a1 < t504 then (if (wrap64 (a0_0 - 1)) = 0 then (none) else (some (wrap64 ((wrap64 ((wrap64 (Int.tdiv a1 (wrap64 (a0_0 - 1)))) * a0_0)) + (Int.tmod a1 (wrap64 (a0_0 - 1)))), wrap64 ((wrap64 ((wrap64 ((wrap64 (Int.tdiv a1 (wrap64 (a0_0 - 1)))) * a0_0)) + (Int.tmod a1 (wrap64 (a0_0 - 1))))) + 1)))) else ((spec_l02East.f a0_0 a0_1).bind fun t505 => (some (wrap64 (a1 - t505), wrap64 ((wrap64 (a1 - t505)) + a0_0))))) = some (r1, r2) := H
  have A6 := Aside0.mk A60
  clear A60
  by_cases c7 : a1 < t504
  ·rw [if_pos c7] at H
   have c7b0 : decide (a1 < t504) = true := decide_eq_true c7
   clear c7
   by_cases c8 : (wrap64 (a0_0 - 1)) = 0
   ·rw [if_pos c8] at H
    exact absurd H (by simp)
   ·rw [if_neg c8] at H
    have c8b0 : ((wrap64 (a0_0 - 1)) == 0) = false := beq_eq_false_iff_ne.mpr c8
    have c8b1 : ((wrap64 (a0_0 - 1)) != 0) = true := bne_iff_ne.mpr c8
    simp only [Option.some.injEq, Prod.mk.injEq] at H
    obtain ⟨rfl, rfl⟩ := H
    go_enter Try.func86, Try.ntmps86
    go_wp2_with (first | (refine box_ (N := 2) (cs := #[.int .i64 a0_0, .int .i64 a0_1]) (t := 26) ?_; intro gb501 hg w9 hbox hb; have BK501 := Aside0.mk (hbox); have GW501 := HB.g0 hg; have GE501 := HB.g0 hg; replace HB := HB.s0 hb; clear hb hbox hg; obtain ⟨hcz10_0, hcz10_1⟩ := cz2_ BK501.out; obtain ⟨hfz10_0, hfz10_1⟩ := fz2_ BK501.out) | (go_at_call 14; (with_reducible refine (spec_CountGaps.calls a0_0 a0_1 t502 _ A3.out).mono ?_); rintro e w11 ⟨rfl, hb⟩; replace BK501 := BK501.bb hb; replace HB := HB.s1 GE501 hb; (try clear hb)) | (go_at_call 33; (with_reducible refine (spec_l01In.calls a1 0 (wrap64 (t502 - 1)) true _ A4.out).mono ?_); rintro e w' ⟨rfl, ⟨nd, rfl⟩⟩; (try first | exact ⟨rfl, _, World.drewN_drewN _ _ _⟩ | exact ⟨rfl, _, Eq.trans (World.drewN_drewN _ _ _) (congrArg (World.drewN _) (Nat.add_assoc _ _ _))⟩); obtain ⟨hcz12_0, hcz12_1⟩ := cz2_ BK501.out; obtain ⟨hfz12_0, hfz12_1⟩ := fz2_ BK501.out) | (go_at_call 34; (with_reducible refine (spec_l02East.calls a0_0 a0_1 t504 _ A6.out).mono ?_); rintro e w13 ⟨rfl, hb⟩; replace BK501 := BK501.bb hb; replace HB := HB.s1 GE501 hb; (try clear hb); obtain ⟨hcz14_0, hcz14_1⟩ := cz2_ BK501.out; obtain ⟨hfz14_0, hfz14_1⟩ := fz2_ BK501.out))
    repeat (go_quiet (first | (refine box_ (N := 2) (cs := #[.int .i64 a0_0, .int .i64 a0_1]) (t := 26) ?_; intro gb501 hg w9 hbox hb; have BK501 := Aside0.mk (hbox); have GW501 := HB.g0 hg; have GE501 := HB.g0 hg; replace HB := HB.s0 hb; clear hb hbox hg; obtain ⟨hcz10_0, hcz10_1⟩ := cz2_ BK501.out; obtain ⟨hfz10_0, hfz10_1⟩ := fz2_ BK501.out) | (go_at_call 14; (with_reducible refine (spec_CountGaps.calls a0_0 a0_1 t502 _ A3.out).mono ?_); rintro e w11 ⟨rfl, hb⟩; replace BK501 := BK501.bb hb; replace HB := HB.s1 GE501 hb; (try clear hb)) | (go_at_call 33; (with_reducible refine (spec_l01In.calls a1 0 (wrap64 (t502 - 1)) true _ A4.out).mono ?_); rintro e w' ⟨rfl, ⟨nd, rfl⟩⟩; (try first | exact ⟨rfl, _, World.drewN_drewN _ _ _⟩ | exact ⟨rfl, _, Eq.trans (World.drewN_drewN _ _ _) (congrArg (World.drewN _) (Nat.add_assoc _ _ _))⟩); obtain ⟨hcz12_0, hcz12_1⟩ := cz2_ BK501.out; obtain ⟨hfz12_0, hfz12_1⟩ := fz2_ BK501.out) | (go_at_call 34; (with_reducible refine (spec_l02East.calls a0_0 a0_1 t504 _ A6.out).mono ?_); rintro e w13 ⟨rfl, hb⟩; replace BK501 := BK501.bb hb; replace HB := HB.s1 GE501 hb; (try clear hb); obtain ⟨hcz14_0, hcz14_1⟩ := cz2_ BK501.out; obtain ⟨hfz14_0, hfz14_1⟩ := fz2_ BK501.out)); try go_wp2_with (first | (refine box_ (N := 2) (cs := #[.int .i64 a0_0, .int .i64 a0_1]) (t := 26) ?_; intro gb501 hg w9 hbox hb; have BK501 := Aside0.mk (hbox); have GW501 := HB.g0 hg; have GE501 := HB.g0 hg; replace HB := HB.s0 hb; clear hb hbox hg; obtain ⟨hcz10_0, hcz10_1⟩ := cz2_ BK501.out; obtain ⟨hfz10_0, hfz10_1⟩ := fz2_ BK501.out) | (go_at_call 14; (with_reducible refine (spec_CountGaps.calls a0_0 a0_1 t502 _ A3.out).mono ?_); rintro e w11 ⟨rfl, hb⟩; replace BK501 := BK501.bb hb; replace HB := HB.s1 GE501 hb; (try clear hb)) | (go_at_call 33; (with_reducible refine (spec_l01In.calls a1 0 (wrap64 (t502 - 1)) true _ A4.out).mono ?_); rintro e w' ⟨rfl, ⟨nd, rfl⟩⟩; (try first | exact ⟨rfl, _, World.drewN_drewN _ _ _⟩ | exact ⟨rfl, _, Eq.trans (World.drewN_drewN _ _ _) (congrArg (World.drewN _) (Nat.add_assoc _ _ _))⟩); obtain ⟨hcz12_0, hcz12_1⟩ := cz2_ BK501.out; obtain ⟨hfz12_0, hfz12_1⟩ := fz2_ BK501.out) | (go_at_call 34; (with_reducible refine (spec_l02East.calls a0_0 a0_1 t504 _ A6.out).mono ?_); rintro e w13 ⟨rfl, hb⟩; replace BK501 := BK501.bb hb; replace HB := HB.s1 GE501 hb; (try clear hb); obtain ⟨hcz14_0, hcz14_1⟩ := cz2_ BK501.out; obtain ⟨hfz14_0, hfz14_1⟩ := fz2_ BK501.out)))
    go_ret2
    exact ⟨by first | rfl | (rw [Option.some.inj (A15.out.symm.trans A6.out)]; first | rfl | (simp [errW_none, errW_some] <;> rfl)) | (simp [errW_none, errW_some] <;> rfl) | (simp [*, errW_none, errW_some] <;> rfl), hb1_ HB.out GE501.out⟩
  ·rw [if_neg c7] at H
   have c7b0 : decide (a1 < t504) = false := decide_eq_false c7
   clear c7
   replace H := Option.bind_eq_some_iff.mp H
   obtain ⟨t505, A150, H⟩ := H
   replace H : (some (wrap64 (a1 - t505), wrap64 ((wrap64 (a1 - t505)) + a0_0))) = some (r1, r2) := H
   have A15 := Aside0.mk A150
   clear A150
   simp only [Option.some.injEq, Prod.mk.injEq] at H
   obtain ⟨rfl, rfl⟩ := H
   go_enter Try.func86, Try.ntmps86
   go_wp2_with (first | (refine box_ (N := 2) (cs := #[.int .i64 a0_0, .int .i64 a0_1]) (t := 26) ?_; intro gb501 hg w16 hbox hb; have BK501 := Aside0.mk (hbox); have GW501 := HB.g0 hg; have GE501 := HB.g0 hg; replace HB := HB.s0 hb; clear hb hbox hg; obtain ⟨hcz17_0, hcz17_1⟩ := cz2_ BK501.out; obtain ⟨hfz17_0, hfz17_1⟩ := fz2_ BK501.out) | (go_at_call 14; (with_reducible refine (spec_CountGaps.calls a0_0 a0_1 t502 _ A3.out).mono ?_); rintro e w18 ⟨rfl, hb⟩; replace BK501 := BK501.bb hb; replace HB := HB.s1 GE501 hb; (try clear hb)) | (go_at_call 33; (with_reducible refine (spec_l01In.calls a1 0 (wrap64 (t502 - 1)) true _ A4.out).mono ?_); rintro e w' ⟨rfl, ⟨nd, rfl⟩⟩; (try first | exact ⟨rfl, _, World.drewN_drewN _ _ _⟩ | exact ⟨rfl, _, Eq.trans (World.drewN_drewN _ _ _) (congrArg (World.drewN _) (Nat.add_assoc _ _ _))⟩); obtain ⟨hcz19_0, hcz19_1⟩ := cz2_ BK501.out; obtain ⟨hfz19_0, hfz19_1⟩ := fz2_ BK501.out) | (go_at_call 34; (with_reducible refine (spec_l02East.calls a0_0 a0_1 t504 _ A6.out).mono ?_); rintro e w20 ⟨rfl, hb⟩; replace BK501 := BK501.bb hb; replace HB := HB.s1 GE501 hb; (try clear hb); obtain ⟨hcz21_0, hcz21_1⟩ := cz2_ BK501.out; obtain ⟨hfz21_0, hfz21_1⟩ := fz2_ BK501.out) | (go_at_call 34; (with_reducible refine (spec_l02East.calls a0_0 a0_1 t505 _ A15.out).mono ?_); rintro e w22 ⟨rfl, hb⟩; replace BK501 := BK501.bb hb; replace HB := HB.s1 GE501 hb; (try clear hb); obtain ⟨hcz23_0, hcz23_1⟩ := cz2_ BK501.out; obtain ⟨hfz23_0, hfz23_1⟩ := fz2_ BK501.out))
   repeat (go_quiet (first | (refine box_ (N := 2) (cs := #[.int .i64 a0_0, .int .i64 a0_1]) (t := 26) ?_; intro gb501 hg w16 hbox hb; have BK501 := Aside0.mk (hbox); have GW501 := HB.g0 hg; have GE501 := HB.g0 hg; replace HB := HB.s0 hb; clear hb hbox hg; obtain ⟨hcz17_0, hcz17_1⟩ := cz2_ BK501.out; obtain ⟨hfz17_0, hfz17_1⟩ := fz2_ BK501.out) | (go_at_call 14; (with_reducible refine (spec_CountGaps.calls a0_0 a0_1 t502 _ A3.out).mono ?_); rintro e w18 ⟨rfl, hb⟩; replace BK501 := BK501.bb hb; replace HB := HB.s1 GE501 hb; (try clear hb)) | (go_at_call 33; (with_reducible refine (spec_l01In.calls a1 0 (wrap64 (t502 - 1)) true _ A4.out).mono ?_); rintro e w' ⟨rfl, ⟨nd, rfl⟩⟩; (try first | exact ⟨rfl, _, World.drewN_drewN _ _ _⟩ | exact ⟨rfl, _, Eq.trans (World.drewN_drewN _ _ _) (congrArg (World.drewN _) (Nat.add_assoc _ _ _))⟩); obtain ⟨hcz19_0, hcz19_1⟩ := cz2_ BK501.out; obtain ⟨hfz19_0, hfz19_1⟩ := fz2_ BK501.out) | (go_at_call 34; (with_reducible refine (spec_l02East.calls a0_0 a0_1 t504 _ A6.out).mono ?_); rintro e w20 ⟨rfl, hb⟩; replace BK501 := BK501.bb hb; replace HB := HB.s1 GE501 hb; (try clear hb); obtain ⟨hcz21_0, hcz21_1⟩ := cz2_ BK501.out; obtain ⟨hfz21_0, hfz21_1⟩ := fz2_ BK501.out) | (go_at_call 34; (with_reducible refine (spec_l02East.calls a0_0 a0_1 t505 _ A15.out).mono ?_); rintro e w22 ⟨rfl, hb⟩; replace BK501 := BK501.bb hb; replace HB := HB.s1 GE501 hb; (try clear hb); obtain ⟨hcz23_0, hcz23_1⟩ := cz2_ BK501.out; obtain ⟨hfz23_0, hfz23_1⟩ := fz2_ BK501.out)); try go_wp2_with (first | (refine box_ (N := 2) (cs := #[.int .i64 a0_0, .int .i64 a0_1]) (t := 26) ?_; intro gb501 hg w16 hbox hb; have BK501 := Aside0.mk (hbox); have GW501 := HB.g0 hg; have GE501 := HB.g0 hg; replace HB := HB.s0 hb; clear hb hbox hg; obtain ⟨hcz17_0, hcz17_1⟩ := cz2_ BK501.out; obtain ⟨hfz17_0, hfz17_1⟩ := fz2_ BK501.out) | (go_at_call 14; (with_reducible refine (spec_CountGaps.calls a0_0 a0_1 t502 _ A3.out).mono ?_); rintro e w18 ⟨rfl, hb⟩; replace BK501 := BK501.bb hb; replace HB := HB.s1 GE501 hb; (try clear hb)) | (go_at_call 33; (with_reducible refine (spec_l01In.calls a1 0 (wrap64 (t502 - 1)) true _ A4.out).mono ?_); rintro e w' ⟨rfl, ⟨nd, rfl⟩⟩; (try first | exact ⟨rfl, _, World.drewN_drewN _ _ _⟩ | exact ⟨rfl, _, Eq.trans (World.drewN_drewN _ _ _) (congrArg (World.drewN _) (Nat.add_assoc _ _ _))⟩); obtain ⟨hcz19_0, hcz19_1⟩ := cz2_ BK501.out; obtain ⟨hfz19_0, hfz19_1⟩ := fz2_ BK501.out) | (go_at_call 34; (with_reducible refine (spec_l02East.calls a0_0 a0_1 t504 _ A6.out).mono ?_); rintro e w20 ⟨rfl, hb⟩; replace BK501 := BK501.bb hb; replace HB := HB.s1 GE501 hb; (try clear hb); obtain ⟨hcz21_0, hcz21_1⟩ := cz2_ BK501.out; obtain ⟨hfz21_0, hfz21_1⟩ := fz2_ BK501.out) | (go_at_call 34; (with_reducible refine (spec_l02East.calls a0_0 a0_1 t505 _ A15.out).mono ?_); rintro e w22 ⟨rfl, hb⟩; replace BK501 := BK501.bb hb; replace HB := HB.s1 GE501 hb; (try clear hb); obtain ⟨hcz23_0, hcz23_1⟩ := cz2_ BK501.out; obtain ⟨hfz23_0, hfz23_1⟩ := fz2_ BK501.out)))
   go_ret2
   exact ⟨by first | rfl | (rw [Option.some.inj (A15.out.symm.trans A6.out)]; first | rfl | (simp [errW_none, errW_some] <;> rfl)) | (simp [errW_none, errW_some] <;> rfl) | (simp [*, errW_none, errW_some] <;> rfl), hb1_ HB.out GE501.out⟩
 ·replace c5 := Bool.eq_false_iff.mpr c5
  subst c5
  have H1 : (some ((-1), (-1))) = some (r1, r2) := by rw [if_neg (show ¬ (false = true) by decide)] at H; exact H
  clear H
  have H := H1
  clear H1
  simp only [Option.some.injEq, Prod.mk.injEq] at H
  obtain ⟨rfl, rfl⟩ := H
  go_enter Try.func86, Try.ntmps86
  go_wp2_with (first | (refine box_ (N := 2) (cs := #[.int .i64 a0_0, .int .i64 a0_1]) (t := 26) ?_; intro gb501 hg w24 hbox hb; have BK501 := Aside0.mk (hbox); have GW501 := HB.g0 hg; have GE501 := HB.g0 hg; replace HB := HB.s0 hb; clear hb hbox hg; obtain ⟨hcz25_0, hcz25_1⟩ := cz2_ BK501.out; obtain ⟨hfz25_0, hfz25_1⟩ := fz2_ BK501.out) | (go_at_call 14; (with_reducible refine (spec_CountGaps.calls a0_0 a0_1 t502 _ A3.out).mono ?_); rintro e w26 ⟨rfl, hb⟩; replace BK501 := BK501.bb hb; replace HB := HB.s1 GE501 hb; (try clear hb)) | (go_at_call 33; (with_reducible refine (spec_l01In.calls a1 0 (wrap64 (t502 - 1)) false _ A4.out).mono ?_); rintro e w' ⟨rfl, ⟨nd, rfl⟩⟩; (try first | exact ⟨rfl, _, World.drewN_drewN _ _ _⟩ | exact ⟨rfl, _, Eq.trans (World.drewN_drewN _ _ _) (congrArg (World.drewN _) (Nat.add_assoc _ _ _))⟩)))
  repeat (go_quiet (first | (refine box_ (N := 2) (cs := #[.int .i64 a0_0, .int .i64 a0_1]) (t := 26) ?_; intro gb501 hg w24 hbox hb; have BK501 := Aside0.mk (hbox); have GW501 := HB.g0 hg; have GE501 := HB.g0 hg; replace HB := HB.s0 hb; clear hb hbox hg; obtain ⟨hcz25_0, hcz25_1⟩ := cz2_ BK501.out; obtain ⟨hfz25_0, hfz25_1⟩ := fz2_ BK501.out) | (go_at_call 14; (with_reducible refine (spec_CountGaps.calls a0_0 a0_1 t502 _ A3.out).mono ?_); rintro e w26 ⟨rfl, hb⟩; replace BK501 := BK501.bb hb; replace HB := HB.s1 GE501 hb; (try clear hb)) | (go_at_call 33; (with_reducible refine (spec_l01In.calls a1 0 (wrap64 (t502 - 1)) false _ A4.out).mono ?_); rintro e w' ⟨rfl, ⟨nd, rfl⟩⟩; (try first | exact ⟨rfl, _, World.drewN_drewN _ _ _⟩ | exact ⟨rfl, _, Eq.trans (World.drewN_drewN _ _ _) (congrArg (World.drewN _) (Nat.add_assoc _ _ _))⟩))); try go_wp2_with (first | (refine box_ (N := 2) (cs := #[.int .i64 a0_0, .int .i64 a0_1]) (t := 26) ?_; intro gb501 hg w24 hbox hb; have BK501 := Aside0.mk (hbox); have GW501 := HB.g0 hg; have GE501 := HB.g0 hg; replace HB := HB.s0 hb; clear hb hbox hg; obtain ⟨hcz25_0, hcz25_1⟩ := cz2_ BK501.out; obtain ⟨hfz25_0, hfz25_1⟩ := fz2_ BK501.out) | (go_at_call 14; (with_reducible refine (spec_CountGaps.calls a0_0 a0_1 t502 _ A3.out).mono ?_); rintro e w26 ⟨rfl, hb⟩; replace BK501 := BK501.bb hb; replace HB := HB.s1 GE501 hb; (try clear hb)) | (go_at_call 33; (with_reducible refine (spec_l01In.calls a1 0 (wrap64 (t502 - 1)) false _ A4.out).mono ?_); rintro e w' ⟨rfl, ⟨nd, rfl⟩⟩; (try first | exact ⟨rfl, _, World.drewN_drewN _ _ _⟩ | exact ⟨rfl, _, Eq.trans (World.drewN_drewN _ _ _) (congrArg (World.drewN _) (Nat.add_assoc _ _ _))⟩))))
  go_ret2
  exact ⟨by first | rfl | (rw [Option.some.inj (A15.out.symm.trans A6.out)]; first | rfl | (simp [errW_none, errW_some] <;> rfl)) | (simp [errW_none, errW_some] <;> rfl) | (simp [*, errW_none, errW_some] <;> rfl), hb1_ HB.out GE501.out⟩

/-! ### spec_l05Apart: function 73 -/
def spec_l05Apart.f (k : Nat) (a0_0 : Int) (a0_1 : Int) (a0_2 : Int) (a1 : Int) : Option (Bool) := (spec_EndsOf.f a0_0 a0_1 a1).bind fun bt502 => ((spec_l04Distances.f k a0_0 a0_1 a0_2 bt502.1).bind fun t504 => (if 0 ≤ bt502.2 then (if bt502.2 < (t504.length : Int) then (some (decide ((rd t504 bt502.2) < 0))) else (none)) else (none)))
theorem spec_l05Apart.mono : ∀ a0 a1 a2 a3 k, LeO (spec_l05Apart.f k a0 a1 a2 a3) (spec_l05Apart.f (k + 1) a0 a1 a2 a3) := by
 intro a0 a1 a2 a3 k
 unfold spec_l05Apart.f
 repeat' first
   | (with_reducible exact spec_l04Distances.mono ..)
   | (with_reducible first | exact lr_ _ | exact ln_ _ | refine li_ ?_ ?_ | refine lb_ ?_ fun _ => ?_)
   | exact spec_l04Distances.mono ..
   | exact ln_ _ | refine li_ ?_ ?_ | refine lb_ ?_ fun _ => ?_
set_option maxHeartbeats 8000000 in
set_option maxRecDepth 100000 in
theorem spec_l05Apart.calls (k : Nat) (a0_0 : Int) (a0_1 : Int) (a0_2 : Int) (a1 : Int) (r : Bool) (w : World) (h : spec_l05Apart.f k a0_0 a0_1 a0_2 a1 = some r) :
  Calls Try.prog 73 #[.agg #[.int .i64 a0_0, .int .i64 a0_1, .int .i64 a0_2], .int .i64 a1] w fun e w' => e = .returned (.bool r) ∧ Below w.heap.size w w' := by
 have hu28 := Try.underlying28
 have hu26 := Try.underlying26
 have HB := Aside0.mk (Below.refl w.heap.size w)
 have H : ((spec_EndsOf.f a0_0 a0_1 a1).bind fun bt502 => ((spec_l04Distances.f k a0_0 a0_1 a0_2 bt502.1).bind fun t504 => (if 0 ≤ bt502.2 then (if bt502.2 < (t504.length : Int) then (some (decide ((rd t504 bt502.2) < 0))) else (none)) else (none)))) = some r := h
 clear h
 replace H := Option.bind_eq_some_iff.mp H
 obtain ⟨⟨t502, t503⟩, A30, H⟩ := H
 replace H : ((spec_l04Distances.f k a0_0 a0_1 a0_2 t502).bind fun t504 => (if 0 ≤ t503 then (if t503 < (t504.length : Int) then (some (decide ((rd t504 t503) < 0))) else (none)) else (none))) = some r := H
 have A3 := Aside0.mk A30
 clear A30
 replace H := Option.bind_eq_some_iff.mp H
 obtain ⟨t504, A40, H⟩ := H
 replace H : (if 0 ≤ t503 then (if t503 < (t504.length : Int) then (some (decide ((rd t504 t503) < 0))) else (none)) else (none)) = some r := H
 have A4 := Aside0.mk A40
 clear A40
 by_cases c5 : 0 ≤ t503
 ·rw [if_pos c5] at H
  have c5b0 : decide (0 ≤ t503) = true := decide_eq_true c5
  clear c5
  by_cases c6 : t503 < (t504.length : Int)
  ·rw [if_pos c6] at H
   have c6b0 : decide (t503 < (t504.length : Int)) = true := decide_eq_true c6
   clear c6
   obtain rfl := Option.some.inj H
   go_enter Try.func73, Try.ntmps73
   go_wp2_with (first | (refine box_ (N := 2) (cs := #[.int .i64 a0_0, .int .i64 a0_1, .int .i64 a0_2]) (t := 28) ?_; intro gb501 hg w7 hbox hb; have BK501 := Aside0.mk (hbox); have GW501 := HB.g0 hg; have GE501 := HB.g0 hg; replace HB := HB.s0 hb; clear hb hbox hg; obtain ⟨hcz8_0, hcz8_1, hcz8_2⟩ := cz3_ BK501.out; obtain ⟨hfz8_0, hfz8_1, hfz8_2⟩ := fz3_ BK501.out) | (refine gl_ 11 Try.func86 #[.agg #[.int .i64 a0_0, .int .i64 a0_1], .int .i64 a1] ?_; (with_reducible refine (spec_EndsOf.calls a0_0 a0_1 a1 t502 t503 _ A3.out).mono ?_); rintro e w9 ⟨rfl, hb⟩; refine ⟨_, rfl, ?_⟩; replace BK501 := BK501.bb hb; replace HB := HB.s1 GE501 hb; (try clear hb); obtain ⟨hcz10_0, hcz10_1, hcz10_2⟩ := cz3_ BK501.out; obtain ⟨hfz10_0, hfz10_1, hfz10_2⟩ := fz3_ BK501.out) | (refine gl_ 16 Try.func55 #[.agg #[.int .i64 a0_0, .int .i64 a0_1, .int .i64 a0_2], .int .i64 t502] ?_; (with_reducible refine (spec_l04Distances.calls k a0_0 a0_1 a0_2 t502 t504 _ A4.out).mono ?_); rintro e w11 ⟨v505, rfl, ho0, hb⟩; refine ⟨_, rfl, ?_⟩; have HO506 := Aside0.mk (Kd.R_lower ho0 (below_size (hb1_ HB.out GE501.out))); replace BK501 := BK501.bb hb; replace HB := HB.s1 GE501 hb; (try clear hb); (try clear ho0); obtain ⟨Ao12, co12, eo12⟩ := Kd.R_slice HO506.out; subst eo12; have p507 : 0 ≤ (t503 : Int) := of_decide_eq_true (as_); have q507 : t503 < (t504.length : Int) := of_decide_eq_true (as_); obtain ⟨ad507, e507, hx507_0⟩ := Kd.at_int (Kd.R_reads' HO506.out).2.2 t503 p507 q507; cases e507; replace p507 := eq_true p507; replace q507 := eq_true q507))
   go_ret
   exact ⟨ex_, hb1_ HB.out GE501.out⟩
  ·rw [if_neg c6] at H
   exact absurd H (by simp)
 ·rw [if_neg c5] at H
  exact absurd H (by simp)

/-! ### spec_WouldJoin: function 54 -/
def spec_WouldJoin.f (k : Nat) (a0_0 : Int) (a0_1 : Int) (a0_2 : Int) (a1 : Int) : Option (Bool) := (spec_MazeOk.f a0_0 a0_1 a0_2).bind fun t502 => (if t502 = true then ((spec_CountGaps.f a0_0 a0_1).bind fun t503 => ((spec_l01In.f a1 0 (wrap64 (t503 - 1))).bind fun t504 => (if t504 = true then ((spec_l03Bit.f a0_2 a1).bind fun t505 => (if t505 = true then (some false) else ((spec_l05Apart.f k a0_0 a0_1 a0_2 a1).bind fun t506 => (some t506)))) else (some false)))) else (some false))
theorem spec_WouldJoin.mono : ∀ a0 a1 a2 a3 k, LeO (spec_WouldJoin.f k a0 a1 a2 a3) (spec_WouldJoin.f (k + 1) a0 a1 a2 a3) := by
 intro a0 a1 a2 a3 k
 unfold spec_WouldJoin.f
 repeat' first
   | (with_reducible exact spec_l05Apart.mono ..)
   | (with_reducible first | exact lr_ _ | exact ln_ _ | refine li_ ?_ ?_ | refine lb_ ?_ fun _ => ?_)
   | exact spec_l05Apart.mono ..
   | exact ln_ _ | refine li_ ?_ ?_ | refine lb_ ?_ fun _ => ?_
set_option maxHeartbeats 8000000 in
set_option maxRecDepth 100000 in
theorem spec_WouldJoin.calls (k : Nat) (a0_0 : Int) (a0_1 : Int) (a0_2 : Int) (a1 : Int) (r : Bool) (w : World) (h : spec_WouldJoin.f k a0_0 a0_1 a0_2 a1 = some r) :
  Calls Try.prog 54 #[.agg #[.int .i64 a0_0, .int .i64 a0_1, .int .i64 a0_2], .int .i64 a1] w fun e w' => e = .returned (.bool r) ∧ Below w.heap.size w w' := by
 have hu28 := Try.underlying28
 have hu26 := Try.underlying26
 have HB := Aside0.mk (Below.refl w.heap.size w)
 have H : ((spec_MazeOk.f a0_0 a0_1 a0_2).bind fun t502 => (if t502 = true then ((spec_CountGaps.f a0_0 a0_1).bind fun t503 => ((spec_l01In.f a1 0 (wrap64 (t503 - 1))).bind fun t504 => (if t504 = true then ((spec_l03Bit.f a0_2 a1).bind fun t505 => (if t505 = true then (some false) else ((spec_l05Apart.f k a0_0 a0_1 a0_2 a1).bind fun t506 => (some t506)))) else (some false)))) else (some false))) = some r := h
 clear h
 replace H := Option.bind_eq_some_iff.mp H
 obtain ⟨t502, A30, H⟩ := H
 replace H : (if t502 = true then ((spec_CountGaps.f a0_0 a0_1).bind fun t503 => ((spec_l01In.f a1 0 (wrap64 (t503 - 1))).bind fun t504 => (if t504 = true then ((spec_l03Bit.f a0_2 a1).bind fun t505 => (if t505 = true then (some false) else ((spec_l05Apart.f k a0_0 a0_1 a0_2 a1).bind fun t506 => (some t506)))) else (some false)))) else (some false)) = some r := H
 have A3 := Aside0.mk A30
 clear A30
 by_cases c4 : t502 = true
 ·subst c4
  have H1 : ((spec_CountGaps.f a0_0 a0_1).bind fun t503 => ((spec_l01In.f a1 0 (wrap64 (t503 - 1))).bind fun t504 => (if t504 = true then ((spec_l03Bit.f a0_2 a1).bind fun t505 => (if t505 = true then (some false) else ((spec_l05Apart.f k a0_0 a0_1 a0_2 a1).bind fun t506 => (some t506)))) else (some false)))) = some r := by rw [if_pos rfl] at H; exact H
  clear H
  have H := H1
  clear H1
  replace H := Option.bind_eq_some_iff.mp H
  obtain ⟨t503, A50, H⟩ := H
  replace H : ((spec_l01In.f a1 0 (wrap64 (t503 - 1))).bind fun t504 => (if t504 = true then ((spec_l03Bit.f a0_2 a1).bind fun t505 => (if t505 = true then (some false) else ((spec_l05Apart.f k a0_0 a0_1 a0_2 a1).bind fun t506 => (some t506)))) else (some false))) = some r := H
  have A5 := Aside0.mk A50
  clear A50
  replace H := Option.bind_eq_some_iff.mp H
  obtain ⟨t504, A60, H⟩ := H
  replace H : (if t504 = true then ((spec_l03Bit.f a0_2 a1).bind fun t505 => (if t505 = true then (some false) else ((spec_l05Apart.f k a0_0 a0_1 a0_2 a1).bind fun t506 => (some t506)))) else (some false)) = some r := H
  have A6 := Aside0.mk A60
  clear A60
  by_cases c7 : t504 = true
  ·subst c7
   have H1 : ((spec_l03Bit.f a0_2 a1).bind fun t505 => (if t505 = true then (some false) else ((spec_l05Apart.f k a0_0 a0_1 a0_2 a1).bind fun t506 => (some t506)))) = some r := by rw [if_pos rfl] at H; exact H
   clear H
   have H := H1
   clear H1
   replace H := Option.bind_eq_some_iff.mp H
   obtain ⟨t505, A80, H⟩ := H
   replace H : (if t505 = true then (some false) else ((spec_l05Apart.f k a0_0 a0_1 a0_2 a1).bind fun t506 => (some t506))) = some r := H
   have A8 := Aside0.mk A80
   clear A80
   by_cases c9 : t505 = true
   ·subst c9
    have H1 : (some false) = some r := by rw [if_pos rfl] at H; exact H
    clear H
    have H := H1
    clear H1
    obtain rfl := Option.some.inj H
    go_enter Try.func54, Try.ntmps54
    go_wp2_with (first | (refine box_ (N := 2) (cs := #[.int .i64 a0_0, .int .i64 a0_1, .int .i64 a0_2]) (t := 28) ?_; intro gb501 hg w10 hbox hb; have BK501 := Aside0.mk (hbox); have GW501 := HB.g0 hg; have GE501 := HB.g0 hg; replace HB := HB.s0 hb; clear hb hbox hg; obtain ⟨hcz11_0, hcz11_1, hcz11_2⟩ := cz3_ BK501.out; obtain ⟨hfz11_0, hfz11_1, hfz11_2⟩ := fz3_ BK501.out) | (refine gl_ 6 Try.func35 #[.agg #[.int .i64 a0_0, .int .i64 a0_1, .int .i64 a0_2]] ?_; (with_reducible refine (spec_MazeOk.calls a0_0 a0_1 a0_2 true _ A3.out).mono ?_); rintro e w12 ⟨rfl, hb⟩; refine ⟨_, rfl, ?_⟩; replace BK501 := BK501.bb hb; replace HB := HB.s1 GE501 hb; (try clear hb); obtain ⟨hcz13_0, hcz13_1, hcz13_2⟩ := cz3_ BK501.out; obtain ⟨hfz13_0, hfz13_1, hfz13_2⟩ := fz3_ BK501.out) | (go_at_call 14; (with_reducible refine (spec_CountGaps.calls a0_0 a0_1 t503 _ A5.out).mono ?_); rintro e w14 ⟨rfl, hb⟩; replace BK501 := BK501.bb hb; replace HB := HB.s1 GE501 hb; (try clear hb)) | (go_at_call 33; (with_reducible refine (spec_l01In.calls a1 0 (wrap64 (t503 - 1)) true _ A6.out).mono ?_); rintro e w' ⟨rfl, ⟨nd, rfl⟩⟩; obtain ⟨hcz15_0, hcz15_1, hcz15_2⟩ := cz3_ BK501.out; obtain ⟨hfz15_0, hfz15_1, hfz15_2⟩ := fz3_ BK501.out) | (go_at_call 44; (with_reducible refine (spec_l03Bit.calls a0_2 a1 true _ A8.out).mono ?_); rintro e w' ⟨rfl, ⟨nd, rfl⟩⟩))
    go_ret
    exact ⟨ex_, hb1_ HB.out GE501.out⟩
   ·replace c9 := Bool.eq_false_iff.mpr c9
    subst c9
    have H1 : ((spec_l05Apart.f k a0_0 a0_1 a0_2 a1).bind fun t506 => (some t506)) = some r := by rw [if_neg (show ¬ (false = true) by decide)] at H; exact H
    clear H
    have H := H1
    clear H1
    replace H := Option.bind_eq_some_iff.mp H
    obtain ⟨t506, A160, H⟩ := H
    replace H : (some t506) = some r := H
    have A16 := Aside0.mk A160
    clear A160
    obtain rfl := Option.some.inj H
    go_enter Try.func54, Try.ntmps54
    go_wp2_with (first | (refine box_ (N := 2) (cs := #[.int .i64 a0_0, .int .i64 a0_1, .int .i64 a0_2]) (t := 28) ?_; intro gb501 hg w17 hbox hb; have BK501 := Aside0.mk (hbox); have GW501 := HB.g0 hg; have GE501 := HB.g0 hg; replace HB := HB.s0 hb; clear hb hbox hg; obtain ⟨hcz18_0, hcz18_1, hcz18_2⟩ := cz3_ BK501.out; obtain ⟨hfz18_0, hfz18_1, hfz18_2⟩ := fz3_ BK501.out) | (refine gl_ 6 Try.func35 #[.agg #[.int .i64 a0_0, .int .i64 a0_1, .int .i64 a0_2]] ?_; (with_reducible refine (spec_MazeOk.calls a0_0 a0_1 a0_2 true _ A3.out).mono ?_); rintro e w19 ⟨rfl, hb⟩; refine ⟨_, rfl, ?_⟩; replace BK501 := BK501.bb hb; replace HB := HB.s1 GE501 hb; (try clear hb); obtain ⟨hcz20_0, hcz20_1, hcz20_2⟩ := cz3_ BK501.out; obtain ⟨hfz20_0, hfz20_1, hfz20_2⟩ := fz3_ BK501.out) | (go_at_call 14; (with_reducible refine (spec_CountGaps.calls a0_0 a0_1 t503 _ A5.out).mono ?_); rintro e w21 ⟨rfl, hb⟩; replace BK501 := BK501.bb hb; replace HB := HB.s1 GE501 hb; (try clear hb)) | (go_at_call 33; (with_reducible refine (spec_l01In.calls a1 0 (wrap64 (t503 - 1)) true _ A6.out).mono ?_); rintro e w' ⟨rfl, ⟨nd, rfl⟩⟩; obtain ⟨hcz22_0, hcz22_1, hcz22_2⟩ := cz3_ BK501.out; obtain ⟨hfz22_0, hfz22_1, hfz22_2⟩ := fz3_ BK501.out) | (go_at_call 44; (with_reducible refine (spec_l03Bit.calls a0_2 a1 false _ A8.out).mono ?_); rintro e w' ⟨rfl, ⟨nd, rfl⟩⟩) | (go_at_call 73; (with_reducible refine (spec_l05Apart.calls k a0_0 a0_1 a0_2 a1 t506 _ A16.out).mono ?_); rintro e w23 ⟨rfl, hb⟩; replace BK501 := BK501.bb hb; replace HB := HB.s1 GE501 hb; (try clear hb)))
    go_ret
    exact ⟨ex_, hb1_ HB.out GE501.out⟩
  ·replace c7 := Bool.eq_false_iff.mpr c7
   subst c7
   have H1 : (some false) = some r := by rw [if_neg (show ¬ (false = true) by decide)] at H; exact H
   clear H
   have H := H1
   clear H1
   obtain rfl := Option.some.inj H
   go_enter Try.func54, Try.ntmps54
   go_wp2_with (first | (refine box_ (N := 2) (cs := #[.int .i64 a0_0, .int .i64 a0_1, .int .i64 a0_2]) (t := 28) ?_; intro gb501 hg w24 hbox hb; have BK501 := Aside0.mk (hbox); have GW501 := HB.g0 hg; have GE501 := HB.g0 hg; replace HB := HB.s0 hb; clear hb hbox hg; obtain ⟨hcz25_0, hcz25_1, hcz25_2⟩ := cz3_ BK501.out; obtain ⟨hfz25_0, hfz25_1, hfz25_2⟩ := fz3_ BK501.out) | (refine gl_ 6 Try.func35 #[.agg #[.int .i64 a0_0, .int .i64 a0_1, .int .i64 a0_2]] ?_; (with_reducible refine (spec_MazeOk.calls a0_0 a0_1 a0_2 true _ A3.out).mono ?_); rintro e w26 ⟨rfl, hb⟩; refine ⟨_, rfl, ?_⟩; replace BK501 := BK501.bb hb; replace HB := HB.s1 GE501 hb; (try clear hb); obtain ⟨hcz27_0, hcz27_1, hcz27_2⟩ := cz3_ BK501.out; obtain ⟨hfz27_0, hfz27_1, hfz27_2⟩ := fz3_ BK501.out) | (go_at_call 14; (with_reducible refine (spec_CountGaps.calls a0_0 a0_1 t503 _ A5.out).mono ?_); rintro e w28 ⟨rfl, hb⟩; replace BK501 := BK501.bb hb; replace HB := HB.s1 GE501 hb; (try clear hb)) | (go_at_call 33; (with_reducible refine (spec_l01In.calls a1 0 (wrap64 (t503 - 1)) false _ A6.out).mono ?_); rintro e w' ⟨rfl, ⟨nd, rfl⟩⟩))
   go_ret
   exact ⟨ex_, hb1_ HB.out GE501.out⟩
 ·replace c4 := Bool.eq_false_iff.mpr c4
  subst c4
  have H1 : (some false) = some r := by rw [if_neg (show ¬ (false = true) by decide)] at H; exact H
  clear H
  have H := H1
  clear H1
  obtain rfl := Option.some.inj H
  go_enter Try.func54, Try.ntmps54
  go_wp2_with (first | (refine box_ (N := 2) (cs := #[.int .i64 a0_0, .int .i64 a0_1, .int .i64 a0_2]) (t := 28) ?_; intro gb501 hg w29 hbox hb; have BK501 := Aside0.mk (hbox); have GW501 := HB.g0 hg; have GE501 := HB.g0 hg; replace HB := HB.s0 hb; clear hb hbox hg; obtain ⟨hcz30_0, hcz30_1, hcz30_2⟩ := cz3_ BK501.out; obtain ⟨hfz30_0, hfz30_1, hfz30_2⟩ := fz3_ BK501.out) | (refine gl_ 6 Try.func35 #[.agg #[.int .i64 a0_0, .int .i64 a0_1, .int .i64 a0_2]] ?_; (with_reducible refine (spec_MazeOk.calls a0_0 a0_1 a0_2 false _ A3.out).mono ?_); rintro e w31 ⟨rfl, hb⟩; refine ⟨_, rfl, ?_⟩; replace BK501 := BK501.bb hb; replace HB := HB.s1 GE501 hb; (try clear hb)))
  go_ret
  exact ⟨ex_, hb1_ HB.out GE501.out⟩

/-! ### spec_l12List: function 37 -/
mutual
def spec_l12List.j0 : Nat → Int → Int → List (S28) → Bool → Int → Int → Int → Int → Int → Int → Option ((List (S28)))
 | 0, _, _, _, _, _, _, _, _, _, _ => none
 | k + 1, x2, x3, x9, x35, x502000, x502001, x502002, x503000, x503001, x503002 => if x35 = true then ((spec_SetGap.f k x503000 x503001 x503002 x2 true).bind fun bt514 => ((spec_l12List.f k x502000 x502001 x502002 bt514.1 bt514.2.1 bt514.2.2.1 (wrap64 (x2 - 1)) (wrap64 (x3 - 1))).bind fun t519 => (if x9.length + t519.length < 5864062014805 then (some (x9 ++ t519)) else (none)))) else (some x9)
def spec_l12List.f : Nat → Int → Int → Int → Int → Int → Int → Int → Int → Option ((List (S28)))
 | 0, _, _, _, _, _, _, _, _ => none
 | k + 1, a0_0, a0_1, a0_2, a1_0, a1_1, a1_2, a2, a3 => if a3 = 0 then (some (([(⟨(⟨a1_0, a1_1⟩ : S26), a1_2⟩ : S28)] : List (S28)))) else (if a3 > (wrap64 (a2 + 1)) then (some (([] : List (S28)))) else ((spec_l12List.f k a0_0 a0_1 a0_2 a1_0 a1_1 a1_2 (wrap64 (a2 - 1)) a3).bind fun t509 => ((spec_l03Bit.f a0_2 a2).bind fun t512 => (if t512 = true then ((spec_WouldJoin.f k a1_0 a1_1 a1_2 a2).bind fun t513 => (spec_l12List.j0 k a2 a3 t509 t513 a0_0 a0_1 a0_2 a1_0 a1_1 a1_2)) else (spec_l12List.j0 k a2 a3 t509 false a0_0 a0_1 a0_2 a1_0 a1_1 a1_2)))))
end
theorem spec_l12List.mono_l : ∀ k, (∀ y0 y1 y2 y3 y4 y5 y6 y7, LeO (spec_l12List.f k y0 y1 y2 y3 y4 y5 y6 y7) (spec_l12List.f (k + 1) y0 y1 y2 y3 y4 y5 y6 y7)) ∧ (∀ y0 y1 y2 y3 y4 y5 y6 y7 y8 y9, LeO (spec_l12List.j0 k y0 y1 y2 y3 y4 y5 y6 y7 y8 y9) (spec_l12List.j0 (k + 1) y0 y1 y2 y3 y4 y5 y6 y7 y8 y9))
 | 0 => ⟨fun _ _ _ _ _ _ _ _ r h => by simp [spec_l12List.f] at h, fun _ _ _ _ _ _ _ _ _ _ r h => by simp [spec_l12List.j0] at h⟩
 | k + 1 => by
  obtain ⟨ih0, ih1⟩ := spec_l12List.mono_l k
  refine ⟨?_, ?_⟩
  ·intro y0 y1 y2 y3 y4 y5 y6 y7
   unfold spec_l12List.f
   repeat' first
   | (with_reducible exact ih0 ..)
   | (with_reducible exact ih1 ..)
   | (with_reducible exact spec_SetGap.mono ..)
   | (with_reducible exact spec_WouldJoin.mono ..)
   | (with_reducible first | exact lr_ _ | exact ln_ _ | refine li_ ?_ ?_ | refine lb_ ?_ fun _ => ?_)
   | exact ih0 ..
   | exact ih1 ..
   | exact spec_SetGap.mono ..
   | exact spec_WouldJoin.mono ..
   | exact ln_ _ | refine li_ ?_ ?_ | refine lb_ ?_ fun _ => ?_
  ·intro y0 y1 y2 y3 y4 y5 y6 y7 y8 y9
   unfold spec_l12List.j0
   repeat' first
   | (with_reducible exact ih0 ..)
   | (with_reducible exact ih1 ..)
   | (with_reducible exact spec_SetGap.mono ..)
   | (with_reducible exact spec_WouldJoin.mono ..)
   | (with_reducible first | exact lr_ _ | exact ln_ _ | refine li_ ?_ ?_ | refine lb_ ?_ fun _ => ?_)
   | exact ih0 ..
   | exact ih1 ..
   | exact spec_SetGap.mono ..
   | exact spec_WouldJoin.mono ..
   | exact ln_ _ | refine li_ ?_ ?_ | refine lb_ ?_ fun _ => ?_
theorem spec_l12List.mono : ∀ a0 a1 a2 a3 a4 a5 a6 a7 k, LeO (spec_l12List.f k a0 a1 a2 a3 a4 a5 a6 a7) (spec_l12List.f (k + 1) a0 a1 a2 a3 a4 a5 a6 a7) := by
 intro a0 a1 a2 a3 a4 a5 a6 a7 k
 obtain ⟨ih0, ih1⟩ := spec_l12List.mono_l k
 exact ih0 a0 a1 a2 a3 a4 a5 a6 a7
set_option maxHeartbeats 8000000 in
set_option maxRecDepth 100000 in
theorem spec_l12List.calls (k : Nat) : ∀ (a0_0 : Int) (a0_1 : Int) (a0_2 : Int) (a1_0 : Int) (a1_1 : Int) (a1_2 : Int) (a2 : Int) (a3 : Int) (r : List (S28)) (w : World) (h : spec_l12List.f k a0_0 a0_1 a0_2 a1_0 a1_1 a1_2 a2 a3 = some r),
  Calls Try.prog 37 #[.agg #[.int .i64 a0_0, .int .i64 a0_1, .int .i64 a0_2], .agg #[.int .i64 a1_0, .int .i64 a1_1, .int .i64 a1_2], .int .i64 a2, .int .i64 a3] w fun e w' => ∃ v0_ : Value, e = .returned (v0_) ∧ Kd.R k28 28 w' w.heap.size (fun _ => True) v0_ r ∧ Below w.heap.size w w' := by
 induction k using Nat.strongRecOn with
 | _ k ih =>
 intro a0_0 a0_1 a0_2 a1_0 a1_1 a1_2 a2 a3 r w h
 cases k with
 | zero => exact absurd h (by simp [spec_l12List.f])
 | succ k =>
 simp only [spec_l12List.f] at h
 have hu28 := Try.underlying28
 have HB := Aside0.mk (Below.refl w.heap.size w)
 have H : (if a3 = 0 then (some (([(⟨(⟨a1_0, a1_1⟩ : S26), a1_2⟩ : S28)] : List (S28)))) else (if a3 > (wrap64 (a2 + 1)) then (some (([] : List (S28)))) else ((spec_l12List.f k a0_0 a0_1 a0_2 a1_0 a1_1 a1_2 (wrap64 (a2 - 1)) a3).bind fun t509 => ((spec_l03Bit.f a0_2 a2).bind fun t512 => (if t512 = true then ((spec_WouldJoin.f k a1_0 a1_1 a1_2 a2).bind fun t513 => (spec_l12List.j0 k a2 a3 t509 t513 a0_0 a0_1 a0_2 a1_0 a1_1 a1_2)) else (spec_l12List.j0 k a2 a3 t509 false a0_0 a0_1 a0_2 a1_0 a1_1 a1_2)))))) = some r := h
 clear h
 by_cases c5 : a3 = 0
 ·rw [if_pos c5] at H
  have c5b0 : (a3 == 0) = true := beq_iff_eq.mpr c5
  have c5b1 : (a3 != 0) = false := bne_eq_false_iff_eq.mpr c5
  clear c5
  obtain ⟨y503, hy503⟩ : ∃ y_ : List (S28), y_ = (([(⟨(⟨a1_0, a1_1⟩ : S26), a1_2⟩ : S28)] : List (S28))) := ⟨_, rfl⟩
  replace H : (some y503) = some r := by first | (rw [hy503]; with_reducible exact H) | (have H2_ := (Option.bind_some _ _).symm.trans H; rw [hy503]; with_reducible exact H2_) | (have H2_ := (Option.bind_some _ _).symm.trans H; with_reducible exact H2_) | with_reducible exact H | (rw [hy503]; exact H) | exact H
  have Ny503 := Aside0.mk hy503
  clear hy503
  obtain rfl := Option.some.inj H
  go_enter Try.func37, Try.ntmps37
  go_wp2_with (first | (refine box_ (N := 4) (cs := #[.int .i64 a0_0, .int .i64 a0_1, .int .i64 a0_2]) (t := 28) ?_; intro gb501 hg w6 hbox hb; have BK501 := Aside0.mk (hbox); have GW501 := HB.g0 hg; have GE501 := HB.g0 hg; replace HB := HB.s0 hb; clear hb hbox hg) | (refine box_ (N := 5) (cs := #[.int .i64 a1_0, .int .i64 a1_1, .int .i64 a1_2]) (t := 28) ?_; intro gb502 hg w7 hbox hb; have BK502 := Aside0.mk (hbox); have GW502 := HB.g1 GE501 hg; have GE502 := HB.g1 GE501 hg; replace HB := HB.s1 GE501 hb; have NB501_502 := BK501.nl hg; have NB502_501 := BK501.nr hg; replace BK501 := BK501.bb hb; clear hb hbox hg; have hnb8 := NB502_501.out; have hnc8 := NB501_502.out; obtain ⟨hcz9_0, hcz9_1, hcz9_2⟩ := cz3_ BK502.out; obtain ⟨hfz9_0, hfz9_1, hfz9_2⟩ := fz3_ BK502.out) | ((with_reducible refine gate_dst (N := 15) rfl ?_); refine Kd.R_lit k28 _ 28 ?hg (N := 15) ?hd (xs := ([(⟨(⟨a1_0, a1_1⟩ : S26), a1_2⟩ : S28)] : List (S28))) (inner := [.int .i64 a1_0, .int .i64 a1_1, .int .i64 a1_2]) (ok := fun _ => True) (okp := fun _ => True) ?hr ?hp (fun _ hk => hk) trivial (Below.refl _ _) (Nat.le_refl _) (by simp) ?_; (case hd => rfl); (case hg => rfl); (case hr => first | (go_simp; done) | (go_simp; rfl)); (case hp => exact (Reps.c3 (show Kd.M k28 _ _ _ (⟨(⟨a1_0, a1_1⟩ : S26), a1_2⟩ : S28) [.int .i64 a1_0, .int .i64 a1_1, .int .i64 a1_2] from (k28_mkM _ _ _ (⟨(⟨a1_0, a1_1⟩ : S26), a1_2⟩ : S28) )) (Reps.none _ _))); intro v504 w10 ho11 hb hg_ hnew_; clear hg_ hnew_; (first | rw [← Ny503.out] at ho11 | (simp only [Int.reduceToNat] at ho11; rw [← Ny503.out] at ho11)); have HO505 := Aside0.mk (Kd.R_lower (Kd.R_newB (Kd.R_newB ho11 (g := gb501) (o := .cells #[.int .i64 a0_0, .int .i64 a0_1, .int .i64 a0_2] 28 (0, 0)) (bk_ BK501.out)) (g := gb502) (o := .cells #[.int .i64 a1_0, .int .i64 a1_1, .int .i64 a1_2] 28 (0, 0)) (bk_ BK502.out)) (below_size (hb2_ HB.out GE501.out GE502.out))); replace BK501 := BK501.bb hb; replace BK502 := BK502.bb hb; replace HB := HB.s2 GE501 GE502 hb; clear hb ho11))
  go_ret
  exact ⟨_, ex_, by (with_reducible repeat (first | apply Kd.R_alloc | apply Kd.R_drewN | apply Kd.R_drew)); exact Kd.R_mono HO505.out (fun _ hk => trivial), hb2_ HB.out GE501.out GE502.out⟩
 ·rw [if_neg c5] at H
  have c5b0 : (a3 == 0) = false := beq_eq_false_iff_ne.mpr c5
  have c5b1 : (a3 != 0) = true := bne_iff_ne.mpr c5
  by_cases c12 : a3 > (wrap64 (a2 + 1))
  ·rw [if_pos c12] at H
   have c12b0 : decide ((wrap64 (a2 + 1)) < a3) = true := decide_eq_true c12
   clear c12
   obtain ⟨y506, hy506⟩ : ∃ y_ : List (S28), y_ = (([] : List (S28))) := ⟨_, rfl⟩
   replace H : (some y506) = some r := by first | (rw [hy506]; with_reducible exact H) | (have H2_ := (Option.bind_some _ _).symm.trans H; rw [hy506]; with_reducible exact H2_) | (have H2_ := (Option.bind_some _ _).symm.trans H; with_reducible exact H2_) | with_reducible exact H | (rw [hy506]; exact H) | exact H
   have Ny506 := Aside0.mk hy506
   clear hy506
   obtain rfl := Option.some.inj H
   go_enter Try.func37, Try.ntmps37
   go_wp2_with (first | (refine box_ (N := 4) (cs := #[.int .i64 a0_0, .int .i64 a0_1, .int .i64 a0_2]) (t := 28) ?_; intro gb501 hg w13 hbox hb; have BK501 := Aside0.mk (hbox); have GW501 := HB.g0 hg; have GE501 := HB.g0 hg; replace HB := HB.s0 hb; clear hb hbox hg) | (refine box_ (N := 5) (cs := #[.int .i64 a1_0, .int .i64 a1_1, .int .i64 a1_2]) (t := 28) ?_; intro gb502 hg w14 hbox hb; have BK502 := Aside0.mk (hbox); have GW502 := HB.g1 GE501 hg; have GE502 := HB.g1 GE501 hg; replace HB := HB.s1 GE501 hb; have NB501_502 := BK501.nl hg; have NB502_501 := BK501.nr hg; replace BK501 := BK501.bb hb; clear hb hbox hg) | ((with_reducible refine gate_dst (N := 20) rfl ?_); refine Kd.R_lit k28 _ 28 ?hg (N := 20) ?hd (xs := ([] : List (S28))) (inner := []) (ok := fun _ => True) (okp := fun _ => True) ?hr ?hp (fun _ hk => hk) trivial (Below.refl _ _) (Nat.le_refl _) (by simp) ?_; (case hd => rfl); (case hg => rfl); (case hr => first | (go_simp; done) | (go_simp; rfl)); (case hp => exact (Reps.none _ _)); intro v507 w15 ho16 hb hg_ hnew_; clear hg_ hnew_; (first | rw [← Ny506.out] at ho16 | (simp only [Int.reduceToNat] at ho16; rw [← Ny506.out] at ho16)); have HO508 := Aside0.mk (Kd.R_lower (Kd.R_newB (Kd.R_newB ho16 (g := gb501) (o := .cells #[.int .i64 a0_0, .int .i64 a0_1, .int .i64 a0_2] 28 (0, 0)) (bk_ BK501.out)) (g := gb502) (o := .cells #[.int .i64 a1_0, .int .i64 a1_1, .int .i64 a1_2] 28 (0, 0)) (bk_ BK502.out)) (below_size (hb2_ HB.out GE501.out GE502.out))); replace BK501 := BK501.bb hb; replace BK502 := BK502.bb hb; replace HB := HB.s2 GE501 GE502 hb; clear hb ho16))
   go_ret
   exact ⟨_, ex_, by (with_reducible repeat (first | apply Kd.R_alloc | apply Kd.R_drewN | apply Kd.R_drew)); exact Kd.R_mono HO508.out (fun _ hk => trivial), hb2_ HB.out GE501.out GE502.out⟩
  ·rw [if_neg c12] at H
   have c12b0 : decide ((wrap64 (a2 + 1)) < a3) = false := decide_eq_false c12
   clear c12
   replace H := Option.bind_eq_some_iff.mp H
   obtain ⟨t509, A170, H⟩ := H
   replace H : ((spec_l03Bit.f a0_2 a2).bind fun t512 => (if t512 = true then ((spec_WouldJoin.f k a1_0 a1_1 a1_2 a2).bind fun t513 => (spec_l12List.j0 k a2 a3 t509 t513 a0_0 a0_1 a0_2 a1_0 a1_1 a1_2)) else (spec_l12List.j0 k a2 a3 t509 false a0_0 a0_1 a0_2 a1_0 a1_1 a1_2))) = some r := H
   have A17 := Aside0.mk A170
   clear A170
   have HC18 := Aside0.mk H
   clear H
   go_enter Try.func37, Try.ntmps37
   go_upto_region 6 with (first | (refine box_ (N := 4) (cs := #[.int .i64 a0_0, .int .i64 a0_1, .int .i64 a0_2]) (t := 28) ?_; intro gb501 hg w19 hbox hb; have BK501 := Aside0.mk (hbox); have GW501 := HB.g0 hg; have GE501 := HB.g0 hg; replace HB := HB.s0 hb; clear hb hbox hg) | (refine box_ (N := 5) (cs := #[.int .i64 a1_0, .int .i64 a1_1, .int .i64 a1_2]) (t := 28) ?_; intro gb502 hg w20 hbox hb; have BK502 := Aside0.mk (hbox); have GW502 := HB.g1 GE501 hg; have GE502 := HB.g1 GE501 hg; replace HB := HB.s1 GE501 hb; have NB501_502 := BK501.nl hg; have NB502_501 := BK501.nr hg; replace BK501 := BK501.bb hb; clear hb hbox hg; have hnb21 := NB501_502.out; have hnc21 := NB502_501.out; obtain ⟨hcz22_0, hcz22_1, hcz22_2⟩ := cz3_ BK501.out; obtain ⟨hfz22_0, hfz22_1, hfz22_2⟩ := fz3_ BK501.out; obtain ⟨hcz23_0, hcz23_1, hcz23_2⟩ := cz3_ BK502.out; obtain ⟨hfz23_0, hfz23_1, hfz23_2⟩ := fz3_ BK502.out) | (refine gl_ 26 Try.func37 #[.agg #[.int .i64 a0_0, .int .i64 a0_1, .int .i64 a0_2], .agg #[.int .i64 a1_0, .int .i64 a1_1, .int .i64 a1_2], .int .i64 (wrap64 (a2 - 1)), .int .i64 a3] ?_; (with_reducible refine (ih k (by omega) a0_0 a0_1 a0_2 a1_0 a1_1 a1_2 (wrap64 (a2 - 1)) a3 t509 _ A17.out).mono ?_); rintro e w24 ⟨v510, rfl, ho0, hb⟩; refine ⟨_, rfl, ?_⟩; have HO511 := Aside0.mk (Kd.R_lower (Kd.R_newB (Kd.R_newB ho0 (g := gb501) (o := .cells #[.int .i64 a0_0, .int .i64 a0_1, .int .i64 a0_2] 28 (0, 0)) (bk_ BK501.out)) (g := gb502) (o := .cells #[.int .i64 a1_0, .int .i64 a1_1, .int .i64 a1_2] 28 (0, 0)) (bk_ BK502.out)) (below_size (hb2_ HB.out GE501.out GE502.out))); replace BK501 := BK501.bb hb; replace BK502 := BK502.bb hb; replace HB := HB.s2 GE501 GE502 hb; (try clear hb); (try clear ho0)))
   (try simp only [Act.put, List.setIfInBounds_toArray, List.set_cons_zero, List.set_cons_succ])
   go_cut [35] (fun v35 wc => ∃ (kq : Nat) (x35_17 : Bool), v35 = .bool x35_17 ∧ Aside0 (spec_l12List.j0 kq a2 a3 t509 x35_17 a0_0 a0_1 a0_2 a1_0 a1_1 a1_2 = some r) ∧ Aside0 (kq ≤ k) ∧ Aside0 (Kd.R k28 28 wc w.heap.size (fun k_ => k_ ≠ gb501 ∧ k_ ≠ gb502) v510 t509) ∧ Aside0 (wc.heap[gb501]? = some (.cells #[.int .i64 a0_0, .int .i64 a0_1, .int .i64 a0_2] 28 (0, 0))) ∧ Aside0 (wc.heap[gb502]? = some (.cells #[.int .i64 a1_0, .int .i64 a1_1, .int .i64 a1_2] 28 (0, 0))) ∧ Aside0 (Below w.heap.size w wc))
   case first =>
    have H := HC18.out
    clear HC18
    replace H := Option.bind_eq_some_iff.mp H
    obtain ⟨t512, A250, H⟩ := H
    replace H : (if t512 = true then ((spec_WouldJoin.f k a1_0 a1_1 a1_2 a2).bind fun t513 => (spec_l12List.j0 k a2 a3 t509 t513 a0_0 a0_1 a0_2 a1_0 a1_1 a1_2)) else (spec_l12List.j0 k a2 a3 t509 false a0_0 a0_1 a0_2 a1_0 a1_1 a1_2)) = some r := H
    have A25 := Aside0.mk A250
    clear A250
    by_cases c26 : t512 = true
    ·subst c26
     have H1 : ((spec_WouldJoin.f k a1_0 a1_1 a1_2 a2).bind fun t513 => (spec_l12List.j0 k a2 a3 t509 t513 a0_0 a0_1 a0_2 a1_0 a1_1 a1_2)) = some r := by rw [if_pos rfl] at H; exact H
     clear H
     have H := H1
     clear H1
     replace H := Option.bind_eq_some_iff.mp H
     obtain ⟨t513, A270, H⟩ := H
     replace H : (spec_l12List.j0 k a2 a3 t509 t513 a0_0 a0_1 a0_2 a1_0 a1_1 a1_2) = some r := H
     have A27 := Aside0.mk A270
     clear A270
     have H' := Aside0.mk H
     clear H
     have hnb28 := NB501_502.out
     have hnc28 := NB502_501.out
     obtain ⟨hcz29_0, hcz29_1, hcz29_2⟩ := cz3_ BK501.out
     obtain ⟨hfz29_0, hfz29_1, hfz29_2⟩ := fz3_ BK501.out
     go_wp2_with (first | (refine gl_ 30 Try.func44 #[.int .i64 a0_2, .int .i64 a2] ?_; (with_reducible refine (spec_l03Bit.calls a0_2 a2 true _ A25.out).mono ?_); rintro e w' ⟨rfl, ⟨nd, rfl⟩⟩; refine ⟨_, rfl, ?_⟩; obtain ⟨hcz30_0, hcz30_1, hcz30_2⟩ := cz3_ BK502.out; obtain ⟨hfz30_0, hfz30_1, hfz30_2⟩ := fz3_ BK502.out) | (go_at_call 54; (with_reducible refine (spec_WouldJoin.calls k a1_0 a1_1 a1_2 a2 t513 _ A27.out).mono ?_); rintro e w31 ⟨rfl, hb⟩; replace HO511 := HO511.kb hb; replace BK501 := BK501.bb hb; replace BK502 := BK502.bb hb; replace HB := HB.s2 GE501 GE502 hb; (try clear hb)))
     go_meet
     case rel => exact ⟨_, (t513), (by first | rfl | (simp; done) | (simp [*]; done)), H', ⟨by first | omega | exact Nat.le_refl _⟩, ⟨by (with_reducible repeat (first | apply Kd.R_alloc | apply Kd.R_drewN | apply Kd.R_drew)); exact Kd.R_mono HO511.out (fun _ hk => ⟨hk.1.2, hk.2⟩)⟩, ⟨bk_ BK501.out⟩, ⟨bk_ BK502.out⟩, ⟨hb2_ HB.out GE501.out GE502.out⟩⟩
    ·replace c26 := Bool.eq_false_iff.mpr c26
     subst c26
     have H1 : (spec_l12List.j0 k a2 a3 t509 false a0_0 a0_1 a0_2 a1_0 a1_1 a1_2) = some r := by rw [if_neg (show ¬ (false = true) by decide)] at H; exact H
     clear H
     have H := H1
     clear H1
     have H' := Aside0.mk H
     clear H
     have hnb32 := NB501_502.out
     have hnc32 := NB502_501.out
     obtain ⟨hcz33_0, hcz33_1, hcz33_2⟩ := cz3_ BK501.out
     obtain ⟨hfz33_0, hfz33_1, hfz33_2⟩ := fz3_ BK501.out
     go_wp2_with (first | (refine gl_ 30 Try.func44 #[.int .i64 a0_2, .int .i64 a2] ?_; (with_reducible refine (spec_l03Bit.calls a0_2 a2 false _ A25.out).mono ?_); rintro e w' ⟨rfl, ⟨nd, rfl⟩⟩; refine ⟨_, rfl, ?_⟩))
     go_meet
     case rel => exact ⟨_, (false), (by first | rfl | (simp; done) | (simp [*]; done)), H', ⟨by first | omega | exact Nat.le_refl _⟩, ⟨by (with_reducible repeat (first | apply Kd.R_alloc | apply Kd.R_drewN | apply Kd.R_drew)); exact Kd.R_mono HO511.out (fun _ hk => ⟨hk.1.2, hk.2⟩)⟩, ⟨bk_ BK501.out⟩, ⟨bk_ BK502.out⟩, ⟨hb2_ HB.out GE501.out GE502.out⟩⟩
   case rest =>
    clear HC18
    try clear c1
    try clear c2
    try clear p2
    try clear c3
    try clear c4
    try clear c5
    try clear c5b0
    try clear c5b1
    try clear p6
    try clear c8
    try clear c12
    try clear c12b0
    try clear c21
    try clear c26
    try clear c28
    try clear c32
    try clear hcz22_0
    try clear hcz22_1
    try clear hcz22_2
    try clear hcz23_0
    try clear hcz23_1
    try clear hcz23_2
    try clear hcz29_0
    try clear hcz29_1
    try clear hcz29_2
    try clear hcz30_0
    try clear hcz30_1
    try clear hcz30_2
    try clear hcz33_0
    try clear hcz33_1
    try clear hcz33_2
    try clear hcz9_0
    try clear hcz9_1
    try clear hcz9_2
    try clear hfz22_0
    try clear hfz22_1
    try clear hfz22_2
    try clear hfz23_0
    try clear hfz23_1
    try clear hfz23_2
    try clear hfz29_0
    try clear hfz29_1
    try clear hfz29_2
    try clear hfz30_0
    try clear hfz30_1
    try clear hfz30_2
    try clear hfz33_0
    try clear hfz33_1
    try clear hfz33_2
    try clear hfz9_0
    try clear hfz9_1
    try clear hfz9_2
    obtain ⟨kq, x35_17, rfl, HA, HJ17, HO_9, BK501, BK502, HB⟩ := hcut
    cases kq with
    | zero => exact absurd HA.out (by simp [spec_l12List.j0])
    | succ kj17 =>
     have H := HA.out
     clear HA
     simp only [spec_l12List.j0] at H
     by_cases c34 : x35_17 = true
     ·subst c34
      have H1 : ((spec_SetGap.f kj17 a1_0 a1_1 a1_2 a2 true).bind fun bt514 => ((spec_l12List.f kj17 a0_0 a0_1 a0_2 bt514.1 bt514.2.1 bt514.2.2.1 (wrap64 (a2 - 1)) (wrap64 (a3 - 1))).bind fun t519 => (if t509.length + t519.length < 5864062014805 then (some (t509 ++ t519)) else (none)))) = some r := by rw [if_pos rfl] at H; exact H
      clear H
      have H := H1
      clear H1
      replace H := Option.bind_eq_some_iff.mp H
      obtain ⟨⟨t514, t515, t516, t517⟩, A350, H⟩ := H
      replace H : ((spec_l12List.f kj17 a0_0 a0_1 a0_2 t514 t515 t516 (wrap64 (a2 - 1)) (wrap64 (a3 - 1))).bind fun t519 => (if t509.length + t519.length < 5864062014805 then (some (t509 ++ t519)) else (none))) = some r := H
      have A35 := Aside0.mk A350
      clear A350
      replace H := Option.bind_eq_some_iff.mp H
      obtain ⟨t519, A360, H⟩ := H
      replace H : (if t509.length + t519.length < 5864062014805 then (some (t509 ++ t519)) else (none)) = some r := H
      have A36 := Aside0.mk A360
      clear A360
      by_cases c37 : t509.length + t519.length < 5864062014805
      ·rw [if_pos c37] at H
       have LMc37 := Aside0.mk c37
       clear c37
       obtain ⟨y522, hy522⟩ : ∃ y_ : List (S28), y_ = (t509 ++ t519) := ⟨_, rfl⟩
       replace H : (some y522) = some r := by first | (rw [hy522]; with_reducible exact H) | (have H2_ := (Option.bind_some _ _).symm.trans H; rw [hy522]; with_reducible exact H2_) | (have H2_ := (Option.bind_some _ _).symm.trans H; with_reducible exact H2_) | with_reducible exact H | (rw [hy522]; exact H) | exact H
       have Ny522 := Aside0.mk hy522
       clear hy522
       obtain rfl := Option.some.inj H
       have hnb38 := NB502_501.out
       have hnc38 := NB501_502.out
       obtain ⟨hcz39_0, hcz39_1, hcz39_2⟩ := cz3_ BK502.out
       obtain ⟨hfz39_0, hfz39_1, hfz39_2⟩ := fz3_ BK502.out
       go_wp2_with (first | (refine gl_ 39 Try.func22 #[.agg #[.int .i64 a1_0, .int .i64 a1_1, .int .i64 a1_2], .int .i64 a2, .bool true] ?_; (with_reducible refine (spec_SetGap.calls kj17 a1_0 a1_1 a1_2 a2 true t514 t515 t516 t517 _ A35.out).mono ?_); rintro e w40 ⟨rfl, hb⟩; refine ⟨_, rfl, ?_⟩; replace HO_9 := HO_9.kb hb; replace BK501 := BK501.bb hb; replace BK502 := BK502.bb hb; replace HB := HB.s2 GE501 GE502 hb; (try clear hb)) | (refine box_ (N := 10) (cs := #[.int .i64 0, .int .i64 0, .int .i64 0]) (t := 28) ?_; intro gb518 hg w41 hbox hb; replace HO_9 := Aside0.mk (Kd.R_below (Kd.R_elderB (kr_ HO_9.out) gb518 (Nat.le_of_eq hg.symm)) hb); have BK518 := Aside0.mk (hbox); have GW518 := HB.g2 GE501 GE502 hg; have GE518 := HB.g2 GE501 GE502 hg; replace HB := HB.s2 GE501 GE502 hb; have NB501_518 := BK501.nl hg; have NB518_501 := BK501.nr hg; replace BK501 := BK501.bb hb; have NB502_518 := BK502.nl hg; have NB518_502 := BK502.nr hg; replace BK502 := BK502.bb hb; clear hb hbox hg; have hnb42 := NB518_501.out; have hnc42 := NB501_518.out; have hnb43 := NB518_502.out; have hnc43 := NB502_518.out; obtain ⟨hcz44_0, hcz44_1, hcz44_2⟩ := cz3_ BK518.out; obtain ⟨hfz44_0, hfz44_1, hfz44_2⟩ := fz3_ BK518.out; obtain ⟨hcz45_0, hcz45_1, hcz45_2⟩ := cz3_ BK501.out; obtain ⟨hfz45_0, hfz45_1, hfz45_2⟩ := fz3_ BK501.out) | (refine gl_ 49 Try.func37 #[.agg #[.int .i64 a0_0, .int .i64 a0_1, .int .i64 a0_2], .agg #[.int .i64 t514, .int .i64 t515, .int .i64 t516], .int .i64 (wrap64 (a2 - 1)), .int .i64 (wrap64 (a3 - 1))] ?_; (with_reducible refine (ih kj17 (by have := HJ17.out; omega) a0_0 a0_1 a0_2 t514 t515 t516 (wrap64 (a2 - 1)) (wrap64 (a3 - 1)) t519 _ A36.out).mono ?_); rintro e w46 ⟨v520, rfl, ho0, hb⟩; refine ⟨_, rfl, ?_⟩; have n0_ := Aside0.mk (Kd.R_elder' (by (with_reducible repeat (first | apply Kd.R_alloc | apply Kd.R_drewN | apply Kd.R_drew)); exact (Kd.R_mono (Kd.R_far (p := ⟨gb518, 2, none⟩) (Kd.R_far (p := ⟨gb518, 1, none⟩) (Kd.R_far (p := ⟨gb518, 0, none⟩) (Kd.R_mono HO_9.out (fun k_ hk => (⟨hk, hk.2⟩ : _ ∧ k_ ≠ gb518))) (fun _ hk => hk.2) (.int .i64 t514)) (fun _ hk => hk.2) (.int .i64 t515)) (fun _ hk => hk.2) (.int .i64 t516)) (fun _ h_ => h_.1))) (Kd.R_base ho0) hb); have n1_ := Aside0.mk (Kd.R_lower (Kd.R_newB (Kd.R_newB (Kd.R_newB (Kd.R_new' ho0 (Kd.R_lt (by (with_reducible repeat (first | apply Kd.R_alloc | apply Kd.R_drewN | apply Kd.R_drew)); exact (Kd.R_mono (Kd.R_far (p := ⟨gb518, 2, none⟩) (Kd.R_far (p := ⟨gb518, 1, none⟩) (Kd.R_far (p := ⟨gb518, 0, none⟩) (Kd.R_mono HO_9.out (fun k_ hk => (⟨hk, hk.2⟩ : _ ∧ k_ ≠ gb518))) (fun _ hk => hk.2) (.int .i64 t514)) (fun _ hk => hk.2) (.int .i64 t515)) (fun _ hk => hk.2) (.int .i64 t516)) (fun _ h_ => h_.1))))) (g := gb501) (o := .cells #[.int .i64 a0_0, .int .i64 a0_1, .int .i64 a0_2] 28 (0, 0)) (by (with_reducible repeat (first | refine blk_drewN ?_ _ | refine blk_drew ?_ | refine blk_alloc ?_ _)); refine blk_far ?_ NB501_518.out _; (with_reducible repeat (first | refine blk_drewN ?_ _ | refine blk_drew ?_ | refine blk_alloc ?_ _)); refine blk_far ?_ NB501_518.out _; (with_reducible repeat (first | refine blk_drewN ?_ _ | refine blk_drew ?_ | refine blk_alloc ?_ _)); refine blk_far ?_ NB501_518.out _; (with_reducible repeat (first | refine blk_drewN ?_ _ | refine blk_drew ?_ | refine blk_alloc ?_ _)); exact BK501.out)) (g := gb502) (o := .cells #[.int .i64 a1_0, .int .i64 a1_1, .int .i64 a1_2] 28 (0, 0)) (by (with_reducible repeat (first | refine blk_drewN ?_ _ | refine blk_drew ?_ | refine blk_alloc ?_ _)); refine blk_far ?_ NB502_518.out _; (with_reducible repeat (first | refine blk_drewN ?_ _ | refine blk_drew ?_ | refine blk_alloc ?_ _)); refine blk_far ?_ NB502_518.out _; (with_reducible repeat (first | refine blk_drewN ?_ _ | refine blk_drew ?_ | refine blk_alloc ?_ _)); refine blk_far ?_ NB502_518.out _; (with_reducible repeat (first | refine blk_drewN ?_ _ | refine blk_drew ?_ | refine blk_alloc ?_ _)); exact BK502.out)) (g := gb518) (o := .cells #[.int .i64 t514, .int .i64 t515, .int .i64 t516] 28 (0, 0)) (bq3_ BK518.out)) (below_size (hb3_ HB.out GE501.out GE502.out GE518.out))); have n2_ := Aside0.mk (blk_below (g := gb501) (o := .cells #[.int .i64 a0_0, .int .i64 a0_1, .int .i64 a0_2] 28 (0, 0)) (by (with_reducible repeat (first | refine blk_drewN ?_ _ | refine blk_drew ?_ | refine blk_alloc ?_ _)); refine blk_far ?_ NB501_518.out _; (with_reducible repeat (first | refine blk_drewN ?_ _ | refine blk_drew ?_ | refine blk_alloc ?_ _)); refine blk_far ?_ NB501_518.out _; (with_reducible repeat (first | refine blk_drewN ?_ _ | refine blk_drew ?_ | refine blk_alloc ?_ _)); refine blk_far ?_ NB501_518.out _; (with_reducible repeat (first | refine blk_drewN ?_ _ | refine blk_drew ?_ | refine blk_alloc ?_ _)); exact BK501.out) hb); have n3_ := Aside0.mk (blk_below (g := gb502) (o := .cells #[.int .i64 a1_0, .int .i64 a1_1, .int .i64 a1_2] 28 (0, 0)) (by (with_reducible repeat (first | refine blk_drewN ?_ _ | refine blk_drew ?_ | refine blk_alloc ?_ _)); refine blk_far ?_ NB502_518.out _; (with_reducible repeat (first | refine blk_drewN ?_ _ | refine blk_drew ?_ | refine blk_alloc ?_ _)); refine blk_far ?_ NB502_518.out _; (with_reducible repeat (first | refine blk_drewN ?_ _ | refine blk_drew ?_ | refine blk_alloc ?_ _)); refine blk_far ?_ NB502_518.out _; (with_reducible repeat (first | refine blk_drewN ?_ _ | refine blk_drew ?_ | refine blk_alloc ?_ _)); exact BK502.out) hb); have n4_ := Aside0.mk (blk_below (bq3_ BK518.out) hb); have n5_ := HB.s3 GE501 GE502 GE518 hb; clear HO_9; clear BK501; clear BK502; clear BK518; clear HB; have HO_9 := n0_; have HO521 := n1_; have BK501 := n2_; have BK502 := n3_; have BK518 := n4_; have HB := n5_; clear n0_ n1_ n2_ n3_ n4_ n5_; (try clear hb); (try clear ho0); obtain ⟨Ao48, co48, eo48⟩ := Kd.R_slice HO521.out; subst eo48) | ((with_reducible refine gate_builtin (b := .append) (xs := #[.tmp 42, .tmp 49]) rfl ?_); at_builtin; refine Kd.R_append_rows k28 (w0 := w) w.heap.size rfl (.tmp 42) (.tmp 49) 43 28 (.agg #[(.int .i64 0), (.int .i64 0), (.int .i64 0)]) 24 rfl Try.underlying43 info28 rfl (by decide) (by omega) v510 t509 t519 _ _ _ (fun k_ => some k_ ≠ (.slice Ao48 t519.length co48 : Value).ownBlock ∧ k_ ≠ gb501 ∧ k_ ≠ gb502 ∧ k_ ≠ gb518) (fun _ => False) rfl rfl ?aO ?aR (fun _ _ h => h) (fun _ h => h.elim) ?aF ?aB ?aS ?aL ?_; (case aR => repeat (first | exact (Kd.R_reads' HO521.out).2.2 | (with_reducible refine Kd.C_alloc ?_ _) | (with_reducible refine Kd.C_drewN ?_ _) | (with_reducible refine Kd.C_drew ?_))); (case aB => exact (hb3_ HB.out GE501.out GE502.out GE518.out)); (case aF => exact (fun k_ hk => ⟨Kd.fresh' (Kd.R_lt (kr_ HO521.out)) k_ hk, Kd.freshB (g := gb501) (o := .cells #[.int .i64 a0_0, .int .i64 a0_1, .int .i64 a0_2] 28 (0, 0)) (bk_ BK501.out) k_ hk, Kd.freshB (g := gb502) (o := .cells #[.int .i64 a1_0, .int .i64 a1_1, .int .i64 a1_2] 28 (0, 0)) (bk_ BK502.out) k_ hk, Kd.freshB (g := gb518) (o := .cells #[.int .i64 t514, .int .i64 t515, .int .i64 t516] 28 (0, 0)) (bk_ BK518.out) k_ hk⟩)); (case aO => exact (by (with_reducible repeat (first | apply Kd.R_alloc | apply Kd.R_drewN | apply Kd.R_drew)); exact Kd.R_mono HO_9.out (fun _ hk => ⟨hk.2, ⟨hk.1.1.1, ⟨hk.1.1.2, hk.1.2⟩⟩⟩))); (case aS => exact (below_size (hb3_ HB.out GE501.out GE502.out GE518.out))); (case aL => have := LMc37.out; omega); intro v523 w47 ho hb hg hat; rw [← Ny522.out] at ho; replace BK501 := Aside0.mk (blk_grown (g := gb501) (o := .cells #[.int .i64 a0_0, .int .i64 a0_1, .int .i64 a0_2] 28 (0, 0)) (bk_ BK501.out) hg (Kd.R_away HO_9.out (fun _ hk => hk.1.1.1))); replace BK502 := Aside0.mk (blk_grown (g := gb502) (o := .cells #[.int .i64 a1_0, .int .i64 a1_1, .int .i64 a1_2] 28 (0, 0)) (bk_ BK502.out) hg (Kd.R_away HO_9.out (fun _ hk => hk.1.1.2))); replace BK518 := Aside0.mk (blk_grown (g := gb518) (o := .cells #[.int .i64 t514, .int .i64 t515, .int .i64 t516] 28 (0, 0)) (bk_ BK518.out) hg (Kd.R_away HO_9.out (fun _ hk => hk.1.2))); replace HO521 := Aside0.mk (Kd.R_after (ok := (fun k_ => k_ ≠ gb501 ∧ k_ ≠ gb502 ∧ k_ ≠ gb518)) (by (with_reducible repeat (first | apply Kd.R_alloc | apply Kd.R_drewN | apply Kd.R_drew)); exact Kd.R_mono HO521.out (fun _ hk => ⟨⟨hk.1.1.2, ⟨hk.1.2, hk.2⟩⟩, hk.1.1.1.2⟩)) hg hat); replace HB := Aside0.mk (hb); have HO524 := Aside0.mk (ho); clear HO_9; clear ho hb hg hat))
       go_ret
       exact ⟨_, ex_, by (with_reducible repeat (first | apply Kd.R_alloc | apply Kd.R_drewN | apply Kd.R_drew)); exact Kd.R_mono HO524.out (fun _ hk => trivial), hb3_ HB.out GE501.out GE502.out GE518.out⟩
      ·rw [if_neg c37] at H
       exact absurd H (by simp)
     ·replace c34 := Bool.eq_false_iff.mpr c34
      subst c34
      have H1 : (some t509) = some r := by rw [if_neg (show ¬ (false = true) by decide)] at H; exact H
      clear H
      have H := H1
      clear H1
      obtain rfl := Option.some.inj H
      go_wp2
      go_ret
      exact ⟨_, ex_, by (with_reducible repeat (first | apply Kd.R_alloc | apply Kd.R_drewN | apply Kd.R_drew)); exact Kd.R_mono HO_9.out (fun _ hk => trivial), hb2_ HB.out GE501.out GE502.out⟩

/-! ### spec_ListTrees: function 15 -/
def spec_ListTrees.j0 : Nat → Bool → Int → Int → Int → Option ((List (S28)))
 | 0, _, _, _, _ => none
 | k + 1, x10, x502000, x502001, x502002 => if x10 = true then (some (([] : List (S28)))) else ((spec_CountGaps.f x502000 x502001).bind fun t507 => ((spec_CountCells.f x502000 x502001).bind fun t508 => ((spec_l12List.f k x502000 x502001 x502002 x502000 x502001 0 (wrap64 (t507 - 1)) (wrap64 (t508 - 1))).bind fun t509 => (some t509))))
def spec_ListTrees.f (k : Nat) (a0_0 : Int) (a0_1 : Int) (a0_2 : Int) : Option ((List (S28))) := (spec_MazeOk.f a0_0 a0_1 a0_2).bind fun t502 => (if t502 = true then ((spec_CountPassages.f k a0_0 a0_1 a0_2).bind fun t503 => (spec_ListTrees.j0 k (decide (t503 > 12)) a0_0 a0_1 a0_2)) else (spec_ListTrees.j0 k true a0_0 a0_1 a0_2))
theorem spec_ListTrees.mono_l : ∀ k, (∀ y0 y1 y2 y3, LeO (spec_ListTrees.j0 k y0 y1 y2 y3) (spec_ListTrees.j0 (k + 1) y0 y1 y2 y3))
 | 0 => fun _ _ _ _ r h => by simp [spec_ListTrees.j0] at h
 | k + 1 => by
  have ih0 := spec_ListTrees.mono_l k
  ·intro y0 y1 y2 y3
   unfold spec_ListTrees.j0
   repeat' first
   | (with_reducible exact ih0 ..)
   | (with_reducible exact spec_CountPassages.mono ..)
   | (with_reducible exact spec_l12List.mono ..)
   | (with_reducible first | exact lr_ _ | exact ln_ _ | refine li_ ?_ ?_ | refine lb_ ?_ fun _ => ?_)
   | exact ih0 ..
   | exact spec_CountPassages.mono ..
   | exact spec_l12List.mono ..
   | exact ln_ _ | refine li_ ?_ ?_ | refine lb_ ?_ fun _ => ?_
theorem spec_ListTrees.mono : ∀ a0 a1 a2 k, LeO (spec_ListTrees.f k a0 a1 a2) (spec_ListTrees.f (k + 1) a0 a1 a2) := by
 intro a0 a1 a2 k
 have ih0 := spec_ListTrees.mono_l k
 unfold spec_ListTrees.f
 repeat' first
   | (with_reducible exact ih0 ..)
   | (with_reducible exact spec_CountPassages.mono ..)
   | (with_reducible exact spec_l12List.mono ..)
   | (with_reducible first | exact lr_ _ | exact ln_ _ | refine li_ ?_ ?_ | refine lb_ ?_ fun _ => ?_)
   | exact ih0 ..
   | exact spec_CountPassages.mono ..
   | exact spec_l12List.mono ..
   | exact ln_ _ | refine li_ ?_ ?_ | refine lb_ ?_ fun _ => ?_
def spec_ListTrees.T3 : Bool × List (List Nat × List Nat) := (true, [([], []), ([], []), ([1], [1]), ([2], [2]), ([], []), ([4], [4]), ([5], [5]), ([6], [6]), ([], []), ([8], [8]), ([9, 6], [9]), ([10], [10]), ([0, 3, 7, 11, 10], [0, 3, 7, 11]), ([12, 12, 0, 1, 2, 3, 4, 5, 6, 7, 8, 9, 10, 11, 12], [12])])
def spec_ListTrees.B3 : List Nat := [0, 0, 2, 6, 0, 16, 48, 112, 0, 256, 880, 1904, 4095, 8191]
theorem spec_ListTrees.tab3 : rtab .any (opsOf Try.f15 3) = spec_ListTrees.T3 := by kernel_rfl
theorem spec_ListTrees.bits3 : waitsOk spec_ListTrees.T3.2 spec_ListTrees.B3 = true := by kernel_rfl
set_option maxHeartbeats 8000000 in
set_option maxRecDepth 100000 in
theorem spec_ListTrees.calls (k : Nat) (a0_0 : Int) (a0_1 : Int) (a0_2 : Int) (r : List (S28)) (w : World) (h : spec_ListTrees.f k a0_0 a0_1 a0_2 = some r) :
  Calls Try.prog 15 #[.agg #[.int .i64 a0_0, .int .i64 a0_1, .int .i64 a0_2]] w fun e w' => ∃ v0_ : Value, e = .returned (v0_) ∧ Kd.R k28 28 w' w.heap.size (fun _ => True) v0_ r ∧ Below w.heap.size w w' := by
 have hu28 := Try.underlying28
 have hu26 := Try.underlying26
 have HB := Aside0.mk (Below.refl w.heap.size w)
 have H : ((spec_MazeOk.f a0_0 a0_1 a0_2).bind fun t502 => (if t502 = true then ((spec_CountPassages.f k a0_0 a0_1 a0_2).bind fun t503 => (spec_ListTrees.j0 k (decide (t503 > 12)) a0_0 a0_1 a0_2)) else (spec_ListTrees.j0 k true a0_0 a0_1 a0_2))) = some r := h
 clear h
 have HC2 := Aside0.mk H
 clear H
 go_enter Try.func15, Try.ntmps15
 go_upto_region 1 with (first | (refine box_ (N := 1) (cs := #[.int .i64 a0_0, .int .i64 a0_1, .int .i64 a0_2]) (t := 28) ?_; intro gb501 hg w3 hbox hb; have BK501 := Aside0.mk (hbox); have GW501 := HB.g0 hg; have GE501 := HB.g0 hg; replace HB := HB.s0 hb; clear hb hbox hg))
 (try simp only [Act.put, List.setIfInBounds_toArray, List.set_cons_zero, List.set_cons_succ])
 go_cut [10] (fun v10 wc => ∃ (kq : Nat) (x10_1 : Bool), v10 = .bool x10_1 ∧ Aside0 (spec_ListTrees.j0 kq x10_1 a0_0 a0_1 a0_2 = some r) ∧ Aside0 (kq ≤ k) ∧ Aside0 (wc.heap[gb501]? = some (.cells #[.int .i64 a0_0, .int .i64 a0_1, .int .i64 a0_2] 28 (0, 0))) ∧ Aside0 (Below w.heap.size w wc))
 case first =>
  have H := HC2.out
  clear HC2
  replace H := Option.bind_eq_some_iff.mp H
  obtain ⟨t502, A40, H⟩ := H
  replace H : (if t502 = true then ((spec_CountPassages.f k a0_0 a0_1 a0_2).bind fun t503 => (spec_ListTrees.j0 k (decide (t503 > 12)) a0_0 a0_1 a0_2)) else (spec_ListTrees.j0 k true a0_0 a0_1 a0_2)) = some r := H
  have A4 := Aside0.mk A40
  clear A40
  by_cases c5 : t502 = true
  ·subst c5
   have H1 : ((spec_CountPassages.f k a0_0 a0_1 a0_2).bind fun t503 => (spec_ListTrees.j0 k (decide (t503 > 12)) a0_0 a0_1 a0_2)) = some r := by rw [if_pos rfl] at H; exact H
   clear H
   have H := H1
   clear H1
   replace H := Option.bind_eq_some_iff.mp H
   obtain ⟨t503, A60, H⟩ := H
   replace H : (spec_ListTrees.j0 k (decide (t503 > 12)) a0_0 a0_1 a0_2) = some r := H
   have A6 := Aside0.mk A60
   clear A60
   have H' := Aside0.mk H
   clear H
   obtain ⟨hcz7_0, hcz7_1, hcz7_2⟩ := cz3_ BK501.out
   obtain ⟨hfz7_0, hfz7_1, hfz7_2⟩ := fz3_ BK501.out
   go_wp2_with (first | (refine gl_ 4 Try.func35 #[.agg #[.int .i64 a0_0, .int .i64 a0_1, .int .i64 a0_2]] ?_; (with_reducible refine (spec_MazeOk.calls a0_0 a0_1 a0_2 true _ A4.out).mono ?_); rintro e w8 ⟨rfl, hb⟩; refine ⟨_, rfl, ?_⟩; replace BK501 := BK501.bb hb; replace HB := HB.s1 GE501 hb; (try clear hb); obtain ⟨hcz9_0, hcz9_1, hcz9_2⟩ := cz3_ BK501.out; obtain ⟨hfz9_0, hfz9_1, hfz9_2⟩ := fz3_ BK501.out) | (go_at_call 36; (with_reducible refine (spec_CountPassages.calls k a0_0 a0_1 a0_2 t503 _ A6.out).mono ?_); rintro e w10 ⟨rfl, hb⟩; replace BK501 := BK501.bb hb; replace HB := HB.s1 GE501 hb; (try clear hb)))
   go_meet
   case rel => exact ⟨_, (decide (t503 > 12)), (by first | rfl | (simp; done) | (simp [*]; done)), H', ⟨by first | omega | exact Nat.le_refl _⟩, ⟨bk_ BK501.out⟩, ⟨hb1_ HB.out GE501.out⟩⟩
  ·replace c5 := Bool.eq_false_iff.mpr c5
   subst c5
   have H1 : (spec_ListTrees.j0 k true a0_0 a0_1 a0_2) = some r := by rw [if_neg (show ¬ (false = true) by decide)] at H; exact H
   clear H
   have H := H1
   clear H1
   have H' := Aside0.mk H
   clear H
   obtain ⟨hcz11_0, hcz11_1, hcz11_2⟩ := cz3_ BK501.out
   obtain ⟨hfz11_0, hfz11_1, hfz11_2⟩ := fz3_ BK501.out
   go_wp2_with (first | (refine gl_ 4 Try.func35 #[.agg #[.int .i64 a0_0, .int .i64 a0_1, .int .i64 a0_2]] ?_; (with_reducible refine (spec_MazeOk.calls a0_0 a0_1 a0_2 false _ A4.out).mono ?_); rintro e w12 ⟨rfl, hb⟩; refine ⟨_, rfl, ?_⟩; replace BK501 := BK501.bb hb; replace HB := HB.s1 GE501 hb; (try clear hb)))
   go_meet
   case rel => exact ⟨_, (true), (by first | rfl | (simp; done) | (simp [*]; done)), H', ⟨by first | omega | exact Nat.le_refl _⟩, ⟨bk_ BK501.out⟩, ⟨hb1_ HB.out GE501.out⟩⟩
 case rest =>
  clear HC2
  try clear c1
  try clear p2
  try clear c3
  try clear c5
  try clear hcz11_0
  try clear hcz11_1
  try clear hcz11_2
  try clear hcz7_0
  try clear hcz7_1
  try clear hcz7_2
  try clear hcz9_0
  try clear hcz9_1
  try clear hcz9_2
  try clear hfz11_0
  try clear hfz11_1
  try clear hfz11_2
  try clear hfz7_0
  try clear hfz7_1
  try clear hfz7_2
  try clear hfz9_0
  try clear hfz9_1
  try clear hfz9_2
  obtain ⟨kq, x10_1, rfl, HA, HJ1, BK501, HB⟩ := hcut
  cases kq with
  | zero => exact absurd HA.out (by simp [spec_ListTrees.j0])
  | succ kj1 =>
   have H := HA.out
   clear HA
   simp only [spec_ListTrees.j0] at H
   by_cases c13 : x10_1 = true
   ·subst c13
    have H1 : (some (([] : List (S28)))) = some r := by rw [if_pos rfl] at H; exact H
    clear H
    have H := H1
    clear H1
    obtain ⟨y504, hy504⟩ : ∃ y_ : List (S28), y_ = (([] : List (S28))) := ⟨_, rfl⟩
    replace H : (some y504) = some r := by first | (rw [hy504]; with_reducible exact H) | (have H2_ := (Option.bind_some _ _).symm.trans H; rw [hy504]; with_reducible exact H2_) | (have H2_ := (Option.bind_some _ _).symm.trans H; with_reducible exact H2_) | with_reducible exact H | (rw [hy504]; exact H) | exact H
    have Ny504 := Aside0.mk hy504
    clear hy504
    obtain rfl := Option.some.inj H
    go_wp2_with (first | ((with_reducible refine gate_dst (N := 11) rfl ?_); refine Kd.R_lit k28 _ 28 ?hg (N := 11) ?hd (xs := ([] : List (S28))) (inner := []) (ok := fun _ => True) (okp := fun _ => True) ?hr ?hp (fun _ hk => hk) trivial (Below.refl _ _) (Nat.le_refl _) (by simp) ?_; (case hd => rfl); (case hg => rfl); (case hr => first | (go_simp; done) | (go_simp; rfl)); (case hp => exact (Reps.none _ _)); intro v505 w14 ho15 hb hg_ hnew_; clear hg_ hnew_; (first | rw [← Ny504.out] at ho15 | (simp only [Int.reduceToNat] at ho15; rw [← Ny504.out] at ho15)); have HO506 := Aside0.mk (Kd.R_lower (Kd.R_newB ho15 (g := gb501) (o := .cells #[.int .i64 a0_0, .int .i64 a0_1, .int .i64 a0_2] 28 (0, 0)) (bk_ BK501.out)) (below_size (hb1_ HB.out GE501.out))); replace BK501 := BK501.bb hb; replace HB := HB.s1 GE501 hb; clear hb ho15))
    go_ret
    exact ⟨_, ex_, by (with_reducible repeat (first | apply Kd.R_alloc | apply Kd.R_drewN | apply Kd.R_drew)); exact Kd.R_mono HO506.out (fun _ hk => trivial), hb1_ HB.out GE501.out⟩
   ·replace c13 := Bool.eq_false_iff.mpr c13
    subst c13
    have H1 : ((spec_CountGaps.f a0_0 a0_1).bind fun t507 => ((spec_CountCells.f a0_0 a0_1).bind fun t508 => ((spec_l12List.f kj1 a0_0 a0_1 a0_2 a0_0 a0_1 0 (wrap64 (t507 - 1)) (wrap64 (t508 - 1))).bind fun t509 => (some t509)))) = some r := by rw [if_neg (show ¬ (false = true) by decide)] at H; exact H
    clear H
    have H := H1
    clear H1
    replace H := Option.bind_eq_some_iff.mp H
    obtain ⟨t507, A160, H⟩ := H
    replace H : ((spec_CountCells.f a0_0 a0_1).bind fun t508 => ((spec_l12List.f kj1 a0_0 a0_1 a0_2 a0_0 a0_1 0 (wrap64 (t507 - 1)) (wrap64 (t508 - 1))).bind fun t509 => (some t509))) = some r := H
    have A16 := Aside0.mk A160
    clear A160
    replace H := Option.bind_eq_some_iff.mp H
    obtain ⟨t508, A170, H⟩ := H
    replace H : ((spec_l12List.f kj1 a0_0 a0_1 a0_2 a0_0 a0_1 0 (wrap64 (t507 - 1)) (wrap64 (t508 - 1))).bind fun t509 => (some t509)) = some r := H
    have A17 := Aside0.mk A170
    clear A170
    replace H := Option.bind_eq_some_iff.mp H
    obtain ⟨t509, A180, H⟩ := H
    replace H : (some t509) = some r := H
    have A18 := Aside0.mk A180
    clear A180
    obtain rfl := Option.some.inj H
    try go_wp2
    replace BK501 := Aside0.mk (blk_drew BK501.out)
    replace HB := Aside0.mk (below_drew1 HB.out)
    refine start_ (n := 14) (S := fun w' => w'.cell? ⟨gb501, 0, none⟩ = some (.int .i64 a0_0) ∧ w'.cell? ⟨gb501, 1, none⟩ = some (.int .i64 a0_1) ∧ w'.cell? ⟨gb501, 2, none⟩ = some (.int .i64 a0_2)) (ds := []) #[false, false, false, false, false, false, false, false, false, false, false, false, false, false] (by kernel_rfl) rfl rfl ⟨BK501.c 0, BK501.c 1, BK501.c 2⟩ (fun hHeld => ?_); refine with_tabW spec_ListTrees.tab3 spec_ListTrees.bits3 (fun HT_ HW_ => ?_)
    generalize wc.drew = w19 at BK501 HB hHeld ⊢
    refine pv_ (i := 1) (N := some 13) HT_.out ?_
    refine pv_ (i := 4) (N := some 16) HT_.out ?_
    refine pv_ (i := 8) (N := some 20) HT_.out ?_
    refine tv3_ (i := 0) (N := some 12) HT_.out HW_.out hHeld ?_
    refine tv3_ (i := 2) (N := some 14) HT_.out HW_.out hHeld ?_
    refine pv_ (i := 3) (N := some 15) HT_.out ?_
    refine tv3_ (i := 5) (N := some 17) HT_.out HW_.out hHeld ?_
    refine tv3_ (i := 9) (N := some 21) HT_.out HW_.out hHeld ?_
    refine ov_ (i := 6) (N := some 18) HT_.out (fun K hK => ?_)
    refine gq_ Try.func14 #[.agg #[.int .i64 a0_0, .int .i64 a0_1]] ?_
    with_reducible refine (spec_CountGaps.calls a0_0 a0_1 t507 _ A16.out).mono ?_
    rintro e w20 ⟨rfl, hb⟩
    refine ⟨_, rfl, ?_⟩
    replace BK501 := BK501.bb hb
    replace HB := HB.s1 GE501 hb
    skip
    (try clear hb2)
    (try clear hk)
    (try clear hi)
    refine hK.out _ _ ⟨BK501.c 0, BK501.c 1, BK501.c 2⟩ (fun hHeld => ?_)
    clear hK K
    refine nm_ ?_
    refine pv_ (i := 7) (N := some 19) HT_.out ?_
    refine ov_ (i := 10) (N := some 22) HT_.out (fun K hK => ?_)
    refine gq_ Try.func31 #[.agg #[.int .i64 a0_0, .int .i64 a0_1]] ?_
    with_reducible refine (spec_CountCells.calls a0_0 a0_1 t508 _ A17.out).mono ?_
    rintro e w21 ⟨rfl, hb⟩
    refine ⟨_, rfl, ?_⟩
    replace BK501 := BK501.bb hb
    replace HB := HB.s1 GE501 hb
    skip
    (try clear hb2)
    (try clear hk)
    (try clear hi)
    refine hK.out _ _ ⟨BK501.c 0, BK501.c 1, BK501.c 2⟩ (fun hHeld => ?_)
    clear hK K
    refine nm_ ?_
    refine pv_ (i := 11) (N := some 23) HT_.out ?_
    refine ov_ (i := 12) (N := some 24) HT_.out (fun K hK => ?_)
    refine gq_ Try.func37 #[.agg #[.int .i64 a0_0, .int .i64 a0_1, .int .i64 a0_2], .agg #[.int .i64 a0_0, .int .i64 a0_1, .int .i64 0], .int .i64 (wrap64 (t507 - 1)), .int .i64 (wrap64 (t508 - 1))] ?_
    with_reducible refine (spec_l12List.calls kj1 a0_0 a0_1 a0_2 a0_0 a0_1 0 (wrap64 (t507 - 1)) (wrap64 (t508 - 1)) t509 _ A18.out).mono ?_
    rintro e w22 ⟨v510, rfl, ho0, hb⟩
    refine ⟨_, rfl, ?_⟩
    have HO511 := Aside0.mk (Kd.R_lower (Kd.R_newB ho0 (g := gb501) (o := .cells #[.int .i64 a0_0, .int .i64 a0_1, .int .i64 a0_2] 28 (0, 0)) (bk_ BK501.out)) (below_size (hb1_ HB.out GE501.out)))
    replace BK501 := BK501.bb hb
    replace HB := HB.s1 GE501 hb
    skip
    (try clear hb2)
    (try clear hk)
    (try clear hi)
    (try clear ho0)
    refine hK.out _ _ ⟨BK501.c 0, BK501.c 1, BK501.c 2⟩ (fun hHeld => ?_)
    clear hK K
    refine nm_ ?_
    refine pv_ (i := 13) (N := some 2) HT_.out ?_
    refine done_ (done_of HT_.out (by kernel_rfl)) ?_
    try go_wp2
    go_ret
    exact ⟨_, ex_, by (with_reducible repeat (first | apply Kd.R_alloc | apply Kd.R_drewN | apply Kd.R_drew)); exact Kd.R_mono HO511.out (fun _ hk => trivial), hb1_ HB.out GE501.out⟩

end Go.Proofs.Ytjmbnlemfdjkfaa.X
