-- Written by a program of this session (xprint.py), out of the translation and of hand-written contracts. Lean checks it.
import Derived.Test.YtbdodiaedocmjaaDoorX0
import Derived.Test.YtbdodiaedocmjaaDoorXEq0
import Derived.Test.YtbdodiaedocmjaaDoorXcbits
import Derived.Test.YtbdodiaedocmjaaDoorXcdist
import Derived.Test.YtbdodiaedocmjaaDoorXcgaps
import Derived.Test.YtbdodiaedocmjaaDoorXcints
import Derived.Test.YtbdodiaedocmjaaDoorXcmaze
import Derived.Test.YtbdodiaedocmjaaDoorXcnbr
import Derived.Test.YtbdodiaedocmjaaDoorXcreach
import Derived.Test.YtbdodiaedocmjaaDoorXcstep
import Derived.Test.YtbdodiaedocmjaaDoorXctrees
import Derived.Test.YtbdodiaedocmjaaDoorXimplEndsOf
import Derived.Test.YtbdodiaedocmjaaDoorXimplordered
import Derived.Test.YtbdodiaedocmjaaDoorXimplwith
namespace Go.Proofs.YtbdodiaedocmjaaDoor.X
open Go.RowKit Go.Proofs.YtbdodiaedocmjaaDoorW.PrintWords Go.Proofs.YtbdodiaedocmjaaDoorW.PrintLast Go.Proofs.YtbdodiaedocmjaaDoorW.PrintMore
attribute [local go_sem] max2_int min2_int max_two min_two max_three min_three max_four min_four   -- for this text's walks alone
set_option linter.unusedVariables false
set_option linter.unusedSimpArgs false

section
attribute [local go_sem high] eqA26
/-! ### impl_GapsApart: function 17 -/
def impl_GapsApart.f (k : Nat) (a0_0 : Int) (a0_1 : Int) (a0_2 : Int) (a1_0 : Int) (a1_1 : Int) (a1_2 : Int) : Option (Int) := (impl_IsPerfect.f k a0_0 a0_1 a0_2).bind fun t503 => (if t503 = true then ((impl_IsPerfect.f k a1_0 a1_1 a1_2).bind fun t504 => (if t504 = true then (if (!(a0_0 == a1_0) || (!(a0_1 == a1_1))) = true then (some (-1)) else ((bits_OnesCount.f (IntKind.u64.wrap (Go.bits .andNot .i64 a0_2 a1_2))).bind fun t505 => (some t505))) else (some (-1)))) else (some (-1)))
theorem impl_GapsApart.mono : ∀ a0 a1 a2 a3 a4 a5 k, LeO (impl_GapsApart.f k a0 a1 a2 a3 a4 a5) (impl_GapsApart.f (k + 1) a0 a1 a2 a3 a4 a5) := by
 intro a0 a1 a2 a3 a4 a5 k
 unfold impl_GapsApart.f
 repeat' first
   | (with_reducible exact impl_IsPerfect.mono ..)
   | (with_reducible first | exact lr_ _ | exact ln_ _ | refine li_ ?_ ?_ | refine lb_ ?_ fun _ => ?_)
   | exact impl_IsPerfect.mono ..
   | exact ln_ _ | refine li_ ?_ ?_ | refine lb_ ?_ fun _ => ?_
set_option maxHeartbeats 8000000 in
set_option maxRecDepth 100000 in
theorem impl_GapsApart.calls (k : Nat) (a0_0 : Int) (a0_1 : Int) (a0_2 : Int) (a1_0 : Int) (a1_1 : Int) (a1_2 : Int) (r : Int) (w : World) (h : impl_GapsApart.f k a0_0 a0_1 a0_2 a1_0 a1_1 a1_2 = some r) :
  Calls Tryd.prog 17 #[.agg #[.int .i64 a0_0, .int .i64 a0_1, .int .i64 a0_2], .agg #[.int .i64 a1_0, .int .i64 a1_1, .int .i64 a1_2]] w fun e w' => e = .returned (.int .i64 r) ∧ Below w.heap.size w w' := by
 have hu28 := Tryd.underlying28
 have hu26 := Tryd.underlying26
 have HB := Aside0.mk (Below.refl w.heap.size w)
 have H : ((impl_IsPerfect.f k a0_0 a0_1 a0_2).bind fun t503 => (if t503 = true then ((impl_IsPerfect.f k a1_0 a1_1 a1_2).bind fun t504 => (if t504 = true then (if (!(a0_0 == a1_0) || (!(a0_1 == a1_1))) = true then (some (-1)) else ((bits_OnesCount.f (IntKind.u64.wrap (Go.bits .andNot .i64 a0_2 a1_2))).bind fun t505 => (some t505))) else (some (-1)))) else (some (-1)))) = some r := h
 clear h
 replace H := Option.bind_eq_some_iff.mp H
 obtain ⟨t503, A30, H⟩ := H
 replace H : (if t503 = true then ((impl_IsPerfect.f k a1_0 a1_1 a1_2).bind fun t504 => (if t504 = true then (if (!(a0_0 == a1_0) || (!(a0_1 == a1_1))) = true then (some (-1)) else ((bits_OnesCount.f (IntKind.u64.wrap (Go.bits .andNot .i64 a0_2 a1_2))).bind fun t505 => (some t505))) else (some (-1)))) else (some (-1))) = some r := H
 have A3 := Aside0.mk A30
 clear A30
 by_cases c4 : t503 = true
 ·subst c4
  have H1 : ((impl_IsPerfect.f k a1_0 a1_1 a1_2).bind fun t504 => (if t504 = true then (if (!(a0_0 == a1_0) || (!(a0_1 == a1_1))) = true then (some (-1)) else ((bits_OnesCount.f (IntKind.u64.wrap (Go.bits .andNot .i64 a0_2 a1_2))).bind fun t505 => (some t505))) else (some (-1)))) = some r := by rw [if_pos rfl] at H; exact H
  clear H
  have H := H1
  clear H1
  replace H := Option.bind_eq_some_iff.mp H
  obtain ⟨t504, A50, H⟩ := H
  replace H : (if t504 = true then (if (!(a0_0 == a1_0) || (!(a0_1 == a1_1))) = true then (some (-1)) else ((bits_OnesCount.f (IntKind.u64.wrap (Go.bits .andNot .i64 a0_2 a1_2))).bind fun t505 => (some t505))) else (some (-1))) = some r := H
  have A5 := Aside0.mk A50
  clear A50
  by_cases c6 : t504 = true
  ·subst c6
   have H1 : (if (!(a0_0 == a1_0) || (!(a0_1 == a1_1))) = true then (some (-1)) else ((bits_OnesCount.f (IntKind.u64.wrap (Go.bits .andNot .i64 a0_2 a1_2))).bind fun t505 => (some t505))) = some r := by rw [if_pos rfl] at H; exact H
   clear H
   have H := H1
   clear H1
   by_cases c7 : (!(a0_0 == a1_0) || (!(a0_1 == a1_1))) = true
   ·rw [if_pos c7] at H
    have c7b0 : (!(a0_0 == a1_0) || (!(a0_1 == a1_1))) = true := c7
    clear c7
    obtain rfl := Option.some.inj H
    go_enter Tryd.func17, Tryd.ntmps17
    go_wp2_with (first | (refine box_ (N := 2) (cs := #[.int .i64 a0_0, .int .i64 a0_1, .int .i64 a0_2]) (t := 28) ?_; intro gb501 hg w8 hbox hb; have BK501 := Aside0.mk (hbox); have GW501 := HB.g0 hg; have GE501 := HB.g0 hg; replace HB := HB.s0 hb; clear hb hbox hg) | (refine box_ (N := 3) (cs := #[.int .i64 a1_0, .int .i64 a1_1, .int .i64 a1_2]) (t := 28) ?_; intro gb502 hg w9 hbox hb; have BK502 := Aside0.mk (hbox); have GW502 := HB.g1 GE501 hg; have GE502 := HB.g1 GE501 hg; replace HB := HB.s1 GE501 hb; have NB501_502 := BK501.nl hg; have NB502_501 := BK501.nr hg; replace BK501 := BK501.bb hb; clear hb hbox hg; have hnb10 := NB501_502.out; have hnc10 := NB502_501.out; obtain ⟨hcz11_0, hcz11_1, hcz11_2⟩ := cz3_ BK501.out; obtain ⟨hfz11_0, hfz11_1, hfz11_2⟩ := fz3_ BK501.out) | (refine gl_ 6 Tryd.func31 #[.agg #[.int .i64 a0_0, .int .i64 a0_1, .int .i64 a0_2]] ?_; (with_reducible refine (impl_IsPerfect.calls k a0_0 a0_1 a0_2 true _ A3.out).mono ?_); rintro e w12 ⟨rfl, hb⟩; refine ⟨_, rfl, ?_⟩; replace BK501 := BK501.bb hb; replace BK502 := BK502.bb hb; replace HB := HB.s2 GE501 GE502 hb; (try clear hb); obtain ⟨hcz13_0, hcz13_1, hcz13_2⟩ := cz3_ BK502.out; obtain ⟨hfz13_0, hfz13_1, hfz13_2⟩ := fz3_ BK502.out) | (go_at_call 31; (with_reducible refine (impl_IsPerfect.calls k a1_0 a1_1 a1_2 true _ A5.out).mono ?_); rintro e w14 ⟨rfl, hb⟩; replace BK501 := BK501.bb hb; replace BK502 := BK502.bb hb; replace HB := HB.s2 GE501 GE502 hb; (try clear hb); obtain ⟨hcz15_0, hcz15_1, hcz15_2⟩ := cz3_ BK501.out; obtain ⟨hfz15_0, hfz15_1, hfz15_2⟩ := fz3_ BK501.out; obtain ⟨hcz16_0, hcz16_1, hcz16_2⟩ := cz3_ BK502.out; obtain ⟨hfz16_0, hfz16_1, hfz16_2⟩ := fz3_ BK502.out))
    go_ret
    exact ⟨ex_, hb2_ HB.out GE501.out GE502.out⟩
   ·rw [if_neg c7] at H
    have c7b0 : (!(a0_0 == a1_0) || (!(a0_1 == a1_1))) = false := by simpa using c7
    clear c7
    replace H := Option.bind_eq_some_iff.mp H
    obtain ⟨t505, A170, H⟩ := H
    replace H : (some t505) = some r := H
    have A17 := Aside0.mk A170
    clear A170
    obtain rfl := Option.some.inj H
    go_enter Tryd.func17, Tryd.ntmps17
    go_wp2_with (first | (refine box_ (N := 2) (cs := #[.int .i64 a0_0, .int .i64 a0_1, .int .i64 a0_2]) (t := 28) ?_; intro gb501 hg w18 hbox hb; have BK501 := Aside0.mk (hbox); have GW501 := HB.g0 hg; have GE501 := HB.g0 hg; replace HB := HB.s0 hb; clear hb hbox hg) | (refine box_ (N := 3) (cs := #[.int .i64 a1_0, .int .i64 a1_1, .int .i64 a1_2]) (t := 28) ?_; intro gb502 hg w19 hbox hb; have BK502 := Aside0.mk (hbox); have GW502 := HB.g1 GE501 hg; have GE502 := HB.g1 GE501 hg; replace HB := HB.s1 GE501 hb; have NB501_502 := BK501.nl hg; have NB502_501 := BK501.nr hg; replace BK501 := BK501.bb hb; clear hb hbox hg; have hnb20 := NB501_502.out; have hnc20 := NB502_501.out; obtain ⟨hcz21_0, hcz21_1, hcz21_2⟩ := cz3_ BK501.out; obtain ⟨hfz21_0, hfz21_1, hfz21_2⟩ := fz3_ BK501.out) | (refine gl_ 6 Tryd.func31 #[.agg #[.int .i64 a0_0, .int .i64 a0_1, .int .i64 a0_2]] ?_; (with_reducible refine (impl_IsPerfect.calls k a0_0 a0_1 a0_2 true _ A3.out).mono ?_); rintro e w22 ⟨rfl, hb⟩; refine ⟨_, rfl, ?_⟩; replace BK501 := BK501.bb hb; replace BK502 := BK502.bb hb; replace HB := HB.s2 GE501 GE502 hb; (try clear hb); obtain ⟨hcz23_0, hcz23_1, hcz23_2⟩ := cz3_ BK502.out; obtain ⟨hfz23_0, hfz23_1, hfz23_2⟩ := fz3_ BK502.out) | (go_at_call 31; (with_reducible refine (impl_IsPerfect.calls k a1_0 a1_1 a1_2 true _ A5.out).mono ?_); rintro e w24 ⟨rfl, hb⟩; replace BK501 := BK501.bb hb; replace BK502 := BK502.bb hb; replace HB := HB.s2 GE501 GE502 hb; (try clear hb); obtain ⟨hcz25_0, hcz25_1, hcz25_2⟩ := cz3_ BK501.out; obtain ⟨hfz25_0, hfz25_1, hfz25_2⟩ := fz3_ BK501.out; obtain ⟨hcz26_0, hcz26_1, hcz26_2⟩ := cz3_ BK502.out; obtain ⟨hfz26_0, hfz26_1, hfz26_2⟩ := fz3_ BK502.out) | (refine gl_ 26 Tryd.func32 #[.int .u64 (IntKind.u64.wrap (Go.bits .andNot .i64 a0_2 a1_2))] ?_; (with_reducible refine (bits_OnesCount.calls (IntKind.u64.wrap (Go.bits .andNot .i64 a0_2 a1_2)) t505 _ A17.out).mono ?_); rintro e w' ⟨rfl, ⟨nd, rfl⟩⟩; refine ⟨_, rfl, ?_⟩))
    go_ret
    exact ⟨ex_, hb2_ HB.out GE501.out GE502.out⟩
  ·replace c6 := Bool.eq_false_iff.mpr c6
   subst c6
   have H1 : (some (-1)) = some r := by rw [if_neg (show ¬ (false = true) by decide)] at H; exact H
   clear H
   have H := H1
   clear H1
   obtain rfl := Option.some.inj H
   go_enter Tryd.func17, Tryd.ntmps17
   go_wp2_with (first | (refine box_ (N := 2) (cs := #[.int .i64 a0_0, .int .i64 a0_1, .int .i64 a0_2]) (t := 28) ?_; intro gb501 hg w27 hbox hb; have BK501 := Aside0.mk (hbox); have GW501 := HB.g0 hg; have GE501 := HB.g0 hg; replace HB := HB.s0 hb; clear hb hbox hg) | (refine box_ (N := 3) (cs := #[.int .i64 a1_0, .int .i64 a1_1, .int .i64 a1_2]) (t := 28) ?_; intro gb502 hg w28 hbox hb; have BK502 := Aside0.mk (hbox); have GW502 := HB.g1 GE501 hg; have GE502 := HB.g1 GE501 hg; replace HB := HB.s1 GE501 hb; have NB501_502 := BK501.nl hg; have NB502_501 := BK501.nr hg; replace BK501 := BK501.bb hb; clear hb hbox hg; have hnb29 := NB501_502.out; have hnc29 := NB502_501.out; obtain ⟨hcz30_0, hcz30_1, hcz30_2⟩ := cz3_ BK501.out; obtain ⟨hfz30_0, hfz30_1, hfz30_2⟩ := fz3_ BK501.out) | (refine gl_ 6 Tryd.func31 #[.agg #[.int .i64 a0_0, .int .i64 a0_1, .int .i64 a0_2]] ?_; (with_reducible refine (impl_IsPerfect.calls k a0_0 a0_1 a0_2 true _ A3.out).mono ?_); rintro e w31 ⟨rfl, hb⟩; refine ⟨_, rfl, ?_⟩; replace BK501 := BK501.bb hb; replace BK502 := BK502.bb hb; replace HB := HB.s2 GE501 GE502 hb; (try clear hb); obtain ⟨hcz32_0, hcz32_1, hcz32_2⟩ := cz3_ BK502.out; obtain ⟨hfz32_0, hfz32_1, hfz32_2⟩ := fz3_ BK502.out) | (go_at_call 31; (with_reducible refine (impl_IsPerfect.calls k a1_0 a1_1 a1_2 false _ A5.out).mono ?_); rintro e w33 ⟨rfl, hb⟩; replace BK501 := BK501.bb hb; replace BK502 := BK502.bb hb; replace HB := HB.s2 GE501 GE502 hb; (try clear hb)))
   go_ret
   exact ⟨ex_, hb2_ HB.out GE501.out GE502.out⟩
 ·replace c4 := Bool.eq_false_iff.mpr c4
  subst c4
  have H1 : (some (-1)) = some r := by rw [if_neg (show ¬ (false = true) by decide)] at H; exact H
  clear H
  have H := H1
  clear H1
  obtain rfl := Option.some.inj H
  go_enter Tryd.func17, Tryd.ntmps17
  go_wp2_with (first | (refine box_ (N := 2) (cs := #[.int .i64 a0_0, .int .i64 a0_1, .int .i64 a0_2]) (t := 28) ?_; intro gb501 hg w34 hbox hb; have BK501 := Aside0.mk (hbox); have GW501 := HB.g0 hg; have GE501 := HB.g0 hg; replace HB := HB.s0 hb; clear hb hbox hg) | (refine box_ (N := 3) (cs := #[.int .i64 a1_0, .int .i64 a1_1, .int .i64 a1_2]) (t := 28) ?_; intro gb502 hg w35 hbox hb; have BK502 := Aside0.mk (hbox); have GW502 := HB.g1 GE501 hg; have GE502 := HB.g1 GE501 hg; replace HB := HB.s1 GE501 hb; have NB501_502 := BK501.nl hg; have NB502_501 := BK501.nr hg; replace BK501 := BK501.bb hb; clear hb hbox hg; have hnb36 := NB501_502.out; have hnc36 := NB502_501.out; obtain ⟨hcz37_0, hcz37_1, hcz37_2⟩ := cz3_ BK501.out; obtain ⟨hfz37_0, hfz37_1, hfz37_2⟩ := fz3_ BK501.out) | (refine gl_ 6 Tryd.func31 #[.agg #[.int .i64 a0_0, .int .i64 a0_1, .int .i64 a0_2]] ?_; (with_reducible refine (impl_IsPerfect.calls k a0_0 a0_1 a0_2 false _ A3.out).mono ?_); rintro e w38 ⟨rfl, hb⟩; refine ⟨_, rfl, ?_⟩; replace BK501 := BK501.bb hb; replace BK502 := BK502.bb hb; replace HB := HB.s2 GE501 GE502 hb; (try clear hb)))
  go_ret
  exact ⟨ex_, hb2_ HB.out GE501.out GE502.out⟩

end
/-! ### impl_WayBetween: function 55 -/
mutual
def impl_WayBetween.l0 : Nat → Int → List Int → List Int → Int → Int → Int → Int → Option (List Int × Bool)
 | 0, _, _, _, _, _, _, _ => none
 | k + 1, x2, x8, x9, x10, x502000, x502001, x502002 => if x10 = x2 then (some (x9, true)) else ((impl_WaysFrom.f k x502000 x502001 x502002 x10).bind fun t506 => (impl_WayBetween.l1 k x2 x8 x9 x10 t506 (t506.length : Int) 0 x502000 x502001 x502002))
def impl_WayBetween.l1 : Nat → Int → List Int → List Int → Int → List Int → Int → Int → Int → Int → Int → Option (List Int × Bool)
 | 0, _, _, _, _, _, _, _, _, _, _ => none
 | k + 1, x2, x8, x9, x10, x28, x29, x30, x502000, x502001, x502002 => if x30 < x29 then (if 0 ≤ x30 then (if x30 < (x28.length : Int) then ((impl_Step.f k x502000 x502001 x502002 x10 (rd x28 x30)).bind fun t510 => (if 0 ≤ t510 then (if t510 < (x8.length : Int) then (if 0 ≤ x10 then (if x10 < (x8.length : Int) then (if (rd x8 t510) < (rd x8 x10) then (if x9.length < 17592186044416 then (impl_WayBetween.l0 k x2 x8 (x9 ++ [rd x28 x30]) t510 x502000 x502001 x502002) else (none)) else (impl_WayBetween.l1 k x2 x8 x9 x10 x28 x29 (wrap64 (x30 + 1)) x502000 x502001 x502002)) else (none)) else (none)) else (none)) else (none))) else (none)) else (none)) else (impl_WayBetween.l0 k x2 x8 x9 x10 x502000 x502001 x502002)
end
def impl_WayBetween.f (k : Nat) (a0_0 : Int) (a0_1 : Int) (a0_2 : Int) (a1 : Int) (a2 : Int) : Option (List Int × Bool) := (impl_DistanceOf.f k a0_0 a0_1 a0_2 a1 a2).bind fun t502 => (if t502 < 0 then (some (([] : List Int), false)) else ((impl_distances.f k a0_0 a0_1 a0_2 a2).bind fun t503 => (impl_WayBetween.l0 k a2 t503 ([] : List Int) a1 a0_0 a0_1 a0_2)))
theorem impl_WayBetween.mono_l : ∀ k, (∀ y0 y1 y2 y3 y4 y5 y6, LeO (impl_WayBetween.l0 k y0 y1 y2 y3 y4 y5 y6) (impl_WayBetween.l0 (k + 1) y0 y1 y2 y3 y4 y5 y6)) ∧ (∀ y0 y1 y2 y3 y4 y5 y6 y7 y8 y9, LeO (impl_WayBetween.l1 k y0 y1 y2 y3 y4 y5 y6 y7 y8 y9) (impl_WayBetween.l1 (k + 1) y0 y1 y2 y3 y4 y5 y6 y7 y8 y9))
 | 0 => ⟨fun _ _ _ _ _ _ _ r h => by simp [impl_WayBetween.l0] at h, fun _ _ _ _ _ _ _ _ _ _ r h => by simp [impl_WayBetween.l1] at h⟩
 | k + 1 => by
  obtain ⟨ih0, ih1⟩ := impl_WayBetween.mono_l k
  refine ⟨?_, ?_⟩
  ·intro y0 y1 y2 y3 y4 y5 y6
   unfold impl_WayBetween.l0
   repeat' first
   | (with_reducible exact ih0 ..)
   | (with_reducible exact ih1 ..)
   | (with_reducible exact impl_DistanceOf.mono ..)
   | (with_reducible exact impl_Step.mono ..)
   | (with_reducible exact impl_WaysFrom.mono ..)
   | (with_reducible exact impl_distances.mono ..)
   | (with_reducible first | exact lr_ _ | exact ln_ _ | refine li_ ?_ ?_ | refine lb_ ?_ fun _ => ?_)
   | exact ih0 ..
   | exact ih1 ..
   | exact impl_DistanceOf.mono ..
   | exact impl_Step.mono ..
   | exact impl_WaysFrom.mono ..
   | exact impl_distances.mono ..
   | exact ln_ _ | refine li_ ?_ ?_ | refine lb_ ?_ fun _ => ?_
  ·intro y0 y1 y2 y3 y4 y5 y6 y7 y8 y9
   unfold impl_WayBetween.l1
   repeat' first
   | (with_reducible exact ih0 ..)
   | (with_reducible exact ih1 ..)
   | (with_reducible exact impl_DistanceOf.mono ..)
   | (with_reducible exact impl_Step.mono ..)
   | (with_reducible exact impl_WaysFrom.mono ..)
   | (with_reducible exact impl_distances.mono ..)
   | (with_reducible first | exact lr_ _ | exact ln_ _ | refine li_ ?_ ?_ | refine lb_ ?_ fun _ => ?_)
   | exact ih0 ..
   | exact ih1 ..
   | exact impl_DistanceOf.mono ..
   | exact impl_Step.mono ..
   | exact impl_WaysFrom.mono ..
   | exact impl_distances.mono ..
   | exact ln_ _ | refine li_ ?_ ?_ | refine lb_ ?_ fun _ => ?_
theorem impl_WayBetween.mono : ∀ a0 a1 a2 a3 a4 k, LeO (impl_WayBetween.f k a0 a1 a2 a3 a4) (impl_WayBetween.f (k + 1) a0 a1 a2 a3 a4) := by
 intro a0 a1 a2 a3 a4 k
 obtain ⟨ih0, ih1⟩ := impl_WayBetween.mono_l k
 unfold impl_WayBetween.f
 repeat' first
   | (with_reducible exact ih0 ..)
   | (with_reducible exact ih1 ..)
   | (with_reducible exact impl_DistanceOf.mono ..)
   | (with_reducible exact impl_Step.mono ..)
   | (with_reducible exact impl_WaysFrom.mono ..)
   | (with_reducible exact impl_distances.mono ..)
   | (with_reducible first | exact lr_ _ | exact ln_ _ | refine li_ ?_ ?_ | refine lb_ ?_ fun _ => ?_)
   | exact ih0 ..
   | exact ih1 ..
   | exact impl_DistanceOf.mono ..
   | exact impl_Step.mono ..
   | exact impl_WaysFrom.mono ..
   | exact impl_distances.mono ..
   | exact ln_ _ | refine li_ ?_ ?_ | refine lb_ ?_ fun _ => ?_
set_option maxHeartbeats 8000000 in
set_option maxRecDepth 100000 in
theorem impl_WayBetween.calls (k : Nat) (a0_0 : Int) (a0_1 : Int) (a0_2 : Int) (a1 : Int) (a2 : Int) (r1 : List Int) (r2 : Bool) (w : World) (h : impl_WayBetween.f k a0_0 a0_1 a0_2 a1 a2 = some (r1, r2)) :
  Calls Tryd.prog 55 #[.agg #[.int .i64 a0_0, .int .i64 a0_1, .int .i64 a0_2], .int .i64 a1, .int .i64 a2] w fun e w' => ∃ v0_ : Value, e = .returned (.tuple #[v0_, .bool r2]) ∧ Kd.R (Kd.int .i64) 3 w' w.heap.size (fun _ => True) v0_ r1 ∧ Below w.heap.size w w' := by
 have hu28 := Tryd.underlying28
 have HB := Aside0.mk (Below.refl w.heap.size w)
 have H : ((impl_DistanceOf.f k a0_0 a0_1 a0_2 a1 a2).bind fun t502 => (if t502 < 0 then (some (([] : List Int), false)) else ((impl_distances.f k a0_0 a0_1 a0_2 a2).bind fun t503 => (impl_WayBetween.l0 k a2 t503 ([] : List Int) a1 a0_0 a0_1 a0_2)))) = some (r1, r2) := h
 clear h
 replace H := Option.bind_eq_some_iff.mp H
 obtain ⟨t502, A40, H⟩ := H
 replace H : (if t502 < 0 then (some (([] : List Int), false)) else ((impl_distances.f k a0_0 a0_1 a0_2 a2).bind fun t503 => (impl_WayBetween.l0 k a2 t503 ([] : List Int) a1 a0_0 a0_1 a0_2))) = some (r1, r2) := H
 have A4 := Aside0.mk A40
 clear A40
 by_cases c5 : t502 < 0
 ·rw [if_pos c5] at H
  have c5b0 : decide (t502 < 0) = true := decide_eq_true c5
  clear c5
  simp only [Option.some.injEq, Prod.mk.injEq] at H
  obtain ⟨rfl, rfl⟩ := H
  go_enter Tryd.func55, Tryd.ntmps55
  go_wp2_with (first | (refine box_ (N := 3) (cs := #[.int .i64 a0_0, .int .i64 a0_1, .int .i64 a0_2]) (t := 28) ?_; intro gb501 hg w6 hbox hb; have BK501 := Aside0.mk (hbox); have GW501 := HB.g0 hg; have GE501 := HB.g0 hg; replace HB := HB.s0 hb; clear hb hbox hg; obtain ⟨hcz7_0, hcz7_1, hcz7_2⟩ := cz3_ BK501.out; obtain ⟨hfz7_0, hfz7_1, hfz7_2⟩ := fz3_ BK501.out) | (go_at_call 66; (with_reducible refine (impl_DistanceOf.calls k a0_0 a0_1 a0_2 a1 a2 t502 _ A4.out).mono ?_); rintro e w8 ⟨rfl, hb⟩; replace BK501 := BK501.bb hb; replace HB := HB.s1 GE501 hb; (try clear hb)))
  repeat (go_quiet (first | (refine box_ (N := 3) (cs := #[.int .i64 a0_0, .int .i64 a0_1, .int .i64 a0_2]) (t := 28) ?_; intro gb501 hg w6 hbox hb; have BK501 := Aside0.mk (hbox); have GW501 := HB.g0 hg; have GE501 := HB.g0 hg; replace HB := HB.s0 hb; clear hb hbox hg; obtain ⟨hcz7_0, hcz7_1, hcz7_2⟩ := cz3_ BK501.out; obtain ⟨hfz7_0, hfz7_1, hfz7_2⟩ := fz3_ BK501.out) | (go_at_call 66; (with_reducible refine (impl_DistanceOf.calls k a0_0 a0_1 a0_2 a1 a2 t502 _ A4.out).mono ?_); rintro e w8 ⟨rfl, hb⟩; replace BK501 := BK501.bb hb; replace HB := HB.s1 GE501 hb; (try clear hb))); try go_wp2_with (first | (refine box_ (N := 3) (cs := #[.int .i64 a0_0, .int .i64 a0_1, .int .i64 a0_2]) (t := 28) ?_; intro gb501 hg w6 hbox hb; have BK501 := Aside0.mk (hbox); have GW501 := HB.g0 hg; have GE501 := HB.g0 hg; replace HB := HB.s0 hb; clear hb hbox hg; obtain ⟨hcz7_0, hcz7_1, hcz7_2⟩ := cz3_ BK501.out; obtain ⟨hfz7_0, hfz7_1, hfz7_2⟩ := fz3_ BK501.out) | (go_at_call 66; (with_reducible refine (impl_DistanceOf.calls k a0_0 a0_1 a0_2 a1 a2 t502 _ A4.out).mono ?_); rintro e w8 ⟨rfl, hb⟩; replace BK501 := BK501.bb hb; replace HB := HB.s1 GE501 hb; (try clear hb))))
  go_ret2
  exact ⟨_, ex_, by first | exact Kd.R_nil _ _ _ _ _ | exact Kd.N_nil _ _ _ _ _ | exact Kd.V_nil _ _ _ _ _ | exact Kd.Q_nil _ _ _ _ _ | exact Kd.S_nil _ _ _ _ _, hb1_ HB.out GE501.out⟩
 ·rw [if_neg c5] at H
  have c5b0 : decide (t502 < 0) = false := decide_eq_false c5
  clear c5
  replace H := Option.bind_eq_some_iff.mp H
  obtain ⟨t503, A90, H⟩ := H
  replace H : (impl_WayBetween.l0 k a2 t503 ([] : List Int) a1 a0_0 a0_1 a0_2) = some (r1, r2) := H
  have A9 := Aside0.mk A90
  clear A90
  have H' := Aside0.mk H
  clear H
  go_enter Tryd.func55, Tryd.ntmps55
  go_wp2_with (first | (refine box_ (N := 3) (cs := #[.int .i64 a0_0, .int .i64 a0_1, .int .i64 a0_2]) (t := 28) ?_; intro gb501 hg w10 hbox hb; have BK501 := Aside0.mk (hbox); have GW501 := HB.g0 hg; have GE501 := HB.g0 hg; replace HB := HB.s0 hb; clear hb hbox hg; obtain ⟨hcz11_0, hcz11_1, hcz11_2⟩ := cz3_ BK501.out; obtain ⟨hfz11_0, hfz11_1, hfz11_2⟩ := fz3_ BK501.out) | (go_at_call 66; (with_reducible refine (impl_DistanceOf.calls k a0_0 a0_1 a0_2 a1 a2 t502 _ A4.out).mono ?_); rintro e w12 ⟨rfl, hb⟩; replace BK501 := BK501.bb hb; replace HB := HB.s1 GE501 hb; (try clear hb); obtain ⟨hcz13_0, hcz13_1, hcz13_2⟩ := cz3_ BK501.out; obtain ⟨hfz13_0, hfz13_1, hfz13_2⟩ := fz3_ BK501.out) | (go_at_call 67; (with_reducible refine (impl_distances.calls k a0_0 a0_1 a0_2 a2 t503 _ A9.out).mono ?_); rintro e w14 ⟨v504, rfl, ho0, hb⟩; have HO505 := Aside0.mk (Kd.R_lower ho0 (below_size (hb1_ HB.out GE501.out))); replace BK501 := BK501.bb hb; replace HB := HB.s1 GE501 hb; (try clear hb); (try clear ho0)))
  repeat (go_quiet (first | (refine box_ (N := 3) (cs := #[.int .i64 a0_0, .int .i64 a0_1, .int .i64 a0_2]) (t := 28) ?_; intro gb501 hg w10 hbox hb; have BK501 := Aside0.mk (hbox); have GW501 := HB.g0 hg; have GE501 := HB.g0 hg; replace HB := HB.s0 hb; clear hb hbox hg; obtain ⟨hcz11_0, hcz11_1, hcz11_2⟩ := cz3_ BK501.out; obtain ⟨hfz11_0, hfz11_1, hfz11_2⟩ := fz3_ BK501.out) | (go_at_call 66; (with_reducible refine (impl_DistanceOf.calls k a0_0 a0_1 a0_2 a1 a2 t502 _ A4.out).mono ?_); rintro e w12 ⟨rfl, hb⟩; replace BK501 := BK501.bb hb; replace HB := HB.s1 GE501 hb; (try clear hb); obtain ⟨hcz13_0, hcz13_1, hcz13_2⟩ := cz3_ BK501.out; obtain ⟨hfz13_0, hfz13_1, hfz13_2⟩ := fz3_ BK501.out) | (go_at_call 67; (with_reducible refine (impl_distances.calls k a0_0 a0_1 a0_2 a2 t503 _ A9.out).mono ?_); rintro e w14 ⟨v504, rfl, ho0, hb⟩; have HO505 := Aside0.mk (Kd.R_lower ho0 (below_size (hb1_ HB.out GE501.out))); replace BK501 := BK501.bb hb; replace HB := HB.s1 GE501 hb; (try clear hb); (try clear ho0))); try go_wp2_with (first | (refine box_ (N := 3) (cs := #[.int .i64 a0_0, .int .i64 a0_1, .int .i64 a0_2]) (t := 28) ?_; intro gb501 hg w10 hbox hb; have BK501 := Aside0.mk (hbox); have GW501 := HB.g0 hg; have GE501 := HB.g0 hg; replace HB := HB.s0 hb; clear hb hbox hg; obtain ⟨hcz11_0, hcz11_1, hcz11_2⟩ := cz3_ BK501.out; obtain ⟨hfz11_0, hfz11_1, hfz11_2⟩ := fz3_ BK501.out) | (go_at_call 66; (with_reducible refine (impl_DistanceOf.calls k a0_0 a0_1 a0_2 a1 a2 t502 _ A4.out).mono ?_); rintro e w12 ⟨rfl, hb⟩; replace BK501 := BK501.bb hb; replace HB := HB.s1 GE501 hb; (try clear hb); obtain ⟨hcz13_0, hcz13_1, hcz13_2⟩ := cz3_ BK501.out; obtain ⟨hfz13_0, hfz13_1, hfz13_2⟩ := fz3_ BK501.out) | (go_at_call 67; (with_reducible refine (impl_distances.calls k a0_0 a0_1 a0_2 a2 t503 _ A9.out).mono ?_); rintro e w14 ⟨v504, rfl, ho0, hb⟩; have HO505 := Aside0.mk (Kd.R_lower ho0 (below_size (hb1_ HB.out GE501.out))); replace BK501 := BK501.bb hb; replace HB := HB.s1 GE501 hb; (try clear hb); (try clear ho0))))
  go_loopg [9, 10] k (fun kq v9 v10 w' => ∃ (x9_1 : List Int) (x10_1 : Int), v10 = .int .i64 x10_1 ∧ Aside0 (impl_WayBetween.l0 kq a2 t503 x9_1 x10_1 a0_0 a0_1 a0_2 = some (r1, r2)) ∧ Aside0 (kq ≤ k) ∧ Aside0 (Kd.R (Kd.int .i64) 3 w' w.heap.size (fun k_ => some k_ ≠ (v9 : Value).ownBlock) v504 t503) ∧ Aside0 (Kd.R (Kd.int .i64) 3 w' w.heap.size (fun k_ => some k_ ≠ (v504 : Value).ownBlock) v9 x9_1) ∧ Aside0 (w'.heap[gb501]? = some (.cells #[.int .i64 a0_0, .int .i64 a0_1, .int .i64 a0_2] 28 (0, 0))) ∧ Aside0 (Below w.heap.size w w'))
  case atStart => exact ⟨(([] : List Int)), (a1), (by first | rfl | (simp; done) | (simp [*]; done)), H', ⟨Nat.le_refl _⟩, ⟨by (with_reducible repeat (first | apply Kd.R_alloc | apply Kd.R_drewN | apply Kd.R_drew)); exact Kd.R_mono HO505.out (fun _ hk => (by simp [Value.ownBlock]))⟩, ⟨by first | exact Kd.R_nil _ _ _ _ _ | exact Kd.N_nil _ _ _ _ _ | exact Kd.V_nil _ _ _ _ _ | exact Kd.Q_nil _ _ _ _ _ | exact Kd.S_nil _ _ _ _ _⟩, ⟨bk_ BK501.out⟩, ⟨hb1_ HB.out GE501.out⟩⟩
  case round =>
   clear H'
   try clear p2
   try clear c5
   try clear c5b0
   try clear hcz11_0
   try clear hcz11_1
   try clear hcz11_2
   try clear hcz13_0
   try clear hcz13_1
   try clear hcz13_2
   try clear hcz7_0
   try clear hcz7_1
   try clear hcz7_2
   try clear hfz11_0
   try clear hfz11_1
   try clear hfz11_2
   try clear hfz13_0
   try clear hfz13_1
   try clear hfz13_2
   try clear hfz7_0
   try clear hfz7_1
   try clear hfz7_2
   obtain ⟨x9_1, x10_1, rfl, HA, HK1, HO_8, HO_9, BK501, HB⟩ := hrel
   cases gk with
   | zero => exact absurd HA.out (by simp [impl_WayBetween.l0])
   | succ k1 =>
    have H := HA.out
    clear HA
    simp only [impl_WayBetween.l0] at H
    by_cases c15 : x10_1 = a2
    ·rw [if_pos c15] at H
     have c15b0 : (x10_1 == a2) = true := beq_iff_eq.mpr c15
     have c15b1 : (x10_1 != a2) = false := bne_eq_false_iff_eq.mpr c15
     clear c15
     simp only [Option.some.injEq, Prod.mk.injEq] at H
     obtain ⟨rfl, rfl⟩ := H
     go_wp2
     repeat (go_quiet (fail); try go_wp2)
     go_ret2
     exact ⟨_, ex_, by (with_reducible repeat (first | apply Kd.R_alloc | apply Kd.R_drewN | apply Kd.R_drew)); exact Kd.R_mono HO_9.out (fun _ hk => trivial), hb1_ HB.out GE501.out⟩
    ·rw [if_neg c15] at H
     have c15b0 : (x10_1 == a2) = false := beq_eq_false_iff_ne.mpr c15
     have c15b1 : (x10_1 != a2) = true := bne_iff_ne.mpr c15
     replace H := Option.bind_eq_some_iff.mp H
     obtain ⟨t506, A160, H⟩ := H
     replace H : (impl_WayBetween.l1 k1 a2 t503 x9_1 x10_1 t506 (t506.length : Int) 0 a0_0 a0_1 a0_2) = some (r1, r2) := H
     have A16 := Aside0.mk A160
     clear A160
     have H' := Aside0.mk H
     clear H
     obtain ⟨hcz17_0, hcz17_1, hcz17_2⟩ := cz3_ BK501.out
     obtain ⟨hfz17_0, hfz17_1, hfz17_2⟩ := fz3_ BK501.out
     go_wp2_with (first | (go_at_call 68; (with_reducible refine (impl_WaysFrom.calls k1 a0_0 a0_1 a0_2 x10_1 t506 _ A16.out).mono ?_); rintro e w18 ⟨v507, rfl, ho0, hb⟩; have HO508 := Aside0.mk (Kd.R_lower (Kd.R_new' (Kd.R_new' ho0 (Kd.R_lt (kr_ HO_8.out))) (Kd.R_lt (kr_ HO_9.out))) (below_size (hb1_ HB.out GE501.out))); replace HO_8 := Aside0.mk (Kd.R_elder' (kr_ HO_8.out) (Kd.R_base ho0) hb); replace HO_9 := Aside0.mk (Kd.R_elder' (kr_ HO_9.out) (Kd.R_base ho0) hb); replace BK501 := BK501.bb hb; replace HB := HB.s1 GE501 hb; (try clear hb); (try clear ho0); obtain ⟨Ao19, co19, eo19⟩ := Kd.R_slice HO508.out; subst eo19))
     repeat (go_quiet (first | (go_at_call 68; (with_reducible refine (impl_WaysFrom.calls k1 a0_0 a0_1 a0_2 x10_1 t506 _ A16.out).mono ?_); rintro e w18 ⟨v507, rfl, ho0, hb⟩; have HO508 := Aside0.mk (Kd.R_lower (Kd.R_new' (Kd.R_new' ho0 (Kd.R_lt (kr_ HO_8.out))) (Kd.R_lt (kr_ HO_9.out))) (below_size (hb1_ HB.out GE501.out))); replace HO_8 := Aside0.mk (Kd.R_elder' (kr_ HO_8.out) (Kd.R_base ho0) hb); replace HO_9 := Aside0.mk (Kd.R_elder' (kr_ HO_9.out) (Kd.R_base ho0) hb); replace BK501 := BK501.bb hb; replace HB := HB.s1 GE501 hb; (try clear hb); (try clear ho0); obtain ⟨Ao19, co19, eo19⟩ := Kd.R_slice HO508.out; subst eo19)); try go_wp2_with (first | (go_at_call 68; (with_reducible refine (impl_WaysFrom.calls k1 a0_0 a0_1 a0_2 x10_1 t506 _ A16.out).mono ?_); rintro e w18 ⟨v507, rfl, ho0, hb⟩; have HO508 := Aside0.mk (Kd.R_lower (Kd.R_new' (Kd.R_new' ho0 (Kd.R_lt (kr_ HO_8.out))) (Kd.R_lt (kr_ HO_9.out))) (below_size (hb1_ HB.out GE501.out))); replace HO_8 := Aside0.mk (Kd.R_elder' (kr_ HO_8.out) (Kd.R_base ho0) hb); replace HO_9 := Aside0.mk (Kd.R_elder' (kr_ HO_9.out) (Kd.R_base ho0) hb); replace BK501 := BK501.bb hb; replace HB := HB.s1 GE501 hb; (try clear hb); (try clear ho0); obtain ⟨Ao19, co19, eo19⟩ := Kd.R_slice HO508.out; subst eo19)))
     go_loopg [9, 10, 30] k1 (fun kq v9 v10 v30 w' => ∃ (x9_2 : List Int) (x10_2 : Int) (x30_2 : Int), v10 = .int .i64 x10_2 ∧ v30 = .int .i64 x30_2 ∧ Aside0 (impl_WayBetween.l1 kq a2 t503 x9_2 x10_2 t506 (t506.length : Int) x30_2 a0_0 a0_1 a0_2 = some (r1, r2)) ∧ Aside0 (kq ≤ k1) ∧ Aside0 (Kd.R (Kd.int .i64) 3 w' w.heap.size (fun k_ => some k_ ≠ (v9 : Value).ownBlock ∧ some k_ ≠ ((.slice Ao19 t506.length co19) : Value).ownBlock) v504 t503) ∧ Aside0 (Kd.R (Kd.int .i64) 3 w' w.heap.size (fun k_ => some k_ ≠ (v504 : Value).ownBlock ∧ some k_ ≠ ((.slice Ao19 t506.length co19) : Value).ownBlock) v9 x9_2) ∧ Aside0 (Kd.R (Kd.int .i64) 3 w' w.heap.size (fun k_ => some k_ ≠ (v504 : Value).ownBlock ∧ some k_ ≠ (v9 : Value).ownBlock) (.slice Ao19 t506.length co19) t506) ∧ Aside0 (w'.heap[gb501]? = some (.cells #[.int .i64 a0_0, .int .i64 a0_1, .int .i64 a0_2] 28 (0, 0))) ∧ Aside0 (Below w.heap.size w w'))
     case atStart => exact ⟨(x9_1), (x10_1), (0), (by first | rfl | (simp; done) | (simp [*]; done)), (by first | rfl | (simp; done) | (simp [*]; done)), H', ⟨Nat.le_refl _⟩, ⟨kr_ HO_8.out⟩, ⟨kr_ HO_9.out⟩, ⟨by (with_reducible repeat (first | apply Kd.R_alloc | apply Kd.R_drewN | apply Kd.R_drew)); exact Kd.R_mono HO508.out (fun _ hk => ⟨hk.1.2, hk.2⟩)⟩, ⟨bk_ BK501.out⟩, ⟨hb1_ HB.out GE501.out⟩⟩
     case round =>
      clear H'
      try clear c1
      try clear p2
      try clear c5
      try clear c5b0
      try clear c15
      try clear c15b0
      try clear c15b1
      try clear hcz11_0
      try clear hcz11_1
      try clear hcz11_2
      try clear hcz13_0
      try clear hcz13_1
      try clear hcz13_2
      try clear hcz17_0
      try clear hcz17_1
      try clear hcz17_2
      try clear hcz7_0
      try clear hcz7_1
      try clear hcz7_2
      try clear hfz11_0
      try clear hfz11_1
      try clear hfz11_2
      try clear hfz13_0
      try clear hfz13_1
      try clear hfz13_2
      try clear hfz17_0
      try clear hfz17_1
      try clear hfz17_2
      try clear hfz7_0
      try clear hfz7_1
      try clear hfz7_2
      try clear p2
      obtain ⟨x9_2, x10_2, x30_2, rfl, rfl, HA, HK2, HO_8, HO_9, HO_28, BK501, HB⟩ := hrel
      cases gk with
      | zero => exact absurd HA.out (by simp [impl_WayBetween.l1])
      | succ k2 =>
       have H := HA.out
       clear HA
       simp only [impl_WayBetween.l1] at H
       by_cases c20 : x30_2 < (t506.length : Int)
       ·rw [if_pos c20] at H
        have c20b0 : decide (x30_2 < (t506.length : Int)) = true := decide_eq_true c20
        clear c20
        by_cases c21 : 0 ≤ x30_2
        ·rw [if_pos c21] at H
         have c21b0 : decide (0 ≤ x30_2) = true := decide_eq_true c21
         clear c21
         by_cases c22 : x30_2 < (t506.length : Int)
         ·rw [if_pos c22] at H
          have c22b0 : decide (x30_2 < (t506.length : Int)) = true := decide_eq_true c22
          clear c22
          replace H := Option.bind_eq_some_iff.mp H
          obtain ⟨t510, A230, H⟩ := H
          replace H : (if 0 ≤ t510 then (if t510 < (t503.length : Int) then (if 0 ≤ x10_2 then (if x10_2 < (t503.length : Int) then (if (rd t503 t510) < (rd t503 x10_2) then (if x9_2.length < 17592186044416 then (impl_WayBetween.l0 k2 a2 t503 (x9_2 ++ [rd t506 x30_2]) t510 a0_0 a0_1 a0_2) else (none)) else (impl_WayBetween.l1 k2 a2 t503 x9_2 x10_2 t506 (t506.length : Int) (wrap64 (x30_2 + 1)) a0_0 a0_1 a0_2)) else (none)) else (none)) else (none)) else (none)) = some (r1, r2) := H
          have A23 := Aside0.mk A230
          clear A230
          by_cases c24 : 0 ≤ t510
          ·rw [if_pos c24] at H
           have c24b0 : decide (0 ≤ t510) = true := decide_eq_true c24
           clear c24
           by_cases c25 : t510 < (t503.length : Int)
           ·rw [if_pos c25] at H
            have c25b0 : decide (t510 < (t503.length : Int)) = true := decide_eq_true c25
            clear c25
            by_cases c26 : 0 ≤ x10_2
            ·rw [if_pos c26] at H
             have c26b0 : decide (0 ≤ x10_2) = true := decide_eq_true c26
             clear c26
             by_cases c27 : x10_2 < (t503.length : Int)
             ·rw [if_pos c27] at H
              have c27b0 : decide (x10_2 < (t503.length : Int)) = true := decide_eq_true c27
              clear c27
              by_cases c28 : (rd t503 t510) < (rd t503 x10_2)
              ·rw [if_pos c28] at H
               have c28b0 : decide ((rd t503 t510) < (rd t503 x10_2)) = true := decide_eq_true c28
               clear c28
               by_cases c29 : x9_2.length < 17592186044416
               ·rw [if_pos c29] at H
                have LMc29 := Aside0.mk c29
                clear c29
                obtain ⟨y513, hy513⟩ : ∃ y_ : List Int, y_ = (x9_2 ++ [rd t506 x30_2]) := ⟨_, rfl⟩
                replace H : (impl_WayBetween.l0 k2 a2 t503 y513 t510 a0_0 a0_1 a0_2) = some (r1, r2) := by first | (rw [hy513]; with_reducible exact H) | (have H2_ := (Option.bind_some _ _).symm.trans H; rw [hy513]; with_reducible exact H2_) | (have H2_ := (Option.bind_some _ _).symm.trans H; with_reducible exact H2_) | with_reducible exact H | (rw [hy513]; exact H) | exact H
                have Ny513 := Aside0.mk hy513
                clear hy513
                have H' := Aside0.mk H
                clear H
                have p509 : 0 ≤ (x30_2 : Int) := of_decide_eq_true (as_)
                have q509 : x30_2 < (t506.length : Int) := of_decide_eq_true (as_)
                obtain ⟨ad509, e509, hx509_0⟩ := Kd.at_int (Kd.R_reads' HO_28.out).2.2 x30_2 p509 q509
                cases e509
                replace p509 := eq_true p509
                replace q509 := eq_true q509
                obtain ⟨hcz30_0, hcz30_1, hcz30_2⟩ := cz3_ BK501.out
                obtain ⟨hfz30_0, hfz30_1, hfz30_2⟩ := fz3_ BK501.out
                go_wp2_with (first | (go_at_call 57; (with_reducible refine (impl_Step.calls k2 a0_0 a0_1 a0_2 x10_2 (rd t506 x30_2) t510 _ A23.out).mono ?_); rintro e w31 ⟨rfl, hb⟩; replace HO_8 := HO_8.kb hb; replace HO_9 := HO_9.kb hb; replace HO_28 := HO_28.kb hb; replace BK501 := BK501.bb hb; replace HB := HB.s1 GE501 hb; (try clear hb); obtain ⟨Ao32, co32, eo32⟩ := Kd.R_slice HO_8.out; subst eo32; have p511 : 0 ≤ (t510 : Int) := of_decide_eq_true (as_); have q511 : t510 < (t503.length : Int) := of_decide_eq_true (as_); obtain ⟨ad511, e511, hx511_0⟩ := Kd.at_int (Kd.R_reads' HO_8.out).2.2 t510 p511 q511; cases e511; replace p511 := eq_true p511; replace q511 := eq_true q511; have p512 : 0 ≤ (x10_2 : Int) := of_decide_eq_true (as_); have q512 : x10_2 < (t503.length : Int) := of_decide_eq_true (as_); obtain ⟨ad512, e512, hx512_0⟩ := Kd.at_int (Kd.R_reads' HO_8.out).2.2 x10_2 p512 q512; obtain rfl : ad511 = ad512 := (by injection e512); replace p512 := eq_true p512; replace q512 := eq_true q512) | ((with_reducible refine gate_builtin (b := .append) (xs := #[.tmp 47, .tmp 49]) rfl ?_); at_builtin; refine Kd.R_append (Kd.int .i64) (w0 := w) w.heap.size rfl (.tmp 47) (.tmp 49) 37 3 (.int .i64 0) 8 rfl Tryd.underlying37 info3 rfl (by decide) (by omega) u9 x9_2 (rd t506 x30_2) [.int .i64 (rd t506 x30_2)] (fun k_ => some k_ ≠ (.slice (some ad511) t503.length co32 : Value).ownBlock ∧ some k_ ≠ (.slice (some ad509) t506.length co19 : Value).ownBlock) (fun _ => False) rfl rfl ?aP (fun _ hk => hk.elim) ?aF ?aO ?aB ?aS ?aL ?_; (case aP => exact rfl); (case aB => exact (hb1_ HB.out GE501.out)); (case aF => exact (fun k_ hk => ⟨Kd.fresh' (Kd.R_lt (kr_ HO_8.out)) k_ hk, Kd.fresh' (Kd.R_lt (kr_ HO_28.out)) k_ hk⟩)); (case aO => exact (kr_ HO_9.out)); (case aS => exact (below_size (hb1_ HB.out GE501.out))); (case aL => have := LMc29.out; omega); intro v514 w33 ho hb hg hat; rw [← Ny513.out] at ho; replace HO_8 := Aside0.mk (Kd.R_after (ok := (fun k_ => some k_ ≠ (.slice (some ad509) t506.length co19 : Value).ownBlock)) (by (with_reducible repeat (first | apply Kd.R_alloc | apply Kd.R_drewN | apply Kd.R_drew)); exact Kd.R_mono HO_8.out (fun _ hk => ⟨hk.2, hk.1⟩)) hg hat); replace HO_28 := Aside0.mk (Kd.R_after (ok := (fun k_ => some k_ ≠ (.slice (some ad511) t503.length co32 : Value).ownBlock)) (kr_ HO_28.out) hg hat); replace BK501 := Aside0.mk (blk_grown (g := gb501) (o := .cells #[.int .i64 a0_0, .int .i64 a0_1, .int .i64 a0_2] 28 (0, 0)) (bk_ BK501.out) hg (Kd.R_ne HO_9.out BK501.out (by decide))); replace HB := Aside0.mk (hb); have HO515 := Aside0.mk (ho); clear HO_9; clear ho hb hg hat))
                repeat (go_quiet (first | (go_at_call 57; (with_reducible refine (impl_Step.calls k2 a0_0 a0_1 a0_2 x10_2 (rd t506 x30_2) t510 _ A23.out).mono ?_); rintro e w31 ⟨rfl, hb⟩; replace HO_8 := HO_8.kb hb; replace HO_9 := HO_9.kb hb; replace HO_28 := HO_28.kb hb; replace BK501 := BK501.bb hb; replace HB := HB.s1 GE501 hb; (try clear hb); obtain ⟨Ao32, co32, eo32⟩ := Kd.R_slice HO_8.out; subst eo32; have p511 : 0 ≤ (t510 : Int) := of_decide_eq_true (as_); have q511 : t510 < (t503.length : Int) := of_decide_eq_true (as_); obtain ⟨ad511, e511, hx511_0⟩ := Kd.at_int (Kd.R_reads' HO_8.out).2.2 t510 p511 q511; cases e511; replace p511 := eq_true p511; replace q511 := eq_true q511; have p512 : 0 ≤ (x10_2 : Int) := of_decide_eq_true (as_); have q512 : x10_2 < (t503.length : Int) := of_decide_eq_true (as_); obtain ⟨ad512, e512, hx512_0⟩ := Kd.at_int (Kd.R_reads' HO_8.out).2.2 x10_2 p512 q512; obtain rfl : ad511 = ad512 := (by injection e512); replace p512 := eq_true p512; replace q512 := eq_true q512) | ((with_reducible refine gate_builtin (b := .append) (xs := #[.tmp 47, .tmp 49]) rfl ?_); at_builtin; refine Kd.R_append (Kd.int .i64) (w0 := w) w.heap.size rfl (.tmp 47) (.tmp 49) 37 3 (.int .i64 0) 8 rfl Tryd.underlying37 info3 rfl (by decide) (by omega) u9 x9_2 (rd t506 x30_2) [.int .i64 (rd t506 x30_2)] (fun k_ => some k_ ≠ (.slice (some ad511) t503.length co32 : Value).ownBlock ∧ some k_ ≠ (.slice (some ad509) t506.length co19 : Value).ownBlock) (fun _ => False) rfl rfl ?aP (fun _ hk => hk.elim) ?aF ?aO ?aB ?aS ?aL ?_; (case aP => exact rfl); (case aB => exact (hb1_ HB.out GE501.out)); (case aF => exact (fun k_ hk => ⟨Kd.fresh' (Kd.R_lt (kr_ HO_8.out)) k_ hk, Kd.fresh' (Kd.R_lt (kr_ HO_28.out)) k_ hk⟩)); (case aO => exact (kr_ HO_9.out)); (case aS => exact (below_size (hb1_ HB.out GE501.out))); (case aL => have := LMc29.out; omega); intro v514 w33 ho hb hg hat; rw [← Ny513.out] at ho; replace HO_8 := Aside0.mk (Kd.R_after (ok := (fun k_ => some k_ ≠ (.slice (some ad509) t506.length co19 : Value).ownBlock)) (by (with_reducible repeat (first | apply Kd.R_alloc | apply Kd.R_drewN | apply Kd.R_drew)); exact Kd.R_mono HO_8.out (fun _ hk => ⟨hk.2, hk.1⟩)) hg hat); replace HO_28 := Aside0.mk (Kd.R_after (ok := (fun k_ => some k_ ≠ (.slice (some ad511) t503.length co32 : Value).ownBlock)) (kr_ HO_28.out) hg hat); replace BK501 := Aside0.mk (blk_grown (g := gb501) (o := .cells #[.int .i64 a0_0, .int .i64 a0_1, .int .i64 a0_2] 28 (0, 0)) (bk_ BK501.out) hg (Kd.R_ne HO_9.out BK501.out (by decide))); replace HB := Aside0.mk (hb); have HO515 := Aside0.mk (ho); clear HO_9; clear ho hb hg hat)); try go_wp2_with (first | (go_at_call 57; (with_reducible refine (impl_Step.calls k2 a0_0 a0_1 a0_2 x10_2 (rd t506 x30_2) t510 _ A23.out).mono ?_); rintro e w31 ⟨rfl, hb⟩; replace HO_8 := HO_8.kb hb; replace HO_9 := HO_9.kb hb; replace HO_28 := HO_28.kb hb; replace BK501 := BK501.bb hb; replace HB := HB.s1 GE501 hb; (try clear hb); obtain ⟨Ao32, co32, eo32⟩ := Kd.R_slice HO_8.out; subst eo32; have p511 : 0 ≤ (t510 : Int) := of_decide_eq_true (as_); have q511 : t510 < (t503.length : Int) := of_decide_eq_true (as_); obtain ⟨ad511, e511, hx511_0⟩ := Kd.at_int (Kd.R_reads' HO_8.out).2.2 t510 p511 q511; cases e511; replace p511 := eq_true p511; replace q511 := eq_true q511; have p512 : 0 ≤ (x10_2 : Int) := of_decide_eq_true (as_); have q512 : x10_2 < (t503.length : Int) := of_decide_eq_true (as_); obtain ⟨ad512, e512, hx512_0⟩ := Kd.at_int (Kd.R_reads' HO_8.out).2.2 x10_2 p512 q512; obtain rfl : ad511 = ad512 := (by injection e512); replace p512 := eq_true p512; replace q512 := eq_true q512) | ((with_reducible refine gate_builtin (b := .append) (xs := #[.tmp 47, .tmp 49]) rfl ?_); at_builtin; refine Kd.R_append (Kd.int .i64) (w0 := w) w.heap.size rfl (.tmp 47) (.tmp 49) 37 3 (.int .i64 0) 8 rfl Tryd.underlying37 info3 rfl (by decide) (by omega) u9 x9_2 (rd t506 x30_2) [.int .i64 (rd t506 x30_2)] (fun k_ => some k_ ≠ (.slice (some ad511) t503.length co32 : Value).ownBlock ∧ some k_ ≠ (.slice (some ad509) t506.length co19 : Value).ownBlock) (fun _ => False) rfl rfl ?aP (fun _ hk => hk.elim) ?aF ?aO ?aB ?aS ?aL ?_; (case aP => exact rfl); (case aB => exact (hb1_ HB.out GE501.out)); (case aF => exact (fun k_ hk => ⟨Kd.fresh' (Kd.R_lt (kr_ HO_8.out)) k_ hk, Kd.fresh' (Kd.R_lt (kr_ HO_28.out)) k_ hk⟩)); (case aO => exact (kr_ HO_9.out)); (case aS => exact (below_size (hb1_ HB.out GE501.out))); (case aL => have := LMc29.out; omega); intro v514 w33 ho hb hg hat; rw [← Ny513.out] at ho; replace HO_8 := Aside0.mk (Kd.R_after (ok := (fun k_ => some k_ ≠ (.slice (some ad509) t506.length co19 : Value).ownBlock)) (by (with_reducible repeat (first | apply Kd.R_alloc | apply Kd.R_drewN | apply Kd.R_drew)); exact Kd.R_mono HO_8.out (fun _ hk => ⟨hk.2, hk.1⟩)) hg hat); replace HO_28 := Aside0.mk (Kd.R_after (ok := (fun k_ => some k_ ≠ (.slice (some ad511) t503.length co32 : Value).ownBlock)) (kr_ HO_28.out) hg hat); replace BK501 := Aside0.mk (blk_grown (g := gb501) (o := .cells #[.int .i64 a0_0, .int .i64 a0_1, .int .i64 a0_2] 28 (0, 0)) (bk_ BK501.out) hg (Kd.R_ne HO_9.out BK501.out (by decide))); replace HB := Aside0.mk (hb); have HO515 := Aside0.mk (ho); clear HO_9; clear ho hb hg hat)))
                go_roundg k2
                case measure => have := HK1.out; have := HK2.out; omega
                case rel => exact ⟨(y513), (t510), (by first | rfl | (simp; done) | (simp [*]; done)), H', ⟨by have := HK1.out; have := HK2.out; omega⟩, ⟨by (with_reducible repeat (first | apply Kd.R_alloc | apply Kd.R_drewN | apply Kd.R_drew)); exact Kd.R_mono HO_8.out (fun _ hk => hk.2)⟩, ⟨by (with_reducible repeat (first | apply Kd.R_alloc | apply Kd.R_drewN | apply Kd.R_drew)); exact Kd.R_mono HO515.out (fun _ hk => hk.1)⟩, ⟨bk_ BK501.out⟩, ⟨hb1_ HB.out GE501.out⟩⟩
               ·rw [if_neg c29] at H
                exact absurd H (by simp)
              ·rw [if_neg c28] at H
               have c28b0 : decide ((rd t503 t510) < (rd t503 x10_2)) = false := decide_eq_false c28
               clear c28
               have H' := Aside0.mk H
               clear H
               have p509 : 0 ≤ (x30_2 : Int) := of_decide_eq_true (as_)
               have q509 : x30_2 < (t506.length : Int) := of_decide_eq_true (as_)
               obtain ⟨ad509, e509, hx509_0⟩ := Kd.at_int (Kd.R_reads' HO_28.out).2.2 x30_2 p509 q509
               cases e509
               replace p509 := eq_true p509
               replace q509 := eq_true q509
               obtain ⟨hcz34_0, hcz34_1, hcz34_2⟩ := cz3_ BK501.out
               obtain ⟨hfz34_0, hfz34_1, hfz34_2⟩ := fz3_ BK501.out
               go_wp2_with (first | (go_at_call 57; (with_reducible refine (impl_Step.calls k2 a0_0 a0_1 a0_2 x10_2 (rd t506 x30_2) t510 _ A23.out).mono ?_); rintro e w35 ⟨rfl, hb⟩; replace HO_8 := HO_8.kb hb; replace HO_9 := HO_9.kb hb; replace HO_28 := HO_28.kb hb; replace BK501 := BK501.bb hb; replace HB := HB.s1 GE501 hb; (try clear hb); obtain ⟨Ao36, co36, eo36⟩ := Kd.R_slice HO_8.out; subst eo36; have p511 : 0 ≤ (t510 : Int) := of_decide_eq_true (as_); have q511 : t510 < (t503.length : Int) := of_decide_eq_true (as_); obtain ⟨ad511, e511, hx511_0⟩ := Kd.at_int (Kd.R_reads' HO_8.out).2.2 t510 p511 q511; cases e511; replace p511 := eq_true p511; replace q511 := eq_true q511; have p512 : 0 ≤ (x10_2 : Int) := of_decide_eq_true (as_); have q512 : x10_2 < (t503.length : Int) := of_decide_eq_true (as_); obtain ⟨ad512, e512, hx512_0⟩ := Kd.at_int (Kd.R_reads' HO_8.out).2.2 x10_2 p512 q512; obtain rfl : ad511 = ad512 := (by injection e512); replace p512 := eq_true p512; replace q512 := eq_true q512))
               repeat (go_quiet (first | (go_at_call 57; (with_reducible refine (impl_Step.calls k2 a0_0 a0_1 a0_2 x10_2 (rd t506 x30_2) t510 _ A23.out).mono ?_); rintro e w35 ⟨rfl, hb⟩; replace HO_8 := HO_8.kb hb; replace HO_9 := HO_9.kb hb; replace HO_28 := HO_28.kb hb; replace BK501 := BK501.bb hb; replace HB := HB.s1 GE501 hb; (try clear hb); obtain ⟨Ao36, co36, eo36⟩ := Kd.R_slice HO_8.out; subst eo36; have p511 : 0 ≤ (t510 : Int) := of_decide_eq_true (as_); have q511 : t510 < (t503.length : Int) := of_decide_eq_true (as_); obtain ⟨ad511, e511, hx511_0⟩ := Kd.at_int (Kd.R_reads' HO_8.out).2.2 t510 p511 q511; cases e511; replace p511 := eq_true p511; replace q511 := eq_true q511; have p512 : 0 ≤ (x10_2 : Int) := of_decide_eq_true (as_); have q512 : x10_2 < (t503.length : Int) := of_decide_eq_true (as_); obtain ⟨ad512, e512, hx512_0⟩ := Kd.at_int (Kd.R_reads' HO_8.out).2.2 x10_2 p512 q512; obtain rfl : ad511 = ad512 := (by injection e512); replace p512 := eq_true p512; replace q512 := eq_true q512)); try go_wp2_with (first | (go_at_call 57; (with_reducible refine (impl_Step.calls k2 a0_0 a0_1 a0_2 x10_2 (rd t506 x30_2) t510 _ A23.out).mono ?_); rintro e w35 ⟨rfl, hb⟩; replace HO_8 := HO_8.kb hb; replace HO_9 := HO_9.kb hb; replace HO_28 := HO_28.kb hb; replace BK501 := BK501.bb hb; replace HB := HB.s1 GE501 hb; (try clear hb); obtain ⟨Ao36, co36, eo36⟩ := Kd.R_slice HO_8.out; subst eo36; have p511 : 0 ≤ (t510 : Int) := of_decide_eq_true (as_); have q511 : t510 < (t503.length : Int) := of_decide_eq_true (as_); obtain ⟨ad511, e511, hx511_0⟩ := Kd.at_int (Kd.R_reads' HO_8.out).2.2 t510 p511 q511; cases e511; replace p511 := eq_true p511; replace q511 := eq_true q511; have p512 : 0 ≤ (x10_2 : Int) := of_decide_eq_true (as_); have q512 : x10_2 < (t503.length : Int) := of_decide_eq_true (as_); obtain ⟨ad512, e512, hx512_0⟩ := Kd.at_int (Kd.R_reads' HO_8.out).2.2 x10_2 p512 q512; obtain rfl : ad511 = ad512 := (by injection e512); replace p512 := eq_true p512; replace q512 := eq_true q512)))
               go_roundg k2
               case measure => have := HK1.out; have := HK2.out; omega
               case rel => exact ⟨(x9_2), (x10_2), (wrap64 (x30_2 + 1)), (by first | rfl | (simp; done) | (simp [*]; done)), (by first | rfl | (simp; done) | (simp [*]; done)), H', ⟨by have := HK1.out; have := HK2.out; omega⟩, ⟨kr_ HO_8.out⟩, ⟨kr_ HO_9.out⟩, ⟨kr_ HO_28.out⟩, ⟨bk_ BK501.out⟩, ⟨hb1_ HB.out GE501.out⟩⟩
             ·rw [if_neg c27] at H
              exact absurd H (by simp)
            ·rw [if_neg c26] at H
             exact absurd H (by simp)
           ·rw [if_neg c25] at H
            exact absurd H (by simp)
          ·rw [if_neg c24] at H
           exact absurd H (by simp)
         ·rw [if_neg c22] at H
          exact absurd H (by simp)
        ·rw [if_neg c21] at H
         exact absurd H (by simp)
       ·rw [if_neg c20] at H
        have c20b0 : decide (x30_2 < (t506.length : Int)) = false := decide_eq_false c20
        clear c20
        have H' := Aside0.mk H
        clear H
        go_wp2
        repeat (go_quiet (fail); try go_wp2)
        go_roundg k2
        case measure => have := HK1.out; have := HK2.out; omega
        case rel => exact ⟨(x9_2), (x10_2), (by first | rfl | (simp; done) | (simp [*]; done)), H', ⟨by have := HK1.out; have := HK2.out; omega⟩, ⟨by (with_reducible repeat (first | apply Kd.R_alloc | apply Kd.R_drewN | apply Kd.R_drew)); exact Kd.R_mono HO_8.out (fun _ hk => hk.1)⟩, ⟨by (with_reducible repeat (first | apply Kd.R_alloc | apply Kd.R_drewN | apply Kd.R_drew)); exact Kd.R_mono HO_9.out (fun _ hk => hk.1)⟩, ⟨bk_ BK501.out⟩, ⟨hb1_ HB.out GE501.out⟩⟩

/-! ### impl_gapsOn: function 38 -/
def impl_gapsOn.l0 : Nat → Int → List Int → List Int → Int → Int → Int → Int → Int → Option (List Int)
 | 0, _, _, _, _, _, _, _, _ => none
 | k + 1, x1, x9, x19, x20, x21, x502000, x502001, x502002 => if x21 < x20 then (if 0 ≤ x21 then (if x21 < (x19.length : Int) then ((impl_GapAt.f k x502000 x502001 x1 (rd x19 x21)).bind fun t507 => (if x9.length < 17592186044416 then ((impl_Step.f k x502000 x502001 x502002 x1 (rd x19 x21)).bind fun t511 => (impl_gapsOn.l0 k t511 (x9 ++ [t507]) x19 x20 (wrap64 (x21 + 1)) x502000 x502001 x502002)) else (none))) else (none)) else (none)) else (some x9)
def impl_gapsOn.f (k : Nat) (a0_0 : Int) (a0_1 : Int) (a0_2 : Int) (a1 : Int) (a2 : Int) : Option (List Int) := (impl_WayBetween.f k a0_0 a0_1 a0_2 a1 a2).bind fun bt502 => (impl_gapsOn.l0 k a1 ([] : List Int) bt502.1 (bt502.1.length : Int) 0 a0_0 a0_1 a0_2)
theorem impl_gapsOn.mono_l : ∀ k, (∀ y0 y1 y2 y3 y4 y5 y6 y7, LeO (impl_gapsOn.l0 k y0 y1 y2 y3 y4 y5 y6 y7) (impl_gapsOn.l0 (k + 1) y0 y1 y2 y3 y4 y5 y6 y7))
 | 0 => fun _ _ _ _ _ _ _ _ r h => by simp [impl_gapsOn.l0] at h
 | k + 1 => by
  have ih0 := impl_gapsOn.mono_l k
  ·intro y0 y1 y2 y3 y4 y5 y6 y7
   unfold impl_gapsOn.l0
   repeat' first
   | (with_reducible exact ih0 ..)
   | (with_reducible exact impl_GapAt.mono ..)
   | (with_reducible exact impl_Step.mono ..)
   | (with_reducible exact impl_WayBetween.mono ..)
   | (with_reducible first | exact lr_ _ | exact ln_ _ | refine li_ ?_ ?_ | refine lb_ ?_ fun _ => ?_)
   | exact ih0 ..
   | exact impl_GapAt.mono ..
   | exact impl_Step.mono ..
   | exact impl_WayBetween.mono ..
   | exact ln_ _ | refine li_ ?_ ?_ | refine lb_ ?_ fun _ => ?_
theorem impl_gapsOn.mono : ∀ a0 a1 a2 a3 a4 k, LeO (impl_gapsOn.f k a0 a1 a2 a3 a4) (impl_gapsOn.f (k + 1) a0 a1 a2 a3 a4) := by
 intro a0 a1 a2 a3 a4 k
 have ih0 := impl_gapsOn.mono_l k
 unfold impl_gapsOn.f
 repeat' first
   | (with_reducible exact ih0 ..)
   | (with_reducible exact impl_GapAt.mono ..)
   | (with_reducible exact impl_Step.mono ..)
   | (with_reducible exact impl_WayBetween.mono ..)
   | (with_reducible first | exact lr_ _ | exact ln_ _ | refine li_ ?_ ?_ | refine lb_ ?_ fun _ => ?_)
   | exact ih0 ..
   | exact impl_GapAt.mono ..
   | exact impl_Step.mono ..
   | exact impl_WayBetween.mono ..
   | exact ln_ _ | refine li_ ?_ ?_ | refine lb_ ?_ fun _ => ?_
set_option maxHeartbeats 8000000 in
set_option maxRecDepth 100000 in
theorem impl_gapsOn.calls (k : Nat) (a0_0 : Int) (a0_1 : Int) (a0_2 : Int) (a1 : Int) (a2 : Int) (r : List Int) (w : World) (h : impl_gapsOn.f k a0_0 a0_1 a0_2 a1 a2 = some r) :
  Calls Tryd.prog 38 #[.agg #[.int .i64 a0_0, .int .i64 a0_1, .int .i64 a0_2], .int .i64 a1, .int .i64 a2] w fun e w' => ∃ v0_ : Value, e = .returned (v0_) ∧ Kd.R (Kd.int .i64) 3 w' w.heap.size (fun _ => True) v0_ r ∧ Below w.heap.size w w' := by
 have hu28 := Tryd.underlying28
 have hu26 := Tryd.underlying26
 have HB := Aside0.mk (Below.refl w.heap.size w)
 have H : ((impl_WayBetween.f k a0_0 a0_1 a0_2 a1 a2).bind fun bt502 => (impl_gapsOn.l0 k a1 ([] : List Int) bt502.1 (bt502.1.length : Int) 0 a0_0 a0_1 a0_2)) = some r := h
 clear h
 replace H := Option.bind_eq_some_iff.mp H
 obtain ⟨⟨t502, t505⟩, A40, H⟩ := H
 replace H : (impl_gapsOn.l0 k a1 ([] : List Int) t502 (t502.length : Int) 0 a0_0 a0_1 a0_2) = some r := H
 have A4 := Aside0.mk A40
 clear A40
 have H' := Aside0.mk H
 clear H
 go_enter Tryd.func38, Tryd.ntmps38
 go_wp2_with (first | (refine box_ (N := 3) (cs := #[.int .i64 a0_0, .int .i64 a0_1, .int .i64 a0_2]) (t := 28) ?_; intro gb501 hg w5 hbox hb; have BK501 := Aside0.mk (hbox); have GW501 := HB.g0 hg; have GE501 := HB.g0 hg; replace HB := HB.s0 hb; clear hb hbox hg; obtain ⟨hcz6_0, hcz6_1, hcz6_2⟩ := cz3_ BK501.out; obtain ⟨hfz6_0, hfz6_1, hfz6_2⟩ := fz3_ BK501.out) | (refine gl_ 16 Tryd.func55 #[.agg #[.int .i64 a0_0, .int .i64 a0_1, .int .i64 a0_2], .int .i64 a1, .int .i64 a2] ?_; (with_reducible refine (impl_WayBetween.calls k a0_0 a0_1 a0_2 a1 a2 t502 t505 _ A4.out).mono ?_); rintro e w7 ⟨v503, rfl, ho0, hb⟩; refine ⟨_, rfl, ?_⟩; have HO504 := Aside0.mk (Kd.R_lower ho0 (below_size (hb1_ HB.out GE501.out))); replace BK501 := BK501.bb hb; replace HB := HB.s1 GE501 hb; (try clear hb); (try clear ho0); obtain ⟨Ao8, co8, eo8⟩ := Kd.R_slice HO504.out; subst eo8))
 go_loopg [1, 9, 21] k (fun kq v1 v9 v21 w' => ∃ (x1_1 : Int) (x9_1 : List Int) (x21_1 : Int), v1 = .int .i64 x1_1 ∧ v21 = .int .i64 x21_1 ∧ Aside0 (impl_gapsOn.l0 kq x1_1 x9_1 t502 (t502.length : Int) x21_1 a0_0 a0_1 a0_2 = some r) ∧ Aside0 (kq ≤ k) ∧ Aside0 (Kd.R (Kd.int .i64) 3 w' w.heap.size (fun k_ => some k_ ≠ ((.slice Ao8 t502.length co8) : Value).ownBlock) v9 x9_1) ∧ Aside0 (Kd.R (Kd.int .i64) 3 w' w.heap.size (fun k_ => some k_ ≠ (v9 : Value).ownBlock) (.slice Ao8 t502.length co8) t502) ∧ Aside0 (w'.heap[gb501]? = some (.cells #[.int .i64 a0_0, .int .i64 a0_1, .int .i64 a0_2] 28 (0, 0))) ∧ Aside0 (Below w.heap.size w w'))
 case atStart => exact ⟨(a1), (([] : List Int)), (0), (by first | rfl | (simp; done) | (simp [*]; done)), (by first | rfl | (simp; done) | (simp [*]; done)), H', ⟨Nat.le_refl _⟩, ⟨by first | exact Kd.R_nil _ _ _ _ _ | exact Kd.N_nil _ _ _ _ _ | exact Kd.V_nil _ _ _ _ _ | exact Kd.Q_nil _ _ _ _ _ | exact Kd.S_nil _ _ _ _ _⟩, ⟨by (with_reducible repeat (first | apply Kd.R_alloc | apply Kd.R_drewN | apply Kd.R_drew)); exact Kd.R_mono HO504.out (fun _ hk => (by simp [Value.ownBlock]))⟩, ⟨bk_ BK501.out⟩, ⟨hb1_ HB.out GE501.out⟩⟩
 case round =>
  clear H'
  try clear p2
  try clear c3
  try clear c5
  try clear hcz6_0
  try clear hcz6_1
  try clear hcz6_2
  try clear hfz6_0
  try clear hfz6_1
  try clear hfz6_2
  obtain ⟨x1_1, x9_1, x21_1, rfl, rfl, HA, HK1, HO_9, HO_19, BK501, HB⟩ := hrel
  cases gk with
  | zero => exact absurd HA.out (by simp [impl_gapsOn.l0])
  | succ k1 =>
   have H := HA.out
   clear HA
   simp only [impl_gapsOn.l0] at H
   by_cases c9 : x21_1 < (t502.length : Int)
   ·rw [if_pos c9] at H
    have c9b0 : decide (x21_1 < (t502.length : Int)) = true := decide_eq_true c9
    clear c9
    by_cases c10 : 0 ≤ x21_1
    ·rw [if_pos c10] at H
     have c10b0 : decide (0 ≤ x21_1) = true := decide_eq_true c10
     clear c10
     by_cases c11 : x21_1 < (t502.length : Int)
     ·rw [if_pos c11] at H
      have c11b0 : decide (x21_1 < (t502.length : Int)) = true := decide_eq_true c11
      clear c11
      replace H := Option.bind_eq_some_iff.mp H
      obtain ⟨t507, A120, H⟩ := H
      replace H : (if x9_1.length < 17592186044416 then ((impl_Step.f k1 a0_0 a0_1 a0_2 x1_1 (rd t502 x21_1)).bind fun t511 => (impl_gapsOn.l0 k1 t511 (x9_1 ++ [t507]) t502 (t502.length : Int) (wrap64 (x21_1 + 1)) a0_0 a0_1 a0_2)) else (none)) = some r := H
      have A12 := Aside0.mk A120
      clear A120
      by_cases c13 : x9_1.length < 17592186044416
      ·rw [if_pos c13] at H
       have LMc13 := Aside0.mk c13
       clear c13
       obtain ⟨y508, hy508⟩ : ∃ y_ : List Int, y_ = (x9_1 ++ [t507]) := ⟨_, rfl⟩
       replace H : ((impl_Step.f k1 a0_0 a0_1 a0_2 x1_1 (rd t502 x21_1)).bind fun t511 => (impl_gapsOn.l0 k1 t511 y508 t502 (t502.length : Int) (wrap64 (x21_1 + 1)) a0_0 a0_1 a0_2)) = some r := by first | (rw [hy508]; with_reducible exact H) | (have H2_ := (Option.bind_some _ _).symm.trans H; rw [hy508]; with_reducible exact H2_) | (have H2_ := (Option.bind_some _ _).symm.trans H; with_reducible exact H2_) | with_reducible exact H | (rw [hy508]; exact H) | exact H
       have Ny508 := Aside0.mk hy508
       clear hy508
       replace H := Option.bind_eq_some_iff.mp H
       obtain ⟨t511, A140, H⟩ := H
       replace H : (impl_gapsOn.l0 k1 t511 y508 t502 (t502.length : Int) (wrap64 (x21_1 + 1)) a0_0 a0_1 a0_2) = some r := H
       have A14 := Aside0.mk A140
       clear A140
       have H' := Aside0.mk H
       clear H
       have p506 : 0 ≤ (x21_1 : Int) := of_decide_eq_true (as_)
       have q506 : x21_1 < (t502.length : Int) := of_decide_eq_true (as_)
       obtain ⟨ad506, e506, hx506_0⟩ := Kd.at_int (Kd.R_reads' HO_19.out).2.2 x21_1 p506 q506
       cases e506
       replace p506 := eq_true p506
       replace q506 := eq_true q506
       obtain ⟨hcz15_0, hcz15_1, hcz15_2⟩ := cz3_ BK501.out
       obtain ⟨hfz15_0, hfz15_1, hfz15_2⟩ := fz3_ BK501.out
       go_wp2_with (first | (refine gl_ 30 Tryd.func56 #[.agg #[.int .i64 a0_0, .int .i64 a0_1], .int .i64 x1_1, .int .i64 (rd t502 x21_1)] ?_; (with_reducible refine (impl_GapAt.calls k1 a0_0 a0_1 x1_1 (rd t502 x21_1) t507 _ A12.out).mono ?_); rintro e w16 ⟨rfl, hb⟩; refine ⟨_, rfl, ?_⟩; replace HO_9 := HO_9.kb hb; replace HO_19 := HO_19.kb hb; replace BK501 := BK501.bb hb; replace HB := HB.s1 GE501 hb; (try clear hb)) | ((with_reducible refine gate_builtin (b := .append) (xs := #[.tmp 25, .tmp 31]) rfl ?_); at_builtin; refine Kd.R_append (Kd.int .i64) (w0 := w) w.heap.size rfl (.tmp 25) (.tmp 31) 37 3 (.int .i64 0) 8 rfl Tryd.underlying37 info3 rfl (by decide) (by omega) u9 x9_1 t507 [.int .i64 t507] (fun k_ => some k_ ≠ (.slice (some ad506) t502.length co8 : Value).ownBlock) (fun _ => False) rfl rfl ?aP (fun _ hk => hk.elim) ?aF ?aO ?aB ?aS ?aL ?_; (case aP => exact rfl); (case aB => exact (hb1_ HB.out GE501.out)); (case aF => exact (fun k_ hk => Kd.fresh' (Kd.R_lt (kr_ HO_19.out)) k_ hk)); (case aO => exact (kr_ HO_9.out)); (case aS => exact (below_size (hb1_ HB.out GE501.out))); (case aL => have := LMc13.out; omega); intro v509 w17 ho hb hg hat; rw [← Ny508.out] at ho; replace HO_19 := Aside0.mk (Kd.R_after (ok := (fun _ => True)) (by (with_reducible repeat (first | apply Kd.R_alloc | apply Kd.R_drewN | apply Kd.R_drew)); exact Kd.R_mono HO_19.out (fun _ hk => ⟨trivial, hk⟩)) hg hat); replace BK501 := Aside0.mk (blk_grown (g := gb501) (o := .cells #[.int .i64 a0_0, .int .i64 a0_1, .int .i64 a0_2] 28 (0, 0)) (bk_ BK501.out) hg (Kd.R_ne HO_9.out BK501.out (by decide))); replace HB := Aside0.mk (hb); have HO510 := Aside0.mk (ho); clear HO_9; clear ho hb hg hat; obtain ⟨hcz18_0, hcz18_1, hcz18_2⟩ := cz3_ BK501.out; obtain ⟨hfz18_0, hfz18_1, hfz18_2⟩ := fz3_ BK501.out) | (refine gl_ 36 Tryd.func57 #[.agg #[.int .i64 a0_0, .int .i64 a0_1, .int .i64 a0_2], .int .i64 x1_1, .int .i64 (rd t502 x21_1)] ?_; (with_reducible refine (impl_Step.calls k1 a0_0 a0_1 a0_2 x1_1 (rd t502 x21_1) t511 _ A14.out).mono ?_); rintro e w19 ⟨rfl, hb⟩; refine ⟨_, rfl, ?_⟩; replace HO_19 := HO_19.kb hb; replace HO510 := HO510.kb hb; replace BK501 := BK501.bb hb; replace HB := HB.s1 GE501 hb; (try clear hb)))
       go_roundg k1
       case measure => have := HK1.out; omega
       case rel => exact ⟨(t511), (y508), (wrap64 (x21_1 + 1)), (by first | rfl | (simp; done) | (simp [*]; done)), (by first | rfl | (simp; done) | (simp [*]; done)), H', ⟨by have := HK1.out; omega⟩, ⟨kr_ HO510.out⟩, ⟨by (with_reducible repeat (first | apply Kd.R_alloc | apply Kd.R_drewN | apply Kd.R_drew)); exact Kd.R_mono HO_19.out (fun _ hk => hk.2)⟩, ⟨bk_ BK501.out⟩, ⟨hb1_ HB.out GE501.out⟩⟩
      ·rw [if_neg c13] at H
       exact absurd H (by simp)
     ·rw [if_neg c11] at H
      exact absurd H (by simp)
    ·rw [if_neg c10] at H
     exact absurd H (by simp)
   ·rw [if_neg c9] at H
    have c9b0 : decide (x21_1 < (t502.length : Int)) = false := decide_eq_false c9
    clear c9
    obtain rfl := Option.some.inj H
    go_wp2
    go_ret
    exact ⟨_, ex_, by (with_reducible repeat (first | apply Kd.R_alloc | apply Kd.R_drewN | apply Kd.R_drew)); exact Kd.R_mono HO_9.out (fun _ hk => trivial), hb1_ HB.out GE501.out⟩

/-! ### impl_LoopGaps: function 19 -/
def impl_LoopGaps.j0 : Nat → Int → Bool → Int → Int → Int → Option (List Int)
 | 0, _, _, _, _, _ => none
 | k + 1, x1, x21, x502000, x502001, x502002 => if x21 = true then (some ([] : List Int)) else ((impl_EndsOf.f x502000 x502001 x1).bind fun bt505 => ((impl_gapsOn.f k x502000 x502001 x502002 bt505.1 bt505.2).bind fun t507 => ((impl_ordered.f t507).bind fun t510 => (some t510))))
def impl_LoopGaps.f (k : Nat) (a0_0 : Int) (a0_1 : Int) (a0_2 : Int) (a1 : Int) : Option (List Int) := (impl_IsPerfect.f k a0_0 a0_1 a0_2).bind fun t502 => (if t502 = true then ((impl_isGap.f a0_0 a0_1 a1).bind fun t503 => (if t503 = true then ((impl_isOpen.f a0_0 a0_1 a0_2 a1).bind fun t504 => (impl_LoopGaps.j0 k a1 t504 a0_0 a0_1 a0_2)) else (impl_LoopGaps.j0 k a1 true a0_0 a0_1 a0_2))) else (impl_LoopGaps.j0 k a1 true a0_0 a0_1 a0_2))
theorem impl_LoopGaps.mono_l : ∀ k, (∀ y0 y1 y2 y3 y4, LeO (impl_LoopGaps.j0 k y0 y1 y2 y3 y4) (impl_LoopGaps.j0 (k + 1) y0 y1 y2 y3 y4))
 | 0 => fun _ _ _ _ _ r h => by simp [impl_LoopGaps.j0] at h
 | k + 1 => by
  have ih0 := impl_LoopGaps.mono_l k
  ·intro y0 y1 y2 y3 y4
   unfold impl_LoopGaps.j0
   repeat' first
   | (with_reducible exact ih0 ..)
   | (with_reducible exact impl_IsPerfect.mono ..)
   | (with_reducible exact impl_gapsOn.mono ..)
   | (with_reducible first | exact lr_ _ | exact ln_ _ | refine li_ ?_ ?_ | refine lb_ ?_ fun _ => ?_)
   | exact ih0 ..
   | exact impl_IsPerfect.mono ..
   | exact impl_gapsOn.mono ..
   | exact ln_ _ | refine li_ ?_ ?_ | refine lb_ ?_ fun _ => ?_
theorem impl_LoopGaps.mono : ∀ a0 a1 a2 a3 k, LeO (impl_LoopGaps.f k a0 a1 a2 a3) (impl_LoopGaps.f (k + 1) a0 a1 a2 a3) := by
 intro a0 a1 a2 a3 k
 have ih0 := impl_LoopGaps.mono_l k
 unfold impl_LoopGaps.f
 repeat' first
   | (with_reducible exact ih0 ..)
   | (with_reducible exact impl_IsPerfect.mono ..)
   | (with_reducible exact impl_gapsOn.mono ..)
   | (with_reducible first | exact lr_ _ | exact ln_ _ | refine li_ ?_ ?_ | refine lb_ ?_ fun _ => ?_)
   | exact ih0 ..
   | exact impl_IsPerfect.mono ..
   | exact impl_gapsOn.mono ..
   | exact ln_ _ | refine li_ ?_ ?_ | refine lb_ ?_ fun _ => ?_
set_option maxHeartbeats 8000000 in
set_option maxRecDepth 100000 in
theorem impl_LoopGaps.calls (k : Nat) (a0_0 : Int) (a0_1 : Int) (a0_2 : Int) (a1 : Int) (r : List Int) (w : World) (h : impl_LoopGaps.f k a0_0 a0_1 a0_2 a1 = some r) :
  Calls Tryd.prog 19 #[.agg #[.int .i64 a0_0, .int .i64 a0_1, .int .i64 a0_2], .int .i64 a1] w fun e w' => ∃ v0_ : Value, e = .returned (v0_) ∧ Kd.R (Kd.int .i64) 3 w' w.heap.size (fun _ => True) v0_ r ∧ Below w.heap.size w w' := by
 have hu28 := Tryd.underlying28
 have hu26 := Tryd.underlying26
 have HB := Aside0.mk (Below.refl w.heap.size w)
 have H : ((impl_IsPerfect.f k a0_0 a0_1 a0_2).bind fun t502 => (if t502 = true then ((impl_isGap.f a0_0 a0_1 a1).bind fun t503 => (if t503 = true then ((impl_isOpen.f a0_0 a0_1 a0_2 a1).bind fun t504 => (impl_LoopGaps.j0 k a1 t504 a0_0 a0_1 a0_2)) else (impl_LoopGaps.j0 k a1 true a0_0 a0_1 a0_2))) else (impl_LoopGaps.j0 k a1 true a0_0 a0_1 a0_2))) = some r := h
 clear h
 have HC3 := Aside0.mk H
 clear H
 go_enter Tryd.func19, Tryd.ntmps19
 go_upto_region 1 with (first | (refine box_ (N := 2) (cs := #[.int .i64 a0_0, .int .i64 a0_1, .int .i64 a0_2]) (t := 28) ?_; intro gb501 hg w4 hbox hb; have BK501 := Aside0.mk (hbox); have GW501 := HB.g0 hg; have GE501 := HB.g0 hg; replace HB := HB.s0 hb; clear hb hbox hg))
 (try simp only [Act.put, List.setIfInBounds_toArray, List.set_cons_zero, List.set_cons_succ])
 go_cut [21] (fun v21 wc => ∃ (kq : Nat) (x21_2 : Bool), v21 = .bool x21_2 ∧ Aside0 (impl_LoopGaps.j0 kq a1 x21_2 a0_0 a0_1 a0_2 = some r) ∧ Aside0 (kq ≤ k) ∧ Aside0 (wc.heap[gb501]? = some (.cells #[.int .i64 a0_0, .int .i64 a0_1, .int .i64 a0_2] 28 (0, 0))) ∧ Aside0 (Below w.heap.size w wc))
 case first =>
  have H := HC3.out
  clear HC3
  replace H := Option.bind_eq_some_iff.mp H
  obtain ⟨t502, A50, H⟩ := H
  replace H : (if t502 = true then ((impl_isGap.f a0_0 a0_1 a1).bind fun t503 => (if t503 = true then ((impl_isOpen.f a0_0 a0_1 a0_2 a1).bind fun t504 => (impl_LoopGaps.j0 k a1 t504 a0_0 a0_1 a0_2)) else (impl_LoopGaps.j0 k a1 true a0_0 a0_1 a0_2))) else (impl_LoopGaps.j0 k a1 true a0_0 a0_1 a0_2)) = some r := H
  have A5 := Aside0.mk A50
  clear A50
  by_cases c6 : t502 = true
  ·subst c6
   have H1 : ((impl_isGap.f a0_0 a0_1 a1).bind fun t503 => (if t503 = true then ((impl_isOpen.f a0_0 a0_1 a0_2 a1).bind fun t504 => (impl_LoopGaps.j0 k a1 t504 a0_0 a0_1 a0_2)) else (impl_LoopGaps.j0 k a1 true a0_0 a0_1 a0_2))) = some r := by rw [if_pos rfl] at H; exact H
   clear H
   have H := H1
   clear H1
   replace H := Option.bind_eq_some_iff.mp H
   obtain ⟨t503, A70, H⟩ := H
   replace H : (if t503 = true then ((impl_isOpen.f a0_0 a0_1 a0_2 a1).bind fun t504 => (impl_LoopGaps.j0 k a1 t504 a0_0 a0_1 a0_2)) else (impl_LoopGaps.j0 k a1 true a0_0 a0_1 a0_2)) = some r := H
   have A7 := Aside0.mk A70
   clear A70
   by_cases c8 : t503 = true
   ·subst c8
    have H1 : ((impl_isOpen.f a0_0 a0_1 a0_2 a1).bind fun t504 => (impl_LoopGaps.j0 k a1 t504 a0_0 a0_1 a0_2)) = some r := by rw [if_pos rfl] at H; exact H
    clear H
    have H := H1
    clear H1
    replace H := Option.bind_eq_some_iff.mp H
    obtain ⟨t504, A90, H⟩ := H
    replace H : (impl_LoopGaps.j0 k a1 t504 a0_0 a0_1 a0_2) = some r := H
    have A9 := Aside0.mk A90
    clear A90
    have H' := Aside0.mk H
    clear H
    obtain ⟨hcz10_0, hcz10_1, hcz10_2⟩ := cz3_ BK501.out
    obtain ⟨hfz10_0, hfz10_1, hfz10_2⟩ := fz3_ BK501.out
    go_wp2_with (first | (refine gl_ 8 Tryd.func31 #[.agg #[.int .i64 a0_0, .int .i64 a0_1, .int .i64 a0_2]] ?_; (with_reducible refine (impl_IsPerfect.calls k a0_0 a0_1 a0_2 true _ A5.out).mono ?_); rintro e w11 ⟨rfl, hb⟩; refine ⟨_, rfl, ?_⟩; replace BK501 := BK501.bb hb; replace HB := HB.s1 GE501 hb; (try clear hb); obtain ⟨hcz12_0, hcz12_1, hcz12_2⟩ := cz3_ BK501.out; obtain ⟨hfz12_0, hfz12_1, hfz12_2⟩ := fz3_ BK501.out) | (go_at_call 35; (with_reducible refine (impl_isGap.calls a0_0 a0_1 a1 true _ A7.out).mono ?_); rintro e w13 ⟨rfl, hb⟩; replace BK501 := BK501.bb hb; replace HB := HB.s1 GE501 hb; (try clear hb); obtain ⟨hcz14_0, hcz14_1, hcz14_2⟩ := cz3_ BK501.out; obtain ⟨hfz14_0, hfz14_1, hfz14_2⟩ := fz3_ BK501.out) | (go_at_call 20; (with_reducible refine (impl_isOpen.calls a0_0 a0_1 a0_2 a1 t504 _ A9.out).mono ?_); rintro e w15 ⟨rfl, hb⟩; replace BK501 := BK501.bb hb; replace HB := HB.s1 GE501 hb; (try clear hb)))
    go_meet
    case rel => exact ⟨_, (t504), (by first | rfl | (simp; done) | (simp [*]; done)), H', ⟨by first | omega | exact Nat.le_refl _⟩, ⟨bk_ BK501.out⟩, ⟨hb1_ HB.out GE501.out⟩⟩
   ·replace c8 := Bool.eq_false_iff.mpr c8
    subst c8
    have H1 : (impl_LoopGaps.j0 k a1 true a0_0 a0_1 a0_2) = some r := by rw [if_neg (show ¬ (false = true) by decide)] at H; exact H
    clear H
    have H := H1
    clear H1
    have H' := Aside0.mk H
    clear H
    obtain ⟨hcz16_0, hcz16_1, hcz16_2⟩ := cz3_ BK501.out
    obtain ⟨hfz16_0, hfz16_1, hfz16_2⟩ := fz3_ BK501.out
    go_wp2_with (first | (refine gl_ 8 Tryd.func31 #[.agg #[.int .i64 a0_0, .int .i64 a0_1, .int .i64 a0_2]] ?_; (with_reducible refine (impl_IsPerfect.calls k a0_0 a0_1 a0_2 true _ A5.out).mono ?_); rintro e w17 ⟨rfl, hb⟩; refine ⟨_, rfl, ?_⟩; replace BK501 := BK501.bb hb; replace HB := HB.s1 GE501 hb; (try clear hb); obtain ⟨hcz18_0, hcz18_1, hcz18_2⟩ := cz3_ BK501.out; obtain ⟨hfz18_0, hfz18_1, hfz18_2⟩ := fz3_ BK501.out) | (go_at_call 35; (with_reducible refine (impl_isGap.calls a0_0 a0_1 a1 false _ A7.out).mono ?_); rintro e w19 ⟨rfl, hb⟩; replace BK501 := BK501.bb hb; replace HB := HB.s1 GE501 hb; (try clear hb)))
    go_meet
    case rel => exact ⟨_, (true), (by first | rfl | (simp; done) | (simp [*]; done)), H', ⟨by first | omega | exact Nat.le_refl _⟩, ⟨bk_ BK501.out⟩, ⟨hb1_ HB.out GE501.out⟩⟩
  ·replace c6 := Bool.eq_false_iff.mpr c6
   subst c6
   have H1 : (impl_LoopGaps.j0 k a1 true a0_0 a0_1 a0_2) = some r := by rw [if_neg (show ¬ (false = true) by decide)] at H; exact H
   clear H
   have H := H1
   clear H1
   have H' := Aside0.mk H
   clear H
   obtain ⟨hcz20_0, hcz20_1, hcz20_2⟩ := cz3_ BK501.out
   obtain ⟨hfz20_0, hfz20_1, hfz20_2⟩ := fz3_ BK501.out
   go_wp2_with (first | (refine gl_ 8 Tryd.func31 #[.agg #[.int .i64 a0_0, .int .i64 a0_1, .int .i64 a0_2]] ?_; (with_reducible refine (impl_IsPerfect.calls k a0_0 a0_1 a0_2 false _ A5.out).mono ?_); rintro e w21 ⟨rfl, hb⟩; refine ⟨_, rfl, ?_⟩; replace BK501 := BK501.bb hb; replace HB := HB.s1 GE501 hb; (try clear hb)))
   go_meet
   case rel => exact ⟨_, (true), (by first | rfl | (simp; done) | (simp [*]; done)), H', ⟨by first | omega | exact Nat.le_refl _⟩, ⟨bk_ BK501.out⟩, ⟨hb1_ HB.out GE501.out⟩⟩
 case rest =>
  clear HC3
  try clear c1
  try clear p2
  try clear c3
  try clear c6
  try clear c8
  try clear c19
  try clear hcz10_0
  try clear hcz10_1
  try clear hcz10_2
  try clear hcz12_0
  try clear hcz12_1
  try clear hcz12_2
  try clear hcz14_0
  try clear hcz14_1
  try clear hcz14_2
  try clear hcz16_0
  try clear hcz16_1
  try clear hcz16_2
  try clear hcz18_0
  try clear hcz18_1
  try clear hcz18_2
  try clear hcz20_0
  try clear hcz20_1
  try clear hcz20_2
  try clear hfz10_0
  try clear hfz10_1
  try clear hfz10_2
  try clear hfz12_0
  try clear hfz12_1
  try clear hfz12_2
  try clear hfz14_0
  try clear hfz14_1
  try clear hfz14_2
  try clear hfz16_0
  try clear hfz16_1
  try clear hfz16_2
  try clear hfz18_0
  try clear hfz18_1
  try clear hfz18_2
  try clear hfz20_0
  try clear hfz20_1
  try clear hfz20_2
  obtain ⟨kq, x21_2, rfl, HA, HJ2, BK501, HB⟩ := hcut
  cases kq with
  | zero => exact absurd HA.out (by simp [impl_LoopGaps.j0])
  | succ kj2 =>
   have H := HA.out
   clear HA
   simp only [impl_LoopGaps.j0] at H
   by_cases c22 : x21_2 = true
   ·subst c22
    have H1 : (some ([] : List Int)) = some r := by rw [if_pos rfl] at H; exact H
    clear H
    have H := H1
    clear H1
    obtain rfl := Option.some.inj H
    go_wp2
    go_ret
    exact ⟨_, ex_, by first | exact Kd.R_nil _ _ _ _ _ | exact Kd.N_nil _ _ _ _ _ | exact Kd.V_nil _ _ _ _ _ | exact Kd.Q_nil _ _ _ _ _ | exact Kd.S_nil _ _ _ _ _, hb1_ HB.out GE501.out⟩
   ·replace c22 := Bool.eq_false_iff.mpr c22
    subst c22
    have H1 : ((impl_EndsOf.f a0_0 a0_1 a1).bind fun bt505 => ((impl_gapsOn.f kj2 a0_0 a0_1 a0_2 bt505.1 bt505.2).bind fun t507 => ((impl_ordered.f t507).bind fun t510 => (some t510)))) = some r := by rw [if_neg (show ¬ (false = true) by decide)] at H; exact H
    clear H
    have H := H1
    clear H1
    replace H := Option.bind_eq_some_iff.mp H
    obtain ⟨⟨t505, t506⟩, A230, H⟩ := H
    replace H : ((impl_gapsOn.f kj2 a0_0 a0_1 a0_2 t505 t506).bind fun t507 => ((impl_ordered.f t507).bind fun t510 => (some t510))) = some r := H
    have A23 := Aside0.mk A230
    clear A230
    replace H := Option.bind_eq_some_iff.mp H
    obtain ⟨t507, A240, H⟩ := H
    replace H : ((impl_ordered.f t507).bind fun t510 => (some t510)) = some r := H
    have A24 := Aside0.mk A240
    clear A240
    replace H := Option.bind_eq_some_iff.mp H
    obtain ⟨t510, A250, H⟩ := H
    replace H : (some t510) = some r := H
    have A25 := Aside0.mk A250
    clear A250
    obtain rfl := Option.some.inj H
    obtain ⟨hcz26_0, hcz26_1, hcz26_2⟩ := cz3_ BK501.out
    obtain ⟨hfz26_0, hfz26_1, hfz26_2⟩ := fz3_ BK501.out
    go_wp2_with (first | (refine gl_ 26 Tryd.func36 #[.agg #[.int .i64 a0_0, .int .i64 a0_1], .int .i64 a1] ?_; (with_reducible refine (impl_EndsOf.calls a0_0 a0_1 a1 t505 t506 _ A23.out).mono ?_); rintro e w27 ⟨rfl, hb⟩; refine ⟨_, rfl, ?_⟩; replace BK501 := BK501.bb hb; replace HB := HB.s1 GE501 hb; (try clear hb); obtain ⟨hcz28_0, hcz28_1, hcz28_2⟩ := cz3_ BK501.out; obtain ⟨hfz28_0, hfz28_1, hfz28_2⟩ := fz3_ BK501.out) | (refine gl_ 32 Tryd.func38 #[.agg #[.int .i64 a0_0, .int .i64 a0_1, .int .i64 a0_2], .int .i64 t505, .int .i64 t506] ?_; (with_reducible refine (impl_gapsOn.calls kj2 a0_0 a0_1 a0_2 t505 t506 t507 _ A24.out).mono ?_); rintro e w29 ⟨v508, rfl, ho0, hb⟩; refine ⟨_, rfl, ?_⟩; have HO509 := Aside0.mk (Kd.R_lower ho0 (below_size (hb1_ HB.out GE501.out))); replace BK501 := BK501.bb hb; replace HB := HB.s1 GE501 hb; (try clear hb); (try clear ho0); obtain ⟨Ao30, co30, eo30⟩ := Kd.R_slice HO509.out; subst eo30) | (refine gl_ 33 Tryd.func37 #[.slice Ao30 t507.length co30] ?_; (with_reducible refine (impl_ordered.calls (fun k_ => some k_ = (.slice Ao30 t507.length co30 : Value).ownBlock) (.slice Ao30 t507.length co30) t507 t510 w _ ?side1 ?side2 A25.out).mono ?_); (case side1 => repeat (first | (with_reducible first | exact HB.out | apply below_alloc | apply pw_below_drewN | apply below_drew1 | refine below_set ?_ GE501.out) | exact HB.out)); (case side2 => exact Kd.R_tight rfl HO509.out); rintro e w31 ⟨v511, rfl, ho0, hb, hkp⟩; refine ⟨_, rfl, ?_⟩; replace BK501 := Aside0.mk (blk_kept (bk_ BK501.out) hkp (fun hs_ => (fun e_ => (Kd.R_ne HO509.out BK501.out (by decide)) e_) hs_)); have HO512 := Aside0.mk (Kd.R_mono (ok' := fun k_ => True) ho0 (fun k_ hk_ => trivial)); replace HB := Aside0.mk (hb); clear HO509; (try clear hb); (try clear hkp); (try clear ho0)))
    go_ret
    exact ⟨_, ex_, kr_ HO512.out, hb1_ HB.out GE501.out⟩

/-! ### impl_SwapGaps: function 21 -/
def impl_SwapGaps.f (k : Nat) (a0_0 : Int) (a0_1 : Int) (a0_2 : Int) (a1 : Int) (a2 : Int) : Option (Int × Int × Int × Bool) := (impl_LoopGaps.f k a0_0 a0_1 a0_2 a1).bind fun t503 => ((slices_Contains_int_int.f k t503 a2).bind fun t506 => (if t506 = true then ((impl_with.f a0_0 a0_1 a0_2 a1 true).bind fun bt507 => ((impl_with.f bt507.1 bt507.2.1 bt507.2.2 a2 false).bind fun bt510 => (some (bt510.1, bt510.2.1, bt510.2.2, true)))) else (some (a0_0, a0_1, a0_2, false))))
theorem impl_SwapGaps.mono : ∀ a0 a1 a2 a3 a4 k, LeO (impl_SwapGaps.f k a0 a1 a2 a3 a4) (impl_SwapGaps.f (k + 1) a0 a1 a2 a3 a4) := by
 intro a0 a1 a2 a3 a4 k
 unfold impl_SwapGaps.f
 repeat' first
   | (with_reducible exact impl_LoopGaps.mono ..)
   | (with_reducible exact slices_Contains_int_int.mono ..)
   | (with_reducible first | exact lr_ _ | exact ln_ _ | refine li_ ?_ ?_ | refine lb_ ?_ fun _ => ?_)
   | exact impl_LoopGaps.mono ..
   | exact slices_Contains_int_int.mono ..
   | exact ln_ _ | refine li_ ?_ ?_ | refine lb_ ?_ fun _ => ?_
set_option maxHeartbeats 8000000 in
set_option maxRecDepth 100000 in
theorem impl_SwapGaps.calls (k : Nat) (a0_0 : Int) (a0_1 : Int) (a0_2 : Int) (a1 : Int) (a2 : Int) (r1 : Int) (r2 : Int) (r3 : Int) (r4 : Bool) (w : World) (h : impl_SwapGaps.f k a0_0 a0_1 a0_2 a1 a2 = some (r1, r2, r3, r4)) :
  Calls Tryd.prog 21 #[.agg #[.int .i64 a0_0, .int .i64 a0_1, .int .i64 a0_2], .int .i64 a1, .int .i64 a2] w fun e w' => e = .returned (.tuple #[.agg #[.int .i64 r1, .int .i64 r2, .int .i64 r3], .bool r4]) ∧ Below w.heap.size w w' := by
 have hu28 := Tryd.underlying28
 have HB := Aside0.mk (Below.refl w.heap.size w)
 have H : ((impl_LoopGaps.f k a0_0 a0_1 a0_2 a1).bind fun t503 => ((slices_Contains_int_int.f k t503 a2).bind fun t506 => (if t506 = true then ((impl_with.f a0_0 a0_1 a0_2 a1 true).bind fun bt507 => ((impl_with.f bt507.1 bt507.2.1 bt507.2.2 a2 false).bind fun bt510 => (some (bt510.1, bt510.2.1, bt510.2.2, true)))) else (some (a0_0, a0_1, a0_2, false))))) = some (r1, r2, r3, r4) := h
 clear h
 replace H := Option.bind_eq_some_iff.mp H
 obtain ⟨t503, A40, H⟩ := H
 replace H : ((slices_Contains_int_int.f k t503 a2).bind fun t506 => (if t506 = true then ((impl_with.f a0_0 a0_1 a0_2 a1 true).bind fun bt507 => ((impl_with.f bt507.1 bt507.2.1 bt507.2.2 a2 false).bind fun bt510 => (some (bt510.1, bt510.2.1, bt510.2.2, true)))) else (some (a0_0, a0_1, a0_2, false)))) = some (r1, r2, r3, r4) := H
 have A4 := Aside0.mk A40
 clear A40
 replace H := Option.bind_eq_some_iff.mp H
 obtain ⟨t506, A50, H⟩ := H
 replace H : (if t506 = true then ((impl_with.f a0_0 a0_1 a0_2 a1 true).bind fun bt507 => ((impl_with.f bt507.1 bt507.2.1 bt507.2.2 a2 false).bind fun bt510 => (some (bt510.1, bt510.2.1, bt510.2.2, true)))) else (some (a0_0, a0_1, a0_2, false))) = some (r1, r2, r3, r4) := H
 have A5 := Aside0.mk A50
 clear A50
 by_cases c6 : t506 = true
 ·subst c6
  have H1 : ((impl_with.f a0_0 a0_1 a0_2 a1 true).bind fun bt507 => ((impl_with.f bt507.1 bt507.2.1 bt507.2.2 a2 false).bind fun bt510 => (some (bt510.1, bt510.2.1, bt510.2.2, true)))) = some (r1, r2, r3, r4) := by rw [if_pos rfl] at H; exact H
  clear H
  have H := H1
  clear H1
  replace H := Option.bind_eq_some_iff.mp H
  obtain ⟨⟨t507, t508, t509⟩, A70, H⟩ := H
  replace H : ((impl_with.f t507 t508 t509 a2 false).bind fun bt510 => (some (bt510.1, bt510.2.1, bt510.2.2, true))) = some (r1, r2, r3, r4) := H
  have A7 := Aside0.mk A70
  clear A70
  replace H := Option.bind_eq_some_iff.mp H
  obtain ⟨⟨t510, t511, t512⟩, A80, H⟩ := H
  replace H : (some (t510, t511, t512, true)) = some (r1, r2, r3, r4) := H
  have A8 := Aside0.mk A80
  clear A80
  simp only [Option.some.injEq, Prod.mk.injEq] at H
  obtain ⟨rfl, rfl, rfl, rfl⟩ := H
  go_enter Tryd.func21, Tryd.ntmps21
  go_wp2_with (first | (refine box_ (N := 3) (cs := #[.int .i64 a0_0, .int .i64 a0_1, .int .i64 a0_2]) (t := 28) ?_; intro gb501 hg w9 hbox hb; have BK501 := Aside0.mk (hbox); have GW501 := HB.g0 hg; have GE501 := HB.g0 hg; replace HB := HB.s0 hb; clear hb hbox hg) | (refine box_ (N := 6) (cs := #[.int .i64 0, .int .i64 0, .int .i64 0]) (t := 28) ?_; intro gb502 hg w10 hbox hb; have BK502 := Aside0.mk (hbox); have GW502 := HB.g1 GE501 hg; have GE502 := HB.g1 GE501 hg; replace HB := HB.s1 GE501 hb; have NB501_502 := BK501.nl hg; have NB502_501 := BK501.nr hg; replace BK501 := BK501.bb hb; clear hb hbox hg; have hnb11 := NB501_502.out; have hnc11 := NB502_501.out; obtain ⟨hcz12_0, hcz12_1, hcz12_2⟩ := cz3_ BK501.out; obtain ⟨hfz12_0, hfz12_1, hfz12_2⟩ := fz3_ BK501.out) | (refine gl_ 10 Tryd.func19 #[.agg #[.int .i64 a0_0, .int .i64 a0_1, .int .i64 a0_2], .int .i64 a1] ?_; (with_reducible refine (impl_LoopGaps.calls k a0_0 a0_1 a0_2 a1 t503 _ A4.out).mono ?_); rintro e w13 ⟨v504, rfl, ho0, hb⟩; refine ⟨_, rfl, ?_⟩; have HO505 := Aside0.mk (Kd.R_lower ho0 (below_size (hb2_ HB.out GE501.out GE502.out))); replace BK501 := BK501.bb hb; replace BK502 := BK502.bb hb; replace HB := HB.s2 GE501 GE502 hb; (try clear hb); (try clear ho0); obtain ⟨Ao14, co14, eo14⟩ := Kd.R_slice HO505.out; subst eo14) | (refine gl_ 12 Tryd.func39 #[.slice Ao14 t503.length co14, .int .i64 a2] ?_; (with_reducible refine (slices_Contains_int_int.calls k _ _ t503 a2 true _ ?side1 ?side2 A5.out).mono ?_); (case side1 => repeat (first | exact (Kd.R_reads' HO505.out).2.2 | (with_reducible refine Kd.C_alloc ?_ _) | (with_reducible refine Kd.C_drewN ?_ _) | (with_reducible refine Kd.C_drew ?_))); (case side2 => exact (Kd.R_reads' HO505.out).2.1); rintro e w' ⟨rfl, ⟨nd, rfl⟩⟩; refine ⟨_, rfl, ?_⟩; (try (rw [drewN_self w13]; generalize hq_ : World.drewN w13 _ = w13; have n0_ : Aside0 (Kd.R (Kd.int .i64) 3 w13 w.heap.size (fun _ => True) (.slice Ao14 t503.length co14) t503) := ⟨by rw [← hq_]; exact (kr_ HO505.out)⟩; have n1_ : Aside0 (w13.heap[gb501]? = some (.cells #[.int .i64 a0_0, .int .i64 a0_1, .int .i64 a0_2] 28 (0, 0))) := ⟨by rw [← hq_]; exact (bk_ BK501.out)⟩; have n2_ : Aside0 (w13.heap[gb502]? = some (.cells #[.int .i64 0, .int .i64 0, .int .i64 0] 28 (0, 0))) := ⟨by rw [← hq_]; exact (bk_ BK502.out)⟩; have n3_ : Aside0 (Below w.heap.size w w13) := ⟨by rw [← hq_]; exact (hb2_ HB.out GE501.out GE502.out)⟩; clear HO505 BK501 BK502 HB hq_; have HO505 := n0_; have BK501 := n1_; have BK502 := n2_; have HB := n3_; clear n0_ n1_ n2_ n3_)); obtain ⟨hcz15_0, hcz15_1, hcz15_2⟩ := cz3_ BK501.out; obtain ⟨hfz15_0, hfz15_1, hfz15_2⟩ := fz3_ BK501.out) | (refine gl_ 17 Tryd.func40 #[.agg #[.int .i64 a0_0, .int .i64 a0_1, .int .i64 a0_2], .int .i64 a1, .bool true] ?_; (with_reducible refine (impl_with.calls a0_0 a0_1 a0_2 a1 true t507 t508 t509 _ A7.out).mono ?_); rintro e w16 ⟨rfl, hb⟩; refine ⟨_, rfl, ?_⟩; replace HO505 := HO505.kb hb; replace BK501 := BK501.bb hb; replace BK502 := BK502.bb hb; replace HB := HB.s2 GE501 GE502 hb; (try clear hb)) | (refine gl_ 19 Tryd.func40 #[.agg #[.int .i64 t507, .int .i64 t508, .int .i64 t509], .int .i64 a2, .bool false] ?_; (with_reducible refine (impl_with.calls t507 t508 t509 a2 false t510 t511 t512 _ A8.out).mono ?_); rintro e w17 ⟨rfl, hb⟩; refine ⟨_, rfl, ?_⟩; replace HO505 := HO505.kb hb; replace BK501 := BK501.bb hb; replace BK502 := BK502.bb hb; replace HB := HB.s2 GE501 GE502 hb; (try clear hb); obtain ⟨hcz18_0, hcz18_1, hcz18_2⟩ := cz3_ BK502.out; obtain ⟨hfz18_0, hfz18_1, hfz18_2⟩ := fz3_ BK502.out))
  refine bodyPost_ret (results_ct rfl _ _ gb502 28 #[.int .i64 t510, .int .i64 t511, .int .i64 t512] (0, 0) _ rfl (bq3_ BK502.out) Tryd.underlying28 rfl (by kernel_rfl)) rfl ?_
  exact ⟨ex_, hb2_ HB.out GE501.out GE502.out⟩
 ·replace c6 := Bool.eq_false_iff.mpr c6
  subst c6
  have H1 : (some (a0_0, a0_1, a0_2, false)) = some (r1, r2, r3, r4) := by rw [if_neg (show ¬ (false = true) by decide)] at H; exact H
  clear H
  have H := H1
  clear H1
  simp only [Option.some.injEq, Prod.mk.injEq] at H
  obtain ⟨rfl, rfl, rfl, rfl⟩ := H
  go_enter Tryd.func21, Tryd.ntmps21
  go_wp2_with (first | (refine box_ (N := 3) (cs := #[.int .i64 a0_0, .int .i64 a0_1, .int .i64 a0_2]) (t := 28) ?_; intro gb501 hg w19 hbox hb; have BK501 := Aside0.mk (hbox); have GW501 := HB.g0 hg; have GE501 := HB.g0 hg; replace HB := HB.s0 hb; clear hb hbox hg) | (refine box_ (N := 6) (cs := #[.int .i64 0, .int .i64 0, .int .i64 0]) (t := 28) ?_; intro gb502 hg w20 hbox hb; have BK502 := Aside0.mk (hbox); have GW502 := HB.g1 GE501 hg; have GE502 := HB.g1 GE501 hg; replace HB := HB.s1 GE501 hb; have NB501_502 := BK501.nl hg; have NB502_501 := BK501.nr hg; replace BK501 := BK501.bb hb; clear hb hbox hg; have hnb21 := NB501_502.out; have hnc21 := NB502_501.out; obtain ⟨hcz22_0, hcz22_1, hcz22_2⟩ := cz3_ BK501.out; obtain ⟨hfz22_0, hfz22_1, hfz22_2⟩ := fz3_ BK501.out) | (refine gl_ 10 Tryd.func19 #[.agg #[.int .i64 a0_0, .int .i64 a0_1, .int .i64 a0_2], .int .i64 a1] ?_; (with_reducible refine (impl_LoopGaps.calls k a0_0 a0_1 a0_2 a1 t503 _ A4.out).mono ?_); rintro e w23 ⟨v504, rfl, ho0, hb⟩; refine ⟨_, rfl, ?_⟩; have HO505 := Aside0.mk (Kd.R_lower ho0 (below_size (hb2_ HB.out GE501.out GE502.out))); replace BK501 := BK501.bb hb; replace BK502 := BK502.bb hb; replace HB := HB.s2 GE501 GE502 hb; (try clear hb); (try clear ho0); obtain ⟨Ao24, co24, eo24⟩ := Kd.R_slice HO505.out; subst eo24) | (refine gl_ 12 Tryd.func39 #[.slice Ao24 t503.length co24, .int .i64 a2] ?_; (with_reducible refine (slices_Contains_int_int.calls k _ _ t503 a2 false _ ?side1 ?side2 A5.out).mono ?_); (case side1 => repeat (first | exact (Kd.R_reads' HO505.out).2.2 | (with_reducible refine Kd.C_alloc ?_ _) | (with_reducible refine Kd.C_drewN ?_ _) | (with_reducible refine Kd.C_drew ?_))); (case side2 => exact (Kd.R_reads' HO505.out).2.1); rintro e w' ⟨rfl, ⟨nd, rfl⟩⟩; refine ⟨_, rfl, ?_⟩; (try (rw [drewN_self w23]; generalize hq_ : World.drewN w23 _ = w23; have n0_ : Aside0 (Kd.R (Kd.int .i64) 3 w23 w.heap.size (fun _ => True) (.slice Ao24 t503.length co24) t503) := ⟨by rw [← hq_]; exact (kr_ HO505.out)⟩; have n1_ : Aside0 (w23.heap[gb501]? = some (.cells #[.int .i64 a0_0, .int .i64 a0_1, .int .i64 a0_2] 28 (0, 0))) := ⟨by rw [← hq_]; exact (bk_ BK501.out)⟩; have n2_ : Aside0 (w23.heap[gb502]? = some (.cells #[.int .i64 0, .int .i64 0, .int .i64 0] 28 (0, 0))) := ⟨by rw [← hq_]; exact (bk_ BK502.out)⟩; have n3_ : Aside0 (Below w.heap.size w w23) := ⟨by rw [← hq_]; exact (hb2_ HB.out GE501.out GE502.out)⟩; clear HO505 BK501 BK502 HB hq_; have HO505 := n0_; have BK501 := n1_; have BK502 := n2_; have HB := n3_; clear n0_ n1_ n2_ n3_)); obtain ⟨hcz25_0, hcz25_1, hcz25_2⟩ := cz3_ BK501.out; obtain ⟨hfz25_0, hfz25_1, hfz25_2⟩ := fz3_ BK501.out; obtain ⟨hcz26_0, hcz26_1, hcz26_2⟩ := cz3_ BK502.out; obtain ⟨hfz26_0, hfz26_1, hfz26_2⟩ := fz3_ BK502.out))
  refine bodyPost_ret (results_ct rfl _ _ gb502 28 #[.int .i64 a0_0, .int .i64 a0_1, .int .i64 a0_2] (0, 0) _ rfl (bq3_ BK502.out) Tryd.underlying28 rfl (by kernel_rfl)) rfl ?_
  exact ⟨ex_, hb2_ HB.out GE501.out GE502.out⟩

end Go.Proofs.YtbdodiaedocmjaaDoor.X
