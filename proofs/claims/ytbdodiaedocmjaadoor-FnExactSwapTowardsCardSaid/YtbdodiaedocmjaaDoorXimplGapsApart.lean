-- Written by a program of this session (xprint.py), out of the translation and of hand-written contracts. Lean checks it.
import Derived.Test.YtbdodiaedocmjaaDoorX0
import Derived.Test.YtbdodiaedocmjaaDoorXEq0
import Derived.Test.YtbdodiaedocmjaaDoorXcbits
import Derived.Test.YtbdodiaedocmjaaDoorXctrees
namespace Go.Proofs.YtbdodiaedocmjaaDoor.X
open Go.RowKit Go.Proofs.YtbdodiaedocmjaaDoorW.PrintWords Go.Proofs.YtbdodiaedocmjaaDoorW.PrintLast Go.Proofs.YtbdodiaedocmjaaDoorW.PrintMore
attribute [local go_sem] max2_int min2_int max_two min_two max_three min_three max_four min_four   -- for this text's walks alone
set_option linter.unusedVariables false
set_option linter.unusedSimpArgs false

section
attribute [local go_sem high] eqA26
/-! ### impl_GapsApart: function 17 -/
def impl_GapsApart.f (k : Nat) (a0_0 : Int) (a0_1 : Int) (a0_2 : Int) (a1_0 : Int) (a1_1 : Int) (a1_2 : Int) : Option (Int) := (impl_IsPerfect.f k a0_0 a0_1 a0_2).bind fun t503 => (if t503 = true then ((impl_IsPerfect.f k a1_0 a1_1 a1_2).bind fun t504 => (if t504 = true then (if (!(a0_0 == a1_0) || (!(a0_1 == a1_1))) = true then (some (-1)) else ((bits_OnesCount.f (IntKind.u64.wrap (Go.bits .andNot .i64 a0_2 a1_2))).bind fun t505 => (some t505))) else (some (-1)))) else (some (-1)))
theorem impl_GapsApart.mono : ∀ a0 a1 a2 a3 a4 a5 k, LeO (impl_GapsApart.f k a0 a1 a2 a3 a4 a5) (impl_GapsApart.f (k + 1) a0 a1 a2 a3 a4 a5) := by
 intro a0 a1 a2 a3 a4 a5 k
 unfold impl_GapsApart.f
 repeat' first
   | (with_reducible exact impl_IsPerfect.mono ..)
   | (with_reducible first | exact lr_ _ | exact ln_ _ | refine li_ ?_ ?_ | refine lb_ ?_ fun _ => ?_)
   | exact impl_IsPerfect.mono ..
   | exact ln_ _ | refine li_ ?_ ?_ | refine lb_ ?_ fun _ => ?_
set_option maxHeartbeats 8000000 in
set_option maxRecDepth 100000 in
theorem impl_GapsApart.calls (k : Nat) (a0_0 : Int) (a0_1 : Int) (a0_2 : Int) (a1_0 : Int) (a1_1 : Int) (a1_2 : Int) (r : Int) (w : World) (h : impl_GapsApart.f k a0_0 a0_1 a0_2 a1_0 a1_1 a1_2 = some r) :
  Calls Tryd.prog 17 #[.agg #[.int .i64 a0_0, .int .i64 a0_1, .int .i64 a0_2], .agg #[.int .i64 a1_0, .int .i64 a1_1, .int .i64 a1_2]] w fun e w' => e = .returned (.int .i64 r) ∧ Below w.heap.size w w' := by
 have hu28 := Tryd.underlying28
 have hu26 := Tryd.underlying26
 have HB := Aside0.mk (Below.refl w.heap.size w)
 have H : ((impl_IsPerfect.f k a0_0 a0_1 a0_2).bind fun t503 => (if t503 = true then ((impl_IsPerfect.f k a1_0 a1_1 a1_2).bind fun t504 => (if t504 = true then (if (!(a0_0 == a1_0) || (!(a0_1 == a1_1))) = true then (some (-1)) else ((bits_OnesCount.f (IntKind.u64.wrap (Go.bits .andNot .i64 a0_2 a1_2))).bind fun t505 => (some t505))) else (some (-1)))) else (some (-1)))) = some r := h
 clear h
 replace H := Option.bind_eq_some_iff.mp H
 obtain ⟨t503, A30, H⟩ := H
 replace H : (if t503 = true then ((impl_IsPerfect.f k a1_0 a1_1 a1_2).bind fun t504 => (if t504 = true then (if (!(a0_0 == a1_0) || (!(a0_1 == a1_1))) = true then (some (-1)) else ((bits_OnesCount.f (IntKind.u64.wrap (Go.bits .andNot .i64 a0_2 a1_2))).bind fun t505 => (some t505))) else (some (-1)))) else (some (-1))) = some r := H
 have A3 := Aside0.mk A30
 clear A30
 by_cases c4 : t503 = true
 ·subst c4
  have H1 : ((impl_IsPerfect.f k a1_0 a1_1 a1_2).bind fun t504 => (if t504 = true then (if (!(a0_0 == a1_0) || (!(a0_1 == a1_1))) = true then (some (-1)) else ((bits_OnesCount.f (IntKind.u64.wrap (Go.bits .andNot .i64 a0_2 a1_2))).bind fun t505 => (some t505))) else (some (-1)))) = some r := by rw [if_pos rfl] at H; exact H
  clear H
  have H := H1
  clear H1
  replace H := Option.bind_eq_some_iff.mp H
  obtain ⟨t504, A50, H⟩ := H
  replace H : (if t504 = true then (if (!(a0_0 == a1_0) || (!(a0_1 == a1_1))) = true then (some (-1)) else ((bits_OnesCount.f (IntKind.u64.wrap (Go.bits .andNot .i64 a0_2 a1_2))).bind fun t505 => (some t505))) else (some (-1))) = some r := H
  have A5 := Aside0.mk A50
  clear A50
  by_cases c6 : t504 = true
  ·subst c6
   have H1 : (if (!(a0_0 == a1_0) || (!(a0_1 == a1_1))) = true then (some (-1)) else ((bits_OnesCount.f (IntKind.u64.wrap (Go.bits .andNot .i64 a0_2 a1_2))).bind fun t505 => (some t505))) = some r := by rw [if_pos rfl] at H; exact H
   clear H
   have H := H1
   clear H1
   by_cases c7 : (!(a0_0 == a1_0) || (!(a0_1 == a1_1))) = true
   ·rw [if_pos c7] at H
    have c7b0 : (!(a0_0 == a1_0) || (!(a0_1 == a1_1))) = true := c7
    clear c7
    obtain rfl := Option.some.inj H
    go_enter Tryd.func17, Tryd.ntmps17
    go_wp2_with (first | (refine box_ (N := 2) (cs := #[.int .i64 a0_0, .int .i64 a0_1, .int .i64 a0_2]) (t := 28) ?_; intro gb501 hg w8 hbox hb; have BK501 := Aside0.mk (hbox); have GW501 := HB.g0 hg; have GE501 := HB.g0 hg; replace HB := HB.s0 hb; clear hb hbox hg) | (refine box_ (N := 3) (cs := #[.int .i64 a1_0, .int .i64 a1_1, .int .i64 a1_2]) (t := 28) ?_; intro gb502 hg w9 hbox hb; have BK502 := Aside0.mk (hbox); have GW502 := HB.g1 GE501 hg; have GE502 := HB.g1 GE501 hg; replace HB := HB.s1 GE501 hb; have NB501_502 := BK501.nl hg; have NB502_501 := BK501.nr hg; replace BK501 := BK501.bb hb; clear hb hbox hg; have hnb10 := NB501_502.out; have hnc10 := NB502_501.out; obtain ⟨hcz11_0, hcz11_1, hcz11_2⟩ := cz3_ BK501.out; obtain ⟨hfz11_0, hfz11_1, hfz11_2⟩ := fz3_ BK501.out) | (refine gl_ 6 Tryd.func31 #[.agg #[.int .i64 a0_0, .int .i64 a0_1, .int .i64 a0_2]] ?_; (with_reducible refine (impl_IsPerfect.calls k a0_0 a0_1 a0_2 true _ A3.out).mono ?_); rintro e w12 ⟨rfl, hb⟩; refine ⟨_, rfl, ?_⟩; replace BK501 := BK501.bb hb; replace BK502 := BK502.bb hb; replace HB := HB.s2 GE501 GE502 hb; (try clear hb); obtain ⟨hcz13_0, hcz13_1, hcz13_2⟩ := cz3_ BK502.out; obtain ⟨hfz13_0, hfz13_1, hfz13_2⟩ := fz3_ BK502.out) | (go_at_call 31; (with_reducible refine (impl_IsPerfect.calls k a1_0 a1_1 a1_2 true _ A5.out).mono ?_); rintro e w14 ⟨rfl, hb⟩; replace BK501 := BK501.bb hb; replace BK502 := BK502.bb hb; replace HB := HB.s2 GE501 GE502 hb; (try clear hb); obtain ⟨hcz15_0, hcz15_1, hcz15_2⟩ := cz3_ BK501.out; obtain ⟨hfz15_0, hfz15_1, hfz15_2⟩ := fz3_ BK501.out; obtain ⟨hcz16_0, hcz16_1, hcz16_2⟩ := cz3_ BK502.out; obtain ⟨hfz16_0, hfz16_1, hfz16_2⟩ := fz3_ BK502.out))
    go_ret
    exact ⟨ex_, hb2_ HB.out GE501.out GE502.out⟩
   ·rw [if_neg c7] at H
    have c7b0 : (!(a0_0 == a1_0) || (!(a0_1 == a1_1))) = false := by simpa using c7
    clear c7
    replace H := Option.bind_eq_some_iff.mp H
    obtain ⟨t505, A170, H⟩ := H
    replace H : (some t505) = some r := H
    have A17 := Aside0.mk A170
    clear A170
    obtain rfl := Option.some.inj H
    go_enter Tryd.func17, Tryd.ntmps17
    go_wp2_with (first | (refine box_ (N := 2) (cs := #[.int .i64 a0_0, .int .i64 a0_1, .int .i64 a0_2]) (t := 28) ?_; intro gb501 hg w18 hbox hb; have BK501 := Aside0.mk (hbox); have GW501 := HB.g0 hg; have GE501 := HB.g0 hg; replace HB := HB.s0 hb; clear hb hbox hg) | (refine box_ (N := 3) (cs := #[.int .i64 a1_0, .int .i64 a1_1, .int .i64 a1_2]) (t := 28) ?_; intro gb502 hg w19 hbox hb; have BK502 := Aside0.mk (hbox); have GW502 := HB.g1 GE501 hg; have GE502 := HB.g1 GE501 hg; replace HB := HB.s1 GE501 hb; have NB501_502 := BK501.nl hg; have NB502_501 := BK501.nr hg; replace BK501 := BK501.bb hb; clear hb hbox hg; have hnb20 := NB501_502.out; have hnc20 := NB502_501.out; obtain ⟨hcz21_0, hcz21_1, hcz21_2⟩ := cz3_ BK501.out; obtain ⟨hfz21_0, hfz21_1, hfz21_2⟩ := fz3_ BK501.out) | (refine gl_ 6 Tryd.func31 #[.agg #[.int .i64 a0_0, .int .i64 a0_1, .int .i64 a0_2]] ?_; (with_reducible refine (impl_IsPerfect.calls k a0_0 a0_1 a0_2 true _ A3.out).mono ?_); rintro e w22 ⟨rfl, hb⟩; refine ⟨_, rfl, ?_⟩; replace BK501 := BK501.bb hb; replace BK502 := BK502.bb hb; replace HB := HB.s2 GE501 GE502 hb; (try clear hb); obtain ⟨hcz23_0, hcz23_1, hcz23_2⟩ := cz3_ BK502.out; obtain ⟨hfz23_0, hfz23_1, hfz23_2⟩ := fz3_ BK502.out) | (go_at_call 31; (with_reducible refine (impl_IsPerfect.calls k a1_0 a1_1 a1_2 true _ A5.out).mono ?_); rintro e w24 ⟨rfl, hb⟩; replace BK501 := BK501.bb hb; replace BK502 := BK502.bb hb; replace HB := HB.s2 GE501 GE502 hb; (try clear hb); obtain ⟨hcz25_0, hcz25_1, hcz25_2⟩ := cz3_ BK501.out; obtain ⟨hfz25_0, hfz25_1, hfz25_2⟩ := fz3_ BK501.out; obtain ⟨hcz26_0, hcz26_1, hcz26_2⟩ := cz3_ BK502.out; obtain ⟨hfz26_0, hfz26_1, hfz26_2⟩ := fz3_ BK502.out) | (refine gl_ 26 Tryd.func32 #[.int .u64 (IntKind.u64.wrap (Go.bits .andNot .i64 a0_2 a1_2))] ?_; (with_reducible refine (bits_OnesCount.calls (IntKind.u64.wrap (Go.bits .andNot .i64 a0_2 a1_2)) t505 _ A17.out).mono ?_); rintro e w' ⟨rfl, ⟨nd, rfl⟩⟩; refine ⟨_, rfl, ?_⟩))
    go_ret
    exact ⟨ex_, hb2_ HB.out GE501.out GE502.out⟩
  ·replace c6 := Bool.eq_false_iff.mpr c6
   subst c6
   have H1 : (some (-1)) = some r := by rw [if_neg (show ¬ (false = true) by decide)] at H; exact H
   clear H
   have H := H1
   clear H1
   obtain rfl := Option.some.inj H
   go_enter Tryd.func17, Tryd.ntmps17
   go_wp2_with (first | (refine box_ (N := 2) (cs := #[.int .i64 a0_0, .int .i64 a0_1, .int .i64 a0_2]) (t := 28) ?_; intro gb501 hg w27 hbox hb; have BK501 := Aside0.mk (hbox); have GW501 := HB.g0 hg; have GE501 := HB.g0 hg; replace HB := HB.s0 hb; clear hb hbox hg) | (refine box_ (N := 3) (cs := #[.int .i64 a1_0, .int .i64 a1_1, .int .i64 a1_2]) (t := 28) ?_; intro gb502 hg w28 hbox hb; have BK502 := Aside0.mk (hbox); have GW502 := HB.g1 GE501 hg; have GE502 := HB.g1 GE501 hg; replace HB := HB.s1 GE501 hb; have NB501_502 := BK501.nl hg; have NB502_501 := BK501.nr hg; replace BK501 := BK501.bb hb; clear hb hbox hg; have hnb29 := NB501_502.out; have hnc29 := NB502_501.out; obtain ⟨hcz30_0, hcz30_1, hcz30_2⟩ := cz3_ BK501.out; obtain ⟨hfz30_0, hfz30_1, hfz30_2⟩ := fz3_ BK501.out) | (refine gl_ 6 Tryd.func31 #[.agg #[.int .i64 a0_0, .int .i64 a0_1, .int .i64 a0_2]] ?_; (with_reducible refine (impl_IsPerfect.calls k a0_0 a0_1 a0_2 true _ A3.out).mono ?_); rintro e w31 ⟨rfl, hb⟩; refine ⟨_, rfl, ?_⟩; replace BK501 := BK501.bb hb; replace BK502 := BK502.bb hb; replace HB := HB.s2 GE501 GE502 hb; (try clear hb); obtain ⟨hcz32_0, hcz32_1, hcz32_2⟩ := cz3_ BK502.out; obtain ⟨hfz32_0, hfz32_1, hfz32_2⟩ := fz3_ BK502.out) | (go_at_call 31; (with_reducible refine (impl_IsPerfect.calls k a1_0 a1_1 a1_2 false _ A5.out).mono ?_); rintro e w33 ⟨rfl, hb⟩; replace BK501 := BK501.bb hb; replace BK502 := BK502.bb hb; replace HB := HB.s2 GE501 GE502 hb; (try clear hb)))
   go_ret
   exact ⟨ex_, hb2_ HB.out GE501.out GE502.out⟩
 ·replace c4 := Bool.eq_false_iff.mpr c4
  subst c4
  have H1 : (some (-1)) = some r := by rw [if_neg (show ¬ (false = true) by decide)] at H; exact H
  clear H
  have H := H1
  clear H1
  obtain rfl := Option.some.inj H
  go_enter Tryd.func17, Tryd.ntmps17
  go_wp2_with (first | (refine box_ (N := 2) (cs := #[.int .i64 a0_0, .int .i64 a0_1, .int .i64 a0_2]) (t := 28) ?_; intro gb501 hg w34 hbox hb; have BK501 := Aside0.mk (hbox); have GW501 := HB.g0 hg; have GE501 := HB.g0 hg; replace HB := HB.s0 hb; clear hb hbox hg) | (refine box_ (N := 3) (cs := #[.int .i64 a1_0, .int .i64 a1_1, .int .i64 a1_2]) (t := 28) ?_; intro gb502 hg w35 hbox hb; have BK502 := Aside0.mk (hbox); have GW502 := HB.g1 GE501 hg; have GE502 := HB.g1 GE501 hg; replace HB := HB.s1 GE501 hb; have NB501_502 := BK501.nl hg; have NB502_501 := BK501.nr hg; replace BK501 := BK501.bb hb; clear hb hbox hg; have hnb36 := NB501_502.out; have hnc36 := NB502_501.out; obtain ⟨hcz37_0, hcz37_1, hcz37_2⟩ := cz3_ BK501.out; obtain ⟨hfz37_0, hfz37_1, hfz37_2⟩ := fz3_ BK501.out) | (refine gl_ 6 Tryd.func31 #[.agg #[.int .i64 a0_0, .int .i64 a0_1, .int .i64 a0_2]] ?_; (with_reducible refine (impl_IsPerfect.calls k a0_0 a0_1 a0_2 false _ A3.out).mono ?_); rintro e w38 ⟨rfl, hb⟩; refine ⟨_, rfl, ?_⟩; replace BK501 := BK501.bb hb; replace BK502 := BK502.bb hb; replace HB := HB.s2 GE501 GE502 hb; (try clear hb)))
  go_ret
  exact ⟨ex_, hb2_ HB.out GE501.out GE502.out⟩

end
end Go.Proofs.YtbdodiaedocmjaaDoor.X
