-- Written by a program of this session (xprint.py), out of the translation and of hand-written contracts. Lean checks it.
import Derived.Test.YtnfclfpicemojaaX0
import Derived.Test.YtnfclfpicemojaaXcmeeting
namespace Go.Proofs.Ytnfclfpicemojaa.X
open Go.RowKit Go.Proofs.YtnfclfpicemojaaW.PrintWords Go.Proofs.YtnfclfpicemojaaW.PrintLast Go.Proofs.YtnfclfpicemojaaW.PrintMore
attribute [local go_sem] max2_int min2_int max_two min_two max_three min_three max_four min_four   -- for this text's walks alone
set_option linter.unusedVariables false
set_option linter.unusedSimpArgs false

/-! ### impl_CountMeeting: function 6 -/
def impl_CountMeeting.f (k : Nat) (a0_0 : Int) (a0_1 : Int) (a1_0 : Int) (a1_1 : Int) (a1_2 : Int) (a1_3 : Int) : Option (Int) := (impl_meeting.f k a0_0 a0_1 a1_0 a1_1 a1_2 a1_3).bind fun bt503 => (if bt503.2 = true then (some (bt503.1.length : Int)) else (some (-1)))
theorem impl_CountMeeting.mono : ∀ a0 a1 a2 a3 a4 a5 k, LeO (impl_CountMeeting.f k a0 a1 a2 a3 a4 a5) (impl_CountMeeting.f (k + 1) a0 a1 a2 a3 a4 a5) := by
 intro a0 a1 a2 a3 a4 a5 k
 unfold impl_CountMeeting.f
 repeat' first
   | (with_reducible exact impl_meeting.mono ..)
   | (with_reducible first | exact lr_ _ | exact ln_ _ | refine li_ ?_ ?_ | refine lb_ ?_ fun _ => ?_)
   | exact impl_meeting.mono ..
   | exact ln_ _ | refine li_ ?_ ?_ | refine lb_ ?_ fun _ => ?_
set_option maxHeartbeats 8000000 in
set_option maxRecDepth 100000 in
theorem impl_CountMeeting.calls (k : Nat) (a0_0 : Int) (a0_1 : Int) (a1_0 : Int) (a1_1 : Int) (a1_2 : Int) (a1_3 : Int) (r : Int) (w : World) (h : impl_CountMeeting.f k a0_0 a0_1 a1_0 a1_1 a1_2 a1_3 = some r) :
  Calls Try.prog 6 #[.agg #[.int .i64 a0_0, .int .i64 a0_1], .agg #[.int .i64 a1_0, .int .i64 a1_1, .int .i64 a1_2, .int .i64 a1_3]] w fun e w' => e = .returned (.int .i64 r) ∧ Below w.heap.size w w' := by
 have hu25 := Try.underlying25
 have hu27 := Try.underlying27
 have HB := Aside0.mk (Below.refl w.heap.size w)
 have H : ((impl_meeting.f k a0_0 a0_1 a1_0 a1_1 a1_2 a1_3).bind fun bt503 => (if bt503.2 = true then (some (bt503.1.length : Int)) else (some (-1)))) = some r := h
 clear h
 replace H := Option.bind_eq_some_iff.mp H
 obtain ⟨⟨t503, t506⟩, A30, H⟩ := H
 replace H : (if t506 = true then (some (t503.length : Int)) else (some (-1))) = some r := H
 have A3 := Aside0.mk A30
 clear A30
 by_cases c4 : t506 = true
 ·subst c4
  have H1 : (some (t503.length : Int)) = some r := by rw [if_pos rfl] at H; exact H
  clear H
  have H := H1
  clear H1
  obtain rfl := Option.some.inj H
  go_enter Try.func6, Try.ntmps6
  go_wp2_with (first | (refine box_ (N := 2) (cs := #[.int .i64 a0_0, .int .i64 a0_1]) (t := 25) ?_; intro gb501 hg w5 hbox hb; have BK501 := Aside0.mk (hbox); have GW501 := HB.g0 hg; have GE501 := HB.g0 hg; replace HB := HB.s0 hb; clear hb hbox hg) | (refine box_ (N := 3) (cs := #[.int .i64 a1_0, .int .i64 a1_1, .int .i64 a1_2, .int .i64 a1_3]) (t := 27) ?_; intro gb502 hg w6 hbox hb; have BK502 := Aside0.mk (hbox); have GW502 := HB.g1 GE501 hg; have GE502 := HB.g1 GE501 hg; replace HB := HB.s1 GE501 hb; have NB501_502 := BK501.nl hg; have NB502_501 := BK501.nr hg; replace BK501 := BK501.bb hb; clear hb hbox hg; have hnb7 := NB501_502.out; have hnc7 := NB502_501.out; obtain ⟨hcz8_0, hcz8_1⟩ := cz2_ BK501.out; obtain ⟨hfz8_0, hfz8_1⟩ := fz2_ BK501.out; obtain ⟨hcz9_0, hcz9_1, hcz9_2, hcz9_3⟩ := cz4_ BK502.out; obtain ⟨hfz9_0, hfz9_1, hfz9_2, hfz9_3⟩ := fz4_ BK502.out) | (refine gl_ 10 Try.func16 #[.agg #[.int .i64 a0_0, .int .i64 a0_1], .agg #[.int .i64 a1_0, .int .i64 a1_1, .int .i64 a1_2, .int .i64 a1_3]] ?_; (with_reducible refine (impl_meeting.calls k a0_0 a0_1 a1_0 a1_1 a1_2 a1_3 t503 true _ A3.out).mono ?_); rintro e w10 ⟨v504, rfl, ho0, hb⟩; refine ⟨_, rfl, ?_⟩; have HO505 := Aside0.mk (Kd.R_lower ho0 (below_size (hb2_ HB.out GE501.out GE502.out))); replace BK501 := BK501.bb hb; replace BK502 := BK502.bb hb; replace HB := HB.s2 GE501 GE502 hb; (try clear hb); (try clear ho0); obtain ⟨Ao11, co11, eo11⟩ := Kd.R_slice HO505.out; subst eo11))
  go_ret
  exact ⟨ex_, hb2_ HB.out GE501.out GE502.out⟩
 ·replace c4 := Bool.eq_false_iff.mpr c4
  subst c4
  have H1 : (some (-1)) = some r := by rw [if_neg (show ¬ (false = true) by decide)] at H; exact H
  clear H
  have H := H1
  clear H1
  obtain rfl := Option.some.inj H
  go_enter Try.func6, Try.ntmps6
  go_wp2_with (first | (refine box_ (N := 2) (cs := #[.int .i64 a0_0, .int .i64 a0_1]) (t := 25) ?_; intro gb501 hg w12 hbox hb; have BK501 := Aside0.mk (hbox); have GW501 := HB.g0 hg; have GE501 := HB.g0 hg; replace HB := HB.s0 hb; clear hb hbox hg) | (refine box_ (N := 3) (cs := #[.int .i64 a1_0, .int .i64 a1_1, .int .i64 a1_2, .int .i64 a1_3]) (t := 27) ?_; intro gb502 hg w13 hbox hb; have BK502 := Aside0.mk (hbox); have GW502 := HB.g1 GE501 hg; have GE502 := HB.g1 GE501 hg; replace HB := HB.s1 GE501 hb; have NB501_502 := BK501.nl hg; have NB502_501 := BK501.nr hg; replace BK501 := BK501.bb hb; clear hb hbox hg; have hnb14 := NB501_502.out; have hnc14 := NB502_501.out; obtain ⟨hcz15_0, hcz15_1⟩ := cz2_ BK501.out; obtain ⟨hfz15_0, hfz15_1⟩ := fz2_ BK501.out; obtain ⟨hcz16_0, hcz16_1, hcz16_2, hcz16_3⟩ := cz4_ BK502.out; obtain ⟨hfz16_0, hfz16_1, hfz16_2, hfz16_3⟩ := fz4_ BK502.out) | (refine gl_ 10 Try.func16 #[.agg #[.int .i64 a0_0, .int .i64 a0_1], .agg #[.int .i64 a1_0, .int .i64 a1_1, .int .i64 a1_2, .int .i64 a1_3]] ?_; (with_reducible refine (impl_meeting.calls k a0_0 a0_1 a1_0 a1_1 a1_2 a1_3 t503 false _ A3.out).mono ?_); rintro e w17 ⟨v504, rfl, ho0, hb⟩; refine ⟨_, rfl, ?_⟩; have HO505 := Aside0.mk (Kd.R_lower ho0 (below_size (hb2_ HB.out GE501.out GE502.out))); replace BK501 := BK501.bb hb; replace BK502 := BK502.bb hb; replace HB := HB.s2 GE501 GE502 hb; (try clear hb); (try clear ho0)))
  go_ret
  exact ⟨ex_, hb2_ HB.out GE501.out GE502.out⟩

end Go.Proofs.Ytnfclfpicemojaa.X
