-- Written by a program of this session (xprint.py), out of the translation and of hand-written contracts. Lean checks it.
import Derived.Test.YtnfclfpicemojaaX0
import Derived.Test.YtnfclfpicemojaaXcmeeting
namespace Go.Proofs.Ytnfclfpicemojaa.X
open Go.RowKit Go.Proofs.YtnfclfpicemojaaW.PrintWords Go.Proofs.YtnfclfpicemojaaW.PrintLast Go.Proofs.YtnfclfpicemojaaW.PrintMore
attribute [local go_sem] max2_int min2_int max_two min_two max_three min_three max_four min_four   -- for this text's walks alone
set_option linter.unusedVariables false
set_option linter.unusedSimpArgs false

/-! ### impl_FirstMeeting: function 7 -/
def impl_FirstMeeting.f (k : Nat) (a0_0 : Int) (a0_1 : Int) (a1_0 : Int) (a1_1 : Int) (a1_2 : Int) (a1_3 : Int) : Option (Int × Int × Int × Bool) := (impl_meeting.f k a0_0 a0_1 a1_0 a1_1 a1_2 a1_3).bind fun bt504 => (if (bt504.1.length : Int) = 0 then (some (0, 0, 0, false)) else (if 0 < (bt504.1.length : Int) then (some ((rd_T32 bt504.1 0).f0.f0, (rd_T32 bt504.1 0).f0.f1, (rd_T32 bt504.1 0).f1, true)) else (none)))
theorem impl_FirstMeeting.mono : ∀ a0 a1 a2 a3 a4 a5 k, LeO (impl_FirstMeeting.f k a0 a1 a2 a3 a4 a5) (impl_FirstMeeting.f (k + 1) a0 a1 a2 a3 a4 a5) := by
 intro a0 a1 a2 a3 a4 a5 k
 unfold impl_FirstMeeting.f
 repeat' first
   | (with_reducible exact impl_meeting.mono ..)
   | (with_reducible first | exact lr_ _ | exact ln_ _ | refine li_ ?_ ?_ | refine lb_ ?_ fun _ => ?_)
   | exact impl_meeting.mono ..
   | exact ln_ _ | refine li_ ?_ ?_ | refine lb_ ?_ fun _ => ?_
set_option maxHeartbeats 8000000 in
set_option maxRecDepth 100000 in
theorem impl_FirstMeeting.calls (k : Nat) (a0_0 : Int) (a0_1 : Int) (a1_0 : Int) (a1_1 : Int) (a1_2 : Int) (a1_3 : Int) (r1 : Int) (r2 : Int) (r3 : Int) (r4 : Bool) (w : World) (h : impl_FirstMeeting.f k a0_0 a0_1 a1_0 a1_1 a1_2 a1_3 = some (r1, r2, r3, r4)) :
  Calls Try.prog 7 #[.agg #[.int .i64 a0_0, .int .i64 a0_1], .agg #[.int .i64 a1_0, .int .i64 a1_1, .int .i64 a1_2, .int .i64 a1_3]] w fun e w' => e = .returned (.tuple #[.agg #[.int .i64 r1, .int .i64 r2, .int .i64 r3], .bool r4]) ∧ Below w.heap.size w w' := by
 have hu25 := Try.underlying25
 have hu27 := Try.underlying27
 have hu32 := Try.underlying32
 have HB := Aside0.mk (Below.refl w.heap.size w)
 have H : ((impl_meeting.f k a0_0 a0_1 a1_0 a1_1 a1_2 a1_3).bind fun bt504 => (if (bt504.1.length : Int) = 0 then (some (0, 0, 0, false)) else (if 0 < (bt504.1.length : Int) then (some ((rd_T32 bt504.1 0).f0.f0, (rd_T32 bt504.1 0).f0.f1, (rd_T32 bt504.1 0).f1, true)) else (none)))) = some (r1, r2, r3, r4) := h
 clear h
 replace H := Option.bind_eq_some_iff.mp H
 obtain ⟨⟨t504, t507⟩, A30, H⟩ := H
 replace H : (if (t504.length : Int) = 0 then (some (0, 0, 0, false)) else (if 0 < (t504.length : Int) then (some ((rd_T32 t504 0).f0.f0, (rd_T32 t504 0).f0.f1, (rd_T32 t504 0).f1, true)) else (none))) = some (r1, r2, r3, r4) := H
 have A3 := Aside0.mk A30
 clear A30
 by_cases c4 : (t504.length : Int) = 0
 ·rw [if_pos c4] at H
  have c4b0 : ((t504.length : Int) == 0) = true := beq_iff_eq.mpr c4
  have c4b1 : ((t504.length : Int) != 0) = false := bne_eq_false_iff_eq.mpr c4
  clear c4
  simp only [Option.some.injEq, Prod.mk.injEq] at H
  obtain ⟨rfl, rfl, rfl, rfl⟩ := H
  go_enter Try.func7, Try.ntmps7
  go_wp2_with (first | (refine box_ (N := 2) (cs := #[.int .i64 a0_0, .int .i64 a0_1]) (t := 25) ?_; intro gb501 hg w5 hbox hb; have BK501 := Aside0.mk (hbox); have GW501 := HB.g0 hg; have GE501 := HB.g0 hg; replace HB := HB.s0 hb; clear hb hbox hg) | (refine box_ (N := 3) (cs := #[.int .i64 a1_0, .int .i64 a1_1, .int .i64 a1_2, .int .i64 a1_3]) (t := 27) ?_; intro gb502 hg w6 hbox hb; have BK502 := Aside0.mk (hbox); have GW502 := HB.g1 GE501 hg; have GE502 := HB.g1 GE501 hg; replace HB := HB.s1 GE501 hb; have NB501_502 := BK501.nl hg; have NB502_501 := BK501.nr hg; replace BK501 := BK501.bb hb; clear hb hbox hg) | (refine box_ (N := 4) (cs := #[.int .i64 0, .int .i64 0, .int .i64 0]) (t := 32) ?_; intro gb503 hg w7 hbox hb; have BK503 := Aside0.mk (hbox); have GW503 := HB.g2 GE501 GE502 hg; have GE503 := HB.g2 GE501 GE502 hg; replace HB := HB.s2 GE501 GE502 hb; have NB501_503 := BK501.nl hg; have NB503_501 := BK501.nr hg; replace BK501 := BK501.bb hb; have NB502_503 := BK502.nl hg; have NB503_502 := BK502.nr hg; replace BK502 := BK502.bb hb; clear hb hbox hg; have hnb8 := NB501_502.out; have hnc8 := NB502_501.out; have hnb9 := NB501_503.out; have hnc9 := NB503_501.out; obtain ⟨hcz10_0, hcz10_1⟩ := cz2_ BK501.out; obtain ⟨hfz10_0, hfz10_1⟩ := fz2_ BK501.out; have hnb11 := NB502_503.out; have hnc11 := NB503_502.out; obtain ⟨hcz12_0, hcz12_1, hcz12_2, hcz12_3⟩ := cz4_ BK502.out; obtain ⟨hfz12_0, hfz12_1, hfz12_2, hfz12_3⟩ := fz4_ BK502.out) | (refine gl_ 11 Try.func16 #[.agg #[.int .i64 a0_0, .int .i64 a0_1], .agg #[.int .i64 a1_0, .int .i64 a1_1, .int .i64 a1_2, .int .i64 a1_3]] ?_; (with_reducible refine (impl_meeting.calls k a0_0 a0_1 a1_0 a1_1 a1_2 a1_3 t504 t507 _ A3.out).mono ?_); rintro e w13 ⟨v505, rfl, ho0, hb⟩; refine ⟨_, rfl, ?_⟩; have HO506 := Aside0.mk (Kd.R_lower (Kd.R_newB ho0 (g := gb503) (o := .cells #[.int .i64 0, .int .i64 0, .int .i64 0] 32 (0, 0)) (bk_ BK503.out)) (below_size (hb3_ HB.out GE501.out GE502.out GE503.out))); replace BK501 := BK501.bb hb; replace BK502 := BK502.bb hb; replace BK503 := BK503.bb hb; replace HB := HB.s3 GE501 GE502 GE503 hb; (try clear hb); (try clear ho0); obtain ⟨Ao14, co14, eo14⟩ := Kd.R_slice HO506.out; subst eo14; obtain ⟨hcz15_0, hcz15_1, hcz15_2⟩ := cz3_ BK503.out; obtain ⟨hfz15_0, hfz15_1, hfz15_2⟩ := fz3_ BK503.out))
  refine bodyPost_ret (results_ct rfl _ _ gb503 32 #[.int .i64 0, .int .i64 0, .int .i64 0] (0, 0) _ rfl (bq3_ BK503.out) Try.underlying32 rfl (by kernel_rfl)) rfl ?_
  exact ⟨ex_, hb3_ HB.out GE501.out GE502.out GE503.out⟩
 ·rw [if_neg c4] at H
  have c4b0 : ((t504.length : Int) == 0) = false := beq_eq_false_iff_ne.mpr c4
  have c4b1 : ((t504.length : Int) != 0) = true := bne_iff_ne.mpr c4
  have c4b2 : ¬ (t504 = []) := fun h_ => c4 (by rw [h_]; rfl)
  by_cases c16 : 0 < (t504.length : Int)
  ·rw [if_pos c16] at H
   have c16b0 : decide (0 < (t504.length : Int)) = true := decide_eq_true c16
   have c16b1 : decide (0 < t504.length) = true := decide_eq_true (by omega)
   clear c16
   simp only [Option.some.injEq, Prod.mk.injEq] at H
   obtain ⟨rfl, rfl, rfl, rfl⟩ := H
   go_enter Try.func7, Try.ntmps7
   go_wp2_with (first | (refine box_ (N := 2) (cs := #[.int .i64 a0_0, .int .i64 a0_1]) (t := 25) ?_; intro gb501 hg w17 hbox hb; have BK501 := Aside0.mk (hbox); have GW501 := HB.g0 hg; have GE501 := HB.g0 hg; replace HB := HB.s0 hb; clear hb hbox hg) | (refine box_ (N := 3) (cs := #[.int .i64 a1_0, .int .i64 a1_1, .int .i64 a1_2, .int .i64 a1_3]) (t := 27) ?_; intro gb502 hg w18 hbox hb; have BK502 := Aside0.mk (hbox); have GW502 := HB.g1 GE501 hg; have GE502 := HB.g1 GE501 hg; replace HB := HB.s1 GE501 hb; have NB501_502 := BK501.nl hg; have NB502_501 := BK501.nr hg; replace BK501 := BK501.bb hb; clear hb hbox hg) | (refine box_ (N := 4) (cs := #[.int .i64 0, .int .i64 0, .int .i64 0]) (t := 32) ?_; intro gb503 hg w19 hbox hb; have BK503 := Aside0.mk (hbox); have GW503 := HB.g2 GE501 GE502 hg; have GE503 := HB.g2 GE501 GE502 hg; replace HB := HB.s2 GE501 GE502 hb; have NB501_503 := BK501.nl hg; have NB503_501 := BK501.nr hg; replace BK501 := BK501.bb hb; have NB502_503 := BK502.nl hg; have NB503_502 := BK502.nr hg; replace BK502 := BK502.bb hb; clear hb hbox hg; have hnb20 := NB501_502.out; have hnc20 := NB502_501.out; have hnb21 := NB501_503.out; have hnc21 := NB503_501.out; obtain ⟨hcz22_0, hcz22_1⟩ := cz2_ BK501.out; obtain ⟨hfz22_0, hfz22_1⟩ := fz2_ BK501.out; have hnb23 := NB502_503.out; have hnc23 := NB503_502.out; obtain ⟨hcz24_0, hcz24_1, hcz24_2, hcz24_3⟩ := cz4_ BK502.out; obtain ⟨hfz24_0, hfz24_1, hfz24_2, hfz24_3⟩ := fz4_ BK502.out) | (refine gl_ 11 Try.func16 #[.agg #[.int .i64 a0_0, .int .i64 a0_1], .agg #[.int .i64 a1_0, .int .i64 a1_1, .int .i64 a1_2, .int .i64 a1_3]] ?_; (with_reducible refine (impl_meeting.calls k a0_0 a0_1 a1_0 a1_1 a1_2 a1_3 t504 t507 _ A3.out).mono ?_); rintro e w25 ⟨v505, rfl, ho0, hb⟩; refine ⟨_, rfl, ?_⟩; have HO506 := Aside0.mk (Kd.R_lower (Kd.R_newB ho0 (g := gb503) (o := .cells #[.int .i64 0, .int .i64 0, .int .i64 0] 32 (0, 0)) (bk_ BK503.out)) (below_size (hb3_ HB.out GE501.out GE502.out GE503.out))); replace BK501 := BK501.bb hb; replace BK502 := BK502.bb hb; replace BK503 := BK503.bb hb; replace HB := HB.s3 GE501 GE502 GE503 hb; (try clear hb); (try clear ho0); obtain ⟨Ao26, co26, eo26⟩ := Kd.R_slice HO506.out; subst eo26; have p508 : 0 ≤ (0 : Int) := (by omega); have q508 : 0 < (t504.length : Int) := of_decide_eq_true (as_); obtain ⟨ad508, e508, hx508_0, hx508_1, hx508_2⟩ := at_T32 (Kd.R_reads' HO506.out).2.2 0 p508 q508; cases e508; have qi508 : (0 < t504.length) = True := eq_true (by omega); (try rw [show ((0 : Int)).toNat = 0 from rfl] at hx508_0); (try rw [show 0 * 3 = 0 from rfl] at hx508_0); (try rw [Addr.add_zero'] at hx508_0); (try rw [show ((0 : Int)).toNat = 0 from rfl] at hx508_1); (try rw [show 0 * 3 = 0 from rfl] at hx508_1); (try rw [Addr.add_zero'] at hx508_1); (try rw [show ((0 : Int)).toNat = 0 from rfl] at hx508_2); (try rw [show 0 * 3 = 0 from rfl] at hx508_2); (try rw [Addr.add_zero'] at hx508_2); replace p508 := eq_true p508; replace q508 := eq_true q508; obtain ⟨hcz27_0, hcz27_1, hcz27_2⟩ := cz3_ BK503.out; obtain ⟨hfz27_0, hfz27_1, hfz27_2⟩ := fz3_ BK503.out))
   refine bodyPost_ret (results_ct rfl _ _ gb503 32 #[.int .i64 ((rd_T32 t504 0).f0.f0), .int .i64 ((rd_T32 t504 0).f0.f1), .int .i64 ((rd_T32 t504 0).f1)] (0, 0) _ rfl (bq3_ BK503.out) Try.underlying32 rfl (by kernel_rfl)) rfl ?_
   exact ⟨ex_, hb3_ HB.out GE501.out GE502.out GE503.out⟩
  ·rw [if_neg c16] at H
   exact absurd H (by simp)

end Go.Proofs.Ytnfclfpicemojaa.X
