-- Written by a program of this session (xprint.py), out of the translation and of hand-written contracts. Lean checks it.
import Derived.Test.YtnfclfpicemojaaX0
import Derived.Test.YtnfclfpicemojaaXcgrid
import Derived.Test.YtnfclfpicemojaaXcmaze
import Derived.Test.YtnfclfpicemojaaXcreach
import Derived.Test.YtnfclfpicemojaaXctrees
namespace Go.Proofs.Ytnfclfpicemojaa.X
open Go.RowKit Go.Proofs.YtnfclfpicemojaaW.PrintWords Go.Proofs.YtnfclfpicemojaaW.PrintLast Go.Proofs.YtnfclfpicemojaaW.PrintMore
attribute [local go_sem] max2_int min2_int max_two min_two max_three min_three max_four min_four   -- for this text's walks alone
set_option linter.unusedVariables false
set_option linter.unusedSimpArgs false

/-! ### impl_CountLoops: function 42 -/
def impl_CountLoops.f (k : Nat) (a0_0 : Int) (a0_1 : Int) (a0_2 : Int) : Option (Int) := (impl_MazeOk.f a0_0 a0_1 a0_2).bind fun t502 => (if t502 = true then ((impl_CountPassages.f a0_0 a0_1 a0_2).bind fun t503 => ((impl_CountCells.f a0_0 a0_1).bind fun t504 => ((impl_CountParts.f k a0_0 a0_1 a0_2).bind fun t505 => (some (wrap64 ((wrap64 (t503 - t504)) + t505)))))) else (some 0))
theorem impl_CountLoops.mono : ∀ a0 a1 a2 k, LeO (impl_CountLoops.f k a0 a1 a2) (impl_CountLoops.f (k + 1) a0 a1 a2) := by
 intro a0 a1 a2 k
 unfold impl_CountLoops.f
 repeat' first
   | (with_reducible exact impl_CountParts.mono ..)
   | (with_reducible first | exact lr_ _ | exact ln_ _ | refine li_ ?_ ?_ | refine lb_ ?_ fun _ => ?_)
   | exact impl_CountParts.mono ..
   | exact ln_ _ | refine li_ ?_ ?_ | refine lb_ ?_ fun _ => ?_
def impl_CountLoops.T3 : Bool × List (List Nat × List Nat) := (true, [([], []), ([0], [0]), ([], []), ([2], [2]), ([3, 1], [3]), ([1, 4], [1, 4]), ([], []), ([6, 4], [6]), ([5, 7], [5, 7]), ([8, 7, 0, 1, 2, 3, 4, 5, 6, 7, 8], [8])])
def impl_CountLoops.B3 : List Nat := [0, 1, 0, 4, 15, 31, 0, 95, 255, 511]
theorem impl_CountLoops.tab3 : rtab .any (opsOf Try.f42 3) = impl_CountLoops.T3 := by kernel_rfl
theorem impl_CountLoops.bits3 : waitsOk impl_CountLoops.T3.2 impl_CountLoops.B3 = true := by kernel_rfl
set_option maxHeartbeats 8000000 in
set_option maxRecDepth 100000 in
theorem impl_CountLoops.calls (k : Nat) (a0_0 : Int) (a0_1 : Int) (a0_2 : Int) (r : Int) (w : World) (h : impl_CountLoops.f k a0_0 a0_1 a0_2 = some r) :
  Calls Try.prog 42 #[.agg #[.int .i64 a0_0, .int .i64 a0_1, .int .i64 a0_2]] w fun e w' => e = .returned (.int .i64 r) ∧ Below w.heap.size w w' := by
 have hu32 := Try.underlying32
 have hu25 := Try.underlying25
 have HB := Aside0.mk (Below.refl w.heap.size w)
 have H : ((impl_MazeOk.f a0_0 a0_1 a0_2).bind fun t502 => (if t502 = true then ((impl_CountPassages.f a0_0 a0_1 a0_2).bind fun t503 => ((impl_CountCells.f a0_0 a0_1).bind fun t504 => ((impl_CountParts.f k a0_0 a0_1 a0_2).bind fun t505 => (some (wrap64 ((wrap64 (t503 - t504)) + t505)))))) else (some 0))) = some r := h
 clear h
 replace H := Option.bind_eq_some_iff.mp H
 obtain ⟨t502, A20, H⟩ := H
 replace H : (if t502 = true then ((impl_CountPassages.f a0_0 a0_1 a0_2).bind fun t503 => ((impl_CountCells.f a0_0 a0_1).bind fun t504 => ((impl_CountParts.f k a0_0 a0_1 a0_2).bind fun t505 => (some (wrap64 ((wrap64 (t503 - t504)) + t505)))))) else (some 0)) = some r := H
 have A2 := Aside0.mk A20
 clear A20
 by_cases c3 : t502 = true
 ·subst c3
  have H1 : ((impl_CountPassages.f a0_0 a0_1 a0_2).bind fun t503 => ((impl_CountCells.f a0_0 a0_1).bind fun t504 => ((impl_CountParts.f k a0_0 a0_1 a0_2).bind fun t505 => (some (wrap64 ((wrap64 (t503 - t504)) + t505)))))) = some r := by rw [if_pos rfl] at H; exact H
  clear H
  have H := H1
  clear H1
  replace H := Option.bind_eq_some_iff.mp H
  obtain ⟨t503, A40, H⟩ := H
  replace H : ((impl_CountCells.f a0_0 a0_1).bind fun t504 => ((impl_CountParts.f k a0_0 a0_1 a0_2).bind fun t505 => (some (wrap64 ((wrap64 (t503 - t504)) + t505))))) = some r := H
  have A4 := Aside0.mk A40
  clear A40
  replace H := Option.bind_eq_some_iff.mp H
  obtain ⟨t504, A50, H⟩ := H
  replace H : ((impl_CountParts.f k a0_0 a0_1 a0_2).bind fun t505 => (some (wrap64 ((wrap64 (t503 - t504)) + t505)))) = some r := H
  have A5 := Aside0.mk A50
  clear A50
  replace H := Option.bind_eq_some_iff.mp H
  obtain ⟨t505, A60, H⟩ := H
  replace H : (some (wrap64 ((wrap64 (t503 - t504)) + t505))) = some r := H
  have A6 := Aside0.mk A60
  clear A60
  obtain rfl := Option.some.inj H
  go_enter Try.func42, Try.ntmps42
  try go_wp2_with (first | (refine box_ (N := 1) (cs := #[.int .i64 a0_0, .int .i64 a0_1, .int .i64 a0_2]) (t := 32) ?_; intro gb501 hg w7 hbox hb; have BK501 := Aside0.mk (hbox); have GW501 := HB.g0 hg; have GE501 := HB.g0 hg; replace HB := HB.s0 hb; clear hb hbox hg; obtain ⟨hcz8_0, hcz8_1, hcz8_2⟩ := cz3_ BK501.out; obtain ⟨hfz8_0, hfz8_1, hfz8_2⟩ := fz3_ BK501.out) | (refine gl_ 4 Try.func36 #[.agg #[.int .i64 a0_0, .int .i64 a0_1, .int .i64 a0_2]] ?_; (with_reducible refine (impl_MazeOk.calls a0_0 a0_1 a0_2 true _ A2.out).mono ?_); rintro e w9 ⟨rfl, hb⟩; refine ⟨_, rfl, ?_⟩; replace BK501 := BK501.bb hb; replace HB := HB.s1 GE501 hb; (try clear hb)))
  replace BK501 := Aside0.mk (blk_drew BK501.out)
  replace HB := Aside0.mk (below_drew1 HB.out)
  refine start_ (n := 10) (S := fun w' => w'.cell? ⟨gb501, 0, none⟩ = some (.int .i64 a0_0) ∧ w'.cell? ⟨gb501, 1, none⟩ = some (.int .i64 a0_1) ∧ w'.cell? ⟨gb501, 2, none⟩ = some (.int .i64 a0_2)) (ds := []) #[false, false, false, false, false, false, false, false, false, false] (by kernel_rfl) rfl rfl ⟨BK501.c 0, BK501.c 1, BK501.c 2⟩ (fun hHeld => ?_); refine with_tabW impl_CountLoops.tab3 impl_CountLoops.bits3 (fun HT_ HW_ => ?_)
  generalize w9.drew = w10 at BK501 HB hHeld ⊢
  refine pv_ (i := 2) (N := some 8) HT_.out ?_
  refine tv3_ (i := 0) (N := some 6) HT_.out HW_.out hHeld ?_
  refine tv3_ (i := 3) (N := some 9) HT_.out HW_.out hHeld ?_
  refine tv3_ (i := 6) (N := some 12) HT_.out HW_.out hHeld ?_
  refine ov_ (i := 1) (N := some 7) HT_.out (fun K hK => ?_)
  refine gq_ Try.func33 #[.agg #[.int .i64 a0_0, .int .i64 a0_1, .int .i64 a0_2]] ?_
  with_reducible refine (impl_CountPassages.calls a0_0 a0_1 a0_2 t503 _ A4.out).mono ?_
  rintro e w11 ⟨rfl, hb⟩
  refine ⟨_, rfl, ?_⟩
  replace BK501 := BK501.bb hb
  replace HB := HB.s1 GE501 hb
  skip
  (try clear hb2)
  (try clear hk)
  (try clear hi)
  refine hK.out _ _ ⟨BK501.c 0, BK501.c 1, BK501.c 2⟩ (fun hHeld => ?_)
  clear hK K
  refine nm_ ?_
  refine ov_ (i := 4) (N := some 10) HT_.out (fun K hK => ?_)
  refine gq_ Try.func31 #[.agg #[.int .i64 a0_0, .int .i64 a0_1]] ?_
  with_reducible refine (impl_CountCells.calls a0_0 a0_1 t504 _ A5.out).mono ?_
  rintro e w12 ⟨rfl, hb⟩
  refine ⟨_, rfl, ?_⟩
  replace BK501 := BK501.bb hb
  replace HB := HB.s1 GE501 hb
  skip
  (try clear hb2)
  (try clear hk)
  (try clear hi)
  refine hK.out _ _ ⟨BK501.c 0, BK501.c 1, BK501.c 2⟩ (fun hHeld => ?_)
  clear hK K
  refine nm_ ?_
  refine pv_ (i := 5) (N := some 11) HT_.out ?_
  refine ov_ (i := 7) (N := some 13) HT_.out (fun K hK => ?_)
  refine gq_ Try.func49 #[.agg #[.int .i64 a0_0, .int .i64 a0_1, .int .i64 a0_2]] ?_
  with_reducible refine (impl_CountParts.calls k a0_0 a0_1 a0_2 t505 _ A6.out).mono ?_
  rintro e w13 ⟨rfl, hb⟩
  refine ⟨_, rfl, ?_⟩
  replace BK501 := BK501.bb hb
  replace HB := HB.s1 GE501 hb
  skip
  (try clear hb2)
  (try clear hk)
  (try clear hi)
  refine hK.out _ _ ⟨BK501.c 0, BK501.c 1, BK501.c 2⟩ (fun hHeld => ?_)
  clear hK K
  refine nm_ ?_
  refine pv_ (i := 8) (N := some 14) HT_.out ?_
  refine pv_ (i := 9) (N := some 2) HT_.out ?_
  refine done_ (done_of HT_.out (by kernel_rfl)) ?_
  try go_wp2
  go_ret
  exact ⟨ex_, hb1_ HB.out GE501.out⟩
 ·replace c3 := Bool.eq_false_iff.mpr c3
  subst c3
  have H1 : (some 0) = some r := by rw [if_neg (show ¬ (false = true) by decide)] at H; exact H
  clear H
  have H := H1
  clear H1
  obtain rfl := Option.some.inj H
  go_enter Try.func42, Try.ntmps42
  go_wp2_with (first | (refine box_ (N := 1) (cs := #[.int .i64 a0_0, .int .i64 a0_1, .int .i64 a0_2]) (t := 32) ?_; intro gb501 hg w14 hbox hb; have BK501 := Aside0.mk (hbox); have GW501 := HB.g0 hg; have GE501 := HB.g0 hg; replace HB := HB.s0 hb; clear hb hbox hg; obtain ⟨hcz15_0, hcz15_1, hcz15_2⟩ := cz3_ BK501.out; obtain ⟨hfz15_0, hfz15_1, hfz15_2⟩ := fz3_ BK501.out) | (refine gl_ 4 Try.func36 #[.agg #[.int .i64 a0_0, .int .i64 a0_1, .int .i64 a0_2]] ?_; (with_reducible refine (impl_MazeOk.calls a0_0 a0_1 a0_2 false _ A2.out).mono ?_); rintro e w16 ⟨rfl, hb⟩; refine ⟨_, rfl, ?_⟩; replace BK501 := BK501.bb hb; replace HB := HB.s1 GE501 hb; (try clear hb)))
  go_ret
  exact ⟨ex_, hb1_ HB.out GE501.out⟩

end Go.Proofs.Ytnfclfpicemojaa.X
