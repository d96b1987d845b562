-- Written by a program of this session (xprint.py), out of the translation and of hand-written contracts. Lean checks it.
import Derived.Test.YtkkjlbpffcdlfaaX0
import Derived.Test.YtkkjlbpffcdlfaaXspecl01Below
import Derived.Test.YtkkjlbpffcdlfaaXspecl01New
import Derived.Test.YtkkjlbpffcdlfaaXspecl28Arches
namespace Go.Proofs.Ytkkjlbpffcdlfaa.X
open Go.RowKit Go.Proofs.YtkkjlbpffcdlfaaW.PrintWords Go.Proofs.YtkkjlbpffcdlfaaW.PrintLast Go.Proofs.YtkkjlbpffcdlfaaW.PrintMore
attribute [local go_sem] max2_int min2_int max_two min_two max_three min_three max_four min_four   -- for this text's walks alone
set_option linter.unusedVariables false
set_option linter.unusedSimpArgs false

/-! ### spec_DrawTwoArches: function 20 -/
def spec_DrawTwoArches.f (k : Nat) (l0 : List Int) : Option (List Int × List Int) := (spec_l01New.f k l0).bind fun bt501 => ((spec_l01Below.f bt501.1 bt501.2.1 bt501.2.2 5).bind fun bt505 => ((spec_l28Arches.f k bt501.1 bt505.2.1 bt505.2.2 (wrap64 (1 + bt505.1))).bind fun bt508 => ((spec_l28Arches.f k bt501.1 bt508.2.1 bt508.2.2 (wrap64 (1 + bt505.1))).bind fun bt513 => (some (bt508.1, bt513.1)))))
theorem spec_DrawTwoArches.mono : ∀ a0 k, LeO (spec_DrawTwoArches.f k a0) (spec_DrawTwoArches.f (k + 1) a0) := by
 intro a0 k
 unfold spec_DrawTwoArches.f
 repeat' first
   | (with_reducible exact spec_l01New.mono ..)
   | (with_reducible exact spec_l28Arches.mono ..)
   | (with_reducible first | exact lr_ _ | exact ln_ _ | refine li_ ?_ ?_ | refine lb_ ?_ fun _ => ?_)
   | exact spec_l01New.mono ..
   | exact spec_l28Arches.mono ..
   | exact ln_ _ | refine li_ ?_ ?_ | refine lb_ ?_ fun _ => ?_
set_option maxHeartbeats 8000000 in
set_option maxRecDepth 100000 in
theorem spec_DrawTwoArches.calls (k : Nat) (A0 : Option Addr) (c0 : Nat) (l0 : List Int) (r1 : List Int) (r2 : List Int) (w : World) (hr0 : Kd.C (Kd.int .u8) w A0 l0.length l0) (hc0 : l0.length ≤ c0) (h : spec_DrawTwoArches.f k l0 = some (r1, r2)) :
  Calls Try.prog 20 #[.slice A0 l0.length c0] w fun e w' => ∃ v0_ v1_ : Value, e = .returned (.tuple #[v0_, v1_]) ∧ Kd.V (Kd.int .i64) 3 w' w.heap.size (fun k_ => (w.heap.size ≤ k_)) v0_ r1 ∧ Kd.V (Kd.int .i64) 3 w' w.heap.size (fun k_ => (w.heap.size ≤ k_)) v1_ r2 ∧ Below w.heap.size w w' := by
 have HR0 := Aside0.mk hr0
 have HC0 := Aside0.mk hc0
 clear hr0 hc0
 have HB := Aside0.mk (Below.refl w.heap.size w)
 have H : ((spec_l01New.f k l0).bind fun bt501 => ((spec_l01Below.f bt501.1 bt501.2.1 bt501.2.2 5).bind fun bt505 => ((spec_l28Arches.f k bt501.1 bt505.2.1 bt505.2.2 (wrap64 (1 + bt505.1))).bind fun bt508 => ((spec_l28Arches.f k bt501.1 bt508.2.1 bt508.2.2 (wrap64 (1 + bt505.1))).bind fun bt513 => (some (bt508.1, bt513.1)))))) = some (r1, r2) := h
 clear h
 replace H := Option.bind_eq_some_iff.mp H
 obtain ⟨⟨t501, t502, t503⟩, A20, H⟩ := H
 replace H : ((spec_l01Below.f t501 t502 t503 5).bind fun bt505 => ((spec_l28Arches.f k t501 bt505.2.1 bt505.2.2 (wrap64 (1 + bt505.1))).bind fun bt508 => ((spec_l28Arches.f k t501 bt508.2.1 bt508.2.2 (wrap64 (1 + bt505.1))).bind fun bt513 => (some (bt508.1, bt513.1))))) = some (r1, r2) := H
 have A2 := Aside0.mk A20
 clear A20
 replace H := Option.bind_eq_some_iff.mp H
 obtain ⟨⟨t505, t506, t507⟩, A30, H⟩ := H
 replace H : ((spec_l28Arches.f k t501 t506 t507 (wrap64 (1 + t505))).bind fun bt508 => ((spec_l28Arches.f k t501 bt508.2.1 bt508.2.2 (wrap64 (1 + t505))).bind fun bt513 => (some (bt508.1, bt513.1)))) = some (r1, r2) := H
 have A3 := Aside0.mk A30
 clear A30
 replace H := Option.bind_eq_some_iff.mp H
 obtain ⟨⟨t508, t511, t512⟩, A40, H⟩ := H
 replace H : ((spec_l28Arches.f k t501 t511 t512 (wrap64 (1 + t505))).bind fun bt513 => (some (t508, bt513.1))) = some (r1, r2) := H
 have A4 := Aside0.mk A40
 clear A40
 replace H := Option.bind_eq_some_iff.mp H
 obtain ⟨⟨t513, t516, t517⟩, A50, H⟩ := H
 replace H : (some (t508, t513)) = some (r1, r2) := H
 have A5 := Aside0.mk A50
 clear A50
 simp only [Option.some.injEq, Prod.mk.injEq] at H
 obtain ⟨rfl, rfl⟩ := H
 go_enter Try.func20, Try.ntmps20
 go_wp2_with (first | (refine gl_ 8 Try.func36 #[.slice A0 l0.length c0] ?_; (with_reducible refine (spec_l01New.calls k _ _ l0 t501 t502 t503 w _ ?side1 ?side2 ?side3 A2.out).mono ?_); (case side1 => repeat (first | (with_reducible first | exact HB.out | apply below_alloc | apply pw_below_drewN | apply below_drew1) | exact HB.out)); (case side2 => exact HR0.out); (case side3 => exact HC0.out); rintro e w6 ⟨g504, rfl, hi, hb, hb2⟩; refine ⟨_, rfl, ?_⟩; replace HB := Aside0.mk (hb); have HI504 := Aside0.mk (hi); (try clear hb); (try clear hb2); (try clear hi)) | (refine gl_ 10 Try.func37 #[.pointer (some ⟨g504, 0, none⟩), .int .i64 5] ?_; (with_reducible refine (spec_l01Below.calls g504 t501 t502 t503 5 t505 t506 t507 w _ ?side1 ?side2 A3.out).mono ?_); (case side1 => repeat (first | (with_reducible first | exact HI504.out | apply IsS57.alloc | apply IsS57.drewN | apply IsS57.drew | apply IsS57.set_1 | apply IsS57.set_2) | exact HI504.out)); (case side2 => repeat (first | (with_reducible first | exact HB.out | apply below_alloc | apply pw_below_drewN | apply below_drew1 | refine below_set ?_ (IsS57.ge HI504.out)) | exact HB.out)); rintro e w7 ⟨rfl, hi, hb, hk⟩; refine ⟨_, rfl, ?_⟩; replace HB := Aside0.mk (hb); replace HI504 := Aside0.mk (hi); (try clear hb); (try clear hk); (try clear hi)) | (refine gl_ 14 Try.func38 #[.pointer (some ⟨g504, 0, none⟩), .int .i64 (wrap64 (1 + t505))] ?_; (with_reducible refine (spec_l28Arches.calls k g504 t501 t506 t507 (wrap64 (1 + t505)) t508 t511 t512 w _ ?side1 ?side2 A4.out).mono ?_); (case side1 => repeat (first | (with_reducible first | exact HI504.out | apply IsS57.alloc | apply IsS57.drewN | apply IsS57.drew | apply IsS57.set_1 | apply IsS57.set_2) | exact HI504.out)); (case side2 => repeat (first | (with_reducible first | exact HB.out | apply below_alloc | apply pw_below_drewN | apply below_drew1 | refine below_set ?_ (IsS57.ge HI504.out)) | exact HB.out)); rintro e w8 ⟨v509, rfl, ho0, hi, hb, hk⟩; refine ⟨_, rfl, ?_⟩; have HO510 := Aside0.mk (Kd.V_lower (Kd.V_mono (ok' := fun k_ => (w.heap.size ≤ k_) ∧ k_ ≠ g504) ho0 (fun k_ hk_ => ⟨(Nat.le_trans (below_size (by repeat (first | (with_reducible first | exact HB.out | apply below_alloc | apply pw_below_drewN | apply below_drew1 | refine below_set ?_ (IsS57.ge HI504.out)) | exact HB.out))) hk_), (IsS57.fresh (by repeat (first | (with_reducible first | exact HI504.out | apply IsS57.alloc | apply IsS57.drewN | apply IsS57.drew | apply IsS57.set_1 | apply IsS57.set_2) | exact HI504.out)) k_ hk_)⟩)) (below_size (by repeat (first | (with_reducible first | exact HB.out | apply below_alloc | apply pw_below_drewN | apply below_drew1 | refine below_set ?_ (IsS57.ge HI504.out)) | exact HB.out)))); replace HB := Aside0.mk (hb); replace HI504 := Aside0.mk (hi)) | (refine gl_ 18 Try.func38 #[.pointer (some ⟨g504, 0, none⟩), .int .i64 (wrap64 (1 + t505))] ?_; (with_reducible refine (spec_l28Arches.calls k g504 t501 t511 t512 (wrap64 (1 + t505)) t513 t516 t517 w _ ?side1 ?side2 A5.out).mono ?_); (case side1 => repeat (first | (with_reducible first | exact HI504.out | apply IsS57.alloc | apply IsS57.drewN | apply IsS57.drew | apply IsS57.set_1 | apply IsS57.set_2) | exact HI504.out)); (case side2 => repeat (first | (with_reducible first | exact HB.out | apply below_alloc | apply pw_below_drewN | apply below_drew1 | refine below_set ?_ (IsS57.ge HI504.out)) | exact HB.out)); rintro e w9 ⟨v514, rfl, ho0, hi, hb, hk⟩; refine ⟨_, rfl, ?_⟩; replace HO510 := Aside0.mk (Kd.V_mono (Kd.V_keep (Kd.V_mono (ok := fun k_ => (((w.heap.size ≤ k_)) ∧ k_ ≠ g504)) (by (with_reducible repeat (first | apply Kd.V_alloc | apply Kd.V_drewN | apply Kd.V_drew)); exact HO510.out) (fun k_ hk_ => (⟨hk_, hk_.2⟩ : _ ∧ k_ ≠ g504))) hk (fun _ h => h.2)) (fun _ h => h.1)); have HO515 := Aside0.mk (Kd.V_lower (Kd.V_mono (ok' := fun k_ => (w.heap.size ≤ k_) ∧ k_ ≠ g504) ho0 (fun k_ hk_ => ⟨(Nat.le_trans (below_size (by repeat (first | (with_reducible first | exact HB.out | apply below_alloc | apply pw_below_drewN | apply below_drew1 | refine below_set ?_ (IsS57.ge HI504.out)) | exact HB.out))) hk_), (IsS57.fresh (by repeat (first | (with_reducible first | exact HI504.out | apply IsS57.alloc | apply IsS57.drewN | apply IsS57.drew | apply IsS57.set_1 | apply IsS57.set_2) | exact HI504.out)) k_ hk_)⟩)) (below_size (by repeat (first | (with_reducible first | exact HB.out | apply below_alloc | apply pw_below_drewN | apply below_drew1 | refine below_set ?_ (IsS57.ge HI504.out)) | exact HB.out)))); replace HB := Aside0.mk (hb); replace HI504 := Aside0.mk (hi)))
 go_ret2
 exact ⟨_, _, by first | rfl | (simp [errW_none, errW_some] <;> rfl) | (simp [*, errW_none, errW_some] <;> rfl), by (with_reducible repeat (first | apply Kd.V_alloc | apply Kd.V_drewN | apply Kd.V_drew)); exact Kd.V_mono HO510.out (fun _ hk => hk.1), by (with_reducible repeat (first | apply Kd.V_alloc | apply Kd.V_drewN | apply Kd.V_drew)); exact Kd.V_mono HO515.out (fun _ hk => hk.1), by repeat (first | (with_reducible first | exact HB.out | apply below_alloc | apply pw_below_drewN | apply below_drew1 | refine below_set ?_ (IsS57.ge HI504.out)) | exact HB.out)⟩

end Go.Proofs.Ytkkjlbpffcdlfaa.X
