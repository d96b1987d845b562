-- Written by a program of this session (xprint.py), out of the translation and of hand-written contracts. Lean checks it.
import Derived.Test.YtekgbinadmjapaaX0
import Derived.Test.YtekgbinadmjapaaXchedge
import Derived.Test.YtekgbinadmjapaaXimplGrowHedge
import Derived.Test.YtekgbinadmjapaaXlawsheldHedge
import Derived.Test.YtekgbinadmjapaaXlawsmarkHedge
import Derived.Test.YtekgbinadmjapaaXspecGrowHedge
namespace Go.Proofs.Ytekgbinadmjapaa.X
open Go.RowKit Go.Proofs.YtekgbinadmjapaaW.PrintWords Go.Proofs.YtekgbinadmjapaaW.PrintLast Go.Proofs.YtekgbinadmjapaaW.PrintMore
attribute [local go_sem] max2_int min2_int max_two min_two max_three min_three max_four min_four   -- for this text's walks alone
set_option linter.unusedVariables false
set_option linter.unusedSimpArgs false

/-! ### laws_FnExactGrowHedge: function 8 -/
mutual
def laws_FnExactGrowHedge.j0 : Nat → Int → Bool → Bool → Bool → Int → Int → Int → List Int → Int → Int → Int → Int → List Int → Int → Int → Int → Int → List Int → Int → Int → Int → Int → List Int → Int → Option (Bool)
 | 0, _, _, _, _, _, _, _, _, _, _, _, _, _, _, _, _, _, _, _, _, _, _, _, _ => none
 | k + 1, x1, x7, x10, x44, x502000, x502001, x502002, x502003, x502004, x519000, x519001, x519002, x519003, x519004, x527000, x527001, x527002, x527003, x527004, x536000, x536001, x536002, x536003, x536004 => if x44 = true then (some false) else ((laws_toHedge.f k x502000 x502001 x502002 x502003 x502004).bind fun bt537 => ((laws_eqHedge.f k x527000 x527001 x527002 x527003 x527004 bt537.1 bt537.2.1 bt537.2.2.1 bt537.2.2.2.1 bt537.2.2.2.2).bind fun t544 => (if t544 = true then ((laws_markHedge.f k x527000 x527001 x527002 x527003 x527004 1).bind fun bt545 => (if bt545.1 < 0 then (laws_FnExactGrowHedge.j1 k x1 x7 true x502000 x502001 x502002 x502003 x502004 x519000 x519001 x519002 x519003 x519004 x536000 x536001 x536002 x536003 x536004) else ((laws_eqHedge.f k x536000 x536001 x536002 x536003 x536004 x519000 x519001 x519002 x519003 x519004).bind fun t547 => (if t547 = true then (laws_FnExactGrowHedge.j1 k x1 x7 (x10 != x7) x502000 x502001 x502002 x502003 x502004 x519000 x519001 x519002 x519003 x519004 x536000 x536001 x536002 x536003 x536004) else (laws_FnExactGrowHedge.j1 k x1 x7 true x502000 x502001 x502002 x502003 x502004 x519000 x519001 x519002 x519003 x519004 x536000 x536001 x536002 x536003 x536004))))) else (some false))))
def laws_FnExactGrowHedge.j1 : Nat → Int → Bool → Bool → Int → Int → Int → List Int → Int → Int → Int → Int → List Int → Int → Int → Int → Int → List Int → Int → Option (Bool)
 | 0, _, _, _, _, _, _, _, _, _, _, _, _, _, _, _, _, _, _ => none
 | k + 1, x1, x7, x65, x502000, x502001, x502002, x502003, x502004, x519000, x519001, x519002, x519003, x519004, x536000, x536001, x536002, x536003, x536004 => if x65 = true then (some false) else ((laws_markHedge.f k x536000 x536001 x536002 x536003 x536004 1).bind fun bt548 => ((laws_heldHedge.f k x536000 x536001 x536002 bt548.2 x536004 1).bind fun t550 => (if t550 < 0 then (some false) else (if t550 = bt548.1 then ((laws_toHedge.f k x502000 x502001 x502002 x502003 x502004).bind fun bt551 => ((impl_GrowHedge.f k bt551.1 bt551.2.1 bt551.2.2.1 bt551.2.2.2.1 bt551.2.2.2.2 x1).bind fun bt558 => ((laws_eqHedge.f k bt558.1 bt558.2.1 bt558.2.2.1 bt558.2.2.2.1 bt558.2.2.2.2.1 x519000 x519001 x519002 x519003 x519004).bind fun t567 => (if t567 = true then (laws_FnExactGrowHedge.j2 k bt548.1 (bt558.2.2.2.2.2 != x7) x536000 x536001 x536002 bt548.2 x536004) else (laws_FnExactGrowHedge.j2 k bt548.1 true x536000 x536001 x536002 bt548.2 x536004))))) else (some false)))))
def laws_FnExactGrowHedge.j2 : Nat → Int → Bool → Int → Int → Int → List Int → Int → Option (Bool)
 | 0, _, _, _, _, _, _, _ => none
 | k + 1, x12, x92, x536000, x536001, x536002, x536003, x536004 => if x92 = true then (some false) else ((laws_heldHedge.f k x536000 x536001 x536002 x536003 x536004 1).bind fun t568 => (if t568 < 0 then (some false) else (if t568 = x12 then (some true) else (some false))))
end
def laws_FnExactGrowHedge.f (k : Nat) (a0_0 : Int) (a0_1 : Int) (a0_2 : Int) (l0_3 : List Int) (a0_4 : Int) (a1 : Int) : Option (Bool) := (laws_szHedge.f a0_0 a0_1 a0_2 l0_3 a0_4 1048576).bind fun t502 => (if t502 < 0 then (some true) else ((laws_toHedge.f k a0_0 a0_1 a0_2 l0_3 a0_4).bind fun bt503 => ((spec_GrowHedge.f k bt503.1 bt503.2.1 bt503.2.2.1 bt503.2.2.2.1 bt503.2.2.2.2 a1).bind fun bt510 => ((laws_toHedge.f k a0_0 a0_1 a0_2 l0_3 a0_4).bind fun bt519 => ((impl_GrowHedge.f k bt519.1 bt519.2.1 bt519.2.2.1 bt519.2.2.2.1 bt519.2.2.2.2 a1).bind fun bt527 => ((laws_eqHedge.f k bt527.1 bt527.2.1 bt527.2.2.1 bt527.2.2.2.1 bt527.2.2.2.2.1 bt510.1 bt510.2.1 bt510.2.2.1 bt510.2.2.2.1 bt510.2.2.2.2.1).bind fun t536 => (if t536 = true then (laws_FnExactGrowHedge.j0 k a1 bt510.2.2.2.2.2 bt527.2.2.2.2.2 (bt527.2.2.2.2.2 != bt510.2.2.2.2.2) a0_0 a0_1 a0_2 l0_3 a0_4 bt510.1 bt510.2.1 bt510.2.2.1 bt510.2.2.2.1 bt510.2.2.2.2.1 bt519.1 bt519.2.1 bt519.2.2.1 bt519.2.2.2.1 bt519.2.2.2.2 bt527.1 bt527.2.1 bt527.2.2.1 bt527.2.2.2.1 bt527.2.2.2.2.1) else (laws_FnExactGrowHedge.j0 k a1 bt510.2.2.2.2.2 bt527.2.2.2.2.2 true a0_0 a0_1 a0_2 l0_3 a0_4 bt510.1 bt510.2.1 bt510.2.2.1 bt510.2.2.2.1 bt510.2.2.2.2.1 bt519.1 bt519.2.1 bt519.2.2.1 bt519.2.2.2.1 bt519.2.2.2.2 bt527.1 bt527.2.1 bt527.2.2.1 bt527.2.2.2.1 bt527.2.2.2.2.1))))))))
theorem laws_FnExactGrowHedge.mono_l : ∀ k, (∀ y0 y1 y2 y3 y4 y5 y6 y7 y8 y9 y10 y11 y12 y13 y14 y15 y16 y17 y18 y19 y20 y21 y22 y23, LeO (laws_FnExactGrowHedge.j0 k y0 y1 y2 y3 y4 y5 y6 y7 y8 y9 y10 y11 y12 y13 y14 y15 y16 y17 y18 y19 y20 y21 y22 y23) (laws_FnExactGrowHedge.j0 (k + 1) y0 y1 y2 y3 y4 y5 y6 y7 y8 y9 y10 y11 y12 y13 y14 y15 y16 y17 y18 y19 y20 y21 y22 y23)) ∧ (∀ y0 y1 y2 y3 y4 y5 y6 y7 y8 y9 y10 y11 y12 y13 y14 y15 y16 y17, LeO (laws_FnExactGrowHedge.j1 k y0 y1 y2 y3 y4 y5 y6 y7 y8 y9 y10 y11 y12 y13 y14 y15 y16 y17) (laws_FnExactGrowHedge.j1 (k + 1) y0 y1 y2 y3 y4 y5 y6 y7 y8 y9 y10 y11 y12 y13 y14 y15 y16 y17)) ∧ (∀ y0 y1 y2 y3 y4 y5 y6, LeO (laws_FnExactGrowHedge.j2 k y0 y1 y2 y3 y4 y5 y6) (laws_FnExactGrowHedge.j2 (k + 1) y0 y1 y2 y3 y4 y5 y6))
 | 0 => ⟨fun _ _ _ _ _ _ _ _ _ _ _ _ _ _ _ _ _ _ _ _ _ _ _ _ r h => by simp [laws_FnExactGrowHedge.j0] at h, fun _ _ _ _ _ _ _ _ _ _ _ _ _ _ _ _ _ _ r h => by simp [laws_FnExactGrowHedge.j1] at h, fun _ _ _ _ _ _ _ r h => by simp [laws_FnExactGrowHedge.j2] at h⟩
 | k + 1 => by
  obtain ⟨ih0, ih1, ih2⟩ := laws_FnExactGrowHedge.mono_l k
  refine ⟨?_, ?_, ?_⟩
  ·intro y0 y1 y2 y3 y4 y5 y6 y7 y8 y9 y10 y11 y12 y13 y14 y15 y16 y17 y18 y19 y20 y21 y22 y23
   unfold laws_FnExactGrowHedge.j0
   repeat' first
   | (with_reducible exact ih0 _ _ _ _ _ _ _ _ _ _ _ _ _ _ _ _ _ _ _ _ _ _ _ _)
   | (with_reducible exact ih1 _ _ _ _ _ _ _ _ _ _ _ _ _ _ _ _ _ _)
   | (with_reducible exact ih2 _ _ _ _ _ _ _)
   | (with_reducible exact impl_GrowHedge.mono _ _ _ _ _ _ _)
   | (with_reducible exact laws_eqHedge.mono _ _ _ _ _ _ _ _ _ _ _)
   | (with_reducible exact laws_heldHedge.mono _ _ _ _ _ _ _)
   | (with_reducible exact laws_markHedge.mono _ _ _ _ _ _ _)
   | (with_reducible exact laws_toHedge.mono _ _ _ _ _ _)
   | (with_reducible exact spec_GrowHedge.mono _ _ _ _ _ _ _)
   | (with_reducible exact LeO.refl _)
   | (with_reducible exact LeO.none _)
   | (with_reducible refine LeO.ite ?_ ?_)
   | (with_reducible refine LeO.bind ?_ (fun _ => ?_))
   | exact ih0 _ _ _ _ _ _ _ _ _ _ _ _ _ _ _ _ _ _ _ _ _ _ _ _
   | exact ih1 _ _ _ _ _ _ _ _ _ _ _ _ _ _ _ _ _ _
   | exact ih2 _ _ _ _ _ _ _
   | exact impl_GrowHedge.mono _ _ _ _ _ _ _
   | exact laws_eqHedge.mono _ _ _ _ _ _ _ _ _ _ _
   | exact laws_heldHedge.mono _ _ _ _ _ _ _
   | exact laws_markHedge.mono _ _ _ _ _ _ _
   | exact laws_toHedge.mono _ _ _ _ _ _
   | exact spec_GrowHedge.mono _ _ _ _ _ _ _
   | exact LeO.none _
   | refine LeO.ite ?_ ?_
   | refine LeO.bind ?_ (fun _ => ?_)
  ·intro y0 y1 y2 y3 y4 y5 y6 y7 y8 y9 y10 y11 y12 y13 y14 y15 y16 y17
   unfold laws_FnExactGrowHedge.j1
   repeat' first
   | (with_reducible exact ih0 _ _ _ _ _ _ _ _ _ _ _ _ _ _ _ _ _ _ _ _ _ _ _ _)
   | (with_reducible exact ih1 _ _ _ _ _ _ _ _ _ _ _ _ _ _ _ _ _ _)
   | (with_reducible exact ih2 _ _ _ _ _ _ _)
   | (with_reducible exact impl_GrowHedge.mono _ _ _ _ _ _ _)
   | (with_reducible exact laws_eqHedge.mono _ _ _ _ _ _ _ _ _ _ _)
   | (with_reducible exact laws_heldHedge.mono _ _ _ _ _ _ _)
   | (with_reducible exact laws_markHedge.mono _ _ _ _ _ _ _)
   | (with_reducible exact laws_toHedge.mono _ _ _ _ _ _)
   | (with_reducible exact spec_GrowHedge.mono _ _ _ _ _ _ _)
   | (with_reducible exact LeO.refl _)
   | (with_reducible exact LeO.none _)
   | (with_reducible refine LeO.ite ?_ ?_)
   | (with_reducible refine LeO.bind ?_ (fun _ => ?_))
   | exact ih0 _ _ _ _ _ _ _ _ _ _ _ _ _ _ _ _ _ _ _ _ _ _ _ _
   | exact ih1 _ _ _ _ _ _ _ _ _ _ _ _ _ _ _ _ _ _
   | exact ih2 _ _ _ _ _ _ _
   | exact impl_GrowHedge.mono _ _ _ _ _ _ _
   | exact laws_eqHedge.mono _ _ _ _ _ _ _ _ _ _ _
   | exact laws_heldHedge.mono _ _ _ _ _ _ _
   | exact laws_markHedge.mono _ _ _ _ _ _ _
   | exact laws_toHedge.mono _ _ _ _ _ _
   | exact spec_GrowHedge.mono _ _ _ _ _ _ _
   | exact LeO.none _
   | refine LeO.ite ?_ ?_
   | refine LeO.bind ?_ (fun _ => ?_)
  ·intro y0 y1 y2 y3 y4 y5 y6
   unfold laws_FnExactGrowHedge.j2
   repeat' first
   | (with_reducible exact ih0 _ _ _ _ _ _ _ _ _ _ _ _ _ _ _ _ _ _ _ _ _ _ _ _)
   | (with_reducible exact ih1 _ _ _ _ _ _ _ _ _ _ _ _ _ _ _ _ _ _)
   | (with_reducible exact ih2 _ _ _ _ _ _ _)
   | (with_reducible exact impl_GrowHedge.mono _ _ _ _ _ _ _)
   | (with_reducible exact laws_eqHedge.mono _ _ _ _ _ _ _ _ _ _ _)
   | (with_reducible exact laws_heldHedge.mono _ _ _ _ _ _ _)
   | (with_reducible exact laws_markHedge.mono _ _ _ _ _ _ _)
   | (with_reducible exact laws_toHedge.mono _ _ _ _ _ _)
   | (with_reducible exact spec_GrowHedge.mono _ _ _ _ _ _ _)
   | (with_reducible exact LeO.refl _)
   | (with_reducible exact LeO.none _)
   | (with_reducible refine LeO.ite ?_ ?_)
   | (with_reducible refine LeO.bind ?_ (fun _ => ?_))
   | exact ih0 _ _ _ _ _ _ _ _ _ _ _ _ _ _ _ _ _ _ _ _ _ _ _ _
   | exact ih1 _ _ _ _ _ _ _ _ _ _ _ _ _ _ _ _ _ _
   | exact ih2 _ _ _ _ _ _ _
   | exact impl_GrowHedge.mono _ _ _ _ _ _ _
   | exact laws_eqHedge.mono _ _ _ _ _ _ _ _ _ _ _
   | exact laws_heldHedge.mono _ _ _ _ _ _ _
   | exact laws_markHedge.mono _ _ _ _ _ _ _
   | exact laws_toHedge.mono _ _ _ _ _ _
   | exact spec_GrowHedge.mono _ _ _ _ _ _ _
   | exact LeO.none _
   | refine LeO.ite ?_ ?_
   | refine LeO.bind ?_ (fun _ => ?_)
theorem laws_FnExactGrowHedge.mono : ∀ a0 a1 a2 a3 a4 a5 k, LeO (laws_FnExactGrowHedge.f k a0 a1 a2 a3 a4 a5) (laws_FnExactGrowHedge.f (k + 1) a0 a1 a2 a3 a4 a5) := by
 intro a0 a1 a2 a3 a4 a5 k
 obtain ⟨ih0, ih1, ih2⟩ := laws_FnExactGrowHedge.mono_l k
 unfold laws_FnExactGrowHedge.f
 repeat' first
   | (with_reducible exact ih0 _ _ _ _ _ _ _ _ _ _ _ _ _ _ _ _ _ _ _ _ _ _ _ _)
   | (with_reducible exact ih1 _ _ _ _ _ _ _ _ _ _ _ _ _ _ _ _ _ _)
   | (with_reducible exact ih2 _ _ _ _ _ _ _)
   | (with_reducible exact impl_GrowHedge.mono _ _ _ _ _ _ _)
   | (with_reducible exact laws_eqHedge.mono _ _ _ _ _ _ _ _ _ _ _)
   | (with_reducible exact laws_heldHedge.mono _ _ _ _ _ _ _)
   | (with_reducible exact laws_markHedge.mono _ _ _ _ _ _ _)
   | (with_reducible exact laws_toHedge.mono _ _ _ _ _ _)
   | (with_reducible exact spec_GrowHedge.mono _ _ _ _ _ _ _)
   | (with_reducible exact LeO.refl _)
   | (with_reducible exact LeO.none _)
   | (with_reducible refine LeO.ite ?_ ?_)
   | (with_reducible refine LeO.bind ?_ (fun _ => ?_))
   | exact ih0 _ _ _ _ _ _ _ _ _ _ _ _ _ _ _ _ _ _ _ _ _ _ _ _
   | exact ih1 _ _ _ _ _ _ _ _ _ _ _ _ _ _ _ _ _ _
   | exact ih2 _ _ _ _ _ _ _
   | exact impl_GrowHedge.mono _ _ _ _ _ _ _
   | exact laws_eqHedge.mono _ _ _ _ _ _ _ _ _ _ _
   | exact laws_heldHedge.mono _ _ _ _ _ _ _
   | exact laws_markHedge.mono _ _ _ _ _ _ _
   | exact laws_toHedge.mono _ _ _ _ _ _
   | exact spec_GrowHedge.mono _ _ _ _ _ _ _
   | exact LeO.none _
   | refine LeO.ite ?_ ?_
   | refine LeO.bind ?_ (fun _ => ?_)
set_option maxHeartbeats 8000000 in
set_option maxRecDepth 100000 in
theorem laws_FnExactGrowHedge.calls (k : Nat) (a0_0 : Int) (a0_1 : Int) (a0_2 : Int) (A0_3 : Option Addr) (c0_3 : Nat) (l0_3 : List Int) (a0_4 : Int) (a1 : Int) (r : Bool) (w : World) (hr0_3 : Kd.C (Kd.int .i64) w A0_3 l0_3.length l0_3) (hc0_3 : l0_3.length ≤ c0_3) (h : laws_FnExactGrowHedge.f k a0_0 a0_1 a0_2 l0_3 a0_4 a1 = some r) :
  Calls Try.prog 8 #[.agg #[.int .i64 a0_0, .int .i64 a0_1, .int .i64 a0_2, .slice A0_3 l0_3.length c0_3, .int .i64 a0_4], .int .i64 a1] w fun e w' => e = .returned (.bool r) ∧ Below w.heap.size w w' := by
 have hu28 := Try.underlying28
 have hu35 := Try.underlying35
 have HR0_3 := Aside0.mk hr0_3
 have HC0_3 := Aside0.mk hc0_3
 clear hr0_3 hc0_3
 have HB := Aside0.mk (Below.refl w.heap.size w)
 have H : ((laws_szHedge.f a0_0 a0_1 a0_2 l0_3 a0_4 1048576).bind fun t502 => (if t502 < 0 then (some true) else ((laws_toHedge.f k a0_0 a0_1 a0_2 l0_3 a0_4).bind fun bt503 => ((spec_GrowHedge.f k bt503.1 bt503.2.1 bt503.2.2.1 bt503.2.2.2.1 bt503.2.2.2.2 a1).bind fun bt510 => ((laws_toHedge.f k a0_0 a0_1 a0_2 l0_3 a0_4).bind fun bt519 => ((impl_GrowHedge.f k bt519.1 bt519.2.1 bt519.2.2.1 bt519.2.2.2.1 bt519.2.2.2.2 a1).bind fun bt527 => ((laws_eqHedge.f k bt527.1 bt527.2.1 bt527.2.2.1 bt527.2.2.2.1 bt527.2.2.2.2.1 bt510.1 bt510.2.1 bt510.2.2.1 bt510.2.2.2.1 bt510.2.2.2.2.1).bind fun t536 => (if t536 = true then (laws_FnExactGrowHedge.j0 k a1 bt510.2.2.2.2.2 bt527.2.2.2.2.2 (bt527.2.2.2.2.2 != bt510.2.2.2.2.2) a0_0 a0_1 a0_2 l0_3 a0_4 bt510.1 bt510.2.1 bt510.2.2.1 bt510.2.2.2.1 bt510.2.2.2.2.1 bt519.1 bt519.2.1 bt519.2.2.1 bt519.2.2.2.1 bt519.2.2.2.2 bt527.1 bt527.2.1 bt527.2.2.1 bt527.2.2.2.1 bt527.2.2.2.2.1) else (laws_FnExactGrowHedge.j0 k a1 bt510.2.2.2.2.2 bt527.2.2.2.2.2 true a0_0 a0_1 a0_2 l0_3 a0_4 bt510.1 bt510.2.1 bt510.2.2.1 bt510.2.2.2.1 bt510.2.2.2.2.1 bt519.1 bt519.2.1 bt519.2.2.1 bt519.2.2.2.1 bt519.2.2.2.2 bt527.1 bt527.2.1 bt527.2.2.1 bt527.2.2.2.1 bt527.2.2.2.2.1))))))))) = some r := h
 clear h
 replace H := Option.bind_eq_some_iff.mp H
 obtain ⟨t502, A30, H⟩ := H
 replace H : (if t502 < 0 then (some true) else ((laws_toHedge.f k a0_0 a0_1 a0_2 l0_3 a0_4).bind fun bt503 => ((spec_GrowHedge.f k bt503.1 bt503.2.1 bt503.2.2.1 bt503.2.2.2.1 bt503.2.2.2.2 a1).bind fun bt510 => ((laws_toHedge.f k a0_0 a0_1 a0_2 l0_3 a0_4).bind fun bt519 => ((impl_GrowHedge.f k bt519.1 bt519.2.1 bt519.2.2.1 bt519.2.2.2.1 bt519.2.2.2.2 a1).bind fun bt527 => ((laws_eqHedge.f k bt527.1 bt527.2.1 bt527.2.2.1 bt527.2.2.2.1 bt527.2.2.2.2.1 bt510.1 bt510.2.1 bt510.2.2.1 bt510.2.2.2.1 bt510.2.2.2.2.1).bind fun t536 => (if t536 = true then (laws_FnExactGrowHedge.j0 k a1 bt510.2.2.2.2.2 bt527.2.2.2.2.2 (bt527.2.2.2.2.2 != bt510.2.2.2.2.2) a0_0 a0_1 a0_2 l0_3 a0_4 bt510.1 bt510.2.1 bt510.2.2.1 bt510.2.2.2.1 bt510.2.2.2.2.1 bt519.1 bt519.2.1 bt519.2.2.1 bt519.2.2.2.1 bt519.2.2.2.2 bt527.1 bt527.2.1 bt527.2.2.1 bt527.2.2.2.1 bt527.2.2.2.2.1) else (laws_FnExactGrowHedge.j0 k a1 bt510.2.2.2.2.2 bt527.2.2.2.2.2 true a0_0 a0_1 a0_2 l0_3 a0_4 bt510.1 bt510.2.1 bt510.2.2.1 bt510.2.2.2.1 bt510.2.2.2.2.1 bt519.1 bt519.2.1 bt519.2.2.1 bt519.2.2.2.1 bt519.2.2.2.2 bt527.1 bt527.2.1 bt527.2.2.1 bt527.2.2.2.1 bt527.2.2.2.2.1)))))))) = some r := H
 have A3 := Aside0.mk A30
 clear A30
 by_cases c4 : t502 < 0
 ·rw [if_pos c4] at H
  have c4b0 : decide (t502 < 0) = true := decide_eq_true c4
  clear c4
  obtain rfl := Option.some.inj H
  go_enter Try.func8, Try.ntmps8
  go_wp2_with (first | ((with_reducible refine gate_dst (N := 2) rfl ?_); refine box_event ?hg (N := 2) ?hd (cs := #[.int .i64 a0_0, .int .i64 a0_1, .int .i64 a0_2, .slice A0_3 l0_3.length c0_3, .int .i64 a0_4]) (t := 28) ?hr ?_; (case hd => rfl); (case hg => rfl); (case hr => first | (go_simp; done) | (go_simp; rfl)); intro gb501 hg w5 hbox hb; have n0_ := Aside0.mk (below_step (hb0_ HB.out) hb); have n1_ := Aside0.mk (hbox); have n2_ := Aside0.mk (gs_ hg (hb0_ HB.out)); have n3_ := Aside0.mk (gs_ hg (hb0_ HB.out)); clear HB; have HB := n0_; have BK501 := n1_; have GW501 := n2_; have GE501 := n3_; clear n0_ n1_ n2_ n3_; clear hb hbox hg; obtain ⟨hcz6_0, hcz6_1, hcz6_2, hcz6_3, hcz6_4⟩ := cz5_ BK501.out; obtain ⟨hfz6_0, hfz6_1, hfz6_2, hfz6_3, hfz6_4⟩ := fz5_ BK501.out) | ((with_reducible refine gate_callee (f := 15) rfl ?_); refine goesL_ (some 18) rfl rfl Try.func15 (by kernel_rfl) rfl #[.agg #[.int .i64 a0_0, .int .i64 a0_1, .int .i64 a0_2, .slice A0_3 l0_3.length c0_3, .int .i64 a0_4], .int .i64 1048576] rfl (ml_) ?_; (with_reducible refine (laws_szHedge.calls a0_0 a0_1 a0_2 _ _ l0_3 a0_4 1048576 t502 _ ?side1 ?side2 A3.out).mono ?_); (case side1 => repeat (first | exact (Kd.C_below HR0_3.out HB.out) | (with_reducible refine Kd.C_alloc ?_ _) | (with_reducible refine Kd.C_drewN ?_ _) | (with_reducible refine Kd.C_drew ?_))); (case side2 => exact HC0_3.out); rintro e w7 ⟨rfl, hb⟩; refine ⟨_, rfl, ?_⟩; replace BK501 := Aside0.mk (bb_ BK501.out hb); replace HB := Aside0.mk (below_step (hb1_ HB.out GE501.out) hb); (try clear hb); (try clear hb2); (try clear hk); (try clear hi)))
  go_ret
  exact ⟨by first | rfl | (simp [errW_none, errW_some] <;> rfl) | (simp [*, errW_none, errW_some] <;> rfl), hb1_ HB.out GE501.out⟩
 ·rw [if_neg c4] at H
  have c4b0 : decide (t502 < 0) = false := decide_eq_false c4
  clear c4
  replace H := Option.bind_eq_some_iff.mp H
  obtain ⟨⟨t503, t504, t505, t506, t509⟩, A80, H⟩ := H
  replace H : ((spec_GrowHedge.f k t503 t504 t505 t506 t509 a1).bind fun bt510 => ((laws_toHedge.f k a0_0 a0_1 a0_2 l0_3 a0_4).bind fun bt519 => ((impl_GrowHedge.f k bt519.1 bt519.2.1 bt519.2.2.1 bt519.2.2.2.1 bt519.2.2.2.2 a1).bind fun bt527 => ((laws_eqHedge.f k bt527.1 bt527.2.1 bt527.2.2.1 bt527.2.2.2.1 bt527.2.2.2.2.1 bt510.1 bt510.2.1 bt510.2.2.1 bt510.2.2.2.1 bt510.2.2.2.2.1).bind fun t536 => (if t536 = true then (laws_FnExactGrowHedge.j0 k a1 bt510.2.2.2.2.2 bt527.2.2.2.2.2 (bt527.2.2.2.2.2 != bt510.2.2.2.2.2) a0_0 a0_1 a0_2 l0_3 a0_4 bt510.1 bt510.2.1 bt510.2.2.1 bt510.2.2.2.1 bt510.2.2.2.2.1 bt519.1 bt519.2.1 bt519.2.2.1 bt519.2.2.2.1 bt519.2.2.2.2 bt527.1 bt527.2.1 bt527.2.2.1 bt527.2.2.2.1 bt527.2.2.2.2.1) else (laws_FnExactGrowHedge.j0 k a1 bt510.2.2.2.2.2 bt527.2.2.2.2.2 true a0_0 a0_1 a0_2 l0_3 a0_4 bt510.1 bt510.2.1 bt510.2.2.1 bt510.2.2.2.1 bt510.2.2.2.2.1 bt519.1 bt519.2.1 bt519.2.2.1 bt519.2.2.2.1 bt519.2.2.2.2 bt527.1 bt527.2.1 bt527.2.2.1 bt527.2.2.2.1 bt527.2.2.2.2.1)))))) = some r := H
  have A8 := Aside0.mk A80
  clear A80
  replace H := Option.bind_eq_some_iff.mp H
  obtain ⟨⟨t510, t511, t512, t513, t516, t517⟩, A90, H⟩ := H
  replace H : ((laws_toHedge.f k a0_0 a0_1 a0_2 l0_3 a0_4).bind fun bt519 => ((impl_GrowHedge.f k bt519.1 bt519.2.1 bt519.2.2.1 bt519.2.2.2.1 bt519.2.2.2.2 a1).bind fun bt527 => ((laws_eqHedge.f k bt527.1 bt527.2.1 bt527.2.2.1 bt527.2.2.2.1 bt527.2.2.2.2.1 t510 t511 t512 t513 t516).bind fun t536 => (if t536 = true then (laws_FnExactGrowHedge.j0 k a1 t517 bt527.2.2.2.2.2 (bt527.2.2.2.2.2 != t517) a0_0 a0_1 a0_2 l0_3 a0_4 t510 t511 t512 t513 t516 bt519.1 bt519.2.1 bt519.2.2.1 bt519.2.2.2.1 bt519.2.2.2.2 bt527.1 bt527.2.1 bt527.2.2.1 bt527.2.2.2.1 bt527.2.2.2.2.1) else (laws_FnExactGrowHedge.j0 k a1 t517 bt527.2.2.2.2.2 true a0_0 a0_1 a0_2 l0_3 a0_4 t510 t511 t512 t513 t516 bt519.1 bt519.2.1 bt519.2.2.1 bt519.2.2.2.1 bt519.2.2.2.2 bt527.1 bt527.2.1 bt527.2.2.1 bt527.2.2.2.1 bt527.2.2.2.2.1))))) = some r := H
  have A9 := Aside0.mk A90
  clear A90
  replace H := Option.bind_eq_some_iff.mp H
  obtain ⟨⟨t519, t520, t521, t522, t525⟩, A100, H⟩ := H
  replace H : ((impl_GrowHedge.f k t519 t520 t521 t522 t525 a1).bind fun bt527 => ((laws_eqHedge.f k bt527.1 bt527.2.1 bt527.2.2.1 bt527.2.2.2.1 bt527.2.2.2.2.1 t510 t511 t512 t513 t516).bind fun t536 => (if t536 = true then (laws_FnExactGrowHedge.j0 k a1 t517 bt527.2.2.2.2.2 (bt527.2.2.2.2.2 != t517) a0_0 a0_1 a0_2 l0_3 a0_4 t510 t511 t512 t513 t516 t519 t520 t521 t522 t525 bt527.1 bt527.2.1 bt527.2.2.1 bt527.2.2.2.1 bt527.2.2.2.2.1) else (laws_FnExactGrowHedge.j0 k a1 t517 bt527.2.2.2.2.2 true a0_0 a0_1 a0_2 l0_3 a0_4 t510 t511 t512 t513 t516 t519 t520 t521 t522 t525 bt527.1 bt527.2.1 bt527.2.2.1 bt527.2.2.2.1 bt527.2.2.2.2.1)))) = some r := H
  have A10 := Aside0.mk A100
  clear A100
  replace H := Option.bind_eq_some_iff.mp H
  obtain ⟨⟨t527, t528, t529, t530, t533, t534⟩, A110, H⟩ := H
  replace H : ((laws_eqHedge.f k t527 t528 t529 t530 t533 t510 t511 t512 t513 t516).bind fun t536 => (if t536 = true then (laws_FnExactGrowHedge.j0 k a1 t517 t534 (t534 != t517) a0_0 a0_1 a0_2 l0_3 a0_4 t510 t511 t512 t513 t516 t519 t520 t521 t522 t525 t527 t528 t529 t530 t533) else (laws_FnExactGrowHedge.j0 k a1 t517 t534 true a0_0 a0_1 a0_2 l0_3 a0_4 t510 t511 t512 t513 t516 t519 t520 t521 t522 t525 t527 t528 t529 t530 t533))) = some r := H
  have A11 := Aside0.mk A110
  clear A110
  have HC12 := Aside0.mk H
  clear H
  go_enter Try.func8, Try.ntmps8
  go_upto_region 8 with (first | ((with_reducible refine gate_dst (N := 2) rfl ?_); refine box_event ?hg (N := 2) ?hd (cs := #[.int .i64 a0_0, .int .i64 a0_1, .int .i64 a0_2, .slice A0_3 l0_3.length c0_3, .int .i64 a0_4]) (t := 28) ?hr ?_; (case hd => rfl); (case hg => rfl); (case hr => first | (go_simp; done) | (go_simp; rfl)); intro gb501 hg w13 hbox hb; have n0_ := Aside0.mk (below_step (hb0_ HB.out) hb); have n1_ := Aside0.mk (hbox); have n2_ := Aside0.mk (gs_ hg (hb0_ HB.out)); have n3_ := Aside0.mk (gs_ hg (hb0_ HB.out)); clear HB; have HB := n0_; have BK501 := n1_; have GW501 := n2_; have GE501 := n3_; clear n0_ n1_ n2_ n3_; clear hb hbox hg; obtain ⟨hcz14_0, hcz14_1, hcz14_2, hcz14_3, hcz14_4⟩ := cz5_ BK501.out; obtain ⟨hfz14_0, hfz14_1, hfz14_2, hfz14_3, hfz14_4⟩ := fz5_ BK501.out) | ((with_reducible refine gate_callee (f := 15) rfl ?_); refine goesL_ (some 18) rfl rfl Try.func15 (by kernel_rfl) rfl #[.agg #[.int .i64 a0_0, .int .i64 a0_1, .int .i64 a0_2, .slice A0_3 l0_3.length c0_3, .int .i64 a0_4], .int .i64 1048576] rfl (ml_) ?_; (with_reducible refine (laws_szHedge.calls a0_0 a0_1 a0_2 _ _ l0_3 a0_4 1048576 t502 _ ?side1 ?side2 A3.out).mono ?_); (case side1 => repeat (first | exact (Kd.C_below HR0_3.out HB.out) | (with_reducible refine Kd.C_alloc ?_ _) | (with_reducible refine Kd.C_drewN ?_ _) | (with_reducible refine Kd.C_drew ?_))); (case side2 => exact HC0_3.out); rintro e w15 ⟨rfl, hb⟩; refine ⟨_, rfl, ?_⟩; replace BK501 := Aside0.mk (bb_ BK501.out hb); replace HB := Aside0.mk (below_step (hb1_ HB.out GE501.out) hb); (try clear hb); (try clear hb2); (try clear hk); (try clear hi); obtain ⟨hcz16_0, hcz16_1, hcz16_2, hcz16_3, hcz16_4⟩ := cz5_ BK501.out; obtain ⟨hfz16_0, hfz16_1, hfz16_2, hfz16_3, hfz16_4⟩ := fz5_ BK501.out) | ((with_reducible refine gate_callee (f := 17) rfl ?_); refine goesL_ (some 23) rfl rfl Try.func17 (by kernel_rfl) rfl #[.agg #[.int .i64 a0_0, .int .i64 a0_1, .int .i64 a0_2, .slice A0_3 l0_3.length c0_3, .int .i64 a0_4]] rfl (ml_) ?_; (with_reducible refine (laws_toHedge.calls k a0_0 a0_1 a0_2 _ _ l0_3 a0_4 t503 t504 t505 t506 t509 _ ?side1 ?side2 A8.out).mono ?_); (case side1 => repeat (first | exact (Kd.C_below HR0_3.out HB.out) | (with_reducible refine Kd.C_alloc ?_ _) | (with_reducible refine Kd.C_drewN ?_ _) | (with_reducible refine Kd.C_drew ?_))); (case side2 => exact HC0_3.out); rintro e w17 ⟨v507, rfl, ho0, hb⟩; refine ⟨_, rfl, ?_⟩; have HO508 := Aside0.mk (Kd.R_lower ho0 (below_size (hb1_ HB.out GE501.out))); replace BK501 := Aside0.mk (bb_ BK501.out hb); replace HB := Aside0.mk (below_step (hb1_ HB.out GE501.out) hb); (try clear hb); (try clear hb2); (try clear hk); (try clear hi); (try clear ho0); obtain ⟨Ao18, co18, eo18⟩ := Kd.R_slice HO508.out; subst eo18) | ((with_reducible refine gate_callee (f := 38) rfl ?_); refine goesL_ (some 25) rfl rfl Try.func38 (by kernel_rfl) rfl #[.agg #[.int .i64 t503, .int .i64 t504, .int .i64 t505, .slice Ao18 t506.length co18, .int .i64 t509], .int .i64 a1] rfl (ml_) ?_; (with_reducible refine (spec_GrowHedge.calls k t503 t504 t505 _ _ t506 t509 a1 t510 t511 t512 t513 t516 t517 _ ?side1 ?side2 A9.out).mono ?_); (case side1 => repeat (first | exact (Kd.R_reads' HO508.out).2.2 | (with_reducible refine Kd.C_alloc ?_ _) | (with_reducible refine Kd.C_drewN ?_ _) | (with_reducible refine Kd.C_drew ?_))); (case side2 => exact (Kd.R_reads' HO508.out).2.1); rintro e w19 ⟨v514, rfl, ho0, hb⟩; refine ⟨_, rfl, ?_⟩; have n0_ := Aside0.mk (Kd.R_elder' (kr_ HO508.out) (Kd.R_base ho0) hb); have n1_ := Aside0.mk (Kd.R_lower (Kd.R_new' ho0 (Kd.R_lt (kr_ HO508.out))) (below_size (hb1_ HB.out GE501.out))); have n2_ := Aside0.mk (bb_ BK501.out hb); have n3_ := Aside0.mk (below_step (hb1_ HB.out GE501.out) hb); clear HO508; clear BK501; clear HB; have HO508 := n0_; have HO515 := n1_; have BK501 := n2_; have HB := n3_; clear n0_ n1_ n2_ n3_; (try clear hb); (try clear hb2); (try clear hk); (try clear hi); (try clear ho0)) | ((with_reducible refine gate_dst (N := 6) rfl ?_); refine box_event ?hg (N := 6) ?hd (cs := #[.int .i64 0, .int .i64 0, .int .i64 0, .slice none 0 0, .int .i64 0]) (t := 35) ?hr ?_; (case hd => rfl); (case hg => rfl); (case hr => first | (go_simp; done) | (go_simp; rfl)); intro gb518 hg w20 hbox hb; have n0_ := Aside0.mk (Kd.R_below (kr_ HO508.out) hb); have n1_ := Aside0.mk (Kd.R_below (kr_ HO515.out) hb); have n2_ := Aside0.mk (bb_ BK501.out hb); have n3_ := Aside0.mk (below_step (hb1_ HB.out GE501.out) hb); have n4_ := Aside0.mk (hbox); have n5_ := Aside0.mk (gs_ hg (hb1_ HB.out GE501.out)); have n6_ := Aside0.mk (gs_ hg (hb1_ HB.out GE501.out)); have n7_ := Aside0.mk (nl_ hg BK501.out); have n8_ := Aside0.mk (nr_ hg BK501.out); clear HO508; clear HO515; clear BK501; clear HB; have HO508 := n0_; have HO515 := n1_; have BK501 := n2_; have HB := n3_; have BK518 := n4_; have GW518 := n5_; have GE518 := n6_; have NB501_518 := n7_; have NB518_501 := n8_; clear n0_ n1_ n2_ n3_ n4_ n5_ n6_ n7_ n8_; clear hb hbox hg; have hnb21 := NB518_501.out; have hnc21 := NB501_518.out; obtain ⟨hcz22_0, hcz22_1, hcz22_2, hcz22_3, hcz22_4⟩ := cz5_ BK518.out; obtain ⟨hfz22_0, hfz22_1, hfz22_2, hfz22_3, hfz22_4⟩ := fz5_ BK518.out; obtain ⟨Ao23, co23, eo23⟩ := Kd.R_slice HO515.out; subst eo23; obtain ⟨hcz24_0, hcz24_1, hcz24_2, hcz24_3, hcz24_4⟩ := cz5_ BK501.out; obtain ⟨hfz24_0, hfz24_1, hfz24_2, hfz24_3, hfz24_4⟩ := fz5_ BK501.out) | ((with_reducible refine gate_callee (f := 17) rfl ?_); refine goesL_ (some 29) rfl rfl Try.func17 (by kernel_rfl) rfl #[.agg #[.int .i64 a0_0, .int .i64 a0_1, .int .i64 a0_2, .slice A0_3 l0_3.length c0_3, .int .i64 a0_4]] rfl (ml_) ?_; (with_reducible refine (laws_toHedge.calls k a0_0 a0_1 a0_2 _ _ l0_3 a0_4 t519 t520 t521 t522 t525 _ ?side1 ?side2 A10.out).mono ?_); (case side1 => exact Kd.C_below HR0_3.out (hb2_ HB.out GE501.out GE518.out)); (case side2 => exact HC0_3.out); rintro e w25 ⟨v523, rfl, ho0, hb⟩; refine ⟨_, rfl, ?_⟩; have n0_ := Aside0.mk (Kd.R_elder' (by (with_reducible repeat (first | apply Kd.R_alloc | apply Kd.R_drewN | apply Kd.R_drew)); exact (Kd.R_mono (Kd.R_far (p := ⟨gb518, 4, none⟩) (Kd.R_far (p := ⟨gb518, 3, none⟩) (Kd.R_far (p := ⟨gb518, 2, none⟩) (Kd.R_far (p := ⟨gb518, 1, none⟩) (Kd.R_far (p := ⟨gb518, 0, none⟩) (Kd.R_types HO508.out BK518.out (by decide)) (fun _ hk => hk.2) (.int .i64 t510)) (fun _ hk => hk.2) (.int .i64 t511)) (fun _ hk => hk.2) (.int .i64 t512)) (fun _ hk => hk.2) (.slice Ao23 t513.length co23)) (fun _ hk => hk.2) (.int .i64 t516)) (fun _ h_ => h_.1))) (Kd.R_base ho0) hb); have n1_ := Aside0.mk (Kd.R_elder' (by (with_reducible repeat (first | apply Kd.R_alloc | apply Kd.R_drewN | apply Kd.R_drew)); exact (Kd.R_mono (Kd.R_far (p := ⟨gb518, 4, none⟩) (Kd.R_far (p := ⟨gb518, 3, none⟩) (Kd.R_far (p := ⟨gb518, 2, none⟩) (Kd.R_far (p := ⟨gb518, 1, none⟩) (Kd.R_far (p := ⟨gb518, 0, none⟩) (Kd.R_types HO515.out BK518.out (by decide)) (fun _ hk => hk.2) (.int .i64 t510)) (fun _ hk => hk.2) (.int .i64 t511)) (fun _ hk => hk.2) (.int .i64 t512)) (fun _ hk => hk.2) (.slice Ao23 t513.length co23)) (fun _ hk => hk.2) (.int .i64 t516)) (fun _ h_ => h_.1))) (Kd.R_base ho0) hb); have n2_ := Aside0.mk (Kd.R_lower (Kd.R_new' (Kd.R_new' ho0 (Kd.R_lt (by (with_reducible repeat (first | apply Kd.R_alloc | apply Kd.R_drewN | apply Kd.R_drew)); exact (Kd.R_mono (Kd.R_far (p := ⟨gb518, 4, none⟩) (Kd.R_far (p := ⟨gb518, 3, none⟩) (Kd.R_far (p := ⟨gb518, 2, none⟩) (Kd.R_far (p := ⟨gb518, 1, none⟩) (Kd.R_far (p := ⟨gb518, 0, none⟩) (Kd.R_types HO508.out BK518.out (by decide)) (fun _ hk => hk.2) (.int .i64 t510)) (fun _ hk => hk.2) (.int .i64 t511)) (fun _ hk => hk.2) (.int .i64 t512)) (fun _ hk => hk.2) (.slice Ao23 t513.length co23)) (fun _ hk => hk.2) (.int .i64 t516)) (fun _ h_ => h_.1))))) (Kd.R_lt (by (with_reducible repeat (first | apply Kd.R_alloc | apply Kd.R_drewN | apply Kd.R_drew)); exact (Kd.R_mono (Kd.R_far (p := ⟨gb518, 4, none⟩) (Kd.R_far (p := ⟨gb518, 3, none⟩) (Kd.R_far (p := ⟨gb518, 2, none⟩) (Kd.R_far (p := ⟨gb518, 1, none⟩) (Kd.R_far (p := ⟨gb518, 0, none⟩) (Kd.R_types HO515.out BK518.out (by decide)) (fun _ hk => hk.2) (.int .i64 t510)) (fun _ hk => hk.2) (.int .i64 t511)) (fun _ hk => hk.2) (.int .i64 t512)) (fun _ hk => hk.2) (.slice Ao23 t513.length co23)) (fun _ hk => hk.2) (.int .i64 t516)) (fun _ h_ => h_.1))))) (below_size (hb2_ HB.out GE501.out GE518.out))); have n3_ := Aside0.mk (blk_below (g := gb501) (o := .cells #[.int .i64 a0_0, .int .i64 a0_1, .int .i64 a0_2, .slice A0_3 l0_3.length c0_3, .int .i64 a0_4] 28 (0, 0)) (by (with_reducible repeat (first | refine blk_drewN ?_ _ | refine blk_drew ?_ | refine blk_alloc ?_ _)); refine blk_far ?_ NB501_518.out _; (with_reducible repeat (first | refine blk_drewN ?_ _ | refine blk_drew ?_ | refine blk_alloc ?_ _)); refine blk_far ?_ NB501_518.out _; (with_reducible repeat (first | refine blk_drewN ?_ _ | refine blk_drew ?_ | refine blk_alloc ?_ _)); refine blk_far ?_ NB501_518.out _; (with_reducible repeat (first | refine blk_drewN ?_ _ | refine blk_drew ?_ | refine blk_alloc ?_ _)); refine blk_far ?_ NB501_518.out _; (with_reducible repeat (first | refine blk_drewN ?_ _ | refine blk_drew ?_ | refine blk_alloc ?_ _)); refine blk_far ?_ NB501_518.out _; (with_reducible repeat (first | refine blk_drewN ?_ _ | refine blk_drew ?_ | refine blk_alloc ?_ _)); exact BK501.out) hb); have n4_ := Aside0.mk (blk_below (g := gb518) (o := .cells #[.int .i64 t510, .int .i64 t511, .int .i64 t512, .slice Ao23 t513.length co23, .int .i64 t516] 35 (0, 0)) (by (with_reducible repeat (first | refine blk_drewN ?_ _ | refine blk_drew ?_ | refine blk_alloc ?_ _)); refine blk_put (cs := #[.int .i64 t510, .int .i64 t511, .int .i64 t512, .slice Ao23 t513.length co23, .int .i64 0]) ?_ 4 _ rfl; (with_reducible repeat (first | refine blk_drewN ?_ _ | refine blk_drew ?_ | refine blk_alloc ?_ _)); refine blk_put (cs := #[.int .i64 t510, .int .i64 t511, .int .i64 t512, .slice none 0 0, .int .i64 0]) ?_ 3 _ rfl; (with_reducible repeat (first | refine blk_drewN ?_ _ | refine blk_drew ?_ | refine blk_alloc ?_ _)); refine blk_put (cs := #[.int .i64 t510, .int .i64 t511, .int .i64 0, .slice none 0 0, .int .i64 0]) ?_ 2 _ rfl; (with_reducible repeat (first | refine blk_drewN ?_ _ | refine blk_drew ?_ | refine blk_alloc ?_ _)); refine blk_put (cs := #[.int .i64 t510, .int .i64 0, .int .i64 0, .slice none 0 0, .int .i64 0]) ?_ 1 _ rfl; (with_reducible repeat (first | refine blk_drewN ?_ _ | refine blk_drew ?_ | refine blk_alloc ?_ _)); refine blk_put (cs := #[.int .i64 0, .int .i64 0, .int .i64 0, .slice none 0 0, .int .i64 0]) ?_ 0 _ rfl; (with_reducible repeat (first | refine blk_drewN ?_ _ | refine blk_drew ?_ | refine blk_alloc ?_ _)); exact BK518.out) hb); have n5_ := Aside0.mk (below_step (hb2_ HB.out GE501.out GE518.out) hb); clear HO508; clear HO515; clear BK501; clear BK518; clear HB; have HO508 := n0_; have HO515 := n1_; have HO524 := n2_; have BK501 := n3_; have BK518 := n4_; have HB := n5_; clear n0_ n1_ n2_ n3_ n4_ n5_; (try clear hb); (try clear hb2); (try clear hk); (try clear hi); (try clear ho0)) | ((with_reducible refine gate_dst (N := 8) rfl ?_); refine box_event ?hg (N := 8) ?hd (cs := #[.int .i64 0, .int .i64 0, .int .i64 0, .slice none 0 0, .int .i64 0]) (t := 35) ?hr ?_; (case hd => rfl); (case hg => rfl); (case hr => first | (go_simp; done) | (go_simp; rfl)); intro gb526 hg w26 hbox hb; have n0_ := Aside0.mk (Kd.R_below (kr_ HO508.out) hb); have n1_ := Aside0.mk (Kd.R_below (kr_ HO515.out) hb); have n2_ := Aside0.mk (Kd.R_below (kr_ HO524.out) hb); have n3_ := Aside0.mk (bb_ BK501.out hb); have n4_ := Aside0.mk (bb_ BK518.out hb); have n5_ := Aside0.mk (below_step (hb2_ HB.out GE501.out GE518.out) hb); have n6_ := Aside0.mk (hbox); have n7_ := Aside0.mk (gs_ hg (hb2_ HB.out GE501.out GE518.out)); have n8_ := Aside0.mk (gs_ hg (hb2_ HB.out GE501.out GE518.out)); have n9_ := Aside0.mk (nl_ hg BK501.out); have n10_ := Aside0.mk (nr_ hg BK501.out); have n11_ := Aside0.mk (nl_ hg BK518.out); have n12_ := Aside0.mk (nr_ hg BK518.out); clear HO508; clear HO515; clear HO524; clear BK501; clear BK518; clear HB; have HO508 := n0_; have HO515 := n1_; have HO524 := n2_; have BK501 := n3_; have BK518 := n4_; have HB := n5_; have BK526 := n6_; have GW526 := n7_; have GE526 := n8_; have NB501_526 := n9_; have NB526_501 := n10_; have NB518_526 := n11_; have NB526_518 := n12_; clear n0_ n1_ n2_ n3_ n4_ n5_ n6_ n7_ n8_ n9_ n10_ n11_ n12_; clear hb hbox hg; have hnb27 := NB526_501.out; have hnc27 := NB501_526.out; have hnb28 := NB526_518.out; have hnc28 := NB518_526.out; obtain ⟨hcz29_0, hcz29_1, hcz29_2, hcz29_3, hcz29_4⟩ := cz5_ BK526.out; obtain ⟨hfz29_0, hfz29_1, hfz29_2, hfz29_3, hfz29_4⟩ := fz5_ BK526.out; obtain ⟨Ao30, co30, eo30⟩ := Kd.R_slice HO524.out; subst eo30) | ((with_reducible refine gate_callee (f := 39) rfl ?_); refine goesL_ (some 33) rfl rfl Try.func39 (by kernel_rfl) rfl #[.agg #[.int .i64 t519, .int .i64 t520, .int .i64 t521, .slice Ao30 t522.length co30, .int .i64 t525], .int .i64 a1] rfl (ml_) ?_; (with_reducible refine (impl_GrowHedge.calls k t519 t520 t521 _ _ t522 t525 a1 t527 t528 t529 t530 t533 t534 _ ?side1 ?side2 A11.out).mono ?_); (case side1 => refine (Kd.R_reads' (e := 3) (base := w.heap.size) (ok := fun k_ => ((True ∧ some k_ ≠ (.slice Ao18 t506.length co18 : Value).ownBlock) ∧ some k_ ≠ (.slice Ao23 t513.length co23 : Value).ownBlock)) (n := t522.length) (c := co30) ?_).2.2; exact (by (with_reducible repeat (first | apply Kd.R_alloc | apply Kd.R_drewN | apply Kd.R_drew)); exact (Kd.R_mono (Kd.R_far (p := ⟨gb526, 4, none⟩) (Kd.R_far (p := ⟨gb526, 3, none⟩) (Kd.R_far (p := ⟨gb526, 2, none⟩) (Kd.R_far (p := ⟨gb526, 1, none⟩) (Kd.R_far (p := ⟨gb526, 0, none⟩) (Kd.R_types HO524.out BK526.out (by decide)) (fun _ hk => hk.2) (.int .i64 t519)) (fun _ hk => hk.2) (.int .i64 t520)) (fun _ hk => hk.2) (.int .i64 t521)) (fun _ hk => hk.2) (.slice Ao30 t522.length co30)) (fun _ hk => hk.2) (.int .i64 t525)) (fun _ h_ => h_.1)))); (case side2 => exact (Kd.R_reads' HO524.out).2.1); rintro e w31 ⟨v531, rfl, ho0, hb⟩; refine ⟨_, rfl, ?_⟩; have n0_ := Aside0.mk (Kd.R_elder' (by (with_reducible repeat (first | apply Kd.R_alloc | apply Kd.R_drewN | apply Kd.R_drew)); exact (Kd.R_mono (Kd.R_far (p := ⟨gb526, 4, none⟩) (Kd.R_far (p := ⟨gb526, 3, none⟩) (Kd.R_far (p := ⟨gb526, 2, none⟩) (Kd.R_far (p := ⟨gb526, 1, none⟩) (Kd.R_far (p := ⟨gb526, 0, none⟩) (Kd.R_types HO508.out BK526.out (by decide)) (fun _ hk => hk.2) (.int .i64 t519)) (fun _ hk => hk.2) (.int .i64 t520)) (fun _ hk => hk.2) (.int .i64 t521)) (fun _ hk => hk.2) (.slice Ao30 t522.length co30)) (fun _ hk => hk.2) (.int .i64 t525)) (fun _ h_ => h_.1))) (Kd.R_base ho0) hb); have n1_ := Aside0.mk (Kd.R_elder' (by (with_reducible repeat (first | apply Kd.R_alloc | apply Kd.R_drewN | apply Kd.R_drew)); exact (Kd.R_mono (Kd.R_far (p := ⟨gb526, 4, none⟩) (Kd.R_far (p := ⟨gb526, 3, none⟩) (Kd.R_far (p := ⟨gb526, 2, none⟩) (Kd.R_far (p := ⟨gb526, 1, none⟩) (Kd.R_far (p := ⟨gb526, 0, none⟩) (Kd.R_types HO515.out BK526.out (by decide)) (fun _ hk => hk.2) (.int .i64 t519)) (fun _ hk => hk.2) (.int .i64 t520)) (fun _ hk => hk.2) (.int .i64 t521)) (fun _ hk => hk.2) (.slice Ao30 t522.length co30)) (fun _ hk => hk.2) (.int .i64 t525)) (fun _ h_ => h_.1))) (Kd.R_base ho0) hb); have n2_ := Aside0.mk (Kd.R_elder' (by (with_reducible repeat (first | apply Kd.R_alloc | apply Kd.R_drewN | apply Kd.R_drew)); exact (Kd.R_mono (Kd.R_far (p := ⟨gb526, 4, none⟩) (Kd.R_far (p := ⟨gb526, 3, none⟩) (Kd.R_far (p := ⟨gb526, 2, none⟩) (Kd.R_far (p := ⟨gb526, 1, none⟩) (Kd.R_far (p := ⟨gb526, 0, none⟩) (Kd.R_types HO524.out BK526.out (by decide)) (fun _ hk => hk.2) (.int .i64 t519)) (fun _ hk => hk.2) (.int .i64 t520)) (fun _ hk => hk.2) (.int .i64 t521)) (fun _ hk => hk.2) (.slice Ao30 t522.length co30)) (fun _ hk => hk.2) (.int .i64 t525)) (fun _ h_ => h_.1))) (Kd.R_base ho0) hb); have n3_ := Aside0.mk (Kd.R_lower (Kd.R_new' (Kd.R_new' (Kd.R_new' ho0 (Kd.R_lt (by (with_reducible repeat (first | apply Kd.R_alloc | apply Kd.R_drewN | apply Kd.R_drew)); exact (Kd.R_mono (Kd.R_far (p := ⟨gb526, 4, none⟩) (Kd.R_far (p := ⟨gb526, 3, none⟩) (Kd.R_far (p := ⟨gb526, 2, none⟩) (Kd.R_far (p := ⟨gb526, 1, none⟩) (Kd.R_far (p := ⟨gb526, 0, none⟩) (Kd.R_types HO508.out BK526.out (by decide)) (fun _ hk => hk.2) (.int .i64 t519)) (fun _ hk => hk.2) (.int .i64 t520)) (fun _ hk => hk.2) (.int .i64 t521)) (fun _ hk => hk.2) (.slice Ao30 t522.length co30)) (fun _ hk => hk.2) (.int .i64 t525)) (fun _ h_ => h_.1))))) (Kd.R_lt (by (with_reducible repeat (first | apply Kd.R_alloc | apply Kd.R_drewN | apply Kd.R_drew)); exact (Kd.R_mono (Kd.R_far (p := ⟨gb526, 4, none⟩) (Kd.R_far (p := ⟨gb526, 3, none⟩) (Kd.R_far (p := ⟨gb526, 2, none⟩) (Kd.R_far (p := ⟨gb526, 1, none⟩) (Kd.R_far (p := ⟨gb526, 0, none⟩) (Kd.R_types HO515.out BK526.out (by decide)) (fun _ hk => hk.2) (.int .i64 t519)) (fun _ hk => hk.2) (.int .i64 t520)) (fun _ hk => hk.2) (.int .i64 t521)) (fun _ hk => hk.2) (.slice Ao30 t522.length co30)) (fun _ hk => hk.2) (.int .i64 t525)) (fun _ h_ => h_.1))))) (Kd.R_lt (by (with_reducible repeat (first | apply Kd.R_alloc | apply Kd.R_drewN | apply Kd.R_drew)); exact (Kd.R_mono (Kd.R_far (p := ⟨gb526, 4, none⟩) (Kd.R_far (p := ⟨gb526, 3, none⟩) (Kd.R_far (p := ⟨gb526, 2, none⟩) (Kd.R_far (p := ⟨gb526, 1, none⟩) (Kd.R_far (p := ⟨gb526, 0, none⟩) (Kd.R_types HO524.out BK526.out (by decide)) (fun _ hk => hk.2) (.int .i64 t519)) (fun _ hk => hk.2) (.int .i64 t520)) (fun _ hk => hk.2) (.int .i64 t521)) (fun _ hk => hk.2) (.slice Ao30 t522.length co30)) (fun _ hk => hk.2) (.int .i64 t525)) (fun _ h_ => h_.1))))) (below_size (hb3_ HB.out GE501.out GE518.out GE526.out))); have n4_ := Aside0.mk (blk_below (g := gb501) (o := .cells #[.int .i64 a0_0, .int .i64 a0_1, .int .i64 a0_2, .slice A0_3 l0_3.length c0_3, .int .i64 a0_4] 28 (0, 0)) (by (with_reducible repeat (first | refine blk_drewN ?_ _ | refine blk_drew ?_ | refine blk_alloc ?_ _)); refine blk_far ?_ NB501_526.out _; (with_reducible repeat (first | refine blk_drewN ?_ _ | refine blk_drew ?_ | refine blk_alloc ?_ _)); refine blk_far ?_ NB501_526.out _; (with_reducible repeat (first | refine blk_drewN ?_ _ | refine blk_drew ?_ | refine blk_alloc ?_ _)); refine blk_far ?_ NB501_526.out _; (with_reducible repeat (first | refine blk_drewN ?_ _ | refine blk_drew ?_ | refine blk_alloc ?_ _)); refine blk_far ?_ NB501_526.out _; (with_reducible repeat (first | refine blk_drewN ?_ _ | refine blk_drew ?_ | refine blk_alloc ?_ _)); refine blk_far ?_ NB501_526.out _; (with_reducible repeat (first | refine blk_drewN ?_ _ | refine blk_drew ?_ | refine blk_alloc ?_ _)); exact BK501.out) hb); have n5_ := Aside0.mk (blk_below (g := gb518) (o := .cells #[.int .i64 t510, .int .i64 t511, .int .i64 t512, .slice Ao23 t513.length co23, .int .i64 t516] 35 (0, 0)) (by (with_reducible repeat (first | refine blk_drewN ?_ _ | refine blk_drew ?_ | refine blk_alloc ?_ _)); refine blk_far ?_ NB518_526.out _; (with_reducible repeat (first | refine blk_drewN ?_ _ | refine blk_drew ?_ | refine blk_alloc ?_ _)); refine blk_far ?_ NB518_526.out _; (with_reducible repeat (first | refine blk_drewN ?_ _ | refine blk_drew ?_ | refine blk_alloc ?_ _)); refine blk_far ?_ NB518_526.out _; (with_reducible repeat (first | refine blk_drewN ?_ _ | refine blk_drew ?_ | refine blk_alloc ?_ _)); refine blk_far ?_ NB518_526.out _; (with_reducible repeat (first | refine blk_drewN ?_ _ | refine blk_drew ?_ | refine blk_alloc ?_ _)); refine blk_far ?_ NB518_526.out _; (with_reducible repeat (first | refine blk_drewN ?_ _ | refine blk_drew ?_ | refine blk_alloc ?_ _)); exact BK518.out) hb); have n6_ := Aside0.mk (blk_below (g := gb526) (o := .cells #[.int .i64 t519, .int .i64 t520, .int .i64 t521, .slice Ao30 t522.length co30, .int .i64 t525] 35 (0, 0)) (by (with_reducible repeat (first | refine blk_drewN ?_ _ | refine blk_drew ?_ | refine blk_alloc ?_ _)); refine blk_put (cs := #[.int .i64 t519, .int .i64 t520, .int .i64 t521, .slice Ao30 t522.length co30, .int .i64 0]) ?_ 4 _ rfl; (with_reducible repeat (first | refine blk_drewN ?_ _ | refine blk_drew ?_ | refine blk_alloc ?_ _)); refine blk_put (cs := #[.int .i64 t519, .int .i64 t520, .int .i64 t521, .slice none 0 0, .int .i64 0]) ?_ 3 _ rfl; (with_reducible repeat (first | refine blk_drewN ?_ _ | refine blk_drew ?_ | refine blk_alloc ?_ _)); refine blk_put (cs := #[.int .i64 t519, .int .i64 t520, .int .i64 0, .slice none 0 0, .int .i64 0]) ?_ 2 _ rfl; (with_reducible repeat (first | refine blk_drewN ?_ _ | refine blk_drew ?_ | refine blk_alloc ?_ _)); refine blk_put (cs := #[.int .i64 t519, .int .i64 0, .int .i64 0, .slice none 0 0, .int .i64 0]) ?_ 1 _ rfl; (with_reducible repeat (first | refine blk_drewN ?_ _ | refine blk_drew ?_ | refine blk_alloc ?_ _)); refine blk_put (cs := #[.int .i64 0, .int .i64 0, .int .i64 0, .slice none 0 0, .int .i64 0]) ?_ 0 _ rfl; (with_reducible repeat (first | refine blk_drewN ?_ _ | refine blk_drew ?_ | refine blk_alloc ?_ _)); exact BK526.out) hb); have n7_ := Aside0.mk (below_step (hb3_ HB.out GE501.out GE518.out GE526.out) hb); clear HO508; clear HO515; clear HO524; clear BK501; clear BK518; clear BK526; clear HB; have HO508 := n0_; have HO515 := n1_; have HO524 := n2_; have HO532 := n3_; have BK501 := n4_; have BK518 := n5_; have BK526 := n6_; have HB := n7_; clear n0_ n1_ n2_ n3_ n4_ n5_ n6_ n7_; (try clear hb); (try clear hb2); (try clear hk); (try clear hi); (try clear ho0)) | ((with_reducible refine gate_dst (N := 9) rfl ?_); refine box_event ?hg (N := 9) ?hd (cs := #[.int .i64 0, .int .i64 0, .int .i64 0, .slice none 0 0, .int .i64 0]) (t := 35) ?hr ?_; (case hd => rfl); (case hg => rfl); (case hr => first | (go_simp; done) | (go_simp; rfl)); intro gb535 hg w32 hbox hb; have n0_ := Aside0.mk (Kd.R_below (kr_ HO508.out) hb); have n1_ := Aside0.mk (Kd.R_below (kr_ HO515.out) hb); have n2_ := Aside0.mk (Kd.R_below (kr_ HO524.out) hb); have n3_ := Aside0.mk (Kd.R_below (kr_ HO532.out) hb); have n4_ := Aside0.mk (bb_ BK501.out hb); have n5_ := Aside0.mk (bb_ BK518.out hb); have n6_ := Aside0.mk (bb_ BK526.out hb); have n7_ := Aside0.mk (below_step (hb3_ HB.out GE501.out GE518.out GE526.out) hb); have n8_ := Aside0.mk (hbox); have n9_ := Aside0.mk (gs_ hg (hb3_ HB.out GE501.out GE518.out GE526.out)); have n10_ := Aside0.mk (gs_ hg (hb3_ HB.out GE501.out GE518.out GE526.out)); have n11_ := Aside0.mk (nl_ hg BK501.out); have n12_ := Aside0.mk (nr_ hg BK501.out); have n13_ := Aside0.mk (nl_ hg BK518.out); have n14_ := Aside0.mk (nr_ hg BK518.out); have n15_ := Aside0.mk (nl_ hg BK526.out); have n16_ := Aside0.mk (nr_ hg BK526.out); clear HO508; clear HO515; clear HO524; clear HO532; clear BK501; clear BK518; clear BK526; clear HB; have HO508 := n0_; have HO515 := n1_; have HO524 := n2_; have HO532 := n3_; have BK501 := n4_; have BK518 := n5_; have BK526 := n6_; have HB := n7_; have BK535 := n8_; have GW535 := n9_; have GE535 := n10_; have NB501_535 := n11_; have NB535_501 := n12_; have NB518_535 := n13_; have NB535_518 := n14_; have NB526_535 := n15_; have NB535_526 := n16_; clear n0_ n1_ n2_ n3_ n4_ n5_ n6_ n7_ n8_ n9_ n10_ n11_ n12_ n13_ n14_ n15_ n16_; clear hb hbox hg; have hnb33 := NB535_501.out; have hnc33 := NB501_535.out; have hnb34 := NB535_518.out; have hnc34 := NB518_535.out; have hnb35 := NB535_526.out; have hnc35 := NB526_535.out; obtain ⟨hcz36_0, hcz36_1, hcz36_2, hcz36_3, hcz36_4⟩ := cz5_ BK535.out; obtain ⟨hfz36_0, hfz36_1, hfz36_2, hfz36_3, hfz36_4⟩ := fz5_ BK535.out; obtain ⟨Ao37, co37, eo37⟩ := Kd.R_slice HO532.out; subst eo37))
  (try simp only [Act.put, List.setIfInBounds_toArray, List.set_cons_zero, List.set_cons_succ])
  go_cut [44] (fun v44 wc => ∃ (kq : Nat) (x44_11 : Bool), v44 = .bool x44_11 ∧ Aside0 (laws_FnExactGrowHedge.j0 kq a1 t517 t534 x44_11 a0_0 a0_1 a0_2 l0_3 a0_4 t510 t511 t512 t513 t516 t519 t520 t521 t522 t525 t527 t528 t529 t530 t533 = some r) ∧ Aside0 (kq ≤ k) ∧ Aside0 (Kd.R (Kd.int .i64) 3 wc w.heap.size (fun k_ => some k_ ≠ ((.slice Ao30 t522.length co30) : Value).ownBlock ∧ some k_ ≠ ((.slice Ao37 t530.length co37) : Value).ownBlock) (.slice Ao23 t513.length co23) t513) ∧ Aside0 (Kd.R (Kd.int .i64) 3 wc w.heap.size (fun k_ => some k_ ≠ ((.slice Ao23 t513.length co23) : Value).ownBlock ∧ some k_ ≠ ((.slice Ao37 t530.length co37) : Value).ownBlock) (.slice Ao30 t522.length co30) t522) ∧ Aside0 (Kd.R (Kd.int .i64) 3 wc w.heap.size (fun k_ => some k_ ≠ ((.slice Ao23 t513.length co23) : Value).ownBlock ∧ some k_ ≠ ((.slice Ao30 t522.length co30) : Value).ownBlock) (.slice Ao37 t530.length co37) t530) ∧ Aside0 (wc.heap[gb501]? = some (.cells #[.int .i64 a0_0, .int .i64 a0_1, .int .i64 a0_2, (.slice A0_3 l0_3.length c0_3), .int .i64 a0_4] 28 (0, 0))) ∧ Aside0 (wc.heap[gb518]? = some (.cells #[.int .i64 t510, .int .i64 t511, .int .i64 t512, (.slice Ao23 t513.length co23), .int .i64 t516] 35 (0, 0))) ∧ Aside0 (wc.heap[gb526]? = some (.cells #[.int .i64 t519, .int .i64 t520, .int .i64 t521, (.slice Ao30 t522.length co30), .int .i64 t525] 35 (0, 0))) ∧ Aside0 (wc.heap[gb535]? = some (.cells #[.int .i64 t527, .int .i64 t528, .int .i64 t529, (.slice Ao37 t530.length co37), .int .i64 t533] 35 (0, 0))) ∧ Aside0 (Below w.heap.size w wc))
  case first =>
   have H := HC12.out
   clear HC12
   replace H := Option.bind_eq_some_iff.mp H
   obtain ⟨t536, A380, H⟩ := H
   replace H : (if t536 = true then (laws_FnExactGrowHedge.j0 k a1 t517 t534 (t534 != t517) a0_0 a0_1 a0_2 l0_3 a0_4 t510 t511 t512 t513 t516 t519 t520 t521 t522 t525 t527 t528 t529 t530 t533) else (laws_FnExactGrowHedge.j0 k a1 t517 t534 true a0_0 a0_1 a0_2 l0_3 a0_4 t510 t511 t512 t513 t516 t519 t520 t521 t522 t525 t527 t528 t529 t530 t533)) = some r := H
   have A38 := Aside0.mk A380
   clear A380
   by_cases c39 : t536 = true
   ·subst c39
    have H1 : (laws_FnExactGrowHedge.j0 k a1 t517 t534 (t534 != t517) a0_0 a0_1 a0_2 l0_3 a0_4 t510 t511 t512 t513 t516 t519 t520 t521 t522 t525 t527 t528 t529 t530 t533) = some r := by rw [if_pos rfl] at H; exact H
    clear H
    have H := H1
    clear H1
    have H' := Aside0.mk H
    clear H
    have hnb40 := NB535_501.out
    have hnc40 := NB501_535.out
    have hnb41 := NB535_518.out
    have hnc41 := NB518_535.out
    have hnb42 := NB535_526.out
    have hnc42 := NB526_535.out
    obtain ⟨hcz43_0, hcz43_1, hcz43_2, hcz43_3, hcz43_4⟩ := cz5_ BK535.out
    obtain ⟨hfz43_0, hfz43_1, hfz43_2, hfz43_3, hfz43_4⟩ := fz5_ BK535.out
    have hnb44 := NB518_501.out
    have hnc44 := NB501_518.out
    have hnb45 := NB518_526.out
    have hnc45 := NB526_518.out
    obtain ⟨hcz46_0, hcz46_1, hcz46_2, hcz46_3, hcz46_4⟩ := cz5_ BK518.out
    obtain ⟨hfz46_0, hfz46_1, hfz46_2, hfz46_3, hfz46_4⟩ := fz5_ BK518.out
    go_wp2_with (first | ((with_reducible refine gate_callee (f := 19) rfl ?_); refine goesL_ (some 38) rfl rfl Try.func19 (by kernel_rfl) rfl #[.agg #[.int .i64 t527, .int .i64 t528, .int .i64 t529, .slice Ao37 t530.length co37, .int .i64 t533], .agg #[.int .i64 t510, .int .i64 t511, .int .i64 t512, .slice Ao23 t513.length co23, .int .i64 t516]] rfl (ml_) ?_; (with_reducible refine (laws_eqHedge.calls k t527 t528 t529 _ _ t530 t533 t510 t511 t512 _ _ t513 t516 true _ ?side1 ?side2 ?side3 ?side4 A38.out).mono ?_); (case side1 => refine (Kd.R_reads' (e := 3) (base := w.heap.size) (ok := fun k_ => (((True ∧ some k_ ≠ (.slice Ao18 t506.length co18 : Value).ownBlock) ∧ some k_ ≠ (.slice Ao23 t513.length co23 : Value).ownBlock) ∧ some k_ ≠ (.slice Ao30 t522.length co30 : Value).ownBlock)) (n := t530.length) (c := co37) ?_).2.2; exact (by (with_reducible repeat (first | apply Kd.R_alloc | apply Kd.R_drewN | apply Kd.R_drew)); exact (Kd.R_mono (Kd.R_far (p := ⟨gb535, 4, none⟩) (Kd.R_far (p := ⟨gb535, 3, none⟩) (Kd.R_far (p := ⟨gb535, 2, none⟩) (Kd.R_far (p := ⟨gb535, 1, none⟩) (Kd.R_far (p := ⟨gb535, 0, none⟩) (Kd.R_types HO532.out BK535.out (by decide)) (fun _ hk => hk.2) (.int .i64 t527)) (fun _ hk => hk.2) (.int .i64 t528)) (fun _ hk => hk.2) (.int .i64 t529)) (fun _ hk => hk.2) (.slice Ao37 t530.length co37)) (fun _ hk => hk.2) (.int .i64 t533)) (fun _ h_ => h_.1)))); (case side2 => exact (Kd.R_reads' HO532.out).2.1); (case side3 => refine (Kd.R_reads' (e := 3) (base := w.heap.size) (ok := fun k_ => (((True ∧ some k_ ≠ (.slice Ao18 t506.length co18 : Value).ownBlock) ∧ some k_ ≠ (.slice Ao30 t522.length co30 : Value).ownBlock) ∧ some k_ ≠ (.slice Ao37 t530.length co37 : Value).ownBlock)) (n := t513.length) (c := co23) ?_).2.2; exact (by (with_reducible repeat (first | apply Kd.R_alloc | apply Kd.R_drewN | apply Kd.R_drew)); exact (Kd.R_mono (Kd.R_far (p := ⟨gb535, 4, none⟩) (Kd.R_far (p := ⟨gb535, 3, none⟩) (Kd.R_far (p := ⟨gb535, 2, none⟩) (Kd.R_far (p := ⟨gb535, 1, none⟩) (Kd.R_far (p := ⟨gb535, 0, none⟩) (Kd.R_types HO515.out BK535.out (by decide)) (fun _ hk => hk.2) (.int .i64 t527)) (fun _ hk => hk.2) (.int .i64 t528)) (fun _ hk => hk.2) (.int .i64 t529)) (fun _ hk => hk.2) (.slice Ao37 t530.length co37)) (fun _ hk => hk.2) (.int .i64 t533)) (fun _ h_ => h_.1)))); (case side4 => exact (Kd.R_reads' HO515.out).2.1); rintro e w47 ⟨rfl, hb⟩; refine ⟨_, rfl, ?_⟩; replace HO508 := Aside0.mk (Kd.R_below (by (with_reducible repeat (first | apply Kd.R_alloc | apply Kd.R_drewN | apply Kd.R_drew)); exact (Kd.R_mono (Kd.R_far (p := ⟨gb535, 4, none⟩) (Kd.R_far (p := ⟨gb535, 3, none⟩) (Kd.R_far (p := ⟨gb535, 2, none⟩) (Kd.R_far (p := ⟨gb535, 1, none⟩) (Kd.R_far (p := ⟨gb535, 0, none⟩) (Kd.R_types HO508.out BK535.out (by decide)) (fun _ hk => hk.2) (.int .i64 t527)) (fun _ hk => hk.2) (.int .i64 t528)) (fun _ hk => hk.2) (.int .i64 t529)) (fun _ hk => hk.2) (.slice Ao37 t530.length co37)) (fun _ hk => hk.2) (.int .i64 t533)) (fun _ h_ => h_.1))) hb); replace HO515 := Aside0.mk (Kd.R_below (by (with_reducible repeat (first | apply Kd.R_alloc | apply Kd.R_drewN | apply Kd.R_drew)); exact (Kd.R_mono (Kd.R_far (p := ⟨gb535, 4, none⟩) (Kd.R_far (p := ⟨gb535, 3, none⟩) (Kd.R_far (p := ⟨gb535, 2, none⟩) (Kd.R_far (p := ⟨gb535, 1, none⟩) (Kd.R_far (p := ⟨gb535, 0, none⟩) (Kd.R_types HO515.out BK535.out (by decide)) (fun _ hk => hk.2) (.int .i64 t527)) (fun _ hk => hk.2) (.int .i64 t528)) (fun _ hk => hk.2) (.int .i64 t529)) (fun _ hk => hk.2) (.slice Ao37 t530.length co37)) (fun _ hk => hk.2) (.int .i64 t533)) (fun _ h_ => h_.1))) hb); replace HO524 := Aside0.mk (Kd.R_below (by (with_reducible repeat (first | apply Kd.R_alloc | apply Kd.R_drewN | apply Kd.R_drew)); exact (Kd.R_mono (Kd.R_far (p := ⟨gb535, 4, none⟩) (Kd.R_far (p := ⟨gb535, 3, none⟩) (Kd.R_far (p := ⟨gb535, 2, none⟩) (Kd.R_far (p := ⟨gb535, 1, none⟩) (Kd.R_far (p := ⟨gb535, 0, none⟩) (Kd.R_types HO524.out BK535.out (by decide)) (fun _ hk => hk.2) (.int .i64 t527)) (fun _ hk => hk.2) (.int .i64 t528)) (fun _ hk => hk.2) (.int .i64 t529)) (fun _ hk => hk.2) (.slice Ao37 t530.length co37)) (fun _ hk => hk.2) (.int .i64 t533)) (fun _ h_ => h_.1))) hb); replace HO532 := Aside0.mk (Kd.R_below (by (with_reducible repeat (first | apply Kd.R_alloc | apply Kd.R_drewN | apply Kd.R_drew)); exact (Kd.R_mono (Kd.R_far (p := ⟨gb535, 4, none⟩) (Kd.R_far (p := ⟨gb535, 3, none⟩) (Kd.R_far (p := ⟨gb535, 2, none⟩) (Kd.R_far (p := ⟨gb535, 1, none⟩) (Kd.R_far (p := ⟨gb535, 0, none⟩) (Kd.R_types HO532.out BK535.out (by decide)) (fun _ hk => hk.2) (.int .i64 t527)) (fun _ hk => hk.2) (.int .i64 t528)) (fun _ hk => hk.2) (.int .i64 t529)) (fun _ hk => hk.2) (.slice Ao37 t530.length co37)) (fun _ hk => hk.2) (.int .i64 t533)) (fun _ h_ => h_.1))) hb); replace BK501 := Aside0.mk (blk_below (g := gb501) (o := .cells #[.int .i64 a0_0, .int .i64 a0_1, .int .i64 a0_2, .slice A0_3 l0_3.length c0_3, .int .i64 a0_4] 28 (0, 0)) (by (with_reducible repeat (first | refine blk_drewN ?_ _ | refine blk_drew ?_ | refine blk_alloc ?_ _)); refine blk_far ?_ NB501_535.out _; (with_reducible repeat (first | refine blk_drewN ?_ _ | refine blk_drew ?_ | refine blk_alloc ?_ _)); refine blk_far ?_ NB501_535.out _; (with_reducible repeat (first | refine blk_drewN ?_ _ | refine blk_drew ?_ | refine blk_alloc ?_ _)); refine blk_far ?_ NB501_535.out _; (with_reducible repeat (first | refine blk_drewN ?_ _ | refine blk_drew ?_ | refine blk_alloc ?_ _)); refine blk_far ?_ NB501_535.out _; (with_reducible repeat (first | refine blk_drewN ?_ _ | refine blk_drew ?_ | refine blk_alloc ?_ _)); refine blk_far ?_ NB501_535.out _; (with_reducible repeat (first | refine blk_drewN ?_ _ | refine blk_drew ?_ | refine blk_alloc ?_ _)); exact BK501.out) hb); replace BK518 := Aside0.mk (blk_below (g := gb518) (o := .cells #[.int .i64 t510, .int .i64 t511, .int .i64 t512, .slice Ao23 t513.length co23, .int .i64 t516] 35 (0, 0)) (by (with_reducible repeat (first | refine blk_drewN ?_ _ | refine blk_drew ?_ | refine blk_alloc ?_ _)); refine blk_far ?_ NB518_535.out _; (with_reducible repeat (first | refine blk_drewN ?_ _ | refine blk_drew ?_ | refine blk_alloc ?_ _)); refine blk_far ?_ NB518_535.out _; (with_reducible repeat (first | refine blk_drewN ?_ _ | refine blk_drew ?_ | refine blk_alloc ?_ _)); refine blk_far ?_ NB518_535.out _; (with_reducible repeat (first | refine blk_drewN ?_ _ | refine blk_drew ?_ | refine blk_alloc ?_ _)); refine blk_far ?_ NB518_535.out _; (with_reducible repeat (first | refine blk_drewN ?_ _ | refine blk_drew ?_ | refine blk_alloc ?_ _)); refine blk_far ?_ NB518_535.out _; (with_reducible repeat (first | refine blk_drewN ?_ _ | refine blk_drew ?_ | refine blk_alloc ?_ _)); exact BK518.out) hb); replace BK526 := Aside0.mk (blk_below (g := gb526) (o := .cells #[.int .i64 t519, .int .i64 t520, .int .i64 t521, .slice Ao30 t522.length co30, .int .i64 t525] 35 (0, 0)) (by (with_reducible repeat (first | refine blk_drewN ?_ _ | refine blk_drew ?_ | refine blk_alloc ?_ _)); refine blk_far ?_ NB526_535.out _; (with_reducible repeat (first | refine blk_drewN ?_ _ | refine blk_drew ?_ | refine blk_alloc ?_ _)); refine blk_far ?_ NB526_535.out _; (with_reducible repeat (first | refine blk_drewN ?_ _ | refine blk_drew ?_ | refine blk_alloc ?_ _)); refine blk_far ?_ NB526_535.out _; (with_reducible repeat (first | refine blk_drewN ?_ _ | refine blk_drew ?_ | refine blk_alloc ?_ _)); refine blk_far ?_ NB526_535.out _; (with_reducible repeat (first | refine blk_drewN ?_ _ | refine blk_drew ?_ | refine blk_alloc ?_ _)); refine blk_far ?_ NB526_535.out _; (with_reducible repeat (first | refine blk_drewN ?_ _ | refine blk_drew ?_ | refine blk_alloc ?_ _)); exact BK526.out) hb); replace BK535 := Aside0.mk (blk_below (g := gb535) (o := .cells #[.int .i64 t527, .int .i64 t528, .int .i64 t529, .slice Ao37 t530.length co37, .int .i64 t533] 35 (0, 0)) (by (with_reducible repeat (first | refine blk_drewN ?_ _ | refine blk_drew ?_ | refine blk_alloc ?_ _)); refine blk_put (cs := #[.int .i64 t527, .int .i64 t528, .int .i64 t529, .slice Ao37 t530.length co37, .int .i64 0]) ?_ 4 _ rfl; (with_reducible repeat (first | refine blk_drewN ?_ _ | refine blk_drew ?_ | refine blk_alloc ?_ _)); refine blk_put (cs := #[.int .i64 t527, .int .i64 t528, .int .i64 t529, .slice none 0 0, .int .i64 0]) ?_ 3 _ rfl; (with_reducible repeat (first | refine blk_drewN ?_ _ | refine blk_drew ?_ | refine blk_alloc ?_ _)); refine blk_put (cs := #[.int .i64 t527, .int .i64 t528, .int .i64 0, .slice none 0 0, .int .i64 0]) ?_ 2 _ rfl; (with_reducible repeat (first | refine blk_drewN ?_ _ | refine blk_drew ?_ | refine blk_alloc ?_ _)); refine blk_put (cs := #[.int .i64 t527, .int .i64 0, .int .i64 0, .slice none 0 0, .int .i64 0]) ?_ 1 _ rfl; (with_reducible repeat (first | refine blk_drewN ?_ _ | refine blk_drew ?_ | refine blk_alloc ?_ _)); refine blk_put (cs := #[.int .i64 0, .int .i64 0, .int .i64 0, .slice none 0 0, .int .i64 0]) ?_ 0 _ rfl; (with_reducible repeat (first | refine blk_drewN ?_ _ | refine blk_drew ?_ | refine blk_alloc ?_ _)); exact BK535.out) hb); replace HB := Aside0.mk (below_step (hb4_ HB.out GE501.out GE518.out GE526.out GE535.out) hb); (try clear hb); (try clear hb2); (try clear hk); (try clear hi)))
    go_meet
    case rel => exact ⟨_, ((t534 != t517)), (by first | rfl | (simp; done) | (simp [*]; done)), H', ⟨by first | omega | exact Nat.le_refl _⟩, ⟨by (with_reducible repeat (first | apply Kd.R_alloc | apply Kd.R_drewN | apply Kd.R_drew)); exact Kd.R_mono HO515.out (fun _ hk => ⟨hk.1.2, hk.2⟩)⟩, ⟨by (with_reducible repeat (first | apply Kd.R_alloc | apply Kd.R_drewN | apply Kd.R_drew)); exact Kd.R_mono HO524.out (fun _ hk => ⟨hk.1.2, hk.2⟩)⟩, ⟨by (with_reducible repeat (first | apply Kd.R_alloc | apply Kd.R_drewN | apply Kd.R_drew)); exact Kd.R_mono HO532.out (fun _ hk => ⟨hk.1.2, hk.2⟩)⟩, ⟨bk_ BK501.out⟩, ⟨bk_ BK518.out⟩, ⟨bk_ BK526.out⟩, ⟨bk_ BK535.out⟩, ⟨hb4_ HB.out GE501.out GE518.out GE526.out GE535.out⟩⟩
   ·replace c39 := Bool.eq_false_iff.mpr c39
    subst c39
    have H1 : (laws_FnExactGrowHedge.j0 k a1 t517 t534 true a0_0 a0_1 a0_2 l0_3 a0_4 t510 t511 t512 t513 t516 t519 t520 t521 t522 t525 t527 t528 t529 t530 t533) = some r := by rw [if_neg (show ¬ (false = true) by decide)] at H; exact H
    clear H
    have H := H1
    clear H1
    have H' := Aside0.mk H
    clear H
    have hnb48 := NB535_501.out
    have hnc48 := NB501_535.out
    have hnb49 := NB535_518.out
    have hnc49 := NB518_535.out
    have hnb50 := NB535_526.out
    have hnc50 := NB526_535.out
    obtain ⟨hcz51_0, hcz51_1, hcz51_2, hcz51_3, hcz51_4⟩ := cz5_ BK535.out
    obtain ⟨hfz51_0, hfz51_1, hfz51_2, hfz51_3, hfz51_4⟩ := fz5_ BK535.out
    have hnb52 := NB518_501.out
    have hnc52 := NB501_518.out
    have hnb53 := NB518_526.out
    have hnc53 := NB526_518.out
    obtain ⟨hcz54_0, hcz54_1, hcz54_2, hcz54_3, hcz54_4⟩ := cz5_ BK518.out
    obtain ⟨hfz54_0, hfz54_1, hfz54_2, hfz54_3, hfz54_4⟩ := fz5_ BK518.out
    go_wp2_with (first | ((with_reducible refine gate_callee (f := 19) rfl ?_); refine goesL_ (some 38) rfl rfl Try.func19 (by kernel_rfl) rfl #[.agg #[.int .i64 t527, .int .i64 t528, .int .i64 t529, .slice Ao37 t530.length co37, .int .i64 t533], .agg #[.int .i64 t510, .int .i64 t511, .int .i64 t512, .slice Ao23 t513.length co23, .int .i64 t516]] rfl (ml_) ?_; (with_reducible refine (laws_eqHedge.calls k t527 t528 t529 _ _ t530 t533 t510 t511 t512 _ _ t513 t516 false _ ?side1 ?side2 ?side3 ?side4 A38.out).mono ?_); (case side1 => refine (Kd.R_reads' (e := 3) (base := w.heap.size) (ok := fun k_ => (((True ∧ some k_ ≠ (.slice Ao18 t506.length co18 : Value).ownBlock) ∧ some k_ ≠ (.slice Ao23 t513.length co23 : Value).ownBlock) ∧ some k_ ≠ (.slice Ao30 t522.length co30 : Value).ownBlock)) (n := t530.length) (c := co37) ?_).2.2; exact (by (with_reducible repeat (first | apply Kd.R_alloc | apply Kd.R_drewN | apply Kd.R_drew)); exact (Kd.R_mono (Kd.R_far (p := ⟨gb535, 4, none⟩) (Kd.R_far (p := ⟨gb535, 3, none⟩) (Kd.R_far (p := ⟨gb535, 2, none⟩) (Kd.R_far (p := ⟨gb535, 1, none⟩) (Kd.R_far (p := ⟨gb535, 0, none⟩) (Kd.R_types HO532.out BK535.out (by decide)) (fun _ hk => hk.2) (.int .i64 t527)) (fun _ hk => hk.2) (.int .i64 t528)) (fun _ hk => hk.2) (.int .i64 t529)) (fun _ hk => hk.2) (.slice Ao37 t530.length co37)) (fun _ hk => hk.2) (.int .i64 t533)) (fun _ h_ => h_.1)))); (case side2 => exact (Kd.R_reads' HO532.out).2.1); (case side3 => refine (Kd.R_reads' (e := 3) (base := w.heap.size) (ok := fun k_ => (((True ∧ some k_ ≠ (.slice Ao18 t506.length co18 : Value).ownBlock) ∧ some k_ ≠ (.slice Ao30 t522.length co30 : Value).ownBlock) ∧ some k_ ≠ (.slice Ao37 t530.length co37 : Value).ownBlock)) (n := t513.length) (c := co23) ?_).2.2; exact (by (with_reducible repeat (first | apply Kd.R_alloc | apply Kd.R_drewN | apply Kd.R_drew)); exact (Kd.R_mono (Kd.R_far (p := ⟨gb535, 4, none⟩) (Kd.R_far (p := ⟨gb535, 3, none⟩) (Kd.R_far (p := ⟨gb535, 2, none⟩) (Kd.R_far (p := ⟨gb535, 1, none⟩) (Kd.R_far (p := ⟨gb535, 0, none⟩) (Kd.R_types HO515.out BK535.out (by decide)) (fun _ hk => hk.2) (.int .i64 t527)) (fun _ hk => hk.2) (.int .i64 t528)) (fun _ hk => hk.2) (.int .i64 t529)) (fun _ hk => hk.2) (.slice Ao37 t530.length co37)) (fun _ hk => hk.2) (.int .i64 t533)) (fun _ h_ => h_.1)))); (case side4 => exact (Kd.R_reads' HO515.out).2.1); rintro e w55 ⟨rfl, hb⟩; refine ⟨_, rfl, ?_⟩; replace HO508 := Aside0.mk (Kd.R_below (by (with_reducible repeat (first | apply Kd.R_alloc | apply Kd.R_drewN | apply Kd.R_drew)); exact (Kd.R_mono (Kd.R_far (p := ⟨gb535, 4, none⟩) (Kd.R_far (p := ⟨gb535, 3, none⟩) (Kd.R_far (p := ⟨gb535, 2, none⟩) (Kd.R_far (p := ⟨gb535, 1, none⟩) (Kd.R_far (p := ⟨gb535, 0, none⟩) (Kd.R_types HO508.out BK535.out (by decide)) (fun _ hk => hk.2) (.int .i64 t527)) (fun _ hk => hk.2) (.int .i64 t528)) (fun _ hk => hk.2) (.int .i64 t529)) (fun _ hk => hk.2) (.slice Ao37 t530.length co37)) (fun _ hk => hk.2) (.int .i64 t533)) (fun _ h_ => h_.1))) hb); replace HO515 := Aside0.mk (Kd.R_below (by (with_reducible repeat (first | apply Kd.R_alloc | apply Kd.R_drewN | apply Kd.R_drew)); exact (Kd.R_mono (Kd.R_far (p := ⟨gb535, 4, none⟩) (Kd.R_far (p := ⟨gb535, 3, none⟩) (Kd.R_far (p := ⟨gb535, 2, none⟩) (Kd.R_far (p := ⟨gb535, 1, none⟩) (Kd.R_far (p := ⟨gb535, 0, none⟩) (Kd.R_types HO515.out BK535.out (by decide)) (fun _ hk => hk.2) (.int .i64 t527)) (fun _ hk => hk.2) (.int .i64 t528)) (fun _ hk => hk.2) (.int .i64 t529)) (fun _ hk => hk.2) (.slice Ao37 t530.length co37)) (fun _ hk => hk.2) (.int .i64 t533)) (fun _ h_ => h_.1))) hb); replace HO524 := Aside0.mk (Kd.R_below (by (with_reducible repeat (first | apply Kd.R_alloc | apply Kd.R_drewN | apply Kd.R_drew)); exact (Kd.R_mono (Kd.R_far (p := ⟨gb535, 4, none⟩) (Kd.R_far (p := ⟨gb535, 3, none⟩) (Kd.R_far (p := ⟨gb535, 2, none⟩) (Kd.R_far (p := ⟨gb535, 1, none⟩) (Kd.R_far (p := ⟨gb535, 0, none⟩) (Kd.R_types HO524.out BK535.out (by decide)) (fun _ hk => hk.2) (.int .i64 t527)) (fun _ hk => hk.2) (.int .i64 t528)) (fun _ hk => hk.2) (.int .i64 t529)) (fun _ hk => hk.2) (.slice Ao37 t530.length co37)) (fun _ hk => hk.2) (.int .i64 t533)) (fun _ h_ => h_.1))) hb); replace HO532 := Aside0.mk (Kd.R_below (by (with_reducible repeat (first | apply Kd.R_alloc | apply Kd.R_drewN | apply Kd.R_drew)); exact (Kd.R_mono (Kd.R_far (p := ⟨gb535, 4, none⟩) (Kd.R_far (p := ⟨gb535, 3, none⟩) (Kd.R_far (p := ⟨gb535, 2, none⟩) (Kd.R_far (p := ⟨gb535, 1, none⟩) (Kd.R_far (p := ⟨gb535, 0, none⟩) (Kd.R_types HO532.out BK535.out (by decide)) (fun _ hk => hk.2) (.int .i64 t527)) (fun _ hk => hk.2) (.int .i64 t528)) (fun _ hk => hk.2) (.int .i64 t529)) (fun _ hk => hk.2) (.slice Ao37 t530.length co37)) (fun _ hk => hk.2) (.int .i64 t533)) (fun _ h_ => h_.1))) hb); replace BK501 := Aside0.mk (blk_below (g := gb501) (o := .cells #[.int .i64 a0_0, .int .i64 a0_1, .int .i64 a0_2, .slice A0_3 l0_3.length c0_3, .int .i64 a0_4] 28 (0, 0)) (by (with_reducible repeat (first | refine blk_drewN ?_ _ | refine blk_drew ?_ | refine blk_alloc ?_ _)); refine blk_far ?_ NB501_535.out _; (with_reducible repeat (first | refine blk_drewN ?_ _ | refine blk_drew ?_ | refine blk_alloc ?_ _)); refine blk_far ?_ NB501_535.out _; (with_reducible repeat (first | refine blk_drewN ?_ _ | refine blk_drew ?_ | refine blk_alloc ?_ _)); refine blk_far ?_ NB501_535.out _; (with_reducible repeat (first | refine blk_drewN ?_ _ | refine blk_drew ?_ | refine blk_alloc ?_ _)); refine blk_far ?_ NB501_535.out _; (with_reducible repeat (first | refine blk_drewN ?_ _ | refine blk_drew ?_ | refine blk_alloc ?_ _)); refine blk_far ?_ NB501_535.out _; (with_reducible repeat (first | refine blk_drewN ?_ _ | refine blk_drew ?_ | refine blk_alloc ?_ _)); exact BK501.out) hb); replace BK518 := Aside0.mk (blk_below (g := gb518) (o := .cells #[.int .i64 t510, .int .i64 t511, .int .i64 t512, .slice Ao23 t513.length co23, .int .i64 t516] 35 (0, 0)) (by (with_reducible repeat (first | refine blk_drewN ?_ _ | refine blk_drew ?_ | refine blk_alloc ?_ _)); refine blk_far ?_ NB518_535.out _; (with_reducible repeat (first | refine blk_drewN ?_ _ | refine blk_drew ?_ | refine blk_alloc ?_ _)); refine blk_far ?_ NB518_535.out _; (with_reducible repeat (first | refine blk_drewN ?_ _ | refine blk_drew ?_ | refine blk_alloc ?_ _)); refine blk_far ?_ NB518_535.out _; (with_reducible repeat (first | refine blk_drewN ?_ _ | refine blk_drew ?_ | refine blk_alloc ?_ _)); refine blk_far ?_ NB518_535.out _; (with_reducible repeat (first | refine blk_drewN ?_ _ | refine blk_drew ?_ | refine blk_alloc ?_ _)); refine blk_far ?_ NB518_535.out _; (with_reducible repeat (first | refine blk_drewN ?_ _ | refine blk_drew ?_ | refine blk_alloc ?_ _)); exact BK518.out) hb); replace BK526 := Aside0.mk (blk_below (g := gb526) (o := .cells #[.int .i64 t519, .int .i64 t520, .int .i64 t521, .slice Ao30 t522.length co30, .int .i64 t525] 35 (0, 0)) (by (with_reducible repeat (first | refine blk_drewN ?_ _ | refine blk_drew ?_ | refine blk_alloc ?_ _)); refine blk_far ?_ NB526_535.out _; (with_reducible repeat (first | refine blk_drewN ?_ _ | refine blk_drew ?_ | refine blk_alloc ?_ _)); refine blk_far ?_ NB526_535.out _; (with_reducible repeat (first | refine blk_drewN ?_ _ | refine blk_drew ?_ | refine blk_alloc ?_ _)); refine blk_far ?_ NB526_535.out _; (with_reducible repeat (first | refine blk_drewN ?_ _ | refine blk_drew ?_ | refine blk_alloc ?_ _)); refine blk_far ?_ NB526_535.out _; (with_reducible repeat (first | refine blk_drewN ?_ _ | refine blk_drew ?_ | refine blk_alloc ?_ _)); refine blk_far ?_ NB526_535.out _; (with_reducible repeat (first | refine blk_drewN ?_ _ | refine blk_drew ?_ | refine blk_alloc ?_ _)); exact BK526.out) hb); replace BK535 := Aside0.mk (blk_below (g := gb535) (o := .cells #[.int .i64 t527, .int .i64 t528, .int .i64 t529, .slice Ao37 t530.length co37, .int .i64 t533] 35 (0, 0)) (by (with_reducible repeat (first | refine blk_drewN ?_ _ | refine blk_drew ?_ | refine blk_alloc ?_ _)); refine blk_put (cs := #[.int .i64 t527, .int .i64 t528, .int .i64 t529, .slice Ao37 t530.length co37, .int .i64 0]) ?_ 4 _ rfl; (with_reducible repeat (first | refine blk_drewN ?_ _ | refine blk_drew ?_ | refine blk_alloc ?_ _)); refine blk_put (cs := #[.int .i64 t527, .int .i64 t528, .int .i64 t529, .slice none 0 0, .int .i64 0]) ?_ 3 _ rfl; (with_reducible repeat (first | refine blk_drewN ?_ _ | refine blk_drew ?_ | refine blk_alloc ?_ _)); refine blk_put (cs := #[.int .i64 t527, .int .i64 t528, .int .i64 0, .slice none 0 0, .int .i64 0]) ?_ 2 _ rfl; (with_reducible repeat (first | refine blk_drewN ?_ _ | refine blk_drew ?_ | refine blk_alloc ?_ _)); refine blk_put (cs := #[.int .i64 t527, .int .i64 0, .int .i64 0, .slice none 0 0, .int .i64 0]) ?_ 1 _ rfl; (with_reducible repeat (first | refine blk_drewN ?_ _ | refine blk_drew ?_ | refine blk_alloc ?_ _)); refine blk_put (cs := #[.int .i64 0, .int .i64 0, .int .i64 0, .slice none 0 0, .int .i64 0]) ?_ 0 _ rfl; (with_reducible repeat (first | refine blk_drewN ?_ _ | refine blk_drew ?_ | refine blk_alloc ?_ _)); exact BK535.out) hb); replace HB := Aside0.mk (below_step (hb4_ HB.out GE501.out GE518.out GE526.out GE535.out) hb); (try clear hb); (try clear hb2); (try clear hk); (try clear hi)))
    go_meet
    case rel => exact ⟨_, (true), (by first | rfl | (simp; done) | (simp [*]; done)), H', ⟨by first | omega | exact Nat.le_refl _⟩, ⟨by (with_reducible repeat (first | apply Kd.R_alloc | apply Kd.R_drewN | apply Kd.R_drew)); exact Kd.R_mono HO515.out (fun _ hk => ⟨hk.1.2, hk.2⟩)⟩, ⟨by (with_reducible repeat (first | apply Kd.R_alloc | apply Kd.R_drewN | apply Kd.R_drew)); exact Kd.R_mono HO524.out (fun _ hk => ⟨hk.1.2, hk.2⟩)⟩, ⟨by (with_reducible repeat (first | apply Kd.R_alloc | apply Kd.R_drewN | apply Kd.R_drew)); exact Kd.R_mono HO532.out (fun _ hk => ⟨hk.1.2, hk.2⟩)⟩, ⟨bk_ BK501.out⟩, ⟨bk_ BK518.out⟩, ⟨bk_ BK526.out⟩, ⟨bk_ BK535.out⟩, ⟨hb4_ HB.out GE501.out GE518.out GE526.out GE535.out⟩⟩
  case rest =>
   clear HC12
   try clear c1
   try clear c2
   try clear p2
   try clear c3
   try clear c4
   try clear c4b0
   try clear c5
   try clear c8
   try clear c15
   try clear c17
   try clear c19
   try clear c21
   try clear c27
   try clear c28
   try clear c33
   try clear c34
   try clear c35
   try clear c38
   try clear c39
   try clear c40
   try clear c41
   try clear c42
   try clear c44
   try clear c45
   try clear c48
   try clear c49
   try clear c50
   try clear c52
   try clear c53
   try clear hcz14_0
   try clear hcz14_1
   try clear hcz14_2
   try clear hcz14_3
   try clear hcz14_4
   try clear hcz16_0
   try clear hcz16_1
   try clear hcz16_2
   try clear hcz16_3
   try clear hcz16_4
   try clear hcz22_0
   try clear hcz22_1
   try clear hcz22_2
   try clear hcz22_3
   try clear hcz22_4
   try clear hcz24_0
   try clear hcz24_1
   try clear hcz24_2
   try clear hcz24_3
   try clear hcz24_4
   try clear hcz29_0
   try clear hcz29_1
   try clear hcz29_2
   try clear hcz29_3
   try clear hcz29_4
   try clear hcz36_0
   try clear hcz36_1
   try clear hcz36_2
   try clear hcz36_3
   try clear hcz36_4
   try clear hcz43_0
   try clear hcz43_1
   try clear hcz43_2
   try clear hcz43_3
   try clear hcz43_4
   try clear hcz46_0
   try clear hcz46_1
   try clear hcz46_2
   try clear hcz46_3
   try clear hcz46_4
   try clear hcz51_0
   try clear hcz51_1
   try clear hcz51_2
   try clear hcz51_3
   try clear hcz51_4
   try clear hcz54_0
   try clear hcz54_1
   try clear hcz54_2
   try clear hcz54_3
   try clear hcz54_4
   try clear hcz6_0
   try clear hcz6_1
   try clear hcz6_2
   try clear hcz6_3
   try clear hcz6_4
   try clear hfz14_0
   try clear hfz14_1
   try clear hfz14_2
   try clear hfz14_3
   try clear hfz14_4
   try clear hfz16_0
   try clear hfz16_1
   try clear hfz16_2
   try clear hfz16_3
   try clear hfz16_4
   try clear hfz22_0
   try clear hfz22_1
   try clear hfz22_2
   try clear hfz22_3
   try clear hfz22_4
   try clear hfz24_0
   try clear hfz24_1
   try clear hfz24_2
   try clear hfz24_3
   try clear hfz24_4
   try clear hfz29_0
   try clear hfz29_1
   try clear hfz29_2
   try clear hfz29_3
   try clear hfz29_4
   try clear hfz36_0
   try clear hfz36_1
   try clear hfz36_2
   try clear hfz36_3
   try clear hfz36_4
   try clear hfz43_0
   try clear hfz43_1
   try clear hfz43_2
   try clear hfz43_3
   try clear hfz43_4
   try clear hfz46_0
   try clear hfz46_1
   try clear hfz46_2
   try clear hfz46_3
   try clear hfz46_4
   try clear hfz51_0
   try clear hfz51_1
   try clear hfz51_2
   try clear hfz51_3
   try clear hfz51_4
   try clear hfz54_0
   try clear hfz54_1
   try clear hfz54_2
   try clear hfz54_3
   try clear hfz54_4
   try clear hfz6_0
   try clear hfz6_1
   try clear hfz6_2
   try clear hfz6_3
   try clear hfz6_4
   obtain ⟨kq, x44_11, rfl, HA, HJ11, HO_519003, HO_527003, HO_536003, BK501, BK518, BK526, BK535, HB⟩ := hcut
   cases kq with
   | zero => exact absurd HA.out (by simp [laws_FnExactGrowHedge.j0])
   | succ kj11 =>
    have H := HA.out
    clear HA
    simp only [laws_FnExactGrowHedge.j0] at H
    by_cases c56 : x44_11 = true
    ·subst c56
     have H1 : (some false) = some r := by rw [if_pos rfl] at H; exact H
     clear H
     have H := H1
     clear H1
     obtain rfl := Option.some.inj H
     go_wp2
     go_ret
     exact ⟨by first | rfl | (simp [errW_none, errW_some] <;> rfl) | (simp [*, errW_none, errW_some] <;> rfl), hb4_ HB.out GE501.out GE518.out GE526.out GE535.out⟩
    ·replace c56 := Bool.eq_false_iff.mpr c56
     subst c56
     have H1 : ((laws_toHedge.f kj11 a0_0 a0_1 a0_2 l0_3 a0_4).bind fun bt537 => ((laws_eqHedge.f kj11 t519 t520 t521 t522 t525 bt537.1 bt537.2.1 bt537.2.2.1 bt537.2.2.2.1 bt537.2.2.2.2).bind fun t544 => (if t544 = true then ((laws_markHedge.f kj11 t519 t520 t521 t522 t525 1).bind fun bt545 => (if bt545.1 < 0 then (laws_FnExactGrowHedge.j1 kj11 a1 t517 true a0_0 a0_1 a0_2 l0_3 a0_4 t510 t511 t512 t513 t516 t527 t528 t529 t530 t533) else ((laws_eqHedge.f kj11 t527 t528 t529 t530 t533 t510 t511 t512 t513 t516).bind fun t547 => (if t547 = true then (laws_FnExactGrowHedge.j1 kj11 a1 t517 (t534 != t517) a0_0 a0_1 a0_2 l0_3 a0_4 t510 t511 t512 t513 t516 t527 t528 t529 t530 t533) else (laws_FnExactGrowHedge.j1 kj11 a1 t517 true a0_0 a0_1 a0_2 l0_3 a0_4 t510 t511 t512 t513 t516 t527 t528 t529 t530 t533))))) else (some false)))) = some r := by rw [if_neg (show ¬ (false = true) by decide)] at H; exact H
     clear H
     have H := H1
     clear H1
     replace H := Option.bind_eq_some_iff.mp H
     obtain ⟨⟨t537, t538, t539, t540, t543⟩, A570, H⟩ := H
     replace H : ((laws_eqHedge.f kj11 t519 t520 t521 t522 t525 t537 t538 t539 t540 t543).bind fun t544 => (if t544 = true then ((laws_markHedge.f kj11 t519 t520 t521 t522 t525 1).bind fun bt545 => (if bt545.1 < 0 then (laws_FnExactGrowHedge.j1 kj11 a1 t517 true a0_0 a0_1 a0_2 l0_3 a0_4 t510 t511 t512 t513 t516 t527 t528 t529 t530 t533) else ((laws_eqHedge.f kj11 t527 t528 t529 t530 t533 t510 t511 t512 t513 t516).bind fun t547 => (if t547 = true then (laws_FnExactGrowHedge.j1 kj11 a1 t517 (t534 != t517) a0_0 a0_1 a0_2 l0_3 a0_4 t510 t511 t512 t513 t516 t527 t528 t529 t530 t533) else (laws_FnExactGrowHedge.j1 kj11 a1 t517 true a0_0 a0_1 a0_2 l0_3 a0_4 t510 t511 t512 t513 t516 t527 t528 t529 t530 t533))))) else (some false))) = some r := H
     have A57 := Aside0.mk A570
     clear A570
     replace H := Option.bind_eq_some_iff.mp H
     obtain ⟨t544, A580, H⟩ := H
     replace H : (if t544 = true then ((laws_markHedge.f kj11 t519 t520 t521 t522 t525 1).bind fun bt545 => (if bt545.1 < 0 then (laws_FnExactGrowHedge.j1 kj11 a1 t517 true a0_0 a0_1 a0_2 l0_3 a0_4 t510 t511 t512 t513 t516 t527 t528 t529 t530 t533) else ((laws_eqHedge.f kj11 t527 t528 t529 t530 t533 t510 t511 t512 t513 t516).bind fun t547 => (if t547 = true then (laws_FnExactGrowHedge.j1 kj11 a1 t517 (t534 != t517) a0_0 a0_1 a0_2 l0_3 a0_4 t510 t511 t512 t513 t516 t527 t528 t529 t530 t533) else (laws_FnExactGrowHedge.j1 kj11 a1 t517 true a0_0 a0_1 a0_2 l0_3 a0_4 t510 t511 t512 t513 t516 t527 t528 t529 t530 t533))))) else (some false)) = some r := H
     have A58 := Aside0.mk A580
     clear A580
     by_cases c59 : t544 = true
     ·subst c59
      have H1 : ((laws_markHedge.f kj11 t519 t520 t521 t522 t525 1).bind fun bt545 => (if bt545.1 < 0 then (laws_FnExactGrowHedge.j1 kj11 a1 t517 true a0_0 a0_1 a0_2 l0_3 a0_4 t510 t511 t512 t513 t516 t527 t528 t529 t530 t533) else ((laws_eqHedge.f kj11 t527 t528 t529 t530 t533 t510 t511 t512 t513 t516).bind fun t547 => (if t547 = true then (laws_FnExactGrowHedge.j1 kj11 a1 t517 (t534 != t517) a0_0 a0_1 a0_2 l0_3 a0_4 t510 t511 t512 t513 t516 t527 t528 t529 t530 t533) else (laws_FnExactGrowHedge.j1 kj11 a1 t517 true a0_0 a0_1 a0_2 l0_3 a0_4 t510 t511 t512 t513 t516 t527 t528 t529 t530 t533))))) = some r := by rw [if_pos rfl] at H; exact H
      clear H
      have H := H1
      clear H1
      replace H := Option.bind_eq_some_iff.mp H
      obtain ⟨⟨t545, t546⟩, A600, H⟩ := H
      replace H : (if t545 < 0 then (laws_FnExactGrowHedge.j1 kj11 a1 t517 true a0_0 a0_1 a0_2 l0_3 a0_4 t510 t511 t512 t513 t516 t527 t528 t529 t530 t533) else ((laws_eqHedge.f kj11 t527 t528 t529 t530 t533 t510 t511 t512 t513 t516).bind fun t547 => (if t547 = true then (laws_FnExactGrowHedge.j1 kj11 a1 t517 (t534 != t517) a0_0 a0_1 a0_2 l0_3 a0_4 t510 t511 t512 t513 t516 t527 t528 t529 t530 t533) else (laws_FnExactGrowHedge.j1 kj11 a1 t517 true a0_0 a0_1 a0_2 l0_3 a0_4 t510 t511 t512 t513 t516 t527 t528 t529 t530 t533)))) = some r := H
      have A60 := Aside0.mk A600
      clear A600
      have HC61 := Aside0.mk H
      clear H
      try go_wp2
      replace HO_519003 := Aside0.mk (Kd.R_drew HO_519003.out)
      replace HO_527003 := Aside0.mk (Kd.R_drew HO_527003.out)
      replace HO_536003 := Aside0.mk (Kd.R_drew HO_536003.out)
      replace BK501 := Aside0.mk (blk_drew BK501.out)
      replace BK518 := Aside0.mk (blk_drew BK518.out)
      replace BK526 := Aside0.mk (blk_drew BK526.out)
      replace BK535 := Aside0.mk (blk_drew BK535.out)
      replace HB := Aside0.mk (below_drew1 HB.out)
      refine start_ (n := 5) (S := fun w' => w'.cell? ⟨gb526, 0, none⟩ = some (.int .i64 t519) ∧ w'.cell? ⟨gb526, 1, none⟩ = some (.int .i64 t520) ∧ w'.cell? ⟨gb526, 2, none⟩ = some (.int .i64 t521) ∧ w'.cell? ⟨gb526, 3, none⟩ = some (.slice Ao30 t522.length co30) ∧ w'.cell? ⟨gb526, 4, none⟩ = some (.int .i64 t525) ∧ w'.cell? ⟨gb501, 0, none⟩ = some (.int .i64 a0_0) ∧ w'.cell? ⟨gb501, 1, none⟩ = some (.int .i64 a0_1) ∧ w'.cell? ⟨gb501, 2, none⟩ = some (.int .i64 a0_2) ∧ w'.cell? ⟨gb501, 3, none⟩ = some (.slice A0_3 l0_3.length c0_3) ∧ w'.cell? ⟨gb501, 4, none⟩ = some (.int .i64 a0_4)) (ds := []) #[false, false, false, false, false] (by kernel_rfl) rfl rfl ⟨(blk_cell BK526.out 0).trans rfl, (blk_cell BK526.out 1).trans rfl, (blk_cell BK526.out 2).trans rfl, (blk_cell BK526.out 3).trans rfl, (blk_cell BK526.out 4).trans rfl, (blk_cell BK501.out 0).trans rfl, (blk_cell BK501.out 1).trans rfl, (blk_cell BK501.out 2).trans rfl, (blk_cell BK501.out 3).trans rfl, (blk_cell BK501.out 4).trans rfl⟩ (fun hHeld => ?_)
      generalize wc.drew = w62 at HO_519003 HO_527003 HO_536003 BK501 BK518 BK526 BK535 HB hHeld ⊢
      refine take_ (i := 0) (N := some 45) (v := ?_) (a' := ?_) #[true, false, false, false, false] rfl rfl (by kernel_rfl) (fun _ _ _ h => h) (Or.inl ⟨by rfl, ?_⟩) hHeld ?_ ?_
      rotate_left
      ·rintro w' ⟨s0, s1, s2, s3, s4, s5, s6, s7, s8, s9⟩
       go_simp
       with_reducible rfl
      rotate_left
      ·simp only [Act.put, List.setIfInBounds_toArray, List.set_cons_zero, List.set_cons_succ, i64_w, i32_w]
       rfl
      refine take_ (i := 1) (N := some 46) (v := ?_) (a' := ?_) #[true, true, false, false, false] rfl rfl (by kernel_rfl) (fun _ _ _ h => h) (Or.inl ⟨by rfl, ?_⟩) hHeld ?_ ?_
      rotate_left
      ·rintro w' ⟨s0, s1, s2, s3, s4, s5, s6, s7, s8, s9⟩
       go_simp
       with_reducible rfl
      rotate_left
      ·simp only [Act.put, List.setIfInBounds_toArray, List.set_cons_zero, List.set_cons_succ, i64_w, i32_w]
       rfl
      refine one_ (i := 2) (N := some 47) #[true, true, true, false, false] rfl rfl (by kernel_rfl) (by decide) (fun K hK => ?_)
      refine goes_ Try.func17 (by kernel_rfl) rfl #[.agg #[.int .i64 a0_0, .int .i64 a0_1, .int .i64 a0_2, .slice A0_3 l0_3.length c0_3, .int .i64 a0_4]] (by rfl) rfl rfl (ml_) ?_
      with_reducible refine (laws_toHedge.calls kj11 a0_0 a0_1 a0_2 _ _ l0_3 a0_4 t537 t538 t539 t540 t543 _ ?side1 ?side2 A57.out).mono ?_
      (case side1 => repeat (first | exact (Kd.C_below HR0_3.out HB.out) | (with_reducible refine Kd.C_alloc ?_ _) | (with_reducible refine Kd.C_drewN ?_ _) | (with_reducible refine Kd.C_drew ?_)))
      (case side2 => exact HC0_3.out)
      rintro e w63 ⟨v541, rfl, ho0, hb⟩
      refine ⟨_, rfl, ?_⟩
      have n0_ := Aside0.mk (Kd.R_elder' (kr_ HO_519003.out) (Kd.R_base ho0) hb)
      have n1_ := Aside0.mk (Kd.R_elder' (kr_ HO_527003.out) (Kd.R_base ho0) hb)
      have n2_ := Aside0.mk (Kd.R_elder' (kr_ HO_536003.out) (Kd.R_base ho0) hb)
      have n3_ := Aside0.mk (Kd.R_lower (Kd.R_new' (Kd.R_new' (Kd.R_new' ho0 (Kd.R_lt (kr_ HO_519003.out))) (Kd.R_lt (kr_ HO_527003.out))) (Kd.R_lt (kr_ HO_536003.out))) (below_size (hb4_ HB.out GE501.out GE518.out GE526.out GE535.out)))
      have n4_ := Aside0.mk (bb_ BK501.out hb)
      have n5_ := Aside0.mk (bb_ BK518.out hb)
      have n6_ := Aside0.mk (bb_ BK526.out hb)
      have n7_ := Aside0.mk (bb_ BK535.out hb)
      have n8_ := Aside0.mk (below_step (hb4_ HB.out GE501.out GE518.out GE526.out GE535.out) hb)
      clear HO_519003
      clear HO_527003
      clear HO_536003
      clear BK501
      clear BK518
      clear BK526
      clear BK535
      clear HB
      have HO_519003 := n0_
      have HO_527003 := n1_
      have HO_536003 := n2_
      have HO542 := n3_
      have BK501 := n4_
      have BK518 := n5_
      have BK526 := n6_
      have BK535 := n7_
      have HB := n8_
      clear n0_ n1_ n2_ n3_ n4_ n5_ n6_ n7_ n8_
      (try clear hb)
      (try clear hb2)
      (try clear hk)
      (try clear hi)
      (try clear ho0)
      obtain ⟨Ao64, co64, eo64⟩ := Kd.R_slice HO542.out
      (first | subst eo64 | (injection eo64 with f1_ f2_ f3_; have f4_ := f1_.symm; have f5_ := f3_.symm; clear f1_ f2_ f3_; subst f4_; subst f5_))
      refine hK.out _ _ ⟨(blk_cell BK526.out 0).trans rfl, (blk_cell BK526.out 1).trans rfl, (blk_cell BK526.out 2).trans rfl, (blk_cell BK526.out 3).trans rfl, (blk_cell BK526.out 4).trans rfl, (blk_cell BK501.out 0).trans rfl, (blk_cell BK501.out 1).trans rfl, (blk_cell BK501.out 2).trans rfl, (blk_cell BK501.out 3).trans rfl, (blk_cell BK501.out 4).trans rfl⟩ (fun hHeld => ?_)
      clear hK K
      refine norm_ (a' := ?_) ?_ ?_
      rotate_left
      ·show Act.put _ (some 47) _ = _
       simp only [Act.put, List.setIfInBounds_toArray, List.set_cons_zero, List.set_cons_succ, i64_w, i32_w]
       rfl
      refine one_ (i := 3) (N := some 48) #[true, true, true, true, false] rfl rfl (by kernel_rfl) (by decide) (fun K hK => ?_)
      refine goes_ Try.func19 (by kernel_rfl) rfl #[.agg #[.int .i64 t519, .int .i64 t520, .int .i64 t521, .slice Ao30 t522.length co30, .int .i64 t525], .agg #[.int .i64 t537, .int .i64 t538, .int .i64 t539, .slice Ao64 t540.length co64, .int .i64 t543]] (by rfl) rfl rfl (ml_) ?_
      with_reducible refine (laws_eqHedge.calls kj11 t519 t520 t521 _ _ t522 t525 t537 t538 t539 _ _ t540 t543 true _ ?side1 ?side2 ?side3 ?side4 A58.out).mono ?_
      (case side1 => repeat (first | exact (Kd.R_reads' HO_527003.out).2.2 | (with_reducible refine Kd.C_alloc ?_ _) | (with_reducible refine Kd.C_drewN ?_ _) | (with_reducible refine Kd.C_drew ?_)))
      (case side2 => exact (Kd.R_reads' HO_527003.out).2.1)
      (case side3 => repeat (first | exact (Kd.R_reads' HO542.out).2.2 | (with_reducible refine Kd.C_alloc ?_ _) | (with_reducible refine Kd.C_drewN ?_ _) | (with_reducible refine Kd.C_drew ?_)))
      (case side4 => exact (Kd.R_reads' HO542.out).2.1)
      rintro e w65 ⟨rfl, hb⟩
      refine ⟨_, rfl, ?_⟩
      replace HO_519003 := Aside0.mk (Kd.R_below (kr_ HO_519003.out) hb)
      replace HO_527003 := Aside0.mk (Kd.R_below (kr_ HO_527003.out) hb)
      replace HO_536003 := Aside0.mk (Kd.R_below (kr_ HO_536003.out) hb)
      replace HO542 := Aside0.mk (Kd.R_below (kr_ HO542.out) hb)
      replace BK501 := Aside0.mk (bb_ BK501.out hb)
      replace BK518 := Aside0.mk (bb_ BK518.out hb)
      replace BK526 := Aside0.mk (bb_ BK526.out hb)
      replace BK535 := Aside0.mk (bb_ BK535.out hb)
      replace HB := Aside0.mk (below_step (hb4_ HB.out GE501.out GE518.out GE526.out GE535.out) hb)
      (try clear hb)
      (try clear hb2)
      (try clear hk)
      (try clear hi)
      refine hK.out _ _ ⟨(blk_cell BK526.out 0).trans rfl, (blk_cell BK526.out 1).trans rfl, (blk_cell BK526.out 2).trans rfl, (blk_cell BK526.out 3).trans rfl, (blk_cell BK526.out 4).trans rfl, (blk_cell BK501.out 0).trans rfl, (blk_cell BK501.out 1).trans rfl, (blk_cell BK501.out 2).trans rfl, (blk_cell BK501.out 3).trans rfl, (blk_cell BK501.out 4).trans rfl⟩ (fun hHeld => ?_)
      clear hK K
      refine norm_ (a' := ?_) ?_ ?_
      rotate_left
      ·show Act.put _ (some 48) _ = _
       simp only [Act.put, List.setIfInBounds_toArray, List.set_cons_zero, List.set_cons_succ, i64_w, i32_w]
       rfl
      refine pure_ (i := 4) (N := some 49) (v := ?_) (a' := ?_) #[true, true, true, true, true] rfl rfl (by kernel_rfl) (fun _ _ _ h => h) (Or.inl ⟨by rfl, ?_⟩) ?_ ?_
      rotate_left
      ·intro w'
       go_simp
       with_reducible rfl
      rotate_left
      ·simp only [Act.put, List.setIfInBounds_toArray, List.set_cons_zero, List.set_cons_succ, i64_w, i32_w]
       rfl
      refine done_ (by kernel_rfl) ?_
      have hnb66 := NB526_501.out
      have hnc66 := NB501_526.out
      have hnb67 := NB526_518.out
      have hnc67 := NB518_526.out
      have hnb68 := NB526_535.out
      have hnc68 := NB535_526.out
      obtain ⟨hcz69_0, hcz69_1, hcz69_2, hcz69_3, hcz69_4⟩ := cz5_ BK526.out
      obtain ⟨hfz69_0, hfz69_1, hfz69_2, hfz69_3, hfz69_4⟩ := fz5_ BK526.out
      go_upto_region 14 with (first | ((with_reducible refine gate_callee (f := 31) rfl ?_); refine goesL_ (some 52) rfl rfl Try.func31 (by kernel_rfl) rfl #[.agg #[.int .i64 t519, .int .i64 t520, .int .i64 t521, .slice Ao30 t522.length co30, .int .i64 t525], .int .i64 1] rfl (ml_) ?_; (with_reducible refine (laws_markHedge.calls kj11 t519 t520 t521 (fun k_ => some k_ = (.slice Ao30 t522.length co30 : Value).ownBlock) (.slice Ao30 t522.length co30) t522 t525 1 t545 t546 w _ ?side1 ?side2 A60.out).mono ?_); (case side1 => repeat (first | (with_reducible first | exact HB.out | apply below_alloc | apply pw_below_drewN | apply below_drew1 | refine below_set ?_ GE501.out | refine below_set ?_ GE518.out | refine below_set ?_ GE526.out | refine below_set ?_ GE535.out) | exact HB.out)); (case side2 => exact Kd.R_tight rfl HO_527003.out); rintro e w70 ⟨rfl, hy0, hb, hkp⟩; refine ⟨_, rfl, ?_⟩; have n0_ := Aside0.mk (Kd.R_mono (ok' := fun k_ => some k_ ≠ (.slice Ao30 t522.length co30 : Value).ownBlock ∧ some k_ ≠ (.slice Ao37 t530.length co37 : Value).ownBlock ∧ some k_ ≠ (.slice Ao64 t540.length co64 : Value).ownBlock) (Kd.R_keptB (HO_519003.out) hkp (fun k_ hk_ hs_ => (hk_.1.1) hs_)) (fun k_ hk_ => ⟨hk_.1.1.1, hk_.1.1.2, hk_.1.2⟩)); have n1_ := Aside0.mk (Kd.R_reok rfl hy0 (fun k_ e_ => HO_527003.out.1 k_ e_)); have n2_ := Aside0.mk (Kd.R_mono (ok' := fun k_ => some k_ ≠ (.slice Ao23 t513.length co23 : Value).ownBlock ∧ some k_ ≠ (.slice Ao30 t522.length co30 : Value).ownBlock ∧ some k_ ≠ (.slice Ao64 t540.length co64 : Value).ownBlock) (Kd.R_keptB (HO_536003.out) hkp (fun k_ hk_ hs_ => (hk_.1.2) hs_)) (fun k_ hk_ => ⟨hk_.1.1.1, hk_.1.1.2, hk_.1.2⟩)); have n3_ := Aside0.mk (blk_kept (bk_ BK501.out) hkp (fun hs_ => (fun e_ => (Kd.R_ne HO_527003.out BK501.out (by decide)) e_) hs_)); have n4_ := Aside0.mk (blk_kept (bk_ BK518.out) hkp (fun hs_ => (fun e_ => (Kd.R_ne HO_527003.out BK518.out (by decide)) e_) hs_)); have n5_ := Aside0.mk (blk_kept (bk_ BK526.out) hkp (fun hs_ => (fun e_ => (Kd.R_ne HO_527003.out BK526.out (by decide)) e_) hs_)); have n6_ := Aside0.mk (blk_kept (bk_ BK535.out) hkp (fun hs_ => (fun e_ => (Kd.R_ne HO_527003.out BK535.out (by decide)) e_) hs_)); have n7_ := Aside0.mk (Kd.R_mono (ok' := fun k_ => some k_ ≠ (.slice Ao23 t513.length co23 : Value).ownBlock ∧ some k_ ≠ (.slice Ao30 t522.length co30 : Value).ownBlock ∧ some k_ ≠ (.slice Ao37 t530.length co37 : Value).ownBlock) (Kd.R_keptB (HO542.out) hkp (fun k_ hk_ hs_ => (hk_.1.2) hs_)) (fun k_ hk_ => ⟨hk_.1.1.1.2, hk_.1.1.2, hk_.1.2⟩)); have n8_ := Aside0.mk (hb); clear HO_519003; clear HO_527003; clear HO_536003; clear BK501; clear BK518; clear BK526; clear BK535; clear HO542; clear HB; have HO_519003 := n0_; have HO_527003 := n1_; have HO_536003 := n2_; have BK501 := n3_; have BK518 := n4_; have BK526 := n5_; have BK535 := n6_; have HO542 := n7_; have HB := n8_; clear n0_ n1_ n2_ n3_ n4_ n5_ n6_ n7_ n8_; (try clear hb); (try clear hkp); (try clear hy0)))
      (try simp only [Act.put, List.setIfInBounds_toArray, List.set_cons_zero, List.set_cons_succ])
      go_cut [65] (fun v65 wc => ∃ (kq : Nat) (x65_60 : Bool), v65 = .bool x65_60 ∧ Aside0 (laws_FnExactGrowHedge.j1 kq a1 t517 x65_60 a0_0 a0_1 a0_2 l0_3 a0_4 t510 t511 t512 t513 t516 t527 t528 t529 t530 t533 = some r) ∧ Aside0 (kq ≤ kj11) ∧ Aside0 (Kd.R (Kd.int .i64) 3 wc w.heap.size (fun k_ => some k_ ≠ ((.slice Ao30 t522.length co30) : Value).ownBlock ∧ some k_ ≠ ((.slice Ao37 t530.length co37) : Value).ownBlock) (.slice Ao23 t513.length co23) t513) ∧ Aside0 (Kd.R (Kd.int .i64) 3 wc w.heap.size (fun k_ => some k_ ≠ ((.slice Ao23 t513.length co23) : Value).ownBlock ∧ some k_ ≠ ((.slice Ao37 t530.length co37) : Value).ownBlock) (.slice Ao30 t522.length co30) t546) ∧ Aside0 (Kd.R (Kd.int .i64) 3 wc w.heap.size (fun k_ => some k_ ≠ ((.slice Ao23 t513.length co23) : Value).ownBlock ∧ some k_ ≠ ((.slice Ao30 t522.length co30) : Value).ownBlock) (.slice Ao37 t530.length co37) t530) ∧ Aside0 (wc.heap[gb501]? = some (.cells #[.int .i64 a0_0, .int .i64 a0_1, .int .i64 a0_2, (.slice A0_3 l0_3.length c0_3), .int .i64 a0_4] 28 (0, 0))) ∧ Aside0 (wc.heap[gb518]? = some (.cells #[.int .i64 t510, .int .i64 t511, .int .i64 t512, (.slice Ao23 t513.length co23), .int .i64 t516] 35 (0, 0))) ∧ Aside0 (wc.heap[gb526]? = some (.cells #[.int .i64 t519, .int .i64 t520, .int .i64 t521, (.slice Ao30 t522.length co30), .int .i64 t525] 35 (0, 0))) ∧ Aside0 (wc.heap[gb535]? = some (.cells #[.int .i64 t527, .int .i64 t528, .int .i64 t529, (.slice Ao37 t530.length co37), .int .i64 t533] 35 (0, 0))) ∧ Aside0 (Below w.heap.size w wc))
      case first =>
       have H := HC61.out
       clear HC61
       by_cases c71 : t545 < 0
       ·rw [if_pos c71] at H
        have c71b0 : decide (t545 < 0) = true := decide_eq_true c71
        clear c71
        (first | rw [c71b0] | (simp only [i64_w, i32_w]; rw [c71b0]) | skip)
        have H' := Aside0.mk H
        clear H
        go_wp2
        go_meet
        case rel => exact ⟨_, (true), (by first | rfl | (simp; done) | (simp [*]; done)), H', ⟨by have := HJ11.out; first | omega | exact Nat.le_refl _⟩, ⟨by (with_reducible repeat (first | apply Kd.R_alloc | apply Kd.R_drewN | apply Kd.R_drew)); exact Kd.R_mono HO_519003.out (fun _ hk => ⟨hk.1, hk.2.1⟩)⟩, ⟨by (with_reducible repeat (first | apply Kd.R_alloc | apply Kd.R_drewN | apply Kd.R_drew)); exact Kd.R_mono HO_527003.out (fun _ hk => ⟨hk.1.1, hk.1.2⟩)⟩, ⟨by (with_reducible repeat (first | apply Kd.R_alloc | apply Kd.R_drewN | apply Kd.R_drew)); exact Kd.R_mono HO_536003.out (fun _ hk => ⟨hk.1, hk.2.1⟩)⟩, ⟨bk_ BK501.out⟩, ⟨bk_ BK518.out⟩, ⟨bk_ BK526.out⟩, ⟨bk_ BK535.out⟩, ⟨hb4_ HB.out GE501.out GE518.out GE526.out GE535.out⟩⟩
       ·rw [if_neg c71] at H
        have c71b0 : decide (t545 < 0) = false := decide_eq_false c71
        clear c71
        (first | rw [c71b0] | (simp only [i64_w, i32_w]; rw [c71b0]) | skip)
        replace H := Option.bind_eq_some_iff.mp H
        obtain ⟨t547, A720, H⟩ := H
        replace H : (if t547 = true then (laws_FnExactGrowHedge.j1 kj11 a1 t517 (t534 != t517) a0_0 a0_1 a0_2 l0_3 a0_4 t510 t511 t512 t513 t516 t527 t528 t529 t530 t533) else (laws_FnExactGrowHedge.j1 kj11 a1 t517 true a0_0 a0_1 a0_2 l0_3 a0_4 t510 t511 t512 t513 t516 t527 t528 t529 t530 t533)) = some r := H
        have A72 := Aside0.mk A720
        clear A720
        by_cases c73 : t547 = true
        ·subst c73
         have H1 : (laws_FnExactGrowHedge.j1 kj11 a1 t517 (t534 != t517) a0_0 a0_1 a0_2 l0_3 a0_4 t510 t511 t512 t513 t516 t527 t528 t529 t530 t533) = some r := by rw [if_pos rfl] at H; exact H
         clear H
         have H := H1
         clear H1
         have H' := Aside0.mk H
         clear H
         have hnb74 := NB535_501.out
         have hnc74 := NB501_535.out
         have hnb75 := NB535_518.out
         have hnc75 := NB518_535.out
         have hnb76 := NB535_526.out
         have hnc76 := NB526_535.out
         obtain ⟨hcz77_0, hcz77_1, hcz77_2, hcz77_3, hcz77_4⟩ := cz5_ BK535.out
         obtain ⟨hfz77_0, hfz77_1, hfz77_2, hfz77_3, hfz77_4⟩ := fz5_ BK535.out
         have hnb78 := NB518_501.out
         have hnc78 := NB501_518.out
         have hnb79 := NB518_526.out
         have hnc79 := NB526_518.out
         obtain ⟨hcz80_0, hcz80_1, hcz80_2, hcz80_3, hcz80_4⟩ := cz5_ BK518.out
         obtain ⟨hfz80_0, hfz80_1, hfz80_2, hfz80_3, hfz80_4⟩ := fz5_ BK518.out
         go_wp2_with (first | (go_at_call 19; (with_reducible refine (laws_eqHedge.calls kj11 t527 t528 t529 _ _ t530 t533 t510 t511 t512 _ _ t513 t516 true _ ?side1 ?side2 ?side3 ?side4 A72.out).mono ?_); (case side1 => repeat (first | exact (Kd.R_reads' HO_536003.out).2.2 | (with_reducible refine Kd.C_alloc ?_ _) | (with_reducible refine Kd.C_drewN ?_ _) | (with_reducible refine Kd.C_drew ?_))); (case side2 => exact (Kd.R_reads' HO_536003.out).2.1); (case side3 => repeat (first | exact (Kd.R_reads' HO_519003.out).2.2 | (with_reducible refine Kd.C_alloc ?_ _) | (with_reducible refine Kd.C_drewN ?_ _) | (with_reducible refine Kd.C_drew ?_))); (case side4 => exact (Kd.R_reads' HO_519003.out).2.1); rintro e w81 ⟨rfl, hb⟩; replace HO_519003 := Aside0.mk (Kd.R_below (kr_ HO_519003.out) hb); replace HO_527003 := Aside0.mk (Kd.R_below (kr_ HO_527003.out) hb); replace HO_536003 := Aside0.mk (Kd.R_below (kr_ HO_536003.out) hb); replace HO542 := Aside0.mk (Kd.R_below (kr_ HO542.out) hb); replace BK501 := Aside0.mk (bb_ BK501.out hb); replace BK518 := Aside0.mk (bb_ BK518.out hb); replace BK526 := Aside0.mk (bb_ BK526.out hb); replace BK535 := Aside0.mk (bb_ BK535.out hb); replace HB := Aside0.mk (below_step (hb4_ HB.out GE501.out GE518.out GE526.out GE535.out) hb); (try clear hb); (try clear hb2); (try clear hk); (try clear hi)))
         go_meet
         case rel => exact ⟨_, ((t534 != t517)), (by first | rfl | (simp; done) | (simp [*]; done)), H', ⟨by have := HJ11.out; first | omega | exact Nat.le_refl _⟩, ⟨by (with_reducible repeat (first | apply Kd.R_alloc | apply Kd.R_drewN | apply Kd.R_drew)); exact Kd.R_mono HO_519003.out (fun _ hk => ⟨hk.1, hk.2.1⟩)⟩, ⟨by (with_reducible repeat (first | apply Kd.R_alloc | apply Kd.R_drewN | apply Kd.R_drew)); exact Kd.R_mono HO_527003.out (fun _ hk => ⟨hk.1.1, hk.1.2⟩)⟩, ⟨by (with_reducible repeat (first | apply Kd.R_alloc | apply Kd.R_drewN | apply Kd.R_drew)); exact Kd.R_mono HO_536003.out (fun _ hk => ⟨hk.1, hk.2.1⟩)⟩, ⟨bk_ BK501.out⟩, ⟨bk_ BK518.out⟩, ⟨bk_ BK526.out⟩, ⟨bk_ BK535.out⟩, ⟨hb4_ HB.out GE501.out GE518.out GE526.out GE535.out⟩⟩
        ·replace c73 := Bool.eq_false_iff.mpr c73
         subst c73
         have H1 : (laws_FnExactGrowHedge.j1 kj11 a1 t517 true a0_0 a0_1 a0_2 l0_3 a0_4 t510 t511 t512 t513 t516 t527 t528 t529 t530 t533) = some r := by rw [if_neg (show ¬ (false = true) by decide)] at H; exact H
         clear H
         have H := H1
         clear H1
         have H' := Aside0.mk H
         clear H
         have hnb82 := NB535_501.out
         have hnc82 := NB501_535.out
         have hnb83 := NB535_518.out
         have hnc83 := NB518_535.out
         have hnb84 := NB535_526.out
         have hnc84 := NB526_535.out
         obtain ⟨hcz85_0, hcz85_1, hcz85_2, hcz85_3, hcz85_4⟩ := cz5_ BK535.out
         obtain ⟨hfz85_0, hfz85_1, hfz85_2, hfz85_3, hfz85_4⟩ := fz5_ BK535.out
         have hnb86 := NB518_501.out
         have hnc86 := NB501_518.out
         have hnb87 := NB518_526.out
         have hnc87 := NB526_518.out
         obtain ⟨hcz88_0, hcz88_1, hcz88_2, hcz88_3, hcz88_4⟩ := cz5_ BK518.out
         obtain ⟨hfz88_0, hfz88_1, hfz88_2, hfz88_3, hfz88_4⟩ := fz5_ BK518.out
         go_wp2_with (first | (go_at_call 19; (with_reducible refine (laws_eqHedge.calls kj11 t527 t528 t529 _ _ t530 t533 t510 t511 t512 _ _ t513 t516 false _ ?side1 ?side2 ?side3 ?side4 A72.out).mono ?_); (case side1 => repeat (first | exact (Kd.R_reads' HO_536003.out).2.2 | (with_reducible refine Kd.C_alloc ?_ _) | (with_reducible refine Kd.C_drewN ?_ _) | (with_reducible refine Kd.C_drew ?_))); (case side2 => exact (Kd.R_reads' HO_536003.out).2.1); (case side3 => repeat (first | exact (Kd.R_reads' HO_519003.out).2.2 | (with_reducible refine Kd.C_alloc ?_ _) | (with_reducible refine Kd.C_drewN ?_ _) | (with_reducible refine Kd.C_drew ?_))); (case side4 => exact (Kd.R_reads' HO_519003.out).2.1); rintro e w89 ⟨rfl, hb⟩; replace HO_519003 := Aside0.mk (Kd.R_below (kr_ HO_519003.out) hb); replace HO_527003 := Aside0.mk (Kd.R_below (kr_ HO_527003.out) hb); replace HO_536003 := Aside0.mk (Kd.R_below (kr_ HO_536003.out) hb); replace HO542 := Aside0.mk (Kd.R_below (kr_ HO542.out) hb); replace BK501 := Aside0.mk (bb_ BK501.out hb); replace BK518 := Aside0.mk (bb_ BK518.out hb); replace BK526 := Aside0.mk (bb_ BK526.out hb); replace BK535 := Aside0.mk (bb_ BK535.out hb); replace HB := Aside0.mk (below_step (hb4_ HB.out GE501.out GE518.out GE526.out GE535.out) hb); (try clear hb); (try clear hb2); (try clear hk); (try clear hi)))
         go_meet
         case rel => exact ⟨_, (true), (by first | rfl | (simp; done) | (simp [*]; done)), H', ⟨by have := HJ11.out; first | omega | exact Nat.le_refl _⟩, ⟨by (with_reducible repeat (first | apply Kd.R_alloc | apply Kd.R_drewN | apply Kd.R_drew)); exact Kd.R_mono HO_519003.out (fun _ hk => ⟨hk.1, hk.2.1⟩)⟩, ⟨by (with_reducible repeat (first | apply Kd.R_alloc | apply Kd.R_drewN | apply Kd.R_drew)); exact Kd.R_mono HO_527003.out (fun _ hk => ⟨hk.1.1, hk.1.2⟩)⟩, ⟨by (with_reducible repeat (first | apply Kd.R_alloc | apply Kd.R_drewN | apply Kd.R_drew)); exact Kd.R_mono HO_536003.out (fun _ hk => ⟨hk.1, hk.2.1⟩)⟩, ⟨bk_ BK501.out⟩, ⟨bk_ BK518.out⟩, ⟨bk_ BK526.out⟩, ⟨bk_ BK535.out⟩, ⟨hb4_ HB.out GE501.out GE518.out GE526.out GE535.out⟩⟩
      case rest =>
       clear HC61
       try clear c1
       try clear c2
       try clear p2
       try clear c3
       try clear c4
       try clear c4b0
       try clear c5
       try clear c6
       try clear c7
       try clear c8
       try clear c15
       try clear c17
       try clear c19
       try clear c21
       try clear c27
       try clear c28
       try clear c31
       try clear c33
       try clear c34
       try clear c35
       try clear c38
       try clear c39
       try clear c40
       try clear c41
       try clear c42
       try clear c44
       try clear c45
       try clear c48
       try clear c49
       try clear c50
       try clear c52
       try clear c53
       try clear c56
       try clear c59
       try clear c66
       try clear c67
       try clear c68
       try clear c71
       try clear c71b0
       try clear c73
       try clear c74
       try clear c75
       try clear c76
       try clear c78
       try clear c79
       try clear c82
       try clear c83
       try clear c84
       try clear c86
       try clear c87
       try clear hcz14_0
       try clear hcz14_1
       try clear hcz14_2
       try clear hcz14_3
       try clear hcz14_4
       try clear hcz16_0
       try clear hcz16_1
       try clear hcz16_2
       try clear hcz16_3
       try clear hcz16_4
       try clear hcz22_0
       try clear hcz22_1
       try clear hcz22_2
       try clear hcz22_3
       try clear hcz22_4
       try clear hcz24_0
       try clear hcz24_1
       try clear hcz24_2
       try clear hcz24_3
       try clear hcz24_4
       try clear hcz29_0
       try clear hcz29_1
       try clear hcz29_2
       try clear hcz29_3
       try clear hcz29_4
       try clear hcz36_0
       try clear hcz36_1
       try clear hcz36_2
       try clear hcz36_3
       try clear hcz36_4
       try clear hcz43_0
       try clear hcz43_1
       try clear hcz43_2
       try clear hcz43_3
       try clear hcz43_4
       try clear hcz46_0
       try clear hcz46_1
       try clear hcz46_2
       try clear hcz46_3
       try clear hcz46_4
       try clear hcz51_0
       try clear hcz51_1
       try clear hcz51_2
       try clear hcz51_3
       try clear hcz51_4
       try clear hcz54_0
       try clear hcz54_1
       try clear hcz54_2
       try clear hcz54_3
       try clear hcz54_4
       try clear hcz69_0
       try clear hcz69_1
       try clear hcz69_2
       try clear hcz69_3
       try clear hcz69_4
       try clear hcz6_0
       try clear hcz6_1
       try clear hcz6_2
       try clear hcz6_3
       try clear hcz6_4
       try clear hcz77_0
       try clear hcz77_1
       try clear hcz77_2
       try clear hcz77_3
       try clear hcz77_4
       try clear hcz80_0
       try clear hcz80_1
       try clear hcz80_2
       try clear hcz80_3
       try clear hcz80_4
       try clear hcz85_0
       try clear hcz85_1
       try clear hcz85_2
       try clear hcz85_3
       try clear hcz85_4
       try clear hcz88_0
       try clear hcz88_1
       try clear hcz88_2
       try clear hcz88_3
       try clear hcz88_4
       try clear hfz14_0
       try clear hfz14_1
       try clear hfz14_2
       try clear hfz14_3
       try clear hfz14_4
       try clear hfz16_0
       try clear hfz16_1
       try clear hfz16_2
       try clear hfz16_3
       try clear hfz16_4
       try clear hfz22_0
       try clear hfz22_1
       try clear hfz22_2
       try clear hfz22_3
       try clear hfz22_4
       try clear hfz24_0
       try clear hfz24_1
       try clear hfz24_2
       try clear hfz24_3
       try clear hfz24_4
       try clear hfz29_0
       try clear hfz29_1
       try clear hfz29_2
       try clear hfz29_3
       try clear hfz29_4
       try clear hfz36_0
       try clear hfz36_1
       try clear hfz36_2
       try clear hfz36_3
       try clear hfz36_4
       try clear hfz43_0
       try clear hfz43_1
       try clear hfz43_2
       try clear hfz43_3
       try clear hfz43_4
       try clear hfz46_0
       try clear hfz46_1
       try clear hfz46_2
       try clear hfz46_3
       try clear hfz46_4
       try clear hfz51_0
       try clear hfz51_1
       try clear hfz51_2
       try clear hfz51_3
       try clear hfz51_4
       try clear hfz54_0
       try clear hfz54_1
       try clear hfz54_2
       try clear hfz54_3
       try clear hfz54_4
       try clear hfz69_0
       try clear hfz69_1
       try clear hfz69_2
       try clear hfz69_3
       try clear hfz69_4
       try clear hfz6_0
       try clear hfz6_1
       try clear hfz6_2
       try clear hfz6_3
       try clear hfz6_4
       try clear hfz77_0
       try clear hfz77_1
       try clear hfz77_2
       try clear hfz77_3
       try clear hfz77_4
       try clear hfz80_0
       try clear hfz80_1
       try clear hfz80_2
       try clear hfz80_3
       try clear hfz80_4
       try clear hfz85_0
       try clear hfz85_1
       try clear hfz85_2
       try clear hfz85_3
       try clear hfz85_4
       try clear hfz88_0
       try clear hfz88_1
       try clear hfz88_2
       try clear hfz88_3
       try clear hfz88_4
       try clear p2
       obtain ⟨kq, x65_60, rfl, HA, HJ60, HO_519003, HO_527003, HO_536003, BK501, BK518, BK526, BK535, HB⟩ := hcut
       have hl527003_60 := (Kd.R_reads' HO_527003.out).1
       rw [hl527003_60] at HO_527003
       (try simp only [hl527003_60])
       (try simp only [hl527003_60] at BK501)
       (try simp only [hl527003_60] at BK518)
       (try simp only [hl527003_60] at BK526)
       (try simp only [hl527003_60] at BK535)
       (try simp only [hl527003_60] at HO_519003)
       (try simp only [hl527003_60] at HO_536003)
       cases kq with
       | zero => exact absurd HA.out (by simp [laws_FnExactGrowHedge.j1])
       | succ kj60 =>
        have H := HA.out
        clear HA
        simp only [laws_FnExactGrowHedge.j1] at H
        by_cases c90 : x65_60 = true
        ·subst c90
         have H1 : (some false) = some r := by rw [if_pos rfl] at H; exact H
         clear H
         have H := H1
         clear H1
         obtain rfl := Option.some.inj H
         go_wp2
         go_ret
         exact ⟨by first | rfl | (simp [errW_none, errW_some] <;> rfl) | (simp [*, errW_none, errW_some] <;> rfl), hb4_ HB.out GE501.out GE518.out GE526.out GE535.out⟩
        ·replace c90 := Bool.eq_false_iff.mpr c90
         subst c90
         have H1 : ((laws_markHedge.f kj60 t527 t528 t529 t530 t533 1).bind fun bt548 => ((laws_heldHedge.f kj60 t527 t528 t529 bt548.2 t533 1).bind fun t550 => (if t550 < 0 then (some false) else (if t550 = bt548.1 then ((laws_toHedge.f kj60 a0_0 a0_1 a0_2 l0_3 a0_4).bind fun bt551 => ((impl_GrowHedge.f kj60 bt551.1 bt551.2.1 bt551.2.2.1 bt551.2.2.2.1 bt551.2.2.2.2 a1).bind fun bt558 => ((laws_eqHedge.f kj60 bt558.1 bt558.2.1 bt558.2.2.1 bt558.2.2.2.1 bt558.2.2.2.2.1 t510 t511 t512 t513 t516).bind fun t567 => (if t567 = true then (laws_FnExactGrowHedge.j2 kj60 bt548.1 (bt558.2.2.2.2.2 != t517) t527 t528 t529 bt548.2 t533) else (laws_FnExactGrowHedge.j2 kj60 bt548.1 true t527 t528 t529 bt548.2 t533))))) else (some false))))) = some r := by rw [if_neg (show ¬ (false = true) by decide)] at H; exact H
         clear H
         have H := H1
         clear H1
         replace H := Option.bind_eq_some_iff.mp H
         obtain ⟨⟨t548, t549⟩, A910, H⟩ := H
         replace H : ((laws_heldHedge.f kj60 t527 t528 t529 t549 t533 1).bind fun t550 => (if t550 < 0 then (some false) else (if t550 = t548 then ((laws_toHedge.f kj60 a0_0 a0_1 a0_2 l0_3 a0_4).bind fun bt551 => ((impl_GrowHedge.f kj60 bt551.1 bt551.2.1 bt551.2.2.1 bt551.2.2.2.1 bt551.2.2.2.2 a1).bind fun bt558 => ((laws_eqHedge.f kj60 bt558.1 bt558.2.1 bt558.2.2.1 bt558.2.2.2.1 bt558.2.2.2.2.1 t510 t511 t512 t513 t516).bind fun t567 => (if t567 = true then (laws_FnExactGrowHedge.j2 kj60 t548 (bt558.2.2.2.2.2 != t517) t527 t528 t529 t549 t533) else (laws_FnExactGrowHedge.j2 kj60 t548 true t527 t528 t529 t549 t533))))) else (some false)))) = some r := H
         have A91 := Aside0.mk A910
         clear A910
         replace H := Option.bind_eq_some_iff.mp H
         obtain ⟨t550, A920, H⟩ := H
         replace H : (if t550 < 0 then (some false) else (if t550 = t548 then ((laws_toHedge.f kj60 a0_0 a0_1 a0_2 l0_3 a0_4).bind fun bt551 => ((impl_GrowHedge.f kj60 bt551.1 bt551.2.1 bt551.2.2.1 bt551.2.2.2.1 bt551.2.2.2.2 a1).bind fun bt558 => ((laws_eqHedge.f kj60 bt558.1 bt558.2.1 bt558.2.2.1 bt558.2.2.2.1 bt558.2.2.2.2.1 t510 t511 t512 t513 t516).bind fun t567 => (if t567 = true then (laws_FnExactGrowHedge.j2 kj60 t548 (bt558.2.2.2.2.2 != t517) t527 t528 t529 t549 t533) else (laws_FnExactGrowHedge.j2 kj60 t548 true t527 t528 t529 t549 t533))))) else (some false))) = some r := H
         have A92 := Aside0.mk A920
         clear A920
         by_cases c93 : t550 < 0
         ·rw [if_pos c93] at H
          have c93b0 : decide (t550 < 0) = true := decide_eq_true c93
          clear c93
          obtain rfl := Option.some.inj H
          have hnb94 := NB535_501.out
          have hnc94 := NB501_535.out
          have hnb95 := NB535_518.out
          have hnc95 := NB518_535.out
          have hnb96 := NB535_526.out
          have hnc96 := NB526_535.out
          obtain ⟨hcz97_0, hcz97_1, hcz97_2, hcz97_3, hcz97_4⟩ := cz5_ BK535.out
          obtain ⟨hfz97_0, hfz97_1, hfz97_2, hfz97_3, hfz97_4⟩ := fz5_ BK535.out
          go_wp2_with (first | ((with_reducible refine gate_callee (f := 31) rfl ?_); refine goesL_ (some 68) rfl rfl Try.func31 (by kernel_rfl) rfl #[.agg #[.int .i64 t527, .int .i64 t528, .int .i64 t529, .slice Ao37 t530.length co37, .int .i64 t533], .int .i64 1] rfl (ml_) ?_; (with_reducible refine (laws_markHedge.calls kj60 t527 t528 t529 (fun k_ => some k_ = (.slice Ao37 t530.length co37 : Value).ownBlock) (.slice Ao37 t530.length co37) t530 t533 1 t548 t549 w _ ?side1 ?side2 A91.out).mono ?_); (case side1 => repeat (first | (with_reducible first | exact HB.out | apply below_alloc | apply pw_below_drewN | apply below_drew1 | refine below_set ?_ GE501.out | refine below_set ?_ GE518.out | refine below_set ?_ GE526.out | refine below_set ?_ GE535.out) | exact HB.out)); (case side2 => exact Kd.R_tight rfl HO_536003.out); rintro e w98 ⟨rfl, hy0, hb, hkp⟩; refine ⟨_, rfl, ?_⟩; have n0_ := Aside0.mk (Kd.R_mono (ok' := fun k_ => some k_ ≠ (.slice Ao30 t546.length co30 : Value).ownBlock ∧ some k_ ≠ (.slice Ao37 t530.length co37 : Value).ownBlock) (Kd.R_keptB (HO_519003.out) hkp (fun k_ hk_ hs_ => (hk_.2) hs_)) (fun k_ hk_ => ⟨hk_.1.1, hk_.1.2⟩)); have n1_ := Aside0.mk (Kd.R_mono (ok' := fun k_ => some k_ ≠ (.slice Ao23 t513.length co23 : Value).ownBlock ∧ some k_ ≠ (.slice Ao37 t530.length co37 : Value).ownBlock) (Kd.R_keptB (HO_527003.out) hkp (fun k_ hk_ hs_ => (hk_.2) hs_)) (fun k_ hk_ => ⟨hk_.1.1, hk_.1.2⟩)); have n2_ := Aside0.mk (Kd.R_reok rfl hy0 (fun k_ e_ => HO_536003.out.1 k_ e_)); have n3_ := Aside0.mk (blk_kept (bk_ BK501.out) hkp (fun hs_ => (fun e_ => (Kd.R_ne HO_536003.out BK501.out (by decide)) e_) hs_)); have n4_ := Aside0.mk (blk_kept (bk_ BK518.out) hkp (fun hs_ => (fun e_ => (Kd.R_ne HO_536003.out BK518.out (by decide)) e_) hs_)); have n5_ := Aside0.mk (blk_kept (bk_ BK526.out) hkp (fun hs_ => (fun e_ => (Kd.R_ne HO_536003.out BK526.out (by decide)) e_) hs_)); have n6_ := Aside0.mk (blk_kept (bk_ BK535.out) hkp (fun hs_ => (fun e_ => (Kd.R_ne HO_536003.out BK535.out (by decide)) e_) hs_)); have n7_ := Aside0.mk (hb); clear HO_519003; clear HO_527003; clear HO_536003; clear BK501; clear BK518; clear BK526; clear BK535; clear HB; have HO_519003 := n0_; have HO_527003 := n1_; have HO_536003 := n2_; have BK501 := n3_; have BK518 := n4_; have BK526 := n5_; have BK535 := n6_; have HB := n7_; clear n0_ n1_ n2_ n3_ n4_ n5_ n6_ n7_; (try clear hb); (try clear hkp); (try clear hy0); obtain ⟨hcz99_0, hcz99_1, hcz99_2, hcz99_3, hcz99_4⟩ := cz5_ BK535.out; obtain ⟨hfz99_0, hfz99_1, hfz99_2, hfz99_3, hfz99_4⟩ := fz5_ BK535.out) | ((with_reducible refine gate_callee (f := 32) rfl ?_); refine goesL_ (some 71) rfl rfl Try.func32 (by kernel_rfl) rfl #[.agg #[.int .i64 t527, .int .i64 t528, .int .i64 t529, .slice Ao37 t549.length co37, .int .i64 t533], .int .i64 1] rfl (by (try simp only [List.map_toArray, List.map_cons, List.map_nil]); first | done | (rw [show t549.length = t530.length from (Kd.R_reads' HO_536003.out).1.symm] <;> rfl) | rfl | (simp only [List.length_drop, List.length_take]; rfl)) ?_; (with_reducible refine (laws_heldHedge.calls kj60 t527 t528 t529 _ _ t549 t533 1 t550 _ ?side1 ?side2 A92.out).mono ?_); (case side1 => repeat (first | exact (Kd.R_reads' HO_536003.out).2.2 | (with_reducible refine Kd.C_alloc ?_ _) | (with_reducible refine Kd.C_drewN ?_ _) | (with_reducible refine Kd.C_drew ?_))); (case side2 => rw [show t549.length = t530.length from (Kd.R_reads' HO_536003.out).1.symm]; exact (Kd.R_reads' HO_536003.out).2.1); rintro e w100 ⟨rfl, hb⟩; refine ⟨_, rfl, ?_⟩; replace HO_519003 := Aside0.mk (Kd.R_below (kr_ HO_519003.out) hb); replace HO_527003 := Aside0.mk (Kd.R_below (kr_ HO_527003.out) hb); replace HO_536003 := Aside0.mk (Kd.R_below (kr_ HO_536003.out) hb); replace BK501 := Aside0.mk (bb_ BK501.out hb); replace BK518 := Aside0.mk (bb_ BK518.out hb); replace BK526 := Aside0.mk (bb_ BK526.out hb); replace BK535 := Aside0.mk (bb_ BK535.out hb); replace HB := Aside0.mk (below_step (hb4_ HB.out GE501.out GE518.out GE526.out GE535.out) hb); (try clear hb); (try clear hb2); (try clear hk); (try clear hi)))
          go_ret
          exact ⟨by first | rfl | (simp [errW_none, errW_some] <;> rfl) | (simp [*, errW_none, errW_some] <;> rfl), hb4_ HB.out GE501.out GE518.out GE526.out GE535.out⟩
         ·rw [if_neg c93] at H
          have c93b0 : decide (t550 < 0) = false := decide_eq_false c93
          clear c93
          by_cases c101 : t550 = t548
          ·rw [if_pos c101] at H
           have c101b0 : (t550 == t548) = true := beq_iff_eq.mpr c101
           have c101b1 : (t550 != t548) = false := bne_eq_false_iff_eq.mpr c101
           clear c101
           replace H := Option.bind_eq_some_iff.mp H
           obtain ⟨⟨t551, t552, t553, t554, t557⟩, A1020, H⟩ := H
           replace H : ((impl_GrowHedge.f kj60 t551 t552 t553 t554 t557 a1).bind fun bt558 => ((laws_eqHedge.f kj60 bt558.1 bt558.2.1 bt558.2.2.1 bt558.2.2.2.1 bt558.2.2.2.2.1 t510 t511 t512 t513 t516).bind fun t567 => (if t567 = true then (laws_FnExactGrowHedge.j2 kj60 t548 (bt558.2.2.2.2.2 != t517) t527 t528 t529 t549 t533) else (laws_FnExactGrowHedge.j2 kj60 t548 true t527 t528 t529 t549 t533)))) = some r := H
           have A102 := Aside0.mk A1020
           clear A1020
           replace H := Option.bind_eq_some_iff.mp H
           obtain ⟨⟨t558, t559, t560, t561, t564, t565⟩, A1030, H⟩ := H
           replace H : ((laws_eqHedge.f kj60 t558 t559 t560 t561 t564 t510 t511 t512 t513 t516).bind fun t567 => (if t567 = true then (laws_FnExactGrowHedge.j2 kj60 t548 (t565 != t517) t527 t528 t529 t549 t533) else (laws_FnExactGrowHedge.j2 kj60 t548 true t527 t528 t529 t549 t533))) = some r := H
           have A103 := Aside0.mk A1030
           clear A1030
           have HC104 := Aside0.mk H
           clear H
           have hnb105 := NB535_501.out
           have hnc105 := NB501_535.out
           have hnb106 := NB535_518.out
           have hnc106 := NB518_535.out
           have hnb107 := NB535_526.out
           have hnc107 := NB526_535.out
           obtain ⟨hcz108_0, hcz108_1, hcz108_2, hcz108_3, hcz108_4⟩ := cz5_ BK535.out
           obtain ⟨hfz108_0, hfz108_1, hfz108_2, hfz108_3, hfz108_4⟩ := fz5_ BK535.out
           go_upto_region 25 with (first | ((with_reducible refine gate_callee (f := 31) rfl ?_); refine goesL_ (some 68) rfl rfl Try.func31 (by kernel_rfl) rfl #[.agg #[.int .i64 t527, .int .i64 t528, .int .i64 t529, .slice Ao37 t530.length co37, .int .i64 t533], .int .i64 1] rfl (ml_) ?_; (with_reducible refine (laws_markHedge.calls kj60 t527 t528 t529 (fun k_ => some k_ = (.slice Ao37 t530.length co37 : Value).ownBlock) (.slice Ao37 t530.length co37) t530 t533 1 t548 t549 w _ ?side1 ?side2 A91.out).mono ?_); (case side1 => repeat (first | (with_reducible first | exact HB.out | apply below_alloc | apply pw_below_drewN | apply below_drew1 | refine below_set ?_ GE501.out | refine below_set ?_ GE518.out | refine below_set ?_ GE526.out | refine below_set ?_ GE535.out) | exact HB.out)); (case side2 => exact Kd.R_tight rfl HO_536003.out); rintro e w109 ⟨rfl, hy0, hb, hkp⟩; refine ⟨_, rfl, ?_⟩; have n0_ := Aside0.mk (Kd.R_mono (ok' := fun k_ => some k_ ≠ (.slice Ao30 t546.length co30 : Value).ownBlock ∧ some k_ ≠ (.slice Ao37 t530.length co37 : Value).ownBlock) (Kd.R_keptB (HO_519003.out) hkp (fun k_ hk_ hs_ => (hk_.2) hs_)) (fun k_ hk_ => ⟨hk_.1.1, hk_.1.2⟩)); have n1_ := Aside0.mk (Kd.R_mono (ok' := fun k_ => some k_ ≠ (.slice Ao23 t513.length co23 : Value).ownBlock ∧ some k_ ≠ (.slice Ao37 t530.length co37 : Value).ownBlock) (Kd.R_keptB (HO_527003.out) hkp (fun k_ hk_ hs_ => (hk_.2) hs_)) (fun k_ hk_ => ⟨hk_.1.1, hk_.1.2⟩)); have n2_ := Aside0.mk (Kd.R_reok rfl hy0 (fun k_ e_ => HO_536003.out.1 k_ e_)); have n3_ := Aside0.mk (blk_kept (bk_ BK501.out) hkp (fun hs_ => (fun e_ => (Kd.R_ne HO_536003.out BK501.out (by decide)) e_) hs_)); have n4_ := Aside0.mk (blk_kept (bk_ BK518.out) hkp (fun hs_ => (fun e_ => (Kd.R_ne HO_536003.out BK518.out (by decide)) e_) hs_)); have n5_ := Aside0.mk (blk_kept (bk_ BK526.out) hkp (fun hs_ => (fun e_ => (Kd.R_ne HO_536003.out BK526.out (by decide)) e_) hs_)); have n6_ := Aside0.mk (blk_kept (bk_ BK535.out) hkp (fun hs_ => (fun e_ => (Kd.R_ne HO_536003.out BK535.out (by decide)) e_) hs_)); have n7_ := Aside0.mk (hb); clear HO_519003; clear HO_527003; clear HO_536003; clear BK501; clear BK518; clear BK526; clear BK535; clear HB; have HO_519003 := n0_; have HO_527003 := n1_; have HO_536003 := n2_; have BK501 := n3_; have BK518 := n4_; have BK526 := n5_; have BK535 := n6_; have HB := n7_; clear n0_ n1_ n2_ n3_ n4_ n5_ n6_ n7_; (try clear hb); (try clear hkp); (try clear hy0); obtain ⟨hcz110_0, hcz110_1, hcz110_2, hcz110_3, hcz110_4⟩ := cz5_ BK535.out; obtain ⟨hfz110_0, hfz110_1, hfz110_2, hfz110_3, hfz110_4⟩ := fz5_ BK535.out) | ((with_reducible refine gate_callee (f := 32) rfl ?_); refine goesL_ (some 71) rfl rfl Try.func32 (by kernel_rfl) rfl #[.agg #[.int .i64 t527, .int .i64 t528, .int .i64 t529, .slice Ao37 t549.length co37, .int .i64 t533], .int .i64 1] rfl (by (try simp only [List.map_toArray, List.map_cons, List.map_nil]); first | done | (rw [show t549.length = t530.length from (Kd.R_reads' HO_536003.out).1.symm] <;> rfl) | rfl | (simp only [List.length_drop, List.length_take]; rfl)) ?_; (with_reducible refine (laws_heldHedge.calls kj60 t527 t528 t529 _ _ t549 t533 1 t550 _ ?side1 ?side2 A92.out).mono ?_); (case side1 => repeat (first | exact (Kd.R_reads' HO_536003.out).2.2 | (with_reducible refine Kd.C_alloc ?_ _) | (with_reducible refine Kd.C_drewN ?_ _) | (with_reducible refine Kd.C_drew ?_))); (case side2 => rw [show t549.length = t530.length from (Kd.R_reads' HO_536003.out).1.symm]; exact (Kd.R_reads' HO_536003.out).2.1); rintro e w111 ⟨rfl, hb⟩; refine ⟨_, rfl, ?_⟩; replace HO_519003 := Aside0.mk (Kd.R_below (kr_ HO_519003.out) hb); replace HO_527003 := Aside0.mk (Kd.R_below (kr_ HO_527003.out) hb); replace HO_536003 := Aside0.mk (Kd.R_below (kr_ HO_536003.out) hb); replace BK501 := Aside0.mk (bb_ BK501.out hb); replace BK518 := Aside0.mk (bb_ BK518.out hb); replace BK526 := Aside0.mk (bb_ BK526.out hb); replace BK535 := Aside0.mk (bb_ BK535.out hb); replace HB := Aside0.mk (below_step (hb4_ HB.out GE501.out GE518.out GE526.out GE535.out) hb); (try clear hb); (try clear hb2); (try clear hk); (try clear hi); have hnb112 := NB501_518.out; have hnc112 := NB518_501.out; have hnb113 := NB501_526.out; have hnc113 := NB526_501.out; obtain ⟨hcz114_0, hcz114_1, hcz114_2, hcz114_3, hcz114_4⟩ := cz5_ BK501.out; obtain ⟨hfz114_0, hfz114_1, hfz114_2, hfz114_3, hfz114_4⟩ := fz5_ BK501.out) | ((with_reducible refine gate_callee (f := 17) rfl ?_); refine goesL_ (some 79) rfl rfl Try.func17 (by kernel_rfl) rfl #[.agg #[.int .i64 a0_0, .int .i64 a0_1, .int .i64 a0_2, .slice A0_3 l0_3.length c0_3, .int .i64 a0_4]] rfl (ml_) ?_; (with_reducible refine (laws_toHedge.calls kj60 a0_0 a0_1 a0_2 _ _ l0_3 a0_4 t551 t552 t553 t554 t557 _ ?side1 ?side2 A102.out).mono ?_); (case side1 => repeat (first | exact (Kd.C_below HR0_3.out HB.out) | (with_reducible refine Kd.C_alloc ?_ _) | (with_reducible refine Kd.C_drewN ?_ _) | (with_reducible refine Kd.C_drew ?_))); (case side2 => exact HC0_3.out); rintro e w115 ⟨v555, rfl, ho0, hb⟩; refine ⟨_, rfl, ?_⟩; have n0_ := Aside0.mk (Kd.R_elder' (kr_ HO_519003.out) (Kd.R_base ho0) hb); have n1_ := Aside0.mk (Kd.R_elder' (kr_ HO_527003.out) (Kd.R_base ho0) hb); have n2_ := Aside0.mk (Kd.R_elder' (kr_ HO_536003.out) (Kd.R_base ho0) hb); have n3_ := Aside0.mk (Kd.R_lower (Kd.R_new' (Kd.R_new' (Kd.R_new' ho0 (Kd.R_lt (kr_ HO_519003.out))) (Kd.R_lt (kr_ HO_527003.out))) (Kd.R_lt (kr_ HO_536003.out))) (below_size (hb4_ HB.out GE501.out GE518.out GE526.out GE535.out))); have n4_ := Aside0.mk (bb_ BK501.out hb); have n5_ := Aside0.mk (bb_ BK518.out hb); have n6_ := Aside0.mk (bb_ BK526.out hb); have n7_ := Aside0.mk (bb_ BK535.out hb); have n8_ := Aside0.mk (below_step (hb4_ HB.out GE501.out GE518.out GE526.out GE535.out) hb); clear HO_519003; clear HO_527003; clear HO_536003; clear BK501; clear BK518; clear BK526; clear BK535; clear HB; have HO_519003 := n0_; have HO_527003 := n1_; have HO_536003 := n2_; have HO556 := n3_; have BK501 := n4_; have BK518 := n5_; have BK526 := n6_; have BK535 := n7_; have HB := n8_; clear n0_ n1_ n2_ n3_ n4_ n5_ n6_ n7_ n8_; (try clear hb); (try clear hb2); (try clear hk); (try clear hi); (try clear ho0); obtain ⟨Ao116, co116, eo116⟩ := Kd.R_slice HO556.out; subst eo116) | ((with_reducible refine gate_callee (f := 39) rfl ?_); refine goesL_ (some 81) rfl rfl Try.func39 (by kernel_rfl) rfl #[.agg #[.int .i64 t551, .int .i64 t552, .int .i64 t553, .slice Ao116 t554.length co116, .int .i64 t557], .int .i64 a1] rfl (ml_) ?_; (with_reducible refine (impl_GrowHedge.calls kj60 t551 t552 t553 _ _ t554 t557 a1 t558 t559 t560 t561 t564 t565 _ ?side1 ?side2 A103.out).mono ?_); (case side1 => repeat (first | exact (Kd.R_reads' HO556.out).2.2 | (with_reducible refine Kd.C_alloc ?_ _) | (with_reducible refine Kd.C_drewN ?_ _) | (with_reducible refine Kd.C_drew ?_))); (case side2 => exact (Kd.R_reads' HO556.out).2.1); rintro e w117 ⟨v562, rfl, ho0, hb⟩; refine ⟨_, rfl, ?_⟩; have n0_ := Aside0.mk (Kd.R_elder' (kr_ HO_519003.out) (Kd.R_base ho0) hb); have n1_ := Aside0.mk (Kd.R_elder' (kr_ HO_527003.out) (Kd.R_base ho0) hb); have n2_ := Aside0.mk (Kd.R_elder' (kr_ HO_536003.out) (Kd.R_base ho0) hb); have n3_ := Aside0.mk (Kd.R_elder' (kr_ HO556.out) (Kd.R_base ho0) hb); have n4_ := Aside0.mk (Kd.R_lower (Kd.R_new' (Kd.R_new' (Kd.R_new' (Kd.R_new' ho0 (Kd.R_lt (kr_ HO_519003.out))) (Kd.R_lt (kr_ HO_527003.out))) (Kd.R_lt (kr_ HO_536003.out))) (Kd.R_lt (kr_ HO556.out))) (below_size (hb4_ HB.out GE501.out GE518.out GE526.out GE535.out))); have n5_ := Aside0.mk (bb_ BK501.out hb); have n6_ := Aside0.mk (bb_ BK518.out hb); have n7_ := Aside0.mk (bb_ BK526.out hb); have n8_ := Aside0.mk (bb_ BK535.out hb); have n9_ := Aside0.mk (below_step (hb4_ HB.out GE501.out GE518.out GE526.out GE535.out) hb); clear HO_519003; clear HO_527003; clear HO_536003; clear HO556; clear BK501; clear BK518; clear BK526; clear BK535; clear HB; have HO_519003 := n0_; have HO_527003 := n1_; have HO_536003 := n2_; have HO556 := n3_; have HO563 := n4_; have BK501 := n5_; have BK518 := n6_; have BK526 := n7_; have BK535 := n8_; have HB := n9_; clear n0_ n1_ n2_ n3_ n4_ n5_ n6_ n7_ n8_ n9_; (try clear hb); (try clear hb2); (try clear hk); (try clear hi); (try clear ho0)) | ((with_reducible refine gate_dst (N := 14) rfl ?_); refine box_event ?hg (N := 14) ?hd (cs := #[.int .i64 0, .int .i64 0, .int .i64 0, .slice none 0 0, .int .i64 0]) (t := 35) ?hr ?_; (case hd => rfl); (case hg => rfl); (case hr => first | (go_simp; done) | (go_simp; rfl)); intro gb566 hg w118 hbox hb; have n0_ := Aside0.mk (Kd.R_below (kr_ HO_519003.out) hb); have n1_ := Aside0.mk (Kd.R_below (kr_ HO_527003.out) hb); have n2_ := Aside0.mk (Kd.R_below (kr_ HO_536003.out) hb); have n3_ := Aside0.mk (Kd.R_below (kr_ HO556.out) hb); have n4_ := Aside0.mk (Kd.R_below (kr_ HO563.out) hb); have n5_ := Aside0.mk (bb_ BK501.out hb); have n6_ := Aside0.mk (bb_ BK518.out hb); have n7_ := Aside0.mk (bb_ BK526.out hb); have n8_ := Aside0.mk (bb_ BK535.out hb); have n9_ := Aside0.mk (below_step (hb4_ HB.out GE501.out GE518.out GE526.out GE535.out) hb); have n10_ := Aside0.mk (hbox); have n11_ := Aside0.mk (gs_ hg (hb4_ HB.out GE501.out GE518.out GE526.out GE535.out)); have n12_ := Aside0.mk (gs_ hg (hb4_ HB.out GE501.out GE518.out GE526.out GE535.out)); have n13_ := Aside0.mk (nl_ hg BK501.out); have n14_ := Aside0.mk (nr_ hg BK501.out); have n15_ := Aside0.mk (nl_ hg BK518.out); have n16_ := Aside0.mk (nr_ hg BK518.out); have n17_ := Aside0.mk (nl_ hg BK526.out); have n18_ := Aside0.mk (nr_ hg BK526.out); have n19_ := Aside0.mk (nl_ hg BK535.out); have n20_ := Aside0.mk (nr_ hg BK535.out); clear HO_519003; clear HO_527003; clear HO_536003; clear HO556; clear HO563; clear BK501; clear BK518; clear BK526; clear BK535; clear HB; have HO_519003 := n0_; have HO_527003 := n1_; have HO_536003 := n2_; have HO556 := n3_; have HO563 := n4_; have BK501 := n5_; have BK518 := n6_; have BK526 := n7_; have BK535 := n8_; have HB := n9_; have BK566 := n10_; have GW566 := n11_; have GE566 := n12_; have NB501_566 := n13_; have NB566_501 := n14_; have NB518_566 := n15_; have NB566_518 := n16_; have NB526_566 := n17_; have NB566_526 := n18_; have NB535_566 := n19_; have NB566_535 := n20_; clear n0_ n1_ n2_ n3_ n4_ n5_ n6_ n7_ n8_ n9_ n10_ n11_ n12_ n13_ n14_ n15_ n16_ n17_ n18_ n19_ n20_; clear hb hbox hg; have hnb119 := NB566_501.out; have hnc119 := NB501_566.out; have hnb120 := NB566_518.out; have hnc120 := NB518_566.out; have hnb121 := NB566_526.out; have hnc121 := NB526_566.out; have hnb122 := NB566_535.out; have hnc122 := NB535_566.out; obtain ⟨hcz123_0, hcz123_1, hcz123_2, hcz123_3, hcz123_4⟩ := cz5_ BK566.out; obtain ⟨hfz123_0, hfz123_1, hfz123_2, hfz123_3, hfz123_4⟩ := fz5_ BK566.out; obtain ⟨Ao124, co124, eo124⟩ := Kd.R_slice HO563.out; subst eo124))
           (try simp only [Act.put, List.setIfInBounds_toArray, List.set_cons_zero, List.set_cons_succ])
           go_cut [92] (fun v92 wc => ∃ (kq : Nat) (x92_103 : Bool), v92 = .bool x92_103 ∧ Aside0 (laws_FnExactGrowHedge.j2 kq t548 x92_103 t527 t528 t529 t549 t533 = some r) ∧ Aside0 (kq ≤ kj60) ∧ Aside0 (Kd.R (Kd.int .i64) 3 wc w.heap.size (fun k_ => some k_ ≠ ((.slice Ao30 t546.length co30) : Value).ownBlock ∧ some k_ ≠ ((.slice Ao37 t530.length co37) : Value).ownBlock ∧ some k_ ≠ ((.slice Ao124 t561.length co124) : Value).ownBlock) (.slice Ao23 t513.length co23) t513) ∧ Aside0 (Kd.R (Kd.int .i64) 3 wc w.heap.size (fun k_ => some k_ ≠ ((.slice Ao23 t513.length co23) : Value).ownBlock ∧ some k_ ≠ ((.slice Ao37 t530.length co37) : Value).ownBlock ∧ some k_ ≠ ((.slice Ao124 t561.length co124) : Value).ownBlock) (.slice Ao30 t546.length co30) t546) ∧ Aside0 (Kd.R (Kd.int .i64) 3 wc w.heap.size (fun k_ => some k_ ≠ ((.slice Ao23 t513.length co23) : Value).ownBlock ∧ some k_ ≠ ((.slice Ao30 t546.length co30) : Value).ownBlock ∧ some k_ ≠ ((.slice Ao124 t561.length co124) : Value).ownBlock) (.slice Ao37 t530.length co37) t549) ∧ Aside0 (Kd.R (Kd.int .i64) 3 wc w.heap.size (fun k_ => some k_ ≠ ((.slice Ao23 t513.length co23) : Value).ownBlock ∧ some k_ ≠ ((.slice Ao30 t546.length co30) : Value).ownBlock ∧ some k_ ≠ ((.slice Ao37 t530.length co37) : Value).ownBlock) (.slice Ao124 t561.length co124) t561) ∧ Aside0 (wc.heap[gb501]? = some (.cells #[.int .i64 a0_0, .int .i64 a0_1, .int .i64 a0_2, (.slice A0_3 l0_3.length c0_3), .int .i64 a0_4] 28 (0, 0))) ∧ Aside0 (wc.heap[gb518]? = some (.cells #[.int .i64 t510, .int .i64 t511, .int .i64 t512, (.slice Ao23 t513.length co23), .int .i64 t516] 35 (0, 0))) ∧ Aside0 (wc.heap[gb526]? = some (.cells #[.int .i64 t519, .int .i64 t520, .int .i64 t521, (.slice Ao30 t546.length co30), .int .i64 t525] 35 (0, 0))) ∧ Aside0 (wc.heap[gb535]? = some (.cells #[.int .i64 t527, .int .i64 t528, .int .i64 t529, (.slice Ao37 t530.length co37), .int .i64 t533] 35 (0, 0))) ∧ Aside0 (wc.heap[gb566]? = some (.cells #[.int .i64 t558, .int .i64 t559, .int .i64 t560, (.slice Ao124 t561.length co124), .int .i64 t564] 35 (0, 0))) ∧ Aside0 (Below w.heap.size w wc))
           case first =>
            have H := HC104.out
            clear HC104
            replace H := Option.bind_eq_some_iff.mp H
            obtain ⟨t567, A1250, H⟩ := H
            replace H : (if t567 = true then (laws_FnExactGrowHedge.j2 kj60 t548 (t565 != t517) t527 t528 t529 t549 t533) else (laws_FnExactGrowHedge.j2 kj60 t548 true t527 t528 t529 t549 t533)) = some r := H
            have A125 := Aside0.mk A1250
            clear A1250
            by_cases c126 : t567 = true
            ·subst c126
             have H1 : (laws_FnExactGrowHedge.j2 kj60 t548 (t565 != t517) t527 t528 t529 t549 t533) = some r := by rw [if_pos rfl] at H; exact H
             clear H
             have H := H1
             clear H1
             have H' := Aside0.mk H
             clear H
             have hnb127 := NB566_501.out
             have hnc127 := NB501_566.out
             have hnb128 := NB566_518.out
             have hnc128 := NB518_566.out
             have hnb129 := NB566_526.out
             have hnc129 := NB526_566.out
             have hnb130 := NB566_535.out
             have hnc130 := NB535_566.out
             obtain ⟨hcz131_0, hcz131_1, hcz131_2, hcz131_3, hcz131_4⟩ := cz5_ BK566.out
             obtain ⟨hfz131_0, hfz131_1, hfz131_2, hfz131_3, hfz131_4⟩ := fz5_ BK566.out
             have hnb132 := NB518_501.out
             have hnc132 := NB501_518.out
             have hnb133 := NB518_526.out
             have hnc133 := NB526_518.out
             have hnb134 := NB518_535.out
             have hnc134 := NB535_518.out
             obtain ⟨hcz135_0, hcz135_1, hcz135_2, hcz135_3, hcz135_4⟩ := cz5_ BK518.out
             obtain ⟨hfz135_0, hfz135_1, hfz135_2, hfz135_3, hfz135_4⟩ := fz5_ BK518.out
             go_wp2_with (first | ((with_reducible refine gate_callee (f := 19) rfl ?_); refine goesL_ (some 86) rfl rfl Try.func19 (by kernel_rfl) rfl #[.agg #[.int .i64 t558, .int .i64 t559, .int .i64 t560, .slice Ao124 t561.length co124, .int .i64 t564], .agg #[.int .i64 t510, .int .i64 t511, .int .i64 t512, .slice Ao23 t513.length co23, .int .i64 t516]] rfl (ml_) ?_; (with_reducible refine (laws_eqHedge.calls kj60 t558 t559 t560 _ _ t561 t564 t510 t511 t512 _ _ t513 t516 true _ ?side1 ?side2 ?side3 ?side4 A125.out).mono ?_); (case side1 => refine (Kd.R_reads' (e := 3) (base := w.heap.size) (ok := fun k_ => ((((True ∧ some k_ ≠ (.slice Ao23 t513.length co23 : Value).ownBlock) ∧ some k_ ≠ (.slice Ao30 t546.length co30 : Value).ownBlock) ∧ some k_ ≠ (.slice Ao37 t530.length co37 : Value).ownBlock) ∧ some k_ ≠ (.slice Ao116 t554.length co116 : Value).ownBlock)) (n := t561.length) (c := co124) ?_).2.2; exact (by (with_reducible repeat (first | apply Kd.R_alloc | apply Kd.R_drewN | apply Kd.R_drew)); exact (Kd.R_mono (Kd.R_far (p := ⟨gb566, 4, none⟩) (Kd.R_far (p := ⟨gb566, 3, none⟩) (Kd.R_far (p := ⟨gb566, 2, none⟩) (Kd.R_far (p := ⟨gb566, 1, none⟩) (Kd.R_far (p := ⟨gb566, 0, none⟩) (Kd.R_types HO563.out BK566.out (by decide)) (fun _ hk => hk.2) (.int .i64 t558)) (fun _ hk => hk.2) (.int .i64 t559)) (fun _ hk => hk.2) (.int .i64 t560)) (fun _ hk => hk.2) (.slice Ao124 t561.length co124)) (fun _ hk => hk.2) (.int .i64 t564)) (fun _ h_ => h_.1)))); (case side2 => exact (Kd.R_reads' HO563.out).2.1); (case side3 => refine (Kd.R_reads' (e := 3) (base := w.heap.size) (ok := fun k_ => (((some k_ ≠ (.slice Ao30 t546.length co30 : Value).ownBlock ∧ some k_ ≠ (.slice Ao37 t530.length co37 : Value).ownBlock) ∧ some k_ ≠ (.slice Ao116 t554.length co116 : Value).ownBlock) ∧ some k_ ≠ (.slice Ao124 t561.length co124 : Value).ownBlock)) (n := t513.length) (c := co23) ?_).2.2; exact (by (with_reducible repeat (first | apply Kd.R_alloc | apply Kd.R_drewN | apply Kd.R_drew)); exact (Kd.R_mono (Kd.R_far (p := ⟨gb566, 4, none⟩) (Kd.R_far (p := ⟨gb566, 3, none⟩) (Kd.R_far (p := ⟨gb566, 2, none⟩) (Kd.R_far (p := ⟨gb566, 1, none⟩) (Kd.R_far (p := ⟨gb566, 0, none⟩) (Kd.R_types HO_519003.out BK566.out (by decide)) (fun _ hk => hk.2) (.int .i64 t558)) (fun _ hk => hk.2) (.int .i64 t559)) (fun _ hk => hk.2) (.int .i64 t560)) (fun _ hk => hk.2) (.slice Ao124 t561.length co124)) (fun _ hk => hk.2) (.int .i64 t564)) (fun _ h_ => h_.1)))); (case side4 => exact (Kd.R_reads' HO_519003.out).2.1); rintro e w136 ⟨rfl, hb⟩; refine ⟨_, rfl, ?_⟩; replace HO_519003 := Aside0.mk (Kd.R_below (by (with_reducible repeat (first | apply Kd.R_alloc | apply Kd.R_drewN | apply Kd.R_drew)); exact (Kd.R_mono (Kd.R_far (p := ⟨gb566, 4, none⟩) (Kd.R_far (p := ⟨gb566, 3, none⟩) (Kd.R_far (p := ⟨gb566, 2, none⟩) (Kd.R_far (p := ⟨gb566, 1, none⟩) (Kd.R_far (p := ⟨gb566, 0, none⟩) (Kd.R_types HO_519003.out BK566.out (by decide)) (fun _ hk => hk.2) (.int .i64 t558)) (fun _ hk => hk.2) (.int .i64 t559)) (fun _ hk => hk.2) (.int .i64 t560)) (fun _ hk => hk.2) (.slice Ao124 t561.length co124)) (fun _ hk => hk.2) (.int .i64 t564)) (fun _ h_ => h_.1))) hb); replace HO_527003 := Aside0.mk (Kd.R_below (by (with_reducible repeat (first | apply Kd.R_alloc | apply Kd.R_drewN | apply Kd.R_drew)); exact (Kd.R_mono (Kd.R_far (p := ⟨gb566, 4, none⟩) (Kd.R_far (p := ⟨gb566, 3, none⟩) (Kd.R_far (p := ⟨gb566, 2, none⟩) (Kd.R_far (p := ⟨gb566, 1, none⟩) (Kd.R_far (p := ⟨gb566, 0, none⟩) (Kd.R_types HO_527003.out BK566.out (by decide)) (fun _ hk => hk.2) (.int .i64 t558)) (fun _ hk => hk.2) (.int .i64 t559)) (fun _ hk => hk.2) (.int .i64 t560)) (fun _ hk => hk.2) (.slice Ao124 t561.length co124)) (fun _ hk => hk.2) (.int .i64 t564)) (fun _ h_ => h_.1))) hb); replace HO_536003 := Aside0.mk (Kd.R_below (by (with_reducible repeat (first | apply Kd.R_alloc | apply Kd.R_drewN | apply Kd.R_drew)); exact (Kd.R_mono (Kd.R_far (p := ⟨gb566, 4, none⟩) (Kd.R_far (p := ⟨gb566, 3, none⟩) (Kd.R_far (p := ⟨gb566, 2, none⟩) (Kd.R_far (p := ⟨gb566, 1, none⟩) (Kd.R_far (p := ⟨gb566, 0, none⟩) (Kd.R_types HO_536003.out BK566.out (by decide)) (fun _ hk => hk.2) (.int .i64 t558)) (fun _ hk => hk.2) (.int .i64 t559)) (fun _ hk => hk.2) (.int .i64 t560)) (fun _ hk => hk.2) (.slice Ao124 t561.length co124)) (fun _ hk => hk.2) (.int .i64 t564)) (fun _ h_ => h_.1))) hb); replace HO556 := Aside0.mk (Kd.R_below (by (with_reducible repeat (first | apply Kd.R_alloc | apply Kd.R_drewN | apply Kd.R_drew)); exact (Kd.R_mono (Kd.R_far (p := ⟨gb566, 4, none⟩) (Kd.R_far (p := ⟨gb566, 3, none⟩) (Kd.R_far (p := ⟨gb566, 2, none⟩) (Kd.R_far (p := ⟨gb566, 1, none⟩) (Kd.R_far (p := ⟨gb566, 0, none⟩) (Kd.R_types HO556.out BK566.out (by decide)) (fun _ hk => hk.2) (.int .i64 t558)) (fun _ hk => hk.2) (.int .i64 t559)) (fun _ hk => hk.2) (.int .i64 t560)) (fun _ hk => hk.2) (.slice Ao124 t561.length co124)) (fun _ hk => hk.2) (.int .i64 t564)) (fun _ h_ => h_.1))) hb); replace HO563 := Aside0.mk (Kd.R_below (by (with_reducible repeat (first | apply Kd.R_alloc | apply Kd.R_drewN | apply Kd.R_drew)); exact (Kd.R_mono (Kd.R_far (p := ⟨gb566, 4, none⟩) (Kd.R_far (p := ⟨gb566, 3, none⟩) (Kd.R_far (p := ⟨gb566, 2, none⟩) (Kd.R_far (p := ⟨gb566, 1, none⟩) (Kd.R_far (p := ⟨gb566, 0, none⟩) (Kd.R_types HO563.out BK566.out (by decide)) (fun _ hk => hk.2) (.int .i64 t558)) (fun _ hk => hk.2) (.int .i64 t559)) (fun _ hk => hk.2) (.int .i64 t560)) (fun _ hk => hk.2) (.slice Ao124 t561.length co124)) (fun _ hk => hk.2) (.int .i64 t564)) (fun _ h_ => h_.1))) hb); replace BK501 := Aside0.mk (blk_below (g := gb501) (o := .cells #[.int .i64 a0_0, .int .i64 a0_1, .int .i64 a0_2, .slice A0_3 l0_3.length c0_3, .int .i64 a0_4] 28 (0, 0)) (by (with_reducible repeat (first | refine blk_drewN ?_ _ | refine blk_drew ?_ | refine blk_alloc ?_ _)); refine blk_far ?_ NB501_566.out _; (with_reducible repeat (first | refine blk_drewN ?_ _ | refine blk_drew ?_ | refine blk_alloc ?_ _)); refine blk_far ?_ NB501_566.out _; (with_reducible repeat (first | refine blk_drewN ?_ _ | refine blk_drew ?_ | refine blk_alloc ?_ _)); refine blk_far ?_ NB501_566.out _; (with_reducible repeat (first | refine blk_drewN ?_ _ | refine blk_drew ?_ | refine blk_alloc ?_ _)); refine blk_far ?_ NB501_566.out _; (with_reducible repeat (first | refine blk_drewN ?_ _ | refine blk_drew ?_ | refine blk_alloc ?_ _)); refine blk_far ?_ NB501_566.out _; (with_reducible repeat (first | refine blk_drewN ?_ _ | refine blk_drew ?_ | refine blk_alloc ?_ _)); exact BK501.out) hb); replace BK518 := Aside0.mk (blk_below (g := gb518) (o := .cells #[.int .i64 t510, .int .i64 t511, .int .i64 t512, .slice Ao23 t513.length co23, .int .i64 t516] 35 (0, 0)) (by (with_reducible repeat (first | refine blk_drewN ?_ _ | refine blk_drew ?_ | refine blk_alloc ?_ _)); refine blk_far ?_ NB518_566.out _; (with_reducible repeat (first | refine blk_drewN ?_ _ | refine blk_drew ?_ | refine blk_alloc ?_ _)); refine blk_far ?_ NB518_566.out _; (with_reducible repeat (first | refine blk_drewN ?_ _ | refine blk_drew ?_ | refine blk_alloc ?_ _)); refine blk_far ?_ NB518_566.out _; (with_reducible repeat (first | refine blk_drewN ?_ _ | refine blk_drew ?_ | refine blk_alloc ?_ _)); refine blk_far ?_ NB518_566.out _; (with_reducible repeat (first | refine blk_drewN ?_ _ | refine blk_drew ?_ | refine blk_alloc ?_ _)); refine blk_far ?_ NB518_566.out _; (with_reducible repeat (first | refine blk_drewN ?_ _ | refine blk_drew ?_ | refine blk_alloc ?_ _)); exact BK518.out) hb); replace BK526 := Aside0.mk (blk_below (g := gb526) (o := .cells #[.int .i64 t519, .int .i64 t520, .int .i64 t521, .slice Ao30 t546.length co30, .int .i64 t525] 35 (0, 0)) (by (with_reducible repeat (first | refine blk_drewN ?_ _ | refine blk_drew ?_ | refine blk_alloc ?_ _)); refine blk_far ?_ NB526_566.out _; (with_reducible repeat (first | refine blk_drewN ?_ _ | refine blk_drew ?_ | refine blk_alloc ?_ _)); refine blk_far ?_ NB526_566.out _; (with_reducible repeat (first | refine blk_drewN ?_ _ | refine blk_drew ?_ | refine blk_alloc ?_ _)); refine blk_far ?_ NB526_566.out _; (with_reducible repeat (first | refine blk_drewN ?_ _ | refine blk_drew ?_ | refine blk_alloc ?_ _)); refine blk_far ?_ NB526_566.out _; (with_reducible repeat (first | refine blk_drewN ?_ _ | refine blk_drew ?_ | refine blk_alloc ?_ _)); refine blk_far ?_ NB526_566.out _; (with_reducible repeat (first | refine blk_drewN ?_ _ | refine blk_drew ?_ | refine blk_alloc ?_ _)); exact BK526.out) hb); replace BK535 := Aside0.mk (blk_below (g := gb535) (o := .cells #[.int .i64 t527, .int .i64 t528, .int .i64 t529, .slice Ao37 t530.length co37, .int .i64 t533] 35 (0, 0)) (by (with_reducible repeat (first | refine blk_drewN ?_ _ | refine blk_drew ?_ | refine blk_alloc ?_ _)); refine blk_far ?_ NB535_566.out _; (with_reducible repeat (first | refine blk_drewN ?_ _ | refine blk_drew ?_ | refine blk_alloc ?_ _)); refine blk_far ?_ NB535_566.out _; (with_reducible repeat (first | refine blk_drewN ?_ _ | refine blk_drew ?_ | refine blk_alloc ?_ _)); refine blk_far ?_ NB535_566.out _; (with_reducible repeat (first | refine blk_drewN ?_ _ | refine blk_drew ?_ | refine blk_alloc ?_ _)); refine blk_far ?_ NB535_566.out _; (with_reducible repeat (first | refine blk_drewN ?_ _ | refine blk_drew ?_ | refine blk_alloc ?_ _)); refine blk_far ?_ NB535_566.out _; (with_reducible repeat (first | refine blk_drewN ?_ _ | refine blk_drew ?_ | refine blk_alloc ?_ _)); exact BK535.out) hb); replace BK566 := Aside0.mk (blk_below (g := gb566) (o := .cells #[.int .i64 t558, .int .i64 t559, .int .i64 t560, .slice Ao124 t561.length co124, .int .i64 t564] 35 (0, 0)) (by (with_reducible repeat (first | refine blk_drewN ?_ _ | refine blk_drew ?_ | refine blk_alloc ?_ _)); refine blk_put (cs := #[.int .i64 t558, .int .i64 t559, .int .i64 t560, .slice Ao124 t561.length co124, .int .i64 0]) ?_ 4 _ rfl; (with_reducible repeat (first | refine blk_drewN ?_ _ | refine blk_drew ?_ | refine blk_alloc ?_ _)); refine blk_put (cs := #[.int .i64 t558, .int .i64 t559, .int .i64 t560, .slice none 0 0, .int .i64 0]) ?_ 3 _ rfl; (with_reducible repeat (first | refine blk_drewN ?_ _ | refine blk_drew ?_ | refine blk_alloc ?_ _)); refine blk_put (cs := #[.int .i64 t558, .int .i64 t559, .int .i64 0, .slice none 0 0, .int .i64 0]) ?_ 2 _ rfl; (with_reducible repeat (first | refine blk_drewN ?_ _ | refine blk_drew ?_ | refine blk_alloc ?_ _)); refine blk_put (cs := #[.int .i64 t558, .int .i64 0, .int .i64 0, .slice none 0 0, .int .i64 0]) ?_ 1 _ rfl; (with_reducible repeat (first | refine blk_drewN ?_ _ | refine blk_drew ?_ | refine blk_alloc ?_ _)); refine blk_put (cs := #[.int .i64 0, .int .i64 0, .int .i64 0, .slice none 0 0, .int .i64 0]) ?_ 0 _ rfl; (with_reducible repeat (first | refine blk_drewN ?_ _ | refine blk_drew ?_ | refine blk_alloc ?_ _)); exact BK566.out) hb); replace HB := Aside0.mk (below_step (hb5_ HB.out GE501.out GE518.out GE526.out GE535.out GE566.out) hb); (try clear hb); (try clear hb2); (try clear hk); (try clear hi)))
             go_meet
             case rel => exact ⟨_, ((t565 != t517)), (by first | rfl | (simp; done) | (simp [*]; done)), H', ⟨by have := HJ11.out; have := HJ60.out; first | omega | exact Nat.le_refl _⟩, ⟨by (try simp only [hl527003_60]); (with_reducible repeat (first | apply Kd.R_alloc | apply Kd.R_drewN | apply Kd.R_drew)); exact Kd.R_mono HO_519003.out (fun _ hk => ⟨hk.1.1.1, ⟨hk.1.1.2, hk.2⟩⟩)⟩, ⟨by (try simp only [hl527003_60]); (with_reducible repeat (first | apply Kd.R_alloc | apply Kd.R_drewN | apply Kd.R_drew)); exact Kd.R_mono HO_527003.out (fun _ hk => ⟨hk.1.1.1, ⟨hk.1.1.2, hk.2⟩⟩)⟩, ⟨by (try simp only [hl527003_60]); (with_reducible repeat (first | apply Kd.R_alloc | apply Kd.R_drewN | apply Kd.R_drew)); exact Kd.R_mono HO_536003.out (fun _ hk => ⟨hk.1.1.1, ⟨hk.1.1.2, hk.2⟩⟩)⟩, ⟨by (try simp only [hl527003_60]); (with_reducible repeat (first | apply Kd.R_alloc | apply Kd.R_drewN | apply Kd.R_drew)); exact Kd.R_mono HO563.out (fun _ hk => ⟨hk.1.1.1.2, ⟨hk.1.1.2, hk.1.2⟩⟩)⟩, ⟨by (try simp only [hl527003_60]); (with_reducible repeat (first | refine blk_drewN ?_ _ | refine blk_drew ?_ | refine blk_alloc ?_ _)); exact BK501.out⟩, ⟨by (try simp only [hl527003_60]); (with_reducible repeat (first | refine blk_drewN ?_ _ | refine blk_drew ?_ | refine blk_alloc ?_ _)); exact BK518.out⟩, ⟨by (try simp only [hl527003_60]); (with_reducible repeat (first | refine blk_drewN ?_ _ | refine blk_drew ?_ | refine blk_alloc ?_ _)); exact BK526.out⟩, ⟨by (try simp only [hl527003_60]); (with_reducible repeat (first | refine blk_drewN ?_ _ | refine blk_drew ?_ | refine blk_alloc ?_ _)); exact BK535.out⟩, ⟨by (try simp only [hl527003_60]); (with_reducible repeat (first | refine blk_drewN ?_ _ | refine blk_drew ?_ | refine blk_alloc ?_ _)); exact BK566.out⟩, ⟨hb5_ HB.out GE501.out GE518.out GE526.out GE535.out GE566.out⟩⟩
            ·replace c126 := Bool.eq_false_iff.mpr c126
             subst c126
             have H1 : (laws_FnExactGrowHedge.j2 kj60 t548 true t527 t528 t529 t549 t533) = some r := by rw [if_neg (show ¬ (false = true) by decide)] at H; exact H
             clear H
             have H := H1
             clear H1
             have H' := Aside0.mk H
             clear H
             have hnb137 := NB566_501.out
             have hnc137 := NB501_566.out
             have hnb138 := NB566_518.out
             have hnc138 := NB518_566.out
             have hnb139 := NB566_526.out
             have hnc139 := NB526_566.out
             have hnb140 := NB566_535.out
             have hnc140 := NB535_566.out
             obtain ⟨hcz141_0, hcz141_1, hcz141_2, hcz141_3, hcz141_4⟩ := cz5_ BK566.out
             obtain ⟨hfz141_0, hfz141_1, hfz141_2, hfz141_3, hfz141_4⟩ := fz5_ BK566.out
             have hnb142 := NB518_501.out
             have hnc142 := NB501_518.out
             have hnb143 := NB518_526.out
             have hnc143 := NB526_518.out
             have hnb144 := NB518_535.out
             have hnc144 := NB535_518.out
             obtain ⟨hcz145_0, hcz145_1, hcz145_2, hcz145_3, hcz145_4⟩ := cz5_ BK518.out
             obtain ⟨hfz145_0, hfz145_1, hfz145_2, hfz145_3, hfz145_4⟩ := fz5_ BK518.out
             go_wp2_with (first | ((with_reducible refine gate_callee (f := 19) rfl ?_); refine goesL_ (some 86) rfl rfl Try.func19 (by kernel_rfl) rfl #[.agg #[.int .i64 t558, .int .i64 t559, .int .i64 t560, .slice Ao124 t561.length co124, .int .i64 t564], .agg #[.int .i64 t510, .int .i64 t511, .int .i64 t512, .slice Ao23 t513.length co23, .int .i64 t516]] rfl (ml_) ?_; (with_reducible refine (laws_eqHedge.calls kj60 t558 t559 t560 _ _ t561 t564 t510 t511 t512 _ _ t513 t516 false _ ?side1 ?side2 ?side3 ?side4 A125.out).mono ?_); (case side1 => refine (Kd.R_reads' (e := 3) (base := w.heap.size) (ok := fun k_ => ((((True ∧ some k_ ≠ (.slice Ao23 t513.length co23 : Value).ownBlock) ∧ some k_ ≠ (.slice Ao30 t546.length co30 : Value).ownBlock) ∧ some k_ ≠ (.slice Ao37 t530.length co37 : Value).ownBlock) ∧ some k_ ≠ (.slice Ao116 t554.length co116 : Value).ownBlock)) (n := t561.length) (c := co124) ?_).2.2; exact (by (with_reducible repeat (first | apply Kd.R_alloc | apply Kd.R_drewN | apply Kd.R_drew)); exact (Kd.R_mono (Kd.R_far (p := ⟨gb566, 4, none⟩) (Kd.R_far (p := ⟨gb566, 3, none⟩) (Kd.R_far (p := ⟨gb566, 2, none⟩) (Kd.R_far (p := ⟨gb566, 1, none⟩) (Kd.R_far (p := ⟨gb566, 0, none⟩) (Kd.R_types HO563.out BK566.out (by decide)) (fun _ hk => hk.2) (.int .i64 t558)) (fun _ hk => hk.2) (.int .i64 t559)) (fun _ hk => hk.2) (.int .i64 t560)) (fun _ hk => hk.2) (.slice Ao124 t561.length co124)) (fun _ hk => hk.2) (.int .i64 t564)) (fun _ h_ => h_.1)))); (case side2 => exact (Kd.R_reads' HO563.out).2.1); (case side3 => refine (Kd.R_reads' (e := 3) (base := w.heap.size) (ok := fun k_ => (((some k_ ≠ (.slice Ao30 t546.length co30 : Value).ownBlock ∧ some k_ ≠ (.slice Ao37 t530.length co37 : Value).ownBlock) ∧ some k_ ≠ (.slice Ao116 t554.length co116 : Value).ownBlock) ∧ some k_ ≠ (.slice Ao124 t561.length co124 : Value).ownBlock)) (n := t513.length) (c := co23) ?_).2.2; exact (by (with_reducible repeat (first | apply Kd.R_alloc | apply Kd.R_drewN | apply Kd.R_drew)); exact (Kd.R_mono (Kd.R_far (p := ⟨gb566, 4, none⟩) (Kd.R_far (p := ⟨gb566, 3, none⟩) (Kd.R_far (p := ⟨gb566, 2, none⟩) (Kd.R_far (p := ⟨gb566, 1, none⟩) (Kd.R_far (p := ⟨gb566, 0, none⟩) (Kd.R_types HO_519003.out BK566.out (by decide)) (fun _ hk => hk.2) (.int .i64 t558)) (fun _ hk => hk.2) (.int .i64 t559)) (fun _ hk => hk.2) (.int .i64 t560)) (fun _ hk => hk.2) (.slice Ao124 t561.length co124)) (fun _ hk => hk.2) (.int .i64 t564)) (fun _ h_ => h_.1)))); (case side4 => exact (Kd.R_reads' HO_519003.out).2.1); rintro e w146 ⟨rfl, hb⟩; refine ⟨_, rfl, ?_⟩; replace HO_519003 := Aside0.mk (Kd.R_below (by (with_reducible repeat (first | apply Kd.R_alloc | apply Kd.R_drewN | apply Kd.R_drew)); exact (Kd.R_mono (Kd.R_far (p := ⟨gb566, 4, none⟩) (Kd.R_far (p := ⟨gb566, 3, none⟩) (Kd.R_far (p := ⟨gb566, 2, none⟩) (Kd.R_far (p := ⟨gb566, 1, none⟩) (Kd.R_far (p := ⟨gb566, 0, none⟩) (Kd.R_types HO_519003.out BK566.out (by decide)) (fun _ hk => hk.2) (.int .i64 t558)) (fun _ hk => hk.2) (.int .i64 t559)) (fun _ hk => hk.2) (.int .i64 t560)) (fun _ hk => hk.2) (.slice Ao124 t561.length co124)) (fun _ hk => hk.2) (.int .i64 t564)) (fun _ h_ => h_.1))) hb); replace HO_527003 := Aside0.mk (Kd.R_below (by (with_reducible repeat (first | apply Kd.R_alloc | apply Kd.R_drewN | apply Kd.R_drew)); exact (Kd.R_mono (Kd.R_far (p := ⟨gb566, 4, none⟩) (Kd.R_far (p := ⟨gb566, 3, none⟩) (Kd.R_far (p := ⟨gb566, 2, none⟩) (Kd.R_far (p := ⟨gb566, 1, none⟩) (Kd.R_far (p := ⟨gb566, 0, none⟩) (Kd.R_types HO_527003.out BK566.out (by decide)) (fun _ hk => hk.2) (.int .i64 t558)) (fun _ hk => hk.2) (.int .i64 t559)) (fun _ hk => hk.2) (.int .i64 t560)) (fun _ hk => hk.2) (.slice Ao124 t561.length co124)) (fun _ hk => hk.2) (.int .i64 t564)) (fun _ h_ => h_.1))) hb); replace HO_536003 := Aside0.mk (Kd.R_below (by (with_reducible repeat (first | apply Kd.R_alloc | apply Kd.R_drewN | apply Kd.R_drew)); exact (Kd.R_mono (Kd.R_far (p := ⟨gb566, 4, none⟩) (Kd.R_far (p := ⟨gb566, 3, none⟩) (Kd.R_far (p := ⟨gb566, 2, none⟩) (Kd.R_far (p := ⟨gb566, 1, none⟩) (Kd.R_far (p := ⟨gb566, 0, none⟩) (Kd.R_types HO_536003.out BK566.out (by decide)) (fun _ hk => hk.2) (.int .i64 t558)) (fun _ hk => hk.2) (.int .i64 t559)) (fun _ hk => hk.2) (.int .i64 t560)) (fun _ hk => hk.2) (.slice Ao124 t561.length co124)) (fun _ hk => hk.2) (.int .i64 t564)) (fun _ h_ => h_.1))) hb); replace HO556 := Aside0.mk (Kd.R_below (by (with_reducible repeat (first | apply Kd.R_alloc | apply Kd.R_drewN | apply Kd.R_drew)); exact (Kd.R_mono (Kd.R_far (p := ⟨gb566, 4, none⟩) (Kd.R_far (p := ⟨gb566, 3, none⟩) (Kd.R_far (p := ⟨gb566, 2, none⟩) (Kd.R_far (p := ⟨gb566, 1, none⟩) (Kd.R_far (p := ⟨gb566, 0, none⟩) (Kd.R_types HO556.out BK566.out (by decide)) (fun _ hk => hk.2) (.int .i64 t558)) (fun _ hk => hk.2) (.int .i64 t559)) (fun _ hk => hk.2) (.int .i64 t560)) (fun _ hk => hk.2) (.slice Ao124 t561.length co124)) (fun _ hk => hk.2) (.int .i64 t564)) (fun _ h_ => h_.1))) hb); replace HO563 := Aside0.mk (Kd.R_below (by (with_reducible repeat (first | apply Kd.R_alloc | apply Kd.R_drewN | apply Kd.R_drew)); exact (Kd.R_mono (Kd.R_far (p := ⟨gb566, 4, none⟩) (Kd.R_far (p := ⟨gb566, 3, none⟩) (Kd.R_far (p := ⟨gb566, 2, none⟩) (Kd.R_far (p := ⟨gb566, 1, none⟩) (Kd.R_far (p := ⟨gb566, 0, none⟩) (Kd.R_types HO563.out BK566.out (by decide)) (fun _ hk => hk.2) (.int .i64 t558)) (fun _ hk => hk.2) (.int .i64 t559)) (fun _ hk => hk.2) (.int .i64 t560)) (fun _ hk => hk.2) (.slice Ao124 t561.length co124)) (fun _ hk => hk.2) (.int .i64 t564)) (fun _ h_ => h_.1))) hb); replace BK501 := Aside0.mk (blk_below (g := gb501) (o := .cells #[.int .i64 a0_0, .int .i64 a0_1, .int .i64 a0_2, .slice A0_3 l0_3.length c0_3, .int .i64 a0_4] 28 (0, 0)) (by (with_reducible repeat (first | refine blk_drewN ?_ _ | refine blk_drew ?_ | refine blk_alloc ?_ _)); refine blk_far ?_ NB501_566.out _; (with_reducible repeat (first | refine blk_drewN ?_ _ | refine blk_drew ?_ | refine blk_alloc ?_ _)); refine blk_far ?_ NB501_566.out _; (with_reducible repeat (first | refine blk_drewN ?_ _ | refine blk_drew ?_ | refine blk_alloc ?_ _)); refine blk_far ?_ NB501_566.out _; (with_reducible repeat (first | refine blk_drewN ?_ _ | refine blk_drew ?_ | refine blk_alloc ?_ _)); refine blk_far ?_ NB501_566.out _; (with_reducible repeat (first | refine blk_drewN ?_ _ | refine blk_drew ?_ | refine blk_alloc ?_ _)); refine blk_far ?_ NB501_566.out _; (with_reducible repeat (first | refine blk_drewN ?_ _ | refine blk_drew ?_ | refine blk_alloc ?_ _)); exact BK501.out) hb); replace BK518 := Aside0.mk (blk_below (g := gb518) (o := .cells #[.int .i64 t510, .int .i64 t511, .int .i64 t512, .slice Ao23 t513.length co23, .int .i64 t516] 35 (0, 0)) (by (with_reducible repeat (first | refine blk_drewN ?_ _ | refine blk_drew ?_ | refine blk_alloc ?_ _)); refine blk_far ?_ NB518_566.out _; (with_reducible repeat (first | refine blk_drewN ?_ _ | refine blk_drew ?_ | refine blk_alloc ?_ _)); refine blk_far ?_ NB518_566.out _; (with_reducible repeat (first | refine blk_drewN ?_ _ | refine blk_drew ?_ | refine blk_alloc ?_ _)); refine blk_far ?_ NB518_566.out _; (with_reducible repeat (first | refine blk_drewN ?_ _ | refine blk_drew ?_ | refine blk_alloc ?_ _)); refine blk_far ?_ NB518_566.out _; (with_reducible repeat (first | refine blk_drewN ?_ _ | refine blk_drew ?_ | refine blk_alloc ?_ _)); refine blk_far ?_ NB518_566.out _; (with_reducible repeat (first | refine blk_drewN ?_ _ | refine blk_drew ?_ | refine blk_alloc ?_ _)); exact BK518.out) hb); replace BK526 := Aside0.mk (blk_below (g := gb526) (o := .cells #[.int .i64 t519, .int .i64 t520, .int .i64 t521, .slice Ao30 t546.length co30, .int .i64 t525] 35 (0, 0)) (by (with_reducible repeat (first | refine blk_drewN ?_ _ | refine blk_drew ?_ | refine blk_alloc ?_ _)); refine blk_far ?_ NB526_566.out _; (with_reducible repeat (first | refine blk_drewN ?_ _ | refine blk_drew ?_ | refine blk_alloc ?_ _)); refine blk_far ?_ NB526_566.out _; (with_reducible repeat (first | refine blk_drewN ?_ _ | refine blk_drew ?_ | refine blk_alloc ?_ _)); refine blk_far ?_ NB526_566.out _; (with_reducible repeat (first | refine blk_drewN ?_ _ | refine blk_drew ?_ | refine blk_alloc ?_ _)); refine blk_far ?_ NB526_566.out _; (with_reducible repeat (first | refine blk_drewN ?_ _ | refine blk_drew ?_ | refine blk_alloc ?_ _)); refine blk_far ?_ NB526_566.out _; (with_reducible repeat (first | refine blk_drewN ?_ _ | refine blk_drew ?_ | refine blk_alloc ?_ _)); exact BK526.out) hb); replace BK535 := Aside0.mk (blk_below (g := gb535) (o := .cells #[.int .i64 t527, .int .i64 t528, .int .i64 t529, .slice Ao37 t530.length co37, .int .i64 t533] 35 (0, 0)) (by (with_reducible repeat (first | refine blk_drewN ?_ _ | refine blk_drew ?_ | refine blk_alloc ?_ _)); refine blk_far ?_ NB535_566.out _; (with_reducible repeat (first | refine blk_drewN ?_ _ | refine blk_drew ?_ | refine blk_alloc ?_ _)); refine blk_far ?_ NB535_566.out _; (with_reducible repeat (first | refine blk_drewN ?_ _ | refine blk_drew ?_ | refine blk_alloc ?_ _)); refine blk_far ?_ NB535_566.out _; (with_reducible repeat (first | refine blk_drewN ?_ _ | refine blk_drew ?_ | refine blk_alloc ?_ _)); refine blk_far ?_ NB535_566.out _; (with_reducible repeat (first | refine blk_drewN ?_ _ | refine blk_drew ?_ | refine blk_alloc ?_ _)); refine blk_far ?_ NB535_566.out _; (with_reducible repeat (first | refine blk_drewN ?_ _ | refine blk_drew ?_ | refine blk_alloc ?_ _)); exact BK535.out) hb); replace BK566 := Aside0.mk (blk_below (g := gb566) (o := .cells #[.int .i64 t558, .int .i64 t559, .int .i64 t560, .slice Ao124 t561.length co124, .int .i64 t564] 35 (0, 0)) (by (with_reducible repeat (first | refine blk_drewN ?_ _ | refine blk_drew ?_ | refine blk_alloc ?_ _)); refine blk_put (cs := #[.int .i64 t558, .int .i64 t559, .int .i64 t560, .slice Ao124 t561.length co124, .int .i64 0]) ?_ 4 _ rfl; (with_reducible repeat (first | refine blk_drewN ?_ _ | refine blk_drew ?_ | refine blk_alloc ?_ _)); refine blk_put (cs := #[.int .i64 t558, .int .i64 t559, .int .i64 t560, .slice none 0 0, .int .i64 0]) ?_ 3 _ rfl; (with_reducible repeat (first | refine blk_drewN ?_ _ | refine blk_drew ?_ | refine blk_alloc ?_ _)); refine blk_put (cs := #[.int .i64 t558, .int .i64 t559, .int .i64 0, .slice none 0 0, .int .i64 0]) ?_ 2 _ rfl; (with_reducible repeat (first | refine blk_drewN ?_ _ | refine blk_drew ?_ | refine blk_alloc ?_ _)); refine blk_put (cs := #[.int .i64 t558, .int .i64 0, .int .i64 0, .slice none 0 0, .int .i64 0]) ?_ 1 _ rfl; (with_reducible repeat (first | refine blk_drewN ?_ _ | refine blk_drew ?_ | refine blk_alloc ?_ _)); refine blk_put (cs := #[.int .i64 0, .int .i64 0, .int .i64 0, .slice none 0 0, .int .i64 0]) ?_ 0 _ rfl; (with_reducible repeat (first | refine blk_drewN ?_ _ | refine blk_drew ?_ | refine blk_alloc ?_ _)); exact BK566.out) hb); replace HB := Aside0.mk (below_step (hb5_ HB.out GE501.out GE518.out GE526.out GE535.out GE566.out) hb); (try clear hb); (try clear hb2); (try clear hk); (try clear hi)))
             go_meet
             case rel => exact ⟨_, (true), (by first | rfl | (simp; done) | (simp [*]; done)), H', ⟨by have := HJ11.out; have := HJ60.out; first | omega | exact Nat.le_refl _⟩, ⟨by (try simp only [hl527003_60]); (with_reducible repeat (first | apply Kd.R_alloc | apply Kd.R_drewN | apply Kd.R_drew)); exact Kd.R_mono HO_519003.out (fun _ hk => ⟨hk.1.1.1, ⟨hk.1.1.2, hk.2⟩⟩)⟩, ⟨by (try simp only [hl527003_60]); (with_reducible repeat (first | apply Kd.R_alloc | apply Kd.R_drewN | apply Kd.R_drew)); exact Kd.R_mono HO_527003.out (fun _ hk => ⟨hk.1.1.1, ⟨hk.1.1.2, hk.2⟩⟩)⟩, ⟨by (try simp only [hl527003_60]); (with_reducible repeat (first | apply Kd.R_alloc | apply Kd.R_drewN | apply Kd.R_drew)); exact Kd.R_mono HO_536003.out (fun _ hk => ⟨hk.1.1.1, ⟨hk.1.1.2, hk.2⟩⟩)⟩, ⟨by (try simp only [hl527003_60]); (with_reducible repeat (first | apply Kd.R_alloc | apply Kd.R_drewN | apply Kd.R_drew)); exact Kd.R_mono HO563.out (fun _ hk => ⟨hk.1.1.1.2, ⟨hk.1.1.2, hk.1.2⟩⟩)⟩, ⟨by (try simp only [hl527003_60]); (with_reducible repeat (first | refine blk_drewN ?_ _ | refine blk_drew ?_ | refine blk_alloc ?_ _)); exact BK501.out⟩, ⟨by (try simp only [hl527003_60]); (with_reducible repeat (first | refine blk_drewN ?_ _ | refine blk_drew ?_ | refine blk_alloc ?_ _)); exact BK518.out⟩, ⟨by (try simp only [hl527003_60]); (with_reducible repeat (first | refine blk_drewN ?_ _ | refine blk_drew ?_ | refine blk_alloc ?_ _)); exact BK526.out⟩, ⟨by (try simp only [hl527003_60]); (with_reducible repeat (first | refine blk_drewN ?_ _ | refine blk_drew ?_ | refine blk_alloc ?_ _)); exact BK535.out⟩, ⟨by (try simp only [hl527003_60]); (with_reducible repeat (first | refine blk_drewN ?_ _ | refine blk_drew ?_ | refine blk_alloc ?_ _)); exact BK566.out⟩, ⟨hb5_ HB.out GE501.out GE518.out GE526.out GE535.out GE566.out⟩⟩
           case rest =>
            clear HC104
            try clear c1
            try clear c2
            try clear p2
            try clear c3
            try clear c4
            try clear c4b0
            try clear c5
            try clear c6
            try clear c7
            try clear c8
            try clear c9
            try clear c10
            try clear c11
            try clear c12
            try clear c13
            try clear c14
            try clear c15
            try clear c17
            try clear c19
            try clear c21
            try clear c27
            try clear c28
            try clear c31
            try clear c32
            try clear c33
            try clear c34
            try clear c35
            try clear c38
            try clear c39
            try clear c40
            try clear c41
            try clear c42
            try clear c44
            try clear c45
            try clear c48
            try clear c49
            try clear c50
            try clear c52
            try clear c53
            try clear c56
            try clear c59
            try clear c66
            try clear c67
            try clear c68
            try clear c71
            try clear c71b0
            try clear c73
            try clear c74
            try clear c75
            try clear c76
            try clear c78
            try clear c79
            try clear c82
            try clear c83
            try clear c84
            try clear c86
            try clear c87
            try clear c90
            try clear c93
            try clear c93b0
            try clear c94
            try clear c95
            try clear c96
            try clear c101
            try clear c101b0
            try clear c101b1
            try clear c105
            try clear c106
            try clear c107
            try clear c112
            try clear c113
            try clear c119
            try clear c120
            try clear c121
            try clear c122
            try clear c126
            try clear c127
            try clear c128
            try clear c129
            try clear c130
            try clear c132
            try clear c133
            try clear c134
            try clear c137
            try clear c138
            try clear c139
            try clear c140
            try clear c142
            try clear c143
            try clear c144
            try clear hcz108_0
            try clear hcz108_1
            try clear hcz108_2
            try clear hcz108_3
            try clear hcz108_4
            try clear hcz110_0
            try clear hcz110_1
            try clear hcz110_2
            try clear hcz110_3
            try clear hcz110_4
            try clear hcz114_0
            try clear hcz114_1
            try clear hcz114_2
            try clear hcz114_3
            try clear hcz114_4
            try clear hcz123_0
            try clear hcz123_1
            try clear hcz123_2
            try clear hcz123_3
            try clear hcz123_4
            try clear hcz131_0
            try clear hcz131_1
            try clear hcz131_2
            try clear hcz131_3
            try clear hcz131_4
            try clear hcz135_0
            try clear hcz135_1
            try clear hcz135_2
            try clear hcz135_3
            try clear hcz135_4
            try clear hcz141_0
            try clear hcz141_1
            try clear hcz141_2
            try clear hcz141_3
            try clear hcz141_4
            try clear hcz145_0
            try clear hcz145_1
            try clear hcz145_2
            try clear hcz145_3
            try clear hcz145_4
            try clear hcz14_0
            try clear hcz14_1
            try clear hcz14_2
            try clear hcz14_3
            try clear hcz14_4
            try clear hcz16_0
            try clear hcz16_1
            try clear hcz16_2
            try clear hcz16_3
            try clear hcz16_4
            try clear hcz22_0
            try clear hcz22_1
            try clear hcz22_2
            try clear hcz22_3
            try clear hcz22_4
            try clear hcz24_0
            try clear hcz24_1
            try clear hcz24_2
            try clear hcz24_3
            try clear hcz24_4
            try clear hcz29_0
            try clear hcz29_1
            try clear hcz29_2
            try clear hcz29_3
            try clear hcz29_4
            try clear hcz36_0
            try clear hcz36_1
            try clear hcz36_2
            try clear hcz36_3
            try clear hcz36_4
            try clear hcz43_0
            try clear hcz43_1
            try clear hcz43_2
            try clear hcz43_3
            try clear hcz43_4
            try clear hcz46_0
            try clear hcz46_1
            try clear hcz46_2
            try clear hcz46_3
            try clear hcz46_4
            try clear hcz51_0
            try clear hcz51_1
            try clear hcz51_2
            try clear hcz51_3
            try clear hcz51_4
            try clear hcz54_0
            try clear hcz54_1
            try clear hcz54_2
            try clear hcz54_3
            try clear hcz54_4
            try clear hcz69_0
            try clear hcz69_1
            try clear hcz69_2
            try clear hcz69_3
            try clear hcz69_4
            try clear hcz6_0
            try clear hcz6_1
            try clear hcz6_2
            try clear hcz6_3
            try clear hcz6_4
            try clear hcz77_0
            try clear hcz77_1
            try clear hcz77_2
            try clear hcz77_3
            try clear hcz77_4
            try clear hcz80_0
            try clear hcz80_1
            try clear hcz80_2
            try clear hcz80_3
            try clear hcz80_4
            try clear hcz85_0
            try clear hcz85_1
            try clear hcz85_2
            try clear hcz85_3
            try clear hcz85_4
            try clear hcz88_0
            try clear hcz88_1
            try clear hcz88_2
            try clear hcz88_3
            try clear hcz88_4
            try clear hcz97_0
            try clear hcz97_1
            try clear hcz97_2
            try clear hcz97_3
            try clear hcz97_4
            try clear hcz99_0
            try clear hcz99_1
            try clear hcz99_2
            try clear hcz99_3
            try clear hcz99_4
            try clear hfz108_0
            try clear hfz108_1
            try clear hfz108_2
            try clear hfz108_3
            try clear hfz108_4
            try clear hfz110_0
            try clear hfz110_1
            try clear hfz110_2
            try clear hfz110_3
            try clear hfz110_4
            try clear hfz114_0
            try clear hfz114_1
            try clear hfz114_2
            try clear hfz114_3
            try clear hfz114_4
            try clear hfz123_0
            try clear hfz123_1
            try clear hfz123_2
            try clear hfz123_3
            try clear hfz123_4
            try clear hfz131_0
            try clear hfz131_1
            try clear hfz131_2
            try clear hfz131_3
            try clear hfz131_4
            try clear hfz135_0
            try clear hfz135_1
            try clear hfz135_2
            try clear hfz135_3
            try clear hfz135_4
            try clear hfz141_0
            try clear hfz141_1
            try clear hfz141_2
            try clear hfz141_3
            try clear hfz141_4
            try clear hfz145_0
            try clear hfz145_1
            try clear hfz145_2
            try clear hfz145_3
            try clear hfz145_4
            try clear hfz14_0
            try clear hfz14_1
            try clear hfz14_2
            try clear hfz14_3
            try clear hfz14_4
            try clear hfz16_0
            try clear hfz16_1
            try clear hfz16_2
            try clear hfz16_3
            try clear hfz16_4
            try clear hfz22_0
            try clear hfz22_1
            try clear hfz22_2
            try clear hfz22_3
            try clear hfz22_4
            try clear hfz24_0
            try clear hfz24_1
            try clear hfz24_2
            try clear hfz24_3
            try clear hfz24_4
            try clear hfz29_0
            try clear hfz29_1
            try clear hfz29_2
            try clear hfz29_3
            try clear hfz29_4
            try clear hfz36_0
            try clear hfz36_1
            try clear hfz36_2
            try clear hfz36_3
            try clear hfz36_4
            try clear hfz43_0
            try clear hfz43_1
            try clear hfz43_2
            try clear hfz43_3
            try clear hfz43_4
            try clear hfz46_0
            try clear hfz46_1
            try clear hfz46_2
            try clear hfz46_3
            try clear hfz46_4
            try clear hfz51_0
            try clear hfz51_1
            try clear hfz51_2
            try clear hfz51_3
            try clear hfz51_4
            try clear hfz54_0
            try clear hfz54_1
            try clear hfz54_2
            try clear hfz54_3
            try clear hfz54_4
            try clear hfz69_0
            try clear hfz69_1
            try clear hfz69_2
            try clear hfz69_3
            try clear hfz69_4
            try clear hfz6_0
            try clear hfz6_1
            try clear hfz6_2
            try clear hfz6_3
            try clear hfz6_4
            try clear hfz77_0
            try clear hfz77_1
            try clear hfz77_2
            try clear hfz77_3
            try clear hfz77_4
            try clear hfz80_0
            try clear hfz80_1
            try clear hfz80_2
            try clear hfz80_3
            try clear hfz80_4
            try clear hfz85_0
            try clear hfz85_1
            try clear hfz85_2
            try clear hfz85_3
            try clear hfz85_4
            try clear hfz88_0
            try clear hfz88_1
            try clear hfz88_2
            try clear hfz88_3
            try clear hfz88_4
            try clear hfz97_0
            try clear hfz97_1
            try clear hfz97_2
            try clear hfz97_3
            try clear hfz97_4
            try clear hfz99_0
            try clear hfz99_1
            try clear hfz99_2
            try clear hfz99_3
            try clear hfz99_4
            try clear p2
            obtain ⟨kq, x92_103, rfl, HA, HJ103, HO_519003, HO_527003, HO_536003, HO_567003, BK501, BK518, BK526, BK535, BK566, HB⟩ := hcut
            have hl536003_103 := (Kd.R_reads' HO_536003.out).1
            rw [hl536003_103] at HO_536003
            (try simp only [hl536003_103])
            (try simp only [hl536003_103] at BK501)
            (try simp only [hl536003_103] at BK518)
            (try simp only [hl536003_103] at BK526)
            (try simp only [hl536003_103] at BK535)
            (try simp only [hl536003_103] at BK566)
            (try simp only [hl536003_103] at HO_519003)
            (try simp only [hl536003_103] at HO_527003)
            (try simp only [hl536003_103] at HO_567003)
            cases kq with
            | zero => exact absurd HA.out (by simp [laws_FnExactGrowHedge.j2])
            | succ kj103 =>
             have H := HA.out
             clear HA
             simp only [laws_FnExactGrowHedge.j2] at H
             by_cases c147 : x92_103 = true
             ·subst c147
              have H1 : (some false) = some r := by rw [if_pos rfl] at H; exact H
              clear H
              have H := H1
              clear H1
              obtain rfl := Option.some.inj H
              go_wp2
              go_ret
              exact ⟨by first | rfl | (simp [errW_none, errW_some] <;> rfl) | (simp [*, errW_none, errW_some] <;> rfl), hb5_ HB.out GE501.out GE518.out GE526.out GE535.out GE566.out⟩
             ·replace c147 := Bool.eq_false_iff.mpr c147
              subst c147
              have H1 : ((laws_heldHedge.f kj103 t527 t528 t529 t549 t533 1).bind fun t568 => (if t568 < 0 then (some false) else (if t568 = t548 then (some true) else (some false)))) = some r := by rw [if_neg (show ¬ (false = true) by decide)] at H; exact H
              clear H
              have H := H1
              clear H1
              replace H := Option.bind_eq_some_iff.mp H
              obtain ⟨t568, A1480, H⟩ := H
              replace H : (if t568 < 0 then (some false) else (if t568 = t548 then (some true) else (some false))) = some r := H
              have A148 := Aside0.mk A1480
              clear A1480
              by_cases c149 : t568 < 0
              ·rw [if_pos c149] at H
               have c149b0 : decide (t568 < 0) = true := decide_eq_true c149
               clear c149
               obtain rfl := Option.some.inj H
               have hnb150 := NB535_501.out
               have hnc150 := NB501_535.out
               have hnb151 := NB535_518.out
               have hnc151 := NB518_535.out
               have hnb152 := NB535_526.out
               have hnc152 := NB526_535.out
               have hnb153 := NB535_566.out
               have hnc153 := NB566_535.out
               obtain ⟨hcz154_0, hcz154_1, hcz154_2, hcz154_3, hcz154_4⟩ := cz5_ BK535.out
               obtain ⟨hfz154_0, hfz154_1, hfz154_2, hfz154_3, hfz154_4⟩ := fz5_ BK535.out
               go_wp2_with (first | ((with_reducible refine gate_callee (f := 32) rfl ?_); refine goesL_ (some 95) rfl rfl Try.func32 (by kernel_rfl) rfl #[.agg #[.int .i64 t527, .int .i64 t528, .int .i64 t529, .slice Ao37 t549.length co37, .int .i64 t533], .int .i64 1] rfl (ml_) ?_; (with_reducible refine (laws_heldHedge.calls kj103 t527 t528 t529 _ _ t549 t533 1 t568 _ ?side1 ?side2 A148.out).mono ?_); (case side1 => repeat (first | exact (Kd.R_reads' HO_536003.out).2.2 | (with_reducible refine Kd.C_alloc ?_ _) | (with_reducible refine Kd.C_drewN ?_ _) | (with_reducible refine Kd.C_drew ?_))); (case side2 => exact (Kd.R_reads' HO_536003.out).2.1); rintro e w155 ⟨rfl, hb⟩; refine ⟨_, rfl, ?_⟩; replace HO_519003 := Aside0.mk (Kd.R_below (kr_ HO_519003.out) hb); replace HO_527003 := Aside0.mk (Kd.R_below (kr_ HO_527003.out) hb); replace HO_536003 := Aside0.mk (Kd.R_below (kr_ HO_536003.out) hb); replace HO_567003 := Aside0.mk (Kd.R_below (kr_ HO_567003.out) hb); replace BK501 := Aside0.mk (bb_ BK501.out hb); replace BK518 := Aside0.mk (bb_ BK518.out hb); replace BK526 := Aside0.mk (bb_ BK526.out hb); replace BK535 := Aside0.mk (bb_ BK535.out hb); replace BK566 := Aside0.mk (bb_ BK566.out hb); replace HB := Aside0.mk (below_step (hb5_ HB.out GE501.out GE518.out GE526.out GE535.out GE566.out) hb); (try clear hb); (try clear hb2); (try clear hk); (try clear hi)))
               go_ret
               exact ⟨by first | rfl | (simp [errW_none, errW_some] <;> rfl) | (simp [*, errW_none, errW_some] <;> rfl), hb5_ HB.out GE501.out GE518.out GE526.out GE535.out GE566.out⟩
              ·rw [if_neg c149] at H
               have c149b0 : decide (t568 < 0) = false := decide_eq_false c149
               clear c149
               by_cases c156 : t568 = t548
               ·rw [if_pos c156] at H
                have c156b0 : (t568 == t548) = true := beq_iff_eq.mpr c156
                have c156b1 : (t568 != t548) = false := bne_eq_false_iff_eq.mpr c156
                clear c156
                obtain rfl := Option.some.inj H
                have hnb157 := NB535_501.out
                have hnc157 := NB501_535.out
                have hnb158 := NB535_518.out
                have hnc158 := NB518_535.out
                have hnb159 := NB535_526.out
                have hnc159 := NB526_535.out
                have hnb160 := NB535_566.out
                have hnc160 := NB566_535.out
                obtain ⟨hcz161_0, hcz161_1, hcz161_2, hcz161_3, hcz161_4⟩ := cz5_ BK535.out
                obtain ⟨hfz161_0, hfz161_1, hfz161_2, hfz161_3, hfz161_4⟩ := fz5_ BK535.out
                go_wp2_with (first | ((with_reducible refine gate_callee (f := 32) rfl ?_); refine goesL_ (some 95) rfl rfl Try.func32 (by kernel_rfl) rfl #[.agg #[.int .i64 t527, .int .i64 t528, .int .i64 t529, .slice Ao37 t549.length co37, .int .i64 t533], .int .i64 1] rfl (ml_) ?_; (with_reducible refine (laws_heldHedge.calls kj103 t527 t528 t529 _ _ t549 t533 1 t568 _ ?side1 ?side2 A148.out).mono ?_); (case side1 => repeat (first | exact (Kd.R_reads' HO_536003.out).2.2 | (with_reducible refine Kd.C_alloc ?_ _) | (with_reducible refine Kd.C_drewN ?_ _) | (with_reducible refine Kd.C_drew ?_))); (case side2 => exact (Kd.R_reads' HO_536003.out).2.1); rintro e w162 ⟨rfl, hb⟩; refine ⟨_, rfl, ?_⟩; replace HO_519003 := Aside0.mk (Kd.R_below (kr_ HO_519003.out) hb); replace HO_527003 := Aside0.mk (Kd.R_below (kr_ HO_527003.out) hb); replace HO_536003 := Aside0.mk (Kd.R_below (kr_ HO_536003.out) hb); replace HO_567003 := Aside0.mk (Kd.R_below (kr_ HO_567003.out) hb); replace BK501 := Aside0.mk (bb_ BK501.out hb); replace BK518 := Aside0.mk (bb_ BK518.out hb); replace BK526 := Aside0.mk (bb_ BK526.out hb); replace BK535 := Aside0.mk (bb_ BK535.out hb); replace BK566 := Aside0.mk (bb_ BK566.out hb); replace HB := Aside0.mk (below_step (hb5_ HB.out GE501.out GE518.out GE526.out GE535.out GE566.out) hb); (try clear hb); (try clear hb2); (try clear hk); (try clear hi)))
                go_ret
                exact ⟨by first | rfl | (simp [errW_none, errW_some] <;> rfl) | (simp [*, errW_none, errW_some] <;> rfl), hb5_ HB.out GE501.out GE518.out GE526.out GE535.out GE566.out⟩
               ·rw [if_neg c156] at H
                have c156b0 : (t568 == t548) = false := beq_eq_false_iff_ne.mpr c156
                have c156b1 : (t568 != t548) = true := bne_iff_ne.mpr c156
                obtain rfl := Option.some.inj H
                have hnb163 := NB535_501.out
                have hnc163 := NB501_535.out
                have hnb164 := NB535_518.out
                have hnc164 := NB518_535.out
                have hnb165 := NB535_526.out
                have hnc165 := NB526_535.out
                have hnb166 := NB535_566.out
                have hnc166 := NB566_535.out
                obtain ⟨hcz167_0, hcz167_1, hcz167_2, hcz167_3, hcz167_4⟩ := cz5_ BK535.out
                obtain ⟨hfz167_0, hfz167_1, hfz167_2, hfz167_3, hfz167_4⟩ := fz5_ BK535.out
                go_wp2_with (first | ((with_reducible refine gate_callee (f := 32) rfl ?_); refine goesL_ (some 95) rfl rfl Try.func32 (by kernel_rfl) rfl #[.agg #[.int .i64 t527, .int .i64 t528, .int .i64 t529, .slice Ao37 t549.length co37, .int .i64 t533], .int .i64 1] rfl (ml_) ?_; (with_reducible refine (laws_heldHedge.calls kj103 t527 t528 t529 _ _ t549 t533 1 t568 _ ?side1 ?side2 A148.out).mono ?_); (case side1 => repeat (first | exact (Kd.R_reads' HO_536003.out).2.2 | (with_reducible refine Kd.C_alloc ?_ _) | (with_reducible refine Kd.C_drewN ?_ _) | (with_reducible refine Kd.C_drew ?_))); (case side2 => exact (Kd.R_reads' HO_536003.out).2.1); rintro e w168 ⟨rfl, hb⟩; refine ⟨_, rfl, ?_⟩; replace HO_519003 := Aside0.mk (Kd.R_below (kr_ HO_519003.out) hb); replace HO_527003 := Aside0.mk (Kd.R_below (kr_ HO_527003.out) hb); replace HO_536003 := Aside0.mk (Kd.R_below (kr_ HO_536003.out) hb); replace HO_567003 := Aside0.mk (Kd.R_below (kr_ HO_567003.out) hb); replace BK501 := Aside0.mk (bb_ BK501.out hb); replace BK518 := Aside0.mk (bb_ BK518.out hb); replace BK526 := Aside0.mk (bb_ BK526.out hb); replace BK535 := Aside0.mk (bb_ BK535.out hb); replace BK566 := Aside0.mk (bb_ BK566.out hb); replace HB := Aside0.mk (below_step (hb5_ HB.out GE501.out GE518.out GE526.out GE535.out GE566.out) hb); (try clear hb); (try clear hb2); (try clear hk); (try clear hi)))
                go_ret
                exact ⟨by first | rfl | (simp [errW_none, errW_some] <;> rfl) | (simp [*, errW_none, errW_some] <;> rfl), hb5_ HB.out GE501.out GE518.out GE526.out GE535.out GE566.out⟩
          ·rw [if_neg c101] at H
           have c101b0 : (t550 == t548) = false := beq_eq_false_iff_ne.mpr c101
           have c101b1 : (t550 != t548) = true := bne_iff_ne.mpr c101
           obtain rfl := Option.some.inj H
           have hnb169 := NB535_501.out
           have hnc169 := NB501_535.out
           have hnb170 := NB535_518.out
           have hnc170 := NB518_535.out
           have hnb171 := NB535_526.out
           have hnc171 := NB526_535.out
           obtain ⟨hcz172_0, hcz172_1, hcz172_2, hcz172_3, hcz172_4⟩ := cz5_ BK535.out
           obtain ⟨hfz172_0, hfz172_1, hfz172_2, hfz172_3, hfz172_4⟩ := fz5_ BK535.out
           go_wp2_with (first | ((with_reducible refine gate_callee (f := 31) rfl ?_); refine goesL_ (some 68) rfl rfl Try.func31 (by kernel_rfl) rfl #[.agg #[.int .i64 t527, .int .i64 t528, .int .i64 t529, .slice Ao37 t530.length co37, .int .i64 t533], .int .i64 1] rfl (ml_) ?_; (with_reducible refine (laws_markHedge.calls kj60 t527 t528 t529 (fun k_ => some k_ = (.slice Ao37 t530.length co37 : Value).ownBlock) (.slice Ao37 t530.length co37) t530 t533 1 t548 t549 w _ ?side1 ?side2 A91.out).mono ?_); (case side1 => repeat (first | (with_reducible first | exact HB.out | apply below_alloc | apply pw_below_drewN | apply below_drew1 | refine below_set ?_ GE501.out | refine below_set ?_ GE518.out | refine below_set ?_ GE526.out | refine below_set ?_ GE535.out) | exact HB.out)); (case side2 => exact Kd.R_tight rfl HO_536003.out); rintro e w173 ⟨rfl, hy0, hb, hkp⟩; refine ⟨_, rfl, ?_⟩; have n0_ := Aside0.mk (Kd.R_mono (ok' := fun k_ => some k_ ≠ (.slice Ao30 t546.length co30 : Value).ownBlock ∧ some k_ ≠ (.slice Ao37 t530.length co37 : Value).ownBlock) (Kd.R_keptB (HO_519003.out) hkp (fun k_ hk_ hs_ => (hk_.2) hs_)) (fun k_ hk_ => ⟨hk_.1.1, hk_.1.2⟩)); have n1_ := Aside0.mk (Kd.R_mono (ok' := fun k_ => some k_ ≠ (.slice Ao23 t513.length co23 : Value).ownBlock ∧ some k_ ≠ (.slice Ao37 t530.length co37 : Value).ownBlock) (Kd.R_keptB (HO_527003.out) hkp (fun k_ hk_ hs_ => (hk_.2) hs_)) (fun k_ hk_ => ⟨hk_.1.1, hk_.1.2⟩)); have n2_ := Aside0.mk (Kd.R_reok rfl hy0 (fun k_ e_ => HO_536003.out.1 k_ e_)); have n3_ := Aside0.mk (blk_kept (bk_ BK501.out) hkp (fun hs_ => (fun e_ => (Kd.R_ne HO_536003.out BK501.out (by decide)) e_) hs_)); have n4_ := Aside0.mk (blk_kept (bk_ BK518.out) hkp (fun hs_ => (fun e_ => (Kd.R_ne HO_536003.out BK518.out (by decide)) e_) hs_)); have n5_ := Aside0.mk (blk_kept (bk_ BK526.out) hkp (fun hs_ => (fun e_ => (Kd.R_ne HO_536003.out BK526.out (by decide)) e_) hs_)); have n6_ := Aside0.mk (blk_kept (bk_ BK535.out) hkp (fun hs_ => (fun e_ => (Kd.R_ne HO_536003.out BK535.out (by decide)) e_) hs_)); have n7_ := Aside0.mk (hb); clear HO_519003; clear HO_527003; clear HO_536003; clear BK501; clear BK518; clear BK526; clear BK535; clear HB; have HO_519003 := n0_; have HO_527003 := n1_; have HO_536003 := n2_; have BK501 := n3_; have BK518 := n4_; have BK526 := n5_; have BK535 := n6_; have HB := n7_; clear n0_ n1_ n2_ n3_ n4_ n5_ n6_ n7_; (try clear hb); (try clear hkp); (try clear hy0); obtain ⟨hcz174_0, hcz174_1, hcz174_2, hcz174_3, hcz174_4⟩ := cz5_ BK535.out; obtain ⟨hfz174_0, hfz174_1, hfz174_2, hfz174_3, hfz174_4⟩ := fz5_ BK535.out) | ((with_reducible refine gate_callee (f := 32) rfl ?_); refine goesL_ (some 71) rfl rfl Try.func32 (by kernel_rfl) rfl #[.agg #[.int .i64 t527, .int .i64 t528, .int .i64 t529, .slice Ao37 t549.length co37, .int .i64 t533], .int .i64 1] rfl (by (try simp only [List.map_toArray, List.map_cons, List.map_nil]); first | done | (rw [show t549.length = t530.length from (Kd.R_reads' HO_536003.out).1.symm] <;> rfl) | rfl | (simp only [List.length_drop, List.length_take]; rfl)) ?_; (with_reducible refine (laws_heldHedge.calls kj60 t527 t528 t529 _ _ t549 t533 1 t550 _ ?side1 ?side2 A92.out).mono ?_); (case side1 => repeat (first | exact (Kd.R_reads' HO_536003.out).2.2 | (with_reducible refine Kd.C_alloc ?_ _) | (with_reducible refine Kd.C_drewN ?_ _) | (with_reducible refine Kd.C_drew ?_))); (case side2 => rw [show t549.length = t530.length from (Kd.R_reads' HO_536003.out).1.symm]; exact (Kd.R_reads' HO_536003.out).2.1); rintro e w175 ⟨rfl, hb⟩; refine ⟨_, rfl, ?_⟩; replace HO_519003 := Aside0.mk (Kd.R_below (kr_ HO_519003.out) hb); replace HO_527003 := Aside0.mk (Kd.R_below (kr_ HO_527003.out) hb); replace HO_536003 := Aside0.mk (Kd.R_below (kr_ HO_536003.out) hb); replace BK501 := Aside0.mk (bb_ BK501.out hb); replace BK518 := Aside0.mk (bb_ BK518.out hb); replace BK526 := Aside0.mk (bb_ BK526.out hb); replace BK535 := Aside0.mk (bb_ BK535.out hb); replace HB := Aside0.mk (below_step (hb4_ HB.out GE501.out GE518.out GE526.out GE535.out) hb); (try clear hb); (try clear hb2); (try clear hk); (try clear hi)))
           go_ret
           exact ⟨by first | rfl | (simp [errW_none, errW_some] <;> rfl) | (simp [*, errW_none, errW_some] <;> rfl), hb4_ HB.out GE501.out GE518.out GE526.out GE535.out⟩
     ·replace c59 := Bool.eq_false_iff.mpr c59
      subst c59
      have H1 : (some false) = some r := by rw [if_neg (show ¬ (false = true) by decide)] at H; exact H
      clear H
      have H := H1
      clear H1
      obtain rfl := Option.some.inj H
      try go_wp2
      replace HO_519003 := Aside0.mk (Kd.R_drew HO_519003.out)
      replace HO_527003 := Aside0.mk (Kd.R_drew HO_527003.out)
      replace HO_536003 := Aside0.mk (Kd.R_drew HO_536003.out)
      replace BK501 := Aside0.mk (blk_drew BK501.out)
      replace BK518 := Aside0.mk (blk_drew BK518.out)
      replace BK526 := Aside0.mk (blk_drew BK526.out)
      replace BK535 := Aside0.mk (blk_drew BK535.out)
      replace HB := Aside0.mk (below_drew1 HB.out)
      refine start_ (n := 5) (S := fun w' => w'.cell? ⟨gb526, 0, none⟩ = some (.int .i64 t519) ∧ w'.cell? ⟨gb526, 1, none⟩ = some (.int .i64 t520) ∧ w'.cell? ⟨gb526, 2, none⟩ = some (.int .i64 t521) ∧ w'.cell? ⟨gb526, 3, none⟩ = some (.slice Ao30 t522.length co30) ∧ w'.cell? ⟨gb526, 4, none⟩ = some (.int .i64 t525) ∧ w'.cell? ⟨gb501, 0, none⟩ = some (.int .i64 a0_0) ∧ w'.cell? ⟨gb501, 1, none⟩ = some (.int .i64 a0_1) ∧ w'.cell? ⟨gb501, 2, none⟩ = some (.int .i64 a0_2) ∧ w'.cell? ⟨gb501, 3, none⟩ = some (.slice A0_3 l0_3.length c0_3) ∧ w'.cell? ⟨gb501, 4, none⟩ = some (.int .i64 a0_4)) (ds := []) #[false, false, false, false, false] (by kernel_rfl) rfl rfl ⟨(blk_cell BK526.out 0).trans rfl, (blk_cell BK526.out 1).trans rfl, (blk_cell BK526.out 2).trans rfl, (blk_cell BK526.out 3).trans rfl, (blk_cell BK526.out 4).trans rfl, (blk_cell BK501.out 0).trans rfl, (blk_cell BK501.out 1).trans rfl, (blk_cell BK501.out 2).trans rfl, (blk_cell BK501.out 3).trans rfl, (blk_cell BK501.out 4).trans rfl⟩ (fun hHeld => ?_)
      generalize wc.drew = w176 at HO_519003 HO_527003 HO_536003 BK501 BK518 BK526 BK535 HB hHeld ⊢
      refine take_ (i := 0) (N := some 45) (v := ?_) (a' := ?_) #[true, false, false, false, false] rfl rfl (by kernel_rfl) (fun _ _ _ h => h) (Or.inl ⟨by rfl, ?_⟩) hHeld ?_ ?_
      rotate_left
      ·rintro w' ⟨s0, s1, s2, s3, s4, s5, s6, s7, s8, s9⟩
       go_simp
       with_reducible rfl
      rotate_left
      ·simp only [Act.put, List.setIfInBounds_toArray, List.set_cons_zero, List.set_cons_succ, i64_w, i32_w]
       rfl
      refine take_ (i := 1) (N := some 46) (v := ?_) (a' := ?_) #[true, true, false, false, false] rfl rfl (by kernel_rfl) (fun _ _ _ h => h) (Or.inl ⟨by rfl, ?_⟩) hHeld ?_ ?_
      rotate_left
      ·rintro w' ⟨s0, s1, s2, s3, s4, s5, s6, s7, s8, s9⟩
       go_simp
       with_reducible rfl
      rotate_left
      ·simp only [Act.put, List.setIfInBounds_toArray, List.set_cons_zero, List.set_cons_succ, i64_w, i32_w]
       rfl
      refine one_ (i := 2) (N := some 47) #[true, true, true, false, false] rfl rfl (by kernel_rfl) (by decide) (fun K hK => ?_)
      refine goes_ Try.func17 (by kernel_rfl) rfl #[.agg #[.int .i64 a0_0, .int .i64 a0_1, .int .i64 a0_2, .slice A0_3 l0_3.length c0_3, .int .i64 a0_4]] (by rfl) rfl rfl (ml_) ?_
      with_reducible refine (laws_toHedge.calls kj11 a0_0 a0_1 a0_2 _ _ l0_3 a0_4 t537 t538 t539 t540 t543 _ ?side1 ?side2 A57.out).mono ?_
      (case side1 => repeat (first | exact (Kd.C_below HR0_3.out HB.out) | (with_reducible refine Kd.C_alloc ?_ _) | (with_reducible refine Kd.C_drewN ?_ _) | (with_reducible refine Kd.C_drew ?_)))
      (case side2 => exact HC0_3.out)
      rintro e w177 ⟨v541, rfl, ho0, hb⟩
      refine ⟨_, rfl, ?_⟩
      have n0_ := Aside0.mk (Kd.R_elder' (kr_ HO_519003.out) (Kd.R_base ho0) hb)
      have n1_ := Aside0.mk (Kd.R_elder' (kr_ HO_527003.out) (Kd.R_base ho0) hb)
      have n2_ := Aside0.mk (Kd.R_elder' (kr_ HO_536003.out) (Kd.R_base ho0) hb)
      have n3_ := Aside0.mk (Kd.R_lower (Kd.R_new' (Kd.R_new' (Kd.R_new' ho0 (Kd.R_lt (kr_ HO_519003.out))) (Kd.R_lt (kr_ HO_527003.out))) (Kd.R_lt (kr_ HO_536003.out))) (below_size (hb4_ HB.out GE501.out GE518.out GE526.out GE535.out)))
      have n4_ := Aside0.mk (bb_ BK501.out hb)
      have n5_ := Aside0.mk (bb_ BK518.out hb)
      have n6_ := Aside0.mk (bb_ BK526.out hb)
      have n7_ := Aside0.mk (bb_ BK535.out hb)
      have n8_ := Aside0.mk (below_step (hb4_ HB.out GE501.out GE518.out GE526.out GE535.out) hb)
      clear HO_519003
      clear HO_527003
      clear HO_536003
      clear BK501
      clear BK518
      clear BK526
      clear BK535
      clear HB
      have HO_519003 := n0_
      have HO_527003 := n1_
      have HO_536003 := n2_
      have HO542 := n3_
      have BK501 := n4_
      have BK518 := n5_
      have BK526 := n6_
      have BK535 := n7_
      have HB := n8_
      clear n0_ n1_ n2_ n3_ n4_ n5_ n6_ n7_ n8_
      (try clear hb)
      (try clear hb2)
      (try clear hk)
      (try clear hi)
      (try clear ho0)
      obtain ⟨Ao178, co178, eo178⟩ := Kd.R_slice HO542.out
      (first | subst eo178 | (injection eo178 with f1_ f2_ f3_; have f4_ := f1_.symm; have f5_ := f3_.symm; clear f1_ f2_ f3_; subst f4_; subst f5_))
      refine hK.out _ _ ⟨(blk_cell BK526.out 0).trans rfl, (blk_cell BK526.out 1).trans rfl, (blk_cell BK526.out 2).trans rfl, (blk_cell BK526.out 3).trans rfl, (blk_cell BK526.out 4).trans rfl, (blk_cell BK501.out 0).trans rfl, (blk_cell BK501.out 1).trans rfl, (blk_cell BK501.out 2).trans rfl, (blk_cell BK501.out 3).trans rfl, (blk_cell BK501.out 4).trans rfl⟩ (fun hHeld => ?_)
      clear hK K
      refine norm_ (a' := ?_) ?_ ?_
      rotate_left
      ·show Act.put _ (some 47) _ = _
       simp only [Act.put, List.setIfInBounds_toArray, List.set_cons_zero, List.set_cons_succ, i64_w, i32_w]
       rfl
      refine one_ (i := 3) (N := some 48) #[true, true, true, true, false] rfl rfl (by kernel_rfl) (by decide) (fun K hK => ?_)
      refine goes_ Try.func19 (by kernel_rfl) rfl #[.agg #[.int .i64 t519, .int .i64 t520, .int .i64 t521, .slice Ao30 t522.length co30, .int .i64 t525], .agg #[.int .i64 t537, .int .i64 t538, .int .i64 t539, .slice Ao178 t540.length co178, .int .i64 t543]] (by rfl) rfl rfl (ml_) ?_
      with_reducible refine (laws_eqHedge.calls kj11 t519 t520 t521 _ _ t522 t525 t537 t538 t539 _ _ t540 t543 false _ ?side1 ?side2 ?side3 ?side4 A58.out).mono ?_
      (case side1 => repeat (first | exact (Kd.R_reads' HO_527003.out).2.2 | (with_reducible refine Kd.C_alloc ?_ _) | (with_reducible refine Kd.C_drewN ?_ _) | (with_reducible refine Kd.C_drew ?_)))
      (case side2 => exact (Kd.R_reads' HO_527003.out).2.1)
      (case side3 => repeat (first | exact (Kd.R_reads' HO542.out).2.2 | (with_reducible refine Kd.C_alloc ?_ _) | (with_reducible refine Kd.C_drewN ?_ _) | (with_reducible refine Kd.C_drew ?_)))
      (case side4 => exact (Kd.R_reads' HO542.out).2.1)
      rintro e w179 ⟨rfl, hb⟩
      refine ⟨_, rfl, ?_⟩
      replace HO_519003 := Aside0.mk (Kd.R_below (kr_ HO_519003.out) hb)
      replace HO_527003 := Aside0.mk (Kd.R_below (kr_ HO_527003.out) hb)
      replace HO_536003 := Aside0.mk (Kd.R_below (kr_ HO_536003.out) hb)
      replace HO542 := Aside0.mk (Kd.R_below (kr_ HO542.out) hb)
      replace BK501 := Aside0.mk (bb_ BK501.out hb)
      replace BK518 := Aside0.mk (bb_ BK518.out hb)
      replace BK526 := Aside0.mk (bb_ BK526.out hb)
      replace BK535 := Aside0.mk (bb_ BK535.out hb)
      replace HB := Aside0.mk (below_step (hb4_ HB.out GE501.out GE518.out GE526.out GE535.out) hb)
      (try clear hb)
      (try clear hb2)
      (try clear hk)
      (try clear hi)
      refine hK.out _ _ ⟨(blk_cell BK526.out 0).trans rfl, (blk_cell BK526.out 1).trans rfl, (blk_cell BK526.out 2).trans rfl, (blk_cell BK526.out 3).trans rfl, (blk_cell BK526.out 4).trans rfl, (blk_cell BK501.out 0).trans rfl, (blk_cell BK501.out 1).trans rfl, (blk_cell BK501.out 2).trans rfl, (blk_cell BK501.out 3).trans rfl, (blk_cell BK501.out 4).trans rfl⟩ (fun hHeld => ?_)
      clear hK K
      refine norm_ (a' := ?_) ?_ ?_
      rotate_left
      ·show Act.put _ (some 48) _ = _
       simp only [Act.put, List.setIfInBounds_toArray, List.set_cons_zero, List.set_cons_succ, i64_w, i32_w]
       rfl
      refine pure_ (i := 4) (N := some 49) (v := ?_) (a' := ?_) #[true, true, true, true, true] rfl rfl (by kernel_rfl) (fun _ _ _ h => h) (Or.inl ⟨by rfl, ?_⟩) ?_ ?_
      rotate_left
      ·intro w'
       go_simp
       with_reducible rfl
      rotate_left
      ·simp only [Act.put, List.setIfInBounds_toArray, List.set_cons_zero, List.set_cons_succ, i64_w, i32_w]
       rfl
      refine done_ (by kernel_rfl) ?_
      try go_wp2
      go_ret
      exact ⟨by first | rfl | (simp [errW_none, errW_some] <;> rfl) | (simp [*, errW_none, errW_some] <;> rfl), hb4_ HB.out GE501.out GE518.out GE526.out GE535.out⟩

/-- THE ONE PURE STATEMENT of laws_FnExactGrowHedge: yours. -/
def laws_FnExactGrowHedge.Pure : Prop := ∀ (a0_0 : Int) (a0_1 : Int) (a0_2 : Int) (l0_3 : List Int) (a0_4 : Int) (a1 : Int), (Lit.int .i64 a0_0).wf = true → (Lit.int .i64 a0_1).wf = true → (Lit.int .i64 a0_2).wf = true → l0_3.length ≤ maxLen → l0_3.length * 8 ≤ 140737488351232 → (∀ x ∈ l0_3, (Lit.int .i64 x).wf = true) → (Lit.int .i64 a0_4).wf = true → (Lit.int .i64 a1).wf = true → ∃ k, laws_FnExactGrowHedge.f k a0_0 a0_1 a0_2 l0_3 a0_4 a1 = some true
theorem laws_FnExactGrowHedge.walk (P : laws_FnExactGrowHedge.Pure) (a0_0 : Int) (a0_1 : Int) (a0_2 : Int) (a0_3 : Option Addr) (len0_3 cap0_3 : Nat) (z0_3 : List Int) (a0_4 : Int) (a1 : Int) (w : World) (w0_0 : (Lit.int .i64 a0_0).wf = true) (w0_1 : (Lit.int .i64 a0_1).wf = true) (w0_2 : (Lit.int .i64 a0_2).wf = true) (w0_3 : (a0_3 = none ∧ len0_3 = 0 ∧ cap0_3 = 0 ∧ z0_3 = []) ∨ ∃ x, a0_3 = some x ∧ len0_3 ≤ cap0_3 ∧ cap0_3 ≤ maxLen ∧ z0_3.length = cap0_3 ∧ (∀ i, i < z0_3.length → w.cell? (x.add i) = some (.int .i64 (z0_3.getD i 0))) ∧ ∀ n ∈ z0_3, (Lit.int .i64 n).wf = true) (y0_3 : len0_3 * 8 ≤ 140737488351232) (w0_4 : (Lit.int .i64 a0_4).wf = true) (w1 : (Lit.int .i64 a1).wf = true) :
  Calls Try.prog 8 #[.agg #[.int .i64 a0_0, .int .i64 a0_1, .int .i64 a0_2, .slice a0_3 len0_3 cap0_3, .int .i64 a0_4], .int .i64 a1] w fun e w' => e = .returned (.bool true) ∧ Below w.heap.size w w' := by
 obtain ⟨l0_3, rfl, hr0_3, hm0_3, hw0_3, hc0_3⟩ := ReadsInt.ofRowC w0_3
 obtain ⟨k, h⟩ := P a0_0 a0_1 a0_2 l0_3 a0_4 a1 w0_0 w0_1 w0_2 hm0_3 y0_3 hw0_3 w0_4 w1
 refine (laws_FnExactGrowHedge.calls k a0_0 a0_1 a0_2 _ _ l0_3 a0_4 a1 true w (Kd.C_of_reads (d := (0 : Int)) (h1 := fun _ => rfl) hr0_3) hc0_3 h).mono ?_
 rintro e w' ⟨rfl, hd⟩
 exact ⟨rfl, hd⟩

end Go.Proofs.Ytekgbinadmjapaa.X
