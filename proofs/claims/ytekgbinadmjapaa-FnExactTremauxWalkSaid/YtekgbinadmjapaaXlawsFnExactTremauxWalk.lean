-- Written by a program of this session (xprint.py), out of the translation and of hand-written contracts. Lean checks it.
import Derived.Test.YtekgbinadmjapaaX0
import Derived.Test.YtekgbinadmjapaaXcints
import Derived.Test.YtekgbinadmjapaaXcto
import Derived.Test.YtekgbinadmjapaaXimplTremauxWalk
import Derived.Test.YtekgbinadmjapaaXspecTremauxWalk
namespace Go.Proofs.Ytekgbinadmjapaa.X
open Go.RowKit Go.Proofs.YtekgbinadmjapaaW.PrintWords Go.Proofs.YtekgbinadmjapaaW.PrintLast Go.Proofs.YtekgbinadmjapaaW.PrintMore
attribute [local go_sem] max2_int min2_int max_two min_two max_three min_three max_four min_four   -- for this text's walks alone
set_option linter.unusedVariables false
set_option linter.unusedSimpArgs false

/-! ### laws_FnExactTremauxWalk: function 11 -/
mutual
def laws_FnExactTremauxWalk.j0 : Nat → Int → List Int → List Int → List Int → List Int → Bool → Int → Int → Int → Option (Bool)
 | 0, _, _, _, _, _, _, _, _, _ => none
 | k + 1, x1, x5, x6, x7, x8, x36, x502000, x502001, x502002 => if x36 = true then (some false) else ((laws_markIntS.f k x7 1).bind fun bt522 => ((laws_markIntS.f k x8 bt522.1).bind fun bt524 => ((laws_heldIntS.f k bt522.2 1).bind fun t526 => (if t526 < 0 then (some false) else ((laws_heldIntS.f k bt524.2 t526).bind fun t527 => (if t527 < 0 then (some false) else (if t527 = bt524.1 then ((laws_toMaze.f x502000 x502001 x502002).bind fun bt528 => ((impl_TremauxWalk.f k bt528.1 bt528.2.1 bt528.2.2 x1).bind fun bt531 => ((laws_eqIntS.f k bt531.1 x5).bind fun t537 => (if t537 = true then ((laws_eqIntS.f k bt531.2 x6).bind fun t538 => (laws_FnExactTremauxWalk.j1 k bt522.2 bt524.2 bt524.1 (!t538))) else (laws_FnExactTremauxWalk.j1 k bt522.2 bt524.2 bt524.1 true))))) else (some false))))))))
def laws_FnExactTremauxWalk.j1 : Nat → List Int → List Int → Int → Bool → Option (Bool)
 | 0, _, _, _, _ => none
 | k + 1, x7, x8, x9, x72 => if x72 = true then (some false) else ((laws_heldIntS.f k x7 1).bind fun t539 => (if t539 < 0 then (some false) else ((laws_heldIntS.f k x8 t539).bind fun t540 => (if t540 < 0 then (some false) else (if t540 = x9 then (some true) else (some false))))))
end
def laws_FnExactTremauxWalk.f (k : Nat) (a0_0 : Int) (a0_1 : Int) (a0_2 : Int) (a1 : Int) : Option (Bool) := (laws_toMaze.f a0_0 a0_1 a0_2).bind fun bt502 => ((spec_TremauxWalk.f k bt502.1 bt502.2.1 bt502.2.2 a1).bind fun bt505 => ((laws_toMaze.f a0_0 a0_1 a0_2).bind fun bt511 => ((impl_TremauxWalk.f k bt511.1 bt511.2.1 bt511.2.2 a1).bind fun bt514 => ((laws_eqIntS.f k bt514.1 bt505.1).bind fun t520 => (if t520 = true then ((laws_eqIntS.f k bt514.2 bt505.2).bind fun t521 => (laws_FnExactTremauxWalk.j0 k a1 bt505.1 bt505.2 bt514.1 bt514.2 (!t521) a0_0 a0_1 a0_2)) else (laws_FnExactTremauxWalk.j0 k a1 bt505.1 bt505.2 bt514.1 bt514.2 true a0_0 a0_1 a0_2))))))
theorem laws_FnExactTremauxWalk.mono_l : ∀ k, (∀ y0 y1 y2 y3 y4 y5 y6 y7 y8, LeO (laws_FnExactTremauxWalk.j0 k y0 y1 y2 y3 y4 y5 y6 y7 y8) (laws_FnExactTremauxWalk.j0 (k + 1) y0 y1 y2 y3 y4 y5 y6 y7 y8)) ∧ (∀ y0 y1 y2 y3, LeO (laws_FnExactTremauxWalk.j1 k y0 y1 y2 y3) (laws_FnExactTremauxWalk.j1 (k + 1) y0 y1 y2 y3))
 | 0 => ⟨fun _ _ _ _ _ _ _ _ _ r h => by simp [laws_FnExactTremauxWalk.j0] at h, fun _ _ _ _ r h => by simp [laws_FnExactTremauxWalk.j1] at h⟩
 | k + 1 => by
  obtain ⟨ih0, ih1⟩ := laws_FnExactTremauxWalk.mono_l k
  refine ⟨?_, ?_⟩
  ·intro y0 y1 y2 y3 y4 y5 y6 y7 y8
   unfold laws_FnExactTremauxWalk.j0
   repeat' first
   | (with_reducible exact ih0 _ _ _ _ _ _ _ _ _)
   | (with_reducible exact ih1 _ _ _ _)
   | (with_reducible exact impl_TremauxWalk.mono _ _ _ _ _)
   | (with_reducible exact laws_eqIntS.mono _ _ _)
   | (with_reducible exact laws_heldIntS.mono _ _ _)
   | (with_reducible exact laws_markIntS.mono _ _ _)
   | (with_reducible exact spec_TremauxWalk.mono _ _ _ _ _)
   | (with_reducible exact LeO.refl _)
   | (with_reducible exact LeO.none _)
   | (with_reducible refine LeO.ite ?_ ?_)
   | (with_reducible refine LeO.bind ?_ (fun _ => ?_))
   | exact ih0 _ _ _ _ _ _ _ _ _
   | exact ih1 _ _ _ _
   | exact impl_TremauxWalk.mono _ _ _ _ _
   | exact laws_eqIntS.mono _ _ _
   | exact laws_heldIntS.mono _ _ _
   | exact laws_markIntS.mono _ _ _
   | exact spec_TremauxWalk.mono _ _ _ _ _
   | exact LeO.none _
   | refine LeO.ite ?_ ?_
   | refine LeO.bind ?_ (fun _ => ?_)
  ·intro y0 y1 y2 y3
   unfold laws_FnExactTremauxWalk.j1
   repeat' first
   | (with_reducible exact ih0 _ _ _ _ _ _ _ _ _)
   | (with_reducible exact ih1 _ _ _ _)
   | (with_reducible exact impl_TremauxWalk.mono _ _ _ _ _)
   | (with_reducible exact laws_eqIntS.mono _ _ _)
   | (with_reducible exact laws_heldIntS.mono _ _ _)
   | (with_reducible exact laws_markIntS.mono _ _ _)
   | (with_reducible exact spec_TremauxWalk.mono _ _ _ _ _)
   | (with_reducible exact LeO.refl _)
   | (with_reducible exact LeO.none _)
   | (with_reducible refine LeO.ite ?_ ?_)
   | (with_reducible refine LeO.bind ?_ (fun _ => ?_))
   | exact ih0 _ _ _ _ _ _ _ _ _
   | exact ih1 _ _ _ _
   | exact impl_TremauxWalk.mono _ _ _ _ _
   | exact laws_eqIntS.mono _ _ _
   | exact laws_heldIntS.mono _ _ _
   | exact laws_markIntS.mono _ _ _
   | exact spec_TremauxWalk.mono _ _ _ _ _
   | exact LeO.none _
   | refine LeO.ite ?_ ?_
   | refine LeO.bind ?_ (fun _ => ?_)
theorem laws_FnExactTremauxWalk.mono : ∀ a0 a1 a2 a3 k, LeO (laws_FnExactTremauxWalk.f k a0 a1 a2 a3) (laws_FnExactTremauxWalk.f (k + 1) a0 a1 a2 a3) := by
 intro a0 a1 a2 a3 k
 obtain ⟨ih0, ih1⟩ := laws_FnExactTremauxWalk.mono_l k
 unfold laws_FnExactTremauxWalk.f
 repeat' first
   | (with_reducible exact ih0 _ _ _ _ _ _ _ _ _)
   | (with_reducible exact ih1 _ _ _ _)
   | (with_reducible exact impl_TremauxWalk.mono _ _ _ _ _)
   | (with_reducible exact laws_eqIntS.mono _ _ _)
   | (with_reducible exact laws_heldIntS.mono _ _ _)
   | (with_reducible exact laws_markIntS.mono _ _ _)
   | (with_reducible exact spec_TremauxWalk.mono _ _ _ _ _)
   | (with_reducible exact LeO.refl _)
   | (with_reducible exact LeO.none _)
   | (with_reducible refine LeO.ite ?_ ?_)
   | (with_reducible refine LeO.bind ?_ (fun _ => ?_))
   | exact ih0 _ _ _ _ _ _ _ _ _
   | exact ih1 _ _ _ _
   | exact impl_TremauxWalk.mono _ _ _ _ _
   | exact laws_eqIntS.mono _ _ _
   | exact laws_heldIntS.mono _ _ _
   | exact laws_markIntS.mono _ _ _
   | exact spec_TremauxWalk.mono _ _ _ _ _
   | exact LeO.none _
   | refine LeO.ite ?_ ?_
   | refine LeO.bind ?_ (fun _ => ?_)
set_option maxHeartbeats 8000000 in
set_option maxRecDepth 100000 in
theorem laws_FnExactTremauxWalk.calls (k : Nat) (a0_0 : Int) (a0_1 : Int) (a0_2 : Int) (a1 : Int) (r : Bool) (w : World) (h : laws_FnExactTremauxWalk.f k a0_0 a0_1 a0_2 a1 = some r) :
  Calls Try.prog 11 #[.agg #[.int .i64 a0_0, .int .i64 a0_1, .int .i64 a0_2], .int .i64 a1] w fun e w' => e = .returned (.bool r) ∧ Below w.heap.size w w' := by
 have hu25 := Try.underlying25
 have HB := Aside0.mk (Below.refl w.heap.size w)
 have H : ((laws_toMaze.f a0_0 a0_1 a0_2).bind fun bt502 => ((spec_TremauxWalk.f k bt502.1 bt502.2.1 bt502.2.2 a1).bind fun bt505 => ((laws_toMaze.f a0_0 a0_1 a0_2).bind fun bt511 => ((impl_TremauxWalk.f k bt511.1 bt511.2.1 bt511.2.2 a1).bind fun bt514 => ((laws_eqIntS.f k bt514.1 bt505.1).bind fun t520 => (if t520 = true then ((laws_eqIntS.f k bt514.2 bt505.2).bind fun t521 => (laws_FnExactTremauxWalk.j0 k a1 bt505.1 bt505.2 bt514.1 bt514.2 (!t521) a0_0 a0_1 a0_2)) else (laws_FnExactTremauxWalk.j0 k a1 bt505.1 bt505.2 bt514.1 bt514.2 true a0_0 a0_1 a0_2))))))) = some r := h
 clear h
 replace H := Option.bind_eq_some_iff.mp H
 obtain ⟨⟨t502, t503, t504⟩, A30, H⟩ := H
 replace H : ((spec_TremauxWalk.f k t502 t503 t504 a1).bind fun bt505 => ((laws_toMaze.f a0_0 a0_1 a0_2).bind fun bt511 => ((impl_TremauxWalk.f k bt511.1 bt511.2.1 bt511.2.2 a1).bind fun bt514 => ((laws_eqIntS.f k bt514.1 bt505.1).bind fun t520 => (if t520 = true then ((laws_eqIntS.f k bt514.2 bt505.2).bind fun t521 => (laws_FnExactTremauxWalk.j0 k a1 bt505.1 bt505.2 bt514.1 bt514.2 (!t521) a0_0 a0_1 a0_2)) else (laws_FnExactTremauxWalk.j0 k a1 bt505.1 bt505.2 bt514.1 bt514.2 true a0_0 a0_1 a0_2)))))) = some r := H
 have A3 := Aside0.mk A30
 clear A30
 replace H := Option.bind_eq_some_iff.mp H
 obtain ⟨⟨t505, t508⟩, A40, H⟩ := H
 replace H : ((laws_toMaze.f a0_0 a0_1 a0_2).bind fun bt511 => ((impl_TremauxWalk.f k bt511.1 bt511.2.1 bt511.2.2 a1).bind fun bt514 => ((laws_eqIntS.f k bt514.1 t505).bind fun t520 => (if t520 = true then ((laws_eqIntS.f k bt514.2 t508).bind fun t521 => (laws_FnExactTremauxWalk.j0 k a1 t505 t508 bt514.1 bt514.2 (!t521) a0_0 a0_1 a0_2)) else (laws_FnExactTremauxWalk.j0 k a1 t505 t508 bt514.1 bt514.2 true a0_0 a0_1 a0_2))))) = some r := H
 have A4 := Aside0.mk A40
 clear A40
 replace H := Option.bind_eq_some_iff.mp H
 obtain ⟨⟨t511, t512, t513⟩, A50, H⟩ := H
 replace H : ((impl_TremauxWalk.f k t511 t512 t513 a1).bind fun bt514 => ((laws_eqIntS.f k bt514.1 t505).bind fun t520 => (if t520 = true then ((laws_eqIntS.f k bt514.2 t508).bind fun t521 => (laws_FnExactTremauxWalk.j0 k a1 t505 t508 bt514.1 bt514.2 (!t521) a0_0 a0_1 a0_2)) else (laws_FnExactTremauxWalk.j0 k a1 t505 t508 bt514.1 bt514.2 true a0_0 a0_1 a0_2)))) = some r := H
 have A5 := Aside0.mk A50
 clear A50
 replace H := Option.bind_eq_some_iff.mp H
 obtain ⟨⟨t514, t517⟩, A60, H⟩ := H
 replace H : ((laws_eqIntS.f k t514 t505).bind fun t520 => (if t520 = true then ((laws_eqIntS.f k t517 t508).bind fun t521 => (laws_FnExactTremauxWalk.j0 k a1 t505 t508 t514 t517 (!t521) a0_0 a0_1 a0_2)) else (laws_FnExactTremauxWalk.j0 k a1 t505 t508 t514 t517 true a0_0 a0_1 a0_2))) = some r := H
 have A6 := Aside0.mk A60
 clear A60
 have HC7 := Aside0.mk H
 clear H
 go_enter Try.func11, Try.ntmps11
 go_upto_region 3 with (first | ((with_reducible refine gate_dst (N := 2) rfl ?_); refine box_event ?hg (N := 2) ?hd (cs := #[.int .i64 a0_0, .int .i64 a0_1, .int .i64 a0_2]) (t := 25) ?hr ?_; (case hd => rfl); (case hg => rfl); (case hr => first | (go_simp; done) | (go_simp; rfl)); intro gb501 hg w8 hbox hb; have n0_ := Aside0.mk (below_step (hb0_ HB.out) hb); have n1_ := Aside0.mk (hbox); have n2_ := Aside0.mk ((gs_ hg (hb0_ HB.out))); have n3_ := Aside0.mk ((gs_ hg (hb0_ HB.out))); clear HB; have HB := n0_; have BK501 := n1_; have GW501 := n2_; have GE501 := n3_; clear n0_ n1_ n2_ n3_; clear hb hbox hg; obtain ⟨hcz9_0, hcz9_1, hcz9_2⟩ := cz3_ BK501.out; obtain ⟨hfz9_0, hfz9_1, hfz9_2⟩ := fz3_ BK501.out) | ((with_reducible refine gate_callee (f := 24) rfl ?_); refine goesL_ (some 15) rfl rfl Try.func24 (by kernel_rfl) rfl #[.agg #[.int .i64 a0_0, .int .i64 a0_1, .int .i64 a0_2]] rfl (ml_) ?_; (with_reducible refine (laws_toMaze.calls a0_0 a0_1 a0_2 t502 t503 t504 _ A3.out).mono ?_); rintro e w10 ⟨rfl, hb⟩; refine ⟨_, rfl, ?_⟩; replace BK501 := Aside0.mk (bb_ BK501.out hb); replace HB := Aside0.mk (below_step (hb1_ HB.out GE501.out) hb); (try clear hb); (try clear hb2); (try clear hk); (try clear hi)) | ((with_reducible refine gate_callee (f := 47) rfl ?_); refine goesL_ (some 17) rfl rfl Try.func47 (by kernel_rfl) rfl #[.agg #[.int .i64 t502, .int .i64 t503, .int .i64 t504], .int .i64 a1] rfl (ml_) ?_; (with_reducible refine (spec_TremauxWalk.calls k t502 t503 t504 a1 t505 t508 _ A4.out).mono ?_); rintro e w11 ⟨v506, v509, rfl, ho0, ho1, hb⟩; refine ⟨_, rfl, ?_⟩; have HO507 := Aside0.mk (Kd.R_lower ho0 (below_size (hb1_ HB.out GE501.out))); have HO510 := Aside0.mk (Kd.R_lower ho1 (below_size (hb1_ HB.out GE501.out))); replace BK501 := Aside0.mk (bb_ BK501.out hb); replace HB := Aside0.mk (below_step (hb1_ HB.out GE501.out) hb); (try clear hb); (try clear hb2); (try clear hk); (try clear hi); (try clear ho0); (try clear ho1); obtain ⟨hcz12_0, hcz12_1, hcz12_2⟩ := cz3_ BK501.out; obtain ⟨hfz12_0, hfz12_1, hfz12_2⟩ := fz3_ BK501.out) | ((with_reducible refine gate_callee (f := 24) rfl ?_); refine goesL_ (some 22) rfl rfl Try.func24 (by kernel_rfl) rfl #[.agg #[.int .i64 a0_0, .int .i64 a0_1, .int .i64 a0_2]] rfl (ml_) ?_; (with_reducible refine (laws_toMaze.calls a0_0 a0_1 a0_2 t511 t512 t513 _ A5.out).mono ?_); rintro e w13 ⟨rfl, hb⟩; refine ⟨_, rfl, ?_⟩; replace HO507 := Aside0.mk (Kd.R_below (kr_ HO507.out) hb); replace HO510 := Aside0.mk (Kd.R_below (kr_ HO510.out) hb); replace BK501 := Aside0.mk (bb_ BK501.out hb); replace HB := Aside0.mk (below_step (hb1_ HB.out GE501.out) hb); (try clear hb); (try clear hb2); (try clear hk); (try clear hi)) | ((with_reducible refine gate_callee (f := 48) rfl ?_); refine goesL_ (some 24) rfl rfl Try.func48 (by kernel_rfl) rfl #[.agg #[.int .i64 t511, .int .i64 t512, .int .i64 t513], .int .i64 a1] rfl (ml_) ?_; (with_reducible refine (impl_TremauxWalk.calls k t511 t512 t513 a1 t514 t517 _ A6.out).mono ?_); rintro e w14 ⟨v515, v518, rfl, ho0, ho1, hb⟩; refine ⟨_, rfl, ?_⟩; have n0_ := Aside0.mk (Kd.R_mono (Kd.R_told (Kd.R_told (Kd.R_old (kr_ HO507.out) hb) (Kd.R_base ho0)) (Kd.R_base ho1)) (fun _ h_ => h_.1)); have n1_ := Aside0.mk (Kd.R_mono (Kd.R_told (Kd.R_told (Kd.R_old (kr_ HO510.out) hb) (Kd.R_base ho0)) (Kd.R_base ho1)) (fun _ h_ => h_.1)); have n2_ := Aside0.mk (Kd.R_lower (Kd.R_new' (Kd.R_new' ho0 (Kd.R_lt (kr_ HO507.out))) (Kd.R_lt (kr_ HO510.out))) (below_size (hb1_ HB.out GE501.out))); have n3_ := Aside0.mk (Kd.R_lower (Kd.R_new' (Kd.R_new' ho1 (Kd.R_lt (kr_ HO507.out))) (Kd.R_lt (kr_ HO510.out))) (below_size (hb1_ HB.out GE501.out))); have n4_ := Aside0.mk (bb_ BK501.out hb); have n5_ := Aside0.mk (below_step (hb1_ HB.out GE501.out) hb); clear HO507; clear HO510; clear BK501; clear HB; have HO507 := n0_; have HO510 := n1_; have HO516 := n2_; have HO519 := n3_; have BK501 := n4_; have HB := n5_; clear n0_ n1_ n2_ n3_ n4_ n5_; (try clear hb); (try clear hb2); (try clear hk); (try clear hi); (try clear ho0); (try clear ho1)))
 (try simp only [Act.put, List.setIfInBounds_toArray, List.set_cons_zero, List.set_cons_succ])
 go_cut [36] (fun v36 wc => ∃ (kq : Nat) (x36_6 : Bool), v36 = .bool x36_6 ∧ Aside0 (laws_FnExactTremauxWalk.j0 kq a1 t505 t508 t514 t517 x36_6 a0_0 a0_1 a0_2 = some r) ∧ Aside0 (kq ≤ k) ∧ Aside0 (Kd.R (Kd.int .i64) 3 wc w.heap.size (fun k_ => some k_ ≠ (v509 : Value).ownBlock ∧ some k_ ≠ (v515 : Value).ownBlock ∧ some k_ ≠ (v518 : Value).ownBlock) v506 t505) ∧ Aside0 (Kd.R (Kd.int .i64) 3 wc w.heap.size (fun k_ => some k_ ≠ (v506 : Value).ownBlock ∧ some k_ ≠ (v515 : Value).ownBlock ∧ some k_ ≠ (v518 : Value).ownBlock) v509 t508) ∧ Aside0 (Kd.R (Kd.int .i64) 3 wc w.heap.size (fun k_ => some k_ ≠ (v506 : Value).ownBlock ∧ some k_ ≠ (v509 : Value).ownBlock ∧ some k_ ≠ (v518 : Value).ownBlock) v515 t514) ∧ Aside0 (Kd.R (Kd.int .i64) 3 wc w.heap.size (fun k_ => some k_ ≠ (v506 : Value).ownBlock ∧ some k_ ≠ (v509 : Value).ownBlock ∧ some k_ ≠ (v515 : Value).ownBlock) v518 t517) ∧ Aside0 (wc.heap[gb501]? = some (.cells #[.int .i64 a0_0, .int .i64 a0_1, .int .i64 a0_2] 25 (0, 0))) ∧ Aside0 (Below w.heap.size w wc))
 case first =>
  have H := HC7.out
  clear HC7
  replace H := Option.bind_eq_some_iff.mp H
  obtain ⟨t520, A150, H⟩ := H
  replace H : (if t520 = true then ((laws_eqIntS.f k t517 t508).bind fun t521 => (laws_FnExactTremauxWalk.j0 k a1 t505 t508 t514 t517 (!t521) a0_0 a0_1 a0_2)) else (laws_FnExactTremauxWalk.j0 k a1 t505 t508 t514 t517 true a0_0 a0_1 a0_2)) = some r := H
  have A15 := Aside0.mk A150
  clear A150
  by_cases c16 : t520 = true
  ·subst c16
   have H1 : ((laws_eqIntS.f k t517 t508).bind fun t521 => (laws_FnExactTremauxWalk.j0 k a1 t505 t508 t514 t517 (!t521) a0_0 a0_1 a0_2)) = some r := by rw [if_pos rfl] at H; exact H
   clear H
   have H := H1
   clear H1
   replace H := Option.bind_eq_some_iff.mp H
   obtain ⟨t521, A170, H⟩ := H
   replace H : (laws_FnExactTremauxWalk.j0 k a1 t505 t508 t514 t517 (!t521) a0_0 a0_1 a0_2) = some r := H
   have A17 := Aside0.mk A170
   clear A170
   have H' := Aside0.mk H
   clear H
   obtain ⟨Ao18, co18, eo18⟩ := Kd.R_slice HO516.out
   subst eo18
   obtain ⟨Ao19, co19, eo19⟩ := Kd.R_slice HO507.out
   subst eo19
   go_wp2_with (first | ((with_reducible refine gate_callee (f := 26) rfl ?_); refine goesL_ (some 29) rfl rfl Try.func26 (by kernel_rfl) rfl #[.slice Ao18 t514.length co18, .slice Ao19 t505.length co19] rfl (ml_) ?_; (with_reducible refine (laws_eqIntS.calls k _ _ t514 _ _ t505 true _ ?side1 ?side2 ?side3 ?side4 A15.out).mono ?_); (case side1 => repeat (first | exact (Kd.R_reads' HO516.out).2.2 | (with_reducible refine Kd.C_alloc ?_ _) | (with_reducible refine Kd.C_drewN ?_ _) | (with_reducible refine Kd.C_drew ?_))); (case side2 => exact (Kd.R_reads' HO516.out).2.1); (case side3 => repeat (first | exact (Kd.R_reads' HO507.out).2.2 | (with_reducible refine Kd.C_alloc ?_ _) | (with_reducible refine Kd.C_drewN ?_ _) | (with_reducible refine Kd.C_drew ?_))); (case side4 => exact (Kd.R_reads' HO507.out).2.1); rintro e w' ⟨rfl, ⟨nd, rfl⟩⟩; refine ⟨_, rfl, ?_⟩; obtain ⟨Ao20, co20, eo20⟩ := Kd.R_slice HO519.out; subst eo20; obtain ⟨Ao21, co21, eo21⟩ := Kd.R_slice HO510.out; subst eo21) | (go_at_call 26; (with_reducible refine (laws_eqIntS.calls k _ _ t517 _ _ t508 t521 _ ?side1 ?side2 ?side3 ?side4 A17.out).mono ?_); (case side1 => repeat (first | exact (Kd.R_reads' HO519.out).2.2 | (with_reducible refine Kd.C_alloc ?_ _) | (with_reducible refine Kd.C_drewN ?_ _) | (with_reducible refine Kd.C_drew ?_))); (case side2 => exact (Kd.R_reads' HO519.out).2.1); (case side3 => repeat (first | exact (Kd.R_reads' HO510.out).2.2 | (with_reducible refine Kd.C_alloc ?_ _) | (with_reducible refine Kd.C_drewN ?_ _) | (with_reducible refine Kd.C_drew ?_))); (case side4 => exact (Kd.R_reads' HO510.out).2.1); rintro e w' ⟨rfl, ⟨nd, rfl⟩⟩))
   go_meet
   case rel => exact ⟨_, (!t521), (by first | rfl | (simp; done) | (simp [*]; done)), H', ⟨by first | omega | exact Nat.le_refl _⟩, ⟨by (with_reducible repeat (first | apply Kd.R_alloc | apply Kd.R_drewN | apply Kd.R_drew)); exact Kd.R_mono HO507.out (fun _ hk => ⟨hk.1.1, ⟨hk.1.2, hk.2⟩⟩)⟩, ⟨by (with_reducible repeat (first | apply Kd.R_alloc | apply Kd.R_drewN | apply Kd.R_drew)); exact Kd.R_mono HO510.out (fun _ hk => ⟨hk.1.1, ⟨hk.1.2, hk.2⟩⟩)⟩, ⟨by (with_reducible repeat (first | apply Kd.R_alloc | apply Kd.R_drewN | apply Kd.R_drew)); exact Kd.R_mono HO516.out (fun _ hk => ⟨hk.1.2, ⟨hk.2, hk.1.1⟩⟩)⟩, ⟨by (with_reducible repeat (first | apply Kd.R_alloc | apply Kd.R_drewN | apply Kd.R_drew)); exact Kd.R_mono HO519.out (fun _ hk => ⟨hk.1.2, ⟨hk.2, hk.1.1⟩⟩)⟩, ⟨bk_ BK501.out⟩, ⟨hb1_ HB.out GE501.out⟩⟩
  ·replace c16 := Bool.eq_false_iff.mpr c16
   subst c16
   have H1 : (laws_FnExactTremauxWalk.j0 k a1 t505 t508 t514 t517 true a0_0 a0_1 a0_2) = some r := by rw [if_neg (show ¬ (false = true) by decide)] at H; exact H
   clear H
   have H := H1
   clear H1
   have H' := Aside0.mk H
   clear H
   obtain ⟨Ao22, co22, eo22⟩ := Kd.R_slice HO516.out
   subst eo22
   obtain ⟨Ao23, co23, eo23⟩ := Kd.R_slice HO507.out
   subst eo23
   go_wp2_with (first | ((with_reducible refine gate_callee (f := 26) rfl ?_); refine goesL_ (some 29) rfl rfl Try.func26 (by kernel_rfl) rfl #[.slice Ao22 t514.length co22, .slice Ao23 t505.length co23] rfl (ml_) ?_; (with_reducible refine (laws_eqIntS.calls k _ _ t514 _ _ t505 false _ ?side1 ?side2 ?side3 ?side4 A15.out).mono ?_); (case side1 => repeat (first | exact (Kd.R_reads' HO516.out).2.2 | (with_reducible refine Kd.C_alloc ?_ _) | (with_reducible refine Kd.C_drewN ?_ _) | (with_reducible refine Kd.C_drew ?_))); (case side2 => exact (Kd.R_reads' HO516.out).2.1); (case side3 => repeat (first | exact (Kd.R_reads' HO507.out).2.2 | (with_reducible refine Kd.C_alloc ?_ _) | (with_reducible refine Kd.C_drewN ?_ _) | (with_reducible refine Kd.C_drew ?_))); (case side4 => exact (Kd.R_reads' HO507.out).2.1); rintro e w' ⟨rfl, ⟨nd, rfl⟩⟩; refine ⟨_, rfl, ?_⟩))
   go_meet
   case rel => exact ⟨_, (true), (by first | rfl | (simp; done) | (simp [*]; done)), H', ⟨by first | omega | exact Nat.le_refl _⟩, ⟨by (with_reducible repeat (first | apply Kd.R_alloc | apply Kd.R_drewN | apply Kd.R_drew)); exact Kd.R_mono HO507.out (fun _ hk => ⟨hk.1.1, ⟨hk.1.2, hk.2⟩⟩)⟩, ⟨by (with_reducible repeat (first | apply Kd.R_alloc | apply Kd.R_drewN | apply Kd.R_drew)); exact Kd.R_mono HO510.out (fun _ hk => ⟨hk.1.1, ⟨hk.1.2, hk.2⟩⟩)⟩, ⟨by (with_reducible repeat (first | apply Kd.R_alloc | apply Kd.R_drewN | apply Kd.R_drew)); exact Kd.R_mono HO516.out (fun _ hk => ⟨hk.1.2, ⟨hk.2, hk.1.1⟩⟩)⟩, ⟨by (with_reducible repeat (first | apply Kd.R_alloc | apply Kd.R_drewN | apply Kd.R_drew)); exact Kd.R_mono HO519.out (fun _ hk => ⟨hk.1.2, ⟨hk.2, hk.1.1⟩⟩)⟩, ⟨bk_ BK501.out⟩, ⟨hb1_ HB.out GE501.out⟩⟩
 case rest =>
  clear HC7
  try clear c1
  try clear c2
  try clear p2
  try clear c4
  try clear c11
  try clear c16
  try clear hcz12_0
  try clear hcz12_1
  try clear hcz12_2
  try clear hcz9_0
  try clear hcz9_1
  try clear hcz9_2
  try clear hfz12_0
  try clear hfz12_1
  try clear hfz12_2
  try clear hfz9_0
  try clear hfz9_1
  try clear hfz9_2
  obtain ⟨kq, x36_6, rfl, HA, HJ6, HO_5, HO_6, HO_7, HO_8, BK501, HB⟩ := hcut
  cases kq with
  | zero => exact absurd HA.out (by simp [laws_FnExactTremauxWalk.j0])
  | succ kj6 =>
   have H := HA.out
   clear HA
   simp only [laws_FnExactTremauxWalk.j0] at H
   by_cases c24 : x36_6 = true
   ·subst c24
    have H1 : (some false) = some r := by rw [if_pos rfl] at H; exact H
    clear H
    have H := H1
    clear H1
    obtain rfl := Option.some.inj H
    go_wp2
    go_ret
    exact ⟨by first | rfl | (simp [errW_none, errW_some] <;> rfl) | (simp [*, errW_none, errW_some] <;> rfl), hb1_ HB.out GE501.out⟩
   ·replace c24 := Bool.eq_false_iff.mpr c24
    subst c24
    have H1 : ((laws_markIntS.f kj6 t514 1).bind fun bt522 => ((laws_markIntS.f kj6 t517 bt522.1).bind fun bt524 => ((laws_heldIntS.f kj6 bt522.2 1).bind fun t526 => (if t526 < 0 then (some false) else ((laws_heldIntS.f kj6 bt524.2 t526).bind fun t527 => (if t527 < 0 then (some false) else (if t527 = bt524.1 then ((laws_toMaze.f a0_0 a0_1 a0_2).bind fun bt528 => ((impl_TremauxWalk.f kj6 bt528.1 bt528.2.1 bt528.2.2 a1).bind fun bt531 => ((laws_eqIntS.f kj6 bt531.1 t505).bind fun t537 => (if t537 = true then ((laws_eqIntS.f kj6 bt531.2 t508).bind fun t538 => (laws_FnExactTremauxWalk.j1 kj6 bt522.2 bt524.2 bt524.1 (!t538))) else (laws_FnExactTremauxWalk.j1 kj6 bt522.2 bt524.2 bt524.1 true))))) else (some false)))))))) = some r := by rw [if_neg (show ¬ (false = true) by decide)] at H; exact H
    clear H
    have H := H1
    clear H1
    replace H := Option.bind_eq_some_iff.mp H
    obtain ⟨⟨t522, t523⟩, A250, H⟩ := H
    replace H : ((laws_markIntS.f kj6 t517 t522).bind fun bt524 => ((laws_heldIntS.f kj6 t523 1).bind fun t526 => (if t526 < 0 then (some false) else ((laws_heldIntS.f kj6 bt524.2 t526).bind fun t527 => (if t527 < 0 then (some false) else (if t527 = bt524.1 then ((laws_toMaze.f a0_0 a0_1 a0_2).bind fun bt528 => ((impl_TremauxWalk.f kj6 bt528.1 bt528.2.1 bt528.2.2 a1).bind fun bt531 => ((laws_eqIntS.f kj6 bt531.1 t505).bind fun t537 => (if t537 = true then ((laws_eqIntS.f kj6 bt531.2 t508).bind fun t538 => (laws_FnExactTremauxWalk.j1 kj6 t523 bt524.2 bt524.1 (!t538))) else (laws_FnExactTremauxWalk.j1 kj6 t523 bt524.2 bt524.1 true))))) else (some false))))))) = some r := H
    have A25 := Aside0.mk A250
    clear A250
    replace H := Option.bind_eq_some_iff.mp H
    obtain ⟨⟨t524, t525⟩, A260, H⟩ := H
    replace H : ((laws_heldIntS.f kj6 t523 1).bind fun t526 => (if t526 < 0 then (some false) else ((laws_heldIntS.f kj6 t525 t526).bind fun t527 => (if t527 < 0 then (some false) else (if t527 = t524 then ((laws_toMaze.f a0_0 a0_1 a0_2).bind fun bt528 => ((impl_TremauxWalk.f kj6 bt528.1 bt528.2.1 bt528.2.2 a1).bind fun bt531 => ((laws_eqIntS.f kj6 bt531.1 t505).bind fun t537 => (if t537 = true then ((laws_eqIntS.f kj6 bt531.2 t508).bind fun t538 => (laws_FnExactTremauxWalk.j1 kj6 t523 t525 t524 (!t538))) else (laws_FnExactTremauxWalk.j1 kj6 t523 t525 t524 true))))) else (some false)))))) = some r := H
    have A26 := Aside0.mk A260
    clear A260
    replace H := Option.bind_eq_some_iff.mp H
    obtain ⟨t526, A270, H⟩ := H
    replace H : (if t526 < 0 then (some false) else ((laws_heldIntS.f kj6 t525 t526).bind fun t527 => (if t527 < 0 then (some false) else (if t527 = t524 then ((laws_toMaze.f a0_0 a0_1 a0_2).bind fun bt528 => ((impl_TremauxWalk.f kj6 bt528.1 bt528.2.1 bt528.2.2 a1).bind fun bt531 => ((laws_eqIntS.f kj6 bt531.1 t505).bind fun t537 => (if t537 = true then ((laws_eqIntS.f kj6 bt531.2 t508).bind fun t538 => (laws_FnExactTremauxWalk.j1 kj6 t523 t525 t524 (!t538))) else (laws_FnExactTremauxWalk.j1 kj6 t523 t525 t524 true))))) else (some false))))) = some r := H
    have A27 := Aside0.mk A270
    clear A270
    by_cases c28 : t526 < 0
    ·rw [if_pos c28] at H
     have c28b0 : decide (t526 < 0) = true := decide_eq_true c28
     clear c28
     obtain rfl := Option.some.inj H
     obtain ⟨Ao29, co29, eo29⟩ := Kd.R_slice HO_7.out
     subst eo29
     go_wp2_with (first | ((with_reducible refine gate_callee (f := 27) rfl ?_); refine goesL_ (some 39) rfl rfl Try.func27 (by kernel_rfl) rfl #[.slice Ao29 t514.length co29, .int .i64 1] rfl (ml_) ?_; (with_reducible refine (laws_markIntS.calls kj6 (fun k_ => some k_ = (.slice Ao29 t514.length co29 : Value).ownBlock) (.slice Ao29 t514.length co29) t514 1 t522 t523 w _ ?side1 ?side2 A25.out).mono ?_); (case side1 => repeat (first | (with_reducible first | exact HB.out | apply below_alloc | apply pw_below_drewN | apply below_drew1 | refine below_set ?_ GE501.out) | exact HB.out)); (case side2 => exact Kd.R_tight rfl HO_7.out); rintro e w30 ⟨rfl, hy0, hb, hkp⟩; refine ⟨_, rfl, ?_⟩; have n0_ := Aside0.mk (Kd.R_mono (ok' := fun k_ => some k_ ≠ (v509 : Value).ownBlock ∧ some k_ ≠ (.slice Ao29 t514.length co29 : Value).ownBlock ∧ some k_ ≠ (v518 : Value).ownBlock) (Kd.R_keptB (HO_5.out) hkp (fun k_ hk_ hs_ => (hk_.2.1) hs_)) (fun k_ hk_ => ⟨hk_.1.1, hk_.1.2.1, hk_.1.2.2⟩)); have n1_ := Aside0.mk (Kd.R_mono (ok' := fun k_ => some k_ ≠ (v506 : Value).ownBlock ∧ some k_ ≠ (.slice Ao29 t514.length co29 : Value).ownBlock ∧ some k_ ≠ (v518 : Value).ownBlock) (Kd.R_keptB (HO_6.out) hkp (fun k_ hk_ hs_ => (hk_.2.1) hs_)) (fun k_ hk_ => ⟨hk_.1.1, hk_.1.2.1, hk_.1.2.2⟩)); have n2_ := Aside0.mk (Kd.R_reok rfl hy0 (fun k_ e_ => HO_7.out.1 k_ e_)); have n3_ := Aside0.mk (Kd.R_mono (ok' := fun k_ => some k_ ≠ (v506 : Value).ownBlock ∧ some k_ ≠ (v509 : Value).ownBlock ∧ some k_ ≠ (.slice Ao29 t514.length co29 : Value).ownBlock) (Kd.R_keptB (HO_8.out) hkp (fun k_ hk_ hs_ => (hk_.2.2) hs_)) (fun k_ hk_ => ⟨hk_.1.1, hk_.1.2.1, hk_.1.2.2⟩)); have n4_ := Aside0.mk (blk_kept (bk_ BK501.out) hkp (fun hs_ => (fun e_ => (Kd.R_ne HO_7.out BK501.out (by decide)) e_) hs_)); have n5_ := Aside0.mk (hb); clear HO_5; clear HO_6; clear HO_7; clear HO_8; clear BK501; clear HB; have HO_5 := n0_; have HO_6 := n1_; have HO_7 := n2_; have HO_8 := n3_; have BK501 := n4_; have HB := n5_; clear n0_ n1_ n2_ n3_ n4_ n5_; (try clear hb); (try clear hkp); (try clear hy0); obtain ⟨Ao31, co31, eo31⟩ := Kd.R_slice HO_8.out; subst eo31) | ((with_reducible refine gate_callee (f := 27) rfl ?_); refine goesL_ (some 42) rfl rfl Try.func27 (by kernel_rfl) rfl #[.slice Ao31 t517.length co31, .int .i64 t522] rfl (ml_) ?_; (with_reducible refine (laws_markIntS.calls kj6 (fun k_ => some k_ = (.slice Ao31 t517.length co31 : Value).ownBlock) (.slice Ao31 t517.length co31) t517 t522 t524 t525 w _ ?side1 ?side2 A26.out).mono ?_); (case side1 => repeat (first | (with_reducible first | exact HB.out | apply below_alloc | apply pw_below_drewN | apply below_drew1 | refine below_set ?_ GE501.out) | exact HB.out)); (case side2 => exact Kd.R_tight rfl HO_8.out); rintro e w32 ⟨rfl, hy0, hb, hkp⟩; refine ⟨_, rfl, ?_⟩; have n0_ := Aside0.mk (Kd.R_mono (ok' := fun k_ => some k_ ≠ (v509 : Value).ownBlock ∧ some k_ ≠ (.slice Ao29 t514.length co29 : Value).ownBlock ∧ some k_ ≠ (.slice Ao31 t517.length co31 : Value).ownBlock) (Kd.R_keptB (HO_5.out) hkp (fun k_ hk_ hs_ => (hk_.2.2) hs_)) (fun k_ hk_ => ⟨hk_.1.1, hk_.1.2.1, hk_.1.2.2⟩)); have n1_ := Aside0.mk (Kd.R_mono (ok' := fun k_ => some k_ ≠ (v506 : Value).ownBlock ∧ some k_ ≠ (.slice Ao29 t514.length co29 : Value).ownBlock ∧ some k_ ≠ (.slice Ao31 t517.length co31 : Value).ownBlock) (Kd.R_keptB (HO_6.out) hkp (fun k_ hk_ hs_ => (hk_.2.2) hs_)) (fun k_ hk_ => ⟨hk_.1.1, hk_.1.2.1, hk_.1.2.2⟩)); have n2_ := Aside0.mk (Kd.R_mono (ok' := fun k_ => some k_ ≠ (v506 : Value).ownBlock ∧ some k_ ≠ (v509 : Value).ownBlock ∧ some k_ ≠ (.slice Ao31 t517.length co31 : Value).ownBlock) (Kd.R_keptB (HO_7.out) hkp (fun k_ hk_ hs_ => (hk_.2.2) hs_)) (fun k_ hk_ => ⟨hk_.1.1, hk_.1.2.1, hk_.1.2.2⟩)); have n3_ := Aside0.mk (Kd.R_reok rfl hy0 (fun k_ e_ => HO_8.out.1 k_ e_)); have n4_ := Aside0.mk (blk_kept (bk_ BK501.out) hkp (fun hs_ => (fun e_ => (Kd.R_ne HO_8.out BK501.out (by decide)) e_) hs_)); have n5_ := Aside0.mk (hb); clear HO_5; clear HO_6; clear HO_7; clear HO_8; clear BK501; clear HB; have HO_5 := n0_; have HO_6 := n1_; have HO_7 := n2_; have HO_8 := n3_; have BK501 := n4_; have HB := n5_; clear n0_ n1_ n2_ n3_ n4_ n5_; (try clear hb); (try clear hkp); (try clear hy0)) | ((with_reducible refine gate_callee (f := 28) rfl ?_); refine goesL_ (some 45) rfl rfl Try.func28 (by kernel_rfl) rfl #[.slice Ao29 t523.length co29, .int .i64 1] rfl (by (try simp only [List.map_toArray, List.map_cons, List.map_nil]); first | done | (rw [show t523.length = t514.length from (Kd.R_reads' HO_7.out).1.symm] <;> rfl) | rfl | (simp only [List.length_drop, List.length_take]; rfl)) ?_; (with_reducible refine (laws_heldIntS.calls kj6 _ _ t523 1 t526 _ ?side1 ?side2 A27.out).mono ?_); (case side1 => repeat (first | exact (Kd.R_reads' HO_7.out).2.2 | (with_reducible refine Kd.C_alloc ?_ _) | (with_reducible refine Kd.C_drewN ?_ _) | (with_reducible refine Kd.C_drew ?_))); (case side2 => rw [show t523.length = t514.length from (Kd.R_reads' HO_7.out).1.symm]; exact (Kd.R_reads' HO_7.out).2.1); rintro e w' ⟨rfl, ⟨nd, rfl⟩⟩; refine ⟨_, rfl, ?_⟩))
     go_ret
     exact ⟨by first | rfl | (simp [errW_none, errW_some] <;> rfl) | (simp [*, errW_none, errW_some] <;> rfl), hb1_ HB.out GE501.out⟩
    ·rw [if_neg c28] at H
     have c28b0 : decide (t526 < 0) = false := decide_eq_false c28
     clear c28
     replace H := Option.bind_eq_some_iff.mp H
     obtain ⟨t527, A330, H⟩ := H
     replace H : (if t527 < 0 then (some false) else (if t527 = t524 then ((laws_toMaze.f a0_0 a0_1 a0_2).bind fun bt528 => ((impl_TremauxWalk.f kj6 bt528.1 bt528.2.1 bt528.2.2 a1).bind fun bt531 => ((laws_eqIntS.f kj6 bt531.1 t505).bind fun t537 => (if t537 = true then ((laws_eqIntS.f kj6 bt531.2 t508).bind fun t538 => (laws_FnExactTremauxWalk.j1 kj6 t523 t525 t524 (!t538))) else (laws_FnExactTremauxWalk.j1 kj6 t523 t525 t524 true))))) else (some false))) = some r := H
     have A33 := Aside0.mk A330
     clear A330
     by_cases c34 : t527 < 0
     ·rw [if_pos c34] at H
      have c34b0 : decide (t527 < 0) = true := decide_eq_true c34
      clear c34
      obtain rfl := Option.some.inj H
      obtain ⟨Ao35, co35, eo35⟩ := Kd.R_slice HO_7.out
      subst eo35
      go_wp2_with (first | ((with_reducible refine gate_callee (f := 27) rfl ?_); refine goesL_ (some 39) rfl rfl Try.func27 (by kernel_rfl) rfl #[.slice Ao35 t514.length co35, .int .i64 1] rfl (ml_) ?_; (with_reducible refine (laws_markIntS.calls kj6 (fun k_ => some k_ = (.slice Ao35 t514.length co35 : Value).ownBlock) (.slice Ao35 t514.length co35) t514 1 t522 t523 w _ ?side1 ?side2 A25.out).mono ?_); (case side1 => repeat (first | (with_reducible first | exact HB.out | apply below_alloc | apply pw_below_drewN | apply below_drew1 | refine below_set ?_ GE501.out) | exact HB.out)); (case side2 => exact Kd.R_tight rfl HO_7.out); rintro e w36 ⟨rfl, hy0, hb, hkp⟩; refine ⟨_, rfl, ?_⟩; have n0_ := Aside0.mk (Kd.R_mono (ok' := fun k_ => some k_ ≠ (v509 : Value).ownBlock ∧ some k_ ≠ (.slice Ao35 t514.length co35 : Value).ownBlock ∧ some k_ ≠ (v518 : Value).ownBlock) (Kd.R_keptB (HO_5.out) hkp (fun k_ hk_ hs_ => (hk_.2.1) hs_)) (fun k_ hk_ => ⟨hk_.1.1, hk_.1.2.1, hk_.1.2.2⟩)); have n1_ := Aside0.mk (Kd.R_mono (ok' := fun k_ => some k_ ≠ (v506 : Value).ownBlock ∧ some k_ ≠ (.slice Ao35 t514.length co35 : Value).ownBlock ∧ some k_ ≠ (v518 : Value).ownBlock) (Kd.R_keptB (HO_6.out) hkp (fun k_ hk_ hs_ => (hk_.2.1) hs_)) (fun k_ hk_ => ⟨hk_.1.1, hk_.1.2.1, hk_.1.2.2⟩)); have n2_ := Aside0.mk (Kd.R_reok rfl hy0 (fun k_ e_ => HO_7.out.1 k_ e_)); have n3_ := Aside0.mk (Kd.R_mono (ok' := fun k_ => some k_ ≠ (v506 : Value).ownBlock ∧ some k_ ≠ (v509 : Value).ownBlock ∧ some k_ ≠ (.slice Ao35 t514.length co35 : Value).ownBlock) (Kd.R_keptB (HO_8.out) hkp (fun k_ hk_ hs_ => (hk_.2.2) hs_)) (fun k_ hk_ => ⟨hk_.1.1, hk_.1.2.1, hk_.1.2.2⟩)); have n4_ := Aside0.mk (blk_kept (bk_ BK501.out) hkp (fun hs_ => (fun e_ => (Kd.R_ne HO_7.out BK501.out (by decide)) e_) hs_)); have n5_ := Aside0.mk (hb); clear HO_5; clear HO_6; clear HO_7; clear HO_8; clear BK501; clear HB; have HO_5 := n0_; have HO_6 := n1_; have HO_7 := n2_; have HO_8 := n3_; have BK501 := n4_; have HB := n5_; clear n0_ n1_ n2_ n3_ n4_ n5_; (try clear hb); (try clear hkp); (try clear hy0); obtain ⟨Ao37, co37, eo37⟩ := Kd.R_slice HO_8.out; subst eo37) | ((with_reducible refine gate_callee (f := 27) rfl ?_); refine goesL_ (some 42) rfl rfl Try.func27 (by kernel_rfl) rfl #[.slice Ao37 t517.length co37, .int .i64 t522] rfl (ml_) ?_; (with_reducible refine (laws_markIntS.calls kj6 (fun k_ => some k_ = (.slice Ao37 t517.length co37 : Value).ownBlock) (.slice Ao37 t517.length co37) t517 t522 t524 t525 w _ ?side1 ?side2 A26.out).mono ?_); (case side1 => repeat (first | (with_reducible first | exact HB.out | apply below_alloc | apply pw_below_drewN | apply below_drew1 | refine below_set ?_ GE501.out) | exact HB.out)); (case side2 => exact Kd.R_tight rfl HO_8.out); rintro e w38 ⟨rfl, hy0, hb, hkp⟩; refine ⟨_, rfl, ?_⟩; have n0_ := Aside0.mk (Kd.R_mono (ok' := fun k_ => some k_ ≠ (v509 : Value).ownBlock ∧ some k_ ≠ (.slice Ao35 t514.length co35 : Value).ownBlock ∧ some k_ ≠ (.slice Ao37 t517.length co37 : Value).ownBlock) (Kd.R_keptB (HO_5.out) hkp (fun k_ hk_ hs_ => (hk_.2.2) hs_)) (fun k_ hk_ => ⟨hk_.1.1, hk_.1.2.1, hk_.1.2.2⟩)); have n1_ := Aside0.mk (Kd.R_mono (ok' := fun k_ => some k_ ≠ (v506 : Value).ownBlock ∧ some k_ ≠ (.slice Ao35 t514.length co35 : Value).ownBlock ∧ some k_ ≠ (.slice Ao37 t517.length co37 : Value).ownBlock) (Kd.R_keptB (HO_6.out) hkp (fun k_ hk_ hs_ => (hk_.2.2) hs_)) (fun k_ hk_ => ⟨hk_.1.1, hk_.1.2.1, hk_.1.2.2⟩)); have n2_ := Aside0.mk (Kd.R_mono (ok' := fun k_ => some k_ ≠ (v506 : Value).ownBlock ∧ some k_ ≠ (v509 : Value).ownBlock ∧ some k_ ≠ (.slice Ao37 t517.length co37 : Value).ownBlock) (Kd.R_keptB (HO_7.out) hkp (fun k_ hk_ hs_ => (hk_.2.2) hs_)) (fun k_ hk_ => ⟨hk_.1.1, hk_.1.2.1, hk_.1.2.2⟩)); have n3_ := Aside0.mk (Kd.R_reok rfl hy0 (fun k_ e_ => HO_8.out.1 k_ e_)); have n4_ := Aside0.mk (blk_kept (bk_ BK501.out) hkp (fun hs_ => (fun e_ => (Kd.R_ne HO_8.out BK501.out (by decide)) e_) hs_)); have n5_ := Aside0.mk (hb); clear HO_5; clear HO_6; clear HO_7; clear HO_8; clear BK501; clear HB; have HO_5 := n0_; have HO_6 := n1_; have HO_7 := n2_; have HO_8 := n3_; have BK501 := n4_; have HB := n5_; clear n0_ n1_ n2_ n3_ n4_ n5_; (try clear hb); (try clear hkp); (try clear hy0)) | ((with_reducible refine gate_callee (f := 28) rfl ?_); refine goesL_ (some 45) rfl rfl Try.func28 (by kernel_rfl) rfl #[.slice Ao35 t523.length co35, .int .i64 1] rfl (by (try simp only [List.map_toArray, List.map_cons, List.map_nil]); first | done | (rw [show t523.length = t514.length from (Kd.R_reads' HO_7.out).1.symm] <;> rfl) | rfl | (simp only [List.length_drop, List.length_take]; rfl)) ?_; (with_reducible refine (laws_heldIntS.calls kj6 _ _ t523 1 t526 _ ?side1 ?side2 A27.out).mono ?_); (case side1 => repeat (first | exact (Kd.R_reads' HO_7.out).2.2 | (with_reducible refine Kd.C_alloc ?_ _) | (with_reducible refine Kd.C_drewN ?_ _) | (with_reducible refine Kd.C_drew ?_))); (case side2 => rw [show t523.length = t514.length from (Kd.R_reads' HO_7.out).1.symm]; exact (Kd.R_reads' HO_7.out).2.1); rintro e w' ⟨rfl, ⟨nd, rfl⟩⟩; refine ⟨_, rfl, ?_⟩) | ((with_reducible refine gate_callee (f := 28) rfl ?_); refine goesL_ (some 50) rfl rfl Try.func28 (by kernel_rfl) rfl #[.slice Ao37 t525.length co37, .int .i64 t526] rfl (by (try simp only [List.map_toArray, List.map_cons, List.map_nil]); first | done | (rw [show t525.length = t517.length from (Kd.R_reads' HO_8.out).1.symm] <;> rfl) | rfl | (simp only [List.length_drop, List.length_take]; rfl)) ?_; (with_reducible refine (laws_heldIntS.calls kj6 _ _ t525 t526 t527 _ ?side1 ?side2 A33.out).mono ?_); (case side1 => repeat (first | exact (Kd.R_reads' HO_8.out).2.2 | (with_reducible refine Kd.C_alloc ?_ _) | (with_reducible refine Kd.C_drewN ?_ _) | (with_reducible refine Kd.C_drew ?_))); (case side2 => rw [show t525.length = t517.length from (Kd.R_reads' HO_8.out).1.symm]; exact (Kd.R_reads' HO_8.out).2.1); rintro e w' ⟨rfl, ⟨nd, rfl⟩⟩; refine ⟨_, rfl, ?_⟩))
      go_ret
      exact ⟨by first | rfl | (simp [errW_none, errW_some] <;> rfl) | (simp [*, errW_none, errW_some] <;> rfl), hb1_ HB.out GE501.out⟩
     ·rw [if_neg c34] at H
      have c34b0 : decide (t527 < 0) = false := decide_eq_false c34
      clear c34
      by_cases c39 : t527 = t524
      ·rw [if_pos c39] at H
       have c39b0 : (t527 == t524) = true := beq_iff_eq.mpr c39
       have c39b1 : (t527 != t524) = false := bne_eq_false_iff_eq.mpr c39
       clear c39
       replace H := Option.bind_eq_some_iff.mp H
       obtain ⟨⟨t528, t529, t530⟩, A400, H⟩ := H
       replace H : ((impl_TremauxWalk.f kj6 t528 t529 t530 a1).bind fun bt531 => ((laws_eqIntS.f kj6 bt531.1 t505).bind fun t537 => (if t537 = true then ((laws_eqIntS.f kj6 bt531.2 t508).bind fun t538 => (laws_FnExactTremauxWalk.j1 kj6 t523 t525 t524 (!t538))) else (laws_FnExactTremauxWalk.j1 kj6 t523 t525 t524 true)))) = some r := H
       have A40 := Aside0.mk A400
       clear A400
       replace H := Option.bind_eq_some_iff.mp H
       obtain ⟨⟨t531, t534⟩, A410, H⟩ := H
       replace H : ((laws_eqIntS.f kj6 t531 t505).bind fun t537 => (if t537 = true then ((laws_eqIntS.f kj6 t534 t508).bind fun t538 => (laws_FnExactTremauxWalk.j1 kj6 t523 t525 t524 (!t538))) else (laws_FnExactTremauxWalk.j1 kj6 t523 t525 t524 true))) = some r := H
       have A41 := Aside0.mk A410
       clear A410
       have HC42 := Aside0.mk H
       clear H
       obtain ⟨Ao43, co43, eo43⟩ := Kd.R_slice HO_7.out
       subst eo43
       go_upto_region 18 with (first | ((with_reducible refine gate_callee (f := 27) rfl ?_); refine goesL_ (some 39) rfl rfl Try.func27 (by kernel_rfl) rfl #[.slice Ao43 t514.length co43, .int .i64 1] rfl (ml_) ?_; (with_reducible refine (laws_markIntS.calls kj6 (fun k_ => some k_ = (.slice Ao43 t514.length co43 : Value).ownBlock) (.slice Ao43 t514.length co43) t514 1 t522 t523 w _ ?side1 ?side2 A25.out).mono ?_); (case side1 => repeat (first | (with_reducible first | exact HB.out | apply below_alloc | apply pw_below_drewN | apply below_drew1 | refine below_set ?_ GE501.out) | exact HB.out)); (case side2 => exact Kd.R_tight rfl HO_7.out); rintro e w44 ⟨rfl, hy0, hb, hkp⟩; refine ⟨_, rfl, ?_⟩; have n0_ := Aside0.mk (Kd.R_mono (ok' := fun k_ => some k_ ≠ (v509 : Value).ownBlock ∧ some k_ ≠ (.slice Ao43 t514.length co43 : Value).ownBlock ∧ some k_ ≠ (v518 : Value).ownBlock) (Kd.R_keptB (HO_5.out) hkp (fun k_ hk_ hs_ => (hk_.2.1) hs_)) (fun k_ hk_ => ⟨hk_.1.1, hk_.1.2.1, hk_.1.2.2⟩)); have n1_ := Aside0.mk (Kd.R_mono (ok' := fun k_ => some k_ ≠ (v506 : Value).ownBlock ∧ some k_ ≠ (.slice Ao43 t514.length co43 : Value).ownBlock ∧ some k_ ≠ (v518 : Value).ownBlock) (Kd.R_keptB (HO_6.out) hkp (fun k_ hk_ hs_ => (hk_.2.1) hs_)) (fun k_ hk_ => ⟨hk_.1.1, hk_.1.2.1, hk_.1.2.2⟩)); have n2_ := Aside0.mk (Kd.R_reok rfl hy0 (fun k_ e_ => HO_7.out.1 k_ e_)); have n3_ := Aside0.mk (Kd.R_mono (ok' := fun k_ => some k_ ≠ (v506 : Value).ownBlock ∧ some k_ ≠ (v509 : Value).ownBlock ∧ some k_ ≠ (.slice Ao43 t514.length co43 : Value).ownBlock) (Kd.R_keptB (HO_8.out) hkp (fun k_ hk_ hs_ => (hk_.2.2) hs_)) (fun k_ hk_ => ⟨hk_.1.1, hk_.1.2.1, hk_.1.2.2⟩)); have n4_ := Aside0.mk (blk_kept (bk_ BK501.out) hkp (fun hs_ => (fun e_ => (Kd.R_ne HO_7.out BK501.out (by decide)) e_) hs_)); have n5_ := Aside0.mk (hb); clear HO_5; clear HO_6; clear HO_7; clear HO_8; clear BK501; clear HB; have HO_5 := n0_; have HO_6 := n1_; have HO_7 := n2_; have HO_8 := n3_; have BK501 := n4_; have HB := n5_; clear n0_ n1_ n2_ n3_ n4_ n5_; (try clear hb); (try clear hkp); (try clear hy0); obtain ⟨Ao45, co45, eo45⟩ := Kd.R_slice HO_8.out; subst eo45) | ((with_reducible refine gate_callee (f := 27) rfl ?_); refine goesL_ (some 42) rfl rfl Try.func27 (by kernel_rfl) rfl #[.slice Ao45 t517.length co45, .int .i64 t522] rfl (ml_) ?_; (with_reducible refine (laws_markIntS.calls kj6 (fun k_ => some k_ = (.slice Ao45 t517.length co45 : Value).ownBlock) (.slice Ao45 t517.length co45) t517 t522 t524 t525 w _ ?side1 ?side2 A26.out).mono ?_); (case side1 => repeat (first | (with_reducible first | exact HB.out | apply below_alloc | apply pw_below_drewN | apply below_drew1 | refine below_set ?_ GE501.out) | exact HB.out)); (case side2 => exact Kd.R_tight rfl HO_8.out); rintro e w46 ⟨rfl, hy0, hb, hkp⟩; refine ⟨_, rfl, ?_⟩; have n0_ := Aside0.mk (Kd.R_mono (ok' := fun k_ => some k_ ≠ (v509 : Value).ownBlock ∧ some k_ ≠ (.slice Ao43 t514.length co43 : Value).ownBlock ∧ some k_ ≠ (.slice Ao45 t517.length co45 : Value).ownBlock) (Kd.R_keptB (HO_5.out) hkp (fun k_ hk_ hs_ => (hk_.2.2) hs_)) (fun k_ hk_ => ⟨hk_.1.1, hk_.1.2.1, hk_.1.2.2⟩)); have n1_ := Aside0.mk (Kd.R_mono (ok' := fun k_ => some k_ ≠ (v506 : Value).ownBlock ∧ some k_ ≠ (.slice Ao43 t514.length co43 : Value).ownBlock ∧ some k_ ≠ (.slice Ao45 t517.length co45 : Value).ownBlock) (Kd.R_keptB (HO_6.out) hkp (fun k_ hk_ hs_ => (hk_.2.2) hs_)) (fun k_ hk_ => ⟨hk_.1.1, hk_.1.2.1, hk_.1.2.2⟩)); have n2_ := Aside0.mk (Kd.R_mono (ok' := fun k_ => some k_ ≠ (v506 : Value).ownBlock ∧ some k_ ≠ (v509 : Value).ownBlock ∧ some k_ ≠ (.slice Ao45 t517.length co45 : Value).ownBlock) (Kd.R_keptB (HO_7.out) hkp (fun k_ hk_ hs_ => (hk_.2.2) hs_)) (fun k_ hk_ => ⟨hk_.1.1, hk_.1.2.1, hk_.1.2.2⟩)); have n3_ := Aside0.mk (Kd.R_reok rfl hy0 (fun k_ e_ => HO_8.out.1 k_ e_)); have n4_ := Aside0.mk (blk_kept (bk_ BK501.out) hkp (fun hs_ => (fun e_ => (Kd.R_ne HO_8.out BK501.out (by decide)) e_) hs_)); have n5_ := Aside0.mk (hb); clear HO_5; clear HO_6; clear HO_7; clear HO_8; clear BK501; clear HB; have HO_5 := n0_; have HO_6 := n1_; have HO_7 := n2_; have HO_8 := n3_; have BK501 := n4_; have HB := n5_; clear n0_ n1_ n2_ n3_ n4_ n5_; (try clear hb); (try clear hkp); (try clear hy0)) | ((with_reducible refine gate_callee (f := 28) rfl ?_); refine goesL_ (some 45) rfl rfl Try.func28 (by kernel_rfl) rfl #[.slice Ao43 t523.length co43, .int .i64 1] rfl (by (try simp only [List.map_toArray, List.map_cons, List.map_nil]); first | done | (rw [show t523.length = t514.length from (Kd.R_reads' HO_7.out).1.symm] <;> rfl) | rfl | (simp only [List.length_drop, List.length_take]; rfl)) ?_; (with_reducible refine (laws_heldIntS.calls kj6 _ _ t523 1 t526 _ ?side1 ?side2 A27.out).mono ?_); (case side1 => repeat (first | exact (Kd.R_reads' HO_7.out).2.2 | (with_reducible refine Kd.C_alloc ?_ _) | (with_reducible refine Kd.C_drewN ?_ _) | (with_reducible refine Kd.C_drew ?_))); (case side2 => rw [show t523.length = t514.length from (Kd.R_reads' HO_7.out).1.symm]; exact (Kd.R_reads' HO_7.out).2.1); rintro e w' ⟨rfl, ⟨nd, rfl⟩⟩; refine ⟨_, rfl, ?_⟩) | ((with_reducible refine gate_callee (f := 28) rfl ?_); refine goesL_ (some 50) rfl rfl Try.func28 (by kernel_rfl) rfl #[.slice Ao45 t525.length co45, .int .i64 t526] rfl (by (try simp only [List.map_toArray, List.map_cons, List.map_nil]); first | done | (rw [show t525.length = t517.length from (Kd.R_reads' HO_8.out).1.symm] <;> rfl) | rfl | (simp only [List.length_drop, List.length_take]; rfl)) ?_; (with_reducible refine (laws_heldIntS.calls kj6 _ _ t525 t526 t527 _ ?side1 ?side2 A33.out).mono ?_); (case side1 => repeat (first | exact (Kd.R_reads' HO_8.out).2.2 | (with_reducible refine Kd.C_alloc ?_ _) | (with_reducible refine Kd.C_drewN ?_ _) | (with_reducible refine Kd.C_drew ?_))); (case side2 => rw [show t525.length = t517.length from (Kd.R_reads' HO_8.out).1.symm]; exact (Kd.R_reads' HO_8.out).2.1); rintro e w' ⟨rfl, ⟨nd, rfl⟩⟩; refine ⟨_, rfl, ?_⟩; obtain ⟨hcz47_0, hcz47_1, hcz47_2⟩ := cz3_ BK501.out; obtain ⟨hfz47_0, hfz47_1, hfz47_2⟩ := fz3_ BK501.out) | ((with_reducible refine gate_callee (f := 24) rfl ?_); refine goesL_ (some 58) rfl rfl Try.func24 (by kernel_rfl) rfl #[.agg #[.int .i64 a0_0, .int .i64 a0_1, .int .i64 a0_2]] rfl (ml_) ?_; (with_reducible refine (laws_toMaze.calls a0_0 a0_1 a0_2 t528 t529 t530 _ A40.out).mono ?_); rintro e w48 ⟨rfl, hb⟩; refine ⟨_, rfl, ?_⟩; replace HO_5 := Aside0.mk (Kd.R_below (kr_ HO_5.out) hb); replace HO_6 := Aside0.mk (Kd.R_below (kr_ HO_6.out) hb); replace HO_7 := Aside0.mk (Kd.R_below (kr_ HO_7.out) hb); replace HO_8 := Aside0.mk (Kd.R_below (kr_ HO_8.out) hb); replace BK501 := Aside0.mk (bb_ BK501.out hb); replace HB := Aside0.mk (below_step (hb1_ HB.out GE501.out) hb); (try clear hb); (try clear hb2); (try clear hk); (try clear hi)) | ((with_reducible refine gate_callee (f := 48) rfl ?_); refine goesL_ (some 60) rfl rfl Try.func48 (by kernel_rfl) rfl #[.agg #[.int .i64 t528, .int .i64 t529, .int .i64 t530], .int .i64 a1] rfl (ml_) ?_; (with_reducible refine (impl_TremauxWalk.calls kj6 t528 t529 t530 a1 t531 t534 _ A41.out).mono ?_); rintro e w49 ⟨v532, v535, rfl, ho0, ho1, hb⟩; refine ⟨_, rfl, ?_⟩; have n0_ := Aside0.mk (Kd.R_mono (Kd.R_told (Kd.R_told (Kd.R_old (kr_ HO_5.out) hb) (Kd.R_base ho0)) (Kd.R_base ho1)) (fun _ h_ => h_.1)); have n1_ := Aside0.mk (Kd.R_mono (Kd.R_told (Kd.R_told (Kd.R_old (kr_ HO_6.out) hb) (Kd.R_base ho0)) (Kd.R_base ho1)) (fun _ h_ => h_.1)); have n2_ := Aside0.mk (Kd.R_mono (Kd.R_told (Kd.R_told (Kd.R_old (kr_ HO_7.out) hb) (Kd.R_base ho0)) (Kd.R_base ho1)) (fun _ h_ => h_.1)); have n3_ := Aside0.mk (Kd.R_mono (Kd.R_told (Kd.R_told (Kd.R_old (kr_ HO_8.out) hb) (Kd.R_base ho0)) (Kd.R_base ho1)) (fun _ h_ => h_.1)); have n4_ := Aside0.mk (Kd.R_lower (Kd.R_new' (Kd.R_new' (Kd.R_new' (Kd.R_new' ho0 (Kd.R_lt (kr_ HO_5.out))) (Kd.R_lt (kr_ HO_6.out))) (Kd.R_lt (kr_ HO_7.out))) (Kd.R_lt (kr_ HO_8.out))) (below_size (hb1_ HB.out GE501.out))); have n5_ := Aside0.mk (Kd.R_lower (Kd.R_new' (Kd.R_new' (Kd.R_new' (Kd.R_new' ho1 (Kd.R_lt (kr_ HO_5.out))) (Kd.R_lt (kr_ HO_6.out))) (Kd.R_lt (kr_ HO_7.out))) (Kd.R_lt (kr_ HO_8.out))) (below_size (hb1_ HB.out GE501.out))); have n6_ := Aside0.mk (bb_ BK501.out hb); have n7_ := Aside0.mk (below_step (hb1_ HB.out GE501.out) hb); clear HO_5; clear HO_6; clear HO_7; clear HO_8; clear BK501; clear HB; have HO_5 := n0_; have HO_6 := n1_; have HO_7 := n2_; have HO_8 := n3_; have HO533 := n4_; have HO536 := n5_; have BK501 := n6_; have HB := n7_; clear n0_ n1_ n2_ n3_ n4_ n5_ n6_ n7_; (try clear hb); (try clear hb2); (try clear hk); (try clear hi); (try clear ho0); (try clear ho1)))
       (try simp only [Act.put, List.setIfInBounds_toArray, List.set_cons_zero, List.set_cons_succ])
       go_cut [72] (fun v72 wc => ∃ (kq : Nat) (x72_41 : Bool), v72 = .bool x72_41 ∧ Aside0 (laws_FnExactTremauxWalk.j1 kq t523 t525 t524 x72_41 = some r) ∧ Aside0 (kq ≤ kj6) ∧ Aside0 (Kd.R (Kd.int .i64) 3 wc w.heap.size (fun k_ => some k_ ≠ ((.slice Ao45 t517.length co45) : Value).ownBlock) (.slice Ao43 t514.length co43) t523) ∧ Aside0 (Kd.R (Kd.int .i64) 3 wc w.heap.size (fun k_ => some k_ ≠ ((.slice Ao43 t514.length co43) : Value).ownBlock) (.slice Ao45 t517.length co45) t525) ∧ Aside0 (wc.heap[gb501]? = some (.cells #[.int .i64 a0_0, .int .i64 a0_1, .int .i64 a0_2] 25 (0, 0))) ∧ Aside0 (Below w.heap.size w wc))
       case first =>
        have H := HC42.out
        clear HC42
        replace H := Option.bind_eq_some_iff.mp H
        obtain ⟨t537, A500, H⟩ := H
        replace H : (if t537 = true then ((laws_eqIntS.f kj6 t534 t508).bind fun t538 => (laws_FnExactTremauxWalk.j1 kj6 t523 t525 t524 (!t538))) else (laws_FnExactTremauxWalk.j1 kj6 t523 t525 t524 true)) = some r := H
        have A50 := Aside0.mk A500
        clear A500
        by_cases c51 : t537 = true
        ·subst c51
         have H1 : ((laws_eqIntS.f kj6 t534 t508).bind fun t538 => (laws_FnExactTremauxWalk.j1 kj6 t523 t525 t524 (!t538))) = some r := by rw [if_pos rfl] at H; exact H
         clear H
         have H := H1
         clear H1
         replace H := Option.bind_eq_some_iff.mp H
         obtain ⟨t538, A520, H⟩ := H
         replace H : (laws_FnExactTremauxWalk.j1 kj6 t523 t525 t524 (!t538)) = some r := H
         have A52 := Aside0.mk A520
         clear A520
         have H' := Aside0.mk H
         clear H
         obtain ⟨Ao53, co53, eo53⟩ := Kd.R_slice HO533.out
         subst eo53
         obtain ⟨Ao54, co54, eo54⟩ := Kd.R_slice HO_5.out
         subst eo54
         go_wp2_with (first | ((with_reducible refine gate_callee (f := 26) rfl ?_); refine goesL_ (some 65) rfl rfl Try.func26 (by kernel_rfl) rfl #[.slice Ao53 t531.length co53, .slice Ao54 t505.length co54] rfl (ml_) ?_; (with_reducible refine (laws_eqIntS.calls kj6 _ _ t531 _ _ t505 true _ ?side1 ?side2 ?side3 ?side4 A50.out).mono ?_); (case side1 => repeat (first | exact (Kd.R_reads' HO533.out).2.2 | (with_reducible refine Kd.C_alloc ?_ _) | (with_reducible refine Kd.C_drewN ?_ _) | (with_reducible refine Kd.C_drew ?_))); (case side2 => exact (Kd.R_reads' HO533.out).2.1); (case side3 => repeat (first | exact (Kd.R_reads' HO_5.out).2.2 | (with_reducible refine Kd.C_alloc ?_ _) | (with_reducible refine Kd.C_drewN ?_ _) | (with_reducible refine Kd.C_drew ?_))); (case side4 => exact (Kd.R_reads' HO_5.out).2.1); rintro e w' ⟨rfl, ⟨nd, rfl⟩⟩; refine ⟨_, rfl, ?_⟩; obtain ⟨Ao55, co55, eo55⟩ := Kd.R_slice HO536.out; subst eo55; obtain ⟨Ao56, co56, eo56⟩ := Kd.R_slice HO_6.out; subst eo56) | (go_at_call 26; (with_reducible refine (laws_eqIntS.calls kj6 _ _ t534 _ _ t508 t538 _ ?side1 ?side2 ?side3 ?side4 A52.out).mono ?_); (case side1 => repeat (first | exact (Kd.R_reads' HO536.out).2.2 | (with_reducible refine Kd.C_alloc ?_ _) | (with_reducible refine Kd.C_drewN ?_ _) | (with_reducible refine Kd.C_drew ?_))); (case side2 => exact (Kd.R_reads' HO536.out).2.1); (case side3 => repeat (first | exact (Kd.R_reads' HO_6.out).2.2 | (with_reducible refine Kd.C_alloc ?_ _) | (with_reducible refine Kd.C_drewN ?_ _) | (with_reducible refine Kd.C_drew ?_))); (case side4 => exact (Kd.R_reads' HO_6.out).2.1); rintro e w' ⟨rfl, ⟨nd, rfl⟩⟩))
         go_meet
         case rel => exact ⟨_, (!t538), (by first | rfl | (simp; done) | (simp [*]; done)), H', ⟨by have := HJ6.out; first | omega | exact Nat.le_refl _⟩, ⟨by (with_reducible repeat (first | apply Kd.R_alloc | apply Kd.R_drewN | apply Kd.R_drew)); exact Kd.R_mono HO_7.out (fun _ hk => hk.1.1.2.2)⟩, ⟨by (with_reducible repeat (first | apply Kd.R_alloc | apply Kd.R_drewN | apply Kd.R_drew)); exact Kd.R_mono HO_8.out (fun _ hk => hk.1.1.2.2)⟩, ⟨bk_ BK501.out⟩, ⟨hb1_ HB.out GE501.out⟩⟩
        ·replace c51 := Bool.eq_false_iff.mpr c51
         subst c51
         have H1 : (laws_FnExactTremauxWalk.j1 kj6 t523 t525 t524 true) = some r := by rw [if_neg (show ¬ (false = true) by decide)] at H; exact H
         clear H
         have H := H1
         clear H1
         have H' := Aside0.mk H
         clear H
         obtain ⟨Ao57, co57, eo57⟩ := Kd.R_slice HO533.out
         subst eo57
         obtain ⟨Ao58, co58, eo58⟩ := Kd.R_slice HO_5.out
         subst eo58
         go_wp2_with (first | ((with_reducible refine gate_callee (f := 26) rfl ?_); refine goesL_ (some 65) rfl rfl Try.func26 (by kernel_rfl) rfl #[.slice Ao57 t531.length co57, .slice Ao58 t505.length co58] rfl (ml_) ?_; (with_reducible refine (laws_eqIntS.calls kj6 _ _ t531 _ _ t505 false _ ?side1 ?side2 ?side3 ?side4 A50.out).mono ?_); (case side1 => repeat (first | exact (Kd.R_reads' HO533.out).2.2 | (with_reducible refine Kd.C_alloc ?_ _) | (with_reducible refine Kd.C_drewN ?_ _) | (with_reducible refine Kd.C_drew ?_))); (case side2 => exact (Kd.R_reads' HO533.out).2.1); (case side3 => repeat (first | exact (Kd.R_reads' HO_5.out).2.2 | (with_reducible refine Kd.C_alloc ?_ _) | (with_reducible refine Kd.C_drewN ?_ _) | (with_reducible refine Kd.C_drew ?_))); (case side4 => exact (Kd.R_reads' HO_5.out).2.1); rintro e w' ⟨rfl, ⟨nd, rfl⟩⟩; refine ⟨_, rfl, ?_⟩))
         go_meet
         case rel => exact ⟨_, (true), (by first | rfl | (simp; done) | (simp [*]; done)), H', ⟨by have := HJ6.out; first | omega | exact Nat.le_refl _⟩, ⟨by (with_reducible repeat (first | apply Kd.R_alloc | apply Kd.R_drewN | apply Kd.R_drew)); exact Kd.R_mono HO_7.out (fun _ hk => hk.1.1.2.2)⟩, ⟨by (with_reducible repeat (first | apply Kd.R_alloc | apply Kd.R_drewN | apply Kd.R_drew)); exact Kd.R_mono HO_8.out (fun _ hk => hk.1.1.2.2)⟩, ⟨bk_ BK501.out⟩, ⟨hb1_ HB.out GE501.out⟩⟩
       case rest =>
        clear HC42
        try clear c1
        try clear c2
        try clear p2
        try clear c3
        try clear c4
        try clear c5
        try clear c11
        try clear c16
        try clear c24
        try clear c26
        try clear c27
        try clear c28
        try clear c28b0
        try clear c34
        try clear c34b0
        try clear c39
        try clear c39b0
        try clear c39b1
        try clear c47
        try clear c48
        try clear c51
        try clear hcz12_0
        try clear hcz12_1
        try clear hcz12_2
        try clear hcz47_0
        try clear hcz47_1
        try clear hcz47_2
        try clear hcz9_0
        try clear hcz9_1
        try clear hcz9_2
        try clear hfz12_0
        try clear hfz12_1
        try clear hfz12_2
        try clear hfz47_0
        try clear hfz47_1
        try clear hfz47_2
        try clear hfz9_0
        try clear hfz9_1
        try clear hfz9_2
        try clear p2
        obtain ⟨kq, x72_41, rfl, HA, HJ41, HO_7, HO_8, BK501, HB⟩ := hcut
        have hl7_41 := (Kd.R_reads' HO_7.out).1
        rw [hl7_41] at HO_7
        (try simp only [hl7_41])
        (try simp only [hl7_41] at BK501)
        (try simp only [hl7_41] at HO_8)
        have hl8_41 := (Kd.R_reads' HO_8.out).1
        rw [hl8_41] at HO_8
        (try simp only [hl8_41])
        (try simp only [hl8_41] at BK501)
        (try simp only [hl8_41] at HO_7)
        cases kq with
        | zero => exact absurd HA.out (by simp [laws_FnExactTremauxWalk.j1])
        | succ kj41 =>
         have H := HA.out
         clear HA
         simp only [laws_FnExactTremauxWalk.j1] at H
         by_cases c59 : x72_41 = true
         ·subst c59
          have H1 : (some false) = some r := by rw [if_pos rfl] at H; exact H
          clear H
          have H := H1
          clear H1
          obtain rfl := Option.some.inj H
          go_wp2
          go_ret
          exact ⟨by first | rfl | (simp [errW_none, errW_some] <;> rfl) | (simp [*, errW_none, errW_some] <;> rfl), hb1_ HB.out GE501.out⟩
         ·replace c59 := Bool.eq_false_iff.mpr c59
          subst c59
          have H1 : ((laws_heldIntS.f kj41 t523 1).bind fun t539 => (if t539 < 0 then (some false) else ((laws_heldIntS.f kj41 t525 t539).bind fun t540 => (if t540 < 0 then (some false) else (if t540 = t524 then (some true) else (some false)))))) = some r := by rw [if_neg (show ¬ (false = true) by decide)] at H; exact H
          clear H
          have H := H1
          clear H1
          replace H := Option.bind_eq_some_iff.mp H
          obtain ⟨t539, A600, H⟩ := H
          replace H : (if t539 < 0 then (some false) else ((laws_heldIntS.f kj41 t525 t539).bind fun t540 => (if t540 < 0 then (some false) else (if t540 = t524 then (some true) else (some false))))) = some r := H
          have A60 := Aside0.mk A600
          clear A600
          by_cases c61 : t539 < 0
          ·rw [if_pos c61] at H
           have c61b0 : decide (t539 < 0) = true := decide_eq_true c61
           clear c61
           obtain rfl := Option.some.inj H
           go_wp2_with (first | ((with_reducible refine gate_callee (f := 28) rfl ?_); refine goesL_ (some 75) rfl rfl Try.func28 (by kernel_rfl) rfl #[.slice Ao43 t523.length co43, .int .i64 1] rfl (ml_) ?_; (with_reducible refine (laws_heldIntS.calls kj41 _ _ t523 1 t539 _ ?side1 ?side2 A60.out).mono ?_); (case side1 => repeat (first | exact (Kd.R_reads' HO_7.out).2.2 | (with_reducible refine Kd.C_alloc ?_ _) | (with_reducible refine Kd.C_drewN ?_ _) | (with_reducible refine Kd.C_drew ?_))); (case side2 => exact (Kd.R_reads' HO_7.out).2.1); rintro e w' ⟨rfl, ⟨nd, rfl⟩⟩; refine ⟨_, rfl, ?_⟩))
           go_ret
           exact ⟨by first | rfl | (simp [errW_none, errW_some] <;> rfl) | (simp [*, errW_none, errW_some] <;> rfl), hb1_ HB.out GE501.out⟩
          ·rw [if_neg c61] at H
           have c61b0 : decide (t539 < 0) = false := decide_eq_false c61
           clear c61
           replace H := Option.bind_eq_some_iff.mp H
           obtain ⟨t540, A620, H⟩ := H
           replace H : (if t540 < 0 then (some false) else (if t540 = t524 then (some true) else (some false))) = some r := H
           have A62 := Aside0.mk A620
           clear A620
           by_cases c63 : t540 < 0
           ·rw [if_pos c63] at H
            have c63b0 : decide (t540 < 0) = true := decide_eq_true c63
            clear c63
            obtain rfl := Option.some.inj H
            go_wp2_with (first | ((with_reducible refine gate_callee (f := 28) rfl ?_); refine goesL_ (some 75) rfl rfl Try.func28 (by kernel_rfl) rfl #[.slice Ao43 t523.length co43, .int .i64 1] rfl (ml_) ?_; (with_reducible refine (laws_heldIntS.calls kj41 _ _ t523 1 t539 _ ?side1 ?side2 A60.out).mono ?_); (case side1 => repeat (first | exact (Kd.R_reads' HO_7.out).2.2 | (with_reducible refine Kd.C_alloc ?_ _) | (with_reducible refine Kd.C_drewN ?_ _) | (with_reducible refine Kd.C_drew ?_))); (case side2 => exact (Kd.R_reads' HO_7.out).2.1); rintro e w' ⟨rfl, ⟨nd, rfl⟩⟩; refine ⟨_, rfl, ?_⟩) | ((with_reducible refine gate_callee (f := 28) rfl ?_); refine goesL_ (some 80) rfl rfl Try.func28 (by kernel_rfl) rfl #[.slice Ao45 t525.length co45, .int .i64 t539] rfl (ml_) ?_; (with_reducible refine (laws_heldIntS.calls kj41 _ _ t525 t539 t540 _ ?side1 ?side2 A62.out).mono ?_); (case side1 => repeat (first | exact (Kd.R_reads' HO_8.out).2.2 | (with_reducible refine Kd.C_alloc ?_ _) | (with_reducible refine Kd.C_drewN ?_ _) | (with_reducible refine Kd.C_drew ?_))); (case side2 => exact (Kd.R_reads' HO_8.out).2.1); rintro e w' ⟨rfl, ⟨nd, rfl⟩⟩; refine ⟨_, rfl, ?_⟩))
            go_ret
            exact ⟨by first | rfl | (simp [errW_none, errW_some] <;> rfl) | (simp [*, errW_none, errW_some] <;> rfl), hb1_ HB.out GE501.out⟩
           ·rw [if_neg c63] at H
            have c63b0 : decide (t540 < 0) = false := decide_eq_false c63
            clear c63
            by_cases c64 : t540 = t524
            ·rw [if_pos c64] at H
             have c64b0 : (t540 == t524) = true := beq_iff_eq.mpr c64
             have c64b1 : (t540 != t524) = false := bne_eq_false_iff_eq.mpr c64
             clear c64
             obtain rfl := Option.some.inj H
             go_wp2_with (first | ((with_reducible refine gate_callee (f := 28) rfl ?_); refine goesL_ (some 75) rfl rfl Try.func28 (by kernel_rfl) rfl #[.slice Ao43 t523.length co43, .int .i64 1] rfl (ml_) ?_; (with_reducible refine (laws_heldIntS.calls kj41 _ _ t523 1 t539 _ ?side1 ?side2 A60.out).mono ?_); (case side1 => repeat (first | exact (Kd.R_reads' HO_7.out).2.2 | (with_reducible refine Kd.C_alloc ?_ _) | (with_reducible refine Kd.C_drewN ?_ _) | (with_reducible refine Kd.C_drew ?_))); (case side2 => exact (Kd.R_reads' HO_7.out).2.1); rintro e w' ⟨rfl, ⟨nd, rfl⟩⟩; refine ⟨_, rfl, ?_⟩) | ((with_reducible refine gate_callee (f := 28) rfl ?_); refine goesL_ (some 80) rfl rfl Try.func28 (by kernel_rfl) rfl #[.slice Ao45 t525.length co45, .int .i64 t539] rfl (ml_) ?_; (with_reducible refine (laws_heldIntS.calls kj41 _ _ t525 t539 t540 _ ?side1 ?side2 A62.out).mono ?_); (case side1 => repeat (first | exact (Kd.R_reads' HO_8.out).2.2 | (with_reducible refine Kd.C_alloc ?_ _) | (with_reducible refine Kd.C_drewN ?_ _) | (with_reducible refine Kd.C_drew ?_))); (case side2 => exact (Kd.R_reads' HO_8.out).2.1); rintro e w' ⟨rfl, ⟨nd, rfl⟩⟩; refine ⟨_, rfl, ?_⟩))
             go_ret
             exact ⟨by first | rfl | (simp [errW_none, errW_some] <;> rfl) | (simp [*, errW_none, errW_some] <;> rfl), hb1_ HB.out GE501.out⟩
            ·rw [if_neg c64] at H
             have c64b0 : (t540 == t524) = false := beq_eq_false_iff_ne.mpr c64
             have c64b1 : (t540 != t524) = true := bne_iff_ne.mpr c64
             obtain rfl := Option.some.inj H
             go_wp2_with (first | ((with_reducible refine gate_callee (f := 28) rfl ?_); refine goesL_ (some 75) rfl rfl Try.func28 (by kernel_rfl) rfl #[.slice Ao43 t523.length co43, .int .i64 1] rfl (ml_) ?_; (with_reducible refine (laws_heldIntS.calls kj41 _ _ t523 1 t539 _ ?side1 ?side2 A60.out).mono ?_); (case side1 => repeat (first | exact (Kd.R_reads' HO_7.out).2.2 | (with_reducible refine Kd.C_alloc ?_ _) | (with_reducible refine Kd.C_drewN ?_ _) | (with_reducible refine Kd.C_drew ?_))); (case side2 => exact (Kd.R_reads' HO_7.out).2.1); rintro e w' ⟨rfl, ⟨nd, rfl⟩⟩; refine ⟨_, rfl, ?_⟩) | ((with_reducible refine gate_callee (f := 28) rfl ?_); refine goesL_ (some 80) rfl rfl Try.func28 (by kernel_rfl) rfl #[.slice Ao45 t525.length co45, .int .i64 t539] rfl (ml_) ?_; (with_reducible refine (laws_heldIntS.calls kj41 _ _ t525 t539 t540 _ ?side1 ?side2 A62.out).mono ?_); (case side1 => repeat (first | exact (Kd.R_reads' HO_8.out).2.2 | (with_reducible refine Kd.C_alloc ?_ _) | (with_reducible refine Kd.C_drewN ?_ _) | (with_reducible refine Kd.C_drew ?_))); (case side2 => exact (Kd.R_reads' HO_8.out).2.1); rintro e w' ⟨rfl, ⟨nd, rfl⟩⟩; refine ⟨_, rfl, ?_⟩))
             go_ret
             exact ⟨by first | rfl | (simp [errW_none, errW_some] <;> rfl) | (simp [*, errW_none, errW_some] <;> rfl), hb1_ HB.out GE501.out⟩
      ·rw [if_neg c39] at H
       have c39b0 : (t527 == t524) = false := beq_eq_false_iff_ne.mpr c39
       have c39b1 : (t527 != t524) = true := bne_iff_ne.mpr c39
       obtain rfl := Option.some.inj H
       obtain ⟨Ao65, co65, eo65⟩ := Kd.R_slice HO_7.out
       subst eo65
       go_wp2_with (first | ((with_reducible refine gate_callee (f := 27) rfl ?_); refine goesL_ (some 39) rfl rfl Try.func27 (by kernel_rfl) rfl #[.slice Ao65 t514.length co65, .int .i64 1] rfl (ml_) ?_; (with_reducible refine (laws_markIntS.calls kj6 (fun k_ => some k_ = (.slice Ao65 t514.length co65 : Value).ownBlock) (.slice Ao65 t514.length co65) t514 1 t522 t523 w _ ?side1 ?side2 A25.out).mono ?_); (case side1 => repeat (first | (with_reducible first | exact HB.out | apply below_alloc | apply pw_below_drewN | apply below_drew1 | refine below_set ?_ GE501.out) | exact HB.out)); (case side2 => exact Kd.R_tight rfl HO_7.out); rintro e w66 ⟨rfl, hy0, hb, hkp⟩; refine ⟨_, rfl, ?_⟩; have n0_ := Aside0.mk (Kd.R_mono (ok' := fun k_ => some k_ ≠ (v509 : Value).ownBlock ∧ some k_ ≠ (.slice Ao65 t514.length co65 : Value).ownBlock ∧ some k_ ≠ (v518 : Value).ownBlock) (Kd.R_keptB (HO_5.out) hkp (fun k_ hk_ hs_ => (hk_.2.1) hs_)) (fun k_ hk_ => ⟨hk_.1.1, hk_.1.2.1, hk_.1.2.2⟩)); have n1_ := Aside0.mk (Kd.R_mono (ok' := fun k_ => some k_ ≠ (v506 : Value).ownBlock ∧ some k_ ≠ (.slice Ao65 t514.length co65 : Value).ownBlock ∧ some k_ ≠ (v518 : Value).ownBlock) (Kd.R_keptB (HO_6.out) hkp (fun k_ hk_ hs_ => (hk_.2.1) hs_)) (fun k_ hk_ => ⟨hk_.1.1, hk_.1.2.1, hk_.1.2.2⟩)); have n2_ := Aside0.mk (Kd.R_reok rfl hy0 (fun k_ e_ => HO_7.out.1 k_ e_)); have n3_ := Aside0.mk (Kd.R_mono (ok' := fun k_ => some k_ ≠ (v506 : Value).ownBlock ∧ some k_ ≠ (v509 : Value).ownBlock ∧ some k_ ≠ (.slice Ao65 t514.length co65 : Value).ownBlock) (Kd.R_keptB (HO_8.out) hkp (fun k_ hk_ hs_ => (hk_.2.2) hs_)) (fun k_ hk_ => ⟨hk_.1.1, hk_.1.2.1, hk_.1.2.2⟩)); have n4_ := Aside0.mk (blk_kept (bk_ BK501.out) hkp (fun hs_ => (fun e_ => (Kd.R_ne HO_7.out BK501.out (by decide)) e_) hs_)); have n5_ := Aside0.mk (hb); clear HO_5; clear HO_6; clear HO_7; clear HO_8; clear BK501; clear HB; have HO_5 := n0_; have HO_6 := n1_; have HO_7 := n2_; have HO_8 := n3_; have BK501 := n4_; have HB := n5_; clear n0_ n1_ n2_ n3_ n4_ n5_; (try clear hb); (try clear hkp); (try clear hy0); obtain ⟨Ao67, co67, eo67⟩ := Kd.R_slice HO_8.out; subst eo67) | ((with_reducible refine gate_callee (f := 27) rfl ?_); refine goesL_ (some 42) rfl rfl Try.func27 (by kernel_rfl) rfl #[.slice Ao67 t517.length co67, .int .i64 t522] rfl (ml_) ?_; (with_reducible refine (laws_markIntS.calls kj6 (fun k_ => some k_ = (.slice Ao67 t517.length co67 : Value).ownBlock) (.slice Ao67 t517.length co67) t517 t522 t524 t525 w _ ?side1 ?side2 A26.out).mono ?_); (case side1 => repeat (first | (with_reducible first | exact HB.out | apply below_alloc | apply pw_below_drewN | apply below_drew1 | refine below_set ?_ GE501.out) | exact HB.out)); (case side2 => exact Kd.R_tight rfl HO_8.out); rintro e w68 ⟨rfl, hy0, hb, hkp⟩; refine ⟨_, rfl, ?_⟩; have n0_ := Aside0.mk (Kd.R_mono (ok' := fun k_ => some k_ ≠ (v509 : Value).ownBlock ∧ some k_ ≠ (.slice Ao65 t514.length co65 : Value).ownBlock ∧ some k_ ≠ (.slice Ao67 t517.length co67 : Value).ownBlock) (Kd.R_keptB (HO_5.out) hkp (fun k_ hk_ hs_ => (hk_.2.2) hs_)) (fun k_ hk_ => ⟨hk_.1.1, hk_.1.2.1, hk_.1.2.2⟩)); have n1_ := Aside0.mk (Kd.R_mono (ok' := fun k_ => some k_ ≠ (v506 : Value).ownBlock ∧ some k_ ≠ (.slice Ao65 t514.length co65 : Value).ownBlock ∧ some k_ ≠ (.slice Ao67 t517.length co67 : Value).ownBlock) (Kd.R_keptB (HO_6.out) hkp (fun k_ hk_ hs_ => (hk_.2.2) hs_)) (fun k_ hk_ => ⟨hk_.1.1, hk_.1.2.1, hk_.1.2.2⟩)); have n2_ := Aside0.mk (Kd.R_mono (ok' := fun k_ => some k_ ≠ (v506 : Value).ownBlock ∧ some k_ ≠ (v509 : Value).ownBlock ∧ some k_ ≠ (.slice Ao67 t517.length co67 : Value).ownBlock) (Kd.R_keptB (HO_7.out) hkp (fun k_ hk_ hs_ => (hk_.2.2) hs_)) (fun k_ hk_ => ⟨hk_.1.1, hk_.1.2.1, hk_.1.2.2⟩)); have n3_ := Aside0.mk (Kd.R_reok rfl hy0 (fun k_ e_ => HO_8.out.1 k_ e_)); have n4_ := Aside0.mk (blk_kept (bk_ BK501.out) hkp (fun hs_ => (fun e_ => (Kd.R_ne HO_8.out BK501.out (by decide)) e_) hs_)); have n5_ := Aside0.mk (hb); clear HO_5; clear HO_6; clear HO_7; clear HO_8; clear BK501; clear HB; have HO_5 := n0_; have HO_6 := n1_; have HO_7 := n2_; have HO_8 := n3_; have BK501 := n4_; have HB := n5_; clear n0_ n1_ n2_ n3_ n4_ n5_; (try clear hb); (try clear hkp); (try clear hy0)) | ((with_reducible refine gate_callee (f := 28) rfl ?_); refine goesL_ (some 45) rfl rfl Try.func28 (by kernel_rfl) rfl #[.slice Ao65 t523.length co65, .int .i64 1] rfl (by (try simp only [List.map_toArray, List.map_cons, List.map_nil]); first | done | (rw [show t523.length = t514.length from (Kd.R_reads' HO_7.out).1.symm] <;> rfl) | rfl | (simp only [List.length_drop, List.length_take]; rfl)) ?_; (with_reducible refine (laws_heldIntS.calls kj6 _ _ t523 1 t526 _ ?side1 ?side2 A27.out).mono ?_); (case side1 => repeat (first | exact (Kd.R_reads' HO_7.out).2.2 | (with_reducible refine Kd.C_alloc ?_ _) | (with_reducible refine Kd.C_drewN ?_ _) | (with_reducible refine Kd.C_drew ?_))); (case side2 => rw [show t523.length = t514.length from (Kd.R_reads' HO_7.out).1.symm]; exact (Kd.R_reads' HO_7.out).2.1); rintro e w' ⟨rfl, ⟨nd, rfl⟩⟩; refine ⟨_, rfl, ?_⟩) | ((with_reducible refine gate_callee (f := 28) rfl ?_); refine goesL_ (some 50) rfl rfl Try.func28 (by kernel_rfl) rfl #[.slice Ao67 t525.length co67, .int .i64 t526] rfl (by (try simp only [List.map_toArray, List.map_cons, List.map_nil]); first | done | (rw [show t525.length = t517.length from (Kd.R_reads' HO_8.out).1.symm] <;> rfl) | rfl | (simp only [List.length_drop, List.length_take]; rfl)) ?_; (with_reducible refine (laws_heldIntS.calls kj6 _ _ t525 t526 t527 _ ?side1 ?side2 A33.out).mono ?_); (case side1 => repeat (first | exact (Kd.R_reads' HO_8.out).2.2 | (with_reducible refine Kd.C_alloc ?_ _) | (with_reducible refine Kd.C_drewN ?_ _) | (with_reducible refine Kd.C_drew ?_))); (case side2 => rw [show t525.length = t517.length from (Kd.R_reads' HO_8.out).1.symm]; exact (Kd.R_reads' HO_8.out).2.1); rintro e w' ⟨rfl, ⟨nd, rfl⟩⟩; refine ⟨_, rfl, ?_⟩))
       go_ret
       exact ⟨by first | rfl | (simp [errW_none, errW_some] <;> rfl) | (simp [*, errW_none, errW_some] <;> rfl), hb1_ HB.out GE501.out⟩

/-- THE ONE PURE STATEMENT of laws_FnExactTremauxWalk: yours. -/
def laws_FnExactTremauxWalk.Pure : Prop := ∀ (a0_0 : Int) (a0_1 : Int) (a0_2 : Int) (a1 : Int), (Lit.int .i64 a0_0).wf = true → (Lit.int .i64 a0_1).wf = true → (Lit.int .i64 a0_2).wf = true → (Lit.int .i64 a1).wf = true → ∃ k, laws_FnExactTremauxWalk.f k a0_0 a0_1 a0_2 a1 = some true
theorem laws_FnExactTremauxWalk.walk (P : laws_FnExactTremauxWalk.Pure) (a0_0 : Int) (a0_1 : Int) (a0_2 : Int) (a1 : Int) (w : World) (w0_0 : (Lit.int .i64 a0_0).wf = true) (w0_1 : (Lit.int .i64 a0_1).wf = true) (w0_2 : (Lit.int .i64 a0_2).wf = true) (w1 : (Lit.int .i64 a1).wf = true) :
  Calls Try.prog 11 #[.agg #[.int .i64 a0_0, .int .i64 a0_1, .int .i64 a0_2], .int .i64 a1] w fun e w' => e = .returned (.bool true) ∧ Below w.heap.size w w' := by
 obtain ⟨k, h⟩ := P a0_0 a0_1 a0_2 a1 w0_0 w0_1 w0_2 w1
 refine (laws_FnExactTremauxWalk.calls k a0_0 a0_1 a0_2 a1 true w h).mono ?_
 rintro e w' ⟨rfl, hd⟩
 exact ⟨rfl, hd⟩

end Go.Proofs.Ytekgbinadmjapaa.X
