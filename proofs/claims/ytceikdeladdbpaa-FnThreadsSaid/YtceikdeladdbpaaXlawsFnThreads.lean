-- Written by a program of this session (xprint.py), out of the translation and of hand-written contracts. Lean checks it.
import Derived.Test.YtceikdeladdbpaaX0
import Derived.Test.YtceikdeladdbpaaXcdist
import Derived.Test.YtceikdeladdbpaaXcgrid
import Derived.Test.YtceikdeladdbpaaXcsreach
import Derived.Test.YtceikdeladdbpaaXctrees
import Derived.Test.YtceikdeladdbpaaXimplEnteredFrom
import Derived.Test.YtceikdeladdbpaaXimplThreadLength
import Derived.Test.YtceikdeladdbpaaXimplThreadTree
import Derived.Test.YtceikdeladdbpaaXimplThreadWalk
import Derived.Test.YtceikdeladdbpaaXlawsbig
import Derived.Test.YtceikdeladdbpaaXlawshas
import Derived.Test.YtceikdeladdbpaaXspecDrawOpenCell
import Derived.Test.YtceikdeladdbpaaXspecFarthestFrom
namespace Go.Proofs.Ytceikdeladdbpaa.X
open Go.RowKit Go.Proofs.YtceikdeladdbpaaW.PrintWords Go.Proofs.YtceikdeladdbpaaW.PrintLast Go.Proofs.YtceikdeladdbpaaW.PrintMore
attribute [local go_sem] max2_int min2_int max_two min_two max_three min_three max_four min_four   -- for this text's walks alone
set_option linter.unusedVariables false
set_option linter.unusedSimpArgs false

/-! ### laws_FnThreads: function 3 -/
def laws_FnThreads.l0 : Nat → Int → List Int → List Int → Bool → List Int → Int → Int → Int → Int → Int → Int → Int → Int → Option (Bool)
 | 0, _, _, _, _, _, _, _, _, _, _, _, _, _ => none
 | k + 1, x4, x5, x6, x8, x9, x10, x11, x507000, x507001, x507002, x518000, x518001, x518002 => if x11 < (x6.length : Int) then (if 0 ≤ x11 then ((laws_has.f k x5 (rd x6 x11)).bind fun t524 => (if t524 = true then (laws_FnThreads.l0 k x4 x5 x6 x8 x9 x10 (wrap64 (x11 + 1)) x507000 x507001 x507002 x518000 x518001 x518002) else (some false))) else (none)) else ((impl_ThreadLength.f k x507000 x507001 x507002 x4).bind fun t525 => (if (x5.length : Int) = (wrap64 ((wrap64 (2 * (x6.length : Int))) - 1)) then (if 0 ≤ (wrap64 ((x5.length : Int) - 1)) then (if (wrap64 ((x5.length : Int) - 1)) < (x5.length : Int) then (if (rd x5 (wrap64 ((x5.length : Int) - 1))) = x4 then ((spec_IsConnected.f k x507000 x507001 x507002).bind fun t527 => (if (x8 == t527) = true then (if (Go.bits .andNot .i64 x518002 x507002) = 0 then ((impl_CountPassages.f x518000 x518001 x518002).bind fun t528 => (if t528 = (wrap64 ((x6.length : Int) - 1)) then ((spec_CountCells.f x507000 x507001).bind fun t529 => (if (x9.length : Int) = t529 then (if 0 ≤ x4 then (if x4 < (x9.length : Int) then (if (rd x9 x4) = (-1) then (if t525 ≥ x10 then (some (decide (t525 < (x6.length : Int)))) else (some false)) else (some false)) else (none)) else (none)) else (some false))) else (some false))) else (some false)) else (some false))) else (some false)) else (none)) else (none)) else (some false)))
def laws_FnThreads.f (k : Nat) (l0 : List Int) : Option (Bool) := (laws_big.f l0).bind fun t501 => (if t501 = true then (some true) else ((spec_DrawOpenCell.f k l0).bind fun bt502 => ((impl_ThreadWalk.f k bt502.1 bt502.2.1 bt502.2.2.1 bt502.2.2.2).bind fun t507 => ((spec_Reached.f k bt502.1 bt502.2.1 bt502.2.2.1 bt502.2.2.2).bind fun t510 => ((impl_ThreadTree.f k bt502.1 bt502.2.1 bt502.2.2.1 bt502.2.2.2).bind fun bt513 => ((impl_EnteredFrom.f k bt502.1 bt502.2.1 bt502.2.2.1 bt502.2.2.2).bind fun t518 => ((spec_FarthestFrom.f k bt502.1 bt502.2.1 bt502.2.2.1 bt502.2.2.2).bind fun t521 => ((impl_DistanceOf.f k bt502.1 bt502.2.1 bt502.2.2.1 bt502.2.2.2 t521).bind fun t522 => (laws_FnThreads.l0 k bt502.2.2.2 t507 t510 bt513.2.2.2 t518 t522 0 bt502.1 bt502.2.1 bt502.2.2.1 bt513.1 bt513.2.1 bt513.2.2.1)))))))))
theorem laws_FnThreads.mono_l : ∀ k, (∀ y0 y1 y2 y3 y4 y5 y6 y7 y8 y9 y10 y11 y12, LeO (laws_FnThreads.l0 k y0 y1 y2 y3 y4 y5 y6 y7 y8 y9 y10 y11 y12) (laws_FnThreads.l0 (k + 1) y0 y1 y2 y3 y4 y5 y6 y7 y8 y9 y10 y11 y12))
 | 0 => fun _ _ _ _ _ _ _ _ _ _ _ _ _ r h => by simp [laws_FnThreads.l0] at h
 | k + 1 => by
  have ih0 := laws_FnThreads.mono_l k
  ·intro y0 y1 y2 y3 y4 y5 y6 y7 y8 y9 y10 y11 y12
   unfold laws_FnThreads.l0
   repeat' first
   | (with_reducible exact ih0 ..)
   | (with_reducible exact impl_DistanceOf.mono ..)
   | (with_reducible exact impl_EnteredFrom.mono ..)
   | (with_reducible exact impl_ThreadLength.mono ..)
   | (with_reducible exact impl_ThreadTree.mono ..)
   | (with_reducible exact impl_ThreadWalk.mono ..)
   | (with_reducible exact laws_has.mono ..)
   | (with_reducible exact spec_DrawOpenCell.mono ..)
   | (with_reducible exact spec_FarthestFrom.mono ..)
   | (with_reducible exact spec_IsConnected.mono ..)
   | (with_reducible exact spec_Reached.mono ..)
   | (with_reducible first | exact LeO.refl _ | exact LeO.none _ | refine LeO.ite ?_ ?_ | refine LeO.bind ?_ (fun _ => ?_))
   | exact ih0 ..
   | exact impl_DistanceOf.mono ..
   | exact impl_EnteredFrom.mono ..
   | exact impl_ThreadLength.mono ..
   | exact impl_ThreadTree.mono ..
   | exact impl_ThreadWalk.mono ..
   | exact laws_has.mono ..
   | exact spec_DrawOpenCell.mono ..
   | exact spec_FarthestFrom.mono ..
   | exact spec_IsConnected.mono ..
   | exact spec_Reached.mono ..
   | exact LeO.none _ | refine LeO.ite ?_ ?_ | refine LeO.bind ?_ (fun _ => ?_)
theorem laws_FnThreads.mono : ∀ a0 k, LeO (laws_FnThreads.f k a0) (laws_FnThreads.f (k + 1) a0) := by
 intro a0 k
 have ih0 := laws_FnThreads.mono_l k
 unfold laws_FnThreads.f
 repeat' first
   | (with_reducible exact ih0 ..)
   | (with_reducible exact impl_DistanceOf.mono ..)
   | (with_reducible exact impl_EnteredFrom.mono ..)
   | (with_reducible exact impl_ThreadLength.mono ..)
   | (with_reducible exact impl_ThreadTree.mono ..)
   | (with_reducible exact impl_ThreadWalk.mono ..)
   | (with_reducible exact laws_has.mono ..)
   | (with_reducible exact spec_DrawOpenCell.mono ..)
   | (with_reducible exact spec_FarthestFrom.mono ..)
   | (with_reducible exact spec_IsConnected.mono ..)
   | (with_reducible exact spec_Reached.mono ..)
   | (with_reducible first | exact LeO.refl _ | exact LeO.none _ | refine LeO.ite ?_ ?_ | refine LeO.bind ?_ (fun _ => ?_))
   | exact ih0 ..
   | exact impl_DistanceOf.mono ..
   | exact impl_EnteredFrom.mono ..
   | exact impl_ThreadLength.mono ..
   | exact impl_ThreadTree.mono ..
   | exact impl_ThreadWalk.mono ..
   | exact laws_has.mono ..
   | exact spec_DrawOpenCell.mono ..
   | exact spec_FarthestFrom.mono ..
   | exact spec_IsConnected.mono ..
   | exact spec_Reached.mono ..
   | exact LeO.none _ | refine LeO.ite ?_ ?_ | refine LeO.bind ?_ (fun _ => ?_)
set_option maxHeartbeats 40000000 in
set_option maxRecDepth 100000 in
theorem laws_FnThreads.calls (k : Nat) (A0 : Option Addr) (c0 : Nat) (l0 : List Int) (r : Bool) (w : World) (hr0 : Kd.C (Kd.int .u8) w A0 l0.length l0) (hc0 : l0.length ≤ c0) (h : laws_FnThreads.f k l0 = some r) :
  Calls Try.prog 3 #[.slice A0 l0.length c0] w fun e w' => e = .returned (.bool r) ∧ Below w.heap.size w w' := by
 have hu27 := Try.underlying27
 have hu25 := Try.underlying25
 have HR0 := Aside0.mk hr0
 have HC0 := Aside0.mk hc0
 clear hr0 hc0
 have HB := Aside0.mk (Below.refl w.heap.size w)
 have H : ((laws_big.f l0).bind fun t501 => (if t501 = true then (some true) else ((spec_DrawOpenCell.f k l0).bind fun bt502 => ((impl_ThreadWalk.f k bt502.1 bt502.2.1 bt502.2.2.1 bt502.2.2.2).bind fun t507 => ((spec_Reached.f k bt502.1 bt502.2.1 bt502.2.2.1 bt502.2.2.2).bind fun t510 => ((impl_ThreadTree.f k bt502.1 bt502.2.1 bt502.2.2.1 bt502.2.2.2).bind fun bt513 => ((impl_EnteredFrom.f k bt502.1 bt502.2.1 bt502.2.2.1 bt502.2.2.2).bind fun t518 => ((spec_FarthestFrom.f k bt502.1 bt502.2.1 bt502.2.2.1 bt502.2.2.2).bind fun t521 => ((impl_DistanceOf.f k bt502.1 bt502.2.1 bt502.2.2.1 bt502.2.2.2 t521).bind fun t522 => (laws_FnThreads.l0 k bt502.2.2.2 t507 t510 bt513.2.2.2 t518 t522 0 bt502.1 bt502.2.1 bt502.2.2.1 bt513.1 bt513.2.1 bt513.2.2.1)))))))))) = some r := h
 clear h
 replace H := Option.bind_eq_some_iff.mp H
 obtain ⟨t501, A20, H⟩ := H
 replace H : (if t501 = true then (some true) else ((spec_DrawOpenCell.f k l0).bind fun bt502 => ((impl_ThreadWalk.f k bt502.1 bt502.2.1 bt502.2.2.1 bt502.2.2.2).bind fun t507 => ((spec_Reached.f k bt502.1 bt502.2.1 bt502.2.2.1 bt502.2.2.2).bind fun t510 => ((impl_ThreadTree.f k bt502.1 bt502.2.1 bt502.2.2.1 bt502.2.2.2).bind fun bt513 => ((impl_EnteredFrom.f k bt502.1 bt502.2.1 bt502.2.2.1 bt502.2.2.2).bind fun t518 => ((spec_FarthestFrom.f k bt502.1 bt502.2.1 bt502.2.2.1 bt502.2.2.2).bind fun t521 => ((impl_DistanceOf.f k bt502.1 bt502.2.1 bt502.2.2.1 bt502.2.2.2 t521).bind fun t522 => (laws_FnThreads.l0 k bt502.2.2.2 t507 t510 bt513.2.2.2 t518 t522 0 bt502.1 bt502.2.1 bt502.2.2.1 bt513.1 bt513.2.1 bt513.2.2.1))))))))) = some r := H
 have A2 := Aside0.mk A20
 clear A20
 by_cases c3 : t501 = true
 ·subst c3
  have H1 : (some true) = some r := by rw [if_pos rfl] at H; exact H
  clear H
  have H := H1
  clear H1
  obtain rfl := Option.some.inj H
  go_enter Try.func3, Try.ntmps3
  go_wp2_with ((with_reducible refine gw_ ?_); first | (refine gl_ 14 Try.func4 #[.slice A0 l0.length c0] ?_; (with_reducible refine (laws_big.calls _ _ l0 true _ ?side1 ?side2 A2.out).mono ?_); (case side1 => exact kc_ HR0.out); (case side2 => exact HC0.out); rintro e w' ⟨rfl, ⟨nd, rfl⟩⟩; refine ⟨_, rfl, ?_⟩))
  go_ret
  exact ⟨ex_, hb0_ HB.out⟩
 ·replace c3 := Bool.eq_false_iff.mpr c3
  subst c3
  have H1 : ((spec_DrawOpenCell.f k l0).bind fun bt502 => ((impl_ThreadWalk.f k bt502.1 bt502.2.1 bt502.2.2.1 bt502.2.2.2).bind fun t507 => ((spec_Reached.f k bt502.1 bt502.2.1 bt502.2.2.1 bt502.2.2.2).bind fun t510 => ((impl_ThreadTree.f k bt502.1 bt502.2.1 bt502.2.2.1 bt502.2.2.2).bind fun bt513 => ((impl_EnteredFrom.f k bt502.1 bt502.2.1 bt502.2.2.1 bt502.2.2.2).bind fun t518 => ((spec_FarthestFrom.f k bt502.1 bt502.2.1 bt502.2.2.1 bt502.2.2.2).bind fun t521 => ((impl_DistanceOf.f k bt502.1 bt502.2.1 bt502.2.2.1 bt502.2.2.2 t521).bind fun t522 => (laws_FnThreads.l0 k bt502.2.2.2 t507 t510 bt513.2.2.2 t518 t522 0 bt502.1 bt502.2.1 bt502.2.2.1 bt513.1 bt513.2.1 bt513.2.2.1)))))))) = some r := by rw [if_neg (show ¬ (false = true) by decide)] at H; exact H
  clear H
  have H := H1
  clear H1
  replace H := Option.bind_eq_some_iff.mp H
  obtain ⟨⟨t502, t503, t504, t505⟩, A40, H⟩ := H
  replace H : ((impl_ThreadWalk.f k t502 t503 t504 t505).bind fun t507 => ((spec_Reached.f k t502 t503 t504 t505).bind fun t510 => ((impl_ThreadTree.f k t502 t503 t504 t505).bind fun bt513 => ((impl_EnteredFrom.f k t502 t503 t504 t505).bind fun t518 => ((spec_FarthestFrom.f k t502 t503 t504 t505).bind fun t521 => ((impl_DistanceOf.f k t502 t503 t504 t505 t521).bind fun t522 => (laws_FnThreads.l0 k t505 t507 t510 bt513.2.2.2 t518 t522 0 t502 t503 t504 bt513.1 bt513.2.1 bt513.2.2.1))))))) = some r := H
  have A4 := Aside0.mk A40
  clear A40
  replace H := Option.bind_eq_some_iff.mp H
  obtain ⟨t507, A50, H⟩ := H
  replace H : ((spec_Reached.f k t502 t503 t504 t505).bind fun t510 => ((impl_ThreadTree.f k t502 t503 t504 t505).bind fun bt513 => ((impl_EnteredFrom.f k t502 t503 t504 t505).bind fun t518 => ((spec_FarthestFrom.f k t502 t503 t504 t505).bind fun t521 => ((impl_DistanceOf.f k t502 t503 t504 t505 t521).bind fun t522 => (laws_FnThreads.l0 k t505 t507 t510 bt513.2.2.2 t518 t522 0 t502 t503 t504 bt513.1 bt513.2.1 bt513.2.2.1)))))) = some r := H
  have A5 := Aside0.mk A50
  clear A50
  replace H := Option.bind_eq_some_iff.mp H
  obtain ⟨t510, A60, H⟩ := H
  replace H : ((impl_ThreadTree.f k t502 t503 t504 t505).bind fun bt513 => ((impl_EnteredFrom.f k t502 t503 t504 t505).bind fun t518 => ((spec_FarthestFrom.f k t502 t503 t504 t505).bind fun t521 => ((impl_DistanceOf.f k t502 t503 t504 t505 t521).bind fun t522 => (laws_FnThreads.l0 k t505 t507 t510 bt513.2.2.2 t518 t522 0 t502 t503 t504 bt513.1 bt513.2.1 bt513.2.2.1))))) = some r := H
  have A6 := Aside0.mk A60
  clear A60
  replace H := Option.bind_eq_some_iff.mp H
  obtain ⟨⟨t513, t514, t515, t516⟩, A70, H⟩ := H
  replace H : ((impl_EnteredFrom.f k t502 t503 t504 t505).bind fun t518 => ((spec_FarthestFrom.f k t502 t503 t504 t505).bind fun t521 => ((impl_DistanceOf.f k t502 t503 t504 t505 t521).bind fun t522 => (laws_FnThreads.l0 k t505 t507 t510 t516 t518 t522 0 t502 t503 t504 t513 t514 t515)))) = some r := H
  have A7 := Aside0.mk A70
  clear A70
  replace H := Option.bind_eq_some_iff.mp H
  obtain ⟨t518, A80, H⟩ := H
  replace H : ((spec_FarthestFrom.f k t502 t503 t504 t505).bind fun t521 => ((impl_DistanceOf.f k t502 t503 t504 t505 t521).bind fun t522 => (laws_FnThreads.l0 k t505 t507 t510 t516 t518 t522 0 t502 t503 t504 t513 t514 t515))) = some r := H
  have A8 := Aside0.mk A80
  clear A80
  replace H := Option.bind_eq_some_iff.mp H
  obtain ⟨t521, A90, H⟩ := H
  replace H : ((impl_DistanceOf.f k t502 t503 t504 t505 t521).bind fun t522 => (laws_FnThreads.l0 k t505 t507 t510 t516 t518 t522 0 t502 t503 t504 t513 t514 t515)) = some r := H
  have A9 := Aside0.mk A90
  clear A90
  replace H := Option.bind_eq_some_iff.mp H
  obtain ⟨t522, A100, H⟩ := H
  replace H : (laws_FnThreads.l0 k t505 t507 t510 t516 t518 t522 0 t502 t503 t504 t513 t514 t515) = some r := H
  have A10 := Aside0.mk A100
  clear A100
  have H' := Aside0.mk H
  clear H
  go_enter Try.func3, Try.ntmps3
  try go_wp2_with ((with_reducible refine gw_ ?_); first | (refine gl_ 14 Try.func4 #[.slice A0 l0.length c0] ?_; (with_reducible refine (laws_big.calls _ _ l0 false _ ?side1 ?side2 A2.out).mono ?_); (case side1 => exact kc_ HR0.out); (case side2 => exact HC0.out); rintro e w' ⟨rfl, ⟨nd, rfl⟩⟩; refine ⟨_, rfl, ?_⟩) | (refine gl_ 17 Try.func5 #[.slice A0 l0.length c0] ?_; (with_reducible refine (spec_DrawOpenCell.calls k _ _ l0 t502 t503 t504 t505 _ ?side1 ?side2 A4.out).mono ?_); (case side1 => exact kc_ HR0.out); (case side2 => exact HC0.out); rintro e w11 ⟨rfl, hb⟩; refine ⟨_, rfl, ?_⟩; replace HB := HB.s0 hb; (try clear hb)) | ((with_reducible refine gate_dst (N := 3) rfl ?_); (try (refine gate_guard (by rfl) ?_; dsimp only)); refine box_event ?hg (N := 3) ?hd (cs := #[.int .i64 0, .int .i64 0, .int .i64 0]) (t := 27) ?hr ?_; (case hd => rfl); (case hg => rfl); (case hr => first | (go_simp; done) | (go_simp; rfl)); intro gb506 hg w12 hbox hb; have BK506 := Aside0.mk (hbox); have GW506 := HB.g0 hg; have GE506 := HB.g0 hg; replace HB := HB.s0 hb; clear hb hbox hg; obtain ⟨hcz13_0, hcz13_1, hcz13_2⟩ := cz3_ BK506.out; obtain ⟨hfz13_0, hfz13_1, hfz13_2⟩ := fz3_ BK506.out) | (refine gl_ 22 Try.func6 #[.agg #[.int .i64 t502, .int .i64 t503, .int .i64 t504], .int .i64 t505] ?_; (with_reducible refine (impl_ThreadWalk.calls k t502 t503 t504 t505 t507 _ A5.out).mono ?_); rintro e w14 ⟨v508, rfl, ho0, hb⟩; refine ⟨_, rfl, ?_⟩; have HO509 := Aside0.mk (Kd.R_lower ho0 (below_size (hb1_ HB.out GE506.out))); replace BK506 := Aside0.mk (blk_below (bq3_ BK506.out) hb); replace HB := HB.s1 GE506 hb; (try clear hb); (try clear ho0); obtain ⟨hcz15_0, hcz15_1, hcz15_2⟩ := cz3_ BK506.out; obtain ⟨hfz15_0, hfz15_1, hfz15_2⟩ := fz3_ BK506.out) | (refine gl_ 25 Try.func7 #[.agg #[.int .i64 t502, .int .i64 t503, .int .i64 t504], .int .i64 t505] ?_; (with_reducible refine (spec_Reached.calls k t502 t503 t504 t505 t510 _ A6.out).mono ?_); rintro e w16 ⟨v511, rfl, ho0, hb⟩; refine ⟨_, rfl, ?_⟩; have HO512 := Aside0.mk (Kd.R_lower (Kd.R_new' ho0 (Kd.R_lt (kr_ HO509.out))) (below_size (hb1_ HB.out GE506.out))); replace HO509 := Aside0.mk (Kd.R_elder' (kr_ HO509.out) (Kd.R_base ho0) hb); replace BK506 := BK506.bb hb; replace HB := HB.s1 GE506 hb; (try clear hb); (try clear ho0); obtain ⟨hcz17_0, hcz17_1, hcz17_2⟩ := cz3_ BK506.out; obtain ⟨hfz17_0, hfz17_1, hfz17_2⟩ := fz3_ BK506.out) | (refine gl_ 29 Try.func8 #[.agg #[.int .i64 t502, .int .i64 t503, .int .i64 t504], .int .i64 t505] ?_; (with_reducible refine (impl_ThreadTree.calls k t502 t503 t504 t505 t513 t514 t515 t516 _ A7.out).mono ?_); rintro e w18 ⟨rfl, hb⟩; refine ⟨_, rfl, ?_⟩; replace HO509 := HO509.kb hb; replace HO512 := HO512.kb hb; replace BK506 := BK506.bb hb; replace HB := HB.s1 GE506 hb; (try clear hb)) | ((with_reducible refine gate_dst (N := 7) rfl ?_); (try (refine gate_guard (by rfl) ?_; dsimp only)); refine box_event ?hg (N := 7) ?hd (cs := #[.int .i64 0, .int .i64 0, .int .i64 0]) (t := 27) ?hr ?_; (case hd => rfl); (case hg => rfl); (case hr => first | (go_simp; done) | (go_simp; rfl)); intro gb517 hg w19 hbox hb; replace HO509 := HO509.kb hb; replace HO512 := HO512.kb hb; have BK517 := Aside0.mk (hbox); have GW517 := HB.g1 GE506 hg; have GE517 := HB.g1 GE506 hg; replace HB := HB.s1 GE506 hb; have NB506_517 := BK506.nl hg; have NB517_506 := BK506.nr hg; replace BK506 := BK506.bb hb; clear hb hbox hg; have hnb20 := NB517_506.out; have hnc20 := NB506_517.out; obtain ⟨hcz21_0, hcz21_1, hcz21_2⟩ := cz3_ BK517.out; obtain ⟨hfz21_0, hfz21_1, hfz21_2⟩ := fz3_ BK517.out; obtain ⟨hcz22_0, hcz22_1, hcz22_2⟩ := cz3_ BK506.out; obtain ⟨hfz22_0, hfz22_1, hfz22_2⟩ := fz3_ BK506.out) | (refine gl_ 34 Try.func9 #[.agg #[.int .i64 t502, .int .i64 t503, .int .i64 t504], .int .i64 t505] ?_; (with_reducible refine (impl_EnteredFrom.calls k t502 t503 t504 t505 t518 _ A8.out).mono ?_); rintro e w23 ⟨v519, rfl, ho0, hb⟩; refine ⟨_, rfl, ?_⟩; have n0_ := Aside0.mk (Kd.R_elder' (rq3_ HO509.out BK517.out) (Kd.R_base ho0) hb); have n1_ := Aside0.mk (Kd.R_elder' (rq3_ HO512.out BK517.out) (Kd.R_base ho0) hb); have n2_ := Aside0.mk (Kd.R_lower (Kd.R_new' (Kd.R_new' ho0 (Kd.R_lt (rq3_ HO509.out BK517.out))) (Kd.R_lt (rq3_ HO512.out BK517.out))) (below_size (hb2_ HB.out GE506.out GE517.out))); have n3_ := Aside0.mk (blk_below (g := gb506) (o := .cells #[.int .i64 t502, .int .i64 t503, .int .i64 t504] 27 (0, 0)) (by (with_reducible repeat (first | refine blk_drewN ?_ _ | refine blk_drew ?_ | refine blk_alloc ?_ _)); refine blk_far ?_ NB506_517.out _; (with_reducible repeat (first | refine blk_drewN ?_ _ | refine blk_drew ?_ | refine blk_alloc ?_ _)); refine blk_far ?_ NB506_517.out _; (with_reducible repeat (first | refine blk_drewN ?_ _ | refine blk_drew ?_ | refine blk_alloc ?_ _)); refine blk_far ?_ NB506_517.out _; (with_reducible repeat (first | refine blk_drewN ?_ _ | refine blk_drew ?_ | refine blk_alloc ?_ _)); exact BK506.out) hb); have n4_ := Aside0.mk (blk_below (bq3_ BK517.out) hb); have n5_ := HB.s2 GE506 GE517 hb; clear HO509; clear HO512; clear BK506; clear BK517; clear HB; have HO509 := n0_; have HO512 := n1_; have HO520 := n2_; have BK506 := n3_; have BK517 := n4_; have HB := n5_; clear n0_ n1_ n2_ n3_ n4_ n5_; (try clear hb); (try clear ho0)))
  replace HO509 := Aside0.mk (Kd.R_drew HO509.out)
  replace HO512 := Aside0.mk (Kd.R_drew HO512.out)
  replace HO520 := Aside0.mk (Kd.R_drew HO520.out)
  replace BK506 := Aside0.mk (blk_drew BK506.out)
  replace BK517 := Aside0.mk (blk_drew BK517.out)
  replace HB := Aside0.mk (below_drew1 HB.out)
  refine start_ (n := 7) (S := fun w' => w'.cell? ⟨gb506, 0, none⟩ = some (.int .i64 t502) ∧ w'.cell? ⟨gb506, 1, none⟩ = some (.int .i64 t503) ∧ w'.cell? ⟨gb506, 2, none⟩ = some (.int .i64 t504)) (ds := []) #[false, false, false, false, false, false, false] (by kernel_rfl) rfl rfl ⟨BK506.c 0, BK506.c 1, BK506.c 2⟩ (fun hHeld => ?_)
  generalize w23.drew = w24 at HO509 HO512 HO520 BK506 BK517 HB hHeld ⊢
  refine pure_ (i := 1) (N := some 36) (v := ?_) (a' := ?_) #[false, true, false, false, false, false, false] rfl rfl (by kernel_rfl) (fun _ _ _ h => h) (Or.inl ⟨by rfl, ?_⟩) ?_ ?_
  rotate_left
  ·intro w'
   go_simp
   with_reducible rfl
  rotate_left
  ·simp only [Act.put, List.setIfInBounds_toArray, List.set_cons_zero, List.set_cons_succ, i64_w, i32_w]
   rfl
  refine pure_ (i := 3) (N := some 38) (v := ?_) (a' := ?_) #[false, true, false, true, false, false, false] rfl rfl (by kernel_rfl) (fun _ _ _ h => h) (Or.inl ⟨by rfl, ?_⟩) ?_ ?_
  rotate_left
  ·intro w'
   go_simp
   with_reducible rfl
  rotate_left
  ·simp only [Act.put, List.setIfInBounds_toArray, List.set_cons_zero, List.set_cons_succ, i64_w, i32_w]
   rfl
  refine take_ (i := 0) (N := some 35) (v := ?_) (a' := ?_) #[true, true, false, true, false, false, false] rfl rfl (by kernel_rfl) (fun _ _ _ h => h) (Or.inl ⟨by rfl, ?_⟩) hHeld ?_ ?_
  rotate_left
  ·rintro w' ⟨s0, s1, s2⟩
   go_simp
   with_reducible rfl
  rotate_left
  ·simp only [Act.put, List.setIfInBounds_toArray, List.set_cons_zero, List.set_cons_succ, i64_w, i32_w]
   rfl
  refine take_ (i := 2) (N := some 37) (v := ?_) (a' := ?_) #[true, true, true, true, false, false, false] rfl rfl (by kernel_rfl) (fun _ _ _ h => h) (Or.inl ⟨by rfl, ?_⟩) hHeld ?_ ?_
  rotate_left
  ·rintro w' ⟨s0, s1, s2⟩
   go_simp
   with_reducible rfl
  rotate_left
  ·simp only [Act.put, List.setIfInBounds_toArray, List.set_cons_zero, List.set_cons_succ, i64_w, i32_w]
   rfl
  refine one_ (i := 4) (N := some 39) #[true, true, true, true, true, false, false] rfl rfl (by kernel_rfl) (by decide) (fun K hK => ?_)
  refine gq_ Try.func11 #[.agg #[.int .i64 t502, .int .i64 t503, .int .i64 t504], .int .i64 t505] ?_
  with_reducible refine (spec_FarthestFrom.calls k t502 t503 t504 t505 t521 _ A9.out).mono ?_
  rintro e w25 ⟨rfl, hb⟩
  refine ⟨_, rfl, ?_⟩
  replace HO509 := HO509.kb hb
  replace HO512 := HO512.kb hb
  replace HO520 := HO520.kb hb
  replace BK506 := BK506.bb hb
  replace BK517 := BK517.bb hb
  replace HB := HB.s2 GE506 GE517 hb
  skip
  (try clear hb2)
  (try clear hk)
  (try clear hi)
  refine hK.out _ _ ⟨BK506.c 0, BK506.c 1, BK506.c 2⟩ (fun hHeld => ?_)
  clear hK K
  refine nm_ ?_
  refine one_ (i := 5) (N := some 40) #[true, true, true, true, true, true, false] rfl rfl (by kernel_rfl) (by decide) (fun K hK => ?_)
  refine gq_ Try.func10 #[.agg #[.int .i64 t502, .int .i64 t503, .int .i64 t504], .int .i64 t505, .int .i64 t521] ?_
  with_reducible refine (impl_DistanceOf.calls k t502 t503 t504 t505 t521 t522 _ A10.out).mono ?_
  rintro e w26 ⟨rfl, hb⟩
  refine ⟨_, rfl, ?_⟩
  replace HO509 := HO509.kb hb
  replace HO512 := HO512.kb hb
  replace HO520 := HO520.kb hb
  replace BK506 := BK506.bb hb
  replace BK517 := BK517.bb hb
  replace HB := HB.s2 GE506 GE517 hb
  skip
  (try clear hb2)
  (try clear hk)
  (try clear hi)
  refine hK.out _ _ ⟨BK506.c 0, BK506.c 1, BK506.c 2⟩ (fun hHeld => ?_)
  clear hK K
  refine nm_ ?_
  refine pure_ (i := 6) (N := some 10) (v := ?_) (a' := ?_) #[true, true, true, true, true, true, true] rfl rfl (by kernel_rfl) (fun _ _ _ h => h) (Or.inl ⟨by rfl, ?_⟩) ?_ ?_
  rotate_left
  ·intro w'
   go_simp
   with_reducible rfl
  rotate_left
  ·simp only [Act.put, List.setIfInBounds_toArray, List.set_cons_zero, List.set_cons_succ, i64_w, i32_w]
   rfl
  refine done_ (by kernel_rfl) ?_
  try go_wp2
  go_loopg [11] k (fun kq v11 w' => ∃ (x11_1 : Int), v11 = .int .i64 x11_1 ∧ Aside0 (laws_FnThreads.l0 kq t505 t507 t510 t516 t518 t522 x11_1 t502 t503 t504 t513 t514 t515 = some r) ∧ Aside0 (kq ≤ k) ∧ Aside0 (Kd.R (Kd.int .i64) 3 w' w.heap.size (fun k_ => some k_ ≠ (v511 : Value).ownBlock ∧ some k_ ≠ (v519 : Value).ownBlock) v508 t507) ∧ Aside0 (Kd.R (Kd.int .i64) 3 w' w.heap.size (fun k_ => some k_ ≠ (v508 : Value).ownBlock ∧ some k_ ≠ (v519 : Value).ownBlock) v511 t510) ∧ Aside0 (Kd.R (Kd.int .i64) 3 w' w.heap.size (fun k_ => some k_ ≠ (v508 : Value).ownBlock ∧ some k_ ≠ (v511 : Value).ownBlock) v519 t518) ∧ Aside0 (w'.heap[gb506]? = some (.cells #[.int .i64 t502, .int .i64 t503, .int .i64 t504] 27 (0, 0))) ∧ Aside0 (w'.heap[gb517]? = some (.cells #[.int .i64 t513, .int .i64 t514, .int .i64 t515] 27 (0, 0))) ∧ Aside0 (Below w.heap.size w w'))
  case atStart => exact ⟨(0), (by first | rfl | (simp; done) | (simp [*]; done)), H', ⟨Nat.le_refl _⟩, ⟨by (with_reducible repeat (first | apply Kd.R_alloc | apply Kd.R_drewN | apply Kd.R_drew)); exact Kd.R_mono HO509.out (fun _ hk => ⟨hk.1.2, hk.2⟩)⟩, ⟨by (with_reducible repeat (first | apply Kd.R_alloc | apply Kd.R_drewN | apply Kd.R_drew)); exact Kd.R_mono HO512.out (fun _ hk => ⟨hk.1.2, hk.2⟩)⟩, ⟨by (with_reducible repeat (first | apply Kd.R_alloc | apply Kd.R_drewN | apply Kd.R_drew)); exact Kd.R_mono HO520.out (fun _ hk => ⟨hk.1.2, hk.2⟩)⟩, ⟨bk_ BK506.out⟩, ⟨bk_ BK517.out⟩, ⟨hb2_ HB.out GE506.out GE517.out⟩⟩
  case round =>
   clear H'
   try clear c1
   try clear c2
   try clear p2
   try clear c3
   try clear c4
   try clear c5
   try clear c6
   try clear c7
   try clear c8
   try clear c9
   try clear c10
   try clear c11
   try clear c20
   try clear hcz13_0
   try clear hcz13_1
   try clear hcz13_2
   try clear hcz15_0
   try clear hcz15_1
   try clear hcz15_2
   try clear hcz17_0
   try clear hcz17_1
   try clear hcz17_2
   try clear hcz21_0
   try clear hcz21_1
   try clear hcz21_2
   try clear hcz22_0
   try clear hcz22_1
   try clear hcz22_2
   try clear hfz13_0
   try clear hfz13_1
   try clear hfz13_2
   try clear hfz15_0
   try clear hfz15_1
   try clear hfz15_2
   try clear hfz17_0
   try clear hfz17_1
   try clear hfz17_2
   try clear hfz21_0
   try clear hfz21_1
   try clear hfz21_2
   try clear hfz22_0
   try clear hfz22_1
   try clear hfz22_2
   obtain ⟨x11_1, rfl, HA, HK1, HO_5, HO_6, HO_9, BK506, BK517, HB⟩ := hrel
   cases gk with
   | zero => exact absurd HA.out (by simp [laws_FnThreads.l0])
   | succ k1 =>
    have H := HA.out
    clear HA
    simp only [laws_FnThreads.l0] at H
    by_cases c27 : x11_1 < (t510.length : Int)
    ·rw [if_pos c27] at H
     have c27b0 : decide (x11_1 < (t510.length : Int)) = true := decide_eq_true c27
     clear c27
     by_cases c28 : 0 ≤ x11_1
     ·rw [if_pos c28] at H
      have c28b0 : decide (0 ≤ x11_1) = true := decide_eq_true c28
      clear c28
      replace H := Option.bind_eq_some_iff.mp H
      obtain ⟨t524, A290, H⟩ := H
      replace H : (if t524 = true then (laws_FnThreads.l0 k1 t505 t507 t510 t516 t518 t522 (wrap64 (x11_1 + 1)) t502 t503 t504 t513 t514 t515) else (some false)) = some r := H
      have A29 := Aside0.mk A290
      clear A290
      by_cases c30 : t524 = true
      ·subst c30
       have H1 : (laws_FnThreads.l0 k1 t505 t507 t510 t516 t518 t522 (wrap64 (x11_1 + 1)) t502 t503 t504 t513 t514 t515) = some r := by rw [if_pos rfl] at H; exact H
       clear H
       have H := H1
       clear H1
       have H' := Aside0.mk H
       clear H
       obtain ⟨Ao31, co31, eo31⟩ := Kd.R_slice HO_6.out
       subst eo31
       have p523 : 0 ≤ (x11_1 : Int) := of_decide_eq_true (as_)
       have q523 : x11_1 < (t510.length : Int) := of_decide_eq_true (as_)
       obtain ⟨ad523, e523, hx523_0⟩ := Kd.at_int (Kd.R_reads' HO_6.out).2.2 x11_1 p523 q523
       cases e523
       replace p523 := eq_true p523
       replace q523 := eq_true q523
       obtain ⟨Ao32, co32, eo32⟩ := Kd.R_slice HO_5.out
       subst eo32
       go_wp2_with ((with_reducible refine gw_ ?_); first | (refine gl_ 52 Try.func12 #[.slice Ao32 t507.length co32, .int .i64 (rd t510 x11_1)] ?_; (with_reducible refine (laws_has.calls k1 _ _ t507 (rd t510 x11_1) true _ ?side1 ?side2 A29.out).mono ?_); (case side1 => repeat (first | exact (Kd.R_reads' HO_5.out).2.2 | (with_reducible refine Kd.C_alloc ?_ _) | (with_reducible refine Kd.C_drewN ?_ _) | (with_reducible refine Kd.C_drew ?_))); (case side2 => exact (Kd.R_reads' HO_5.out).2.1); rintro e w' ⟨rfl, ⟨nd, rfl⟩⟩; refine ⟨_, rfl, ?_⟩))
       go_roundg k1
       case measure => have := HK1.out; omega
       case rel => exact ⟨(wrap64 (x11_1 + 1)), (by first | rfl | (simp; done) | (simp [*]; done)), H', ⟨by have := HK1.out; omega⟩, ⟨kr_ HO_5.out⟩, ⟨kr_ HO_6.out⟩, ⟨kr_ HO_9.out⟩, ⟨bk_ BK506.out⟩, ⟨bk_ BK517.out⟩, ⟨hb2_ HB.out GE506.out GE517.out⟩⟩
      ·replace c30 := Bool.eq_false_iff.mpr c30
       subst c30
       have H1 : (some false) = some r := by rw [if_neg (show ¬ (false = true) by decide)] at H; exact H
       clear H
       have H := H1
       clear H1
       obtain rfl := Option.some.inj H
       obtain ⟨Ao33, co33, eo33⟩ := Kd.R_slice HO_6.out
       subst eo33
       have p523 : 0 ≤ (x11_1 : Int) := of_decide_eq_true (as_)
       have q523 : x11_1 < (t510.length : Int) := of_decide_eq_true (as_)
       obtain ⟨ad523, e523, hx523_0⟩ := Kd.at_int (Kd.R_reads' HO_6.out).2.2 x11_1 p523 q523
       cases e523
       replace p523 := eq_true p523
       replace q523 := eq_true q523
       obtain ⟨Ao34, co34, eo34⟩ := Kd.R_slice HO_5.out
       subst eo34
       go_wp2_with ((with_reducible refine gw_ ?_); first | (refine gl_ 52 Try.func12 #[.slice Ao34 t507.length co34, .int .i64 (rd t510 x11_1)] ?_; (with_reducible refine (laws_has.calls k1 _ _ t507 (rd t510 x11_1) false _ ?side1 ?side2 A29.out).mono ?_); (case side1 => repeat (first | exact (Kd.R_reads' HO_5.out).2.2 | (with_reducible refine Kd.C_alloc ?_ _) | (with_reducible refine Kd.C_drewN ?_ _) | (with_reducible refine Kd.C_drew ?_))); (case side2 => exact (Kd.R_reads' HO_5.out).2.1); rintro e w' ⟨rfl, ⟨nd, rfl⟩⟩; refine ⟨_, rfl, ?_⟩))
       go_ret
       exact ⟨ex_, hb2_ HB.out GE506.out GE517.out⟩
     ·rw [if_neg c28] at H
      exact absurd H (by simp)
    ·rw [if_neg c27] at H
     have c27b0 : decide (x11_1 < (t510.length : Int)) = false := decide_eq_false c27
     clear c27
     replace H := Option.bind_eq_some_iff.mp H
     obtain ⟨t525, A350, H⟩ := H
     replace H : (if (t507.length : Int) = (wrap64 ((wrap64 (2 * (t510.length : Int))) - 1)) then (if 0 ≤ (wrap64 ((t507.length : Int) - 1)) then (if (wrap64 ((t507.length : Int) - 1)) < (t507.length : Int) then (if (rd t507 (wrap64 ((t507.length : Int) - 1))) = t505 then ((spec_IsConnected.f k1 t502 t503 t504).bind fun t527 => (if (t516 == t527) = true then (if (Go.bits .andNot .i64 t515 t504) = 0 then ((impl_CountPassages.f t513 t514 t515).bind fun t528 => (if t528 = (wrap64 ((t510.length : Int) - 1)) then ((spec_CountCells.f t502 t503).bind fun t529 => (if (t518.length : Int) = t529 then (if 0 ≤ t505 then (if t505 < (t518.length : Int) then (if (rd t518 t505) = (-1) then (if t525 ≥ t522 then (some (decide (t525 < (t510.length : Int)))) else (some false)) else (some false)) else (none)) else (none)) else (some false))) else (some false))) else (some false)) else (some false))) else (some false)) else (none)) else (none)) else (some false)) = some r := H
     have A35 := Aside0.mk A350
     clear A350
     by_cases c36 : (t507.length : Int) = (wrap64 ((wrap64 (2 * (t510.length : Int))) - 1))
     ·rw [if_pos c36] at H
      have c36b0 : ((t507.length : Int) == (wrap64 ((wrap64 (2 * (t510.length : Int))) - 1))) = true := beq_iff_eq.mpr c36
      have c36b1 : ((t507.length : Int) != (wrap64 ((wrap64 (2 * (t510.length : Int))) - 1))) = false := bne_eq_false_iff_eq.mpr c36
      clear c36
      obtain ⟨ji37, hji37⟩ : ∃ j_ : Int, (wrap64 ((t507.length : Int) - 1)) = j_ := ⟨_, rfl⟩
      replace H : (if 0 ≤ (ji37) then (if (ji37) < (t507.length : Int) then (if (rd t507 (ji37)) = t505 then ((spec_IsConnected.f k1 t502 t503 t504).bind fun t527 => (if (t516 == t527) = true then (if (Go.bits .andNot .i64 t515 t504) = 0 then ((impl_CountPassages.f t513 t514 t515).bind fun t528 => (if t528 = (wrap64 ((t510.length : Int) - 1)) then ((spec_CountCells.f t502 t503).bind fun t529 => (if (t518.length : Int) = t529 then (if 0 ≤ t505 then (if t505 < (t518.length : Int) then (if (rd t518 t505) = (-1) then (if t525 ≥ t522 then (some (decide (t525 < (t510.length : Int)))) else (some false)) else (some false)) else (none)) else (none)) else (some false))) else (some false))) else (some false)) else (some false))) else (some false)) else (none)) else (none)) = some r := by first | (rw [hji37] at H; exact H) | (simp only [hji37] at H ⊢; exact H)
      (try rw [hji37] at A35)
      have hji37w : (IntKind.i64.wrap ((t507.length : Int) - 1)) = ji37 := (i64_w _).trans hji37
      by_cases c38 : 0 ≤ (ji37)
      ·rw [if_pos c38] at H
       have c38b0 : decide (0 ≤ (ji37)) = true := decide_eq_true c38
       clear c38
       by_cases c39 : (ji37) < (t507.length : Int)
       ·rw [if_pos c39] at H
        have c39b0 : decide ((ji37) < (t507.length : Int)) = true := decide_eq_true c39
        clear c39
        by_cases c40 : (rd t507 (ji37)) = t505
        ·rw [if_pos c40] at H
         have c40b0 : ((rd t507 (ji37)) == t505) = true := beq_iff_eq.mpr c40
         have c40b1 : ((rd t507 (ji37)) != t505) = false := bne_eq_false_iff_eq.mpr c40
         clear c40
         replace H := Option.bind_eq_some_iff.mp H
         obtain ⟨t527, A410, H⟩ := H
         replace H : (if (t516 == t527) = true then (if (Go.bits .andNot .i64 t515 t504) = 0 then ((impl_CountPassages.f t513 t514 t515).bind fun t528 => (if t528 = (wrap64 ((t510.length : Int) - 1)) then ((spec_CountCells.f t502 t503).bind fun t529 => (if (t518.length : Int) = t529 then (if 0 ≤ t505 then (if t505 < (t518.length : Int) then (if (rd t518 t505) = (-1) then (if t525 ≥ t522 then (some (decide (t525 < (t510.length : Int)))) else (some false)) else (some false)) else (none)) else (none)) else (some false))) else (some false))) else (some false)) else (some false)) = some r := H
         have A41 := Aside0.mk A410
         clear A410
         by_cases c42 : (t516 == t527) = true
         ·rw [if_pos c42] at H
          have c42b0 : (t516 == t527) = true := c42
          (try (have c42b1 : decide (t516 = t527) = true := by simpa using c42))
          (try (have c42b2 : (t516 == t527) = true := by simpa using c42))
          clear c42
          by_cases c43 : (Go.bits .andNot .i64 t515 t504) = 0
          ·rw [if_pos c43] at H
           have c43b0 : ((Go.bits .andNot .i64 t515 t504) == 0) = true := beq_iff_eq.mpr c43
           have c43b1 : ((Go.bits .andNot .i64 t515 t504) != 0) = false := bne_eq_false_iff_eq.mpr c43
           clear c43
           replace H := Option.bind_eq_some_iff.mp H
           obtain ⟨t528, A440, H⟩ := H
           replace H : (if t528 = (wrap64 ((t510.length : Int) - 1)) then ((spec_CountCells.f t502 t503).bind fun t529 => (if (t518.length : Int) = t529 then (if 0 ≤ t505 then (if t505 < (t518.length : Int) then (if (rd t518 t505) = (-1) then (if t525 ≥ t522 then (some (decide (t525 < (t510.length : Int)))) else (some false)) else (some false)) else (none)) else (none)) else (some false))) else (some false)) = some r := H
           have A44 := Aside0.mk A440
           clear A440
           by_cases c45 : t528 = (wrap64 ((t510.length : Int) - 1))
           ·rw [if_pos c45] at H
            have c45b0 : (t528 == (wrap64 ((t510.length : Int) - 1))) = true := beq_iff_eq.mpr c45
            have c45b1 : (t528 != (wrap64 ((t510.length : Int) - 1))) = false := bne_eq_false_iff_eq.mpr c45
            clear c45
            replace H := Option.bind_eq_some_iff.mp H
            obtain ⟨t529, A460, H⟩ := H
            replace H : (if (t518.length : Int) = t529 then (if 0 ≤ t505 then (if t505 < (t518.length : Int) then (if (rd t518 t505) = (-1) then (if t525 ≥ t522 then (some (decide (t525 < (t510.length : Int)))) else (some false)) else (some false)) else (none)) else (none)) else (some false)) = some r := H
            have A46 := Aside0.mk A460
            clear A460
            by_cases c47 : (t518.length : Int) = t529
            ·rw [if_pos c47] at H
             have c47b0 : ((t518.length : Int) == t529) = true := beq_iff_eq.mpr c47
             have c47b1 : ((t518.length : Int) != t529) = false := bne_eq_false_iff_eq.mpr c47
             clear c47
             by_cases c48 : 0 ≤ t505
             ·rw [if_pos c48] at H
              have c48b0 : decide (0 ≤ t505) = true := decide_eq_true c48
              clear c48
              by_cases c49 : t505 < (t518.length : Int)
              ·rw [if_pos c49] at H
               have c49b0 : decide (t505 < (t518.length : Int)) = true := decide_eq_true c49
               clear c49
               by_cases c50 : (rd t518 t505) = (-1)
               ·rw [if_pos c50] at H
                have c50b0 : ((rd t518 t505) == (-1)) = true := beq_iff_eq.mpr c50
                have c50b1 : ((rd t518 t505) != (-1)) = false := bne_eq_false_iff_eq.mpr c50
                clear c50
                by_cases c51 : t525 ≥ t522
                ·rw [if_pos c51] at H
                 have c51b0 : decide (t522 ≤ t525) = true := decide_eq_true c51
                 clear c51
                 obtain rfl := Option.some.inj H
                 obtain ⟨Ao52, co52, eo52⟩ := Kd.R_slice HO_6.out
                 subst eo52
                 have hnb53 := NB506_517.out
                 have hnc53 := NB517_506.out
                 obtain ⟨hcz54_0, hcz54_1, hcz54_2⟩ := cz3_ BK506.out
                 obtain ⟨hfz54_0, hfz54_1, hfz54_2⟩ := fz3_ BK506.out
                 go_wp2_with (first | (refine gl_ 56 Try.func13 #[.agg #[.int .i64 t502, .int .i64 t503, .int .i64 t504], .int .i64 t505] ?_; (with_reducible refine (impl_ThreadLength.calls k1 t502 t503 t504 t505 t525 _ A35.out).mono ?_); rintro e w55 ⟨rfl, hb⟩; refine ⟨_, rfl, ?_⟩; replace HO_5 := HO_5.kb hb; replace HO_6 := HO_6.kb hb; replace HO_9 := HO_9.kb hb; replace BK506 := BK506.bb hb; replace BK517 := BK517.bb hb; replace HB := HB.s2 GE506 GE517 hb; (try clear hb); obtain ⟨Ao56, co56, eo56⟩ := Kd.R_slice HO_5.out; subst eo56; have p526 : 0 ≤ ((ji37) : Int) := of_decide_eq_true (as_); have q526 : (ji37) < (t507.length : Int) := of_decide_eq_true (as_); obtain ⟨ad526, e526, hx526_0⟩ := Kd.at_int (Kd.R_reads' HO_5.out).2.2 (ji37) p526 q526; cases e526; replace p526 := eq_true p526; replace q526 := eq_true q526; obtain ⟨hcz57_0, hcz57_1, hcz57_2⟩ := cz3_ BK506.out; obtain ⟨hfz57_0, hfz57_1, hfz57_2⟩ := fz3_ BK506.out) | (go_at_call 14; (with_reducible refine (spec_IsConnected.calls k1 t502 t503 t504 t527 _ A41.out).mono ?_); rintro e w58 ⟨rfl, hb⟩; replace HO_5 := HO_5.kb hb; replace HO_6 := HO_6.kb hb; replace HO_9 := HO_9.kb hb; replace BK506 := BK506.bb hb; replace BK517 := BK517.bb hb; replace HB := HB.s2 GE506 GE517 hb; (try clear hb); obtain ⟨hcz59_0, hcz59_1, hcz59_2⟩ := cz3_ BK517.out; obtain ⟨hfz59_0, hfz59_1, hfz59_2⟩ := fz3_ BK517.out; obtain ⟨hcz60_0, hcz60_1, hcz60_2⟩ := cz3_ BK506.out; obtain ⟨hfz60_0, hfz60_1, hfz60_2⟩ := fz3_ BK506.out) | (go_at_call 15; (with_reducible refine (impl_CountPassages.calls t513 t514 t515 t528 _ A44.out).mono ?_); rintro e w61 ⟨rfl, hb⟩; replace HO_5 := HO_5.kb hb; replace HO_6 := HO_6.kb hb; replace HO_9 := HO_9.kb hb; replace BK506 := BK506.bb hb; replace BK517 := BK517.bb hb; replace HB := HB.s2 GE506 GE517 hb; (try clear hb); obtain ⟨Ao62, co62, eo62⟩ := Kd.R_slice HO_9.out; subst eo62; obtain ⟨hcz63_0, hcz63_1, hcz63_2⟩ := cz3_ BK506.out; obtain ⟨hfz63_0, hfz63_1, hfz63_2⟩ := fz3_ BK506.out) | (go_at_call 16; (with_reducible refine (spec_CountCells.calls t502 t503 t529 _ A46.out).mono ?_); rintro e w64 ⟨rfl, hb⟩; replace HO_5 := HO_5.kb hb; replace HO_6 := HO_6.kb hb; replace HO_9 := HO_9.kb hb; replace BK506 := BK506.bb hb; replace BK517 := BK517.bb hb; replace HB := HB.s2 GE506 GE517 hb; (try clear hb); have p530 : 0 ≤ (t505 : Int) := of_decide_eq_true (as_); have q530 : t505 < (t518.length : Int) := of_decide_eq_true (as_); obtain ⟨ad530, e530, hx530_0⟩ := Kd.at_int (Kd.R_reads' HO_9.out).2.2 t505 p530 q530; cases e530; replace p530 := eq_true p530; replace q530 := eq_true q530))
                 go_ret
                 exact ⟨by first | rfl | (simp [errW_none, errW_some] <;> rfl) | (simp only [← hji37]; first | rfl | (simp [errW_none, errW_some] <;> rfl)) | (simp [*, errW_none, errW_some] <;> rfl), hb2_ HB.out GE506.out GE517.out⟩
                ·rw [if_neg c51] at H
                 have c51b0 : decide (t522 ≤ t525) = false := decide_eq_false c51
                 clear c51
                 obtain rfl := Option.some.inj H
                 obtain ⟨Ao65, co65, eo65⟩ := Kd.R_slice HO_6.out
                 subst eo65
                 have hnb66 := NB506_517.out
                 have hnc66 := NB517_506.out
                 obtain ⟨hcz67_0, hcz67_1, hcz67_2⟩ := cz3_ BK506.out
                 obtain ⟨hfz67_0, hfz67_1, hfz67_2⟩ := fz3_ BK506.out
                 go_wp2_with (first | (refine gl_ 56 Try.func13 #[.agg #[.int .i64 t502, .int .i64 t503, .int .i64 t504], .int .i64 t505] ?_; (with_reducible refine (impl_ThreadLength.calls k1 t502 t503 t504 t505 t525 _ A35.out).mono ?_); rintro e w68 ⟨rfl, hb⟩; refine ⟨_, rfl, ?_⟩; replace HO_5 := HO_5.kb hb; replace HO_6 := HO_6.kb hb; replace HO_9 := HO_9.kb hb; replace BK506 := BK506.bb hb; replace BK517 := BK517.bb hb; replace HB := HB.s2 GE506 GE517 hb; (try clear hb); obtain ⟨Ao69, co69, eo69⟩ := Kd.R_slice HO_5.out; subst eo69; have p526 : 0 ≤ ((ji37) : Int) := of_decide_eq_true (as_); have q526 : (ji37) < (t507.length : Int) := of_decide_eq_true (as_); obtain ⟨ad526, e526, hx526_0⟩ := Kd.at_int (Kd.R_reads' HO_5.out).2.2 (ji37) p526 q526; cases e526; replace p526 := eq_true p526; replace q526 := eq_true q526; obtain ⟨hcz70_0, hcz70_1, hcz70_2⟩ := cz3_ BK506.out; obtain ⟨hfz70_0, hfz70_1, hfz70_2⟩ := fz3_ BK506.out) | (go_at_call 14; (with_reducible refine (spec_IsConnected.calls k1 t502 t503 t504 t527 _ A41.out).mono ?_); rintro e w71 ⟨rfl, hb⟩; replace HO_5 := HO_5.kb hb; replace HO_6 := HO_6.kb hb; replace HO_9 := HO_9.kb hb; replace BK506 := BK506.bb hb; replace BK517 := BK517.bb hb; replace HB := HB.s2 GE506 GE517 hb; (try clear hb); obtain ⟨hcz72_0, hcz72_1, hcz72_2⟩ := cz3_ BK517.out; obtain ⟨hfz72_0, hfz72_1, hfz72_2⟩ := fz3_ BK517.out; obtain ⟨hcz73_0, hcz73_1, hcz73_2⟩ := cz3_ BK506.out; obtain ⟨hfz73_0, hfz73_1, hfz73_2⟩ := fz3_ BK506.out) | (go_at_call 15; (with_reducible refine (impl_CountPassages.calls t513 t514 t515 t528 _ A44.out).mono ?_); rintro e w74 ⟨rfl, hb⟩; replace HO_5 := HO_5.kb hb; replace HO_6 := HO_6.kb hb; replace HO_9 := HO_9.kb hb; replace BK506 := BK506.bb hb; replace BK517 := BK517.bb hb; replace HB := HB.s2 GE506 GE517 hb; (try clear hb); obtain ⟨Ao75, co75, eo75⟩ := Kd.R_slice HO_9.out; subst eo75; obtain ⟨hcz76_0, hcz76_1, hcz76_2⟩ := cz3_ BK506.out; obtain ⟨hfz76_0, hfz76_1, hfz76_2⟩ := fz3_ BK506.out) | (go_at_call 16; (with_reducible refine (spec_CountCells.calls t502 t503 t529 _ A46.out).mono ?_); rintro e w77 ⟨rfl, hb⟩; replace HO_5 := HO_5.kb hb; replace HO_6 := HO_6.kb hb; replace HO_9 := HO_9.kb hb; replace BK506 := BK506.bb hb; replace BK517 := BK517.bb hb; replace HB := HB.s2 GE506 GE517 hb; (try clear hb); have p530 : 0 ≤ (t505 : Int) := of_decide_eq_true (as_); have q530 : t505 < (t518.length : Int) := of_decide_eq_true (as_); obtain ⟨ad530, e530, hx530_0⟩ := Kd.at_int (Kd.R_reads' HO_9.out).2.2 t505 p530 q530; cases e530; replace p530 := eq_true p530; replace q530 := eq_true q530))
                 go_ret
                 exact ⟨by first | rfl | (simp [errW_none, errW_some] <;> rfl) | (simp only [← hji37]; first | rfl | (simp [errW_none, errW_some] <;> rfl)) | (simp [*, errW_none, errW_some] <;> rfl), hb2_ HB.out GE506.out GE517.out⟩
               ·rw [if_neg c50] at H
                have c50b0 : ((rd t518 t505) == (-1)) = false := beq_eq_false_iff_ne.mpr c50
                have c50b1 : ((rd t518 t505) != (-1)) = true := bne_iff_ne.mpr c50
                obtain rfl := Option.some.inj H
                obtain ⟨Ao78, co78, eo78⟩ := Kd.R_slice HO_6.out
                subst eo78
                have hnb79 := NB506_517.out
                have hnc79 := NB517_506.out
                obtain ⟨hcz80_0, hcz80_1, hcz80_2⟩ := cz3_ BK506.out
                obtain ⟨hfz80_0, hfz80_1, hfz80_2⟩ := fz3_ BK506.out
                go_wp2_with (first | (refine gl_ 56 Try.func13 #[.agg #[.int .i64 t502, .int .i64 t503, .int .i64 t504], .int .i64 t505] ?_; (with_reducible refine (impl_ThreadLength.calls k1 t502 t503 t504 t505 t525 _ A35.out).mono ?_); rintro e w81 ⟨rfl, hb⟩; refine ⟨_, rfl, ?_⟩; replace HO_5 := HO_5.kb hb; replace HO_6 := HO_6.kb hb; replace HO_9 := HO_9.kb hb; replace BK506 := BK506.bb hb; replace BK517 := BK517.bb hb; replace HB := HB.s2 GE506 GE517 hb; (try clear hb); obtain ⟨Ao82, co82, eo82⟩ := Kd.R_slice HO_5.out; subst eo82; have p526 : 0 ≤ ((ji37) : Int) := of_decide_eq_true (as_); have q526 : (ji37) < (t507.length : Int) := of_decide_eq_true (as_); obtain ⟨ad526, e526, hx526_0⟩ := Kd.at_int (Kd.R_reads' HO_5.out).2.2 (ji37) p526 q526; cases e526; replace p526 := eq_true p526; replace q526 := eq_true q526; obtain ⟨hcz83_0, hcz83_1, hcz83_2⟩ := cz3_ BK506.out; obtain ⟨hfz83_0, hfz83_1, hfz83_2⟩ := fz3_ BK506.out) | (go_at_call 14; (with_reducible refine (spec_IsConnected.calls k1 t502 t503 t504 t527 _ A41.out).mono ?_); rintro e w84 ⟨rfl, hb⟩; replace HO_5 := HO_5.kb hb; replace HO_6 := HO_6.kb hb; replace HO_9 := HO_9.kb hb; replace BK506 := BK506.bb hb; replace BK517 := BK517.bb hb; replace HB := HB.s2 GE506 GE517 hb; (try clear hb); obtain ⟨hcz85_0, hcz85_1, hcz85_2⟩ := cz3_ BK517.out; obtain ⟨hfz85_0, hfz85_1, hfz85_2⟩ := fz3_ BK517.out; obtain ⟨hcz86_0, hcz86_1, hcz86_2⟩ := cz3_ BK506.out; obtain ⟨hfz86_0, hfz86_1, hfz86_2⟩ := fz3_ BK506.out) | (go_at_call 15; (with_reducible refine (impl_CountPassages.calls t513 t514 t515 t528 _ A44.out).mono ?_); rintro e w87 ⟨rfl, hb⟩; replace HO_5 := HO_5.kb hb; replace HO_6 := HO_6.kb hb; replace HO_9 := HO_9.kb hb; replace BK506 := BK506.bb hb; replace BK517 := BK517.bb hb; replace HB := HB.s2 GE506 GE517 hb; (try clear hb); obtain ⟨Ao88, co88, eo88⟩ := Kd.R_slice HO_9.out; subst eo88; obtain ⟨hcz89_0, hcz89_1, hcz89_2⟩ := cz3_ BK506.out; obtain ⟨hfz89_0, hfz89_1, hfz89_2⟩ := fz3_ BK506.out) | (go_at_call 16; (with_reducible refine (spec_CountCells.calls t502 t503 t529 _ A46.out).mono ?_); rintro e w90 ⟨rfl, hb⟩; replace HO_5 := HO_5.kb hb; replace HO_6 := HO_6.kb hb; replace HO_9 := HO_9.kb hb; replace BK506 := BK506.bb hb; replace BK517 := BK517.bb hb; replace HB := HB.s2 GE506 GE517 hb; (try clear hb); have p530 : 0 ≤ (t505 : Int) := of_decide_eq_true (as_); have q530 : t505 < (t518.length : Int) := of_decide_eq_true (as_); obtain ⟨ad530, e530, hx530_0⟩ := Kd.at_int (Kd.R_reads' HO_9.out).2.2 t505 p530 q530; cases e530; replace p530 := eq_true p530; replace q530 := eq_true q530))
                go_ret
                exact ⟨by first | rfl | (simp [errW_none, errW_some] <;> rfl) | (simp only [← hji37]; first | rfl | (simp [errW_none, errW_some] <;> rfl)) | (simp [*, errW_none, errW_some] <;> rfl), hb2_ HB.out GE506.out GE517.out⟩
              ·rw [if_neg c49] at H
               exact absurd H (by simp)
             ·rw [if_neg c48] at H
              exact absurd H (by simp)
            ·rw [if_neg c47] at H
             have c47b0 : ((t518.length : Int) == t529) = false := beq_eq_false_iff_ne.mpr c47
             have c47b1 : ((t518.length : Int) != t529) = true := bne_iff_ne.mpr c47
             obtain rfl := Option.some.inj H
             obtain ⟨Ao91, co91, eo91⟩ := Kd.R_slice HO_6.out
             subst eo91
             have hnb92 := NB506_517.out
             have hnc92 := NB517_506.out
             obtain ⟨hcz93_0, hcz93_1, hcz93_2⟩ := cz3_ BK506.out
             obtain ⟨hfz93_0, hfz93_1, hfz93_2⟩ := fz3_ BK506.out
             go_wp2_with (first | (refine gl_ 56 Try.func13 #[.agg #[.int .i64 t502, .int .i64 t503, .int .i64 t504], .int .i64 t505] ?_; (with_reducible refine (impl_ThreadLength.calls k1 t502 t503 t504 t505 t525 _ A35.out).mono ?_); rintro e w94 ⟨rfl, hb⟩; refine ⟨_, rfl, ?_⟩; replace HO_5 := HO_5.kb hb; replace HO_6 := HO_6.kb hb; replace HO_9 := HO_9.kb hb; replace BK506 := BK506.bb hb; replace BK517 := BK517.bb hb; replace HB := HB.s2 GE506 GE517 hb; (try clear hb); obtain ⟨Ao95, co95, eo95⟩ := Kd.R_slice HO_5.out; subst eo95; have p526 : 0 ≤ ((ji37) : Int) := of_decide_eq_true (as_); have q526 : (ji37) < (t507.length : Int) := of_decide_eq_true (as_); obtain ⟨ad526, e526, hx526_0⟩ := Kd.at_int (Kd.R_reads' HO_5.out).2.2 (ji37) p526 q526; cases e526; replace p526 := eq_true p526; replace q526 := eq_true q526; obtain ⟨hcz96_0, hcz96_1, hcz96_2⟩ := cz3_ BK506.out; obtain ⟨hfz96_0, hfz96_1, hfz96_2⟩ := fz3_ BK506.out) | (go_at_call 14; (with_reducible refine (spec_IsConnected.calls k1 t502 t503 t504 t527 _ A41.out).mono ?_); rintro e w97 ⟨rfl, hb⟩; replace HO_5 := HO_5.kb hb; replace HO_6 := HO_6.kb hb; replace HO_9 := HO_9.kb hb; replace BK506 := BK506.bb hb; replace BK517 := BK517.bb hb; replace HB := HB.s2 GE506 GE517 hb; (try clear hb); obtain ⟨hcz98_0, hcz98_1, hcz98_2⟩ := cz3_ BK517.out; obtain ⟨hfz98_0, hfz98_1, hfz98_2⟩ := fz3_ BK517.out; obtain ⟨hcz99_0, hcz99_1, hcz99_2⟩ := cz3_ BK506.out; obtain ⟨hfz99_0, hfz99_1, hfz99_2⟩ := fz3_ BK506.out) | (go_at_call 15; (with_reducible refine (impl_CountPassages.calls t513 t514 t515 t528 _ A44.out).mono ?_); rintro e w100 ⟨rfl, hb⟩; replace HO_5 := HO_5.kb hb; replace HO_6 := HO_6.kb hb; replace HO_9 := HO_9.kb hb; replace BK506 := BK506.bb hb; replace BK517 := BK517.bb hb; replace HB := HB.s2 GE506 GE517 hb; (try clear hb); obtain ⟨Ao101, co101, eo101⟩ := Kd.R_slice HO_9.out; subst eo101; obtain ⟨hcz102_0, hcz102_1, hcz102_2⟩ := cz3_ BK506.out; obtain ⟨hfz102_0, hfz102_1, hfz102_2⟩ := fz3_ BK506.out) | (go_at_call 16; (with_reducible refine (spec_CountCells.calls t502 t503 t529 _ A46.out).mono ?_); rintro e w103 ⟨rfl, hb⟩; replace HO_5 := HO_5.kb hb; replace HO_6 := HO_6.kb hb; replace HO_9 := HO_9.kb hb; replace BK506 := BK506.bb hb; replace BK517 := BK517.bb hb; replace HB := HB.s2 GE506 GE517 hb; (try clear hb)))
             go_ret
             exact ⟨by first | rfl | (simp [errW_none, errW_some] <;> rfl) | (simp only [← hji37]; first | rfl | (simp [errW_none, errW_some] <;> rfl)) | (simp [*, errW_none, errW_some] <;> rfl), hb2_ HB.out GE506.out GE517.out⟩
           ·rw [if_neg c45] at H
            have c45b0 : (t528 == (wrap64 ((t510.length : Int) - 1))) = false := beq_eq_false_iff_ne.mpr c45
            have c45b1 : (t528 != (wrap64 ((t510.length : Int) - 1))) = true := bne_iff_ne.mpr c45
            obtain rfl := Option.some.inj H
            obtain ⟨Ao104, co104, eo104⟩ := Kd.R_slice HO_6.out
            subst eo104
            have hnb105 := NB506_517.out
            have hnc105 := NB517_506.out
            obtain ⟨hcz106_0, hcz106_1, hcz106_2⟩ := cz3_ BK506.out
            obtain ⟨hfz106_0, hfz106_1, hfz106_2⟩ := fz3_ BK506.out
            go_wp2_with (first | (refine gl_ 56 Try.func13 #[.agg #[.int .i64 t502, .int .i64 t503, .int .i64 t504], .int .i64 t505] ?_; (with_reducible refine (impl_ThreadLength.calls k1 t502 t503 t504 t505 t525 _ A35.out).mono ?_); rintro e w107 ⟨rfl, hb⟩; refine ⟨_, rfl, ?_⟩; replace HO_5 := HO_5.kb hb; replace HO_6 := HO_6.kb hb; replace HO_9 := HO_9.kb hb; replace BK506 := BK506.bb hb; replace BK517 := BK517.bb hb; replace HB := HB.s2 GE506 GE517 hb; (try clear hb); obtain ⟨Ao108, co108, eo108⟩ := Kd.R_slice HO_5.out; subst eo108; have p526 : 0 ≤ ((ji37) : Int) := of_decide_eq_true (as_); have q526 : (ji37) < (t507.length : Int) := of_decide_eq_true (as_); obtain ⟨ad526, e526, hx526_0⟩ := Kd.at_int (Kd.R_reads' HO_5.out).2.2 (ji37) p526 q526; cases e526; replace p526 := eq_true p526; replace q526 := eq_true q526; obtain ⟨hcz109_0, hcz109_1, hcz109_2⟩ := cz3_ BK506.out; obtain ⟨hfz109_0, hfz109_1, hfz109_2⟩ := fz3_ BK506.out) | (go_at_call 14; (with_reducible refine (spec_IsConnected.calls k1 t502 t503 t504 t527 _ A41.out).mono ?_); rintro e w110 ⟨rfl, hb⟩; replace HO_5 := HO_5.kb hb; replace HO_6 := HO_6.kb hb; replace HO_9 := HO_9.kb hb; replace BK506 := BK506.bb hb; replace BK517 := BK517.bb hb; replace HB := HB.s2 GE506 GE517 hb; (try clear hb); obtain ⟨hcz111_0, hcz111_1, hcz111_2⟩ := cz3_ BK517.out; obtain ⟨hfz111_0, hfz111_1, hfz111_2⟩ := fz3_ BK517.out; obtain ⟨hcz112_0, hcz112_1, hcz112_2⟩ := cz3_ BK506.out; obtain ⟨hfz112_0, hfz112_1, hfz112_2⟩ := fz3_ BK506.out) | (go_at_call 15; (with_reducible refine (impl_CountPassages.calls t513 t514 t515 t528 _ A44.out).mono ?_); rintro e w113 ⟨rfl, hb⟩; replace HO_5 := HO_5.kb hb; replace HO_6 := HO_6.kb hb; replace HO_9 := HO_9.kb hb; replace BK506 := BK506.bb hb; replace BK517 := BK517.bb hb; replace HB := HB.s2 GE506 GE517 hb; (try clear hb)))
            go_ret
            exact ⟨by first | rfl | (simp [errW_none, errW_some] <;> rfl) | (simp only [← hji37]; first | rfl | (simp [errW_none, errW_some] <;> rfl)) | (simp [*, errW_none, errW_some] <;> rfl), hb2_ HB.out GE506.out GE517.out⟩
          ·rw [if_neg c43] at H
           have c43b0 : ((Go.bits .andNot .i64 t515 t504) == 0) = false := beq_eq_false_iff_ne.mpr c43
           have c43b1 : ((Go.bits .andNot .i64 t515 t504) != 0) = true := bne_iff_ne.mpr c43
           obtain rfl := Option.some.inj H
           obtain ⟨Ao114, co114, eo114⟩ := Kd.R_slice HO_6.out
           subst eo114
           have hnb115 := NB506_517.out
           have hnc115 := NB517_506.out
           obtain ⟨hcz116_0, hcz116_1, hcz116_2⟩ := cz3_ BK506.out
           obtain ⟨hfz116_0, hfz116_1, hfz116_2⟩ := fz3_ BK506.out
           go_wp2_with (first | (refine gl_ 56 Try.func13 #[.agg #[.int .i64 t502, .int .i64 t503, .int .i64 t504], .int .i64 t505] ?_; (with_reducible refine (impl_ThreadLength.calls k1 t502 t503 t504 t505 t525 _ A35.out).mono ?_); rintro e w117 ⟨rfl, hb⟩; refine ⟨_, rfl, ?_⟩; replace HO_5 := HO_5.kb hb; replace HO_6 := HO_6.kb hb; replace HO_9 := HO_9.kb hb; replace BK506 := BK506.bb hb; replace BK517 := BK517.bb hb; replace HB := HB.s2 GE506 GE517 hb; (try clear hb); obtain ⟨Ao118, co118, eo118⟩ := Kd.R_slice HO_5.out; subst eo118; have p526 : 0 ≤ ((ji37) : Int) := of_decide_eq_true (as_); have q526 : (ji37) < (t507.length : Int) := of_decide_eq_true (as_); obtain ⟨ad526, e526, hx526_0⟩ := Kd.at_int (Kd.R_reads' HO_5.out).2.2 (ji37) p526 q526; cases e526; replace p526 := eq_true p526; replace q526 := eq_true q526; obtain ⟨hcz119_0, hcz119_1, hcz119_2⟩ := cz3_ BK506.out; obtain ⟨hfz119_0, hfz119_1, hfz119_2⟩ := fz3_ BK506.out) | (go_at_call 14; (with_reducible refine (spec_IsConnected.calls k1 t502 t503 t504 t527 _ A41.out).mono ?_); rintro e w120 ⟨rfl, hb⟩; replace HO_5 := HO_5.kb hb; replace HO_6 := HO_6.kb hb; replace HO_9 := HO_9.kb hb; replace BK506 := BK506.bb hb; replace BK517 := BK517.bb hb; replace HB := HB.s2 GE506 GE517 hb; (try clear hb); obtain ⟨hcz121_0, hcz121_1, hcz121_2⟩ := cz3_ BK517.out; obtain ⟨hfz121_0, hfz121_1, hfz121_2⟩ := fz3_ BK517.out; obtain ⟨hcz122_0, hcz122_1, hcz122_2⟩ := cz3_ BK506.out; obtain ⟨hfz122_0, hfz122_1, hfz122_2⟩ := fz3_ BK506.out))
           go_ret
           exact ⟨by first | rfl | (simp [errW_none, errW_some] <;> rfl) | (simp only [← hji37]; first | rfl | (simp [errW_none, errW_some] <;> rfl)) | (simp [*, errW_none, errW_some] <;> rfl), hb2_ HB.out GE506.out GE517.out⟩
         ·rw [if_neg c42] at H
          have c42b0 : (t516 == t527) = false := by simpa using c42
          (try (have c42b1 : decide (t516 = t527) = false := by simpa using c42))
          (try (have c42b2 : (t516 == t527) = false := by simpa using c42))
          (try (have c42b3 : ¬ (t516 = t527) := by simpa using c42))
          clear c42
          obtain rfl := Option.some.inj H
          obtain ⟨Ao123, co123, eo123⟩ := Kd.R_slice HO_6.out
          subst eo123
          have hnb124 := NB506_517.out
          have hnc124 := NB517_506.out
          obtain ⟨hcz125_0, hcz125_1, hcz125_2⟩ := cz3_ BK506.out
          obtain ⟨hfz125_0, hfz125_1, hfz125_2⟩ := fz3_ BK506.out
          go_wp2_with (first | (refine gl_ 56 Try.func13 #[.agg #[.int .i64 t502, .int .i64 t503, .int .i64 t504], .int .i64 t505] ?_; (with_reducible refine (impl_ThreadLength.calls k1 t502 t503 t504 t505 t525 _ A35.out).mono ?_); rintro e w126 ⟨rfl, hb⟩; refine ⟨_, rfl, ?_⟩; replace HO_5 := HO_5.kb hb; replace HO_6 := HO_6.kb hb; replace HO_9 := HO_9.kb hb; replace BK506 := BK506.bb hb; replace BK517 := BK517.bb hb; replace HB := HB.s2 GE506 GE517 hb; (try clear hb); obtain ⟨Ao127, co127, eo127⟩ := Kd.R_slice HO_5.out; subst eo127; have p526 : 0 ≤ ((ji37) : Int) := of_decide_eq_true (as_); have q526 : (ji37) < (t507.length : Int) := of_decide_eq_true (as_); obtain ⟨ad526, e526, hx526_0⟩ := Kd.at_int (Kd.R_reads' HO_5.out).2.2 (ji37) p526 q526; cases e526; replace p526 := eq_true p526; replace q526 := eq_true q526; obtain ⟨hcz128_0, hcz128_1, hcz128_2⟩ := cz3_ BK506.out; obtain ⟨hfz128_0, hfz128_1, hfz128_2⟩ := fz3_ BK506.out) | (go_at_call 14; (with_reducible refine (spec_IsConnected.calls k1 t502 t503 t504 t527 _ A41.out).mono ?_); rintro e w129 ⟨rfl, hb⟩; replace HO_5 := HO_5.kb hb; replace HO_6 := HO_6.kb hb; replace HO_9 := HO_9.kb hb; replace BK506 := BK506.bb hb; replace BK517 := BK517.bb hb; replace HB := HB.s2 GE506 GE517 hb; (try clear hb)))
          go_ret
          exact ⟨by first | rfl | (simp [errW_none, errW_some] <;> rfl) | (simp only [← hji37]; first | rfl | (simp [errW_none, errW_some] <;> rfl)) | (simp [*, errW_none, errW_some] <;> rfl), hb2_ HB.out GE506.out GE517.out⟩
        ·rw [if_neg c40] at H
         have c40b0 : ((rd t507 (ji37)) == t505) = false := beq_eq_false_iff_ne.mpr c40
         have c40b1 : ((rd t507 (ji37)) != t505) = true := bne_iff_ne.mpr c40
         obtain rfl := Option.some.inj H
         obtain ⟨Ao130, co130, eo130⟩ := Kd.R_slice HO_6.out
         subst eo130
         have hnb131 := NB506_517.out
         have hnc131 := NB517_506.out
         obtain ⟨hcz132_0, hcz132_1, hcz132_2⟩ := cz3_ BK506.out
         obtain ⟨hfz132_0, hfz132_1, hfz132_2⟩ := fz3_ BK506.out
         go_wp2_with ((with_reducible refine gw_ ?_); first | (refine gl_ 56 Try.func13 #[.agg #[.int .i64 t502, .int .i64 t503, .int .i64 t504], .int .i64 t505] ?_; (with_reducible refine (impl_ThreadLength.calls k1 t502 t503 t504 t505 t525 _ A35.out).mono ?_); rintro e w133 ⟨rfl, hb⟩; refine ⟨_, rfl, ?_⟩; replace HO_5 := HO_5.kb hb; replace HO_6 := HO_6.kb hb; replace HO_9 := HO_9.kb hb; replace BK506 := BK506.bb hb; replace BK517 := BK517.bb hb; replace HB := HB.s2 GE506 GE517 hb; (try clear hb); obtain ⟨Ao134, co134, eo134⟩ := Kd.R_slice HO_5.out; subst eo134; have p526 : 0 ≤ ((ji37) : Int) := of_decide_eq_true (as_); have q526 : (ji37) < (t507.length : Int) := of_decide_eq_true (as_); obtain ⟨ad526, e526, hx526_0⟩ := Kd.at_int (Kd.R_reads' HO_5.out).2.2 (ji37) p526 q526; cases e526; replace p526 := eq_true p526; replace q526 := eq_true q526))
         go_ret
         exact ⟨by first | rfl | (simp [errW_none, errW_some] <;> rfl) | (simp only [← hji37]; first | rfl | (simp [errW_none, errW_some] <;> rfl)) | (simp [*, errW_none, errW_some] <;> rfl), hb2_ HB.out GE506.out GE517.out⟩
       ·rw [if_neg c39] at H
        exact absurd H (by simp)
      ·rw [if_neg c38] at H
       exact absurd H (by simp)
     ·rw [if_neg c36] at H
      have c36b0 : ((t507.length : Int) == (wrap64 ((wrap64 (2 * (t510.length : Int))) - 1))) = false := beq_eq_false_iff_ne.mpr c36
      have c36b1 : ((t507.length : Int) != (wrap64 ((wrap64 (2 * (t510.length : Int))) - 1))) = true := bne_iff_ne.mpr c36
      obtain rfl := Option.some.inj H
      obtain ⟨Ao135, co135, eo135⟩ := Kd.R_slice HO_6.out
      subst eo135
      have hnb136 := NB506_517.out
      have hnc136 := NB517_506.out
      obtain ⟨hcz137_0, hcz137_1, hcz137_2⟩ := cz3_ BK506.out
      obtain ⟨hfz137_0, hfz137_1, hfz137_2⟩ := fz3_ BK506.out
      go_wp2_with ((with_reducible refine gw_ ?_); first | (refine gl_ 56 Try.func13 #[.agg #[.int .i64 t502, .int .i64 t503, .int .i64 t504], .int .i64 t505] ?_; (with_reducible refine (impl_ThreadLength.calls k1 t502 t503 t504 t505 t525 _ A35.out).mono ?_); rintro e w138 ⟨rfl, hb⟩; refine ⟨_, rfl, ?_⟩; replace HO_5 := HO_5.kb hb; replace HO_6 := HO_6.kb hb; replace HO_9 := HO_9.kb hb; replace BK506 := BK506.bb hb; replace BK517 := BK517.bb hb; replace HB := HB.s2 GE506 GE517 hb; (try clear hb); obtain ⟨Ao139, co139, eo139⟩ := Kd.R_slice HO_5.out; subst eo139))
      go_ret
      exact ⟨ex_, hb2_ HB.out GE506.out GE517.out⟩

/-- THE ONE PURE STATEMENT of laws_FnThreads: yours. -/
def laws_FnThreads.Pure : Prop := ∀ (l0 : List Int), l0.length ≤ maxLen → l0.length * 1 ≤ 140737488351232 → (∀ x ∈ l0, (Lit.int .u8 x).wf = true) → ∃ k, laws_FnThreads.f k l0 = some true
theorem laws_FnThreads.walk (P : laws_FnThreads.Pure) (a0 : Option Addr) (len0 cap0 : Nat) (z0 : List Int) (w : World) (w0 : (a0 = none ∧ len0 = 0 ∧ cap0 = 0 ∧ z0 = []) ∨ ∃ x, a0 = some x ∧ len0 ≤ cap0 ∧ cap0 ≤ maxLen ∧ z0.length = cap0 ∧ (∀ i, i < z0.length → w.cell? (x.add i) = some (.int .u8 (z0.getD i 0))) ∧ ∀ n ∈ z0, (Lit.int .u8 n).wf = true) (y0 : len0 * 1 ≤ 140737488351232) :
  Calls Try.prog 3 #[.slice a0 len0 cap0] w fun e w' => e = .returned (.bool true) ∧ Below w.heap.size w w' := by
 obtain ⟨l0, rfl, hr0, hm0, hw0, hc0⟩ := ReadsInt.ofRowC w0
 obtain ⟨k, h⟩ := P l0 hm0 y0 hw0
 refine (laws_FnThreads.calls k _ _ l0 true w (Kd.C_of_reads (d := (0 : Int)) (h1 := fun _ => rfl) hr0) hc0 h).mono ?_
 rintro e w' ⟨rfl, hd⟩
 exact ⟨rfl, hd⟩

end Go.Proofs.Ytceikdeladdbpaa.X
