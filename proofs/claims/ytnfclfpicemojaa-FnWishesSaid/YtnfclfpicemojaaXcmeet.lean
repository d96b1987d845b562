-- Written by a program of this session (xprint.py), out of the translation and of hand-written contracts. Lean checks it.
import Derived.Test.YtnfclfpicemojaaX0
import Derived.Test.YtnfclfpicemojaaXcdist
import Derived.Test.YtnfclfpicemojaaXcgrid
import Derived.Test.YtnfclfpicemojaaXcmaze
import Derived.Test.YtnfclfpicemojaaXcreach
import Derived.Test.YtnfclfpicemojaaXcstep
import Derived.Test.YtnfclfpicemojaaXctrees
import Derived.Test.YtnfclfpicemojaaXcwish
namespace Go.Proofs.Ytnfclfpicemojaa.X
open Go.RowKit Go.Proofs.YtnfclfpicemojaaW.PrintWords Go.Proofs.YtnfclfpicemojaaW.PrintLast Go.Proofs.YtnfclfpicemojaaW.PrintMore
attribute [local go_sem] max2_int min2_int max_two min_two max_three min_three max_four min_four   -- for this text's walks alone
set_option linter.unusedVariables false
set_option linter.unusedSimpArgs false

/-! ### impl_DeadEnds: function 20 (by hand) -/
set_option maxHeartbeats 2000000 in
theorem impl_DeadEnds_1.calls (A : Option Addr) (n c : Nat) (w : World) : Calls Try.prog 35 #[.slice A n c] w fun e w' => e = .returned (.bool ((n : Int) == 1)) ∧ Below w.heap.size w w' := by
 go_enter Try.func35, Try.ntmps35
 go_wp2_with fail
 go_ret
 exact ⟨by first | rfl | simp, by repeat (first | exact Below.refl _ _ | apply below_drew1 | apply pw_below_drewN | exact ⟨rfl, rfl, rfl, Nat.le_refl _, fun _ _ => rfl⟩)⟩
def impl_cellsWith_1.T1 : Bool × List (List Nat × List Nat) := (true, [([], []), ([], []), ([], []), ([1, 2], [1, 2]), ([0, 3, 3], [0, 3]), ([4], [4]), ([5, 4, 0, 1, 2, 3, 4, 5], [5])])
def impl_cellsWith_1.B1 : List Nat := [0, 0, 0, 6, 15, 31, 63]
theorem impl_cellsWith_1.tab1 : rtab .any (opsOf Try.f52 1) = impl_cellsWith_1.T1 := by kernel_rfl
theorem impl_cellsWith_1.bits1 : waitsOk impl_cellsWith_1.T1.2 impl_cellsWith_1.B1 = true := by kernel_rfl
set_option maxHeartbeats 4000000 in
set_option maxRecDepth 100000 in
theorem impl_cellsWith_1.calls (k : Nat) (gf gm : Nat) (m0 m1 m2 c : Int) (r : List Int) (w : World) (h : impl_WaysFrom.f k m0 m1 m2 c = some r)
  (hf : w.heap[gf]? = some (.cells #[.func (.func 35) #[] #[]] 63 (0, 0))) (hm : w.heap[gm]? = some (.cells #[.int .i64 m0, .int .i64 m1, .int .i64 m2] 32 (0, 0))) :
  Calls Try.prog 52 #[.int .i64 c, .pointer (some ⟨gf, 0, none⟩), .pointer (some ⟨gm, 0, none⟩)] w fun e w' => e = .returned (.bool (!((r.length : Int) == 1))) ∧ Below w.heap.size w w' := by
 have eg : ∀ args w, (callFunc 35 args).run Try.prog w = .ok (.enter 35 args) w := enters_of Try.func35 (by kernel_rfl) rfl
 have hu1 := Try.underlying32
 have HB := Aside0.mk (Below.refl w.heap.size w)
 have BKm := Aside0.mk hm
 have BKf := Aside0.mk hf
 have HH := Aside0.mk h
 clear hm hf h
 go_enter Try.func52, Try.ntmps52
 go_wp2_with fail
 have HBd := Aside0.mk (below_drew1 HB.out)
 refine start_ (n := 7) (S := fun w' => w'.cell? ⟨gf, 0, none⟩ = some (.func (.func 35) #[] #[]) ∧ w'.cell? ⟨gm, 0, none⟩ = some (.int .i64 m0) ∧ w'.cell? ⟨gm, 1, none⟩ = some (.int .i64 m1) ∧ w'.cell? ⟨gm, 2, none⟩ = some (.int .i64 m2)) (ds := []) #[false, false, false, false, false, false, false] (by kernel_rfl) rfl rfl ⟨BKf.c 0, BKm.c 0, BKm.c 1, BKm.c 2⟩ (fun hHeld => ?_); refine with_tabW impl_cellsWith_1.tab1 impl_cellsWith_1.bits1 (fun HT_ HW_ => ?_)
 replace BKm := Aside0.mk (blk_drew BKm.out)
 replace BKf := Aside0.mk (blk_drew BKf.out)
 generalize w.drew = w6 at BKm BKf HBd hHeld ⊢
 refine tv4_ (i := 0) (N := some 5) HT_.out HW_.out hHeld ?_
 refine tv4_ (i := 1) (N := some 6) HT_.out HW_.out hHeld ?_
 refine pv_ (i := 2) (N := some 7) HT_.out ?_
 refine ov_ (i := 3) (N := some 8) HT_.out (fun K hK => ?_)
 refine gq_ Try.func40 #[.agg #[.int .i64 m0, .int .i64 m1, .int .i64 m2], .int .i64 c] ?_
 with_reducible refine (impl_WaysFrom.calls k m0 m1 m2 c r _ HH.out).mono ?_
 rintro e w7 ⟨v, rfl, ho, hb⟩
 refine ⟨_, rfl, ?_⟩
 obtain ⟨A, cc, hv⟩ := Kd.R_slice ho
 subst hv
 replace BKm := BKm.bb hb
 replace BKf := BKf.bb hb
 replace HBd := Aside0.mk (below_step HBd.out hb)
 clear hb HB ho
 refine hK.out _ _ ⟨BKf.c 0, BKm.c 0, BKm.c 1, BKm.c 2⟩ (fun hHeld => ?_)
 clear hK K
 refine nm_ ?_
 refine ov_ (i := 4) (N := some 9) HT_.out (fun K hK => ?_)
 refine call_ 35 #[.slice A r.length cc] (by rfl) rfl (by unfold execOp; simp [resolve, Deferred.ofValue, invoke, Act.eval, eg]) ?_
 with_reducible refine (impl_DeadEnds_1.calls A r.length cc _).mono ?_
 rintro e w8 ⟨rfl, hb⟩
 refine ⟨_, rfl, ?_⟩
 replace BKm := BKm.bb hb
 replace BKf := BKf.bb hb
 replace HBd := Aside0.mk (below_step HBd.out hb)
 clear hb
 refine hK.out _ _ ⟨BKf.c 0, BKm.c 0, BKm.c 1, BKm.c 2⟩ (fun hHeld => ?_)
 clear hK K
 refine nm_ ?_
 refine pv_ (i := 5) (N := some 10) HT_.out ?_
 refine pv_ (i := 6) (N := some 4) HT_.out ?_
 refine done_ (done_of HT_.out (by kernel_rfl)) ?_
 go_wp2
 go_ret
 exact ⟨rfl, HBd.out⟩
theorem dead_hp {W0 w12 : World} {k : Nat} {m0 m1 m2 : Int} {up : List Int} {gf gm : Nat} {vu : Value} (hf : W0.heap[gf]? = some (.cells #[.func (.func 35) #[] #[]] 63 (0, 0))) (hm : W0.heap[gm]? = some (.cells #[.int .i64 m0, .int .i64 m1, .int .i64 m2] 32 (0, 0)))
  (hb : Below W0.heap.size W0 w12) (hU : Kd.R (Kd.int .i64) 3 w12 W0.heap.size (fun _ => True) vu up) (hall : (up.all fun x => (impl_WaysFrom.f k m0 m1 m2 x).isSome) = true) :
  ∀ (W : World) (x : Int), Kept w12 W (fun k => vu.ownBlock = some k) → x ∈ up → Calls Try.prog 52 (#[.int .i64 x] ++ #[.pointer (some ⟨gf, 0, none⟩), .pointer (some ⟨gm, 0, none⟩)]) W fun e w' => e = .returned (.bool (!((((impl_WaysFrom.f k m0 m1 m2 x).getD []).length : Int) == 1))) ∧ Below W.heap.size W w' := by
 intro W x hK hx
 have hmv : ∀ j, j < W0.heap.size → W.heap[j]? = W0.heap[j]? := fun j hj =>
  (hK.2 j (Nat.lt_of_lt_of_le hj hb.size) (fun z => by have := Kd.R_base hU j z; omega)).trans (hb.block j hj)
 obtain ⟨r, hr⟩ := Option.isSome_iff_exists.1 (List.all_eq_true.1 hall x hx)
 rw [hr]
 exact impl_cellsWith_1.calls k gf gm m0 m1 m2 x r W hr ((hmv gf (blk_lt hf)).trans hf) ((hmv gm (blk_lt hm)).trans hm)
def impl_DeadEnds.f (k : Nat) (a0_0 : Int) (a0_1 : Int) (a0_2 : Int) : Option (List Int) := (impl_MazeOk.f a0_0 a0_1 a0_2).bind fun t => if t = true then ((impl_CountCells.f a0_0 a0_1).bind fun n => ((impl_upTo.f k n).bind fun up => (if (up.all fun x => (impl_WaysFrom.f k a0_0 a0_1 a0_2 x).isSome) = true then (some (up.filter fun x => ((((impl_WaysFrom.f k a0_0 a0_1 a0_2 x).getD []).length : Int) == 1))) else none))) else (some [])
theorem dead_more {k : Nat} {a0_0 a0_1 a0_2 x : Int} (z : (impl_WaysFrom.f k a0_0 a0_1 a0_2 x).isSome = true) : impl_WaysFrom.f (k + 1) a0_0 a0_1 a0_2 x = impl_WaysFrom.f k a0_0 a0_1 a0_2 x := by
 obtain ⟨r, hr⟩ := Option.isSome_iff_exists.1 z
 rw [hr]
 exact impl_WaysFrom.mono _ _ _ _ _ r hr
theorem impl_DeadEnds.mono : ∀ a0_0 a0_1 a0_2 k, LeO (impl_DeadEnds.f k a0_0 a0_1 a0_2) (impl_DeadEnds.f (k + 1) a0_0 a0_1 a0_2) := by
 intro a0_0 a0_1 a0_2 k
 unfold impl_DeadEnds.f
 refine LeO.bind (LeO.refl _) (fun t => LeO.ite (LeO.bind (LeO.refl _) (fun n => LeO.bind (impl_upTo.mono _ _) (fun up => ?_))) (LeO.refl _))
 intro r h
 by_cases q : (up.all fun x => (impl_WaysFrom.f k a0_0 a0_1 a0_2 x).isSome) = true
 ·rw [if_pos q] at h
  have e : ∀ x ∈ up, impl_WaysFrom.f (k + 1) a0_0 a0_1 a0_2 x = impl_WaysFrom.f k a0_0 a0_1 a0_2 x := fun x hx => dead_more (List.all_eq_true.1 q x hx)
  have q' : (up.all fun x => (impl_WaysFrom.f (k + 1) a0_0 a0_1 a0_2 x).isSome) = true := by
   rw [List.all_eq_true] at q ⊢
   intro x hx
   rw [e x hx]
   exact q x hx
  rw [if_pos q', ← h]
  congr 1
  apply List.filter_congr
  intro x hx
  rw [e x hx]
 ·rw [if_neg q] at h
  cases h
set_option maxHeartbeats 8000000 in
set_option maxRecDepth 100000 in
theorem impl_cellsWith.dead (k : Nat) (a0_0 : Int) (a0_1 : Int) (a0_2 : Int) (r : List Int) (w : World) (h : impl_DeadEnds.f k a0_0 a0_1 a0_2 = some r) :
  Calls Try.prog 34 #[.agg #[.int .i64 a0_0, .int .i64 a0_1, .int .i64 a0_2], .func (.func 35) #[] #[]] w fun e w' => ∃ v0_ : Value, e = .returned (v0_) ∧ Kd.R (Kd.int .i64) 3 w' w.heap.size (fun _ => True) v0_ r ∧ Below w.heap.size w w' := by
 have HB := Aside0.mk (Below.refl w.heap.size w)
 unfold impl_DeadEnds.f at h
 have h2 := Option.bind_eq_some_iff.mp h
 clear h
 obtain ⟨t, hin, h⟩ := h2
 have A3 := Aside0.mk hin
 clear hin
 have hu29 := Try.underlying32
 have hu27 := Try.underlying25
 by_cases c : t = true
 ·subst c
  rw [if_pos rfl] at h
  have h2 := Option.bind_eq_some_iff.mp h
  clear h
  obtain ⟨n, hn, h⟩ := h2
  have h2 := Option.bind_eq_some_iff.mp h
  clear h
  obtain ⟨up, hup, h⟩ := h2
  have AN := Aside0.mk hn
  have AU := Aside0.mk hup
  obtain ⟨hall, rfl⟩ : (up.all fun x => (impl_WaysFrom.f k a0_0 a0_1 a0_2 x).isSome) = true ∧ (up.filter fun x => ((((impl_WaysFrom.f k a0_0 a0_1 a0_2 x).getD []).length : Int) == 1)) = r := by
   by_cases q : (up.all fun x => (impl_WaysFrom.f k a0_0 a0_1 a0_2 x).isSome) = true
   ·rw [if_pos q] at h
    exact ⟨q, Option.some.inj h⟩
   ·rw [if_neg q] at h
    cases h
  have HALL := Aside0.mk hall
  clear hn hup h hall
  have eg := enters_of Try.func52 (by kernel_rfl) rfl
  have EG := Aside0.mk eg
  clear eg
  go_enter Try.func34, Try.ntmps34
  go_upto_region 3 with (first | (refine box_ (N := 2) (cs := #[.int .i64 a0_0, .int .i64 a0_1, .int .i64 a0_2]) (t := 32) ?_; intro gb501 hg w5 hbox hb; have BK501 := Aside0.mk (hbox); have GE501 := HB.g0 hg; replace HB := HB.s0 hb; clear hb hbox hg; obtain ⟨hcz6_0, hcz6_1, hcz6_2⟩ := cz3_ BK501.out) | (refine box_ (N := 3) (cs := #[.func (.func 35) #[] #[]]) (t := 63) ?_; intro gb502 hg w6 hbox hb; have n0_ := HB.s1 GE501 hb; have n1_ := BK501.bb hb; have n2_ := Aside0.mk hbox; clear HB BK501; have HB := n0_; have BK501 := n1_; have BK502 := n2_; clear n0_ n1_ n2_; clear hb hbox hg; obtain ⟨hcz7_0, hcz7_1, hcz7_2⟩ := cz3_ BK501.out) | (go_at_call 36; (with_reducible refine (impl_MazeOk.calls a0_0 a0_1 a0_2 true _ A3.out).mono ?_); rintro e w10 ⟨rfl, hb⟩; replace BK501 := BK501.bb hb; replace BK502 := BK502.bb hb; replace HB := HB.s1 GE501 hb; clear hb))
  clear hcz6_0 hcz6_1 hcz6_2 hcz7_0 hcz7_1 hcz7_2
  obtain ⟨z0, z1, z2⟩ := cz3_ BK501.out
  go_wp2_with (first | (go_at_call 31; refine (impl_CountCells.calls a0_0 a0_1 n _ AN.out).mono ?_; rintro e w11 ⟨rfl, hb⟩; replace BK501 := BK501.bb hb; replace BK502 := BK502.bb hb; replace HB := HB.s1 GE501 hb; clear hb) | (go_at_call 51; refine (impl_upTo.calls k n up _ AU.out).mono ?_; rintro e w12 ⟨vu, rfl, hou, hb⟩; have HU := Aside0.mk hou; have HB4 := Aside0.mk hb; clear hou hb) | (go_at_call 50; refine (slices_DeleteFunc.gen (fun x => !((((impl_WaysFrom.f k a0_0 a0_1 a0_2 x).getD []).length : Int) == 1)) 52 #[.pointer (some ⟨gb502, 0, none⟩), .pointer (some ⟨gb501, 0, none⟩)] EG.out (fun _ => True) vu up w w12 (below_then HB.out HB.out.size HB4.out) (Kd.R_lower HU.out HB.out.size) (dead_hp BK502.out BK501.out HB4.out HU.out HALL.out)).mono ?_; rintro e w13 ⟨v13, rfl, h13, hb13, _⟩; have H13 := Aside0.mk h13; have B13 := Aside0.mk hb13; clear h13 hb13))
  go_ret
  have h13 := H13.out
  simp only [Bool.not_not] at h13
  exact ⟨_, rfl, Kd.R_mono h13 (fun _ _ => trivial), B13.out⟩
 ·rw [if_neg c] at h
  obtain rfl := Option.some.inj h
  have c' : t = false := by simpa using c
  subst c'
  clear h c
  go_enter Try.func34, Try.ntmps34
  go_wp2_with (first | (refine box_ (N := 2) (cs := #[.int .i64 a0_0, .int .i64 a0_1, .int .i64 a0_2]) (t := 32) ?_; intro gb501 hg w5 hbox hb; have BK501 := Aside0.mk (hbox); have GE501 := HB.g0 hg; replace HB := HB.s0 hb; clear hb hbox hg; obtain ⟨hcz6_0, hcz6_1, hcz6_2⟩ := cz3_ BK501.out) | (refine box_ (N := 3) (cs := #[.func (.func 35) #[] #[]]) (t := 63) ?_; intro gb502 hg w6 hbox hb; have n0_ := HB.s1 GE501 hb; have n1_ := BK501.bb hb; clear HB BK501; have HB := n0_; have BK501 := n1_; clear n0_ n1_; clear hb hbox hg; obtain ⟨hcz7_0, hcz7_1, hcz7_2⟩ := cz3_ BK501.out) | (go_at_call 36; (with_reducible refine (impl_MazeOk.calls a0_0 a0_1 a0_2 false _ A3.out).mono ?_); rintro e w10 ⟨rfl, hb⟩; replace BK501 := BK501.bb hb; replace HB := HB.s1 GE501 hb; clear hb))
  go_ret
  exact ⟨_, rfl, Kd.R_nil _ _ _ _ _, hb1_ HB.out GE501.out⟩
set_option maxHeartbeats 8000000 in
theorem impl_DeadEnds.calls (k : Nat) (a0_0 : Int) (a0_1 : Int) (a0_2 : Int) (r : List Int) (w : World) (h : impl_DeadEnds.f k a0_0 a0_1 a0_2 = some r) :
  Calls Try.prog 20 #[.agg #[.int .i64 a0_0, .int .i64 a0_1, .int .i64 a0_2]] w fun e w' => ∃ v0_ : Value, e = .returned (v0_) ∧ Kd.R (Kd.int .i64) 3 w' w.heap.size (fun _ => True) v0_ r ∧ Below w.heap.size w w' := by
 have HB := Aside0.mk (Below.refl w.heap.size w)
 have AH := Aside0.mk h
 clear h
 have hu29 := Try.underlying32
 go_enter Try.func20, Try.ntmps20
 go_wp2_with (first | (refine box_ (N := 1) (cs := #[.int .i64 a0_0, .int .i64 a0_1, .int .i64 a0_2]) (t := 32) ?_; intro gb501 hg w5 hbox hb; have BK501 := Aside0.mk (hbox); have GE501 := HB.g0 hg; replace HB := HB.s0 hb; clear hb hbox hg; obtain ⟨hcz6_0, hcz6_1, hcz6_2⟩ := cz3_ BK501.out) | (go_at_call 34; (with_reducible refine (impl_cellsWith.dead k a0_0 a0_1 a0_2 r _ AH.out).mono ?_); rintro e w10 ⟨v, rfl, ho, hb⟩; have HO := Aside0.mk (Kd.R_lower ho (below_size (hb1_ HB.out GE501.out))); replace HB := HB.s1 GE501 hb; clear hb ho))
 go_ret
 exact ⟨_, rfl, Kd.R_mono HO.out (fun _ _ => trivial), hb1_ HB.out GE501.out⟩

/-! ### impl_MeetsWish: function 9 -/
def impl_MeetsWish.f (k : Nat) (a0_0 : Int) (a0_1 : Int) (a0_2 : Int) (a1_0 : Int) (a1_1 : Int) (a1_2 : Int) (a1_3 : Int) : Option (Bool) := (impl_IsPerfect.f k a0_0 a0_1 a0_2).bind fun t503 => (if t503 = true then ((impl_WishOk.f a0_0 a0_1 a1_0 a1_1 a1_2 a1_3).bind fun t504 => (if t504 = true then ((impl_DistanceOf.f k a0_0 a0_1 a0_2 a1_0 a1_1).bind fun t505 => (if t505 ≥ a1_2 then ((impl_DeadEnds.f k a0_0 a0_1 a0_2).bind fun t506 => (some (decide ((t506.length : Int) ≤ a1_3)))) else (some false))) else (some false))) else (some false))
theorem impl_MeetsWish.mono : ∀ a0 a1 a2 a3 a4 a5 a6 k, LeO (impl_MeetsWish.f k a0 a1 a2 a3 a4 a5 a6) (impl_MeetsWish.f (k + 1) a0 a1 a2 a3 a4 a5 a6) := by
 intro a0 a1 a2 a3 a4 a5 a6 k
 unfold impl_MeetsWish.f
 repeat' first
   | (with_reducible exact impl_DeadEnds.mono ..)
   | (with_reducible exact impl_DistanceOf.mono ..)
   | (with_reducible exact impl_IsPerfect.mono ..)
   | (with_reducible first | exact lr_ _ | exact ln_ _ | refine li_ ?_ ?_ | refine lb_ ?_ fun _ => ?_)
   | exact impl_DeadEnds.mono ..
   | exact impl_DistanceOf.mono ..
   | exact impl_IsPerfect.mono ..
   | exact ln_ _ | refine li_ ?_ ?_ | refine lb_ ?_ fun _ => ?_
def impl_MeetsWish.T1 : Bool × List (List Nat × List Nat) := (true, [([], []), ([0], [0]), ([1, 1], [1]), ([2], [2]), ([3, 2], [2, 3]), ([2], [2]), ([4, 5, 2, 2], [2, 4, 5]), ([2, 6], [2, 6]), ([7, 6], [7]), ([8], [8]), ([8], [8]), ([10, 8], [8, 10]), ([8], [8]), ([12, 8], [8, 12]), ([9, 11, 13, 8, 8], [8, 9, 11, 13]), ([8], [8]), ([15, 8], [8, 15]), ([14, 16, 8], [8, 14, 16]), ([8, 17], [8, 17]), ([18, 14], [18]), ([19], [19]), ([20, 19, 19], [19, 20]), ([21, 19], [19, 21]), ([19], [19]), ([23, 19], [19, 23]), ([22, 24, 19], [19, 22, 24]), ([19, 25], [19, 25]), ([26, 21, 0, 1, 2, 3, 4, 5, 6, 7, 8, 9, 10, 11, 12, 13, 14, 15, 16, 17, 18, 19, 20, 21, 22, 23, 24, 25, 26], [26])])
def impl_MeetsWish.B1 : List Nat := [0, 1, 3, 7, 15, 7, 63, 127, 255, 511, 511, 1535, 511, 4607, 16383, 511, 33279, 131071, 262143, 524287, 1048575, 2097151, 4194303, 1048575, 9437183, 33554431, 67108863, 134217727]
theorem impl_MeetsWish.tab1 : rtab .any (opsOf Try.f9 1) = impl_MeetsWish.T1 := by kernel_rfl
theorem impl_MeetsWish.bits1 : waitsOk impl_MeetsWish.T1.2 impl_MeetsWish.B1 = true := by kernel_rfl
set_option maxHeartbeats 8000000 in
set_option maxRecDepth 100000 in
theorem impl_MeetsWish.calls (k : Nat) (a0_0 : Int) (a0_1 : Int) (a0_2 : Int) (a1_0 : Int) (a1_1 : Int) (a1_2 : Int) (a1_3 : Int) (r : Bool) (w : World) (h : impl_MeetsWish.f k a0_0 a0_1 a0_2 a1_0 a1_1 a1_2 a1_3 = some r) :
  Calls Try.prog 9 #[.agg #[.int .i64 a0_0, .int .i64 a0_1, .int .i64 a0_2], .agg #[.int .i64 a1_0, .int .i64 a1_1, .int .i64 a1_2, .int .i64 a1_3]] w fun e w' => e = .returned (.bool r) ∧ Below w.heap.size w w' := by
 have hu32 := Try.underlying32
 have hu27 := Try.underlying27
 have hu25 := Try.underlying25
 have HB := Aside0.mk (Below.refl w.heap.size w)
 have H : ((impl_IsPerfect.f k a0_0 a0_1 a0_2).bind fun t503 => (if t503 = true then ((impl_WishOk.f a0_0 a0_1 a1_0 a1_1 a1_2 a1_3).bind fun t504 => (if t504 = true then ((impl_DistanceOf.f k a0_0 a0_1 a0_2 a1_0 a1_1).bind fun t505 => (if t505 ≥ a1_2 then ((impl_DeadEnds.f k a0_0 a0_1 a0_2).bind fun t506 => (some (decide ((t506.length : Int) ≤ a1_3)))) else (some false))) else (some false))) else (some false))) = some r := h
 clear h
 replace H := Option.bind_eq_some_iff.mp H
 obtain ⟨t503, A30, H⟩ := H
 replace H : (if t503 = true then ((impl_WishOk.f a0_0 a0_1 a1_0 a1_1 a1_2 a1_3).bind fun t504 => (if t504 = true then ((impl_DistanceOf.f k a0_0 a0_1 a0_2 a1_0 a1_1).bind fun t505 => (if t505 ≥ a1_2 then ((impl_DeadEnds.f k a0_0 a0_1 a0_2).bind fun t506 => (some (decide ((t506.length : Int) ≤ a1_3)))) else (some false))) else (some false))) else (some false)) = some r := H
 have A3 := Aside0.mk A30
 clear A30
 by_cases c4 : t503 = true
 ·subst c4
  have H1 : ((impl_WishOk.f a0_0 a0_1 a1_0 a1_1 a1_2 a1_3).bind fun t504 => (if t504 = true then ((impl_DistanceOf.f k a0_0 a0_1 a0_2 a1_0 a1_1).bind fun t505 => (if t505 ≥ a1_2 then ((impl_DeadEnds.f k a0_0 a0_1 a0_2).bind fun t506 => (some (decide ((t506.length : Int) ≤ a1_3)))) else (some false))) else (some false))) = some r := by rw [if_pos rfl] at H; exact H
  clear H
  have H := H1
  clear H1
  replace H := Option.bind_eq_some_iff.mp H
  obtain ⟨t504, A50, H⟩ := H
  replace H : (if t504 = true then ((impl_DistanceOf.f k a0_0 a0_1 a0_2 a1_0 a1_1).bind fun t505 => (if t505 ≥ a1_2 then ((impl_DeadEnds.f k a0_0 a0_1 a0_2).bind fun t506 => (some (decide ((t506.length : Int) ≤ a1_3)))) else (some false))) else (some false)) = some r := H
  have A5 := Aside0.mk A50
  clear A50
  by_cases c6 : t504 = true
  ·subst c6
   have H1 : ((impl_DistanceOf.f k a0_0 a0_1 a0_2 a1_0 a1_1).bind fun t505 => (if t505 ≥ a1_2 then ((impl_DeadEnds.f k a0_0 a0_1 a0_2).bind fun t506 => (some (decide ((t506.length : Int) ≤ a1_3)))) else (some false))) = some r := by rw [if_pos rfl] at H; exact H
   clear H
   have H := H1
   clear H1
   replace H := Option.bind_eq_some_iff.mp H
   obtain ⟨t505, A70, H⟩ := H
   replace H : (if t505 ≥ a1_2 then ((impl_DeadEnds.f k a0_0 a0_1 a0_2).bind fun t506 => (some (decide ((t506.length : Int) ≤ a1_3)))) else (some false)) = some r := H
   have A7 := Aside0.mk A70
   clear A70
   by_cases c8 : t505 ≥ a1_2
   ·rw [if_pos c8] at H
    have c8b0 : decide (a1_2 ≤ t505) = true := decide_eq_true c8
    clear c8
    replace H := Option.bind_eq_some_iff.mp H
    obtain ⟨t506, A90, H⟩ := H
    replace H : (some (decide ((t506.length : Int) ≤ a1_3))) = some r := H
    have A9 := Aside0.mk A90
    clear A90
    obtain rfl := Option.some.inj H
    go_enter Try.func9, Try.ntmps9
    try go_wp2_with (first | ((with_reducible refine gate_dst (N := 2) rfl ?_); (try (refine gate_guard (by rfl) ?_; dsimp only)); refine box_event ?hg (N := 2) ?hd (cs := #[.int .i64 a0_0, .int .i64 a0_1, .int .i64 a0_2]) (t := 32) ?hr ?_; (case hd => rfl); (case hg => rfl); (case hr => first | (go_simp; done) | (go_simp; rfl)); intro gb501 hg w10 hbox hb; have BK501 := Aside0.mk (hbox); have GW501 := HB.g0 hg; have GE501 := HB.g0 hg; replace HB := HB.s0 hb; clear hb hbox hg) | ((with_reducible refine gate_dst (N := 3) rfl ?_); (try (refine gate_guard (by rfl) ?_; dsimp only)); refine box_event ?hg (N := 3) ?hd (cs := #[.int .i64 a1_0, .int .i64 a1_1, .int .i64 a1_2, .int .i64 a1_3]) (t := 27) ?hr ?_; (case hd => rfl); (case hg => rfl); (case hr => first | (go_simp; done) | (go_simp; rfl)); intro gb502 hg w11 hbox hb; have BK502 := Aside0.mk (hbox); have GW502 := HB.g1 GE501 hg; have GE502 := HB.g1 GE501 hg; replace HB := HB.s1 GE501 hb; have NB501_502 := BK501.nl hg; have NB502_501 := BK501.nr hg; replace BK501 := BK501.bb hb; clear hb hbox hg))
    replace BK501 := Aside0.mk (blk_drew BK501.out)
    replace BK502 := Aside0.mk (blk_drew BK502.out)
    replace HB := Aside0.mk (below_drew1 HB.out)
    refine start_ (n := 28) (S := fun w' => w'.cell? ⟨gb501, 0, none⟩ = some (.int .i64 a0_0) ∧ w'.cell? ⟨gb501, 1, none⟩ = some (.int .i64 a0_1) ∧ w'.cell? ⟨gb501, 2, none⟩ = some (.int .i64 a0_2) ∧ w'.cell? ⟨gb502, 0, none⟩ = some (.int .i64 a1_0) ∧ w'.cell? ⟨gb502, 1, none⟩ = some (.int .i64 a1_1) ∧ w'.cell? ⟨gb502, 2, none⟩ = some (.int .i64 a1_2) ∧ w'.cell? ⟨gb502, 3, none⟩ = some (.int .i64 a1_3)) (ds := []) #[false, false, false, false, false, false, false, false, false, false, false, false, false, false, false, false, false, false, false, false, false, false, false, false, false, false, false, false] (by kernel_rfl) rfl rfl ⟨BK501.c 0, BK501.c 1, BK501.c 2, BK502.c 0, BK502.c 1, BK502.c 2, BK502.c 3⟩ (fun hHeld => ?_); refine with_tabW impl_MeetsWish.tab1 impl_MeetsWish.bits1 (fun HT_ HW_ => ?_)
    generalize w11.drew = w12 at BK501 BK502 HB hHeld ⊢
    refine tv7_ (i := 0) (N := some 5) HT_.out HW_.out hHeld ?_
    refine ov_ (i := 1) (N := some 6) HT_.out (fun K hK => ?_)
    refine gq_ Try.func19 #[.agg #[.int .i64 a0_0, .int .i64 a0_1, .int .i64 a0_2]] ?_
    with_reducible refine (impl_IsPerfect.calls k a0_0 a0_1 a0_2 true _ A3.out).mono ?_
    rintro e w13 ⟨rfl, hb⟩
    refine ⟨_, rfl, ?_⟩
    replace BK501 := BK501.bb hb
    replace BK502 := BK502.bb hb
    replace HB := HB.s2 GE501 GE502 hb
    skip
    (try clear hb2)
    (try clear hk)
    (try clear hi)
    refine hK.out _ _ ⟨BK501.c 0, BK501.c 1, BK501.c 2, BK502.c 0, BK502.c 1, BK502.c 2, BK502.c 3⟩ (fun hHeld => ?_)
    clear hK K
    refine nm_ ?_
    refine pv_ (i := 2) (N := some 7) HT_.out ?_
    refine pv_ (i := 3) (N := some 8) HT_.out ?_
    refine tv7_ (i := 4) (N := some 9) HT_.out HW_.out hHeld ?_
    refine tv7_ (i := 5) (N := some 10) HT_.out HW_.out hHeld ?_
    refine ov_ (i := 6) (N := some 11) HT_.out (fun K hK => ?_)
    refine gq_ Try.func12 #[.agg #[.int .i64 a0_0, .int .i64 a0_1], .agg #[.int .i64 a1_0, .int .i64 a1_1, .int .i64 a1_2, .int .i64 a1_3]] ?_
    with_reducible refine (impl_WishOk.calls a0_0 a0_1 a1_0 a1_1 a1_2 a1_3 true _ A5.out).mono ?_
    rintro e w14 ⟨rfl, hb⟩
    refine ⟨_, rfl, ?_⟩
    replace BK501 := BK501.bb hb
    replace BK502 := BK502.bb hb
    replace HB := HB.s2 GE501 GE502 hb
    skip
    (try clear hb2)
    (try clear hk)
    (try clear hi)
    refine hK.out _ _ ⟨BK501.c 0, BK501.c 1, BK501.c 2, BK502.c 0, BK502.c 1, BK502.c 2, BK502.c 3⟩ (fun hHeld => ?_)
    clear hK K
    refine nm_ ?_
    refine pv_ (i := 7) (N := some 12) HT_.out ?_
    refine pv_ (i := 8) (N := some 13) HT_.out ?_
    refine pv_ (i := 10) (N := some 15) HT_.out ?_
    refine pv_ (i := 12) (N := some 17) HT_.out ?_
    refine pv_ (i := 15) (N := some 20) HT_.out ?_
    refine tv7_ (i := 9) (N := some 14) HT_.out HW_.out hHeld ?_
    refine tv7_ (i := 11) (N := some 16) HT_.out HW_.out hHeld ?_
    refine tv7_ (i := 13) (N := some 18) HT_.out HW_.out hHeld ?_
    refine tv7_ (i := 16) (N := some 21) HT_.out HW_.out hHeld ?_
    refine ov_ (i := 14) (N := some 19) HT_.out (fun K hK => ?_)
    refine gq_ Try.func10 #[.agg #[.int .i64 a0_0, .int .i64 a0_1, .int .i64 a0_2], .int .i64 a1_0, .int .i64 a1_1] ?_
    with_reducible refine (impl_DistanceOf.calls k a0_0 a0_1 a0_2 a1_0 a1_1 t505 _ A7.out).mono ?_
    rintro e w15 ⟨rfl, hb⟩
    refine ⟨_, rfl, ?_⟩
    replace BK501 := BK501.bb hb
    replace BK502 := BK502.bb hb
    replace HB := HB.s2 GE501 GE502 hb
    skip
    (try clear hb2)
    (try clear hk)
    (try clear hi)
    refine hK.out _ _ ⟨BK501.c 0, BK501.c 1, BK501.c 2, BK502.c 0, BK502.c 1, BK502.c 2, BK502.c 3⟩ (fun hHeld => ?_)
    clear hK K
    refine nm_ ?_
    refine pv_ (i := 17) (N := some 22) HT_.out ?_
    refine pv_ (i := 18) (N := some 23) HT_.out ?_
    refine pv_ (i := 19) (N := some 24) HT_.out ?_
    refine pv_ (i := 23) (N := some 28) HT_.out ?_
    refine tv7_ (i := 20) (N := some 25) HT_.out HW_.out hHeld ?_
    refine tv7_ (i := 24) (N := some 29) HT_.out HW_.out hHeld ?_
    refine ov_ (i := 21) (N := some 26) HT_.out (fun K hK => ?_)
    refine gq_ Try.func20 #[.agg #[.int .i64 a0_0, .int .i64 a0_1, .int .i64 a0_2]] ?_
    with_reducible refine (impl_DeadEnds.calls k a0_0 a0_1 a0_2 t506 _ A9.out).mono ?_
    rintro e w16 ⟨v507, rfl, ho0, hb⟩
    refine ⟨_, rfl, ?_⟩
    have HO508 := Aside0.mk (Kd.R_lower ho0 (below_size (hb2_ HB.out GE501.out GE502.out)))
    replace BK501 := BK501.bb hb
    replace BK502 := BK502.bb hb
    replace HB := HB.s2 GE501 GE502 hb
    skip
    (try clear hb2)
    (try clear hk)
    (try clear hi)
    (try clear ho0)
    obtain ⟨Ao17, co17, eo17⟩ := Kd.R_slice HO508.out
    (first | subst eo17 | (injection eo17 with f1_ f2_ f3_; have f4_ := f1_.symm; have f5_ := f3_.symm; clear f1_ f2_ f3_; subst f4_; subst f5_))
    refine hK.out _ _ ⟨BK501.c 0, BK501.c 1, BK501.c 2, BK502.c 0, BK502.c 1, BK502.c 2, BK502.c 3⟩ (fun hHeld => ?_)
    clear hK K
    refine nm_ ?_
    refine pv_ (i := 22) (N := some 27) HT_.out ?_
    refine pv_ (i := 25) (N := some 30) HT_.out ?_
    refine pv_ (i := 26) (N := some 31) HT_.out ?_
    refine pv_ (i := 27) (N := some 4) HT_.out ?_
    refine done_ (done_of HT_.out (by kernel_rfl)) ?_
    try go_wp2
    go_ret
    exact ⟨ex_, hb2_ HB.out GE501.out GE502.out⟩
   ·rw [if_neg c8] at H
    have c8b0 : decide (a1_2 ≤ t505) = false := decide_eq_false c8
    clear c8
    obtain rfl := Option.some.inj H
    go_enter Try.func9, Try.ntmps9
    try go_wp2_with (first | ((with_reducible refine gate_dst (N := 2) rfl ?_); (try (refine gate_guard (by rfl) ?_; dsimp only)); refine box_event ?hg (N := 2) ?hd (cs := #[.int .i64 a0_0, .int .i64 a0_1, .int .i64 a0_2]) (t := 32) ?hr ?_; (case hd => rfl); (case hg => rfl); (case hr => first | (go_simp; done) | (go_simp; rfl)); intro gb501 hg w18 hbox hb; have BK501 := Aside0.mk (hbox); have GW501 := HB.g0 hg; have GE501 := HB.g0 hg; replace HB := HB.s0 hb; clear hb hbox hg) | ((with_reducible refine gate_dst (N := 3) rfl ?_); (try (refine gate_guard (by rfl) ?_; dsimp only)); refine box_event ?hg (N := 3) ?hd (cs := #[.int .i64 a1_0, .int .i64 a1_1, .int .i64 a1_2, .int .i64 a1_3]) (t := 27) ?hr ?_; (case hd => rfl); (case hg => rfl); (case hr => first | (go_simp; done) | (go_simp; rfl)); intro gb502 hg w19 hbox hb; have BK502 := Aside0.mk (hbox); have GW502 := HB.g1 GE501 hg; have GE502 := HB.g1 GE501 hg; replace HB := HB.s1 GE501 hb; have NB501_502 := BK501.nl hg; have NB502_501 := BK501.nr hg; replace BK501 := BK501.bb hb; clear hb hbox hg))
    replace BK501 := Aside0.mk (blk_drew BK501.out)
    replace BK502 := Aside0.mk (blk_drew BK502.out)
    replace HB := Aside0.mk (below_drew1 HB.out)
    refine start_ (n := 28) (S := fun w' => w'.cell? ⟨gb501, 0, none⟩ = some (.int .i64 a0_0) ∧ w'.cell? ⟨gb501, 1, none⟩ = some (.int .i64 a0_1) ∧ w'.cell? ⟨gb501, 2, none⟩ = some (.int .i64 a0_2) ∧ w'.cell? ⟨gb502, 0, none⟩ = some (.int .i64 a1_0) ∧ w'.cell? ⟨gb502, 1, none⟩ = some (.int .i64 a1_1) ∧ w'.cell? ⟨gb502, 2, none⟩ = some (.int .i64 a1_2) ∧ w'.cell? ⟨gb502, 3, none⟩ = some (.int .i64 a1_3)) (ds := []) #[false, false, false, false, false, false, false, false, false, false, false, false, false, false, false, false, false, false, false, false, false, false, false, false, false, false, false, false] (by kernel_rfl) rfl rfl ⟨BK501.c 0, BK501.c 1, BK501.c 2, BK502.c 0, BK502.c 1, BK502.c 2, BK502.c 3⟩ (fun hHeld => ?_); refine with_tabW impl_MeetsWish.tab1 impl_MeetsWish.bits1 (fun HT_ HW_ => ?_)
    generalize w19.drew = w20 at BK501 BK502 HB hHeld ⊢
    refine tv7_ (i := 0) (N := some 5) HT_.out HW_.out hHeld ?_
    refine ov_ (i := 1) (N := some 6) HT_.out (fun K hK => ?_)
    refine gq_ Try.func19 #[.agg #[.int .i64 a0_0, .int .i64 a0_1, .int .i64 a0_2]] ?_
    with_reducible refine (impl_IsPerfect.calls k a0_0 a0_1 a0_2 true _ A3.out).mono ?_
    rintro e w21 ⟨rfl, hb⟩
    refine ⟨_, rfl, ?_⟩
    replace BK501 := BK501.bb hb
    replace BK502 := BK502.bb hb
    replace HB := HB.s2 GE501 GE502 hb
    skip
    (try clear hb2)
    (try clear hk)
    (try clear hi)
    refine hK.out _ _ ⟨BK501.c 0, BK501.c 1, BK501.c 2, BK502.c 0, BK502.c 1, BK502.c 2, BK502.c 3⟩ (fun hHeld => ?_)
    clear hK K
    refine nm_ ?_
    refine pv_ (i := 2) (N := some 7) HT_.out ?_
    refine pv_ (i := 3) (N := some 8) HT_.out ?_
    refine tv7_ (i := 4) (N := some 9) HT_.out HW_.out hHeld ?_
    refine tv7_ (i := 5) (N := some 10) HT_.out HW_.out hHeld ?_
    refine ov_ (i := 6) (N := some 11) HT_.out (fun K hK => ?_)
    refine gq_ Try.func12 #[.agg #[.int .i64 a0_0, .int .i64 a0_1], .agg #[.int .i64 a1_0, .int .i64 a1_1, .int .i64 a1_2, .int .i64 a1_3]] ?_
    with_reducible refine (impl_WishOk.calls a0_0 a0_1 a1_0 a1_1 a1_2 a1_3 true _ A5.out).mono ?_
    rintro e w22 ⟨rfl, hb⟩
    refine ⟨_, rfl, ?_⟩
    replace BK501 := BK501.bb hb
    replace BK502 := BK502.bb hb
    replace HB := HB.s2 GE501 GE502 hb
    skip
    (try clear hb2)
    (try clear hk)
    (try clear hi)
    refine hK.out _ _ ⟨BK501.c 0, BK501.c 1, BK501.c 2, BK502.c 0, BK502.c 1, BK502.c 2, BK502.c 3⟩ (fun hHeld => ?_)
    clear hK K
    refine nm_ ?_
    refine pv_ (i := 7) (N := some 12) HT_.out ?_
    refine pv_ (i := 8) (N := some 13) HT_.out ?_
    refine pv_ (i := 10) (N := some 15) HT_.out ?_
    refine pv_ (i := 12) (N := some 17) HT_.out ?_
    refine pv_ (i := 15) (N := some 20) HT_.out ?_
    refine tv7_ (i := 9) (N := some 14) HT_.out HW_.out hHeld ?_
    refine tv7_ (i := 11) (N := some 16) HT_.out HW_.out hHeld ?_
    refine tv7_ (i := 13) (N := some 18) HT_.out HW_.out hHeld ?_
    refine tv7_ (i := 16) (N := some 21) HT_.out HW_.out hHeld ?_
    refine ov_ (i := 14) (N := some 19) HT_.out (fun K hK => ?_)
    refine gq_ Try.func10 #[.agg #[.int .i64 a0_0, .int .i64 a0_1, .int .i64 a0_2], .int .i64 a1_0, .int .i64 a1_1] ?_
    with_reducible refine (impl_DistanceOf.calls k a0_0 a0_1 a0_2 a1_0 a1_1 t505 _ A7.out).mono ?_
    rintro e w23 ⟨rfl, hb⟩
    refine ⟨_, rfl, ?_⟩
    replace BK501 := BK501.bb hb
    replace BK502 := BK502.bb hb
    replace HB := HB.s2 GE501 GE502 hb
    skip
    (try clear hb2)
    (try clear hk)
    (try clear hi)
    refine hK.out _ _ ⟨BK501.c 0, BK501.c 1, BK501.c 2, BK502.c 0, BK502.c 1, BK502.c 2, BK502.c 3⟩ (fun hHeld => ?_)
    clear hK K
    refine nm_ ?_
    refine pv_ (i := 17) (N := some 22) HT_.out ?_
    refine pv_ (i := 18) (N := some 23) HT_.out ?_
    refine pv_ (i := 19) (N := some 24) HT_.out ?_
    refine pu_ (i := 20) (N := some 25) HT_.out ?_
    refine pu_ (i := 21) (N := some 26) HT_.out ?_
    refine pu_ (i := 22) (N := some 27) HT_.out ?_
    refine pu_ (i := 23) (N := some 28) HT_.out ?_
    refine pu_ (i := 24) (N := some 29) HT_.out ?_
    refine pu_ (i := 25) (N := some 30) HT_.out ?_
    refine pv_ (i := 26) (N := some 31) HT_.out ?_
    refine pv_ (i := 27) (N := some 4) HT_.out ?_
    refine done_ (done_of HT_.out (by kernel_rfl)) ?_
    try go_wp2
    go_ret
    exact ⟨ex_, hb2_ HB.out GE501.out GE502.out⟩
  ·replace c6 := Bool.eq_false_iff.mpr c6
   subst c6
   have H1 : (some false) = some r := by rw [if_neg (show ¬ (false = true) by decide)] at H; exact H
   clear H
   have H := H1
   clear H1
   obtain rfl := Option.some.inj H
   go_enter Try.func9, Try.ntmps9
   try go_wp2_with (first | ((with_reducible refine gate_dst (N := 2) rfl ?_); (try (refine gate_guard (by rfl) ?_; dsimp only)); refine box_event ?hg (N := 2) ?hd (cs := #[.int .i64 a0_0, .int .i64 a0_1, .int .i64 a0_2]) (t := 32) ?hr ?_; (case hd => rfl); (case hg => rfl); (case hr => first | (go_simp; done) | (go_simp; rfl)); intro gb501 hg w24 hbox hb; have BK501 := Aside0.mk (hbox); have GW501 := HB.g0 hg; have GE501 := HB.g0 hg; replace HB := HB.s0 hb; clear hb hbox hg) | ((with_reducible refine gate_dst (N := 3) rfl ?_); (try (refine gate_guard (by rfl) ?_; dsimp only)); refine box_event ?hg (N := 3) ?hd (cs := #[.int .i64 a1_0, .int .i64 a1_1, .int .i64 a1_2, .int .i64 a1_3]) (t := 27) ?hr ?_; (case hd => rfl); (case hg => rfl); (case hr => first | (go_simp; done) | (go_simp; rfl)); intro gb502 hg w25 hbox hb; have BK502 := Aside0.mk (hbox); have GW502 := HB.g1 GE501 hg; have GE502 := HB.g1 GE501 hg; replace HB := HB.s1 GE501 hb; have NB501_502 := BK501.nl hg; have NB502_501 := BK501.nr hg; replace BK501 := BK501.bb hb; clear hb hbox hg))
   replace BK501 := Aside0.mk (blk_drew BK501.out)
   replace BK502 := Aside0.mk (blk_drew BK502.out)
   replace HB := Aside0.mk (below_drew1 HB.out)
   refine start_ (n := 28) (S := fun w' => w'.cell? ⟨gb501, 0, none⟩ = some (.int .i64 a0_0) ∧ w'.cell? ⟨gb501, 1, none⟩ = some (.int .i64 a0_1) ∧ w'.cell? ⟨gb501, 2, none⟩ = some (.int .i64 a0_2) ∧ w'.cell? ⟨gb502, 0, none⟩ = some (.int .i64 a1_0) ∧ w'.cell? ⟨gb502, 1, none⟩ = some (.int .i64 a1_1) ∧ w'.cell? ⟨gb502, 2, none⟩ = some (.int .i64 a1_2) ∧ w'.cell? ⟨gb502, 3, none⟩ = some (.int .i64 a1_3)) (ds := []) #[false, false, false, false, false, false, false, false, false, false, false, false, false, false, false, false, false, false, false, false, false, false, false, false, false, false, false, false] (by kernel_rfl) rfl rfl ⟨BK501.c 0, BK501.c 1, BK501.c 2, BK502.c 0, BK502.c 1, BK502.c 2, BK502.c 3⟩ (fun hHeld => ?_); refine with_tabW impl_MeetsWish.tab1 impl_MeetsWish.bits1 (fun HT_ HW_ => ?_)
   generalize w25.drew = w26 at BK501 BK502 HB hHeld ⊢
   refine tv7_ (i := 0) (N := some 5) HT_.out HW_.out hHeld ?_
   refine ov_ (i := 1) (N := some 6) HT_.out (fun K hK => ?_)
   refine gq_ Try.func19 #[.agg #[.int .i64 a0_0, .int .i64 a0_1, .int .i64 a0_2]] ?_
   with_reducible refine (impl_IsPerfect.calls k a0_0 a0_1 a0_2 true _ A3.out).mono ?_
   rintro e w27 ⟨rfl, hb⟩
   refine ⟨_, rfl, ?_⟩
   replace BK501 := BK501.bb hb
   replace BK502 := BK502.bb hb
   replace HB := HB.s2 GE501 GE502 hb
   skip
   (try clear hb2)
   (try clear hk)
   (try clear hi)
   refine hK.out _ _ ⟨BK501.c 0, BK501.c 1, BK501.c 2, BK502.c 0, BK502.c 1, BK502.c 2, BK502.c 3⟩ (fun hHeld => ?_)
   clear hK K
   refine nm_ ?_
   refine pv_ (i := 2) (N := some 7) HT_.out ?_
   refine pv_ (i := 3) (N := some 8) HT_.out ?_
   refine tv7_ (i := 4) (N := some 9) HT_.out HW_.out hHeld ?_
   refine tv7_ (i := 5) (N := some 10) HT_.out HW_.out hHeld ?_
   refine ov_ (i := 6) (N := some 11) HT_.out (fun K hK => ?_)
   refine gq_ Try.func12 #[.agg #[.int .i64 a0_0, .int .i64 a0_1], .agg #[.int .i64 a1_0, .int .i64 a1_1, .int .i64 a1_2, .int .i64 a1_3]] ?_
   with_reducible refine (impl_WishOk.calls a0_0 a0_1 a1_0 a1_1 a1_2 a1_3 false _ A5.out).mono ?_
   rintro e w28 ⟨rfl, hb⟩
   refine ⟨_, rfl, ?_⟩
   replace BK501 := BK501.bb hb
   replace BK502 := BK502.bb hb
   replace HB := HB.s2 GE501 GE502 hb
   skip
   (try clear hb2)
   (try clear hk)
   (try clear hi)
   refine hK.out _ _ ⟨BK501.c 0, BK501.c 1, BK501.c 2, BK502.c 0, BK502.c 1, BK502.c 2, BK502.c 3⟩ (fun hHeld => ?_)
   clear hK K
   refine nm_ ?_
   refine pv_ (i := 7) (N := some 12) HT_.out ?_
   refine pv_ (i := 8) (N := some 13) HT_.out ?_
   refine pu_ (i := 9) (N := some 14) HT_.out ?_
   refine pu_ (i := 10) (N := some 15) HT_.out ?_
   refine pu_ (i := 11) (N := some 16) HT_.out ?_
   refine pu_ (i := 12) (N := some 17) HT_.out ?_
   refine pu_ (i := 13) (N := some 18) HT_.out ?_
   refine pu_ (i := 14) (N := some 19) HT_.out ?_
   refine pu_ (i := 15) (N := some 20) HT_.out ?_
   refine pu_ (i := 16) (N := some 21) HT_.out ?_
   refine pu_ (i := 17) (N := some 22) HT_.out ?_
   refine pv_ (i := 18) (N := some 23) HT_.out ?_
   refine pv_ (i := 19) (N := some 24) HT_.out ?_
   refine pu_ (i := 20) (N := some 25) HT_.out ?_
   refine pu_ (i := 21) (N := some 26) HT_.out ?_
   refine pu_ (i := 22) (N := some 27) HT_.out ?_
   refine pu_ (i := 23) (N := some 28) HT_.out ?_
   refine pu_ (i := 24) (N := some 29) HT_.out ?_
   refine pu_ (i := 25) (N := some 30) HT_.out ?_
   refine pv_ (i := 26) (N := some 31) HT_.out ?_
   refine pv_ (i := 27) (N := some 4) HT_.out ?_
   refine done_ (done_of HT_.out (by kernel_rfl)) ?_
   try go_wp2
   go_ret
   exact ⟨ex_, hb2_ HB.out GE501.out GE502.out⟩
 ·replace c4 := Bool.eq_false_iff.mpr c4
  subst c4
  have H1 : (some false) = some r := by rw [if_neg (show ¬ (false = true) by decide)] at H; exact H
  clear H
  have H := H1
  clear H1
  obtain rfl := Option.some.inj H
  go_enter Try.func9, Try.ntmps9
  try go_wp2_with (first | ((with_reducible refine gate_dst (N := 2) rfl ?_); (try (refine gate_guard (by rfl) ?_; dsimp only)); refine box_event ?hg (N := 2) ?hd (cs := #[.int .i64 a0_0, .int .i64 a0_1, .int .i64 a0_2]) (t := 32) ?hr ?_; (case hd => rfl); (case hg => rfl); (case hr => first | (go_simp; done) | (go_simp; rfl)); intro gb501 hg w29 hbox hb; have BK501 := Aside0.mk (hbox); have GW501 := HB.g0 hg; have GE501 := HB.g0 hg; replace HB := HB.s0 hb; clear hb hbox hg) | ((with_reducible refine gate_dst (N := 3) rfl ?_); (try (refine gate_guard (by rfl) ?_; dsimp only)); refine box_event ?hg (N := 3) ?hd (cs := #[.int .i64 a1_0, .int .i64 a1_1, .int .i64 a1_2, .int .i64 a1_3]) (t := 27) ?hr ?_; (case hd => rfl); (case hg => rfl); (case hr => first | (go_simp; done) | (go_simp; rfl)); intro gb502 hg w30 hbox hb; have BK502 := Aside0.mk (hbox); have GW502 := HB.g1 GE501 hg; have GE502 := HB.g1 GE501 hg; replace HB := HB.s1 GE501 hb; have NB501_502 := BK501.nl hg; have NB502_501 := BK501.nr hg; replace BK501 := BK501.bb hb; clear hb hbox hg))
  replace BK501 := Aside0.mk (blk_drew BK501.out)
  replace BK502 := Aside0.mk (blk_drew BK502.out)
  replace HB := Aside0.mk (below_drew1 HB.out)
  refine start_ (n := 28) (S := fun w' => w'.cell? ⟨gb501, 0, none⟩ = some (.int .i64 a0_0) ∧ w'.cell? ⟨gb501, 1, none⟩ = some (.int .i64 a0_1) ∧ w'.cell? ⟨gb501, 2, none⟩ = some (.int .i64 a0_2)) (ds := []) #[false, false, false, false, false, false, false, false, false, false, false, false, false, false, false, false, false, false, false, false, false, false, false, false, false, false, false, false] (by kernel_rfl) rfl rfl ⟨BK501.c 0, BK501.c 1, BK501.c 2⟩ (fun hHeld => ?_); refine with_tabW impl_MeetsWish.tab1 impl_MeetsWish.bits1 (fun HT_ HW_ => ?_)
  generalize w30.drew = w31 at BK501 BK502 HB hHeld ⊢
  refine tv3_ (i := 0) (N := some 5) HT_.out HW_.out hHeld ?_
  refine ov_ (i := 1) (N := some 6) HT_.out (fun K hK => ?_)
  refine gq_ Try.func19 #[.agg #[.int .i64 a0_0, .int .i64 a0_1, .int .i64 a0_2]] ?_
  with_reducible refine (impl_IsPerfect.calls k a0_0 a0_1 a0_2 false _ A3.out).mono ?_
  rintro e w32 ⟨rfl, hb⟩
  refine ⟨_, rfl, ?_⟩
  replace BK501 := BK501.bb hb
  replace BK502 := BK502.bb hb
  replace HB := HB.s2 GE501 GE502 hb
  skip
  (try clear hb2)
  (try clear hk)
  (try clear hi)
  refine hK.out _ _ ⟨BK501.c 0, BK501.c 1, BK501.c 2⟩ (fun hHeld => ?_)
  clear hK K
  refine nm_ ?_
  refine pv_ (i := 2) (N := some 7) HT_.out ?_
  refine pu_ (i := 3) (N := some 8) HT_.out ?_
  refine pu_ (i := 4) (N := some 9) HT_.out ?_
  refine pu_ (i := 5) (N := some 10) HT_.out ?_
  refine pu_ (i := 6) (N := some 11) HT_.out ?_
  refine pv_ (i := 7) (N := some 12) HT_.out ?_
  refine pv_ (i := 8) (N := some 13) HT_.out ?_
  refine pu_ (i := 9) (N := some 14) HT_.out ?_
  refine pu_ (i := 10) (N := some 15) HT_.out ?_
  refine pu_ (i := 11) (N := some 16) HT_.out ?_
  refine pu_ (i := 12) (N := some 17) HT_.out ?_
  refine pu_ (i := 13) (N := some 18) HT_.out ?_
  refine pu_ (i := 14) (N := some 19) HT_.out ?_
  refine pu_ (i := 15) (N := some 20) HT_.out ?_
  refine pu_ (i := 16) (N := some 21) HT_.out ?_
  refine pu_ (i := 17) (N := some 22) HT_.out ?_
  refine pv_ (i := 18) (N := some 23) HT_.out ?_
  refine pv_ (i := 19) (N := some 24) HT_.out ?_
  refine pu_ (i := 20) (N := some 25) HT_.out ?_
  refine pu_ (i := 21) (N := some 26) HT_.out ?_
  refine pu_ (i := 22) (N := some 27) HT_.out ?_
  refine pu_ (i := 23) (N := some 28) HT_.out ?_
  refine pu_ (i := 24) (N := some 29) HT_.out ?_
  refine pu_ (i := 25) (N := some 30) HT_.out ?_
  refine pv_ (i := 26) (N := some 31) HT_.out ?_
  refine pv_ (i := 27) (N := some 4) HT_.out ?_
  refine done_ (done_of HT_.out (by kernel_rfl)) ?_
  try go_wp2
  go_ret
  exact ⟨ex_, hb2_ HB.out GE501.out GE502.out⟩

end Go.Proofs.Ytnfclfpicemojaa.X
