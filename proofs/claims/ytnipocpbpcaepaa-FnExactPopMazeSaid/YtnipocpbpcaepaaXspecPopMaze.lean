-- Written by a program of this session (xprint.py), out of the translation and of hand-written contracts. Lean checks it.
import Derived.Test.YtnipocpbpcaepaaX0
import Derived.Test.YtnipocpbpcaepaaXspecArrowsOk
import Derived.Test.YtnipocpbpcaepaaXspecl15Order
import Derived.Test.YtnipocpbpcaepaaXspecl15Pop
namespace Go.Proofs.Ytnipocpbpcaepaa.X
open Go.RowKit Go.Proofs.YtnipocpbpcaepaaW.PrintWords Go.Proofs.YtnipocpbpcaepaaW.PrintLast Go.Proofs.YtnipocpbpcaepaaW.PrintMore
attribute [local go_sem] max2_int min2_int max_two min_two max_three min_three max_four min_four   -- for this text's walks alone
set_option linter.unusedVariables false
set_option linter.unusedSimpArgs false

/-! ### spec_PopMaze: function 14 -/
def spec_PopMaze.j0 : Nat → List (List Int) → List Int → Bool → Int → Int → Option (Int × Int × Int × Bool)
 | 0, _, _, _, _, _ => none
 | k + 1, x1, x2, x20, x502000, x502001 => if x20 = true then (some (0, 0, 0, false)) else ((some (([] : List Int) : List Int)).bind fun y505 => (if y505.length + x2.length < 17592186044416 then ((spec_l15Pop.f k x502000 x502001 x1 (y505 ++ x2)).bind fun bt511 => (if bt511.2.2.2.2 = true then (some (bt511.1, bt511.2.1, bt511.2.2.1, true)) else (some (0, 0, 0, false)))) else (none)))
def spec_PopMaze.f (k : Nat) (a0_0 : Int) (a0_1 : Int) (l1 : List (List Int)) (l2 : List Int) : Option (Int × Int × Int × Bool) := (spec_ArrowsOk.f k a0_0 a0_1 l1).bind fun t503 => (if t503 = true then ((spec_l15Order.f k a0_0 a0_1 l2).bind fun t504 => (spec_PopMaze.j0 k l1 l2 (!t504) a0_0 a0_1)) else (spec_PopMaze.j0 k l1 l2 true a0_0 a0_1))
theorem spec_PopMaze.mono_l : ∀ k, (∀ y0 y1 y2 y3 y4, LeO (spec_PopMaze.j0 k y0 y1 y2 y3 y4) (spec_PopMaze.j0 (k + 1) y0 y1 y2 y3 y4))
 | 0 => fun _ _ _ _ _ r h => by simp [spec_PopMaze.j0] at h
 | k + 1 => by
  have ih0 := spec_PopMaze.mono_l k
  ·intro y0 y1 y2 y3 y4
   unfold spec_PopMaze.j0
   repeat' first
   | (with_reducible exact ih0 ..)
   | (with_reducible exact spec_ArrowsOk.mono ..)
   | (with_reducible exact spec_l15Order.mono ..)
   | (with_reducible exact spec_l15Pop.mono ..)
   | (with_reducible first | exact lr_ _ | exact ln_ _ | refine li_ ?_ ?_ | refine lb_ ?_ fun _ => ?_)
   | exact ih0 ..
   | exact spec_ArrowsOk.mono ..
   | exact spec_l15Order.mono ..
   | exact spec_l15Pop.mono ..
   | exact ln_ _ | refine li_ ?_ ?_ | refine lb_ ?_ fun _ => ?_
theorem spec_PopMaze.mono : ∀ a0 a1 a2 a3 k, LeO (spec_PopMaze.f k a0 a1 a2 a3) (spec_PopMaze.f (k + 1) a0 a1 a2 a3) := by
 intro a0 a1 a2 a3 k
 have ih0 := spec_PopMaze.mono_l k
 unfold spec_PopMaze.f
 repeat' first
   | (with_reducible exact ih0 ..)
   | (with_reducible exact spec_ArrowsOk.mono ..)
   | (with_reducible exact spec_l15Order.mono ..)
   | (with_reducible exact spec_l15Pop.mono ..)
   | (with_reducible first | exact lr_ _ | exact ln_ _ | refine li_ ?_ ?_ | refine lb_ ?_ fun _ => ?_)
   | exact ih0 ..
   | exact spec_ArrowsOk.mono ..
   | exact spec_l15Order.mono ..
   | exact spec_l15Pop.mono ..
   | exact ln_ _ | refine li_ ?_ ?_ | refine lb_ ?_ fun _ => ?_
def spec_PopMaze.T3 : Bool × List (List Nat × List Nat) := (true, [([], []), ([], []), ([], []), ([], []), ([2, 3], [2, 3]), ([0, 1, 4, 4], [0, 1, 4]), ([5], [5]), ([6], [6]), ([6], [6]), ([6], [6]), ([], []), ([10, 7, 5, 0, 1, 2, 3, 4, 5, 6, 7, 10], [7, 10]), ([8, 11, 0, 1, 2, 3, 4, 5, 6, 7, 8, 10, 11], [8]), ([9, 12, 0, 1, 2, 3, 4, 5, 6, 7, 8, 9, 10, 11, 12], [9])])
def spec_PopMaze.B3 : List Nat := [0, 0, 0, 0, 12, 31, 63, 127, 127, 127, 0, 1279, 3583, 8191]
theorem spec_PopMaze.tab3 : rtab .any (opsOf Try.f14 3) = spec_PopMaze.T3 := by kernel_rfl
theorem spec_PopMaze.bits3 : waitsOk spec_PopMaze.T3.2 spec_PopMaze.B3 = true := by kernel_rfl
set_option maxHeartbeats 8000000 in
set_option maxRecDepth 100000 in
theorem spec_PopMaze.calls (k : Nat) (a0_0 : Int) (a0_1 : Int) (A1 : Option Addr) (c1 : Nat) (l1 : List (List Int)) (A2 : Option Addr) (c2 : Nat) (l2 : List Int) (r1 : Int) (r2 : Int) (r3 : Int) (r4 : Bool) (w : World) (hr1 : Kd.C (Kd.slice 3 (Kd.int .i64)) w A1 l1.length l1) (hc1 : l1.length ≤ c1) (hr2 : Kd.C (Kd.int .i64) w A2 l2.length l2) (hc2 : l2.length ≤ c2) (h : spec_PopMaze.f k a0_0 a0_1 l1 l2 = some (r1, r2, r3, r4)) :
  Calls Try.prog 14 #[.agg #[.int .i64 a0_0, .int .i64 a0_1], .slice A1 l1.length c1, .slice A2 l2.length c2] w fun e w' => e = .returned (.tuple #[.agg #[.int .i64 r1, .int .i64 r2, .int .i64 r3], .bool r4]) ∧ Below w.heap.size w w' := by
 have hu28 := Try.underlying28
 have hu36 := Try.underlying36
 have HR1 := Aside0.mk hr1
 have HC1 := Aside0.mk hc1
 clear hr1 hc1
 have HR2 := Aside0.mk hr2
 have HC2 := Aside0.mk hc2
 clear hr2 hc2
 have HB := Aside0.mk (Below.refl w.heap.size w)
 have H : ((spec_ArrowsOk.f k a0_0 a0_1 l1).bind fun t503 => (if t503 = true then ((spec_l15Order.f k a0_0 a0_1 l2).bind fun t504 => (spec_PopMaze.j0 k l1 l2 (!t504) a0_0 a0_1)) else (spec_PopMaze.j0 k l1 l2 true a0_0 a0_1))) = some (r1, r2, r3, r4) := h
 clear h
 have HC4 := Aside0.mk H
 clear H
 go_enter Try.func14, Try.ntmps14
 go_upto_region 1 with (first | (refine box_ (N := 3) (cs := #[.int .i64 a0_0, .int .i64 a0_1]) (t := 28) ?_; intro gb501 hg w5 hbox hb; have BK501 := Aside0.mk (hbox); have GW501 := HB.g0 hg; have GE501 := HB.g0 hg; replace HB := HB.s0 hb; clear hb hbox hg) | (refine box_ (N := 6) (cs := #[.int .i64 0, .int .i64 0, .int .i64 0]) (t := 36) ?_; intro gb502 hg w6 hbox hb; have BK502 := Aside0.mk (hbox); have GW502 := HB.g1 GE501 hg; have GE502 := HB.g1 GE501 hg; replace HB := HB.s1 GE501 hb; have NB501_502 := BK501.nl hg; have NB502_501 := BK501.nr hg; replace BK501 := BK501.bb hb; clear hb hbox hg))
 (try simp only [Act.put, List.setIfInBounds_toArray, List.set_cons_zero, List.set_cons_succ])
 go_cut [20] (fun v20 wc => ∃ (kq : Nat) (x20_3 : Bool), v20 = .bool x20_3 ∧ Aside0 (spec_PopMaze.j0 kq l1 l2 x20_3 a0_0 a0_1 = some (r1, r2, r3, r4)) ∧ Aside0 (kq ≤ k) ∧ Aside0 (wc.heap[gb501]? = some (.cells #[.int .i64 a0_0, .int .i64 a0_1] 28 (0, 0))) ∧ Aside0 (wc.heap[gb502]? = some (.cells #[.int .i64 0, .int .i64 0, .int .i64 0] 36 (0, 0))) ∧ Aside0 (Below w.heap.size w wc))
 case first =>
  have H := HC4.out
  clear HC4
  replace H := Option.bind_eq_some_iff.mp H
  obtain ⟨t503, A70, H⟩ := H
  replace H : (if t503 = true then ((spec_l15Order.f k a0_0 a0_1 l2).bind fun t504 => (spec_PopMaze.j0 k l1 l2 (!t504) a0_0 a0_1)) else (spec_PopMaze.j0 k l1 l2 true a0_0 a0_1)) = some (r1, r2, r3, r4) := H
  have A7 := Aside0.mk A70
  clear A70
  by_cases c8 : t503 = true
  ·subst c8
   have H1 : ((spec_l15Order.f k a0_0 a0_1 l2).bind fun t504 => (spec_PopMaze.j0 k l1 l2 (!t504) a0_0 a0_1)) = some (r1, r2, r3, r4) := by rw [if_pos rfl] at H; exact H
   clear H
   have H := H1
   clear H1
   replace H := Option.bind_eq_some_iff.mp H
   obtain ⟨t504, A90, H⟩ := H
   replace H : (spec_PopMaze.j0 k l1 l2 (!t504) a0_0 a0_1) = some (r1, r2, r3, r4) := H
   have A9 := Aside0.mk A90
   clear A90
   have H' := Aside0.mk H
   clear H
   have hnb10 := NB501_502.out
   have hnc10 := NB502_501.out
   obtain ⟨hcz11_0, hcz11_1⟩ := cz2_ BK501.out
   obtain ⟨hfz11_0, hfz11_1⟩ := fz2_ BK501.out
   go_wp2_with (first | (refine gl_ 13 Try.func22 #[.agg #[.int .i64 a0_0, .int .i64 a0_1], .slice A1 l1.length c1] ?_; (with_reducible refine (spec_ArrowsOk.calls k a0_0 a0_1 _ _ l1 true _ ?side1 ?side2 A7.out).mono ?_); (case side1 => repeat (first | exact (Kd.C_below HR1.out HB.out) | (with_reducible refine Kd.C_alloc ?_ _) | (with_reducible refine Kd.C_drewN ?_ _) | (with_reducible refine Kd.C_drew ?_))); (case side2 => exact HC1.out); rintro e w12 ⟨rfl, hb⟩; refine ⟨_, rfl, ?_⟩; replace BK501 := BK501.bb hb; replace BK502 := BK502.bb hb; replace HB := HB.s2 GE501 GE502 hb; (try clear hb); obtain ⟨hcz13_0, hcz13_1⟩ := cz2_ BK501.out; obtain ⟨hfz13_0, hfz13_1⟩ := fz2_ BK501.out) | (go_at_call 23; (with_reducible refine (spec_l15Order.calls k a0_0 a0_1 _ _ l2 t504 _ ?side1 ?side2 A9.out).mono ?_); (case side1 => repeat (first | exact (Kd.C_below HR2.out HB.out) | (with_reducible refine Kd.C_alloc ?_ _) | (with_reducible refine Kd.C_drewN ?_ _) | (with_reducible refine Kd.C_drew ?_))); (case side2 => exact HC2.out); rintro e w14 ⟨rfl, hb⟩; replace BK501 := BK501.bb hb; replace BK502 := BK502.bb hb; replace HB := HB.s2 GE501 GE502 hb; (try clear hb)))
   go_meet
   case rel => exact ⟨_, (!t504), (by first | rfl | (simp; done) | (simp [*]; done)), H', ⟨by first | omega | exact Nat.le_refl _⟩, ⟨bk_ BK501.out⟩, ⟨bk_ BK502.out⟩, ⟨hb2_ HB.out GE501.out GE502.out⟩⟩
  ·replace c8 := Bool.eq_false_iff.mpr c8
   subst c8
   have H1 : (spec_PopMaze.j0 k l1 l2 true a0_0 a0_1) = some (r1, r2, r3, r4) := by rw [if_neg (show ¬ (false = true) by decide)] at H; exact H
   clear H
   have H := H1
   clear H1
   have H' := Aside0.mk H
   clear H
   have hnb15 := NB501_502.out
   have hnc15 := NB502_501.out
   obtain ⟨hcz16_0, hcz16_1⟩ := cz2_ BK501.out
   obtain ⟨hfz16_0, hfz16_1⟩ := fz2_ BK501.out
   go_wp2_with (first | (refine gl_ 13 Try.func22 #[.agg #[.int .i64 a0_0, .int .i64 a0_1], .slice A1 l1.length c1] ?_; (with_reducible refine (spec_ArrowsOk.calls k a0_0 a0_1 _ _ l1 false _ ?side1 ?side2 A7.out).mono ?_); (case side1 => repeat (first | exact (Kd.C_below HR1.out HB.out) | (with_reducible refine Kd.C_alloc ?_ _) | (with_reducible refine Kd.C_drewN ?_ _) | (with_reducible refine Kd.C_drew ?_))); (case side2 => exact HC1.out); rintro e w17 ⟨rfl, hb⟩; refine ⟨_, rfl, ?_⟩; replace BK501 := BK501.bb hb; replace BK502 := BK502.bb hb; replace HB := HB.s2 GE501 GE502 hb; (try clear hb)))
   go_meet
   case rel => exact ⟨_, (true), (by first | rfl | (simp; done) | (simp [*]; done)), H', ⟨by first | omega | exact Nat.le_refl _⟩, ⟨bk_ BK501.out⟩, ⟨bk_ BK502.out⟩, ⟨hb2_ HB.out GE501.out GE502.out⟩⟩
 case rest =>
  clear HC4
  try clear c1
  try clear c2
  try clear p2
  try clear c8
  try clear c10
  try clear c14
  try clear c15
  try clear hcz11_0
  try clear hcz11_1
  try clear hcz13_0
  try clear hcz13_1
  try clear hcz16_0
  try clear hcz16_1
  try clear hfz11_0
  try clear hfz11_1
  try clear hfz13_0
  try clear hfz13_1
  try clear hfz16_0
  try clear hfz16_1
  obtain ⟨kq, x20_3, rfl, HA, HJ3, BK501, BK502, HB⟩ := hcut
  cases kq with
  | zero => exact absurd HA.out (by simp [spec_PopMaze.j0])
  | succ kj3 =>
   have H := HA.out
   clear HA
   simp only [spec_PopMaze.j0] at H
   by_cases c18 : x20_3 = true
   ·subst c18
    have H1 : (some (0, 0, 0, false)) = some (r1, r2, r3, r4) := by rw [if_pos rfl] at H; exact H
    clear H
    have H := H1
    clear H1
    simp only [Option.some.injEq, Prod.mk.injEq] at H
    obtain ⟨rfl, rfl, rfl, rfl⟩ := H
    have hnb19 := NB502_501.out
    have hnc19 := NB501_502.out
    obtain ⟨hcz20_0, hcz20_1, hcz20_2⟩ := cz3_ BK502.out
    obtain ⟨hfz20_0, hfz20_1, hfz20_2⟩ := fz3_ BK502.out
    go_wp2
    refine bodyPost_ret (results_ct rfl _ _ gb502 36 #[.int .i64 0, .int .i64 0, .int .i64 0] (0, 0) _ rfl (bq3_ BK502.out) Try.underlying36 rfl (by kernel_rfl)) rfl ?_
    exact ⟨ex_, hb2_ HB.out GE501.out GE502.out⟩
   ·replace c18 := Bool.eq_false_iff.mpr c18
    subst c18
    have H1 : ((some (([] : List Int) : List Int)).bind fun y505 => (if y505.length + l2.length < 17592186044416 then ((spec_l15Pop.f kj3 a0_0 a0_1 l1 (y505 ++ l2)).bind fun bt511 => (if bt511.2.2.2.2 = true then (some (bt511.1, bt511.2.1, bt511.2.2.1, true)) else (some (0, 0, 0, false)))) else (none))) = some (r1, r2, r3, r4) := by rw [if_neg (show ¬ (false = true) by decide)] at H; exact H
    clear H
    have H := H1
    clear H1
    obtain ⟨y505, hy505⟩ : ∃ y_ : List Int, y_ = (([] : List Int)) := ⟨_, rfl⟩
    replace H : (if y505.length + l2.length < 17592186044416 then ((spec_l15Pop.f kj3 a0_0 a0_1 l1 (y505 ++ l2)).bind fun bt511 => (if bt511.2.2.2.2 = true then (some (bt511.1, bt511.2.1, bt511.2.2.1, true)) else (some (0, 0, 0, false)))) else (none)) = some (r1, r2, r3, r4) := by first | (rw [hy505]; with_reducible exact H) | (have H2_ := (Option.bind_some _ _).symm.trans H; rw [hy505]; with_reducible exact H2_) | (have H2_ := (Option.bind_some _ _).symm.trans H; with_reducible exact H2_) | with_reducible exact H | (rw [hy505]; exact H) | exact H
    have Ny505 := Aside0.mk hy505
    clear hy505
    by_cases c21 : y505.length + l2.length < 17592186044416
    ·rw [if_pos c21] at H
     have LMc21 := Aside0.mk c21
     clear c21
     obtain ⟨y508, hy508⟩ : ∃ y_ : List Int, y_ = (y505 ++ l2) := ⟨_, rfl⟩
     replace H : ((spec_l15Pop.f kj3 a0_0 a0_1 l1 y508).bind fun bt511 => (if bt511.2.2.2.2 = true then (some (bt511.1, bt511.2.1, bt511.2.2.1, true)) else (some (0, 0, 0, false)))) = some (r1, r2, r3, r4) := by first | (rw [hy508]; with_reducible exact H) | (have H2_ := (Option.bind_some _ _).symm.trans H; rw [hy508]; with_reducible exact H2_) | (have H2_ := (Option.bind_some _ _).symm.trans H; with_reducible exact H2_) | with_reducible exact H | (rw [hy508]; exact H) | exact H
     have Ny508 := Aside0.mk hy508
     clear hy508
     replace H := Option.bind_eq_some_iff.mp H
     obtain ⟨⟨t511, t512, t513, t514, t515⟩, A220, H⟩ := H
     replace H : (if t515 = true then (some (t511, t512, t513, true)) else (some (0, 0, 0, false))) = some (r1, r2, r3, r4) := H
     have A22 := Aside0.mk A220
     clear A220
     by_cases c23 : t515 = true
     ·subst c23
      have H1 : (some (t511, t512, t513, true)) = some (r1, r2, r3, r4) := by rw [if_pos rfl] at H; exact H
      clear H
      have H := H1
      clear H1
      simp only [Option.some.injEq, Prod.mk.injEq] at H
      obtain ⟨rfl, rfl, rfl, rfl⟩ := H
      try go_wp2
      replace BK501 := Aside0.mk (blk_drew BK501.out)
      replace BK502 := Aside0.mk (blk_drew BK502.out)
      replace HB := Aside0.mk (below_drew1 HB.out)
      refine start_ (n := 14) (S := fun w' => w'.cell? ⟨gb501, 0, none⟩ = some (.int .i64 a0_0) ∧ w'.cell? ⟨gb501, 1, none⟩ = some (.int .i64 a0_1)) (ds := []) #[false, false, false, false, false, false, false, false, false, false, false, false, false, false] (by kernel_rfl) rfl rfl ⟨BK501.c 0, BK501.c 1⟩ (fun hHeld => ?_); refine with_tabW spec_PopMaze.tab3 spec_PopMaze.bits3 (fun HT_ HW_ => ?_)
      generalize wc.drew = w24 at BK501 BK502 HB hHeld ⊢
      refine pv_ (i := 1) (N := some 24) HT_.out ?_
      refine pv_ (i := 3) (N := some 26) HT_.out ?_
      refine tv2_ (i := 0) (N := some 23) HT_.out HW_.out hHeld ?_
      refine join_ (σ := Value × Value × Nat) 3 #[true, true, true, true, true, true, true, true, true, true, true, false, false, false] (fun s_ => [(25, s_.1), (27, s_.2.1), (28, .tuple #[.agg #[.int .i64 t511, .int .i64 t512, .int .i64 t513], .int .i64 t514, .bool true]), (8, .pointer (some ⟨s_.2.2, 0, none⟩)), (22, .tuple #[.agg #[.int .i64 t511, .int .i64 t512, .int .i64 t513], .int .i64 t514, .bool true]), (29, .agg #[.int .i64 t511, .int .i64 t512, .int .i64 t513]), (30, .int .i64 t514), (31, .bool true)]) (fun s_ w' => (w'.cell? ⟨gb501, 0, none⟩ = some (.int .i64 a0_0) ∧ w'.cell? ⟨gb501, 1, none⟩ = some (.int .i64 a0_1)) ∧ (w'.heap[gb501]? = some (.cells #[.int .i64 a0_0, .int .i64 a0_1] 28 (0, 0))) ∧ (w'.heap[gb502]? = some (.cells #[.int .i64 0, .int .i64 0, .int .i64 0] 36 (0, 0))) ∧ (w'.heap[s_.2.2]? = some (.cells #[.int .i64 0, .int .i64 0, .int .i64 0] 36 (0, 0))) ∧ (w.heap.size ≤ s_.2.2) ∧ (w.heap.size ≤ s_.2.2) ∧ (gb501 ≠ s_.2.2) ∧ (s_.2.2 ≠ gb501) ∧ (gb502 ≠ s_.2.2) ∧ (s_.2.2 ≠ gb502) ∧ (Below w.heap.size w w')) ?_ ?_
      rotate_left
      ·intro hCont
       refine two_ (i := 2) (j := 10) (Ni := some 25) (Nj := some 8) #[true, true, true, true, false, false, false, false, false, false, false, false, false, false] #[true, true, false, true, false, false, false, false, false, false, true, false, false, false] rfl rfl rfl rfl (two_of HT_.out (by kernel_rfl)) (by decide) (by decide) (fun K hK => ?_) (fun K hK => ?_)
       ·skip
        refine Kd.R_lit_step (Kd.int .i64) _ 3 ?hg (N := 25) ?hd (xs := ([] : List Int)) (inner := []) (ok := fun _ => True) (okp := fun _ => True) ?hr ?hp (fun _ hk => hk) trivial (Below.refl _ _) (Nat.le_refl _) (by simp) ?_; (case hd => rfl); (case hg => rfl); (case hr => first | (go_simp; done) | (go_simp; rfl)); (case hp => exact (Reps.none _ _))
        intro v506 w25 ho26 hb hg_ hnew_
        clear hg_ hnew_
        (first | rw [← Ny505.out] at ho26 | (simp only [Int.reduceToNat] at ho26; rw [← Ny505.out] at ho26))
        have HO507 := Aside0.mk (Kd.R_lower ho26 (below_size (hb2_ HB.out GE501.out GE502.out)))
        replace BK501 := BK501.bb hb
        replace BK502 := BK502.bb hb
        replace HB := HB.s2 GE501 GE502 hb
        clear hb ho26
        refine hK.out _ _ ⟨BK501.c 0, BK501.c 1⟩ (fun hHeld => ?_)
        clear hK K
        refine norm_ (a' := ?_) ?_ ?_
        rotate_left
        ·show Act.put _ (some 25) _ = _
         simp only [Act.put, List.setIfInBounds_toArray, List.set_cons_zero, List.set_cons_succ, i64_w, i32_w]
         rfl
        refine two_ (i := 4) (j := 10) (Ni := some 27) (Nj := some 8) #[true, true, true, true, true, false, false, false, false, false, false, false, false, false] #[true, true, true, true, false, false, false, false, false, false, true, false, false, false] rfl rfl rfl rfl (two_of HT_.out (by kernel_rfl)) (by decide) (by decide) (fun K hK => ?_) (fun K hK => ?_)
        ·skip
         refine Kd.R_append_rows_step (Kd.int .i64) (w0 := w) w.heap.size (by rfl) (.tmp 25) (.tmp 26) 25 3 (.int .i64 0) 8 rfl Try.underlying25 info3 rfl (by decide) (by omega) v506 y505 l2 _ _ _ (fun _ => True) (fun _ => False) rfl rfl ?aO ?aR (fun _ _ h => h) (fun _ h => h.elim) ?aF ?aB ?aS ?aL ?_
         (case aR => repeat (first | exact (Kd.C_below HR2.out HB.out) | (with_reducible refine Kd.C_alloc ?_ _) | (with_reducible refine Kd.C_drewN ?_ _) | (with_reducible refine Kd.C_drew ?_)))
         (case aB => exact (hb2_ HB.out GE501.out GE502.out))
         (case aF => exact (fun _ _ => trivial))
         (case aO => exact (kr_ HO507.out))
         (case aS => exact (below_size (hb2_ HB.out GE501.out GE502.out)))
         (case aL => have := LMc21.out; omega)
         intro v509 w27 ho hb hg hat
         rw [← Ny508.out] at ho
         replace BK501 := Aside0.mk (blk_grown (g := gb501) (o := .cells #[.int .i64 a0_0, .int .i64 a0_1] 28 (0, 0)) (bk_ BK501.out) hg (Kd.R_ne HO507.out BK501.out (by decide)))
         replace BK502 := Aside0.mk (blk_grown (g := gb502) (o := .cells #[.int .i64 0, .int .i64 0, .int .i64 0] 36 (0, 0)) (bk_ BK502.out) hg (Kd.R_ne HO507.out BK502.out (by decide)))
         replace HB := Aside0.mk (hb)
         have HO510 := Aside0.mk (ho)
         clear HO507
         clear ho hb hg hat
         obtain ⟨Ao28, co28, eo28⟩ := Kd.R_slice HO510.out
         (first | subst eo28 | (injection eo28 with f1_ f2_ f3_; have f4_ := f1_.symm; have f5_ := f3_.symm; clear f1_ f2_ f3_; subst f4_; subst f5_))
         refine hK.out _ _ ⟨BK501.c 0, BK501.c 1⟩ (fun hHeld => ?_)
         clear hK K
         refine norm_ (a' := ?_) ?_ ?_
         rotate_left
         ·show Act.put _ (some 27) _ = _
          simp only [Act.put, List.setIfInBounds_toArray, List.set_cons_zero, List.set_cons_succ, i64_w, i32_w]
          rfl
         refine two_ (i := 5) (j := 10) (Ni := some 28) (Nj := some 8) #[true, true, true, true, true, true, false, false, false, false, false, false, false, false] #[true, true, true, true, true, false, false, false, false, false, true, false, false, false] rfl rfl rfl rfl (two_of HT_.out (by kernel_rfl)) (by decide) (by decide) (fun K hK => ?_) (fun K hK => ?_)
         ·skip
          refine gq_ Try.func24 #[.agg #[.int .i64 a0_0, .int .i64 a0_1], .slice A1 l1.length c1, .slice Ao28 y508.length co28] ?_
          with_reducible refine (spec_l15Pop.calls kj3 a0_0 a0_1 _ _ l1 (fun k_ => some k_ = (.slice Ao28 y508.length co28 : Value).ownBlock) (.slice Ao28 y508.length co28) y508 t511 t512 t513 t514 true w _ ?side1 ?side2 ?side3 ?side4 A22.out).mono ?_
          (case side1 => repeat (first | (with_reducible first | exact HB.out | apply below_alloc | apply pw_below_drewN | apply below_drew1 | refine below_set ?_ GE501.out | refine below_set ?_ GE502.out) | exact HB.out))
          (case side2 => exact Kd.C_kept_came (Kd.heap_slice 3 (Kd.heap_int .i64)) HR1.out (hb2_ HB.out GE501.out GE502.out) (fun k_ hs_ => (fun e_ => Kd.R_base HO510.out k_ e_.symm) hs_))
          (case side3 => exact HC1.out)
          (case side4 => exact Kd.R_tight rfl HO510.out)
          rintro e w29 ⟨rfl, hb, hkp⟩
          refine ⟨_, rfl, ?_⟩
          replace BK501 := Aside0.mk (blk_kept (bk_ BK501.out) hkp (fun hs_ => (fun e_ => (Kd.R_ne HO510.out BK501.out (by decide)) e_) hs_))
          replace BK502 := Aside0.mk (blk_kept (bk_ BK502.out) hkp (fun hs_ => (fun e_ => (Kd.R_ne HO510.out BK502.out (by decide)) e_) hs_))
          replace HB := Aside0.mk (hb)
          clear HO510
          skip
          (try clear hkp)
          refine hK.out _ _ ⟨BK501.c 0, BK501.c 1⟩ (fun hHeld => ?_)
          clear hK K
          refine nm_ ?_
          refine pv_ (i := 6) (N := some 22) HT_.out ?_
          refine pv_ (i := 7) (N := some 29) HT_.out ?_
          refine pv_ (i := 8) (N := some 30) HT_.out ?_
          refine pv_ (i := 9) (N := some 31) HT_.out ?_
          refine ov_ (i := 10) (N := some 8) HT_.out (fun K hK => ?_)
          refine box_step ?hg (N := 8) ?hd (cs := #[.int .i64 0, .int .i64 0, .int .i64 0]) (t := 36) ?hr ?_; (case hd => rfl); (case hg => rfl); (case hr => first | (go_simp; done) | (go_simp; rfl))
          intro gb516 hg w30 hbox hb
          have n0_ := BK501.bb hb
          have n1_ := BK502.bb hb
          have n2_ := HB.s2 GE501 GE502 hb
          have n3_ := Aside0.mk (hbox)
          have n4_ := HB.g2 GE501 GE502 hg
          have n5_ := HB.g2 GE501 GE502 hg
          have n6_ := BK501.nl hg
          have n7_ := BK501.nr hg
          have n8_ := BK502.nl hg
          have n9_ := BK502.nr hg
          clear BK501
          clear BK502
          clear HB
          have BK501 := n0_
          have BK502 := n1_
          have HB := n2_
          have BK516 := n3_
          have GW516 := n4_
          have GE516 := n5_
          have NB501_516 := n6_
          have NB516_501 := n7_
          have NB502_516 := n8_
          have NB516_502 := n9_
          clear n0_ n1_ n2_ n3_ n4_ n5_ n6_ n7_ n8_ n9_
          clear hb hbox hg
          refine hK.out _ _ ⟨BK501.c 0, BK501.c 1⟩ (fun hHeld => ?_)
          clear hK K
          refine norm_ (a' := ?_) ?_ ?_
          rotate_left
          ·show Act.put _ (some 8) _ = _
           simp only [Act.put, List.setIfInBounds_toArray, List.set_cons_zero, List.set_cons_succ, i64_w, i32_w]
           rfl
          exact norm_ (by simp only [putAll, Act.put, List.setIfInBounds_toArray, List.set_cons_zero, List.set_cons_succ]) (hCont (v506, .slice Ao28 y508.length co28, gb516) _ ⟨hHeld, (bk_ BK501.out), (bk_ BK502.out), (bk_ BK516.out), GW516.out, GE516.out, NB501_516.out, NB516_501.out, NB502_516.out, NB516_502.out, (hb3_ HB.out GE501.out GE502.out GE516.out)⟩)
         ·skip
          refine box_step ?hg (N := 8) ?hd (cs := #[.int .i64 0, .int .i64 0, .int .i64 0]) (t := 36) ?hr ?_; (case hd => rfl); (case hg => rfl); (case hr => first | (go_simp; done) | (go_simp; rfl))
          intro gb516 hg w28 hbox hb
          have n0_ := HO510.kb hb
          have n1_ := BK501.bb hb
          have n2_ := BK502.bb hb
          have n3_ := HB.s2 GE501 GE502 hb
          have n4_ := Aside0.mk (hbox)
          have n5_ := HB.g2 GE501 GE502 hg
          have n6_ := HB.g2 GE501 GE502 hg
          have n7_ := BK501.nl hg
          have n8_ := BK501.nr hg
          have n9_ := BK502.nl hg
          have n10_ := BK502.nr hg
          clear HO510
          clear BK501
          clear BK502
          clear HB
          have HO510 := n0_
          have BK501 := n1_
          have BK502 := n2_
          have HB := n3_
          have BK516 := n4_
          have GW516 := n5_
          have GE516 := n6_
          have NB501_516 := n7_
          have NB516_501 := n8_
          have NB502_516 := n9_
          have NB516_502 := n10_
          clear n0_ n1_ n2_ n3_ n4_ n5_ n6_ n7_ n8_ n9_ n10_
          clear hb hbox hg
          obtain ⟨Ao29, co29, eo29⟩ := Kd.R_slice HO510.out
          (first | subst eo29 | (injection eo29 with f1_ f2_ f3_; have f4_ := f1_.symm; have f5_ := f3_.symm; clear f1_ f2_ f3_; subst f4_; subst f5_))
          refine hK.out _ _ ⟨BK501.c 0, BK501.c 1⟩ (fun hHeld => ?_)
          clear hK K
          refine norm_ (a' := ?_) ?_ ?_
          rotate_left
          ·show Act.put _ (some 8) _ = _
           simp only [Act.put, List.setIfInBounds_toArray, List.set_cons_zero, List.set_cons_succ, i64_w, i32_w]
           rfl
          refine ov_ (i := 5) (N := some 28) HT_.out (fun K hK => ?_)
          refine gq_ Try.func24 #[.agg #[.int .i64 a0_0, .int .i64 a0_1], .slice A1 l1.length c1, .slice Ao29 y508.length co29] ?_
          with_reducible refine (spec_l15Pop.calls kj3 a0_0 a0_1 _ _ l1 (fun k_ => some k_ = (.slice Ao29 y508.length co29 : Value).ownBlock) (.slice Ao29 y508.length co29) y508 t511 t512 t513 t514 true w _ ?side1 ?side2 ?side3 ?side4 A22.out).mono ?_
          (case side1 => repeat (first | (with_reducible first | exact HB.out | apply below_alloc | apply pw_below_drewN | apply below_drew1 | refine below_set ?_ GE501.out | refine below_set ?_ GE502.out | refine below_set ?_ GE516.out) | exact HB.out))
          (case side2 => exact Kd.C_kept_came (Kd.heap_slice 3 (Kd.heap_int .i64)) HR1.out (hb3_ HB.out GE501.out GE502.out GE516.out) (fun k_ hs_ => (fun e_ => Kd.R_base HO510.out k_ e_.symm) hs_))
          (case side3 => exact HC1.out)
          (case side4 => exact Kd.R_tight rfl HO510.out)
          rintro e w30 ⟨rfl, hb, hkp⟩
          refine ⟨_, rfl, ?_⟩
          replace BK501 := Aside0.mk (blk_kept (bk_ BK501.out) hkp (fun hs_ => (fun e_ => (Kd.R_ne HO510.out BK501.out (by decide)) e_) hs_))
          replace BK502 := Aside0.mk (blk_kept (bk_ BK502.out) hkp (fun hs_ => (fun e_ => (Kd.R_ne HO510.out BK502.out (by decide)) e_) hs_))
          replace BK516 := Aside0.mk (blk_kept (bk_ BK516.out) hkp (fun hs_ => (fun e_ => (Kd.R_ne HO510.out BK516.out (by decide)) e_) hs_))
          replace HB := Aside0.mk (hb)
          clear HO510
          skip
          (try clear hkp)
          refine hK.out _ _ ⟨BK501.c 0, BK501.c 1⟩ (fun hHeld => ?_)
          clear hK K
          refine nm_ ?_
          refine pv_ (i := 6) (N := some 22) HT_.out ?_
          refine pv_ (i := 7) (N := some 29) HT_.out ?_
          refine pv_ (i := 8) (N := some 30) HT_.out ?_
          refine pv_ (i := 9) (N := some 31) HT_.out ?_
          exact norm_ (by simp only [putAll, Act.put, List.setIfInBounds_toArray, List.set_cons_zero, List.set_cons_succ]) (hCont (v506, .slice Ao29 y508.length co29, gb516) _ ⟨hHeld, (bk_ BK501.out), (bk_ BK502.out), (bk_ BK516.out), GW516.out, GE516.out, NB501_516.out, NB516_501.out, NB502_516.out, NB516_502.out, (hb3_ HB.out GE501.out GE502.out GE516.out)⟩)
        ·skip
         refine box_step ?hg (N := 8) ?hd (cs := #[.int .i64 0, .int .i64 0, .int .i64 0]) (t := 36) ?hr ?_; (case hd => rfl); (case hg => rfl); (case hr => first | (go_simp; done) | (go_simp; rfl))
         intro gb516 hg w27 hbox hb
         have n0_ := HO507.kb hb
         have n1_ := BK501.bb hb
         have n2_ := BK502.bb hb
         have n3_ := HB.s2 GE501 GE502 hb
         have n4_ := Aside0.mk (hbox)
         have n5_ := HB.g2 GE501 GE502 hg
         have n6_ := HB.g2 GE501 GE502 hg
         have n7_ := BK501.nl hg
         have n8_ := BK501.nr hg
         have n9_ := BK502.nl hg
         have n10_ := BK502.nr hg
         clear HO507
         clear BK501
         clear BK502
         clear HB
         have HO507 := n0_
         have BK501 := n1_
         have BK502 := n2_
         have HB := n3_
         have BK516 := n4_
         have GW516 := n5_
         have GE516 := n6_
         have NB501_516 := n7_
         have NB516_501 := n8_
         have NB502_516 := n9_
         have NB516_502 := n10_
         clear n0_ n1_ n2_ n3_ n4_ n5_ n6_ n7_ n8_ n9_ n10_
         clear hb hbox hg
         refine hK.out _ _ ⟨BK501.c 0, BK501.c 1⟩ (fun hHeld => ?_)
         clear hK K
         refine norm_ (a' := ?_) ?_ ?_
         rotate_left
         ·show Act.put _ (some 8) _ = _
          simp only [Act.put, List.setIfInBounds_toArray, List.set_cons_zero, List.set_cons_succ, i64_w, i32_w]
          rfl
         refine ov_ (i := 4) (N := some 27) HT_.out (fun K hK => ?_)
         refine Kd.R_append_rows_step (Kd.int .i64) (w0 := w) w.heap.size (by rfl) (.tmp 25) (.tmp 26) 25 3 (.int .i64 0) 8 rfl Try.underlying25 info3 rfl (by decide) (by omega) v506 y505 l2 _ _ _ (fun _ => True) (fun _ => False) rfl rfl ?aO ?aR (fun _ _ h => h) (fun _ h => h.elim) ?aF ?aB ?aS ?aL ?_
         (case aR => repeat (first | exact (Kd.C_below HR2.out HB.out) | (with_reducible refine Kd.C_alloc ?_ _) | (with_reducible refine Kd.C_drewN ?_ _) | (with_reducible refine Kd.C_drew ?_)))
         (case aB => exact (hb3_ HB.out GE501.out GE502.out GE516.out))
         (case aF => exact (fun _ _ => trivial))
         (case aO => exact (kr_ HO507.out))
         (case aS => exact (below_size (hb3_ HB.out GE501.out GE502.out GE516.out)))
         (case aL => have := LMc21.out; omega)
         intro v509 w28 ho hb hg hat
         rw [← Ny508.out] at ho
         replace BK501 := Aside0.mk (blk_grown (g := gb501) (o := .cells #[.int .i64 a0_0, .int .i64 a0_1] 28 (0, 0)) (bk_ BK501.out) hg (Kd.R_ne HO507.out BK501.out (by decide)))
         replace BK502 := Aside0.mk (blk_grown (g := gb502) (o := .cells #[.int .i64 0, .int .i64 0, .int .i64 0] 36 (0, 0)) (bk_ BK502.out) hg (Kd.R_ne HO507.out BK502.out (by decide)))
         replace BK516 := Aside0.mk (blk_grown (g := gb516) (o := .cells #[.int .i64 0, .int .i64 0, .int .i64 0] 36 (0, 0)) (bk_ BK516.out) hg (Kd.R_ne HO507.out BK516.out (by decide)))
         replace HB := Aside0.mk (hb)
         have HO510 := Aside0.mk (ho)
         clear HO507
         clear ho hb hg hat
         obtain ⟨Ao29, co29, eo29⟩ := Kd.R_slice HO510.out
         (first | subst eo29 | (injection eo29 with f1_ f2_ f3_; have f4_ := f1_.symm; have f5_ := f3_.symm; clear f1_ f2_ f3_; subst f4_; subst f5_))
         refine hK.out _ _ ⟨BK501.c 0, BK501.c 1⟩ (fun hHeld => ?_)
         clear hK K
         refine norm_ (a' := ?_) ?_ ?_
         rotate_left
         ·show Act.put _ (some 27) _ = _
          simp only [Act.put, List.setIfInBounds_toArray, List.set_cons_zero, List.set_cons_succ, i64_w, i32_w]
          rfl
         refine ov_ (i := 5) (N := some 28) HT_.out (fun K hK => ?_)
         refine gq_ Try.func24 #[.agg #[.int .i64 a0_0, .int .i64 a0_1], .slice A1 l1.length c1, .slice Ao29 y508.length co29] ?_
         with_reducible refine (spec_l15Pop.calls kj3 a0_0 a0_1 _ _ l1 (fun k_ => some k_ = (.slice Ao29 y508.length co29 : Value).ownBlock) (.slice Ao29 y508.length co29) y508 t511 t512 t513 t514 true w _ ?side1 ?side2 ?side3 ?side4 A22.out).mono ?_
         (case side1 => repeat (first | (with_reducible first | exact HB.out | apply below_alloc | apply pw_below_drewN | apply below_drew1 | refine below_set ?_ GE501.out | refine below_set ?_ GE502.out | refine below_set ?_ GE516.out) | exact HB.out))
         (case side2 => exact Kd.C_kept_came (Kd.heap_slice 3 (Kd.heap_int .i64)) HR1.out (hb3_ HB.out GE501.out GE502.out GE516.out) (fun k_ hs_ => (fun e_ => Kd.R_base HO510.out k_ e_.symm) hs_))
         (case side3 => exact HC1.out)
         (case side4 => exact Kd.R_tight rfl HO510.out)
         rintro e w30 ⟨rfl, hb, hkp⟩
         refine ⟨_, rfl, ?_⟩
         replace BK501 := Aside0.mk (blk_kept (bk_ BK501.out) hkp (fun hs_ => (fun e_ => (Kd.R_ne HO510.out BK501.out (by decide)) e_) hs_))
         replace BK502 := Aside0.mk (blk_kept (bk_ BK502.out) hkp (fun hs_ => (fun e_ => (Kd.R_ne HO510.out BK502.out (by decide)) e_) hs_))
         replace BK516 := Aside0.mk (blk_kept (bk_ BK516.out) hkp (fun hs_ => (fun e_ => (Kd.R_ne HO510.out BK516.out (by decide)) e_) hs_))
         replace HB := Aside0.mk (hb)
         clear HO510
         skip
         (try clear hkp)
         refine hK.out _ _ ⟨BK501.c 0, BK501.c 1⟩ (fun hHeld => ?_)
         clear hK K
         refine nm_ ?_
         refine pv_ (i := 6) (N := some 22) HT_.out ?_
         refine pv_ (i := 7) (N := some 29) HT_.out ?_
         refine pv_ (i := 8) (N := some 30) HT_.out ?_
         refine pv_ (i := 9) (N := some 31) HT_.out ?_
         exact norm_ (by simp only [putAll, Act.put, List.setIfInBounds_toArray, List.set_cons_zero, List.set_cons_succ]) (hCont (v506, .slice Ao29 y508.length co29, gb516) _ ⟨hHeld, (bk_ BK501.out), (bk_ BK502.out), (bk_ BK516.out), GW516.out, GE516.out, NB501_516.out, NB516_501.out, NB502_516.out, NB516_502.out, (hb3_ HB.out GE501.out GE502.out GE516.out)⟩)
       ·skip
        refine box_step ?hg (N := 8) ?hd (cs := #[.int .i64 0, .int .i64 0, .int .i64 0]) (t := 36) ?hr ?_; (case hd => rfl); (case hg => rfl); (case hr => first | (go_simp; done) | (go_simp; rfl))
        intro gb516 hg w25 hbox hb
        have n0_ := BK501.bb hb
        have n1_ := BK502.bb hb
        have n2_ := HB.s2 GE501 GE502 hb
        have n3_ := Aside0.mk (hbox)
        have n4_ := HB.g2 GE501 GE502 hg
        have n5_ := HB.g2 GE501 GE502 hg
        have n6_ := BK501.nl hg
        have n7_ := BK501.nr hg
        have n8_ := BK502.nl hg
        have n9_ := BK502.nr hg
        clear BK501
        clear BK502
        clear HB
        have BK501 := n0_
        have BK502 := n1_
        have HB := n2_
        have BK516 := n3_
        have GW516 := n4_
        have GE516 := n5_
        have NB501_516 := n6_
        have NB516_501 := n7_
        have NB502_516 := n8_
        have NB516_502 := n9_
        clear n0_ n1_ n2_ n3_ n4_ n5_ n6_ n7_ n8_ n9_
        clear hb hbox hg
        refine hK.out _ _ ⟨BK501.c 0, BK501.c 1⟩ (fun hHeld => ?_)
        clear hK K
        refine norm_ (a' := ?_) ?_ ?_
        rotate_left
        ·show Act.put _ (some 8) _ = _
         simp only [Act.put, List.setIfInBounds_toArray, List.set_cons_zero, List.set_cons_succ, i64_w, i32_w]
         rfl
        refine ov_ (i := 2) (N := some 25) HT_.out (fun K hK => ?_)
        refine Kd.R_lit_step (Kd.int .i64) _ 3 ?hg (N := 25) ?hd (xs := ([] : List Int)) (inner := []) (ok := fun _ => True) (okp := fun _ => True) ?hr ?hp (fun _ hk => hk) trivial (Below.refl _ _) (Nat.le_refl _) (by simp) ?_; (case hd => rfl); (case hg => rfl); (case hr => first | (go_simp; done) | (go_simp; rfl)); (case hp => exact (Reps.none _ _))
        intro v506 w26 ho27 hb hg_ hnew_
        clear hg_ hnew_
        (first | rw [← Ny505.out] at ho27 | (simp only [Int.reduceToNat] at ho27; rw [← Ny505.out] at ho27))
        have HO507 := Aside0.mk (Kd.R_lower ho27 (below_size (hb3_ HB.out GE501.out GE502.out GE516.out)))
        replace BK501 := BK501.bb hb
        replace BK502 := BK502.bb hb
        replace BK516 := BK516.bb hb
        replace HB := HB.s3 GE501 GE502 GE516 hb
        clear hb ho27
        refine hK.out _ _ ⟨BK501.c 0, BK501.c 1⟩ (fun hHeld => ?_)
        clear hK K
        refine norm_ (a' := ?_) ?_ ?_
        rotate_left
        ·show Act.put _ (some 25) _ = _
         simp only [Act.put, List.setIfInBounds_toArray, List.set_cons_zero, List.set_cons_succ, i64_w, i32_w]
         rfl
        refine ov_ (i := 4) (N := some 27) HT_.out (fun K hK => ?_)
        refine Kd.R_append_rows_step (Kd.int .i64) (w0 := w) w.heap.size (by rfl) (.tmp 25) (.tmp 26) 25 3 (.int .i64 0) 8 rfl Try.underlying25 info3 rfl (by decide) (by omega) v506 y505 l2 _ _ _ (fun _ => True) (fun _ => False) rfl rfl ?aO ?aR (fun _ _ h => h) (fun _ h => h.elim) ?aF ?aB ?aS ?aL ?_
        (case aR => repeat (first | exact (Kd.C_below HR2.out HB.out) | (with_reducible refine Kd.C_alloc ?_ _) | (with_reducible refine Kd.C_drewN ?_ _) | (with_reducible refine Kd.C_drew ?_)))
        (case aB => exact (hb3_ HB.out GE501.out GE502.out GE516.out))
        (case aF => exact (fun _ _ => trivial))
        (case aO => exact (kr_ HO507.out))
        (case aS => exact (below_size (hb3_ HB.out GE501.out GE502.out GE516.out)))
        (case aL => have := LMc21.out; omega)
        intro v509 w28 ho hb hg hat
        rw [← Ny508.out] at ho
        replace BK501 := Aside0.mk (blk_grown (g := gb501) (o := .cells #[.int .i64 a0_0, .int .i64 a0_1] 28 (0, 0)) (bk_ BK501.out) hg (Kd.R_ne HO507.out BK501.out (by decide)))
        replace BK502 := Aside0.mk (blk_grown (g := gb502) (o := .cells #[.int .i64 0, .int .i64 0, .int .i64 0] 36 (0, 0)) (bk_ BK502.out) hg (Kd.R_ne HO507.out BK502.out (by decide)))
        replace BK516 := Aside0.mk (blk_grown (g := gb516) (o := .cells #[.int .i64 0, .int .i64 0, .int .i64 0] 36 (0, 0)) (bk_ BK516.out) hg (Kd.R_ne HO507.out BK516.out (by decide)))
        replace HB := Aside0.mk (hb)
        have HO510 := Aside0.mk (ho)
        clear HO507
        clear ho hb hg hat
        obtain ⟨Ao29, co29, eo29⟩ := Kd.R_slice HO510.out
        (first | subst eo29 | (injection eo29 with f1_ f2_ f3_; have f4_ := f1_.symm; have f5_ := f3_.symm; clear f1_ f2_ f3_; subst f4_; subst f5_))
        refine hK.out _ _ ⟨BK501.c 0, BK501.c 1⟩ (fun hHeld => ?_)
        clear hK K
        refine norm_ (a' := ?_) ?_ ?_
        rotate_left
        ·show Act.put _ (some 27) _ = _
         simp only [Act.put, List.setIfInBounds_toArray, List.set_cons_zero, List.set_cons_succ, i64_w, i32_w]
         rfl
        refine ov_ (i := 5) (N := some 28) HT_.out (fun K hK => ?_)
        refine gq_ Try.func24 #[.agg #[.int .i64 a0_0, .int .i64 a0_1], .slice A1 l1.length c1, .slice Ao29 y508.length co29] ?_
        with_reducible refine (spec_l15Pop.calls kj3 a0_0 a0_1 _ _ l1 (fun k_ => some k_ = (.slice Ao29 y508.length co29 : Value).ownBlock) (.slice Ao29 y508.length co29) y508 t511 t512 t513 t514 true w _ ?side1 ?side2 ?side3 ?side4 A22.out).mono ?_
        (case side1 => repeat (first | (with_reducible first | exact HB.out | apply below_alloc | apply pw_below_drewN | apply below_drew1 | refine below_set ?_ GE501.out | refine below_set ?_ GE502.out | refine below_set ?_ GE516.out) | exact HB.out))
        (case side2 => exact Kd.C_kept_came (Kd.heap_slice 3 (Kd.heap_int .i64)) HR1.out (hb3_ HB.out GE501.out GE502.out GE516.out) (fun k_ hs_ => (fun e_ => Kd.R_base HO510.out k_ e_.symm) hs_))
        (case side3 => exact HC1.out)
        (case side4 => exact Kd.R_tight rfl HO510.out)
        rintro e w30 ⟨rfl, hb, hkp⟩
        refine ⟨_, rfl, ?_⟩
        replace BK501 := Aside0.mk (blk_kept (bk_ BK501.out) hkp (fun hs_ => (fun e_ => (Kd.R_ne HO510.out BK501.out (by decide)) e_) hs_))
        replace BK502 := Aside0.mk (blk_kept (bk_ BK502.out) hkp (fun hs_ => (fun e_ => (Kd.R_ne HO510.out BK502.out (by decide)) e_) hs_))
        replace BK516 := Aside0.mk (blk_kept (bk_ BK516.out) hkp (fun hs_ => (fun e_ => (Kd.R_ne HO510.out BK516.out (by decide)) e_) hs_))
        replace HB := Aside0.mk (hb)
        clear HO510
        skip
        (try clear hkp)
        refine hK.out _ _ ⟨BK501.c 0, BK501.c 1⟩ (fun hHeld => ?_)
        clear hK K
        refine nm_ ?_
        refine pv_ (i := 6) (N := some 22) HT_.out ?_
        refine pv_ (i := 7) (N := some 29) HT_.out ?_
        refine pv_ (i := 8) (N := some 30) HT_.out ?_
        refine pv_ (i := 9) (N := some 31) HT_.out ?_
        exact norm_ (by simp only [putAll, Act.put, List.setIfInBounds_toArray, List.set_cons_zero, List.set_cons_succ]) (hCont (v506, .slice Ao29 y508.length co29, gb516) _ ⟨hHeld, (bk_ BK501.out), (bk_ BK502.out), (bk_ BK516.out), GW516.out, GE516.out, NB501_516.out, NB516_501.out, NB502_516.out, NB516_502.out, (hb3_ HB.out GE501.out GE502.out GE516.out)⟩)
      rintro ⟨v506, v509, gb516⟩ w31 ⟨hS_, h0_, h1_, h2_, h3_, h4_, h5_, h6_, h7_, h8_, h9_⟩
      have n0_ : Aside0 (w31.heap[gb501]? = some (.cells #[.int .i64 a0_0, .int .i64 a0_1] 28 (0, 0))) := ⟨h0_⟩
      have n1_ : Aside0 (w31.heap[gb502]? = some (.cells #[.int .i64 0, .int .i64 0, .int .i64 0] 36 (0, 0))) := ⟨h1_⟩
      have n2_ : Aside0 (w31.heap[gb516]? = some (.cells #[.int .i64 0, .int .i64 0, .int .i64 0] 36 (0, 0))) := ⟨h2_⟩
      have n3_ : Aside0 (w.heap.size ≤ gb516) := ⟨h3_⟩
      have n4_ : Aside0 (w.heap.size ≤ gb516) := ⟨h4_⟩
      have n5_ : Aside0 (gb501 ≠ gb516) := ⟨h5_⟩
      have n6_ : Aside0 (gb516 ≠ gb501) := ⟨h6_⟩
      have n7_ : Aside0 (gb502 ≠ gb516) := ⟨h7_⟩
      have n8_ : Aside0 (gb516 ≠ gb502) := ⟨h8_⟩
      have n9_ : Aside0 (Below w.heap.size w w31) := ⟨h9_⟩
      clear BK501
      clear BK502
      clear HB
      clear h0_ h1_ h2_ h3_ h4_ h5_ h6_ h7_ h8_ h9_
      have BK501 := n0_
      have BK502 := n1_
      have BK516 := n2_
      have GW516 := n3_
      have GE516 := n4_
      have NB501_516 := n5_
      have NB516_501 := n6_
      have NB502_516 := n7_
      have NB516_502 := n8_
      have HB := n9_
      clear n0_ n1_ n2_ n3_ n4_ n5_ n6_ n7_ n8_ n9_
      have hHeld : w31.cell? ⟨gb501, 0, none⟩ = some (.int .i64 a0_0) ∧ w31.cell? ⟨gb501, 1, none⟩ = some (.int .i64 a0_1) := hS_
      refine norm_ (a' := ?_) ?_ ?_
      rotate_left
      ·simp only [putAll, Act.put, List.setIfInBounds_toArray, List.set_cons_zero, List.set_cons_succ]
       rfl
      refine one_ (i := 11) (N := none) #[true, true, true, true, true, true, true, true, true, true, true, true, false, false] rfl rfl (one_of HT_.out (by kernel_rfl)) (by decide) (fun K hK => ?_)
      have hs32 : w31.cell? ⟨gb516, 0, none⟩ = some (.int .i64 0) := BK516.c 0
      have hfs32 := blk_frozen BK516.out 0
      have hns32_0 := NB501_516.out
      have hns32_1 := NB502_516.out
      have hms32_0 := NB516_501.out
      have hms32_1 := NB516_502.out
      have hs33 : w31.cell? ⟨gb516, 1, none⟩ = some (.int .i64 0) := BK516.c 1
      have hfs33 := blk_frozen BK516.out 1
      have hns33_0 := NB501_516.out
      have hns33_1 := NB502_516.out
      have hms33_0 := NB516_501.out
      have hms33_1 := NB516_502.out
      have hs34 : w31.cell? ⟨gb516, 2, none⟩ = some (.int .i64 0) := BK516.c 2
      have hfs34 := blk_frozen BK516.out 2
      have hns34_0 := NB501_516.out
      have hns34_1 := NB502_516.out
      have hms34_0 := NB516_501.out
      have hms34_1 := NB516_502.out
      refine skip_ (w1 := ?_) (by rfl) rfl ?_ ?_
      rotate_left
      ·go_simp
       rfl
      refine hK.out _ _ ⟨((cell_far (p := ⟨gb516, _, none⟩) NB501_516.out _).trans (((cell_far (p := ⟨gb516, _, none⟩) NB501_516.out _).trans (((cell_far (p := ⟨gb516, _, none⟩) NB501_516.out _).trans (hHeld.1)))))), ((cell_far (p := ⟨gb516, _, none⟩) NB501_516.out _).trans (((cell_far (p := ⟨gb516, _, none⟩) NB501_516.out _).trans (((cell_far (p := ⟨gb516, _, none⟩) NB501_516.out _).trans (hHeld.2))))))⟩ (fun hHeld => ?_)
      clear hK K
      refine pv_ (i := 12) (N := some 9) HT_.out ?_
      refine pv_ (i := 13) (N := some 10) HT_.out ?_
      refine done_ (done_of HT_.out (by kernel_rfl)) ?_
      have hnb35 := NB516_501.out
      have hnc35 := NB501_516.out
      have hnb36 := NB516_502.out
      have hnc36 := NB502_516.out
      obtain ⟨hcz37_0, hcz37_1, hcz37_2⟩ := cz3_ BK516.out
      obtain ⟨hfz37_0, hfz37_1, hfz37_2⟩ := fz3_ BK516.out
      have hnb38 := NB502_501.out
      have hnc38 := NB501_502.out
      obtain ⟨hcz39_0, hcz39_1, hcz39_2⟩ := cz3_ BK502.out
      obtain ⟨hfz39_0, hfz39_1, hfz39_2⟩ := fz3_ BK502.out
      try go_wp2
      refine bodyPost_ret (results_ct rfl _ _ gb502 36 #[.int .i64 t511, .int .i64 t512, .int .i64 t513] (0, 0) _ rfl (by (with_reducible repeat (first | refine blk_drewN ?_ _ | refine blk_drew ?_ | refine blk_alloc ?_ _)); refine blk_put (cs := #[.int .i64 t511, .int .i64 t512, .int .i64 0]) ?_ 2 _ rfl; (with_reducible repeat (first | refine blk_drewN ?_ _ | refine blk_drew ?_ | refine blk_alloc ?_ _)); refine blk_put (cs := #[.int .i64 t511, .int .i64 0, .int .i64 0]) ?_ 1 _ rfl; (with_reducible repeat (first | refine blk_drewN ?_ _ | refine blk_drew ?_ | refine blk_alloc ?_ _)); refine blk_put (cs := #[.int .i64 0, .int .i64 0, .int .i64 0]) ?_ 0 _ rfl; (with_reducible repeat (first | refine blk_drewN ?_ _ | refine blk_drew ?_ | refine blk_alloc ?_ _)); refine blk_far ?_ NB502_516.out _; (with_reducible repeat (first | refine blk_drewN ?_ _ | refine blk_drew ?_ | refine blk_alloc ?_ _)); refine blk_far ?_ NB502_516.out _; (with_reducible repeat (first | refine blk_drewN ?_ _ | refine blk_drew ?_ | refine blk_alloc ?_ _)); refine blk_far ?_ NB502_516.out _; (with_reducible repeat (first | refine blk_drewN ?_ _ | refine blk_drew ?_ | refine blk_alloc ?_ _)); exact BK502.out) Try.underlying36 rfl (by kernel_rfl)) rfl ?_
      exact ⟨ex_, hb3_ HB.out GE501.out GE502.out GE516.out⟩
     ·replace c23 := Bool.eq_false_iff.mpr c23
      subst c23
      have H1 : (some (0, 0, 0, false)) = some (r1, r2, r3, r4) := by rw [if_neg (show ¬ (false = true) by decide)] at H; exact H
      clear H
      have H := H1
      clear H1
      simp only [Option.some.injEq, Prod.mk.injEq] at H
      obtain ⟨rfl, rfl, rfl, rfl⟩ := H
      try go_wp2
      replace BK501 := Aside0.mk (blk_drew BK501.out)
      replace BK502 := Aside0.mk (blk_drew BK502.out)
      replace HB := Aside0.mk (below_drew1 HB.out)
      refine start_ (n := 14) (S := fun w' => w'.cell? ⟨gb501, 0, none⟩ = some (.int .i64 a0_0) ∧ w'.cell? ⟨gb501, 1, none⟩ = some (.int .i64 a0_1)) (ds := []) #[false, false, false, false, false, false, false, false, false, false, false, false, false, false] (by kernel_rfl) rfl rfl ⟨BK501.c 0, BK501.c 1⟩ (fun hHeld => ?_); refine with_tabW spec_PopMaze.tab3 spec_PopMaze.bits3 (fun HT_ HW_ => ?_)
      generalize wc.drew = w40 at BK501 BK502 HB hHeld ⊢
      refine pv_ (i := 1) (N := some 24) HT_.out ?_
      refine pv_ (i := 3) (N := some 26) HT_.out ?_
      refine tv2_ (i := 0) (N := some 23) HT_.out HW_.out hHeld ?_
      refine join_ (σ := Value × Value × Nat) 3 #[true, true, true, true, true, true, true, true, true, true, true, false, false, false] (fun s_ => [(25, s_.1), (27, s_.2.1), (28, .tuple #[.agg #[.int .i64 t511, .int .i64 t512, .int .i64 t513], .int .i64 t514, .bool false]), (8, .pointer (some ⟨s_.2.2, 0, none⟩)), (22, .tuple #[.agg #[.int .i64 t511, .int .i64 t512, .int .i64 t513], .int .i64 t514, .bool false]), (29, .agg #[.int .i64 t511, .int .i64 t512, .int .i64 t513]), (30, .int .i64 t514), (31, .bool false)]) (fun s_ w' => (w'.cell? ⟨gb501, 0, none⟩ = some (.int .i64 a0_0) ∧ w'.cell? ⟨gb501, 1, none⟩ = some (.int .i64 a0_1)) ∧ (w'.heap[gb501]? = some (.cells #[.int .i64 a0_0, .int .i64 a0_1] 28 (0, 0))) ∧ (w'.heap[gb502]? = some (.cells #[.int .i64 0, .int .i64 0, .int .i64 0] 36 (0, 0))) ∧ (w'.heap[s_.2.2]? = some (.cells #[.int .i64 0, .int .i64 0, .int .i64 0] 36 (0, 0))) ∧ (w.heap.size ≤ s_.2.2) ∧ (w.heap.size ≤ s_.2.2) ∧ (gb501 ≠ s_.2.2) ∧ (s_.2.2 ≠ gb501) ∧ (gb502 ≠ s_.2.2) ∧ (s_.2.2 ≠ gb502) ∧ (Below w.heap.size w w')) ?_ ?_
      rotate_left
      ·intro hCont
       refine two_ (i := 2) (j := 10) (Ni := some 25) (Nj := some 8) #[true, true, true, true, false, false, false, false, false, false, false, false, false, false] #[true, true, false, true, false, false, false, false, false, false, true, false, false, false] rfl rfl rfl rfl (two_of HT_.out (by kernel_rfl)) (by decide) (by decide) (fun K hK => ?_) (fun K hK => ?_)
       ·skip
        refine Kd.R_lit_step (Kd.int .i64) _ 3 ?hg (N := 25) ?hd (xs := ([] : List Int)) (inner := []) (ok := fun _ => True) (okp := fun _ => True) ?hr ?hp (fun _ hk => hk) trivial (Below.refl _ _) (Nat.le_refl _) (by simp) ?_; (case hd => rfl); (case hg => rfl); (case hr => first | (go_simp; done) | (go_simp; rfl)); (case hp => exact (Reps.none _ _))
        intro v506 w41 ho42 hb hg_ hnew_
        clear hg_ hnew_
        (first | rw [← Ny505.out] at ho42 | (simp only [Int.reduceToNat] at ho42; rw [← Ny505.out] at ho42))
        have HO507 := Aside0.mk (Kd.R_lower ho42 (below_size (hb2_ HB.out GE501.out GE502.out)))
        replace BK501 := BK501.bb hb
        replace BK502 := BK502.bb hb
        replace HB := HB.s2 GE501 GE502 hb
        clear hb ho42
        refine hK.out _ _ ⟨BK501.c 0, BK501.c 1⟩ (fun hHeld => ?_)
        clear hK K
        refine norm_ (a' := ?_) ?_ ?_
        rotate_left
        ·show Act.put _ (some 25) _ = _
         simp only [Act.put, List.setIfInBounds_toArray, List.set_cons_zero, List.set_cons_succ, i64_w, i32_w]
         rfl
        refine two_ (i := 4) (j := 10) (Ni := some 27) (Nj := some 8) #[true, true, true, true, true, false, false, false, false, false, false, false, false, false] #[true, true, true, true, false, false, false, false, false, false, true, false, false, false] rfl rfl rfl rfl (two_of HT_.out (by kernel_rfl)) (by decide) (by decide) (fun K hK => ?_) (fun K hK => ?_)
        ·skip
         refine Kd.R_append_rows_step (Kd.int .i64) (w0 := w) w.heap.size (by rfl) (.tmp 25) (.tmp 26) 25 3 (.int .i64 0) 8 rfl Try.underlying25 info3 rfl (by decide) (by omega) v506 y505 l2 _ _ _ (fun _ => True) (fun _ => False) rfl rfl ?aO ?aR (fun _ _ h => h) (fun _ h => h.elim) ?aF ?aB ?aS ?aL ?_
         (case aR => repeat (first | exact (Kd.C_below HR2.out HB.out) | (with_reducible refine Kd.C_alloc ?_ _) | (with_reducible refine Kd.C_drewN ?_ _) | (with_reducible refine Kd.C_drew ?_)))
         (case aB => exact (hb2_ HB.out GE501.out GE502.out))
         (case aF => exact (fun _ _ => trivial))
         (case aO => exact (kr_ HO507.out))
         (case aS => exact (below_size (hb2_ HB.out GE501.out GE502.out)))
         (case aL => have := LMc21.out; omega)
         intro v509 w43 ho hb hg hat
         rw [← Ny508.out] at ho
         replace BK501 := Aside0.mk (blk_grown (g := gb501) (o := .cells #[.int .i64 a0_0, .int .i64 a0_1] 28 (0, 0)) (bk_ BK501.out) hg (Kd.R_ne HO507.out BK501.out (by decide)))
         replace BK502 := Aside0.mk (blk_grown (g := gb502) (o := .cells #[.int .i64 0, .int .i64 0, .int .i64 0] 36 (0, 0)) (bk_ BK502.out) hg (Kd.R_ne HO507.out BK502.out (by decide)))
         replace HB := Aside0.mk (hb)
         have HO510 := Aside0.mk (ho)
         clear HO507
         clear ho hb hg hat
         obtain ⟨Ao44, co44, eo44⟩ := Kd.R_slice HO510.out
         (first | subst eo44 | (injection eo44 with f1_ f2_ f3_; have f4_ := f1_.symm; have f5_ := f3_.symm; clear f1_ f2_ f3_; subst f4_; subst f5_))
         refine hK.out _ _ ⟨BK501.c 0, BK501.c 1⟩ (fun hHeld => ?_)
         clear hK K
         refine norm_ (a' := ?_) ?_ ?_
         rotate_left
         ·show Act.put _ (some 27) _ = _
          simp only [Act.put, List.setIfInBounds_toArray, List.set_cons_zero, List.set_cons_succ, i64_w, i32_w]
          rfl
         refine two_ (i := 5) (j := 10) (Ni := some 28) (Nj := some 8) #[true, true, true, true, true, true, false, false, false, false, false, false, false, false] #[true, true, true, true, true, false, false, false, false, false, true, false, false, false] rfl rfl rfl rfl (two_of HT_.out (by kernel_rfl)) (by decide) (by decide) (fun K hK => ?_) (fun K hK => ?_)
         ·skip
          refine gq_ Try.func24 #[.agg #[.int .i64 a0_0, .int .i64 a0_1], .slice A1 l1.length c1, .slice Ao44 y508.length co44] ?_
          with_reducible refine (spec_l15Pop.calls kj3 a0_0 a0_1 _ _ l1 (fun k_ => some k_ = (.slice Ao44 y508.length co44 : Value).ownBlock) (.slice Ao44 y508.length co44) y508 t511 t512 t513 t514 false w _ ?side1 ?side2 ?side3 ?side4 A22.out).mono ?_
          (case side1 => repeat (first | (with_reducible first | exact HB.out | apply below_alloc | apply pw_below_drewN | apply below_drew1 | refine below_set ?_ GE501.out | refine below_set ?_ GE502.out) | exact HB.out))
          (case side2 => exact Kd.C_kept_came (Kd.heap_slice 3 (Kd.heap_int .i64)) HR1.out (hb2_ HB.out GE501.out GE502.out) (fun k_ hs_ => (fun e_ => Kd.R_base HO510.out k_ e_.symm) hs_))
          (case side3 => exact HC1.out)
          (case side4 => exact Kd.R_tight rfl HO510.out)
          rintro e w45 ⟨rfl, hb, hkp⟩
          refine ⟨_, rfl, ?_⟩
          replace BK501 := Aside0.mk (blk_kept (bk_ BK501.out) hkp (fun hs_ => (fun e_ => (Kd.R_ne HO510.out BK501.out (by decide)) e_) hs_))
          replace BK502 := Aside0.mk (blk_kept (bk_ BK502.out) hkp (fun hs_ => (fun e_ => (Kd.R_ne HO510.out BK502.out (by decide)) e_) hs_))
          replace HB := Aside0.mk (hb)
          clear HO510
          skip
          (try clear hkp)
          refine hK.out _ _ ⟨BK501.c 0, BK501.c 1⟩ (fun hHeld => ?_)
          clear hK K
          refine nm_ ?_
          refine pv_ (i := 6) (N := some 22) HT_.out ?_
          refine pv_ (i := 7) (N := some 29) HT_.out ?_
          refine pv_ (i := 8) (N := some 30) HT_.out ?_
          refine pv_ (i := 9) (N := some 31) HT_.out ?_
          refine ov_ (i := 10) (N := some 8) HT_.out (fun K hK => ?_)
          refine box_step ?hg (N := 8) ?hd (cs := #[.int .i64 0, .int .i64 0, .int .i64 0]) (t := 36) ?hr ?_; (case hd => rfl); (case hg => rfl); (case hr => first | (go_simp; done) | (go_simp; rfl))
          intro gb516 hg w46 hbox hb
          have n0_ := BK501.bb hb
          have n1_ := BK502.bb hb
          have n2_ := HB.s2 GE501 GE502 hb
          have n3_ := Aside0.mk (hbox)
          have n4_ := HB.g2 GE501 GE502 hg
          have n5_ := HB.g2 GE501 GE502 hg
          have n6_ := BK501.nl hg
          have n7_ := BK501.nr hg
          have n8_ := BK502.nl hg
          have n9_ := BK502.nr hg
          clear BK501
          clear BK502
          clear HB
          have BK501 := n0_
          have BK502 := n1_
          have HB := n2_
          have BK516 := n3_
          have GW516 := n4_
          have GE516 := n5_
          have NB501_516 := n6_
          have NB516_501 := n7_
          have NB502_516 := n8_
          have NB516_502 := n9_
          clear n0_ n1_ n2_ n3_ n4_ n5_ n6_ n7_ n8_ n9_
          clear hb hbox hg
          refine hK.out _ _ ⟨BK501.c 0, BK501.c 1⟩ (fun hHeld => ?_)
          clear hK K
          refine norm_ (a' := ?_) ?_ ?_
          rotate_left
          ·show Act.put _ (some 8) _ = _
           simp only [Act.put, List.setIfInBounds_toArray, List.set_cons_zero, List.set_cons_succ, i64_w, i32_w]
           rfl
          exact norm_ (by simp only [putAll, Act.put, List.setIfInBounds_toArray, List.set_cons_zero, List.set_cons_succ]) (hCont (v506, .slice Ao44 y508.length co44, gb516) _ ⟨hHeld, (bk_ BK501.out), (bk_ BK502.out), (bk_ BK516.out), GW516.out, GE516.out, NB501_516.out, NB516_501.out, NB502_516.out, NB516_502.out, (hb3_ HB.out GE501.out GE502.out GE516.out)⟩)
         ·skip
          refine box_step ?hg (N := 8) ?hd (cs := #[.int .i64 0, .int .i64 0, .int .i64 0]) (t := 36) ?hr ?_; (case hd => rfl); (case hg => rfl); (case hr => first | (go_simp; done) | (go_simp; rfl))
          intro gb516 hg w44 hbox hb
          have n0_ := HO510.kb hb
          have n1_ := BK501.bb hb
          have n2_ := BK502.bb hb
          have n3_ := HB.s2 GE501 GE502 hb
          have n4_ := Aside0.mk (hbox)
          have n5_ := HB.g2 GE501 GE502 hg
          have n6_ := HB.g2 GE501 GE502 hg
          have n7_ := BK501.nl hg
          have n8_ := BK501.nr hg
          have n9_ := BK502.nl hg
          have n10_ := BK502.nr hg
          clear HO510
          clear BK501
          clear BK502
          clear HB
          have HO510 := n0_
          have BK501 := n1_
          have BK502 := n2_
          have HB := n3_
          have BK516 := n4_
          have GW516 := n5_
          have GE516 := n6_
          have NB501_516 := n7_
          have NB516_501 := n8_
          have NB502_516 := n9_
          have NB516_502 := n10_
          clear n0_ n1_ n2_ n3_ n4_ n5_ n6_ n7_ n8_ n9_ n10_
          clear hb hbox hg
          obtain ⟨Ao45, co45, eo45⟩ := Kd.R_slice HO510.out
          (first | subst eo45 | (injection eo45 with f1_ f2_ f3_; have f4_ := f1_.symm; have f5_ := f3_.symm; clear f1_ f2_ f3_; subst f4_; subst f5_))
          refine hK.out _ _ ⟨BK501.c 0, BK501.c 1⟩ (fun hHeld => ?_)
          clear hK K
          refine norm_ (a' := ?_) ?_ ?_
          rotate_left
          ·show Act.put _ (some 8) _ = _
           simp only [Act.put, List.setIfInBounds_toArray, List.set_cons_zero, List.set_cons_succ, i64_w, i32_w]
           rfl
          refine ov_ (i := 5) (N := some 28) HT_.out (fun K hK => ?_)
          refine gq_ Try.func24 #[.agg #[.int .i64 a0_0, .int .i64 a0_1], .slice A1 l1.length c1, .slice Ao45 y508.length co45] ?_
          with_reducible refine (spec_l15Pop.calls kj3 a0_0 a0_1 _ _ l1 (fun k_ => some k_ = (.slice Ao45 y508.length co45 : Value).ownBlock) (.slice Ao45 y508.length co45) y508 t511 t512 t513 t514 false w _ ?side1 ?side2 ?side3 ?side4 A22.out).mono ?_
          (case side1 => repeat (first | (with_reducible first | exact HB.out | apply below_alloc | apply pw_below_drewN | apply below_drew1 | refine below_set ?_ GE501.out | refine below_set ?_ GE502.out | refine below_set ?_ GE516.out) | exact HB.out))
          (case side2 => exact Kd.C_kept_came (Kd.heap_slice 3 (Kd.heap_int .i64)) HR1.out (hb3_ HB.out GE501.out GE502.out GE516.out) (fun k_ hs_ => (fun e_ => Kd.R_base HO510.out k_ e_.symm) hs_))
          (case side3 => exact HC1.out)
          (case side4 => exact Kd.R_tight rfl HO510.out)
          rintro e w46 ⟨rfl, hb, hkp⟩
          refine ⟨_, rfl, ?_⟩
          replace BK501 := Aside0.mk (blk_kept (bk_ BK501.out) hkp (fun hs_ => (fun e_ => (Kd.R_ne HO510.out BK501.out (by decide)) e_) hs_))
          replace BK502 := Aside0.mk (blk_kept (bk_ BK502.out) hkp (fun hs_ => (fun e_ => (Kd.R_ne HO510.out BK502.out (by decide)) e_) hs_))
          replace BK516 := Aside0.mk (blk_kept (bk_ BK516.out) hkp (fun hs_ => (fun e_ => (Kd.R_ne HO510.out BK516.out (by decide)) e_) hs_))
          replace HB := Aside0.mk (hb)
          clear HO510
          skip
          (try clear hkp)
          refine hK.out _ _ ⟨BK501.c 0, BK501.c 1⟩ (fun hHeld => ?_)
          clear hK K
          refine nm_ ?_
          refine pv_ (i := 6) (N := some 22) HT_.out ?_
          refine pv_ (i := 7) (N := some 29) HT_.out ?_
          refine pv_ (i := 8) (N := some 30) HT_.out ?_
          refine pv_ (i := 9) (N := some 31) HT_.out ?_
          exact norm_ (by simp only [putAll, Act.put, List.setIfInBounds_toArray, List.set_cons_zero, List.set_cons_succ]) (hCont (v506, .slice Ao45 y508.length co45, gb516) _ ⟨hHeld, (bk_ BK501.out), (bk_ BK502.out), (bk_ BK516.out), GW516.out, GE516.out, NB501_516.out, NB516_501.out, NB502_516.out, NB516_502.out, (hb3_ HB.out GE501.out GE502.out GE516.out)⟩)
        ·skip
         refine box_step ?hg (N := 8) ?hd (cs := #[.int .i64 0, .int .i64 0, .int .i64 0]) (t := 36) ?hr ?_; (case hd => rfl); (case hg => rfl); (case hr => first | (go_simp; done) | (go_simp; rfl))
         intro gb516 hg w43 hbox hb
         have n0_ := HO507.kb hb
         have n1_ := BK501.bb hb
         have n2_ := BK502.bb hb
         have n3_ := HB.s2 GE501 GE502 hb
         have n4_ := Aside0.mk (hbox)
         have n5_ := HB.g2 GE501 GE502 hg
         have n6_ := HB.g2 GE501 GE502 hg
         have n7_ := BK501.nl hg
         have n8_ := BK501.nr hg
         have n9_ := BK502.nl hg
         have n10_ := BK502.nr hg
         clear HO507
         clear BK501
         clear BK502
         clear HB
         have HO507 := n0_
         have BK501 := n1_
         have BK502 := n2_
         have HB := n3_
         have BK516 := n4_
         have GW516 := n5_
         have GE516 := n6_
         have NB501_516 := n7_
         have NB516_501 := n8_
         have NB502_516 := n9_
         have NB516_502 := n10_
         clear n0_ n1_ n2_ n3_ n4_ n5_ n6_ n7_ n8_ n9_ n10_
         clear hb hbox hg
         refine hK.out _ _ ⟨BK501.c 0, BK501.c 1⟩ (fun hHeld => ?_)
         clear hK K
         refine norm_ (a' := ?_) ?_ ?_
         rotate_left
         ·show Act.put _ (some 8) _ = _
          simp only [Act.put, List.setIfInBounds_toArray, List.set_cons_zero, List.set_cons_succ, i64_w, i32_w]
          rfl
         refine ov_ (i := 4) (N := some 27) HT_.out (fun K hK => ?_)
         refine Kd.R_append_rows_step (Kd.int .i64) (w0 := w) w.heap.size (by rfl) (.tmp 25) (.tmp 26) 25 3 (.int .i64 0) 8 rfl Try.underlying25 info3 rfl (by decide) (by omega) v506 y505 l2 _ _ _ (fun _ => True) (fun _ => False) rfl rfl ?aO ?aR (fun _ _ h => h) (fun _ h => h.elim) ?aF ?aB ?aS ?aL ?_
         (case aR => repeat (first | exact (Kd.C_below HR2.out HB.out) | (with_reducible refine Kd.C_alloc ?_ _) | (with_reducible refine Kd.C_drewN ?_ _) | (with_reducible refine Kd.C_drew ?_)))
         (case aB => exact (hb3_ HB.out GE501.out GE502.out GE516.out))
         (case aF => exact (fun _ _ => trivial))
         (case aO => exact (kr_ HO507.out))
         (case aS => exact (below_size (hb3_ HB.out GE501.out GE502.out GE516.out)))
         (case aL => have := LMc21.out; omega)
         intro v509 w44 ho hb hg hat
         rw [← Ny508.out] at ho
         replace BK501 := Aside0.mk (blk_grown (g := gb501) (o := .cells #[.int .i64 a0_0, .int .i64 a0_1] 28 (0, 0)) (bk_ BK501.out) hg (Kd.R_ne HO507.out BK501.out (by decide)))
         replace BK502 := Aside0.mk (blk_grown (g := gb502) (o := .cells #[.int .i64 0, .int .i64 0, .int .i64 0] 36 (0, 0)) (bk_ BK502.out) hg (Kd.R_ne HO507.out BK502.out (by decide)))
         replace BK516 := Aside0.mk (blk_grown (g := gb516) (o := .cells #[.int .i64 0, .int .i64 0, .int .i64 0] 36 (0, 0)) (bk_ BK516.out) hg (Kd.R_ne HO507.out BK516.out (by decide)))
         replace HB := Aside0.mk (hb)
         have HO510 := Aside0.mk (ho)
         clear HO507
         clear ho hb hg hat
         obtain ⟨Ao45, co45, eo45⟩ := Kd.R_slice HO510.out
         (first | subst eo45 | (injection eo45 with f1_ f2_ f3_; have f4_ := f1_.symm; have f5_ := f3_.symm; clear f1_ f2_ f3_; subst f4_; subst f5_))
         refine hK.out _ _ ⟨BK501.c 0, BK501.c 1⟩ (fun hHeld => ?_)
         clear hK K
         refine norm_ (a' := ?_) ?_ ?_
         rotate_left
         ·show Act.put _ (some 27) _ = _
          simp only [Act.put, List.setIfInBounds_toArray, List.set_cons_zero, List.set_cons_succ, i64_w, i32_w]
          rfl
         refine ov_ (i := 5) (N := some 28) HT_.out (fun K hK => ?_)
         refine gq_ Try.func24 #[.agg #[.int .i64 a0_0, .int .i64 a0_1], .slice A1 l1.length c1, .slice Ao45 y508.length co45] ?_
         with_reducible refine (spec_l15Pop.calls kj3 a0_0 a0_1 _ _ l1 (fun k_ => some k_ = (.slice Ao45 y508.length co45 : Value).ownBlock) (.slice Ao45 y508.length co45) y508 t511 t512 t513 t514 false w _ ?side1 ?side2 ?side3 ?side4 A22.out).mono ?_
         (case side1 => repeat (first | (with_reducible first | exact HB.out | apply below_alloc | apply pw_below_drewN | apply below_drew1 | refine below_set ?_ GE501.out | refine below_set ?_ GE502.out | refine below_set ?_ GE516.out) | exact HB.out))
         (case side2 => exact Kd.C_kept_came (Kd.heap_slice 3 (Kd.heap_int .i64)) HR1.out (hb3_ HB.out GE501.out GE502.out GE516.out) (fun k_ hs_ => (fun e_ => Kd.R_base HO510.out k_ e_.symm) hs_))
         (case side3 => exact HC1.out)
         (case side4 => exact Kd.R_tight rfl HO510.out)
         rintro e w46 ⟨rfl, hb, hkp⟩
         refine ⟨_, rfl, ?_⟩
         replace BK501 := Aside0.mk (blk_kept (bk_ BK501.out) hkp (fun hs_ => (fun e_ => (Kd.R_ne HO510.out BK501.out (by decide)) e_) hs_))
         replace BK502 := Aside0.mk (blk_kept (bk_ BK502.out) hkp (fun hs_ => (fun e_ => (Kd.R_ne HO510.out BK502.out (by decide)) e_) hs_))
         replace BK516 := Aside0.mk (blk_kept (bk_ BK516.out) hkp (fun hs_ => (fun e_ => (Kd.R_ne HO510.out BK516.out (by decide)) e_) hs_))
         replace HB := Aside0.mk (hb)
         clear HO510
         skip
         (try clear hkp)
         refine hK.out _ _ ⟨BK501.c 0, BK501.c 1⟩ (fun hHeld => ?_)
         clear hK K
         refine nm_ ?_
         refine pv_ (i := 6) (N := some 22) HT_.out ?_
         refine pv_ (i := 7) (N := some 29) HT_.out ?_
         refine pv_ (i := 8) (N := some 30) HT_.out ?_
         refine pv_ (i := 9) (N := some 31) HT_.out ?_
         exact norm_ (by simp only [putAll, Act.put, List.setIfInBounds_toArray, List.set_cons_zero, List.set_cons_succ]) (hCont (v506, .slice Ao45 y508.length co45, gb516) _ ⟨hHeld, (bk_ BK501.out), (bk_ BK502.out), (bk_ BK516.out), GW516.out, GE516.out, NB501_516.out, NB516_501.out, NB502_516.out, NB516_502.out, (hb3_ HB.out GE501.out GE502.out GE516.out)⟩)
       ·skip
        refine box_step ?hg (N := 8) ?hd (cs := #[.int .i64 0, .int .i64 0, .int .i64 0]) (t := 36) ?hr ?_; (case hd => rfl); (case hg => rfl); (case hr => first | (go_simp; done) | (go_simp; rfl))
        intro gb516 hg w41 hbox hb
        have n0_ := BK501.bb hb
        have n1_ := BK502.bb hb
        have n2_ := HB.s2 GE501 GE502 hb
        have n3_ := Aside0.mk (hbox)
        have n4_ := HB.g2 GE501 GE502 hg
        have n5_ := HB.g2 GE501 GE502 hg
        have n6_ := BK501.nl hg
        have n7_ := BK501.nr hg
        have n8_ := BK502.nl hg
        have n9_ := BK502.nr hg
        clear BK501
        clear BK502
        clear HB
        have BK501 := n0_
        have BK502 := n1_
        have HB := n2_
        have BK516 := n3_
        have GW516 := n4_
        have GE516 := n5_
        have NB501_516 := n6_
        have NB516_501 := n7_
        have NB502_516 := n8_
        have NB516_502 := n9_
        clear n0_ n1_ n2_ n3_ n4_ n5_ n6_ n7_ n8_ n9_
        clear hb hbox hg
        refine hK.out _ _ ⟨BK501.c 0, BK501.c 1⟩ (fun hHeld => ?_)
        clear hK K
        refine norm_ (a' := ?_) ?_ ?_
        rotate_left
        ·show Act.put _ (some 8) _ = _
         simp only [Act.put, List.setIfInBounds_toArray, List.set_cons_zero, List.set_cons_succ, i64_w, i32_w]
         rfl
        refine ov_ (i := 2) (N := some 25) HT_.out (fun K hK => ?_)
        refine Kd.R_lit_step (Kd.int .i64) _ 3 ?hg (N := 25) ?hd (xs := ([] : List Int)) (inner := []) (ok := fun _ => True) (okp := fun _ => True) ?hr ?hp (fun _ hk => hk) trivial (Below.refl _ _) (Nat.le_refl _) (by simp) ?_; (case hd => rfl); (case hg => rfl); (case hr => first | (go_simp; done) | (go_simp; rfl)); (case hp => exact (Reps.none _ _))
        intro v506 w42 ho43 hb hg_ hnew_
        clear hg_ hnew_
        (first | rw [← Ny505.out] at ho43 | (simp only [Int.reduceToNat] at ho43; rw [← Ny505.out] at ho43))
        have HO507 := Aside0.mk (Kd.R_lower ho43 (below_size (hb3_ HB.out GE501.out GE502.out GE516.out)))
        replace BK501 := BK501.bb hb
        replace BK502 := BK502.bb hb
        replace BK516 := BK516.bb hb
        replace HB := HB.s3 GE501 GE502 GE516 hb
        clear hb ho43
        refine hK.out _ _ ⟨BK501.c 0, BK501.c 1⟩ (fun hHeld => ?_)
        clear hK K
        refine norm_ (a' := ?_) ?_ ?_
        rotate_left
        ·show Act.put _ (some 25) _ = _
         simp only [Act.put, List.setIfInBounds_toArray, List.set_cons_zero, List.set_cons_succ, i64_w, i32_w]
         rfl
        refine ov_ (i := 4) (N := some 27) HT_.out (fun K hK => ?_)
        refine Kd.R_append_rows_step (Kd.int .i64) (w0 := w) w.heap.size (by rfl) (.tmp 25) (.tmp 26) 25 3 (.int .i64 0) 8 rfl Try.underlying25 info3 rfl (by decide) (by omega) v506 y505 l2 _ _ _ (fun _ => True) (fun _ => False) rfl rfl ?aO ?aR (fun _ _ h => h) (fun _ h => h.elim) ?aF ?aB ?aS ?aL ?_
        (case aR => repeat (first | exact (Kd.C_below HR2.out HB.out) | (with_reducible refine Kd.C_alloc ?_ _) | (with_reducible refine Kd.C_drewN ?_ _) | (with_reducible refine Kd.C_drew ?_)))
        (case aB => exact (hb3_ HB.out GE501.out GE502.out GE516.out))
        (case aF => exact (fun _ _ => trivial))
        (case aO => exact (kr_ HO507.out))
        (case aS => exact (below_size (hb3_ HB.out GE501.out GE502.out GE516.out)))
        (case aL => have := LMc21.out; omega)
        intro v509 w44 ho hb hg hat
        rw [← Ny508.out] at ho
        replace BK501 := Aside0.mk (blk_grown (g := gb501) (o := .cells #[.int .i64 a0_0, .int .i64 a0_1] 28 (0, 0)) (bk_ BK501.out) hg (Kd.R_ne HO507.out BK501.out (by decide)))
        replace BK502 := Aside0.mk (blk_grown (g := gb502) (o := .cells #[.int .i64 0, .int .i64 0, .int .i64 0] 36 (0, 0)) (bk_ BK502.out) hg (Kd.R_ne HO507.out BK502.out (by decide)))
        replace BK516 := Aside0.mk (blk_grown (g := gb516) (o := .cells #[.int .i64 0, .int .i64 0, .int .i64 0] 36 (0, 0)) (bk_ BK516.out) hg (Kd.R_ne HO507.out BK516.out (by decide)))
        replace HB := Aside0.mk (hb)
        have HO510 := Aside0.mk (ho)
        clear HO507
        clear ho hb hg hat
        obtain ⟨Ao45, co45, eo45⟩ := Kd.R_slice HO510.out
        (first | subst eo45 | (injection eo45 with f1_ f2_ f3_; have f4_ := f1_.symm; have f5_ := f3_.symm; clear f1_ f2_ f3_; subst f4_; subst f5_))
        refine hK.out _ _ ⟨BK501.c 0, BK501.c 1⟩ (fun hHeld => ?_)
        clear hK K
        refine norm_ (a' := ?_) ?_ ?_
        rotate_left
        ·show Act.put _ (some 27) _ = _
         simp only [Act.put, List.setIfInBounds_toArray, List.set_cons_zero, List.set_cons_succ, i64_w, i32_w]
         rfl
        refine ov_ (i := 5) (N := some 28) HT_.out (fun K hK => ?_)
        refine gq_ Try.func24 #[.agg #[.int .i64 a0_0, .int .i64 a0_1], .slice A1 l1.length c1, .slice Ao45 y508.length co45] ?_
        with_reducible refine (spec_l15Pop.calls kj3 a0_0 a0_1 _ _ l1 (fun k_ => some k_ = (.slice Ao45 y508.length co45 : Value).ownBlock) (.slice Ao45 y508.length co45) y508 t511 t512 t513 t514 false w _ ?side1 ?side2 ?side3 ?side4 A22.out).mono ?_
        (case side1 => repeat (first | (with_reducible first | exact HB.out | apply below_alloc | apply pw_below_drewN | apply below_drew1 | refine below_set ?_ GE501.out | refine below_set ?_ GE502.out | refine below_set ?_ GE516.out) | exact HB.out))
        (case side2 => exact Kd.C_kept_came (Kd.heap_slice 3 (Kd.heap_int .i64)) HR1.out (hb3_ HB.out GE501.out GE502.out GE516.out) (fun k_ hs_ => (fun e_ => Kd.R_base HO510.out k_ e_.symm) hs_))
        (case side3 => exact HC1.out)
        (case side4 => exact Kd.R_tight rfl HO510.out)
        rintro e w46 ⟨rfl, hb, hkp⟩
        refine ⟨_, rfl, ?_⟩
        replace BK501 := Aside0.mk (blk_kept (bk_ BK501.out) hkp (fun hs_ => (fun e_ => (Kd.R_ne HO510.out BK501.out (by decide)) e_) hs_))
        replace BK502 := Aside0.mk (blk_kept (bk_ BK502.out) hkp (fun hs_ => (fun e_ => (Kd.R_ne HO510.out BK502.out (by decide)) e_) hs_))
        replace BK516 := Aside0.mk (blk_kept (bk_ BK516.out) hkp (fun hs_ => (fun e_ => (Kd.R_ne HO510.out BK516.out (by decide)) e_) hs_))
        replace HB := Aside0.mk (hb)
        clear HO510
        skip
        (try clear hkp)
        refine hK.out _ _ ⟨BK501.c 0, BK501.c 1⟩ (fun hHeld => ?_)
        clear hK K
        refine nm_ ?_
        refine pv_ (i := 6) (N := some 22) HT_.out ?_
        refine pv_ (i := 7) (N := some 29) HT_.out ?_
        refine pv_ (i := 8) (N := some 30) HT_.out ?_
        refine pv_ (i := 9) (N := some 31) HT_.out ?_
        exact norm_ (by simp only [putAll, Act.put, List.setIfInBounds_toArray, List.set_cons_zero, List.set_cons_succ]) (hCont (v506, .slice Ao45 y508.length co45, gb516) _ ⟨hHeld, (bk_ BK501.out), (bk_ BK502.out), (bk_ BK516.out), GW516.out, GE516.out, NB501_516.out, NB516_501.out, NB502_516.out, NB516_502.out, (hb3_ HB.out GE501.out GE502.out GE516.out)⟩)
      rintro ⟨v506, v509, gb516⟩ w47 ⟨hS_, h0_, h1_, h2_, h3_, h4_, h5_, h6_, h7_, h8_, h9_⟩
      have n0_ : Aside0 (w47.heap[gb501]? = some (.cells #[.int .i64 a0_0, .int .i64 a0_1] 28 (0, 0))) := ⟨h0_⟩
      have n1_ : Aside0 (w47.heap[gb502]? = some (.cells #[.int .i64 0, .int .i64 0, .int .i64 0] 36 (0, 0))) := ⟨h1_⟩
      have n2_ : Aside0 (w47.heap[gb516]? = some (.cells #[.int .i64 0, .int .i64 0, .int .i64 0] 36 (0, 0))) := ⟨h2_⟩
      have n3_ : Aside0 (w.heap.size ≤ gb516) := ⟨h3_⟩
      have n4_ : Aside0 (w.heap.size ≤ gb516) := ⟨h4_⟩
      have n5_ : Aside0 (gb501 ≠ gb516) := ⟨h5_⟩
      have n6_ : Aside0 (gb516 ≠ gb501) := ⟨h6_⟩
      have n7_ : Aside0 (gb502 ≠ gb516) := ⟨h7_⟩
      have n8_ : Aside0 (gb516 ≠ gb502) := ⟨h8_⟩
      have n9_ : Aside0 (Below w.heap.size w w47) := ⟨h9_⟩
      clear BK501
      clear BK502
      clear HB
      clear h0_ h1_ h2_ h3_ h4_ h5_ h6_ h7_ h8_ h9_
      have BK501 := n0_
      have BK502 := n1_
      have BK516 := n2_
      have GW516 := n3_
      have GE516 := n4_
      have NB501_516 := n5_
      have NB516_501 := n6_
      have NB502_516 := n7_
      have NB516_502 := n8_
      have HB := n9_
      clear n0_ n1_ n2_ n3_ n4_ n5_ n6_ n7_ n8_ n9_
      have hHeld : w47.cell? ⟨gb501, 0, none⟩ = some (.int .i64 a0_0) ∧ w47.cell? ⟨gb501, 1, none⟩ = some (.int .i64 a0_1) := hS_
      refine norm_ (a' := ?_) ?_ ?_
      rotate_left
      ·simp only [putAll, Act.put, List.setIfInBounds_toArray, List.set_cons_zero, List.set_cons_succ]
       rfl
      refine one_ (i := 11) (N := none) #[true, true, true, true, true, true, true, true, true, true, true, true, false, false] rfl rfl (one_of HT_.out (by kernel_rfl)) (by decide) (fun K hK => ?_)
      have hs48 : w47.cell? ⟨gb516, 0, none⟩ = some (.int .i64 0) := BK516.c 0
      have hfs48 := blk_frozen BK516.out 0
      have hns48_0 := NB501_516.out
      have hns48_1 := NB502_516.out
      have hms48_0 := NB516_501.out
      have hms48_1 := NB516_502.out
      have hs49 : w47.cell? ⟨gb516, 1, none⟩ = some (.int .i64 0) := BK516.c 1
      have hfs49 := blk_frozen BK516.out 1
      have hns49_0 := NB501_516.out
      have hns49_1 := NB502_516.out
      have hms49_0 := NB516_501.out
      have hms49_1 := NB516_502.out
      have hs50 : w47.cell? ⟨gb516, 2, none⟩ = some (.int .i64 0) := BK516.c 2
      have hfs50 := blk_frozen BK516.out 2
      have hns50_0 := NB501_516.out
      have hns50_1 := NB502_516.out
      have hms50_0 := NB516_501.out
      have hms50_1 := NB516_502.out
      refine skip_ (w1 := ?_) (by rfl) rfl ?_ ?_
      rotate_left
      ·go_simp
       rfl
      refine hK.out _ _ ⟨((cell_far (p := ⟨gb516, _, none⟩) NB501_516.out _).trans (((cell_far (p := ⟨gb516, _, none⟩) NB501_516.out _).trans (((cell_far (p := ⟨gb516, _, none⟩) NB501_516.out _).trans (hHeld.1)))))), ((cell_far (p := ⟨gb516, _, none⟩) NB501_516.out _).trans (((cell_far (p := ⟨gb516, _, none⟩) NB501_516.out _).trans (((cell_far (p := ⟨gb516, _, none⟩) NB501_516.out _).trans (hHeld.2))))))⟩ (fun hHeld => ?_)
      clear hK K
      refine pv_ (i := 12) (N := some 9) HT_.out ?_
      refine pv_ (i := 13) (N := some 10) HT_.out ?_
      refine done_ (done_of HT_.out (by kernel_rfl)) ?_
      have hnb51 := NB502_501.out
      have hnc51 := NB501_502.out
      have hnb52 := NB502_516.out
      have hnc52 := NB516_502.out
      obtain ⟨hcz53_0, hcz53_1, hcz53_2⟩ := cz3_ BK502.out
      obtain ⟨hfz53_0, hfz53_1, hfz53_2⟩ := fz3_ BK502.out
      try go_wp2
      refine bodyPost_ret (results_ct rfl _ _ gb502 36 #[.int .i64 0, .int .i64 0, .int .i64 0] (0, 0) _ rfl (by (with_reducible repeat (first | refine blk_drewN ?_ _ | refine blk_drew ?_ | refine blk_alloc ?_ _)); refine blk_put (cs := #[.int .i64 0, .int .i64 0, .int .i64 0]) ?_ 2 _ rfl; (with_reducible repeat (first | refine blk_drewN ?_ _ | refine blk_drew ?_ | refine blk_alloc ?_ _)); refine blk_put (cs := #[.int .i64 0, .int .i64 0, .int .i64 0]) ?_ 1 _ rfl; (with_reducible repeat (first | refine blk_drewN ?_ _ | refine blk_drew ?_ | refine blk_alloc ?_ _)); refine blk_put (cs := #[.int .i64 0, .int .i64 0, .int .i64 0]) ?_ 0 _ rfl; (with_reducible repeat (first | refine blk_drewN ?_ _ | refine blk_drew ?_ | refine blk_alloc ?_ _)); refine blk_far ?_ NB502_516.out _; (with_reducible repeat (first | refine blk_drewN ?_ _ | refine blk_drew ?_ | refine blk_alloc ?_ _)); refine blk_far ?_ NB502_516.out _; (with_reducible repeat (first | refine blk_drewN ?_ _ | refine blk_drew ?_ | refine blk_alloc ?_ _)); refine blk_far ?_ NB502_516.out _; (with_reducible repeat (first | refine blk_drewN ?_ _ | refine blk_drew ?_ | refine blk_alloc ?_ _)); exact BK502.out) Try.underlying36 rfl (by kernel_rfl)) rfl ?_
      exact ⟨ex_, hb3_ HB.out GE501.out GE502.out GE516.out⟩
    ·rw [if_neg c21] at H
     exact absurd H (by simp)

end Go.Proofs.Ytnipocpbpcaepaa.X
