-- Written by a program of this session (xprint.py), out of the translation and of hand-written contracts. Lean checks it.
import Derived.Test.YtgnnkjgfkdaddaaDoorX0
import Derived.Test.YtgnnkjgfkdaddaaDoorXcgrid
import Derived.Test.YtgnnkjgfkdaddaaDoorXcints
import Derived.Test.YtgnnkjgfkdaddaaDoorXcstep
import Derived.Test.YtgnnkjgfkdaddaaDoorXspecCrowdOk
import Derived.Test.YtgnnkjgfkdaddaaDoorXspecl28Copy
namespace Go.Proofs.YtgnnkjgfkdaddaaDoor.X
open Go.RowKit Go.Proofs.YtgnnkjgfkdaddaaDoorW.PrintWords Go.Proofs.YtgnnkjgfkdaddaaDoorW.PrintLast Go.Proofs.YtgnnkjgfkdaddaaDoorW.PrintMore
attribute [local go_sem] max2_int min2_int max_two min_two max_three min_three max_four min_four   -- for this text's walks alone
set_option linter.unusedVariables false
set_option linter.unusedSimpArgs false

/-! ### spec_MoveOne: function 20 -/
def spec_MoveOne.j0 : Nat → List Int → Int → Int → List Int → Bool → Int → Int → Int → Option (List Int × Bool)
 | 0, _, _, _, _, _, _, _, _ => none
 | k + 1, x1, x2, x3, x10, x25, x502000, x502001, x502002 => if x25 = true then (some (x10, false)) else (if 0 ≤ x2 then (if x2 < (x1.length : Int) then ((spec_Step.f k x502000 x502001 x502002 (rd x1 x2) x3).bind fun t508 => (if t508 < 0 then (some (x10, false)) else ((spec_l07In.f k x1 t508).bind fun t509 => (if t509 = true then (some (x10, false)) else (if x2 < (x10.length : Int) then (some ((x10.set (x2 : Int).toNat t508), true)) else (none)))))) else (none)) else (none))
def spec_MoveOne.f (k : Nat) (a0_0 : Int) (a0_1 : Int) (a0_2 : Int) (l1 : List Int) (a2 : Int) (a3 : Int) : Option (List Int × Bool) := (spec_l28Copy.f l1).bind fun t502 => ((spec_CrowdOk.f k a0_0 a0_1 a0_2 l1).bind fun t505 => (if t505 = true then ((spec_l01In.f a2 0 (wrap64 ((l1.length : Int) - 1))).bind fun t506 => (spec_MoveOne.j0 k l1 a2 a3 t502 (!t506) a0_0 a0_1 a0_2)) else (spec_MoveOne.j0 k l1 a2 a3 t502 true a0_0 a0_1 a0_2)))
theorem spec_MoveOne.mono_l : ∀ k, (∀ y0 y1 y2 y3 y4 y5 y6 y7, LeO (spec_MoveOne.j0 k y0 y1 y2 y3 y4 y5 y6 y7) (spec_MoveOne.j0 (k + 1) y0 y1 y2 y3 y4 y5 y6 y7))
 | 0 => fun _ _ _ _ _ _ _ _ r h => by simp [spec_MoveOne.j0] at h
 | k + 1 => by
  have ih0 := spec_MoveOne.mono_l k
  ·intro y0 y1 y2 y3 y4 y5 y6 y7
   unfold spec_MoveOne.j0
   repeat' first
   | (with_reducible exact ih0 ..)
   | (with_reducible exact spec_CrowdOk.mono ..)
   | (with_reducible exact spec_Step.mono ..)
   | (with_reducible exact spec_l07In.mono ..)
   | (with_reducible first | exact lr_ _ | exact ln_ _ | refine li_ ?_ ?_ | refine lb_ ?_ fun _ => ?_)
   | exact ih0 ..
   | exact spec_CrowdOk.mono ..
   | exact spec_Step.mono ..
   | exact spec_l07In.mono ..
   | exact ln_ _ | refine li_ ?_ ?_ | refine lb_ ?_ fun _ => ?_
theorem spec_MoveOne.mono : ∀ a0 a1 a2 a3 a4 a5 k, LeO (spec_MoveOne.f k a0 a1 a2 a3 a4 a5) (spec_MoveOne.f (k + 1) a0 a1 a2 a3 a4 a5) := by
 intro a0 a1 a2 a3 a4 a5 k
 have ih0 := spec_MoveOne.mono_l k
 unfold spec_MoveOne.f
 repeat' first
   | (with_reducible exact ih0 ..)
   | (with_reducible exact spec_CrowdOk.mono ..)
   | (with_reducible exact spec_Step.mono ..)
   | (with_reducible exact spec_l07In.mono ..)
   | (with_reducible first | exact lr_ _ | exact ln_ _ | refine li_ ?_ ?_ | refine lb_ ?_ fun _ => ?_)
   | exact ih0 ..
   | exact spec_CrowdOk.mono ..
   | exact spec_Step.mono ..
   | exact spec_l07In.mono ..
   | exact ln_ _ | refine li_ ?_ ?_ | refine lb_ ?_ fun _ => ?_
def spec_MoveOne.T4 : Bool × List (List Nat × List Nat) := (true, [([], []), ([], []), ([], []), ([1, 2], [1, 2]), ([3], [3]), ([], []), ([0, 4, 5], [0, 4, 5]), ([6, 6, 0, 1, 2, 3, 4, 5, 6], [6])])
def spec_MoveOne.B4 : List Nat := [0, 0, 0, 6, 14, 0, 63, 127]
theorem spec_MoveOne.tab4 : rtab .any (opsOf Tryd.f20 4) = spec_MoveOne.T4 := by kernel_rfl
theorem spec_MoveOne.bits4 : waitsOk spec_MoveOne.T4.2 spec_MoveOne.B4 = true := by kernel_rfl
set_option maxHeartbeats 8000000 in
set_option maxRecDepth 100000 in
theorem spec_MoveOne.calls (k : Nat) (a0_0 : Int) (a0_1 : Int) (a0_2 : Int) (A1 : Option Addr) (c1 : Nat) (l1 : List Int) (a2 : Int) (a3 : Int) (r1 : List Int) (r2 : Bool) (w : World) (hr1 : Kd.C (Kd.int .i64) w A1 l1.length l1) (hc1 : l1.length ≤ c1) (h : spec_MoveOne.f k a0_0 a0_1 a0_2 l1 a2 a3 = some (r1, r2)) :
  Calls Tryd.prog 20 #[.agg #[.int .i64 a0_0, .int .i64 a0_1, .int .i64 a0_2], .slice A1 l1.length c1, .int .i64 a2, .int .i64 a3] w fun e w' => ∃ v0_ : Value, e = .returned (.tuple #[v0_, .bool r2]) ∧ Kd.R (Kd.int .i64) 3 w' w.heap.size (fun _ => True) v0_ r1 ∧ Below w.heap.size w w' := by
 have hu30 := Tryd.underlying30
 have HR1 := Aside0.mk hr1
 have HC1 := Aside0.mk hc1
 clear hr1 hc1
 have HB := Aside0.mk (Below.refl w.heap.size w)
 have H : ((spec_l28Copy.f l1).bind fun t502 => ((spec_CrowdOk.f k a0_0 a0_1 a0_2 l1).bind fun t505 => (if t505 = true then ((spec_l01In.f a2 0 (wrap64 ((l1.length : Int) - 1))).bind fun t506 => (spec_MoveOne.j0 k l1 a2 a3 t502 (!t506) a0_0 a0_1 a0_2)) else (spec_MoveOne.j0 k l1 a2 a3 t502 true a0_0 a0_1 a0_2)))) = some (r1, r2) := h
 clear h
 replace H := Option.bind_eq_some_iff.mp H
 obtain ⟨t502, A50, H⟩ := H
 replace H : ((spec_CrowdOk.f k a0_0 a0_1 a0_2 l1).bind fun t505 => (if t505 = true then ((spec_l01In.f a2 0 (wrap64 ((l1.length : Int) - 1))).bind fun t506 => (spec_MoveOne.j0 k l1 a2 a3 t502 (!t506) a0_0 a0_1 a0_2)) else (spec_MoveOne.j0 k l1 a2 a3 t502 true a0_0 a0_1 a0_2))) = some (r1, r2) := H
 have A5 := Aside0.mk A50
 clear A50
 have HC6 := Aside0.mk H
 clear H
 go_enter Tryd.func20, Tryd.ntmps20
 go_upto_region 2 with (first | ((with_reducible refine gate_dst (N := 4) rfl ?_); (try (refine gate_guard (by rfl) ?_; dsimp only)); refine box_event ?hg (N := 4) ?hd (cs := #[.int .i64 a0_0, .int .i64 a0_1, .int .i64 a0_2]) (t := 30) ?hr ?_; (case hd => rfl); (case hg => rfl); (case hr => first | (go_simp; done) | (go_simp; rfl)); intro gb501 hg w7 hbox hb; have BK501 := Aside0.mk (hbox); have GW501 := HB.g0 hg; have GE501 := HB.g0 hg; replace HB := HB.s0 hb; clear hb hbox hg) | (refine gl_ 13 Tryd.func18 #[.slice A1 l1.length c1] ?_; (with_reducible refine (spec_l28Copy.calls _ _ l1 t502 _ ?side1 ?side2 A5.out).mono ?_); (case side1 => repeat (first | exact (Kd.C_below HR1.out HB.out) | (with_reducible refine Kd.C_alloc ?_ _) | (with_reducible refine Kd.C_drewN ?_ _) | (with_reducible refine Kd.C_drew ?_))); (case side2 => exact HC1.out); rintro e w8 ⟨v503, rfl, ho0, hb⟩; refine ⟨_, rfl, ?_⟩; have HO504 := Aside0.mk (Kd.R_lower ho0 (below_size (hb1_ HB.out GE501.out))); replace BK501 := BK501.bb hb; replace HB := HB.s1 GE501 hb; (try clear hb); (try clear ho0)))
 (try simp only [Act.put, List.setIfInBounds_toArray, List.set_cons_zero, List.set_cons_succ])
 go_cut [25] (fun v25 wc => ∃ (kq : Nat) (x25_5 : Bool), v25 = .bool x25_5 ∧ Aside0 (spec_MoveOne.j0 kq l1 a2 a3 t502 x25_5 a0_0 a0_1 a0_2 = some (r1, r2)) ∧ Aside0 (kq ≤ k) ∧ Aside0 (Kd.R (Kd.int .i64) 3 wc w.heap.size (fun _ => True) v503 t502) ∧ Aside0 (wc.heap[gb501]? = some (.cells #[.int .i64 a0_0, .int .i64 a0_1, .int .i64 a0_2] 30 (0, 0))) ∧ Aside0 (Below w.heap.size w wc))
 case first =>
  have H := HC6.out
  clear HC6
  replace H := Option.bind_eq_some_iff.mp H
  obtain ⟨t505, A90, H⟩ := H
  replace H : (if t505 = true then ((spec_l01In.f a2 0 (wrap64 ((l1.length : Int) - 1))).bind fun t506 => (spec_MoveOne.j0 k l1 a2 a3 t502 (!t506) a0_0 a0_1 a0_2)) else (spec_MoveOne.j0 k l1 a2 a3 t502 true a0_0 a0_1 a0_2)) = some (r1, r2) := H
  have A9 := Aside0.mk A90
  clear A90
  by_cases c10 : t505 = true
  ·subst c10
   have H1 : ((spec_l01In.f a2 0 (wrap64 ((l1.length : Int) - 1))).bind fun t506 => (spec_MoveOne.j0 k l1 a2 a3 t502 (!t506) a0_0 a0_1 a0_2)) = some (r1, r2) := by rw [if_pos rfl] at H; exact H
   clear H
   have H := H1
   clear H1
   replace H := Option.bind_eq_some_iff.mp H
   obtain ⟨t506, A110, H⟩ := H
   replace H : (spec_MoveOne.j0 k l1 a2 a3 t502 (!t506) a0_0 a0_1 a0_2) = some (r1, r2) := H
   have A11 := Aside0.mk A110
   clear A110
   have H' := Aside0.mk H
   clear H
   obtain ⟨hcz12_0, hcz12_1, hcz12_2⟩ := cz3_ BK501.out
   obtain ⟨hfz12_0, hfz12_1, hfz12_2⟩ := fz3_ BK501.out
   go_wp2_with (first | (refine gl_ 16 Tryd.func9 #[.agg #[.int .i64 a0_0, .int .i64 a0_1, .int .i64 a0_2], .slice A1 l1.length c1] ?_; (with_reducible refine (spec_CrowdOk.calls k a0_0 a0_1 a0_2 _ _ l1 true _ ?side1 ?side2 A9.out).mono ?_); (case side1 => repeat (first | exact (Kd.C_below HR1.out HB.out) | (with_reducible refine Kd.C_alloc ?_ _) | (with_reducible refine Kd.C_drewN ?_ _) | (with_reducible refine Kd.C_drew ?_))); (case side2 => exact HC1.out); rintro e w13 ⟨rfl, hb⟩; refine ⟨_, rfl, ?_⟩; replace HO504 := HO504.kb hb; replace BK501 := BK501.bb hb; replace HB := HB.s1 GE501 hb; (try clear hb)) | (go_at_call 25; (with_reducible refine (spec_l01In.calls a2 0 (wrap64 ((l1.length : Int) - 1)) t506 _ A11.out).mono ?_); rintro e w' ⟨rfl, ⟨nd, rfl⟩⟩))
   go_meet
   case rel => exact ⟨_, (!t506), (by first | rfl | (simp; done) | (simp [*]; done)), H', ⟨by first | omega | exact Nat.le_refl _⟩, ⟨kr_ HO504.out⟩, ⟨bk_ BK501.out⟩, ⟨hb1_ HB.out GE501.out⟩⟩
  ·replace c10 := Bool.eq_false_iff.mpr c10
   subst c10
   have H1 : (spec_MoveOne.j0 k l1 a2 a3 t502 true a0_0 a0_1 a0_2) = some (r1, r2) := by rw [if_neg (show ¬ (false = true) by decide)] at H; exact H
   clear H
   have H := H1
   clear H1
   have H' := Aside0.mk H
   clear H
   obtain ⟨hcz14_0, hcz14_1, hcz14_2⟩ := cz3_ BK501.out
   obtain ⟨hfz14_0, hfz14_1, hfz14_2⟩ := fz3_ BK501.out
   go_wp2_with (first | (refine gl_ 16 Tryd.func9 #[.agg #[.int .i64 a0_0, .int .i64 a0_1, .int .i64 a0_2], .slice A1 l1.length c1] ?_; (with_reducible refine (spec_CrowdOk.calls k a0_0 a0_1 a0_2 _ _ l1 false _ ?side1 ?side2 A9.out).mono ?_); (case side1 => repeat (first | exact (Kd.C_below HR1.out HB.out) | (with_reducible refine Kd.C_alloc ?_ _) | (with_reducible refine Kd.C_drewN ?_ _) | (with_reducible refine Kd.C_drew ?_))); (case side2 => exact HC1.out); rintro e w15 ⟨rfl, hb⟩; refine ⟨_, rfl, ?_⟩; replace HO504 := HO504.kb hb; replace BK501 := BK501.bb hb; replace HB := HB.s1 GE501 hb; (try clear hb)))
   go_meet
   case rel => exact ⟨_, (true), (by first | rfl | (simp; done) | (simp [*]; done)), H', ⟨by first | omega | exact Nat.le_refl _⟩, ⟨kr_ HO504.out⟩, ⟨bk_ BK501.out⟩, ⟨hb1_ HB.out GE501.out⟩⟩
 case rest =>
  clear HC6
  try clear c1
  try clear c2
  try clear p2
  try clear p6
  try clear c9
  try clear c10
  try clear hcz12_0
  try clear hcz12_1
  try clear hcz12_2
  try clear hcz14_0
  try clear hcz14_1
  try clear hcz14_2
  try clear hfz12_0
  try clear hfz12_1
  try clear hfz12_2
  try clear hfz14_0
  try clear hfz14_1
  try clear hfz14_2
  obtain ⟨kq, x25_5, rfl, HA, HJ5, HO_10, BK501, HB⟩ := hcut
  cases kq with
  | zero => exact absurd HA.out (by simp [spec_MoveOne.j0])
  | succ kj5 =>
   have H := HA.out
   clear HA
   simp only [spec_MoveOne.j0] at H
   by_cases c16 : x25_5 = true
   ·subst c16
    have H1 : (some (t502, false)) = some (r1, r2) := by rw [if_pos rfl] at H; exact H
    clear H
    have H := H1
    clear H1
    simp only [Option.some.injEq, Prod.mk.injEq] at H
    obtain ⟨rfl, rfl⟩ := H
    go_wp2
    go_ret2
    exact ⟨_, ex_, kr_ HO_10.out, hb1_ HB.out GE501.out⟩
   ·replace c16 := Bool.eq_false_iff.mpr c16
    subst c16
    have H1 : (if 0 ≤ a2 then (if a2 < (l1.length : Int) then ((spec_Step.f kj5 a0_0 a0_1 a0_2 (rd l1 a2) a3).bind fun t508 => (if t508 < 0 then (some (t502, false)) else ((spec_l07In.f kj5 l1 t508).bind fun t509 => (if t509 = true then (some (t502, false)) else (if a2 < (t502.length : Int) then (some ((t502.set (a2 : Int).toNat t508), true)) else (none)))))) else (none)) else (none)) = some (r1, r2) := by rw [if_neg (show ¬ (false = true) by decide)] at H; exact H
    clear H
    have H := H1
    clear H1
    by_cases c17 : 0 ≤ a2
    ·rw [if_pos c17] at H
     have c17b0 : decide (0 ≤ a2) = true := decide_eq_true c17
     clear c17
     by_cases c18 : a2 < (l1.length : Int)
     ·rw [if_pos c18] at H
      have c18b0 : decide (a2 < (l1.length : Int)) = true := decide_eq_true c18
      clear c18
      replace H := Option.bind_eq_some_iff.mp H
      obtain ⟨t508, A190, H⟩ := H
      replace H : (if t508 < 0 then (some (t502, false)) else ((spec_l07In.f kj5 l1 t508).bind fun t509 => (if t509 = true then (some (t502, false)) else (if a2 < (t502.length : Int) then (some ((t502.set (a2 : Int).toNat t508), true)) else (none))))) = some (r1, r2) := H
      have A19 := Aside0.mk A190
      clear A190
      by_cases c20 : t508 < 0
      ·rw [if_pos c20] at H
       have c20b0 : decide (t508 < 0) = true := decide_eq_true c20
       clear c20
       simp only [Option.some.injEq, Prod.mk.injEq] at H
       obtain ⟨rfl, rfl⟩ := H
       try go_wp2
       replace HO_10 := Aside0.mk (Kd.R_drew HO_10.out)
       replace BK501 := Aside0.mk (blk_drew BK501.out)
       replace HB := Aside0.mk (below_drew1 HB.out)
       have p507 : 0 ≤ (a2 : Int) := of_decide_eq_true (as_)
       have q507 : a2 < (l1.length : Int) := of_decide_eq_true (as_)
       obtain ⟨ad507, e507, hx507_0⟩ := Kd.at_int HR1.out a2 p507 q507
       have hw507_0 := hx507_0
       cases e507
       replace hx507_0 := (HB.out.cell (World.block_lt_of_cell? w _ hx507_0)).trans hx507_0
       replace p507 := eq_true p507
       replace q507 := eq_true q507
       refine start_ (n := 8) (S := fun w' => w'.cell? ⟨gb501, 0, none⟩ = some (.int .i64 a0_0) ∧ w'.cell? ⟨gb501, 1, none⟩ = some (.int .i64 a0_1) ∧ w'.cell? ⟨gb501, 2, none⟩ = some (.int .i64 a0_2) ∧ w'.cell? (ad507.add (a2).toNat) = some (.int .i64 (rd l1 a2))) (ds := []) #[false, false, false, false, false, false, false, false] (by kernel_rfl) rfl rfl ⟨BK501.c 0, BK501.c 1, BK501.c 2, ((HB.out.cell (World.block_lt_of_cell? w _ hw507_0)).trans hw507_0)⟩ (fun hHeld => ?_); refine with_tabW spec_MoveOne.tab4 spec_MoveOne.bits4 (fun HT_ HW_ => ?_)
       generalize wc.drew = w21 at HO_10 BK501 HB hx507_0 hHeld ⊢
       refine pv_ (i := 1) (N := some 28) HT_.out ?_
       refine pv_ (i := 2) (N := some 29) HT_.out ?_
       refine pv_ (i := 3) (N := some 30) HT_.out ?_
       refine pv_ (i := 5) (N := some 32) HT_.out ?_
       refine tv4_ (i := 0) (N := some 27) HT_.out HW_.out hHeld ?_
       refine tv4_ (i := 4) (N := some 31) HT_.out HW_.out hHeld ?_
       refine ov_ (i := 6) (N := some 33) HT_.out (fun K hK => ?_)
       refine gq_ Tryd.func27 #[.agg #[.int .i64 a0_0, .int .i64 a0_1, .int .i64 a0_2], .int .i64 (rd l1 a2), .int .i64 a3] ?_
       with_reducible refine (spec_Step.calls kj5 a0_0 a0_1 a0_2 (rd l1 a2) a3 t508 _ A19.out).mono ?_
       rintro e w22 ⟨rfl, hb⟩
       refine ⟨_, rfl, ?_⟩
       replace HO_10 := HO_10.kb hb
       replace BK501 := BK501.bb hb
       replace HB := HB.s1 GE501 hb
       skip
       (try clear hb2)
       (try clear hk)
       (try clear hi)
       refine hK.out _ _ ⟨BK501.c 0, BK501.c 1, BK501.c 2, ((HB.out.cell (World.block_lt_of_cell? w _ hw507_0)).trans hw507_0)⟩ (fun hHeld => ?_)
       clear hK K
       refine nm_ ?_
       refine pv_ (i := 7) (N := some 11) HT_.out ?_
       refine done_ (done_of HT_.out (by kernel_rfl)) ?_
       try go_wp2
       go_ret2
       exact ⟨_, ex_, kr_ HO_10.out, hb1_ HB.out GE501.out⟩
      ·rw [if_neg c20] at H
       have c20b0 : decide (t508 < 0) = false := decide_eq_false c20
       clear c20
       replace H := Option.bind_eq_some_iff.mp H
       obtain ⟨t509, A230, H⟩ := H
       replace H : (if t509 = true then (some (t502, false)) else (if a2 < (t502.length : Int) then (some ((t502.set (a2 : Int).toNat t508), true)) else (none))) = some (r1, r2) := H
       have A23 := Aside0.mk A230
       clear A230
       by_cases c24 : t509 = true
       ·subst c24
        have H1 : (some (t502, false)) = some (r1, r2) := by rw [if_pos rfl] at H; exact H
        clear H
        have H := H1
        clear H1
        simp only [Option.some.injEq, Prod.mk.injEq] at H
        obtain ⟨rfl, rfl⟩ := H
        try go_wp2
        replace HO_10 := Aside0.mk (Kd.R_drew HO_10.out)
        replace BK501 := Aside0.mk (blk_drew BK501.out)
        replace HB := Aside0.mk (below_drew1 HB.out)
        have p507 : 0 ≤ (a2 : Int) := of_decide_eq_true (as_)
        have q507 : a2 < (l1.length : Int) := of_decide_eq_true (as_)
        obtain ⟨ad507, e507, hx507_0⟩ := Kd.at_int HR1.out a2 p507 q507
        have hw507_0 := hx507_0
        cases e507
        replace hx507_0 := (HB.out.cell (World.block_lt_of_cell? w _ hx507_0)).trans hx507_0
        replace p507 := eq_true p507
        replace q507 := eq_true q507
        refine start_ (n := 8) (S := fun w' => w'.cell? ⟨gb501, 0, none⟩ = some (.int .i64 a0_0) ∧ w'.cell? ⟨gb501, 1, none⟩ = some (.int .i64 a0_1) ∧ w'.cell? ⟨gb501, 2, none⟩ = some (.int .i64 a0_2) ∧ w'.cell? (ad507.add (a2).toNat) = some (.int .i64 (rd l1 a2))) (ds := []) #[false, false, false, false, false, false, false, false] (by kernel_rfl) rfl rfl ⟨BK501.c 0, BK501.c 1, BK501.c 2, ((HB.out.cell (World.block_lt_of_cell? w _ hw507_0)).trans hw507_0)⟩ (fun hHeld => ?_); refine with_tabW spec_MoveOne.tab4 spec_MoveOne.bits4 (fun HT_ HW_ => ?_)
        generalize wc.drew = w25 at HO_10 BK501 HB hx507_0 hHeld ⊢
        refine pv_ (i := 1) (N := some 28) HT_.out ?_
        refine pv_ (i := 2) (N := some 29) HT_.out ?_
        refine pv_ (i := 3) (N := some 30) HT_.out ?_
        refine pv_ (i := 5) (N := some 32) HT_.out ?_
        refine tv4_ (i := 0) (N := some 27) HT_.out HW_.out hHeld ?_
        refine tv4_ (i := 4) (N := some 31) HT_.out HW_.out hHeld ?_
        refine ov_ (i := 6) (N := some 33) HT_.out (fun K hK => ?_)
        refine gq_ Tryd.func27 #[.agg #[.int .i64 a0_0, .int .i64 a0_1, .int .i64 a0_2], .int .i64 (rd l1 a2), .int .i64 a3] ?_
        with_reducible refine (spec_Step.calls kj5 a0_0 a0_1 a0_2 (rd l1 a2) a3 t508 _ A19.out).mono ?_
        rintro e w26 ⟨rfl, hb⟩
        refine ⟨_, rfl, ?_⟩
        replace HO_10 := HO_10.kb hb
        replace BK501 := BK501.bb hb
        replace HB := HB.s1 GE501 hb
        skip
        (try clear hb2)
        (try clear hk)
        (try clear hi)
        refine hK.out _ _ ⟨BK501.c 0, BK501.c 1, BK501.c 2, ((HB.out.cell (World.block_lt_of_cell? w _ hw507_0)).trans hw507_0)⟩ (fun hHeld => ?_)
        clear hK K
        refine nm_ ?_
        refine pv_ (i := 7) (N := some 11) HT_.out ?_
        refine done_ (done_of HT_.out (by kernel_rfl)) ?_
        try go_wp2_with (first | (go_at_call 15; (with_reducible refine (spec_l07In.calls kj5 _ _ l1 t508 true _ ?side1 ?side2 A23.out).mono ?_); (case side1 => repeat (first | exact (Kd.C_below HR1.out HB.out) | (with_reducible refine Kd.C_alloc ?_ _) | (with_reducible refine Kd.C_drewN ?_ _) | (with_reducible refine Kd.C_drew ?_))); (case side2 => exact HC1.out); rintro e w' ⟨rfl, ⟨nd, rfl⟩⟩))
        go_ret2
        exact ⟨_, ex_, kr_ HO_10.out, hb1_ HB.out GE501.out⟩
       ·replace c24 := Bool.eq_false_iff.mpr c24
        subst c24
        have H1 : (if a2 < (t502.length : Int) then (some ((t502.set (a2 : Int).toNat t508), true)) else (none)) = some (r1, r2) := by rw [if_neg (show ¬ (false = true) by decide)] at H; exact H
        clear H
        have H := H1
        clear H1
        by_cases c27 : a2 < (t502.length : Int)
        ·rw [if_pos c27] at H
         have c27b0 : decide (a2 < (t502.length : Int)) = true := decide_eq_true c27
         clear c27
         obtain ⟨y510, hy510⟩ : ∃ y_ : List Int, y_ = (t502.set (a2 : Int).toNat t508) := ⟨_, rfl⟩
         replace H : (some (y510, true)) = some (r1, r2) := by first | (rw [hy510]; with_reducible exact H) | (have H2_ := (Option.bind_some _ _).symm.trans H; rw [hy510]; with_reducible exact H2_) | (have H2_ := (Option.bind_some _ _).symm.trans H; with_reducible exact H2_) | with_reducible exact H | (rw [hy510]; exact H) | exact H
         have Ny510 := Aside0.mk hy510
         clear hy510
         simp only [Option.some.injEq, Prod.mk.injEq] at H
         obtain ⟨rfl, rfl⟩ := H
         try go_wp2
         replace HO_10 := Aside0.mk (Kd.R_drew HO_10.out)
         replace BK501 := Aside0.mk (blk_drew BK501.out)
         replace HB := Aside0.mk (below_drew1 HB.out)
         have p507 : 0 ≤ (a2 : Int) := of_decide_eq_true (as_)
         have q507 : a2 < (l1.length : Int) := of_decide_eq_true (as_)
         obtain ⟨ad507, e507, hx507_0⟩ := Kd.at_int HR1.out a2 p507 q507
         have hw507_0 := hx507_0
         cases e507
         replace hx507_0 := (HB.out.cell (World.block_lt_of_cell? w _ hx507_0)).trans hx507_0
         replace p507 := eq_true p507
         replace q507 := eq_true q507
         refine start_ (n := 8) (S := fun w' => w'.cell? ⟨gb501, 0, none⟩ = some (.int .i64 a0_0) ∧ w'.cell? ⟨gb501, 1, none⟩ = some (.int .i64 a0_1) ∧ w'.cell? ⟨gb501, 2, none⟩ = some (.int .i64 a0_2) ∧ w'.cell? (ad507.add (a2).toNat) = some (.int .i64 (rd l1 a2))) (ds := []) #[false, false, false, false, false, false, false, false] (by kernel_rfl) rfl rfl ⟨BK501.c 0, BK501.c 1, BK501.c 2, ((HB.out.cell (World.block_lt_of_cell? w _ hw507_0)).trans hw507_0)⟩ (fun hHeld => ?_); refine with_tabW spec_MoveOne.tab4 spec_MoveOne.bits4 (fun HT_ HW_ => ?_)
         generalize wc.drew = w29 at HO_10 BK501 HB hx507_0 hHeld ⊢
         refine pv_ (i := 1) (N := some 28) HT_.out ?_
         refine pv_ (i := 2) (N := some 29) HT_.out ?_
         refine pv_ (i := 3) (N := some 30) HT_.out ?_
         refine pv_ (i := 5) (N := some 32) HT_.out ?_
         refine tv4_ (i := 0) (N := some 27) HT_.out HW_.out hHeld ?_
         refine tv4_ (i := 4) (N := some 31) HT_.out HW_.out hHeld ?_
         refine ov_ (i := 6) (N := some 33) HT_.out (fun K hK => ?_)
         refine gq_ Tryd.func27 #[.agg #[.int .i64 a0_0, .int .i64 a0_1, .int .i64 a0_2], .int .i64 (rd l1 a2), .int .i64 a3] ?_
         with_reducible refine (spec_Step.calls kj5 a0_0 a0_1 a0_2 (rd l1 a2) a3 t508 _ A19.out).mono ?_
         rintro e w30 ⟨rfl, hb⟩
         refine ⟨_, rfl, ?_⟩
         replace HO_10 := HO_10.kb hb
         replace BK501 := BK501.bb hb
         replace HB := HB.s1 GE501 hb
         skip
         (try clear hb2)
         (try clear hk)
         (try clear hi)
         refine hK.out _ _ ⟨BK501.c 0, BK501.c 1, BK501.c 2, ((HB.out.cell (World.block_lt_of_cell? w _ hw507_0)).trans hw507_0)⟩ (fun hHeld => ?_)
         clear hK K
         refine nm_ ?_
         refine pv_ (i := 7) (N := some 11) HT_.out ?_
         refine done_ (done_of HT_.out (by kernel_rfl)) ?_
         try go_wp2_with (first | (go_at_call 15; (with_reducible refine (spec_l07In.calls kj5 _ _ l1 t508 false _ ?side1 ?side2 A23.out).mono ?_); (case side1 => repeat (first | exact (Kd.C_below HR1.out HB.out) | (with_reducible refine Kd.C_alloc ?_ _) | (with_reducible refine Kd.C_drewN ?_ _) | (with_reducible refine Kd.C_drew ?_))); (case side2 => exact HC1.out); rintro e w' ⟨rfl, ⟨nd, rfl⟩⟩; (try (rw [drewN_self w30]; generalize hq_ : World.drewN w30 _ = w30; have n0_ : Aside0 (Kd.R (Kd.int .i64) 3 w30 w.heap.size (fun _ => True) v503 t502) := ⟨by rw [← hq_]; exact (kr_ HO_10.out)⟩; have n1_ : Aside0 (w30.heap[gb501]? = some (.cells #[.int .i64 a0_0, .int .i64 a0_1, .int .i64 a0_2] 30 (0, 0))) := ⟨by rw [← hq_]; exact (bk_ BK501.out)⟩; have n2_ : Aside0 (Below w.heap.size w w30) := ⟨by rw [← hq_]; exact (hb1_ HB.out GE501.out)⟩; clear HO_10 BK501 HB hq_; have HO_10 := n0_; have BK501 := n1_; have HB := n2_; clear n0_ n1_ n2_)); have p28 : 0 ≤ (a2 : Int) := of_decide_eq_true (as_); have q28 : (a2 : Int) < ((t502.length : Int) : Int) := of_decide_eq_true (as_); obtain ⟨go28, co28, eo28, gb28, gl28, cl28, HG28⟩ := Kd.R_form HO_10.out (by omega); (first | cases eo28 | (injection eo28 with ea_ en_ ec_; (first | subst ea_ | (injection ea_ with ea_; subst ea_)); subst ec_; clear en_)); have GB28 := Aside0.mk gb28; have GG28 := Aside0.mk HG28; clear gb28 gl28 HG28; obtain ⟨hx28_0, hf28_0⟩ := Kd.R_celln 0 HO_10.out (a2 : Int) p28 q28; replace p28 := eq_true p28; replace q28 := eq_true q28; obtain ⟨hy31_, hz31_⟩ := Kd.R_celln 0 HO_10.out (a2 : Int) (of_decide_eq_true (as_)) (of_decide_eq_true (as_)); have HP31 := Kd.R_putg HO_10.out (a2 : Int) t508) | ((with_reducible refine gate_store (t := 3) (p := 45) rfl ?_); refine store_event (t := 3) (p := 45) (v := ?vo_w32) (w1 := (w30.setCell ⟨go28, (a2 : Int).toNat, none⟩ (.int .i64 t508))) ?hg ?ho ?hn ?hr ?_; (case ho => rfl); (case hg => rfl); (case hn => rfl); (case hr => first | (go_simp; done) | (go_simp; rfl)); intro w32 hw; have hg : w30.grownBy w32 (some go28) := (by rw [hw]; exact HP31.2); have hp_ : Kd.R (Kd.int .i64) 3 w32 w.heap.size (fun _ => True) (.slice (some ⟨go28, 0, none⟩) t502.length co28) y510 := (by rw [hw, Ny510.out]; exact HP31.1); clear HP31; have n0_ := Aside0.mk (hp_); have n1_ := Aside0.mk (blk_grown (g := gb501) (o := .cells #[.int .i64 a0_0, .int .i64 a0_1, .int .i64 a0_2] 30 (0, 0)) (bk_ BK501.out) hg (Kd.R_ne HO_10.out BK501.out (by decide))); have n2_ := Aside0.mk ((by rw [hw]; exact below_set (HB.out) GB28.out : Below w.heap.size w w32)); clear HO_10; clear BK501; clear HB; have HO_10 := n0_; have BK501 := n1_; have HB := n2_; clear n0_ n1_ n2_; clear hg hw hp_))
         go_ret2
         exact ⟨_, ex_, kr_ HO_10.out, hb1_ HB.out GE501.out⟩
        ·rw [if_neg c27] at H
         exact absurd H (by simp)
     ·rw [if_neg c18] at H
      exact absurd H (by simp)
    ·rw [if_neg c17] at H
     exact absurd H (by simp)

end Go.Proofs.YtgnnkjgfkdaddaaDoor.X
