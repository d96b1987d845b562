-- Written by a program of this session (xprint.py), out of the translation and of hand-written contracts. Lean checks it.
import Derived.Test.YtgnnkjgfkdaddaaDoorX0
import Derived.Test.YtgnnkjgfkdaddaaDoorXcin
import Derived.Test.YtgnnkjgfkdaddaaDoorXcints
import Derived.Test.YtgnnkjgfkdaddaaDoorXcmaze
namespace Go.Proofs.YtgnnkjgfkdaddaaDoor.X
open Go.RowKit Go.Proofs.YtgnnkjgfkdaddaaDoorW.PrintWords Go.Proofs.YtgnnkjgfkdaddaaDoorW.PrintLast Go.Proofs.YtgnnkjgfkdaddaaDoorW.PrintMore
attribute [local go_sem] max2_int min2_int max_two min_two max_three min_three max_four min_four   -- for this text's walks alone
set_option linter.unusedVariables false
set_option linter.unusedSimpArgs false

/-! ### spec_CrowdOk: function 9 -/
def spec_CrowdOk.l0 : Nat → List Int → Int → Int → Int → Int → Option (Bool)
 | 0, _, _, _, _, _ => none
 | k + 1, x1, x5, x502000, x502001, x502002 => if x5 < (x1.length : Int) then (if 0 ≤ x5 then ((spec_l04Has.f x502000 x502001 x502002 (rd x1 x5)).bind fun t504 => (if t504 = true then (if x5 ≤ (x1.length : Int) then ((spec_l07In.f k (x1.take (x5 : Int).toNat) (rd x1 x5)).bind fun t507 => (if t507 = true then (some false) else (spec_CrowdOk.l0 k x1 (wrap64 (x5 + 1)) x502000 x502001 x502002))) else (none)) else (some false))) else (none)) else ((spec_MazeOk.f x502000 x502001 x502002).bind fun t502 => (if t502 = true then (some (decide ((x1.length : Int) ≤ 6))) else (some false)))
def spec_CrowdOk.f (k : Nat) (a0_0 : Int) (a0_1 : Int) (a0_2 : Int) (l1 : List Int) : Option (Bool) := spec_CrowdOk.l0 k l1 0 a0_0 a0_1 a0_2
theorem spec_CrowdOk.mono_l : ∀ k, (∀ y0 y1 y2 y3 y4, LeO (spec_CrowdOk.l0 k y0 y1 y2 y3 y4) (spec_CrowdOk.l0 (k + 1) y0 y1 y2 y3 y4))
 | 0 => fun _ _ _ _ _ r h => by simp [spec_CrowdOk.l0] at h
 | k + 1 => by
  have ih0 := spec_CrowdOk.mono_l k
  ·intro y0 y1 y2 y3 y4
   unfold spec_CrowdOk.l0
   repeat' first
   | (with_reducible exact ih0 ..)
   | (with_reducible exact spec_l07In.mono ..)
   | (with_reducible first | exact lr_ _ | exact ln_ _ | refine li_ ?_ ?_ | refine lb_ ?_ fun _ => ?_)
   | exact ih0 ..
   | exact spec_l07In.mono ..
   | exact ln_ _ | refine li_ ?_ ?_ | refine lb_ ?_ fun _ => ?_
theorem spec_CrowdOk.mono : ∀ a0 a1 a2 a3 k, LeO (spec_CrowdOk.f k a0 a1 a2 a3) (spec_CrowdOk.f (k + 1) a0 a1 a2 a3) := by
 intro a0 a1 a2 a3 k
 have ih0 := spec_CrowdOk.mono_l k
 unfold spec_CrowdOk.f
 repeat' first
   | (with_reducible exact ih0 ..)
   | (with_reducible exact spec_l07In.mono ..)
   | (with_reducible first | exact lr_ _ | exact ln_ _ | refine li_ ?_ ?_ | refine lb_ ?_ fun _ => ?_)
   | exact ih0 ..
   | exact spec_l07In.mono ..
   | exact ln_ _ | refine li_ ?_ ?_ | refine lb_ ?_ fun _ => ?_
def spec_CrowdOk.T4 : Bool × List (List Nat × List Nat) := (true, [([], []), ([], []), ([], []), ([1, 2], [1, 2]), ([3], [3]), ([0, 4], [0, 4]), ([5], [5]), ([6, 5], [6]), ([7], [7]), ([7], [7]), ([8, 9, 7], [7, 8, 9]), ([7], [7]), ([7], [7]), ([11, 12, 7], [7, 11, 12]), ([13, 7], [7, 13]), ([10, 14, 7, 7], [7, 10, 14]), ([7, 15], [7, 15])])
def spec_CrowdOk.B4 : List Nat := [0, 0, 0, 6, 14, 31, 63, 127, 255, 255, 1023, 255, 255, 6399, 14591, 32767, 65535]
theorem spec_CrowdOk.tab4 : rtab .any (opsOf Tryd.f9 4) = spec_CrowdOk.T4 := by kernel_rfl
theorem spec_CrowdOk.bits4 : waitsOk spec_CrowdOk.T4.2 spec_CrowdOk.B4 = true := by kernel_rfl
set_option maxHeartbeats 8000000 in
set_option maxRecDepth 100000 in
theorem spec_CrowdOk.calls (k : Nat) (a0_0 : Int) (a0_1 : Int) (a0_2 : Int) (A1 : Option Addr) (c1 : Nat) (l1 : List Int) (r : Bool) (w : World) (hr1 : Kd.C (Kd.int .i64) w A1 l1.length l1) (hc1 : l1.length ≤ c1) (h : spec_CrowdOk.f k a0_0 a0_1 a0_2 l1 = some r) :
  Calls Tryd.prog 9 #[.agg #[.int .i64 a0_0, .int .i64 a0_1, .int .i64 a0_2], .slice A1 l1.length c1] w fun e w' => e = .returned (.bool r) ∧ Below w.heap.size w w' := by
 have hu30 := Tryd.underlying30
 have HR1 := Aside0.mk hr1
 have HC1 := Aside0.mk hc1
 clear hr1 hc1
 have HB := Aside0.mk (Below.refl w.heap.size w)
 have H : (spec_CrowdOk.l0 k l1 0 a0_0 a0_1 a0_2) = some r := h
 clear h
 have H' := Aside0.mk H
 clear H
 go_enter Tryd.func9, Tryd.ntmps9
 go_wp2_with (first | ((with_reducible refine gate_dst (N := 2) rfl ?_); (try (refine gate_guard (by rfl) ?_; dsimp only)); refine box_event ?hg (N := 2) ?hd (cs := #[.int .i64 a0_0, .int .i64 a0_1, .int .i64 a0_2]) (t := 30) ?hr ?_; (case hd => rfl); (case hg => rfl); (case hr => first | (go_simp; done) | (go_simp; rfl)); intro gb501 hg w3 hbox hb; have BK501 := Aside0.mk (hbox); have GW501 := HB.g0 hg; have GE501 := HB.g0 hg; replace HB := HB.s0 hb; clear hb hbox hg))
 go_loopg [5] k (fun kq v5 w' => ∃ (x5_1 : Int), v5 = .int .i64 x5_1 ∧ Aside0 (spec_CrowdOk.l0 kq l1 x5_1 a0_0 a0_1 a0_2 = some r) ∧ Aside0 (kq ≤ k) ∧ Aside0 (w'.heap[gb501]? = some (.cells #[.int .i64 a0_0, .int .i64 a0_1, .int .i64 a0_2] 30 (0, 0))) ∧ Aside0 (Below w.heap.size w w'))
 case atStart => exact ⟨(0), (by first | rfl | (simp; done) | (simp [*]; done)), H', ⟨Nat.le_refl _⟩, ⟨bk_ BK501.out⟩, ⟨hb1_ HB.out GE501.out⟩⟩
 case round =>
  clear H'
  try clear c1
  try clear p2
  obtain ⟨x5_1, rfl, HA, HK1, BK501, HB⟩ := hrel
  cases gk with
  | zero => exact absurd HA.out (by simp [spec_CrowdOk.l0])
  | succ k1 =>
   have H := HA.out
   clear HA
   simp only [spec_CrowdOk.l0] at H
   by_cases c4 : x5_1 < (l1.length : Int)
   ·rw [if_pos c4] at H
    have c4b0 : decide (x5_1 < (l1.length : Int)) = true := decide_eq_true c4
    clear c4
    by_cases c5 : 0 ≤ x5_1
    ·rw [if_pos c5] at H
     have c5b0 : decide (0 ≤ x5_1) = true := decide_eq_true c5
     clear c5
     replace H := Option.bind_eq_some_iff.mp H
     obtain ⟨t504, A60, H⟩ := H
     replace H : (if t504 = true then (if x5_1 ≤ (l1.length : Int) then ((spec_l07In.f k1 (l1.take (x5_1 : Int).toNat) (rd l1 x5_1)).bind fun t507 => (if t507 = true then (some false) else (spec_CrowdOk.l0 k1 l1 (wrap64 (x5_1 + 1)) a0_0 a0_1 a0_2))) else (none)) else (some false)) = some r := H
     have A6 := Aside0.mk A60
     clear A60
     by_cases c7 : t504 = true
     ·subst c7
      have H1 : (if x5_1 ≤ (l1.length : Int) then ((spec_l07In.f k1 (l1.take (x5_1 : Int).toNat) (rd l1 x5_1)).bind fun t507 => (if t507 = true then (some false) else (spec_CrowdOk.l0 k1 l1 (wrap64 (x5_1 + 1)) a0_0 a0_1 a0_2))) else (none)) = some r := by rw [if_pos rfl] at H; exact H
      clear H
      have H := H1
      clear H1
      have c8b0 := eq_true (of_decide_eq_true (as_) : 0 ≤ x5_1)
      by_cases c9 : x5_1 ≤ (l1.length : Int)
      ·rw [if_pos c9] at H
       have c9b0 := eq_true c9
       have c9b1 : decide (x5_1 ≤ (l1.length : Int)) = true := decide_eq_true c9
       clear c9
       replace H := Option.bind_eq_some_iff.mp H
       obtain ⟨t507, A100, H⟩ := H
       replace H : (if t507 = true then (some false) else (spec_CrowdOk.l0 k1 l1 (wrap64 (x5_1 + 1)) a0_0 a0_1 a0_2)) = some r := H
       have A10 := Aside0.mk A100
       clear A100
       by_cases c11 : t507 = true
       ·subst c11
        have H1 : (some false) = some r := by rw [if_pos rfl] at H; exact H
        clear H
        have H := H1
        clear H1
        obtain rfl := Option.some.inj H
        try go_wp2
        replace BK501 := Aside0.mk (blk_drew BK501.out)
        replace HB := Aside0.mk (below_drew1 HB.out)
        have p503 : 0 ≤ (x5_1 : Int) := of_decide_eq_true (as_)
        have q503 : x5_1 < (l1.length : Int) := of_decide_eq_true (as_)
        obtain ⟨ad503, e503, hx503_0⟩ := Kd.at_int HR1.out x5_1 p503 q503
        have hw503_0 := hx503_0
        cases e503
        replace hx503_0 := (HB.out.cell (World.block_lt_of_cell? w _ hx503_0)).trans hx503_0
        replace p503 := eq_true p503
        replace q503 := eq_true q503
        have p506 : 0 ≤ (x5_1 : Int) := of_decide_eq_true (as_)
        have q506 : x5_1 < (l1.length : Int) := of_decide_eq_true (as_)
        obtain ⟨ad506, e506, hx506_0⟩ := Kd.at_int HR1.out x5_1 p506 q506
        have hw506_0 := hx506_0
        obtain rfl : ad503 = ad506 := (by injection e506)
        replace hx506_0 := (HB.out.cell (World.block_lt_of_cell? w _ hx506_0)).trans hx506_0
        replace p506 := eq_true p506
        replace q506 := eq_true q506
        refine start_ (n := 17) (S := fun w' => w'.cell? ⟨gb501, 0, none⟩ = some (.int .i64 a0_0) ∧ w'.cell? ⟨gb501, 1, none⟩ = some (.int .i64 a0_1) ∧ w'.cell? ⟨gb501, 2, none⟩ = some (.int .i64 a0_2) ∧ w'.cell? (ad503.add (x5_1).toNat) = some (.int .i64 (rd l1 x5_1)) ∧ w'.cell? (ad503.add (x5_1).toNat) = some (.int .i64 (rd l1 x5_1))) (ds := []) #[false, false, false, false, false, false, false, false, false, false, false, false, false, false, false, false, false] (by kernel_rfl) rfl rfl ⟨BK501.c 0, BK501.c 1, BK501.c 2, ((HB.out.cell (World.block_lt_of_cell? w _ hw503_0)).trans hw503_0), ((HB.out.cell (World.block_lt_of_cell? w _ hw506_0)).trans hw506_0)⟩ (fun hHeld => ?_); refine with_tabW spec_CrowdOk.tab4 spec_CrowdOk.bits4 (fun HT_ HW_ => ?_)
        generalize wr.drew = w12 at BK501 HB hx503_0 hx506_0 hHeld ⊢
        refine pv_ (i := 1) (N := some 13) HT_.out ?_
        refine pv_ (i := 2) (N := some 14) HT_.out ?_
        refine pv_ (i := 3) (N := some 15) HT_.out ?_
        refine tv5_ (i := 0) (N := some 12) HT_.out HW_.out hHeld ?_
        refine tv5_ (i := 4) (N := some 16) HT_.out HW_.out hHeld ?_
        refine ov_ (i := 5) (N := some 17) HT_.out (fun K hK => ?_)
        refine gq_ Tryd.func14 #[.agg #[.int .i64 a0_0, .int .i64 a0_1, .int .i64 a0_2], .int .i64 (rd l1 x5_1)] ?_
        with_reducible refine (spec_l04Has.calls a0_0 a0_1 a0_2 (rd l1 x5_1) true _ A6.out).mono ?_
        rintro e w13 ⟨rfl, hb⟩
        refine ⟨_, rfl, ?_⟩
        replace BK501 := BK501.bb hb
        replace HB := HB.s1 GE501 hb
        skip
        (try clear hb2)
        (try clear hk)
        (try clear hi)
        obtain ⟨i014, hi014, _, hsz14, _⟩ := info_parts info3
        obtain ⟨hcut14, hA14, hC14⟩ := print_take_of (P := Tryd.prog) (Value.int .i64) 0 26 3 .i64 Tryd.underlying26 hi014 hsz14 (some ad503) c1 l1 x5_1 (of_decide_eq_true (as_)) (of_decide_eq_true (as_)) HC1.out
        have HLENx5_1l1 := Aside0.mk (show (Value.slice (some ad503) (x5_1 : Int).toNat c1) = Value.slice (some ad503) (l1.take (x5_1 : Int).toNat).length c1 from by have a_ := of_decide_eq_true (show decide (x5_1 ≤ (l1.length : Int)) = true by assumption); have b_ : (l1.take (x5_1 : Int).toNat).length = (x5_1 : Int).toNat := (by rw [List.length_take]; omega); rw [b_])
        have HR505 := Aside0.mk (Kd.C_of_reads (h1 := fun _ => rfl) (hA14 _ (Kd.reads_of_C HR1.out)))
        have HC505 := Aside0.mk hC14
        clear hA14 hC14 hi014 hsz14
        refine hK.out _ _ ⟨BK501.c 0, BK501.c 1, BK501.c 2, ((HB.out.cell (World.block_lt_of_cell? w _ hw503_0)).trans hw503_0), ((HB.out.cell (World.block_lt_of_cell? w _ hw506_0)).trans hw506_0)⟩ (fun hHeld => ?_)
        clear hK K
        refine nm_ ?_
        refine pv_ (i := 6) (N := some 18) HT_.out ?_
        refine pv_ (i := 7) (N := some 19) HT_.out ?_
        refine pv_ (i := 8) (N := some 20) HT_.out ?_
        refine pv_ (i := 9) (N := some 21) HT_.out ?_
        refine pv_ (i := 10) (N := some 22) HT_.out ?_
        refine pv_ (i := 11) (N := some 23) HT_.out ?_
        refine pv_ (i := 12) (N := some 24) HT_.out ?_
        refine pv_ (i := 13) (N := some 25) HT_.out ?_
        refine tv5_ (i := 14) (N := some 26) HT_.out HW_.out hHeld ?_
        refine ov_ (i := 15) (N := some 27) HT_.out (fun K hK => ?_)
        refine goes_ Tryd.func15 (by kernel_rfl) rfl #[.slice (some ad503) (l1.take (x5_1 : Int).toNat).length c1, .int .i64 (rd l1 x5_1)] (by rfl) rfl rfl (by (try simp only [List.map_toArray, List.map_cons, List.map_nil]); first | done | (rw [show (l1.take (x5_1 : Int).toNat).length = x5_1.toNat from (by rw [List.length_take]; have h_ : (x5_1 : Int) ≤ (l1.length : Int) := of_decide_eq_true (as_); omega)] <;> rfl) | rfl | (simp only [List.length_drop, List.length_take]; rfl)) ?_
        with_reducible refine (spec_l07In.calls k1 _ _ (l1.take (x5_1 : Int).toNat) (rd l1 x5_1) true _ ?side1 ?side2 A10.out).mono ?_
        (case side1 => repeat (first | exact (Kd.C_below HR505.out HB.out) | (with_reducible refine Kd.C_alloc ?_ _) | (with_reducible refine Kd.C_drewN ?_ _) | (with_reducible refine Kd.C_drew ?_)))
        (case side2 => exact HC505.out)
        rintro e w' ⟨rfl, ⟨nd, rfl⟩⟩
        refine ⟨_, rfl, ?_⟩
        refine hK.out _ _ ⟨BK501.c 0, BK501.c 1, BK501.c 2, ((HB.out.cell (World.block_lt_of_cell? w _ hw503_0)).trans hw503_0), ((HB.out.cell (World.block_lt_of_cell? w _ hw506_0)).trans hw506_0)⟩ (fun hHeld => ?_)
        clear hK K
        refine nm_ ?_
        refine pv_ (i := 16) (N := some 28) HT_.out ?_
        refine done_ (done_of HT_.out (by kernel_rfl)) ?_
        try go_wp2
        go_ret
        exact ⟨ex_, hb1_ HB.out GE501.out⟩
       ·replace c11 := Bool.eq_false_iff.mpr c11
        subst c11
        have H1 : (spec_CrowdOk.l0 k1 l1 (wrap64 (x5_1 + 1)) a0_0 a0_1 a0_2) = some r := by rw [if_neg (show ¬ (false = true) by decide)] at H; exact H
        clear H
        have H := H1
        clear H1
        have H' := Aside0.mk H
        clear H
        try go_wp2
        replace BK501 := Aside0.mk (blk_drew BK501.out)
        replace HB := Aside0.mk (below_drew1 HB.out)
        have p503 : 0 ≤ (x5_1 : Int) := of_decide_eq_true (as_)
        have q503 : x5_1 < (l1.length : Int) := of_decide_eq_true (as_)
        obtain ⟨ad503, e503, hx503_0⟩ := Kd.at_int HR1.out x5_1 p503 q503
        have hw503_0 := hx503_0
        cases e503
        replace hx503_0 := (HB.out.cell (World.block_lt_of_cell? w _ hx503_0)).trans hx503_0
        replace p503 := eq_true p503
        replace q503 := eq_true q503
        have p506 : 0 ≤ (x5_1 : Int) := of_decide_eq_true (as_)
        have q506 : x5_1 < (l1.length : Int) := of_decide_eq_true (as_)
        obtain ⟨ad506, e506, hx506_0⟩ := Kd.at_int HR1.out x5_1 p506 q506
        have hw506_0 := hx506_0
        obtain rfl : ad503 = ad506 := (by injection e506)
        replace hx506_0 := (HB.out.cell (World.block_lt_of_cell? w _ hx506_0)).trans hx506_0
        replace p506 := eq_true p506
        replace q506 := eq_true q506
        refine start_ (n := 17) (S := fun w' => w'.cell? ⟨gb501, 0, none⟩ = some (.int .i64 a0_0) ∧ w'.cell? ⟨gb501, 1, none⟩ = some (.int .i64 a0_1) ∧ w'.cell? ⟨gb501, 2, none⟩ = some (.int .i64 a0_2) ∧ w'.cell? (ad503.add (x5_1).toNat) = some (.int .i64 (rd l1 x5_1)) ∧ w'.cell? (ad503.add (x5_1).toNat) = some (.int .i64 (rd l1 x5_1))) (ds := []) #[false, false, false, false, false, false, false, false, false, false, false, false, false, false, false, false, false] (by kernel_rfl) rfl rfl ⟨BK501.c 0, BK501.c 1, BK501.c 2, ((HB.out.cell (World.block_lt_of_cell? w _ hw503_0)).trans hw503_0), ((HB.out.cell (World.block_lt_of_cell? w _ hw506_0)).trans hw506_0)⟩ (fun hHeld => ?_); refine with_tabW spec_CrowdOk.tab4 spec_CrowdOk.bits4 (fun HT_ HW_ => ?_)
        generalize wr.drew = w15 at BK501 HB hx503_0 hx506_0 hHeld ⊢
        refine pv_ (i := 1) (N := some 13) HT_.out ?_
        refine pv_ (i := 2) (N := some 14) HT_.out ?_
        refine pv_ (i := 3) (N := some 15) HT_.out ?_
        refine tv5_ (i := 0) (N := some 12) HT_.out HW_.out hHeld ?_
        refine tv5_ (i := 4) (N := some 16) HT_.out HW_.out hHeld ?_
        refine ov_ (i := 5) (N := some 17) HT_.out (fun K hK => ?_)
        refine gq_ Tryd.func14 #[.agg #[.int .i64 a0_0, .int .i64 a0_1, .int .i64 a0_2], .int .i64 (rd l1 x5_1)] ?_
        with_reducible refine (spec_l04Has.calls a0_0 a0_1 a0_2 (rd l1 x5_1) true _ A6.out).mono ?_
        rintro e w16 ⟨rfl, hb⟩
        refine ⟨_, rfl, ?_⟩
        replace BK501 := BK501.bb hb
        replace HB := HB.s1 GE501 hb
        skip
        (try clear hb2)
        (try clear hk)
        (try clear hi)
        obtain ⟨i017, hi017, _, hsz17, _⟩ := info_parts info3
        obtain ⟨hcut17, hA17, hC17⟩ := print_take_of (P := Tryd.prog) (Value.int .i64) 0 26 3 .i64 Tryd.underlying26 hi017 hsz17 (some ad503) c1 l1 x5_1 (of_decide_eq_true (as_)) (of_decide_eq_true (as_)) HC1.out
        have HLENx5_1l1 := Aside0.mk (show (Value.slice (some ad503) (x5_1 : Int).toNat c1) = Value.slice (some ad503) (l1.take (x5_1 : Int).toNat).length c1 from by have a_ := of_decide_eq_true (show decide (x5_1 ≤ (l1.length : Int)) = true by assumption); have b_ : (l1.take (x5_1 : Int).toNat).length = (x5_1 : Int).toNat := (by rw [List.length_take]; omega); rw [b_])
        have HR505 := Aside0.mk (Kd.C_of_reads (h1 := fun _ => rfl) (hA17 _ (Kd.reads_of_C HR1.out)))
        have HC505 := Aside0.mk hC17
        clear hA17 hC17 hi017 hsz17
        refine hK.out _ _ ⟨BK501.c 0, BK501.c 1, BK501.c 2, ((HB.out.cell (World.block_lt_of_cell? w _ hw503_0)).trans hw503_0), ((HB.out.cell (World.block_lt_of_cell? w _ hw506_0)).trans hw506_0)⟩ (fun hHeld => ?_)
        clear hK K
        refine nm_ ?_
        refine pv_ (i := 6) (N := some 18) HT_.out ?_
        refine pv_ (i := 7) (N := some 19) HT_.out ?_
        refine pv_ (i := 8) (N := some 20) HT_.out ?_
        refine pv_ (i := 9) (N := some 21) HT_.out ?_
        refine pv_ (i := 10) (N := some 22) HT_.out ?_
        refine pv_ (i := 11) (N := some 23) HT_.out ?_
        refine pv_ (i := 12) (N := some 24) HT_.out ?_
        refine pv_ (i := 13) (N := some 25) HT_.out ?_
        refine tv5_ (i := 14) (N := some 26) HT_.out HW_.out hHeld ?_
        refine ov_ (i := 15) (N := some 27) HT_.out (fun K hK => ?_)
        refine goes_ Tryd.func15 (by kernel_rfl) rfl #[.slice (some ad503) (l1.take (x5_1 : Int).toNat).length c1, .int .i64 (rd l1 x5_1)] (by rfl) rfl rfl (by (try simp only [List.map_toArray, List.map_cons, List.map_nil]); first | done | (rw [show (l1.take (x5_1 : Int).toNat).length = x5_1.toNat from (by rw [List.length_take]; have h_ : (x5_1 : Int) ≤ (l1.length : Int) := of_decide_eq_true (as_); omega)] <;> rfl) | rfl | (simp only [List.length_drop, List.length_take]; rfl)) ?_
        with_reducible refine (spec_l07In.calls k1 _ _ (l1.take (x5_1 : Int).toNat) (rd l1 x5_1) false _ ?side1 ?side2 A10.out).mono ?_
        (case side1 => repeat (first | exact (Kd.C_below HR505.out HB.out) | (with_reducible refine Kd.C_alloc ?_ _) | (with_reducible refine Kd.C_drewN ?_ _) | (with_reducible refine Kd.C_drew ?_)))
        (case side2 => exact HC505.out)
        rintro e w' ⟨rfl, ⟨nd, rfl⟩⟩
        refine ⟨_, rfl, ?_⟩
        refine hK.out _ _ ⟨BK501.c 0, BK501.c 1, BK501.c 2, ((HB.out.cell (World.block_lt_of_cell? w _ hw503_0)).trans hw503_0), ((HB.out.cell (World.block_lt_of_cell? w _ hw506_0)).trans hw506_0)⟩ (fun hHeld => ?_)
        clear hK K
        refine nm_ ?_
        refine pv_ (i := 16) (N := some 28) HT_.out ?_
        refine done_ (done_of HT_.out (by kernel_rfl)) ?_
        try go_wp2
        go_roundg k1
        case measure => have := HK1.out; omega
        case rel => exact ⟨(wrap64 (x5_1 + 1)), (by first | rfl | (simp; done) | (simp [*]; done)), H', ⟨by have := HK1.out; omega⟩, ⟨bk_ BK501.out⟩, ⟨hb1_ HB.out GE501.out⟩⟩
      ·rw [if_neg c9] at H
       exact absurd H (by simp)
     ·replace c7 := Bool.eq_false_iff.mpr c7
      subst c7
      have H1 : (some false) = some r := by rw [if_neg (show ¬ (false = true) by decide)] at H; exact H
      clear H
      have H := H1
      clear H1
      obtain rfl := Option.some.inj H
      try go_wp2
      replace BK501 := Aside0.mk (blk_drew BK501.out)
      replace HB := Aside0.mk (below_drew1 HB.out)
      have p503 : 0 ≤ (x5_1 : Int) := of_decide_eq_true (as_)
      have q503 : x5_1 < (l1.length : Int) := of_decide_eq_true (as_)
      obtain ⟨ad503, e503, hx503_0⟩ := Kd.at_int HR1.out x5_1 p503 q503
      have hw503_0 := hx503_0
      cases e503
      replace hx503_0 := (HB.out.cell (World.block_lt_of_cell? w _ hx503_0)).trans hx503_0
      replace p503 := eq_true p503
      replace q503 := eq_true q503
      refine start_ (n := 17) (S := fun w' => w'.cell? ⟨gb501, 0, none⟩ = some (.int .i64 a0_0) ∧ w'.cell? ⟨gb501, 1, none⟩ = some (.int .i64 a0_1) ∧ w'.cell? ⟨gb501, 2, none⟩ = some (.int .i64 a0_2) ∧ w'.cell? (ad503.add (x5_1).toNat) = some (.int .i64 (rd l1 x5_1))) (ds := []) #[false, false, false, false, false, false, false, false, false, false, false, false, false, false, false, false, false] (by kernel_rfl) rfl rfl ⟨BK501.c 0, BK501.c 1, BK501.c 2, ((HB.out.cell (World.block_lt_of_cell? w _ hw503_0)).trans hw503_0)⟩ (fun hHeld => ?_); refine with_tabW spec_CrowdOk.tab4 spec_CrowdOk.bits4 (fun HT_ HW_ => ?_)
      generalize wr.drew = w18 at BK501 HB hx503_0 hHeld ⊢
      refine pv_ (i := 1) (N := some 13) HT_.out ?_
      refine pv_ (i := 2) (N := some 14) HT_.out ?_
      refine pv_ (i := 3) (N := some 15) HT_.out ?_
      refine tv4_ (i := 0) (N := some 12) HT_.out HW_.out hHeld ?_
      refine tv4_ (i := 4) (N := some 16) HT_.out HW_.out hHeld ?_
      refine ov_ (i := 5) (N := some 17) HT_.out (fun K hK => ?_)
      refine gq_ Tryd.func14 #[.agg #[.int .i64 a0_0, .int .i64 a0_1, .int .i64 a0_2], .int .i64 (rd l1 x5_1)] ?_
      with_reducible refine (spec_l04Has.calls a0_0 a0_1 a0_2 (rd l1 x5_1) false _ A6.out).mono ?_
      rintro e w19 ⟨rfl, hb⟩
      refine ⟨_, rfl, ?_⟩
      replace BK501 := BK501.bb hb
      replace HB := HB.s1 GE501 hb
      skip
      (try clear hb2)
      (try clear hk)
      (try clear hi)
      refine hK.out _ _ ⟨BK501.c 0, BK501.c 1, BK501.c 2, ((HB.out.cell (World.block_lt_of_cell? w _ hw503_0)).trans hw503_0)⟩ (fun hHeld => ?_)
      clear hK K
      refine nm_ ?_
      refine pv_ (i := 6) (N := some 18) HT_.out ?_
      refine pv_ (i := 7) (N := some 19) HT_.out ?_
      refine pu_ (i := 8) (N := some 20) HT_.out ?_
      refine pu_ (i := 9) (N := some 21) HT_.out ?_
      refine pu_ (i := 10) (N := some 22) HT_.out ?_
      refine pu_ (i := 11) (N := some 23) HT_.out ?_
      refine pu_ (i := 12) (N := some 24) HT_.out ?_
      refine pu_ (i := 13) (N := some 25) HT_.out ?_
      refine pu_ (i := 14) (N := some 26) HT_.out ?_
      refine pu_ (i := 15) (N := some 27) HT_.out ?_
      refine pv_ (i := 16) (N := some 28) HT_.out ?_
      refine done_ (done_of HT_.out (by kernel_rfl)) ?_
      try go_wp2
      go_ret
      exact ⟨ex_, hb1_ HB.out GE501.out⟩
    ·rw [if_neg c5] at H
     exact absurd H (by simp)
   ·rw [if_neg c4] at H
    have c4b0 : decide (x5_1 < (l1.length : Int)) = false := decide_eq_false c4
    clear c4
    replace H := Option.bind_eq_some_iff.mp H
    obtain ⟨t502, A200, H⟩ := H
    replace H : (if t502 = true then (some (decide ((l1.length : Int) ≤ 6))) else (some false)) = some r := H
    have A20 := Aside0.mk A200
    clear A200
    by_cases c21 : t502 = true
    ·subst c21
     have H1 : (some (decide ((l1.length : Int) ≤ 6))) = some r := by rw [if_pos rfl] at H; exact H
     clear H
     have H := H1
     clear H1
     obtain rfl := Option.some.inj H
     obtain ⟨hcz22_0, hcz22_1, hcz22_2⟩ := cz3_ BK501.out
     obtain ⟨hfz22_0, hfz22_1, hfz22_2⟩ := fz3_ BK501.out
     go_wp2_with (first | (refine gl_ 30 Tryd.func16 #[.agg #[.int .i64 a0_0, .int .i64 a0_1, .int .i64 a0_2]] ?_; (with_reducible refine (spec_MazeOk.calls a0_0 a0_1 a0_2 true _ A20.out).mono ?_); rintro e w23 ⟨rfl, hb⟩; refine ⟨_, rfl, ?_⟩; replace BK501 := BK501.bb hb; replace HB := HB.s1 GE501 hb; (try clear hb)))
     go_ret
     exact ⟨ex_, hb1_ HB.out GE501.out⟩
    ·replace c21 := Bool.eq_false_iff.mpr c21
     subst c21
     have H1 : (some false) = some r := by rw [if_neg (show ¬ (false = true) by decide)] at H; exact H
     clear H
     have H := H1
     clear H1
     obtain rfl := Option.some.inj H
     obtain ⟨hcz24_0, hcz24_1, hcz24_2⟩ := cz3_ BK501.out
     obtain ⟨hfz24_0, hfz24_1, hfz24_2⟩ := fz3_ BK501.out
     go_wp2_with (first | (refine gl_ 30 Tryd.func16 #[.agg #[.int .i64 a0_0, .int .i64 a0_1, .int .i64 a0_2]] ?_; (with_reducible refine (spec_MazeOk.calls a0_0 a0_1 a0_2 false _ A20.out).mono ?_); rintro e w25 ⟨rfl, hb⟩; refine ⟨_, rfl, ?_⟩; replace BK501 := BK501.bb hb; replace HB := HB.s1 GE501 hb; (try clear hb)))
     go_ret
     exact ⟨ex_, hb1_ HB.out GE501.out⟩

end Go.Proofs.YtgnnkjgfkdaddaaDoor.X
