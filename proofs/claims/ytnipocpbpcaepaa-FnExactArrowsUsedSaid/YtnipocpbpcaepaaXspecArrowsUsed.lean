-- Written by a program of this session (xprint.py), out of the translation and of hand-written contracts. Lean checks it.
import Derived.Test.YtnipocpbpcaepaaX0
import Derived.Test.YtnipocpbpcaepaaXspecArrowsOk
import Derived.Test.YtnipocpbpcaepaaXspecl15Order
import Derived.Test.YtnipocpbpcaepaaXspecl15Pop
namespace Go.Proofs.Ytnipocpbpcaepaa.X
open Go.RowKit Go.Proofs.YtnipocpbpcaepaaW.PrintWords Go.Proofs.YtnipocpbpcaepaaW.PrintLast Go.Proofs.YtnipocpbpcaepaaW.PrintMore
attribute [local go_sem] max2_int min2_int max_two min_two max_three min_three max_four min_four   -- for this text's walks alone
set_option linter.unusedVariables false
set_option linter.unusedSimpArgs false

/-! ### spec_ArrowsUsed: function 7 -/
def spec_ArrowsUsed.j0 : Nat → List (List Int) → List Int → Bool → Int → Int → Option (Int)
 | 0, _, _, _, _, _ => none
 | k + 1, x1, x2, x19, x502000, x502001 => if x19 = true then (some (-1)) else ((some (([] : List Int) : List Int)).bind fun y504 => (if y504.length + x2.length < 17592186044416 then ((spec_l15Pop.f k x502000 x502001 x1 (y504 ++ x2)).bind fun bt510 => (if bt510.2.2.2.2 = true then (some bt510.2.2.2.1) else (some (-1)))) else (none)))
def spec_ArrowsUsed.f (k : Nat) (a0_0 : Int) (a0_1 : Int) (l1 : List (List Int)) (l2 : List Int) : Option (Int) := (spec_ArrowsOk.f k a0_0 a0_1 l1).bind fun t502 => (if t502 = true then ((spec_l15Order.f k a0_0 a0_1 l2).bind fun t503 => (spec_ArrowsUsed.j0 k l1 l2 (!t503) a0_0 a0_1)) else (spec_ArrowsUsed.j0 k l1 l2 true a0_0 a0_1))
theorem spec_ArrowsUsed.mono_l : ∀ k, (∀ y0 y1 y2 y3 y4, LeO (spec_ArrowsUsed.j0 k y0 y1 y2 y3 y4) (spec_ArrowsUsed.j0 (k + 1) y0 y1 y2 y3 y4))
 | 0 => fun _ _ _ _ _ r h => by simp [spec_ArrowsUsed.j0] at h
 | k + 1 => by
  have ih0 := spec_ArrowsUsed.mono_l k
  ·intro y0 y1 y2 y3 y4
   unfold spec_ArrowsUsed.j0
   repeat' first
   | (with_reducible exact ih0 ..)
   | (with_reducible exact spec_ArrowsOk.mono ..)
   | (with_reducible exact spec_l15Order.mono ..)
   | (with_reducible exact spec_l15Pop.mono ..)
   | (with_reducible first | exact lr_ _ | exact ln_ _ | refine li_ ?_ ?_ | refine lb_ ?_ fun _ => ?_)
   | exact ih0 ..
   | exact spec_ArrowsOk.mono ..
   | exact spec_l15Order.mono ..
   | exact spec_l15Pop.mono ..
   | exact ln_ _ | refine li_ ?_ ?_ | refine lb_ ?_ fun _ => ?_
theorem spec_ArrowsUsed.mono : ∀ a0 a1 a2 a3 k, LeO (spec_ArrowsUsed.f k a0 a1 a2 a3) (spec_ArrowsUsed.f (k + 1) a0 a1 a2 a3) := by
 intro a0 a1 a2 a3 k
 have ih0 := spec_ArrowsUsed.mono_l k
 unfold spec_ArrowsUsed.f
 repeat' first
   | (with_reducible exact ih0 ..)
   | (with_reducible exact spec_ArrowsOk.mono ..)
   | (with_reducible exact spec_l15Order.mono ..)
   | (with_reducible exact spec_l15Pop.mono ..)
   | (with_reducible first | exact lr_ _ | exact ln_ _ | refine li_ ?_ ?_ | refine lb_ ?_ fun _ => ?_)
   | exact ih0 ..
   | exact spec_ArrowsOk.mono ..
   | exact spec_l15Order.mono ..
   | exact spec_l15Pop.mono ..
   | exact ln_ _ | refine li_ ?_ ?_ | refine lb_ ?_ fun _ => ?_
def spec_ArrowsUsed.T3 : Bool × List (List Nat × List Nat) := (true, [([], []), ([], []), ([], []), ([], []), ([2, 3], [2, 3]), ([0, 1, 4, 4], [0, 1, 4]), ([5], [5]), ([6], [6]), ([6], [6]), ([6], [6]), ([], []), ([10, 7, 5, 0, 1, 2, 3, 4, 5, 6, 7, 10], [7, 10]), ([8, 11, 0, 1, 2, 3, 4, 5, 6, 7, 8, 10, 11], [8]), ([9, 12, 0, 1, 2, 3, 4, 5, 6, 7, 8, 9, 10, 11, 12], [9])])
def spec_ArrowsUsed.B3 : List Nat := [0, 0, 0, 0, 12, 31, 63, 127, 127, 127, 0, 1279, 3583, 8191]
theorem spec_ArrowsUsed.tab3 : rtab .any (opsOf Try.f7 3) = spec_ArrowsUsed.T3 := by kernel_rfl
theorem spec_ArrowsUsed.bits3 : waitsOk spec_ArrowsUsed.T3.2 spec_ArrowsUsed.B3 = true := by kernel_rfl
set_option maxHeartbeats 8000000 in
set_option maxRecDepth 100000 in
theorem spec_ArrowsUsed.calls (k : Nat) (a0_0 : Int) (a0_1 : Int) (A1 : Option Addr) (c1 : Nat) (l1 : List (List Int)) (A2 : Option Addr) (c2 : Nat) (l2 : List Int) (r : Int) (w : World) (hr1 : Kd.C (Kd.slice 3 (Kd.int .i64)) w A1 l1.length l1) (hc1 : l1.length ≤ c1) (hr2 : Kd.C (Kd.int .i64) w A2 l2.length l2) (hc2 : l2.length ≤ c2) (h : spec_ArrowsUsed.f k a0_0 a0_1 l1 l2 = some r) :
  Calls Try.prog 7 #[.agg #[.int .i64 a0_0, .int .i64 a0_1], .slice A1 l1.length c1, .slice A2 l2.length c2] w fun e w' => e = .returned (.int .i64 r) ∧ Below w.heap.size w w' := by
 have hu28 := Try.underlying28
 have hu36 := Try.underlying36
 have HR1 := Aside0.mk hr1
 have HC1 := Aside0.mk hc1
 clear hr1 hc1
 have HR2 := Aside0.mk hr2
 have HC2 := Aside0.mk hc2
 clear hr2 hc2
 have HB := Aside0.mk (Below.refl w.heap.size w)
 have H : ((spec_ArrowsOk.f k a0_0 a0_1 l1).bind fun t502 => (if t502 = true then ((spec_l15Order.f k a0_0 a0_1 l2).bind fun t503 => (spec_ArrowsUsed.j0 k l1 l2 (!t503) a0_0 a0_1)) else (spec_ArrowsUsed.j0 k l1 l2 true a0_0 a0_1))) = some r := h
 clear h
 have HC4 := Aside0.mk H
 clear H
 go_enter Try.func7, Try.ntmps7
 go_upto_region 1 with (first | (refine box_ (N := 3) (cs := #[.int .i64 a0_0, .int .i64 a0_1]) (t := 28) ?_; intro gb501 hg w5 hbox hb; have BK501 := Aside0.mk (hbox); have GW501 := HB.g0 hg; have GE501 := HB.g0 hg; replace HB := HB.s0 hb; clear hb hbox hg))
 (try simp only [Act.put, List.setIfInBounds_toArray, List.set_cons_zero, List.set_cons_succ])
 go_cut [19] (fun v19 wc => ∃ (kq : Nat) (x19_3 : Bool), v19 = .bool x19_3 ∧ Aside0 (spec_ArrowsUsed.j0 kq l1 l2 x19_3 a0_0 a0_1 = some r) ∧ Aside0 (kq ≤ k) ∧ Aside0 (wc.heap[gb501]? = some (.cells #[.int .i64 a0_0, .int .i64 a0_1] 28 (0, 0))) ∧ Aside0 (Below w.heap.size w wc))
 case first =>
  have H := HC4.out
  clear HC4
  replace H := Option.bind_eq_some_iff.mp H
  obtain ⟨t502, A60, H⟩ := H
  replace H : (if t502 = true then ((spec_l15Order.f k a0_0 a0_1 l2).bind fun t503 => (spec_ArrowsUsed.j0 k l1 l2 (!t503) a0_0 a0_1)) else (spec_ArrowsUsed.j0 k l1 l2 true a0_0 a0_1)) = some r := H
  have A6 := Aside0.mk A60
  clear A60
  by_cases c7 : t502 = true
  ·subst c7
   have H1 : ((spec_l15Order.f k a0_0 a0_1 l2).bind fun t503 => (spec_ArrowsUsed.j0 k l1 l2 (!t503) a0_0 a0_1)) = some r := by rw [if_pos rfl] at H; exact H
   clear H
   have H := H1
   clear H1
   replace H := Option.bind_eq_some_iff.mp H
   obtain ⟨t503, A80, H⟩ := H
   replace H : (spec_ArrowsUsed.j0 k l1 l2 (!t503) a0_0 a0_1) = some r := H
   have A8 := Aside0.mk A80
   clear A80
   have H' := Aside0.mk H
   clear H
   obtain ⟨hcz9_0, hcz9_1⟩ := cz2_ BK501.out
   obtain ⟨hfz9_0, hfz9_1⟩ := fz2_ BK501.out
   go_wp2_with (first | (refine gl_ 12 Try.func22 #[.agg #[.int .i64 a0_0, .int .i64 a0_1], .slice A1 l1.length c1] ?_; (with_reducible refine (spec_ArrowsOk.calls k a0_0 a0_1 _ _ l1 true _ ?side1 ?side2 A6.out).mono ?_); (case side1 => repeat (first | exact (Kd.C_below HR1.out HB.out) | (with_reducible refine Kd.C_alloc ?_ _) | (with_reducible refine Kd.C_drewN ?_ _) | (with_reducible refine Kd.C_drew ?_))); (case side2 => exact HC1.out); rintro e w10 ⟨rfl, hb⟩; refine ⟨_, rfl, ?_⟩; replace BK501 := BK501.bb hb; replace HB := HB.s1 GE501 hb; (try clear hb); obtain ⟨hcz11_0, hcz11_1⟩ := cz2_ BK501.out; obtain ⟨hfz11_0, hfz11_1⟩ := fz2_ BK501.out) | (go_at_call 23; (with_reducible refine (spec_l15Order.calls k a0_0 a0_1 _ _ l2 t503 _ ?side1 ?side2 A8.out).mono ?_); (case side1 => repeat (first | exact (Kd.C_below HR2.out HB.out) | (with_reducible refine Kd.C_alloc ?_ _) | (with_reducible refine Kd.C_drewN ?_ _) | (with_reducible refine Kd.C_drew ?_))); (case side2 => exact HC2.out); rintro e w12 ⟨rfl, hb⟩; replace BK501 := BK501.bb hb; replace HB := HB.s1 GE501 hb; (try clear hb)))
   go_meet
   case rel => exact ⟨_, (!t503), (by first | rfl | (simp; done) | (simp [*]; done)), H', ⟨by first | omega | exact Nat.le_refl _⟩, ⟨bk_ BK501.out⟩, ⟨hb1_ HB.out GE501.out⟩⟩
  ·replace c7 := Bool.eq_false_iff.mpr c7
   subst c7
   have H1 : (spec_ArrowsUsed.j0 k l1 l2 true a0_0 a0_1) = some r := by rw [if_neg (show ¬ (false = true) by decide)] at H; exact H
   clear H
   have H := H1
   clear H1
   have H' := Aside0.mk H
   clear H
   obtain ⟨hcz13_0, hcz13_1⟩ := cz2_ BK501.out
   obtain ⟨hfz13_0, hfz13_1⟩ := fz2_ BK501.out
   go_wp2_with (first | (refine gl_ 12 Try.func22 #[.agg #[.int .i64 a0_0, .int .i64 a0_1], .slice A1 l1.length c1] ?_; (with_reducible refine (spec_ArrowsOk.calls k a0_0 a0_1 _ _ l1 false _ ?side1 ?side2 A6.out).mono ?_); (case side1 => repeat (first | exact (Kd.C_below HR1.out HB.out) | (with_reducible refine Kd.C_alloc ?_ _) | (with_reducible refine Kd.C_drewN ?_ _) | (with_reducible refine Kd.C_drew ?_))); (case side2 => exact HC1.out); rintro e w14 ⟨rfl, hb⟩; refine ⟨_, rfl, ?_⟩; replace BK501 := BK501.bb hb; replace HB := HB.s1 GE501 hb; (try clear hb)))
   go_meet
   case rel => exact ⟨_, (true), (by first | rfl | (simp; done) | (simp [*]; done)), H', ⟨by first | omega | exact Nat.le_refl _⟩, ⟨bk_ BK501.out⟩, ⟨hb1_ HB.out GE501.out⟩⟩
 case rest =>
  clear HC4
  try clear c1
  try clear c2
  try clear p2
  try clear c7
  try clear hcz11_0
  try clear hcz11_1
  try clear hcz13_0
  try clear hcz13_1
  try clear hcz9_0
  try clear hcz9_1
  try clear hfz11_0
  try clear hfz11_1
  try clear hfz13_0
  try clear hfz13_1
  try clear hfz9_0
  try clear hfz9_1
  obtain ⟨kq, x19_3, rfl, HA, HJ3, BK501, HB⟩ := hcut
  cases kq with
  | zero => exact absurd HA.out (by simp [spec_ArrowsUsed.j0])
  | succ kj3 =>
   have H := HA.out
   clear HA
   simp only [spec_ArrowsUsed.j0] at H
   by_cases c15 : x19_3 = true
   ·subst c15
    have H1 : (some (-1)) = some r := by rw [if_pos rfl] at H; exact H
    clear H
    have H := H1
    clear H1
    obtain rfl := Option.some.inj H
    go_wp2
    go_ret
    exact ⟨ex_, hb1_ HB.out GE501.out⟩
   ·replace c15 := Bool.eq_false_iff.mpr c15
    subst c15
    have H1 : ((some (([] : List Int) : List Int)).bind fun y504 => (if y504.length + l2.length < 17592186044416 then ((spec_l15Pop.f kj3 a0_0 a0_1 l1 (y504 ++ l2)).bind fun bt510 => (if bt510.2.2.2.2 = true then (some bt510.2.2.2.1) else (some (-1)))) else (none))) = some r := by rw [if_neg (show ¬ (false = true) by decide)] at H; exact H
    clear H
    have H := H1
    clear H1
    obtain ⟨y504, hy504⟩ : ∃ y_ : List Int, y_ = (([] : List Int)) := ⟨_, rfl⟩
    replace H : (if y504.length + l2.length < 17592186044416 then ((spec_l15Pop.f kj3 a0_0 a0_1 l1 (y504 ++ l2)).bind fun bt510 => (if bt510.2.2.2.2 = true then (some bt510.2.2.2.1) else (some (-1)))) else (none)) = some r := by first | (rw [hy504]; with_reducible exact H) | (have H2_ := (Option.bind_some _ _).symm.trans H; rw [hy504]; with_reducible exact H2_) | (have H2_ := (Option.bind_some _ _).symm.trans H; with_reducible exact H2_) | with_reducible exact H | (rw [hy504]; exact H) | exact H
    have Ny504 := Aside0.mk hy504
    clear hy504
    by_cases c16 : y504.length + l2.length < 17592186044416
    ·rw [if_pos c16] at H
     have LMc16 := Aside0.mk c16
     clear c16
     obtain ⟨y507, hy507⟩ : ∃ y_ : List Int, y_ = (y504 ++ l2) := ⟨_, rfl⟩
     replace H : ((spec_l15Pop.f kj3 a0_0 a0_1 l1 y507).bind fun bt510 => (if bt510.2.2.2.2 = true then (some bt510.2.2.2.1) else (some (-1)))) = some r := by first | (rw [hy507]; with_reducible exact H) | (have H2_ := (Option.bind_some _ _).symm.trans H; rw [hy507]; with_reducible exact H2_) | (have H2_ := (Option.bind_some _ _).symm.trans H; with_reducible exact H2_) | with_reducible exact H | (rw [hy507]; exact H) | exact H
     have Ny507 := Aside0.mk hy507
     clear hy507
     replace H := Option.bind_eq_some_iff.mp H
     obtain ⟨⟨t510, t511, t512, t513, t514⟩, A170, H⟩ := H
     replace H : (if t514 = true then (some t513) else (some (-1))) = some r := H
     have A17 := Aside0.mk A170
     clear A170
     by_cases c18 : t514 = true
     ·subst c18
      have H1 : (some t513) = some r := by rw [if_pos rfl] at H; exact H
      clear H
      have H := H1
      clear H1
      obtain rfl := Option.some.inj H
      try go_wp2
      replace BK501 := Aside0.mk (blk_drew BK501.out)
      replace HB := Aside0.mk (below_drew1 HB.out)
      refine start_ (n := 14) (S := fun w' => w'.cell? ⟨gb501, 0, none⟩ = some (.int .i64 a0_0) ∧ w'.cell? ⟨gb501, 1, none⟩ = some (.int .i64 a0_1)) (ds := []) #[false, false, false, false, false, false, false, false, false, false, false, false, false, false] (by kernel_rfl) rfl rfl ⟨BK501.c 0, BK501.c 1⟩ (fun hHeld => ?_); refine with_tabW spec_ArrowsUsed.tab3 spec_ArrowsUsed.bits3 (fun HT_ HW_ => ?_)
      generalize wc.drew = w19 at BK501 HB hHeld ⊢
      refine pv_ (i := 1) (N := some 22) HT_.out ?_
      refine pv_ (i := 3) (N := some 24) HT_.out ?_
      refine tv2_ (i := 0) (N := some 21) HT_.out HW_.out hHeld ?_
      refine join_ (σ := Value × Value × Nat) 3 #[true, true, true, true, true, true, true, true, true, true, true, false, false, false] (fun s_ => [(23, s_.1), (25, s_.2.1), (26, .tuple #[.agg #[.int .i64 t510, .int .i64 t511, .int .i64 t512], .int .i64 t513, .bool true]), (7, .pointer (some ⟨s_.2.2, 0, none⟩)), (20, .tuple #[.agg #[.int .i64 t510, .int .i64 t511, .int .i64 t512], .int .i64 t513, .bool true]), (27, .agg #[.int .i64 t510, .int .i64 t511, .int .i64 t512]), (28, .int .i64 t513), (29, .bool true)]) (fun s_ w' => (w'.cell? ⟨gb501, 0, none⟩ = some (.int .i64 a0_0) ∧ w'.cell? ⟨gb501, 1, none⟩ = some (.int .i64 a0_1)) ∧ (w'.heap[gb501]? = some (.cells #[.int .i64 a0_0, .int .i64 a0_1] 28 (0, 0))) ∧ (w'.heap[s_.2.2]? = some (.cells #[.int .i64 0, .int .i64 0, .int .i64 0] 36 (0, 0))) ∧ (w.heap.size ≤ s_.2.2) ∧ (w.heap.size ≤ s_.2.2) ∧ (gb501 ≠ s_.2.2) ∧ (s_.2.2 ≠ gb501) ∧ (Below w.heap.size w w')) ?_ ?_
      rotate_left
      ·intro hCont
       refine two_ (i := 2) (j := 10) (Ni := some 23) (Nj := some 7) #[true, true, true, true, false, false, false, false, false, false, false, false, false, false] #[true, true, false, true, false, false, false, false, false, false, true, false, false, false] rfl rfl rfl rfl (two_of HT_.out (by kernel_rfl)) (by decide) (by decide) (fun K hK => ?_) (fun K hK => ?_)
       ·skip
        refine Kd.R_lit_step (Kd.int .i64) _ 3 ?hg (N := 23) ?hd (xs := ([] : List Int)) (inner := []) (ok := fun _ => True) (okp := fun _ => True) ?hr ?hp (fun _ hk => hk) trivial (Below.refl _ _) (Nat.le_refl _) (by simp) ?_; (case hd => rfl); (case hg => rfl); (case hr => first | (go_simp; done) | (go_simp; rfl)); (case hp => exact (Reps.none _ _))
        intro v505 w20 ho21 hb hg_ hnew_
        clear hg_ hnew_
        (first | rw [← Ny504.out] at ho21 | (simp only [Int.reduceToNat] at ho21; rw [← Ny504.out] at ho21))
        have HO506 := Aside0.mk (Kd.R_lower ho21 (below_size (hb1_ HB.out GE501.out)))
        replace BK501 := BK501.bb hb
        replace HB := HB.s1 GE501 hb
        clear hb ho21
        refine hK.out _ _ ⟨BK501.c 0, BK501.c 1⟩ (fun hHeld => ?_)
        clear hK K
        refine norm_ (a' := ?_) ?_ ?_
        rotate_left
        ·show Act.put _ (some 23) _ = _
         simp only [Act.put, List.setIfInBounds_toArray, List.set_cons_zero, List.set_cons_succ, i64_w, i32_w]
         rfl
        refine two_ (i := 4) (j := 10) (Ni := some 25) (Nj := some 7) #[true, true, true, true, true, false, false, false, false, false, false, false, false, false] #[true, true, true, true, false, false, false, false, false, false, true, false, false, false] rfl rfl rfl rfl (two_of HT_.out (by kernel_rfl)) (by decide) (by decide) (fun K hK => ?_) (fun K hK => ?_)
        ·skip
         refine Kd.R_append_rows_step (Kd.int .i64) (w0 := w) w.heap.size (by rfl) (.tmp 23) (.tmp 24) 25 3 (.int .i64 0) 8 rfl Try.underlying25 info3 rfl (by decide) (by omega) v505 y504 l2 _ _ _ (fun _ => True) (fun _ => False) rfl rfl ?aO ?aR (fun _ _ h => h) (fun _ h => h.elim) ?aF ?aB ?aS ?aL ?_
         (case aR => repeat (first | exact (Kd.C_below HR2.out HB.out) | (with_reducible refine Kd.C_alloc ?_ _) | (with_reducible refine Kd.C_drewN ?_ _) | (with_reducible refine Kd.C_drew ?_)))
         (case aB => exact (hb1_ HB.out GE501.out))
         (case aF => exact (fun _ _ => trivial))
         (case aO => exact (kr_ HO506.out))
         (case aS => exact (below_size (hb1_ HB.out GE501.out)))
         (case aL => have := LMc16.out; omega)
         intro v508 w22 ho hb hg hat
         rw [← Ny507.out] at ho
         replace BK501 := Aside0.mk (blk_grown (g := gb501) (o := .cells #[.int .i64 a0_0, .int .i64 a0_1] 28 (0, 0)) (bk_ BK501.out) hg (Kd.R_ne HO506.out BK501.out (by decide)))
         replace HB := Aside0.mk (hb)
         have HO509 := Aside0.mk (ho)
         clear HO506
         clear ho hb hg hat
         obtain ⟨Ao23, co23, eo23⟩ := Kd.R_slice HO509.out
         (first | subst eo23 | (injection eo23 with f1_ f2_ f3_; have f4_ := f1_.symm; have f5_ := f3_.symm; clear f1_ f2_ f3_; subst f4_; subst f5_))
         refine hK.out _ _ ⟨BK501.c 0, BK501.c 1⟩ (fun hHeld => ?_)
         clear hK K
         refine norm_ (a' := ?_) ?_ ?_
         rotate_left
         ·show Act.put _ (some 25) _ = _
          simp only [Act.put, List.setIfInBounds_toArray, List.set_cons_zero, List.set_cons_succ, i64_w, i32_w]
          rfl
         refine two_ (i := 5) (j := 10) (Ni := some 26) (Nj := some 7) #[true, true, true, true, true, true, false, false, false, false, false, false, false, false] #[true, true, true, true, true, false, false, false, false, false, true, false, false, false] rfl rfl rfl rfl (two_of HT_.out (by kernel_rfl)) (by decide) (by decide) (fun K hK => ?_) (fun K hK => ?_)
         ·skip
          refine gq_ Try.func24 #[.agg #[.int .i64 a0_0, .int .i64 a0_1], .slice A1 l1.length c1, .slice Ao23 y507.length co23] ?_
          with_reducible refine (spec_l15Pop.calls kj3 a0_0 a0_1 _ _ l1 (fun k_ => some k_ = (.slice Ao23 y507.length co23 : Value).ownBlock) (.slice Ao23 y507.length co23) y507 t510 t511 t512 t513 true w _ ?side1 ?side2 ?side3 ?side4 A17.out).mono ?_
          (case side1 => repeat (first | (with_reducible first | exact HB.out | apply below_alloc | apply pw_below_drewN | apply below_drew1 | refine below_set ?_ GE501.out) | exact HB.out))
          (case side2 => exact Kd.C_kept_came (Kd.heap_slice 3 (Kd.heap_int .i64)) HR1.out (hb1_ HB.out GE501.out) (fun k_ hs_ => (fun e_ => Kd.R_base HO509.out k_ e_.symm) hs_))
          (case side3 => exact HC1.out)
          (case side4 => exact Kd.R_tight rfl HO509.out)
          rintro e w24 ⟨rfl, hb, hkp⟩
          refine ⟨_, rfl, ?_⟩
          replace BK501 := Aside0.mk (blk_kept (bk_ BK501.out) hkp (fun hs_ => (fun e_ => (Kd.R_ne HO509.out BK501.out (by decide)) e_) hs_))
          replace HB := Aside0.mk (hb)
          clear HO509
          skip
          (try clear hkp)
          refine hK.out _ _ ⟨BK501.c 0, BK501.c 1⟩ (fun hHeld => ?_)
          clear hK K
          refine nm_ ?_
          refine pv_ (i := 6) (N := some 20) HT_.out ?_
          refine pv_ (i := 7) (N := some 27) HT_.out ?_
          refine pv_ (i := 8) (N := some 28) HT_.out ?_
          refine pv_ (i := 9) (N := some 29) HT_.out ?_
          refine ov_ (i := 10) (N := some 7) HT_.out (fun K hK => ?_)
          refine box_step ?hg (N := 7) ?hd (cs := #[.int .i64 0, .int .i64 0, .int .i64 0]) (t := 36) ?hr ?_; (case hd => rfl); (case hg => rfl); (case hr => first | (go_simp; done) | (go_simp; rfl))
          intro gb515 hg w25 hbox hb
          have n0_ := BK501.bb hb
          have n1_ := HB.s1 GE501 hb
          have n2_ := Aside0.mk (hbox)
          have n3_ := HB.g1 GE501 hg
          have n4_ := HB.g1 GE501 hg
          have n5_ := BK501.nl hg
          have n6_ := BK501.nr hg
          clear BK501
          clear HB
          have BK501 := n0_
          have HB := n1_
          have BK515 := n2_
          have GW515 := n3_
          have GE515 := n4_
          have NB501_515 := n5_
          have NB515_501 := n6_
          clear n0_ n1_ n2_ n3_ n4_ n5_ n6_
          clear hb hbox hg
          refine hK.out _ _ ⟨BK501.c 0, BK501.c 1⟩ (fun hHeld => ?_)
          clear hK K
          refine norm_ (a' := ?_) ?_ ?_
          rotate_left
          ·show Act.put _ (some 7) _ = _
           simp only [Act.put, List.setIfInBounds_toArray, List.set_cons_zero, List.set_cons_succ, i64_w, i32_w]
           rfl
          exact norm_ (by simp only [putAll, Act.put, List.setIfInBounds_toArray, List.set_cons_zero, List.set_cons_succ]) (hCont (v505, .slice Ao23 y507.length co23, gb515) _ ⟨hHeld, (bk_ BK501.out), (bk_ BK515.out), GW515.out, GE515.out, NB501_515.out, NB515_501.out, (hb2_ HB.out GE501.out GE515.out)⟩)
         ·skip
          refine box_step ?hg (N := 7) ?hd (cs := #[.int .i64 0, .int .i64 0, .int .i64 0]) (t := 36) ?hr ?_; (case hd => rfl); (case hg => rfl); (case hr => first | (go_simp; done) | (go_simp; rfl))
          intro gb515 hg w23 hbox hb
          have n0_ := HO509.kb hb
          have n1_ := BK501.bb hb
          have n2_ := HB.s1 GE501 hb
          have n3_ := Aside0.mk (hbox)
          have n4_ := HB.g1 GE501 hg
          have n5_ := HB.g1 GE501 hg
          have n6_ := BK501.nl hg
          have n7_ := BK501.nr hg
          clear HO509
          clear BK501
          clear HB
          have HO509 := n0_
          have BK501 := n1_
          have HB := n2_
          have BK515 := n3_
          have GW515 := n4_
          have GE515 := n5_
          have NB501_515 := n6_
          have NB515_501 := n7_
          clear n0_ n1_ n2_ n3_ n4_ n5_ n6_ n7_
          clear hb hbox hg
          obtain ⟨Ao24, co24, eo24⟩ := Kd.R_slice HO509.out
          (first | subst eo24 | (injection eo24 with f1_ f2_ f3_; have f4_ := f1_.symm; have f5_ := f3_.symm; clear f1_ f2_ f3_; subst f4_; subst f5_))
          refine hK.out _ _ ⟨BK501.c 0, BK501.c 1⟩ (fun hHeld => ?_)
          clear hK K
          refine norm_ (a' := ?_) ?_ ?_
          rotate_left
          ·show Act.put _ (some 7) _ = _
           simp only [Act.put, List.setIfInBounds_toArray, List.set_cons_zero, List.set_cons_succ, i64_w, i32_w]
           rfl
          refine ov_ (i := 5) (N := some 26) HT_.out (fun K hK => ?_)
          refine gq_ Try.func24 #[.agg #[.int .i64 a0_0, .int .i64 a0_1], .slice A1 l1.length c1, .slice Ao24 y507.length co24] ?_
          with_reducible refine (spec_l15Pop.calls kj3 a0_0 a0_1 _ _ l1 (fun k_ => some k_ = (.slice Ao24 y507.length co24 : Value).ownBlock) (.slice Ao24 y507.length co24) y507 t510 t511 t512 t513 true w _ ?side1 ?side2 ?side3 ?side4 A17.out).mono ?_
          (case side1 => repeat (first | (with_reducible first | exact HB.out | apply below_alloc | apply pw_below_drewN | apply below_drew1 | refine below_set ?_ GE501.out | refine below_set ?_ GE515.out) | exact HB.out))
          (case side2 => exact Kd.C_kept_came (Kd.heap_slice 3 (Kd.heap_int .i64)) HR1.out (hb2_ HB.out GE501.out GE515.out) (fun k_ hs_ => (fun e_ => Kd.R_base HO509.out k_ e_.symm) hs_))
          (case side3 => exact HC1.out)
          (case side4 => exact Kd.R_tight rfl HO509.out)
          rintro e w25 ⟨rfl, hb, hkp⟩
          refine ⟨_, rfl, ?_⟩
          replace BK501 := Aside0.mk (blk_kept (bk_ BK501.out) hkp (fun hs_ => (fun e_ => (Kd.R_ne HO509.out BK501.out (by decide)) e_) hs_))
          replace BK515 := Aside0.mk (blk_kept (bk_ BK515.out) hkp (fun hs_ => (fun e_ => (Kd.R_ne HO509.out BK515.out (by decide)) e_) hs_))
          replace HB := Aside0.mk (hb)
          clear HO509
          skip
          (try clear hkp)
          refine hK.out _ _ ⟨BK501.c 0, BK501.c 1⟩ (fun hHeld => ?_)
          clear hK K
          refine nm_ ?_
          refine pv_ (i := 6) (N := some 20) HT_.out ?_
          refine pv_ (i := 7) (N := some 27) HT_.out ?_
          refine pv_ (i := 8) (N := some 28) HT_.out ?_
          refine pv_ (i := 9) (N := some 29) HT_.out ?_
          exact norm_ (by simp only [putAll, Act.put, List.setIfInBounds_toArray, List.set_cons_zero, List.set_cons_succ]) (hCont (v505, .slice Ao24 y507.length co24, gb515) _ ⟨hHeld, (bk_ BK501.out), (bk_ BK515.out), GW515.out, GE515.out, NB501_515.out, NB515_501.out, (hb2_ HB.out GE501.out GE515.out)⟩)
        ·skip
         refine box_step ?hg (N := 7) ?hd (cs := #[.int .i64 0, .int .i64 0, .int .i64 0]) (t := 36) ?hr ?_; (case hd => rfl); (case hg => rfl); (case hr => first | (go_simp; done) | (go_simp; rfl))
         intro gb515 hg w22 hbox hb
         have n0_ := HO506.kb hb
         have n1_ := BK501.bb hb
         have n2_ := HB.s1 GE501 hb
         have n3_ := Aside0.mk (hbox)
         have n4_ := HB.g1 GE501 hg
         have n5_ := HB.g1 GE501 hg
         have n6_ := BK501.nl hg
         have n7_ := BK501.nr hg
         clear HO506
         clear BK501
         clear HB
         have HO506 := n0_
         have BK501 := n1_
         have HB := n2_
         have BK515 := n3_
         have GW515 := n4_
         have GE515 := n5_
         have NB501_515 := n6_
         have NB515_501 := n7_
         clear n0_ n1_ n2_ n3_ n4_ n5_ n6_ n7_
         clear hb hbox hg
         refine hK.out _ _ ⟨BK501.c 0, BK501.c 1⟩ (fun hHeld => ?_)
         clear hK K
         refine norm_ (a' := ?_) ?_ ?_
         rotate_left
         ·show Act.put _ (some 7) _ = _
          simp only [Act.put, List.setIfInBounds_toArray, List.set_cons_zero, List.set_cons_succ, i64_w, i32_w]
          rfl
         refine ov_ (i := 4) (N := some 25) HT_.out (fun K hK => ?_)
         refine Kd.R_append_rows_step (Kd.int .i64) (w0 := w) w.heap.size (by rfl) (.tmp 23) (.tmp 24) 25 3 (.int .i64 0) 8 rfl Try.underlying25 info3 rfl (by decide) (by omega) v505 y504 l2 _ _ _ (fun _ => True) (fun _ => False) rfl rfl ?aO ?aR (fun _ _ h => h) (fun _ h => h.elim) ?aF ?aB ?aS ?aL ?_
         (case aR => repeat (first | exact (Kd.C_below HR2.out HB.out) | (with_reducible refine Kd.C_alloc ?_ _) | (with_reducible refine Kd.C_drewN ?_ _) | (with_reducible refine Kd.C_drew ?_)))
         (case aB => exact (hb2_ HB.out GE501.out GE515.out))
         (case aF => exact (fun _ _ => trivial))
         (case aO => exact (kr_ HO506.out))
         (case aS => exact (below_size (hb2_ HB.out GE501.out GE515.out)))
         (case aL => have := LMc16.out; omega)
         intro v508 w23 ho hb hg hat
         rw [← Ny507.out] at ho
         replace BK501 := Aside0.mk (blk_grown (g := gb501) (o := .cells #[.int .i64 a0_0, .int .i64 a0_1] 28 (0, 0)) (bk_ BK501.out) hg (Kd.R_ne HO506.out BK501.out (by decide)))
         replace BK515 := Aside0.mk (blk_grown (g := gb515) (o := .cells #[.int .i64 0, .int .i64 0, .int .i64 0] 36 (0, 0)) (bk_ BK515.out) hg (Kd.R_ne HO506.out BK515.out (by decide)))
         replace HB := Aside0.mk (hb)
         have HO509 := Aside0.mk (ho)
         clear HO506
         clear ho hb hg hat
         obtain ⟨Ao24, co24, eo24⟩ := Kd.R_slice HO509.out
         (first | subst eo24 | (injection eo24 with f1_ f2_ f3_; have f4_ := f1_.symm; have f5_ := f3_.symm; clear f1_ f2_ f3_; subst f4_; subst f5_))
         refine hK.out _ _ ⟨BK501.c 0, BK501.c 1⟩ (fun hHeld => ?_)
         clear hK K
         refine norm_ (a' := ?_) ?_ ?_
         rotate_left
         ·show Act.put _ (some 25) _ = _
          simp only [Act.put, List.setIfInBounds_toArray, List.set_cons_zero, List.set_cons_succ, i64_w, i32_w]
          rfl
         refine ov_ (i := 5) (N := some 26) HT_.out (fun K hK => ?_)
         refine gq_ Try.func24 #[.agg #[.int .i64 a0_0, .int .i64 a0_1], .slice A1 l1.length c1, .slice Ao24 y507.length co24] ?_
         with_reducible refine (spec_l15Pop.calls kj3 a0_0 a0_1 _ _ l1 (fun k_ => some k_ = (.slice Ao24 y507.length co24 : Value).ownBlock) (.slice Ao24 y507.length co24) y507 t510 t511 t512 t513 true w _ ?side1 ?side2 ?side3 ?side4 A17.out).mono ?_
         (case side1 => repeat (first | (with_reducible first | exact HB.out | apply below_alloc | apply pw_below_drewN | apply below_drew1 | refine below_set ?_ GE501.out | refine below_set ?_ GE515.out) | exact HB.out))
         (case side2 => exact Kd.C_kept_came (Kd.heap_slice 3 (Kd.heap_int .i64)) HR1.out (hb2_ HB.out GE501.out GE515.out) (fun k_ hs_ => (fun e_ => Kd.R_base HO509.out k_ e_.symm) hs_))
         (case side3 => exact HC1.out)
         (case side4 => exact Kd.R_tight rfl HO509.out)
         rintro e w25 ⟨rfl, hb, hkp⟩
         refine ⟨_, rfl, ?_⟩
         replace BK501 := Aside0.mk (blk_kept (bk_ BK501.out) hkp (fun hs_ => (fun e_ => (Kd.R_ne HO509.out BK501.out (by decide)) e_) hs_))
         replace BK515 := Aside0.mk (blk_kept (bk_ BK515.out) hkp (fun hs_ => (fun e_ => (Kd.R_ne HO509.out BK515.out (by decide)) e_) hs_))
         replace HB := Aside0.mk (hb)
         clear HO509
         skip
         (try clear hkp)
         refine hK.out _ _ ⟨BK501.c 0, BK501.c 1⟩ (fun hHeld => ?_)
         clear hK K
         refine nm_ ?_
         refine pv_ (i := 6) (N := some 20) HT_.out ?_
         refine pv_ (i := 7) (N := some 27) HT_.out ?_
         refine pv_ (i := 8) (N := some 28) HT_.out ?_
         refine pv_ (i := 9) (N := some 29) HT_.out ?_
         exact norm_ (by simp only [putAll, Act.put, List.setIfInBounds_toArray, List.set_cons_zero, List.set_cons_succ]) (hCont (v505, .slice Ao24 y507.length co24, gb515) _ ⟨hHeld, (bk_ BK501.out), (bk_ BK515.out), GW515.out, GE515.out, NB501_515.out, NB515_501.out, (hb2_ HB.out GE501.out GE515.out)⟩)
       ·skip
        refine box_step ?hg (N := 7) ?hd (cs := #[.int .i64 0, .int .i64 0, .int .i64 0]) (t := 36) ?hr ?_; (case hd => rfl); (case hg => rfl); (case hr => first | (go_simp; done) | (go_simp; rfl))
        intro gb515 hg w20 hbox hb
        have n0_ := BK501.bb hb
        have n1_ := HB.s1 GE501 hb
        have n2_ := Aside0.mk (hbox)
        have n3_ := HB.g1 GE501 hg
        have n4_ := HB.g1 GE501 hg
        have n5_ := BK501.nl hg
        have n6_ := BK501.nr hg
        clear BK501
        clear HB
        have BK501 := n0_
        have HB := n1_
        have BK515 := n2_
        have GW515 := n3_
        have GE515 := n4_
        have NB501_515 := n5_
        have NB515_501 := n6_
        clear n0_ n1_ n2_ n3_ n4_ n5_ n6_
        clear hb hbox hg
        refine hK.out _ _ ⟨BK501.c 0, BK501.c 1⟩ (fun hHeld => ?_)
        clear hK K
        refine norm_ (a' := ?_) ?_ ?_
        rotate_left
        ·show Act.put _ (some 7) _ = _
         simp only [Act.put, List.setIfInBounds_toArray, List.set_cons_zero, List.set_cons_succ, i64_w, i32_w]
         rfl
        refine ov_ (i := 2) (N := some 23) HT_.out (fun K hK => ?_)
        refine Kd.R_lit_step (Kd.int .i64) _ 3 ?hg (N := 23) ?hd (xs := ([] : List Int)) (inner := []) (ok := fun _ => True) (okp := fun _ => True) ?hr ?hp (fun _ hk => hk) trivial (Below.refl _ _) (Nat.le_refl _) (by simp) ?_; (case hd => rfl); (case hg => rfl); (case hr => first | (go_simp; done) | (go_simp; rfl)); (case hp => exact (Reps.none _ _))
        intro v505 w21 ho22 hb hg_ hnew_
        clear hg_ hnew_
        (first | rw [← Ny504.out] at ho22 | (simp only [Int.reduceToNat] at ho22; rw [← Ny504.out] at ho22))
        have HO506 := Aside0.mk (Kd.R_lower ho22 (below_size (hb2_ HB.out GE501.out GE515.out)))
        replace BK501 := BK501.bb hb
        replace BK515 := BK515.bb hb
        replace HB := HB.s2 GE501 GE515 hb
        clear hb ho22
        refine hK.out _ _ ⟨BK501.c 0, BK501.c 1⟩ (fun hHeld => ?_)
        clear hK K
        refine norm_ (a' := ?_) ?_ ?_
        rotate_left
        ·show Act.put _ (some 23) _ = _
         simp only [Act.put, List.setIfInBounds_toArray, List.set_cons_zero, List.set_cons_succ, i64_w, i32_w]
         rfl
        refine ov_ (i := 4) (N := some 25) HT_.out (fun K hK => ?_)
        refine Kd.R_append_rows_step (Kd.int .i64) (w0 := w) w.heap.size (by rfl) (.tmp 23) (.tmp 24) 25 3 (.int .i64 0) 8 rfl Try.underlying25 info3 rfl (by decide) (by omega) v505 y504 l2 _ _ _ (fun _ => True) (fun _ => False) rfl rfl ?aO ?aR (fun _ _ h => h) (fun _ h => h.elim) ?aF ?aB ?aS ?aL ?_
        (case aR => repeat (first | exact (Kd.C_below HR2.out HB.out) | (with_reducible refine Kd.C_alloc ?_ _) | (with_reducible refine Kd.C_drewN ?_ _) | (with_reducible refine Kd.C_drew ?_)))
        (case aB => exact (hb2_ HB.out GE501.out GE515.out))
        (case aF => exact (fun _ _ => trivial))
        (case aO => exact (kr_ HO506.out))
        (case aS => exact (below_size (hb2_ HB.out GE501.out GE515.out)))
        (case aL => have := LMc16.out; omega)
        intro v508 w23 ho hb hg hat
        rw [← Ny507.out] at ho
        replace BK501 := Aside0.mk (blk_grown (g := gb501) (o := .cells #[.int .i64 a0_0, .int .i64 a0_1] 28 (0, 0)) (bk_ BK501.out) hg (Kd.R_ne HO506.out BK501.out (by decide)))
        replace BK515 := Aside0.mk (blk_grown (g := gb515) (o := .cells #[.int .i64 0, .int .i64 0, .int .i64 0] 36 (0, 0)) (bk_ BK515.out) hg (Kd.R_ne HO506.out BK515.out (by decide)))
        replace HB := Aside0.mk (hb)
        have HO509 := Aside0.mk (ho)
        clear HO506
        clear ho hb hg hat
        obtain ⟨Ao24, co24, eo24⟩ := Kd.R_slice HO509.out
        (first | subst eo24 | (injection eo24 with f1_ f2_ f3_; have f4_ := f1_.symm; have f5_ := f3_.symm; clear f1_ f2_ f3_; subst f4_; subst f5_))
        refine hK.out _ _ ⟨BK501.c 0, BK501.c 1⟩ (fun hHeld => ?_)
        clear hK K
        refine norm_ (a' := ?_) ?_ ?_
        rotate_left
        ·show Act.put _ (some 25) _ = _
         simp only [Act.put, List.setIfInBounds_toArray, List.set_cons_zero, List.set_cons_succ, i64_w, i32_w]
         rfl
        refine ov_ (i := 5) (N := some 26) HT_.out (fun K hK => ?_)
        refine gq_ Try.func24 #[.agg #[.int .i64 a0_0, .int .i64 a0_1], .slice A1 l1.length c1, .slice Ao24 y507.length co24] ?_
        with_reducible refine (spec_l15Pop.calls kj3 a0_0 a0_1 _ _ l1 (fun k_ => some k_ = (.slice Ao24 y507.length co24 : Value).ownBlock) (.slice Ao24 y507.length co24) y507 t510 t511 t512 t513 true w _ ?side1 ?side2 ?side3 ?side4 A17.out).mono ?_
        (case side1 => repeat (first | (with_reducible first | exact HB.out | apply below_alloc | apply pw_below_drewN | apply below_drew1 | refine below_set ?_ GE501.out | refine below_set ?_ GE515.out) | exact HB.out))
        (case side2 => exact Kd.C_kept_came (Kd.heap_slice 3 (Kd.heap_int .i64)) HR1.out (hb2_ HB.out GE501.out GE515.out) (fun k_ hs_ => (fun e_ => Kd.R_base HO509.out k_ e_.symm) hs_))
        (case side3 => exact HC1.out)
        (case side4 => exact Kd.R_tight rfl HO509.out)
        rintro e w25 ⟨rfl, hb, hkp⟩
        refine ⟨_, rfl, ?_⟩
        replace BK501 := Aside0.mk (blk_kept (bk_ BK501.out) hkp (fun hs_ => (fun e_ => (Kd.R_ne HO509.out BK501.out (by decide)) e_) hs_))
        replace BK515 := Aside0.mk (blk_kept (bk_ BK515.out) hkp (fun hs_ => (fun e_ => (Kd.R_ne HO509.out BK515.out (by decide)) e_) hs_))
        replace HB := Aside0.mk (hb)
        clear HO509
        skip
        (try clear hkp)
        refine hK.out _ _ ⟨BK501.c 0, BK501.c 1⟩ (fun hHeld => ?_)
        clear hK K
        refine nm_ ?_
        refine pv_ (i := 6) (N := some 20) HT_.out ?_
        refine pv_ (i := 7) (N := some 27) HT_.out ?_
        refine pv_ (i := 8) (N := some 28) HT_.out ?_
        refine pv_ (i := 9) (N := some 29) HT_.out ?_
        exact norm_ (by simp only [putAll, Act.put, List.setIfInBounds_toArray, List.set_cons_zero, List.set_cons_succ]) (hCont (v505, .slice Ao24 y507.length co24, gb515) _ ⟨hHeld, (bk_ BK501.out), (bk_ BK515.out), GW515.out, GE515.out, NB501_515.out, NB515_501.out, (hb2_ HB.out GE501.out GE515.out)⟩)
      rintro ⟨v505, v508, gb515⟩ w26 ⟨hS_, h0_, h1_, h2_, h3_, h4_, h5_, h6_⟩
      have n0_ : Aside0 (w26.heap[gb501]? = some (.cells #[.int .i64 a0_0, .int .i64 a0_1] 28 (0, 0))) := ⟨h0_⟩
      have n1_ : Aside0 (w26.heap[gb515]? = some (.cells #[.int .i64 0, .int .i64 0, .int .i64 0] 36 (0, 0))) := ⟨h1_⟩
      have n2_ : Aside0 (w.heap.size ≤ gb515) := ⟨h2_⟩
      have n3_ : Aside0 (w.heap.size ≤ gb515) := ⟨h3_⟩
      have n4_ : Aside0 (gb501 ≠ gb515) := ⟨h4_⟩
      have n5_ : Aside0 (gb515 ≠ gb501) := ⟨h5_⟩
      have n6_ : Aside0 (Below w.heap.size w w26) := ⟨h6_⟩
      clear BK501
      clear HB
      clear h0_ h1_ h2_ h3_ h4_ h5_ h6_
      have BK501 := n0_
      have BK515 := n1_
      have GW515 := n2_
      have GE515 := n3_
      have NB501_515 := n4_
      have NB515_501 := n5_
      have HB := n6_
      clear n0_ n1_ n2_ n3_ n4_ n5_ n6_
      have hHeld : w26.cell? ⟨gb501, 0, none⟩ = some (.int .i64 a0_0) ∧ w26.cell? ⟨gb501, 1, none⟩ = some (.int .i64 a0_1) := hS_
      refine norm_ (a' := ?_) ?_ ?_
      rotate_left
      ·simp only [putAll, Act.put, List.setIfInBounds_toArray, List.set_cons_zero, List.set_cons_succ]
       rfl
      refine one_ (i := 11) (N := none) #[true, true, true, true, true, true, true, true, true, true, true, true, false, false] rfl rfl (one_of HT_.out (by kernel_rfl)) (by decide) (fun K hK => ?_)
      have hs27 : w26.cell? ⟨gb515, 0, none⟩ = some (.int .i64 0) := BK515.c 0
      have hfs27 := blk_frozen BK515.out 0
      have hns27_0 := NB501_515.out
      have hms27_0 := NB515_501.out
      have hs28 : w26.cell? ⟨gb515, 1, none⟩ = some (.int .i64 0) := BK515.c 1
      have hfs28 := blk_frozen BK515.out 1
      have hns28_0 := NB501_515.out
      have hms28_0 := NB515_501.out
      have hs29 : w26.cell? ⟨gb515, 2, none⟩ = some (.int .i64 0) := BK515.c 2
      have hfs29 := blk_frozen BK515.out 2
      have hns29_0 := NB501_515.out
      have hms29_0 := NB515_501.out
      refine skip_ (w1 := ?_) (by rfl) rfl ?_ ?_
      rotate_left
      ·go_simp
       rfl
      refine hK.out _ _ ⟨((cell_far (p := ⟨gb515, _, none⟩) NB501_515.out _).trans (((cell_far (p := ⟨gb515, _, none⟩) NB501_515.out _).trans (((cell_far (p := ⟨gb515, _, none⟩) NB501_515.out _).trans (hHeld.1)))))), ((cell_far (p := ⟨gb515, _, none⟩) NB501_515.out _).trans (((cell_far (p := ⟨gb515, _, none⟩) NB501_515.out _).trans (((cell_far (p := ⟨gb515, _, none⟩) NB501_515.out _).trans (hHeld.2))))))⟩ (fun hHeld => ?_)
      clear hK K
      refine pv_ (i := 12) (N := some 8) HT_.out ?_
      refine pv_ (i := 13) (N := some 9) HT_.out ?_
      refine done_ (done_of HT_.out (by kernel_rfl)) ?_
      try go_wp2
      go_ret
      exact ⟨ex_, hb2_ HB.out GE501.out GE515.out⟩
     ·replace c18 := Bool.eq_false_iff.mpr c18
      subst c18
      have H1 : (some (-1)) = some r := by rw [if_neg (show ¬ (false = true) by decide)] at H; exact H
      clear H
      have H := H1
      clear H1
      obtain rfl := Option.some.inj H
      try go_wp2
      replace BK501 := Aside0.mk (blk_drew BK501.out)
      replace HB := Aside0.mk (below_drew1 HB.out)
      refine start_ (n := 14) (S := fun w' => w'.cell? ⟨gb501, 0, none⟩ = some (.int .i64 a0_0) ∧ w'.cell? ⟨gb501, 1, none⟩ = some (.int .i64 a0_1)) (ds := []) #[false, false, false, false, false, false, false, false, false, false, false, false, false, false] (by kernel_rfl) rfl rfl ⟨BK501.c 0, BK501.c 1⟩ (fun hHeld => ?_); refine with_tabW spec_ArrowsUsed.tab3 spec_ArrowsUsed.bits3 (fun HT_ HW_ => ?_)
      generalize wc.drew = w30 at BK501 HB hHeld ⊢
      refine pv_ (i := 1) (N := some 22) HT_.out ?_
      refine pv_ (i := 3) (N := some 24) HT_.out ?_
      refine tv2_ (i := 0) (N := some 21) HT_.out HW_.out hHeld ?_
      refine join_ (σ := Value × Value × Nat) 3 #[true, true, true, true, true, true, true, true, true, true, true, false, false, false] (fun s_ => [(23, s_.1), (25, s_.2.1), (26, .tuple #[.agg #[.int .i64 t510, .int .i64 t511, .int .i64 t512], .int .i64 t513, .bool false]), (7, .pointer (some ⟨s_.2.2, 0, none⟩)), (20, .tuple #[.agg #[.int .i64 t510, .int .i64 t511, .int .i64 t512], .int .i64 t513, .bool false]), (27, .agg #[.int .i64 t510, .int .i64 t511, .int .i64 t512]), (28, .int .i64 t513), (29, .bool false)]) (fun s_ w' => (w'.cell? ⟨gb501, 0, none⟩ = some (.int .i64 a0_0) ∧ w'.cell? ⟨gb501, 1, none⟩ = some (.int .i64 a0_1)) ∧ (w'.heap[gb501]? = some (.cells #[.int .i64 a0_0, .int .i64 a0_1] 28 (0, 0))) ∧ (w'.heap[s_.2.2]? = some (.cells #[.int .i64 0, .int .i64 0, .int .i64 0] 36 (0, 0))) ∧ (w.heap.size ≤ s_.2.2) ∧ (w.heap.size ≤ s_.2.2) ∧ (gb501 ≠ s_.2.2) ∧ (s_.2.2 ≠ gb501) ∧ (Below w.heap.size w w')) ?_ ?_
      rotate_left
      ·intro hCont
       refine two_ (i := 2) (j := 10) (Ni := some 23) (Nj := some 7) #[true, true, true, true, false, false, false, false, false, false, false, false, false, false] #[true, true, false, true, false, false, false, false, false, false, true, false, false, false] rfl rfl rfl rfl (two_of HT_.out (by kernel_rfl)) (by decide) (by decide) (fun K hK => ?_) (fun K hK => ?_)
       ·skip
        refine Kd.R_lit_step (Kd.int .i64) _ 3 ?hg (N := 23) ?hd (xs := ([] : List Int)) (inner := []) (ok := fun _ => True) (okp := fun _ => True) ?hr ?hp (fun _ hk => hk) trivial (Below.refl _ _) (Nat.le_refl _) (by simp) ?_; (case hd => rfl); (case hg => rfl); (case hr => first | (go_simp; done) | (go_simp; rfl)); (case hp => exact (Reps.none _ _))
        intro v505 w31 ho32 hb hg_ hnew_
        clear hg_ hnew_
        (first | rw [← Ny504.out] at ho32 | (simp only [Int.reduceToNat] at ho32; rw [← Ny504.out] at ho32))
        have HO506 := Aside0.mk (Kd.R_lower ho32 (below_size (hb1_ HB.out GE501.out)))
        replace BK501 := BK501.bb hb
        replace HB := HB.s1 GE501 hb
        clear hb ho32
        refine hK.out _ _ ⟨BK501.c 0, BK501.c 1⟩ (fun hHeld => ?_)
        clear hK K
        refine norm_ (a' := ?_) ?_ ?_
        rotate_left
        ·show Act.put _ (some 23) _ = _
         simp only [Act.put, List.setIfInBounds_toArray, List.set_cons_zero, List.set_cons_succ, i64_w, i32_w]
         rfl
        refine two_ (i := 4) (j := 10) (Ni := some 25) (Nj := some 7) #[true, true, true, true, true, false, false, false, false, false, false, false, false, false] #[true, true, true, true, false, false, false, false, false, false, true, false, false, false] rfl rfl rfl rfl (two_of HT_.out (by kernel_rfl)) (by decide) (by decide) (fun K hK => ?_) (fun K hK => ?_)
        ·skip
         refine Kd.R_append_rows_step (Kd.int .i64) (w0 := w) w.heap.size (by rfl) (.tmp 23) (.tmp 24) 25 3 (.int .i64 0) 8 rfl Try.underlying25 info3 rfl (by decide) (by omega) v505 y504 l2 _ _ _ (fun _ => True) (fun _ => False) rfl rfl ?aO ?aR (fun _ _ h => h) (fun _ h => h.elim) ?aF ?aB ?aS ?aL ?_
         (case aR => repeat (first | exact (Kd.C_below HR2.out HB.out) | (with_reducible refine Kd.C_alloc ?_ _) | (with_reducible refine Kd.C_drewN ?_ _) | (with_reducible refine Kd.C_drew ?_)))
         (case aB => exact (hb1_ HB.out GE501.out))
         (case aF => exact (fun _ _ => trivial))
         (case aO => exact (kr_ HO506.out))
         (case aS => exact (below_size (hb1_ HB.out GE501.out)))
         (case aL => have := LMc16.out; omega)
         intro v508 w33 ho hb hg hat
         rw [← Ny507.out] at ho
         replace BK501 := Aside0.mk (blk_grown (g := gb501) (o := .cells #[.int .i64 a0_0, .int .i64 a0_1] 28 (0, 0)) (bk_ BK501.out) hg (Kd.R_ne HO506.out BK501.out (by decide)))
         replace HB := Aside0.mk (hb)
         have HO509 := Aside0.mk (ho)
         clear HO506
         clear ho hb hg hat
         obtain ⟨Ao34, co34, eo34⟩ := Kd.R_slice HO509.out
         (first | subst eo34 | (injection eo34 with f1_ f2_ f3_; have f4_ := f1_.symm; have f5_ := f3_.symm; clear f1_ f2_ f3_; subst f4_; subst f5_))
         refine hK.out _ _ ⟨BK501.c 0, BK501.c 1⟩ (fun hHeld => ?_)
         clear hK K
         refine norm_ (a' := ?_) ?_ ?_
         rotate_left
         ·show Act.put _ (some 25) _ = _
          simp only [Act.put, List.setIfInBounds_toArray, List.set_cons_zero, List.set_cons_succ, i64_w, i32_w]
          rfl
         refine two_ (i := 5) (j := 10) (Ni := some 26) (Nj := some 7) #[true, true, true, true, true, true, false, false, false, false, false, false, false, false] #[true, true, true, true, true, false, false, false, false, false, true, false, false, false] rfl rfl rfl rfl (two_of HT_.out (by kernel_rfl)) (by decide) (by decide) (fun K hK => ?_) (fun K hK => ?_)
         ·skip
          refine gq_ Try.func24 #[.agg #[.int .i64 a0_0, .int .i64 a0_1], .slice A1 l1.length c1, .slice Ao34 y507.length co34] ?_
          with_reducible refine (spec_l15Pop.calls kj3 a0_0 a0_1 _ _ l1 (fun k_ => some k_ = (.slice Ao34 y507.length co34 : Value).ownBlock) (.slice Ao34 y507.length co34) y507 t510 t511 t512 t513 false w _ ?side1 ?side2 ?side3 ?side4 A17.out).mono ?_
          (case side1 => repeat (first | (with_reducible first | exact HB.out | apply below_alloc | apply pw_below_drewN | apply below_drew1 | refine below_set ?_ GE501.out) | exact HB.out))
          (case side2 => exact Kd.C_kept_came (Kd.heap_slice 3 (Kd.heap_int .i64)) HR1.out (hb1_ HB.out GE501.out) (fun k_ hs_ => (fun e_ => Kd.R_base HO509.out k_ e_.symm) hs_))
          (case side3 => exact HC1.out)
          (case side4 => exact Kd.R_tight rfl HO509.out)
          rintro e w35 ⟨rfl, hb, hkp⟩
          refine ⟨_, rfl, ?_⟩
          replace BK501 := Aside0.mk (blk_kept (bk_ BK501.out) hkp (fun hs_ => (fun e_ => (Kd.R_ne HO509.out BK501.out (by decide)) e_) hs_))
          replace HB := Aside0.mk (hb)
          clear HO509
          skip
          (try clear hkp)
          refine hK.out _ _ ⟨BK501.c 0, BK501.c 1⟩ (fun hHeld => ?_)
          clear hK K
          refine nm_ ?_
          refine pv_ (i := 6) (N := some 20) HT_.out ?_
          refine pv_ (i := 7) (N := some 27) HT_.out ?_
          refine pv_ (i := 8) (N := some 28) HT_.out ?_
          refine pv_ (i := 9) (N := some 29) HT_.out ?_
          refine ov_ (i := 10) (N := some 7) HT_.out (fun K hK => ?_)
          refine box_step ?hg (N := 7) ?hd (cs := #[.int .i64 0, .int .i64 0, .int .i64 0]) (t := 36) ?hr ?_; (case hd => rfl); (case hg => rfl); (case hr => first | (go_simp; done) | (go_simp; rfl))
          intro gb515 hg w36 hbox hb
          have n0_ := BK501.bb hb
          have n1_ := HB.s1 GE501 hb
          have n2_ := Aside0.mk (hbox)
          have n3_ := HB.g1 GE501 hg
          have n4_ := HB.g1 GE501 hg
          have n5_ := BK501.nl hg
          have n6_ := BK501.nr hg
          clear BK501
          clear HB
          have BK501 := n0_
          have HB := n1_
          have BK515 := n2_
          have GW515 := n3_
          have GE515 := n4_
          have NB501_515 := n5_
          have NB515_501 := n6_
          clear n0_ n1_ n2_ n3_ n4_ n5_ n6_
          clear hb hbox hg
          refine hK.out _ _ ⟨BK501.c 0, BK501.c 1⟩ (fun hHeld => ?_)
          clear hK K
          refine norm_ (a' := ?_) ?_ ?_
          rotate_left
          ·show Act.put _ (some 7) _ = _
           simp only [Act.put, List.setIfInBounds_toArray, List.set_cons_zero, List.set_cons_succ, i64_w, i32_w]
           rfl
          exact norm_ (by simp only [putAll, Act.put, List.setIfInBounds_toArray, List.set_cons_zero, List.set_cons_succ]) (hCont (v505, .slice Ao34 y507.length co34, gb515) _ ⟨hHeld, (bk_ BK501.out), (bk_ BK515.out), GW515.out, GE515.out, NB501_515.out, NB515_501.out, (hb2_ HB.out GE501.out GE515.out)⟩)
         ·skip
          refine box_step ?hg (N := 7) ?hd (cs := #[.int .i64 0, .int .i64 0, .int .i64 0]) (t := 36) ?hr ?_; (case hd => rfl); (case hg => rfl); (case hr => first | (go_simp; done) | (go_simp; rfl))
          intro gb515 hg w34 hbox hb
          have n0_ := HO509.kb hb
          have n1_ := BK501.bb hb
          have n2_ := HB.s1 GE501 hb
          have n3_ := Aside0.mk (hbox)
          have n4_ := HB.g1 GE501 hg
          have n5_ := HB.g1 GE501 hg
          have n6_ := BK501.nl hg
          have n7_ := BK501.nr hg
          clear HO509
          clear BK501
          clear HB
          have HO509 := n0_
          have BK501 := n1_
          have HB := n2_
          have BK515 := n3_
          have GW515 := n4_
          have GE515 := n5_
          have NB501_515 := n6_
          have NB515_501 := n7_
          clear n0_ n1_ n2_ n3_ n4_ n5_ n6_ n7_
          clear hb hbox hg
          obtain ⟨Ao35, co35, eo35⟩ := Kd.R_slice HO509.out
          (first | subst eo35 | (injection eo35 with f1_ f2_ f3_; have f4_ := f1_.symm; have f5_ := f3_.symm; clear f1_ f2_ f3_; subst f4_; subst f5_))
          refine hK.out _ _ ⟨BK501.c 0, BK501.c 1⟩ (fun hHeld => ?_)
          clear hK K
          refine norm_ (a' := ?_) ?_ ?_
          rotate_left
          ·show Act.put _ (some 7) _ = _
           simp only [Act.put, List.setIfInBounds_toArray, List.set_cons_zero, List.set_cons_succ, i64_w, i32_w]
           rfl
          refine ov_ (i := 5) (N := some 26) HT_.out (fun K hK => ?_)
          refine gq_ Try.func24 #[.agg #[.int .i64 a0_0, .int .i64 a0_1], .slice A1 l1.length c1, .slice Ao35 y507.length co35] ?_
          with_reducible refine (spec_l15Pop.calls kj3 a0_0 a0_1 _ _ l1 (fun k_ => some k_ = (.slice Ao35 y507.length co35 : Value).ownBlock) (.slice Ao35 y507.length co35) y507 t510 t511 t512 t513 false w _ ?side1 ?side2 ?side3 ?side4 A17.out).mono ?_
          (case side1 => repeat (first | (with_reducible first | exact HB.out | apply below_alloc | apply pw_below_drewN | apply below_drew1 | refine below_set ?_ GE501.out | refine below_set ?_ GE515.out) | exact HB.out))
          (case side2 => exact Kd.C_kept_came (Kd.heap_slice 3 (Kd.heap_int .i64)) HR1.out (hb2_ HB.out GE501.out GE515.out) (fun k_ hs_ => (fun e_ => Kd.R_base HO509.out k_ e_.symm) hs_))
          (case side3 => exact HC1.out)
          (case side4 => exact Kd.R_tight rfl HO509.out)
          rintro e w36 ⟨rfl, hb, hkp⟩
          refine ⟨_, rfl, ?_⟩
          replace BK501 := Aside0.mk (blk_kept (bk_ BK501.out) hkp (fun hs_ => (fun e_ => (Kd.R_ne HO509.out BK501.out (by decide)) e_) hs_))
          replace BK515 := Aside0.mk (blk_kept (bk_ BK515.out) hkp (fun hs_ => (fun e_ => (Kd.R_ne HO509.out BK515.out (by decide)) e_) hs_))
          replace HB := Aside0.mk (hb)
          clear HO509
          skip
          (try clear hkp)
          refine hK.out _ _ ⟨BK501.c 0, BK501.c 1⟩ (fun hHeld => ?_)
          clear hK K
          refine nm_ ?_
          refine pv_ (i := 6) (N := some 20) HT_.out ?_
          refine pv_ (i := 7) (N := some 27) HT_.out ?_
          refine pv_ (i := 8) (N := some 28) HT_.out ?_
          refine pv_ (i := 9) (N := some 29) HT_.out ?_
          exact norm_ (by simp only [putAll, Act.put, List.setIfInBounds_toArray, List.set_cons_zero, List.set_cons_succ]) (hCont (v505, .slice Ao35 y507.length co35, gb515) _ ⟨hHeld, (bk_ BK501.out), (bk_ BK515.out), GW515.out, GE515.out, NB501_515.out, NB515_501.out, (hb2_ HB.out GE501.out GE515.out)⟩)
        ·skip
         refine box_step ?hg (N := 7) ?hd (cs := #[.int .i64 0, .int .i64 0, .int .i64 0]) (t := 36) ?hr ?_; (case hd => rfl); (case hg => rfl); (case hr => first | (go_simp; done) | (go_simp; rfl))
         intro gb515 hg w33 hbox hb
         have n0_ := HO506.kb hb
         have n1_ := BK501.bb hb
         have n2_ := HB.s1 GE501 hb
         have n3_ := Aside0.mk (hbox)
         have n4_ := HB.g1 GE501 hg
         have n5_ := HB.g1 GE501 hg
         have n6_ := BK501.nl hg
         have n7_ := BK501.nr hg
         clear HO506
         clear BK501
         clear HB
         have HO506 := n0_
         have BK501 := n1_
         have HB := n2_
         have BK515 := n3_
         have GW515 := n4_
         have GE515 := n5_
         have NB501_515 := n6_
         have NB515_501 := n7_
         clear n0_ n1_ n2_ n3_ n4_ n5_ n6_ n7_
         clear hb hbox hg
         refine hK.out _ _ ⟨BK501.c 0, BK501.c 1⟩ (fun hHeld => ?_)
         clear hK K
         refine norm_ (a' := ?_) ?_ ?_
         rotate_left
         ·show Act.put _ (some 7) _ = _
          simp only [Act.put, List.setIfInBounds_toArray, List.set_cons_zero, List.set_cons_succ, i64_w, i32_w]
          rfl
         refine ov_ (i := 4) (N := some 25) HT_.out (fun K hK => ?_)
         refine Kd.R_append_rows_step (Kd.int .i64) (w0 := w) w.heap.size (by rfl) (.tmp 23) (.tmp 24) 25 3 (.int .i64 0) 8 rfl Try.underlying25 info3 rfl (by decide) (by omega) v505 y504 l2 _ _ _ (fun _ => True) (fun _ => False) rfl rfl ?aO ?aR (fun _ _ h => h) (fun _ h => h.elim) ?aF ?aB ?aS ?aL ?_
         (case aR => repeat (first | exact (Kd.C_below HR2.out HB.out) | (with_reducible refine Kd.C_alloc ?_ _) | (with_reducible refine Kd.C_drewN ?_ _) | (with_reducible refine Kd.C_drew ?_)))
         (case aB => exact (hb2_ HB.out GE501.out GE515.out))
         (case aF => exact (fun _ _ => trivial))
         (case aO => exact (kr_ HO506.out))
         (case aS => exact (below_size (hb2_ HB.out GE501.out GE515.out)))
         (case aL => have := LMc16.out; omega)
         intro v508 w34 ho hb hg hat
         rw [← Ny507.out] at ho
         replace BK501 := Aside0.mk (blk_grown (g := gb501) (o := .cells #[.int .i64 a0_0, .int .i64 a0_1] 28 (0, 0)) (bk_ BK501.out) hg (Kd.R_ne HO506.out BK501.out (by decide)))
         replace BK515 := Aside0.mk (blk_grown (g := gb515) (o := .cells #[.int .i64 0, .int .i64 0, .int .i64 0] 36 (0, 0)) (bk_ BK515.out) hg (Kd.R_ne HO506.out BK515.out (by decide)))
         replace HB := Aside0.mk (hb)
         have HO509 := Aside0.mk (ho)
         clear HO506
         clear ho hb hg hat
         obtain ⟨Ao35, co35, eo35⟩ := Kd.R_slice HO509.out
         (first | subst eo35 | (injection eo35 with f1_ f2_ f3_; have f4_ := f1_.symm; have f5_ := f3_.symm; clear f1_ f2_ f3_; subst f4_; subst f5_))
         refine hK.out _ _ ⟨BK501.c 0, BK501.c 1⟩ (fun hHeld => ?_)
         clear hK K
         refine norm_ (a' := ?_) ?_ ?_
         rotate_left
         ·show Act.put _ (some 25) _ = _
          simp only [Act.put, List.setIfInBounds_toArray, List.set_cons_zero, List.set_cons_succ, i64_w, i32_w]
          rfl
         refine ov_ (i := 5) (N := some 26) HT_.out (fun K hK => ?_)
         refine gq_ Try.func24 #[.agg #[.int .i64 a0_0, .int .i64 a0_1], .slice A1 l1.length c1, .slice Ao35 y507.length co35] ?_
         with_reducible refine (spec_l15Pop.calls kj3 a0_0 a0_1 _ _ l1 (fun k_ => some k_ = (.slice Ao35 y507.length co35 : Value).ownBlock) (.slice Ao35 y507.length co35) y507 t510 t511 t512 t513 false w _ ?side1 ?side2 ?side3 ?side4 A17.out).mono ?_
         (case side1 => repeat (first | (with_reducible first | exact HB.out | apply below_alloc | apply pw_below_drewN | apply below_drew1 | refine below_set ?_ GE501.out | refine below_set ?_ GE515.out) | exact HB.out))
         (case side2 => exact Kd.C_kept_came (Kd.heap_slice 3 (Kd.heap_int .i64)) HR1.out (hb2_ HB.out GE501.out GE515.out) (fun k_ hs_ => (fun e_ => Kd.R_base HO509.out k_ e_.symm) hs_))
         (case side3 => exact HC1.out)
         (case side4 => exact Kd.R_tight rfl HO509.out)
         rintro e w36 ⟨rfl, hb, hkp⟩
         refine ⟨_, rfl, ?_⟩
         replace BK501 := Aside0.mk (blk_kept (bk_ BK501.out) hkp (fun hs_ => (fun e_ => (Kd.R_ne HO509.out BK501.out (by decide)) e_) hs_))
         replace BK515 := Aside0.mk (blk_kept (bk_ BK515.out) hkp (fun hs_ => (fun e_ => (Kd.R_ne HO509.out BK515.out (by decide)) e_) hs_))
         replace HB := Aside0.mk (hb)
         clear HO509
         skip
         (try clear hkp)
         refine hK.out _ _ ⟨BK501.c 0, BK501.c 1⟩ (fun hHeld => ?_)
         clear hK K
         refine nm_ ?_
         refine pv_ (i := 6) (N := some 20) HT_.out ?_
         refine pv_ (i := 7) (N := some 27) HT_.out ?_
         refine pv_ (i := 8) (N := some 28) HT_.out ?_
         refine pv_ (i := 9) (N := some 29) HT_.out ?_
         exact norm_ (by simp only [putAll, Act.put, List.setIfInBounds_toArray, List.set_cons_zero, List.set_cons_succ]) (hCont (v505, .slice Ao35 y507.length co35, gb515) _ ⟨hHeld, (bk_ BK501.out), (bk_ BK515.out), GW515.out, GE515.out, NB501_515.out, NB515_501.out, (hb2_ HB.out GE501.out GE515.out)⟩)
       ·skip
        refine box_step ?hg (N := 7) ?hd (cs := #[.int .i64 0, .int .i64 0, .int .i64 0]) (t := 36) ?hr ?_; (case hd => rfl); (case hg => rfl); (case hr => first | (go_simp; done) | (go_simp; rfl))
        intro gb515 hg w31 hbox hb
        have n0_ := BK501.bb hb
        have n1_ := HB.s1 GE501 hb
        have n2_ := Aside0.mk (hbox)
        have n3_ := HB.g1 GE501 hg
        have n4_ := HB.g1 GE501 hg
        have n5_ := BK501.nl hg
        have n6_ := BK501.nr hg
        clear BK501
        clear HB
        have BK501 := n0_
        have HB := n1_
        have BK515 := n2_
        have GW515 := n3_
        have GE515 := n4_
        have NB501_515 := n5_
        have NB515_501 := n6_
        clear n0_ n1_ n2_ n3_ n4_ n5_ n6_
        clear hb hbox hg
        refine hK.out _ _ ⟨BK501.c 0, BK501.c 1⟩ (fun hHeld => ?_)
        clear hK K
        refine norm_ (a' := ?_) ?_ ?_
        rotate_left
        ·show Act.put _ (some 7) _ = _
         simp only [Act.put, List.setIfInBounds_toArray, List.set_cons_zero, List.set_cons_succ, i64_w, i32_w]
         rfl
        refine ov_ (i := 2) (N := some 23) HT_.out (fun K hK => ?_)
        refine Kd.R_lit_step (Kd.int .i64) _ 3 ?hg (N := 23) ?hd (xs := ([] : List Int)) (inner := []) (ok := fun _ => True) (okp := fun _ => True) ?hr ?hp (fun _ hk => hk) trivial (Below.refl _ _) (Nat.le_refl _) (by simp) ?_; (case hd => rfl); (case hg => rfl); (case hr => first | (go_simp; done) | (go_simp; rfl)); (case hp => exact (Reps.none _ _))
        intro v505 w32 ho33 hb hg_ hnew_
        clear hg_ hnew_
        (first | rw [← Ny504.out] at ho33 | (simp only [Int.reduceToNat] at ho33; rw [← Ny504.out] at ho33))
        have HO506 := Aside0.mk (Kd.R_lower ho33 (below_size (hb2_ HB.out GE501.out GE515.out)))
        replace BK501 := BK501.bb hb
        replace BK515 := BK515.bb hb
        replace HB := HB.s2 GE501 GE515 hb
        clear hb ho33
        refine hK.out _ _ ⟨BK501.c 0, BK501.c 1⟩ (fun hHeld => ?_)
        clear hK K
        refine norm_ (a' := ?_) ?_ ?_
        rotate_left
        ·show Act.put _ (some 23) _ = _
         simp only [Act.put, List.setIfInBounds_toArray, List.set_cons_zero, List.set_cons_succ, i64_w, i32_w]
         rfl
        refine ov_ (i := 4) (N := some 25) HT_.out (fun K hK => ?_)
        refine Kd.R_append_rows_step (Kd.int .i64) (w0 := w) w.heap.size (by rfl) (.tmp 23) (.tmp 24) 25 3 (.int .i64 0) 8 rfl Try.underlying25 info3 rfl (by decide) (by omega) v505 y504 l2 _ _ _ (fun _ => True) (fun _ => False) rfl rfl ?aO ?aR (fun _ _ h => h) (fun _ h => h.elim) ?aF ?aB ?aS ?aL ?_
        (case aR => repeat (first | exact (Kd.C_below HR2.out HB.out) | (with_reducible refine Kd.C_alloc ?_ _) | (with_reducible refine Kd.C_drewN ?_ _) | (with_reducible refine Kd.C_drew ?_)))
        (case aB => exact (hb2_ HB.out GE501.out GE515.out))
        (case aF => exact (fun _ _ => trivial))
        (case aO => exact (kr_ HO506.out))
        (case aS => exact (below_size (hb2_ HB.out GE501.out GE515.out)))
        (case aL => have := LMc16.out; omega)
        intro v508 w34 ho hb hg hat
        rw [← Ny507.out] at ho
        replace BK501 := Aside0.mk (blk_grown (g := gb501) (o := .cells #[.int .i64 a0_0, .int .i64 a0_1] 28 (0, 0)) (bk_ BK501.out) hg (Kd.R_ne HO506.out BK501.out (by decide)))
        replace BK515 := Aside0.mk (blk_grown (g := gb515) (o := .cells #[.int .i64 0, .int .i64 0, .int .i64 0] 36 (0, 0)) (bk_ BK515.out) hg (Kd.R_ne HO506.out BK515.out (by decide)))
        replace HB := Aside0.mk (hb)
        have HO509 := Aside0.mk (ho)
        clear HO506
        clear ho hb hg hat
        obtain ⟨Ao35, co35, eo35⟩ := Kd.R_slice HO509.out
        (first | subst eo35 | (injection eo35 with f1_ f2_ f3_; have f4_ := f1_.symm; have f5_ := f3_.symm; clear f1_ f2_ f3_; subst f4_; subst f5_))
        refine hK.out _ _ ⟨BK501.c 0, BK501.c 1⟩ (fun hHeld => ?_)
        clear hK K
        refine norm_ (a' := ?_) ?_ ?_
        rotate_left
        ·show Act.put _ (some 25) _ = _
         simp only [Act.put, List.setIfInBounds_toArray, List.set_cons_zero, List.set_cons_succ, i64_w, i32_w]
         rfl
        refine ov_ (i := 5) (N := some 26) HT_.out (fun K hK => ?_)
        refine gq_ Try.func24 #[.agg #[.int .i64 a0_0, .int .i64 a0_1], .slice A1 l1.length c1, .slice Ao35 y507.length co35] ?_
        with_reducible refine (spec_l15Pop.calls kj3 a0_0 a0_1 _ _ l1 (fun k_ => some k_ = (.slice Ao35 y507.length co35 : Value).ownBlock) (.slice Ao35 y507.length co35) y507 t510 t511 t512 t513 false w _ ?side1 ?side2 ?side3 ?side4 A17.out).mono ?_
        (case side1 => repeat (first | (with_reducible first | exact HB.out | apply below_alloc | apply pw_below_drewN | apply below_drew1 | refine below_set ?_ GE501.out | refine below_set ?_ GE515.out) | exact HB.out))
        (case side2 => exact Kd.C_kept_came (Kd.heap_slice 3 (Kd.heap_int .i64)) HR1.out (hb2_ HB.out GE501.out GE515.out) (fun k_ hs_ => (fun e_ => Kd.R_base HO509.out k_ e_.symm) hs_))
        (case side3 => exact HC1.out)
        (case side4 => exact Kd.R_tight rfl HO509.out)
        rintro e w36 ⟨rfl, hb, hkp⟩
        refine ⟨_, rfl, ?_⟩
        replace BK501 := Aside0.mk (blk_kept (bk_ BK501.out) hkp (fun hs_ => (fun e_ => (Kd.R_ne HO509.out BK501.out (by decide)) e_) hs_))
        replace BK515 := Aside0.mk (blk_kept (bk_ BK515.out) hkp (fun hs_ => (fun e_ => (Kd.R_ne HO509.out BK515.out (by decide)) e_) hs_))
        replace HB := Aside0.mk (hb)
        clear HO509
        skip
        (try clear hkp)
        refine hK.out _ _ ⟨BK501.c 0, BK501.c 1⟩ (fun hHeld => ?_)
        clear hK K
        refine nm_ ?_
        refine pv_ (i := 6) (N := some 20) HT_.out ?_
        refine pv_ (i := 7) (N := some 27) HT_.out ?_
        refine pv_ (i := 8) (N := some 28) HT_.out ?_
        refine pv_ (i := 9) (N := some 29) HT_.out ?_
        exact norm_ (by simp only [putAll, Act.put, List.setIfInBounds_toArray, List.set_cons_zero, List.set_cons_succ]) (hCont (v505, .slice Ao35 y507.length co35, gb515) _ ⟨hHeld, (bk_ BK501.out), (bk_ BK515.out), GW515.out, GE515.out, NB501_515.out, NB515_501.out, (hb2_ HB.out GE501.out GE515.out)⟩)
      rintro ⟨v505, v508, gb515⟩ w37 ⟨hS_, h0_, h1_, h2_, h3_, h4_, h5_, h6_⟩
      have n0_ : Aside0 (w37.heap[gb501]? = some (.cells #[.int .i64 a0_0, .int .i64 a0_1] 28 (0, 0))) := ⟨h0_⟩
      have n1_ : Aside0 (w37.heap[gb515]? = some (.cells #[.int .i64 0, .int .i64 0, .int .i64 0] 36 (0, 0))) := ⟨h1_⟩
      have n2_ : Aside0 (w.heap.size ≤ gb515) := ⟨h2_⟩
      have n3_ : Aside0 (w.heap.size ≤ gb515) := ⟨h3_⟩
      have n4_ : Aside0 (gb501 ≠ gb515) := ⟨h4_⟩
      have n5_ : Aside0 (gb515 ≠ gb501) := ⟨h5_⟩
      have n6_ : Aside0 (Below w.heap.size w w37) := ⟨h6_⟩
      clear BK501
      clear HB
      clear h0_ h1_ h2_ h3_ h4_ h5_ h6_
      have BK501 := n0_
      have BK515 := n1_
      have GW515 := n2_
      have GE515 := n3_
      have NB501_515 := n4_
      have NB515_501 := n5_
      have HB := n6_
      clear n0_ n1_ n2_ n3_ n4_ n5_ n6_
      have hHeld : w37.cell? ⟨gb501, 0, none⟩ = some (.int .i64 a0_0) ∧ w37.cell? ⟨gb501, 1, none⟩ = some (.int .i64 a0_1) := hS_
      refine norm_ (a' := ?_) ?_ ?_
      rotate_left
      ·simp only [putAll, Act.put, List.setIfInBounds_toArray, List.set_cons_zero, List.set_cons_succ]
       rfl
      refine one_ (i := 11) (N := none) #[true, true, true, true, true, true, true, true, true, true, true, true, false, false] rfl rfl (one_of HT_.out (by kernel_rfl)) (by decide) (fun K hK => ?_)
      have hs38 : w37.cell? ⟨gb515, 0, none⟩ = some (.int .i64 0) := BK515.c 0
      have hfs38 := blk_frozen BK515.out 0
      have hns38_0 := NB501_515.out
      have hms38_0 := NB515_501.out
      have hs39 : w37.cell? ⟨gb515, 1, none⟩ = some (.int .i64 0) := BK515.c 1
      have hfs39 := blk_frozen BK515.out 1
      have hns39_0 := NB501_515.out
      have hms39_0 := NB515_501.out
      have hs40 : w37.cell? ⟨gb515, 2, none⟩ = some (.int .i64 0) := BK515.c 2
      have hfs40 := blk_frozen BK515.out 2
      have hns40_0 := NB501_515.out
      have hms40_0 := NB515_501.out
      refine skip_ (w1 := ?_) (by rfl) rfl ?_ ?_
      rotate_left
      ·go_simp
       rfl
      refine hK.out _ _ ⟨((cell_far (p := ⟨gb515, _, none⟩) NB501_515.out _).trans (((cell_far (p := ⟨gb515, _, none⟩) NB501_515.out _).trans (((cell_far (p := ⟨gb515, _, none⟩) NB501_515.out _).trans (hHeld.1)))))), ((cell_far (p := ⟨gb515, _, none⟩) NB501_515.out _).trans (((cell_far (p := ⟨gb515, _, none⟩) NB501_515.out _).trans (((cell_far (p := ⟨gb515, _, none⟩) NB501_515.out _).trans (hHeld.2))))))⟩ (fun hHeld => ?_)
      clear hK K
      refine pv_ (i := 12) (N := some 8) HT_.out ?_
      refine pv_ (i := 13) (N := some 9) HT_.out ?_
      refine done_ (done_of HT_.out (by kernel_rfl)) ?_
      try go_wp2
      go_ret
      exact ⟨ex_, hb2_ HB.out GE501.out GE515.out⟩
    ·rw [if_neg c16] at H
     exact absurd H (by simp)

end Go.Proofs.Ytnipocpbpcaepaa.X
