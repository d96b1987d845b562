-- Written by a program of this session (xprint.py), out of the translation and of hand-written contracts. Lean checks it.
import Derived.Test.YtnfclfpicemojaaX0
import Derived.Test.YtnfclfpicemojaaXcdist
import Derived.Test.YtnfclfpicemojaaXcgrid
import Derived.Test.YtnfclfpicemojaaXcmeeting
namespace Go.Proofs.Ytnfclfpicemojaa.X
open Go.RowKit Go.Proofs.YtnfclfpicemojaaW.PrintWords Go.Proofs.YtnfclfpicemojaaW.PrintLast Go.Proofs.YtnfclfpicemojaaW.PrintMore
attribute [local go_sem] max2_int min2_int max_two min_two max_three min_three max_four min_four   -- for this text's walks alone
set_option linter.unusedVariables false
set_option linter.unusedSimpArgs false

/-! ### impl_LongestWay: function 8 -/
mutual
def impl_LongestWay.j0 : Nat → Int → Int → List (S32) → Bool → Option (Int)
 | 0, _, _, _, _ => none
 | k + 1, x1, x2, x7, x30 => if x30 = true then (some (-1)) else (impl_LongestWay.l0 k x1 x2 (-1) x7 (x7.length : Int) 0)
def impl_LongestWay.l0 : Nat → Int → Int → Int → List (S32) → Int → Int → Option (Int)
 | 0, _, _, _, _, _, _ => none
 | k + 1, x1, x2, x9, x31, x32, x33 => if x33 < x32 then (if 0 ≤ x33 then (if x33 < (x31.length : Int) then ((impl_DistanceOf.f k ((rd_T32 x31 x33).f0.f0) ((rd_T32 x31 x33).f0.f1) ((rd_T32 x31 x33).f1) x1 x2).bind fun t510 => (impl_LongestWay.l0 k x1 x2 (mx x9 t510) x31 x32 (wrap64 (x33 + 1)))) else (none)) else (none)) else (some x9)
end
def impl_LongestWay.f (k : Nat) (a0_0 : Int) (a0_1 : Int) (a1 : Int) (a2 : Int) : Option (Int) := (impl_perfect.f k a0_0 a0_1).bind fun bt502 => (if bt502.2 = true then ((impl_isCell.f a0_0 a0_1 a1).bind fun t506 => (if t506 = true then ((impl_isCell.f a0_0 a0_1 a2).bind fun t507 => (impl_LongestWay.j0 k a1 a2 bt502.1 (!t507))) else (impl_LongestWay.j0 k a1 a2 bt502.1 true))) else (impl_LongestWay.j0 k a1 a2 bt502.1 true))
theorem impl_LongestWay.mono_l : ∀ k, (∀ y0 y1 y2 y3, LeO (impl_LongestWay.j0 k y0 y1 y2 y3) (impl_LongestWay.j0 (k + 1) y0 y1 y2 y3)) ∧ (∀ y0 y1 y2 y3 y4 y5, LeO (impl_LongestWay.l0 k y0 y1 y2 y3 y4 y5) (impl_LongestWay.l0 (k + 1) y0 y1 y2 y3 y4 y5))
 | 0 => ⟨fun _ _ _ _ r h => by simp [impl_LongestWay.j0] at h, fun _ _ _ _ _ _ r h => by simp [impl_LongestWay.l0] at h⟩
 | k + 1 => by
  obtain ⟨ih0, ih1⟩ := impl_LongestWay.mono_l k
  refine ⟨?_, ?_⟩
  ·intro y0 y1 y2 y3
   unfold impl_LongestWay.j0
   repeat' first
   | (with_reducible exact ih0 ..)
   | (with_reducible exact ih1 ..)
   | (with_reducible exact impl_DistanceOf.mono ..)
   | (with_reducible exact impl_perfect.mono ..)
   | (with_reducible first | exact lr_ _ | exact ln_ _ | refine li_ ?_ ?_ | refine lb_ ?_ fun _ => ?_)
   | exact ih0 ..
   | exact ih1 ..
   | exact impl_DistanceOf.mono ..
   | exact impl_perfect.mono ..
   | exact ln_ _ | refine li_ ?_ ?_ | refine lb_ ?_ fun _ => ?_
  ·intro y0 y1 y2 y3 y4 y5
   unfold impl_LongestWay.l0
   repeat' first
   | (with_reducible exact ih0 ..)
   | (with_reducible exact ih1 ..)
   | (with_reducible exact impl_DistanceOf.mono ..)
   | (with_reducible exact impl_perfect.mono ..)
   | (with_reducible first | exact lr_ _ | exact ln_ _ | refine li_ ?_ ?_ | refine lb_ ?_ fun _ => ?_)
   | exact ih0 ..
   | exact ih1 ..
   | exact impl_DistanceOf.mono ..
   | exact impl_perfect.mono ..
   | exact ln_ _ | refine li_ ?_ ?_ | refine lb_ ?_ fun _ => ?_
theorem impl_LongestWay.mono : ∀ a0 a1 a2 a3 k, LeO (impl_LongestWay.f k a0 a1 a2 a3) (impl_LongestWay.f (k + 1) a0 a1 a2 a3) := by
 intro a0 a1 a2 a3 k
 obtain ⟨ih0, ih1⟩ := impl_LongestWay.mono_l k
 unfold impl_LongestWay.f
 repeat' first
   | (with_reducible exact ih0 ..)
   | (with_reducible exact ih1 ..)
   | (with_reducible exact impl_DistanceOf.mono ..)
   | (with_reducible exact impl_perfect.mono ..)
   | (with_reducible first | exact lr_ _ | exact ln_ _ | refine li_ ?_ ?_ | refine lb_ ?_ fun _ => ?_)
   | exact ih0 ..
   | exact ih1 ..
   | exact impl_DistanceOf.mono ..
   | exact impl_perfect.mono ..
   | exact ln_ _ | refine li_ ?_ ?_ | refine lb_ ?_ fun _ => ?_
set_option maxHeartbeats 8000000 in
set_option maxRecDepth 100000 in
theorem impl_LongestWay.calls (k : Nat) (a0_0 : Int) (a0_1 : Int) (a1 : Int) (a2 : Int) (r : Int) (w : World) (h : impl_LongestWay.f k a0_0 a0_1 a1 a2 = some r) :
  Calls Try.prog 8 #[.agg #[.int .i64 a0_0, .int .i64 a0_1], .int .i64 a1, .int .i64 a2] w fun e w' => e = .returned (.int .i64 r) ∧ Below w.heap.size w w' := by
 have hu25 := Try.underlying25
 have hu32 := Try.underlying32
 have HB := Aside0.mk (Below.refl w.heap.size w)
 have H : ((impl_perfect.f k a0_0 a0_1).bind fun bt502 => (if bt502.2 = true then ((impl_isCell.f a0_0 a0_1 a1).bind fun t506 => (if t506 = true then ((impl_isCell.f a0_0 a0_1 a2).bind fun t507 => (impl_LongestWay.j0 k a1 a2 bt502.1 (!t507))) else (impl_LongestWay.j0 k a1 a2 bt502.1 true))) else (impl_LongestWay.j0 k a1 a2 bt502.1 true))) = some r := h
 clear h
 replace H := Option.bind_eq_some_iff.mp H
 obtain ⟨⟨t502, t505⟩, A40, H⟩ := H
 replace H : (if t505 = true then ((impl_isCell.f a0_0 a0_1 a1).bind fun t506 => (if t506 = true then ((impl_isCell.f a0_0 a0_1 a2).bind fun t507 => (impl_LongestWay.j0 k a1 a2 t502 (!t507))) else (impl_LongestWay.j0 k a1 a2 t502 true))) else (impl_LongestWay.j0 k a1 a2 t502 true)) = some r := H
 have A4 := Aside0.mk A40
 clear A40
 have HC5 := Aside0.mk H
 clear H
 go_enter Try.func8, Try.ntmps8
 go_upto_region 2 with (first | (refine box_ (N := 3) (cs := #[.int .i64 a0_0, .int .i64 a0_1]) (t := 25) ?_; intro gb501 hg w6 hbox hb; have BK501 := Aside0.mk (hbox); have GW501 := HB.g0 hg; have GE501 := HB.g0 hg; replace HB := HB.s0 hb; clear hb hbox hg; obtain ⟨hcz7_0, hcz7_1⟩ := cz2_ BK501.out; obtain ⟨hfz7_0, hfz7_1⟩ := fz2_ BK501.out) | (refine gl_ 14 Try.func17 #[.agg #[.int .i64 a0_0, .int .i64 a0_1]] ?_; (with_reducible refine (impl_perfect.calls k a0_0 a0_1 t502 t505 _ A4.out).mono ?_); rintro e w8 ⟨v503, rfl, ho0, hb⟩; refine ⟨_, rfl, ?_⟩; have HO504 := Aside0.mk (Kd.R_lower ho0 (below_size (hb1_ HB.out GE501.out))); replace BK501 := BK501.bb hb; replace HB := HB.s1 GE501 hb; (try clear hb); (try clear ho0)))
 (try simp only [Act.put, List.setIfInBounds_toArray, List.set_cons_zero, List.set_cons_succ])
 go_cut [30] (fun v30 wc => ∃ (kq : Nat) (x30_4 : Bool), v30 = .bool x30_4 ∧ Aside0 (impl_LongestWay.j0 kq a1 a2 t502 x30_4 = some r) ∧ Aside0 (kq ≤ k) ∧ Aside0 (Kd.R k32 32 wc w.heap.size (fun _ => True) v503 t502) ∧ Aside0 (wc.heap[gb501]? = some (.cells #[.int .i64 a0_0, .int .i64 a0_1] 25 (0, 0))) ∧ Aside0 (Below w.heap.size w wc))
 case first =>
  have H := HC5.out
  clear HC5
  by_cases c9 : t505 = true
  ·subst c9
   have H1 : ((impl_isCell.f a0_0 a0_1 a1).bind fun t506 => (if t506 = true then ((impl_isCell.f a0_0 a0_1 a2).bind fun t507 => (impl_LongestWay.j0 k a1 a2 t502 (!t507))) else (impl_LongestWay.j0 k a1 a2 t502 true))) = some r := by rw [if_pos rfl] at H; exact H
   clear H
   have H := H1
   clear H1
   replace H := Option.bind_eq_some_iff.mp H
   obtain ⟨t506, A100, H⟩ := H
   replace H : (if t506 = true then ((impl_isCell.f a0_0 a0_1 a2).bind fun t507 => (impl_LongestWay.j0 k a1 a2 t502 (!t507))) else (impl_LongestWay.j0 k a1 a2 t502 true)) = some r := H
   have A10 := Aside0.mk A100
   clear A100
   by_cases c11 : t506 = true
   ·subst c11
    have H1 : ((impl_isCell.f a0_0 a0_1 a2).bind fun t507 => (impl_LongestWay.j0 k a1 a2 t502 (!t507))) = some r := by rw [if_pos rfl] at H; exact H
    clear H
    have H := H1
    clear H1
    replace H := Option.bind_eq_some_iff.mp H
    obtain ⟨t507, A120, H⟩ := H
    replace H : (impl_LongestWay.j0 k a1 a2 t502 (!t507)) = some r := H
    have A12 := Aside0.mk A120
    clear A120
    have H' := Aside0.mk H
    clear H
    obtain ⟨hcz13_0, hcz13_1⟩ := cz2_ BK501.out
    obtain ⟨hfz13_0, hfz13_1⟩ := fz2_ BK501.out
    go_wp2_with (first | (go_at_call 18; (with_reducible refine (impl_isCell.calls a0_0 a0_1 a1 true _ A10.out).mono ?_); rintro e w14 ⟨rfl, hb⟩; replace HO504 := HO504.kb hb; replace BK501 := BK501.bb hb; replace HB := HB.s1 GE501 hb; (try clear hb); obtain ⟨hcz15_0, hcz15_1⟩ := cz2_ BK501.out; obtain ⟨hfz15_0, hfz15_1⟩ := fz2_ BK501.out) | (go_at_call 18; (with_reducible refine (impl_isCell.calls a0_0 a0_1 a2 t507 _ A12.out).mono ?_); rintro e w16 ⟨rfl, hb⟩; replace HO504 := HO504.kb hb; replace BK501 := BK501.bb hb; replace HB := HB.s1 GE501 hb; (try clear hb)))
    go_meet
    case rel => exact ⟨_, (!t507), (by first | rfl | (simp; done) | (simp [*]; done)), H', ⟨by first | omega | exact Nat.le_refl _⟩, ⟨kr_ HO504.out⟩, ⟨bk_ BK501.out⟩, ⟨hb1_ HB.out GE501.out⟩⟩
   ·replace c11 := Bool.eq_false_iff.mpr c11
    subst c11
    have H1 : (impl_LongestWay.j0 k a1 a2 t502 true) = some r := by rw [if_neg (show ¬ (false = true) by decide)] at H; exact H
    clear H
    have H := H1
    clear H1
    have H' := Aside0.mk H
    clear H
    obtain ⟨hcz17_0, hcz17_1⟩ := cz2_ BK501.out
    obtain ⟨hfz17_0, hfz17_1⟩ := fz2_ BK501.out
    go_wp2_with (first | (go_at_call 18; (with_reducible refine (impl_isCell.calls a0_0 a0_1 a1 false _ A10.out).mono ?_); rintro e w18 ⟨rfl, hb⟩; replace HO504 := HO504.kb hb; replace BK501 := BK501.bb hb; replace HB := HB.s1 GE501 hb; (try clear hb)))
    go_meet
    case rel => exact ⟨_, (true), (by first | rfl | (simp; done) | (simp [*]; done)), H', ⟨by first | omega | exact Nat.le_refl _⟩, ⟨kr_ HO504.out⟩, ⟨bk_ BK501.out⟩, ⟨hb1_ HB.out GE501.out⟩⟩
  ·replace c9 := Bool.eq_false_iff.mpr c9
   subst c9
   have H1 : (impl_LongestWay.j0 k a1 a2 t502 true) = some r := by rw [if_neg (show ¬ (false = true) by decide)] at H; exact H
   clear H
   have H := H1
   clear H1
   have H' := Aside0.mk H
   clear H
   go_wp2
   go_meet
   case rel => exact ⟨_, (true), (by first | rfl | (simp; done) | (simp [*]; done)), H', ⟨by first | omega | exact Nat.le_refl _⟩, ⟨kr_ HO504.out⟩, ⟨bk_ BK501.out⟩, ⟨hb1_ HB.out GE501.out⟩⟩
 case rest =>
  clear HC5
  try clear c1
  try clear p2
  try clear c8
  try clear c9
  try clear c11
  try clear c17
  try clear hcz13_0
  try clear hcz13_1
  try clear hcz15_0
  try clear hcz15_1
  try clear hcz17_0
  try clear hcz17_1
  try clear hcz7_0
  try clear hcz7_1
  try clear hfz13_0
  try clear hfz13_1
  try clear hfz15_0
  try clear hfz15_1
  try clear hfz17_0
  try clear hfz17_1
  try clear hfz7_0
  try clear hfz7_1
  obtain ⟨kq, x30_4, rfl, HA, HJ4, HO_7, BK501, HB⟩ := hcut
  cases kq with
  | zero => exact absurd HA.out (by simp [impl_LongestWay.j0])
  | succ kj4 =>
   have H := HA.out
   clear HA
   simp only [impl_LongestWay.j0] at H
   by_cases c19 : x30_4 = true
   ·subst c19
    have H1 : (some (-1)) = some r := by rw [if_pos rfl] at H; exact H
    clear H
    have H := H1
    clear H1
    obtain rfl := Option.some.inj H
    go_wp2
    go_ret
    exact ⟨ex_, hb1_ HB.out GE501.out⟩
   ·replace c19 := Bool.eq_false_iff.mpr c19
    subst c19
    have H1 : (impl_LongestWay.l0 kj4 a1 a2 (-1) t502 (t502.length : Int) 0) = some r := by rw [if_neg (show ¬ (false = true) by decide)] at H; exact H
    clear H
    have H := H1
    clear H1
    have H' := Aside0.mk H
    clear H
    obtain ⟨Ao20, co20, eo20⟩ := Kd.R_slice HO_7.out
    subst eo20
    go_wp2
    go_loopg [9, 33] kj4 (fun kq v9 v33 w' => ∃ (x9_2 : Int) (x33_2 : Int), v9 = .int .i64 x9_2 ∧ v33 = .int .i64 x33_2 ∧ Aside0 (impl_LongestWay.l0 kq a1 a2 x9_2 t502 (t502.length : Int) x33_2 = some r) ∧ Aside0 (kq ≤ kj4) ∧ Aside0 (Kd.R k32 32 w' w.heap.size (fun _ => True) (.slice Ao20 t502.length co20) t502) ∧ Aside0 (w'.heap[gb501]? = some (.cells #[.int .i64 a0_0, .int .i64 a0_1] 25 (0, 0))) ∧ Aside0 (Below w.heap.size w w'))
    case atStart => exact ⟨((-1)), (0), (by first | rfl | (simp; done) | (simp [*]; done)), (by first | rfl | (simp; done) | (simp [*]; done)), H', ⟨Nat.le_refl _⟩, ⟨kr_ HO_7.out⟩, ⟨bk_ BK501.out⟩, ⟨hb1_ HB.out GE501.out⟩⟩
    case round =>
     clear H'
     try clear c1
     try clear p2
     try clear c8
     try clear c9
     try clear c11
     try clear c17
     try clear c19
     try clear hcz13_0
     try clear hcz13_1
     try clear hcz15_0
     try clear hcz15_1
     try clear hcz17_0
     try clear hcz17_1
     try clear hcz7_0
     try clear hcz7_1
     try clear hfz13_0
     try clear hfz13_1
     try clear hfz15_0
     try clear hfz15_1
     try clear hfz17_0
     try clear hfz17_1
     try clear hfz7_0
     try clear hfz7_1
     try clear p2
     obtain ⟨x9_2, x33_2, rfl, rfl, HA, HK2, HO_31, BK501, HB⟩ := hrel
     cases gk with
     | zero => exact absurd HA.out (by simp [impl_LongestWay.l0])
     | succ k2 =>
      have H := HA.out
      clear HA
      simp only [impl_LongestWay.l0] at H
      by_cases c21 : x33_2 < (t502.length : Int)
      ·rw [if_pos c21] at H
       have c21b0 : decide (x33_2 < (t502.length : Int)) = true := decide_eq_true c21
       clear c21
       by_cases c22 : 0 ≤ x33_2
       ·rw [if_pos c22] at H
        have c22b0 : decide (0 ≤ x33_2) = true := decide_eq_true c22
        clear c22
        by_cases c23 : x33_2 < (t502.length : Int)
        ·rw [if_pos c23] at H
         have c23b0 : decide (x33_2 < (t502.length : Int)) = true := decide_eq_true c23
         clear c23
         replace H := Option.bind_eq_some_iff.mp H
         obtain ⟨t510, A240, H⟩ := H
         replace H : (impl_LongestWay.l0 k2 a1 a2 (mx x9_2 t510) t502 (t502.length : Int) (wrap64 (x33_2 + 1))) = some r := H
         have A24 := Aside0.mk A240
         clear A240
         obtain ⟨ji25, hji25⟩ : ∃ j_ : Int, (mx x9_2 t510) = j_ := ⟨_, rfl⟩
         replace H : (impl_LongestWay.l0 k2 a1 a2 ji25 t502 (t502.length : Int) (wrap64 (x33_2 + 1))) = some r := by first | (rw [hji25] at H; exact H) | (simp only [hji25] at H ⊢; exact H)
         (try rw [hji25] at A24)
         have hji25_ : (if x9_2 < t510 then t510 else x9_2) = ji25 := hji25
         have H' := Aside0.mk H
         clear H
         have p508 : 0 ≤ (x33_2 : Int) := of_decide_eq_true (as_)
         have q508 : x33_2 < (t502.length : Int) := of_decide_eq_true (as_)
         obtain ⟨ad508, e508, hx508_0, hx508_1, hx508_2⟩ := at_T32 (Kd.R_reads' HO_31.out).2.2 x33_2 p508 q508
         cases e508
         replace p508 := eq_true p508
         replace q508 := eq_true q508
         go_wp2_with (first | (refine box_ (N := 11) (cs := #[.int .i64 0, .int .i64 0, .int .i64 0]) (t := 32) ?_; intro gb509 hg w26 hbox hb; replace HO_31 := Aside0.mk (Kd.R_below (Kd.R_elderB (kr_ HO_31.out) gb509 (Nat.le_of_eq hg.symm)) hb); have BK509 := Aside0.mk (hbox); have GW509 := HB.g1 GE501 hg; have GE509 := HB.g1 GE501 hg; replace HB := HB.s1 GE501 hb; have NB501_509 := BK501.nl hg; have NB509_501 := BK501.nr hg; replace BK501 := BK501.bb hb; clear hb hbox hg; have hnb27 := NB509_501.out; have hnc27 := NB501_509.out; obtain ⟨hcz28_0, hcz28_1, hcz28_2⟩ := cz3_ BK509.out; obtain ⟨hfz28_0, hfz28_1, hfz28_2⟩ := fz3_ BK509.out) | (refine gl_ 41 Try.func10 #[.agg #[.int .i64 ((rd_T32 t502 x33_2).f0.f0), .int .i64 ((rd_T32 t502 x33_2).f0.f1), .int .i64 ((rd_T32 t502 x33_2).f1)], .int .i64 a1, .int .i64 a2] ?_; (with_reducible refine (impl_DistanceOf.calls k2 ((rd_T32 t502 x33_2).f0.f0) ((rd_T32 t502 x33_2).f0.f1) ((rd_T32 t502 x33_2).f1) a1 a2 t510 _ A24.out).mono ?_); rintro e w29 ⟨rfl, hb⟩; refine ⟨_, rfl, ?_⟩; replace HO_31 := Aside0.mk (Kd.R_below (by (with_reducible repeat (first | apply Kd.R_alloc | apply Kd.R_drewN | apply Kd.R_drew)); exact (Kd.R_mono (Kd.R_far (p := ⟨gb509, 2, none⟩) (Kd.R_far (p := ⟨gb509, 1, none⟩) (Kd.R_far (p := ⟨gb509, 0, none⟩) (Kd.R_mono HO_31.out (fun k_ hk => (⟨hk, hk.2⟩ : _ ∧ k_ ≠ gb509))) (fun _ hk => hk.2) (.int .i64 ((rd_T32 t502 x33_2).f0.f0))) (fun _ hk => hk.2) (.int .i64 ((rd_T32 t502 x33_2).f0.f1))) (fun _ hk => hk.2) (.int .i64 ((rd_T32 t502 x33_2).f1))) (fun _ h_ => h_.1))) hb); replace BK501 := Aside0.mk (blk_below (g := gb501) (o := .cells #[.int .i64 a0_0, .int .i64 a0_1] 25 (0, 0)) (by (with_reducible repeat (first | refine blk_drewN ?_ _ | refine blk_drew ?_ | refine blk_alloc ?_ _)); refine blk_far ?_ NB501_509.out _; (with_reducible repeat (first | refine blk_drewN ?_ _ | refine blk_drew ?_ | refine blk_alloc ?_ _)); refine blk_far ?_ NB501_509.out _; (with_reducible repeat (first | refine blk_drewN ?_ _ | refine blk_drew ?_ | refine blk_alloc ?_ _)); refine blk_far ?_ NB501_509.out _; (with_reducible repeat (first | refine blk_drewN ?_ _ | refine blk_drew ?_ | refine blk_alloc ?_ _)); exact BK501.out) hb); replace BK509 := Aside0.mk (blk_below (bq3_ BK509.out) hb); replace HB := HB.s2 GE501 GE509 hb; (try clear hb)))
         go_roundg k2
         case measure => have := HJ4.out; have := HK2.out; omega
         case rel => exact ⟨(ji25), (wrap64 (x33_2 + 1)), (by first | rfl | (simp; done) | (simp only [← hji25] <;> (first | rfl | simp)) | (simp [*]; done)), (by first | rfl | (simp; done) | (simp [*]; done)), H', ⟨by have := HJ4.out; have := HK2.out; omega⟩, ⟨by (with_reducible repeat (first | apply Kd.R_alloc | apply Kd.R_drewN | apply Kd.R_drew)); exact Kd.R_mono HO_31.out (fun _ hk => trivial)⟩, ⟨bk_ BK501.out⟩, ⟨hb2_ HB.out GE501.out GE509.out⟩⟩
        ·rw [if_neg c23] at H
         exact absurd H (by simp)
       ·rw [if_neg c22] at H
        exact absurd H (by simp)
      ·rw [if_neg c21] at H
       have c21b0 : decide (x33_2 < (t502.length : Int)) = false := decide_eq_false c21
       clear c21
       obtain rfl := Option.some.inj H
       go_wp2
       go_ret
       exact ⟨ex_, hb1_ HB.out GE501.out⟩

end Go.Proofs.Ytnfclfpicemojaa.X
