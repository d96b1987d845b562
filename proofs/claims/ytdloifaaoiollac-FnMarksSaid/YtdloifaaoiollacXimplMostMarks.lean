-- Written by a program of this session (xprint.py), out of the translation and of hand-written contracts. Lean checks it.
import Derived.Test.YtdloifaaoiollacX0
import Derived.Test.YtdloifaaoiollacXimplTremauxWalk
namespace Go.Proofs.Ytdloifaaoiollac.X
open Go.RowKit Go.Proofs.YtdloifaaoiollacW.PrintWords Go.Proofs.YtdloifaaoiollacW.PrintLast Go.Proofs.YtdloifaaoiollacW.PrintMore
attribute [local go_sem] max2_int min2_int max_two min_two max_three min_three max_four min_four   -- for this text's walks alone
set_option linter.unusedVariables false
set_option linter.unusedSimpArgs false

/-! ### impl_MostMarks: function 23 -/
def impl_MostMarks.l0 : Nat → Int → List Int → Int → Int → Option (Int)
 | 0, _, _, _, _ => none
 | k + 1, x7, x16, x17, x18 => if x18 < x17 then (if 0 ≤ x18 then (if x18 < (x16.length : Int) then (impl_MostMarks.l0 k (mx x7 (rd x16 x18)) x16 x17 (wrap64 (x18 + 1))) else (none)) else (none)) else (some x7)
def impl_MostMarks.f (k : Nat) (a0_0 : Int) (a0_1 : Int) (a0_2 : Int) (a1 : Int) : Option (Int) := (impl_TremauxWalk.f k a0_0 a0_1 a0_2 a1).bind fun bt502 => (impl_MostMarks.l0 k 0 bt502.2 (bt502.2.length : Int) 0)
theorem impl_MostMarks.mono_l : ∀ k, (∀ y0 y1 y2 y3, LeO (impl_MostMarks.l0 k y0 y1 y2 y3) (impl_MostMarks.l0 (k + 1) y0 y1 y2 y3))
 | 0 => fun _ _ _ _ r h => by simp [impl_MostMarks.l0] at h
 | k + 1 => by
  have ih0 := impl_MostMarks.mono_l k
  ·intro y0 y1 y2 y3
   unfold impl_MostMarks.l0
   repeat' first
   | (with_reducible exact ih0 _ _ _ _)
   | (with_reducible exact impl_TremauxWalk.mono _ _ _ _ _)
   | (with_reducible exact LeO.refl _)
   | (with_reducible exact LeO.none _)
   | (with_reducible refine LeO.ite ?_ ?_)
   | (with_reducible refine LeO.bind ?_ (fun _ => ?_))
   | exact ih0 _ _ _ _
   | exact impl_TremauxWalk.mono _ _ _ _ _
   | exact LeO.none _
   | refine LeO.ite ?_ ?_
   | refine LeO.bind ?_ (fun _ => ?_)
theorem impl_MostMarks.mono : ∀ a0 a1 a2 a3 k, LeO (impl_MostMarks.f k a0 a1 a2 a3) (impl_MostMarks.f (k + 1) a0 a1 a2 a3) := by
 intro a0 a1 a2 a3 k
 have ih0 := impl_MostMarks.mono_l k
 unfold impl_MostMarks.f
 repeat' first
   | (with_reducible exact ih0 _ _ _ _)
   | (with_reducible exact impl_TremauxWalk.mono _ _ _ _ _)
   | (with_reducible exact LeO.refl _)
   | (with_reducible exact LeO.none _)
   | (with_reducible refine LeO.ite ?_ ?_)
   | (with_reducible refine LeO.bind ?_ (fun _ => ?_))
   | exact ih0 _ _ _ _
   | exact impl_TremauxWalk.mono _ _ _ _ _
   | exact LeO.none _
   | refine LeO.ite ?_ ?_
   | refine LeO.bind ?_ (fun _ => ?_)
set_option maxHeartbeats 8000000 in
set_option maxRecDepth 100000 in
theorem impl_MostMarks.calls (k : Nat) (a0_0 : Int) (a0_1 : Int) (a0_2 : Int) (a1 : Int) (r : Int) (w : World) (h : impl_MostMarks.f k a0_0 a0_1 a0_2 a1 = some r) :
  Calls Try.prog 23 #[.agg #[.int .i64 a0_0, .int .i64 a0_1, .int .i64 a0_2], .int .i64 a1] w fun e w' => e = .returned (.int .i64 r) ∧ Below w.heap.size w w' := by
 have hu36 := Try.underlying36
 have HB := Aside0.mk (Below.refl w.heap.size w)
 have H : ((impl_TremauxWalk.f k a0_0 a0_1 a0_2 a1).bind fun bt502 => (impl_MostMarks.l0 k 0 bt502.2 (bt502.2.length : Int) 0)) = some r := h
 clear h
 replace H := Option.bind_eq_some_iff.mp H
 obtain ⟨⟨t502, t505⟩, A30, H⟩ := H
 replace H : (impl_MostMarks.l0 k 0 t505 (t505.length : Int) 0) = some r := H
 have A3 := Aside0.mk A30
 clear A30
 have H' := Aside0.mk H
 clear H
 go_enter Try.func23, Try.ntmps23
 go_wp2_with (first | ((with_reducible refine gate_dst (N := 2) rfl ?_); refine box_event ?hg (N := 2) ?hd (cs := #[.int .i64 a0_0, .int .i64 a0_1, .int .i64 a0_2]) (t := 36) ?hr ?_; (case hd => rfl); (case hg => rfl); (case hr => first | (go_simp; done) | (go_simp; rfl)); intro gb501 hg w4 hbox hb; have n0_ := Aside0.mk (below_step (hb0_ HB.out) hb); have n1_ := Aside0.mk (hbox); have n2_ := Aside0.mk ((gs_ hg (hb0_ HB.out))); have n3_ := Aside0.mk ((gs_ hg (hb0_ HB.out))); clear HB; have HB := n0_; have BK501 := n1_; have GW501 := n2_; have GE501 := n3_; clear n0_ n1_ n2_ n3_; clear hb hbox hg; obtain ⟨hcz5_0, hcz5_1, hcz5_2⟩ := cz3_ BK501.out; obtain ⟨hfz5_0, hfz5_1, hfz5_2⟩ := fz3_ BK501.out) | ((with_reducible refine gate_callee (f := 18) rfl ?_); refine goesL_ (some 13) rfl rfl Try.func18 (by kernel_rfl) rfl #[.agg #[.int .i64 a0_0, .int .i64 a0_1, .int .i64 a0_2], .int .i64 a1] rfl (ml_) ?_; (with_reducible refine (impl_TremauxWalk.calls k a0_0 a0_1 a0_2 a1 t502 t505 _ A3.out).mono ?_); rintro e w6 ⟨v503, v506, rfl, ho0, ho1, hb⟩; refine ⟨_, rfl, ?_⟩; have HO504 := Aside0.mk (Kd.R_lower ho0 (below_size (hb1_ HB.out GE501.out))); have HO507 := Aside0.mk (Kd.R_lower ho1 (below_size (hb1_ HB.out GE501.out))); replace BK501 := Aside0.mk (bb_ BK501.out hb); replace HB := Aside0.mk (below_step (hb1_ HB.out GE501.out) hb); (try clear hb); (try clear hb2); (try clear hk); (try clear hi); (try clear ho0); (try clear ho1); obtain ⟨Ao7, co7, eo7⟩ := Kd.R_slice HO507.out; subst eo7))
 go_loopg [7, 18] k (fun kq v7 v18 w' => ∃ (x7_1 : Int) (x18_1 : Int), v7 = .int .i64 x7_1 ∧ v18 = .int .i64 x18_1 ∧ Aside0 (impl_MostMarks.l0 kq x7_1 t505 (t505.length : Int) x18_1 = some r) ∧ Aside0 (kq ≤ k) ∧ Aside0 (Kd.R (Kd.int .i64) 3 w' w.heap.size (fun _ => True) (.slice Ao7 t505.length co7) t505) ∧ Aside0 (w'.heap[gb501]? = some (.cells #[.int .i64 a0_0, .int .i64 a0_1, .int .i64 a0_2] 36 (0, 0))) ∧ Aside0 (Below w.heap.size w w'))
 case atStart => exact ⟨(0), (0), (by first | rfl | (simp; done) | (simp [*]; done)), (by first | rfl | (simp; done) | (simp [*]; done)), H', ⟨Nat.le_refl _⟩, ⟨by (with_reducible repeat (first | apply Kd.R_alloc | apply Kd.R_drewN | apply Kd.R_drew)); exact Kd.R_mono HO507.out (fun _ hk => trivial)⟩, ⟨bk_ BK501.out⟩, ⟨hb1_ HB.out GE501.out⟩⟩
 case round =>
  clear H'
  try clear c1
  try clear c2
  try clear p2
  try clear hcz5_0
  try clear hcz5_1
  try clear hcz5_2
  try clear hfz5_0
  try clear hfz5_1
  try clear hfz5_2
  obtain ⟨x7_1, x18_1, rfl, rfl, HA, HK1, HO_16, BK501, HB⟩ := hrel
  cases gk with
  | zero => exact absurd HA.out (by simp [impl_MostMarks.l0])
  | succ k1 =>
   have H := HA.out
   clear HA
   simp only [impl_MostMarks.l0] at H
   by_cases c8 : x18_1 < (t505.length : Int)
   ·rw [if_pos c8] at H
    have c8b0 : decide (x18_1 < (t505.length : Int)) = true := decide_eq_true c8
    clear c8
    by_cases c9 : 0 ≤ x18_1
    ·rw [if_pos c9] at H
     have c9b0 : decide (0 ≤ x18_1) = true := decide_eq_true c9
     clear c9
     by_cases c10 : x18_1 < (t505.length : Int)
     ·rw [if_pos c10] at H
      have c10b0 : decide (x18_1 < (t505.length : Int)) = true := decide_eq_true c10
      clear c10
      obtain ⟨ji11, hji11⟩ : ∃ j_ : Int, (mx x7_1 (rd t505 x18_1)) = j_ := ⟨_, rfl⟩
      replace H : (impl_MostMarks.l0 k1 ji11 t505 (t505.length : Int) (wrap64 (x18_1 + 1))) = some r := by first | (rw [hji11] at H; exact H) | (simp only [hji11] at H ⊢; exact H)
      have hji11_ : (if x7_1 < (rd t505 x18_1) then (rd t505 x18_1) else x7_1) = ji11 := hji11
      have H' := Aside0.mk H
      clear H
      have p508 : 0 ≤ (x18_1 : Int) := of_decide_eq_true (as_)
      have q508 : x18_1 < (t505.length : Int) := of_decide_eq_true (as_)
      obtain ⟨ad508, e508, hx508_0⟩ := Kd.at_int (Kd.R_reads' HO_16.out).2.2 x18_1 p508 q508
      cases e508
      replace p508 := eq_true p508
      replace q508 := eq_true q508
      go_wp2
      go_roundg k1
      case measure => have := HK1.out; omega
      case rel => exact ⟨(ji11), (wrap64 (x18_1 + 1)), (by first | rfl | (simp; done) | (simp only [← hji11] <;> (first | rfl | simp)) | (simp [*]; done)), (by first | rfl | (simp; done) | (simp [*]; done)), H', ⟨by have := HK1.out; omega⟩, ⟨kr_ HO_16.out⟩, ⟨bk_ BK501.out⟩, ⟨hb1_ HB.out GE501.out⟩⟩
     ·rw [if_neg c10] at H
      exact absurd H (by simp)
    ·rw [if_neg c9] at H
     exact absurd H (by simp)
   ·rw [if_neg c8] at H
    have c8b0 : decide (x18_1 < (t505.length : Int)) = false := decide_eq_false c8
    clear c8
    obtain rfl := Option.some.inj H
    go_wp2
    go_ret
    exact ⟨by first | rfl | (simp [errW_none, errW_some] <;> rfl) | (simp [*, errW_none, errW_some] <;> rfl), hb1_ HB.out GE501.out⟩

end Go.Proofs.Ytdloifaaoiollac.X
