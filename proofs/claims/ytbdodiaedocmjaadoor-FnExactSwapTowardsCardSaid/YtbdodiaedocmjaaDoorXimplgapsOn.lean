-- Written by a program of this session (xprint.py), out of the translation and of hand-written contracts. Lean checks it.
import Derived.Test.YtbdodiaedocmjaaDoorX0
import Derived.Test.YtbdodiaedocmjaaDoorXcnbr
import Derived.Test.YtbdodiaedocmjaaDoorXcstep
import Derived.Test.YtbdodiaedocmjaaDoorXimplWayBetween
namespace Go.Proofs.YtbdodiaedocmjaaDoor.X
open Go.RowKit Go.Proofs.YtbdodiaedocmjaaDoorW.PrintWords Go.Proofs.YtbdodiaedocmjaaDoorW.PrintLast Go.Proofs.YtbdodiaedocmjaaDoorW.PrintMore
attribute [local go_sem] max2_int min2_int max_two min_two max_three min_three max_four min_four   -- for this text's walks alone
set_option linter.unusedVariables false
set_option linter.unusedSimpArgs false

/-! ### impl_gapsOn: function 38 -/
def impl_gapsOn.l0 : Nat → Int → List Int → List Int → Int → Int → Int → Int → Int → Option (List Int)
 | 0, _, _, _, _, _, _, _, _ => none
 | k + 1, x1, x9, x19, x20, x21, x502000, x502001, x502002 => if x21 < x20 then (if 0 ≤ x21 then (if x21 < (x19.length : Int) then ((impl_GapAt.f k x502000 x502001 x1 (rd x19 x21)).bind fun t507 => (if x9.length < 17592186044416 then ((impl_Step.f k x502000 x502001 x502002 x1 (rd x19 x21)).bind fun t511 => (impl_gapsOn.l0 k t511 (x9 ++ [t507]) x19 x20 (wrap64 (x21 + 1)) x502000 x502001 x502002)) else (none))) else (none)) else (none)) else (some x9)
def impl_gapsOn.f (k : Nat) (a0_0 : Int) (a0_1 : Int) (a0_2 : Int) (a1 : Int) (a2 : Int) : Option (List Int) := (impl_WayBetween.f k a0_0 a0_1 a0_2 a1 a2).bind fun bt502 => (impl_gapsOn.l0 k a1 ([] : List Int) bt502.1 (bt502.1.length : Int) 0 a0_0 a0_1 a0_2)
theorem impl_gapsOn.mono_l : ∀ k, (∀ y0 y1 y2 y3 y4 y5 y6 y7, LeO (impl_gapsOn.l0 k y0 y1 y2 y3 y4 y5 y6 y7) (impl_gapsOn.l0 (k + 1) y0 y1 y2 y3 y4 y5 y6 y7))
 | 0 => fun _ _ _ _ _ _ _ _ r h => by simp [impl_gapsOn.l0] at h
 | k + 1 => by
  have ih0 := impl_gapsOn.mono_l k
  ·intro y0 y1 y2 y3 y4 y5 y6 y7
   unfold impl_gapsOn.l0
   repeat' first
   | (with_reducible exact ih0 ..)
   | (with_reducible exact impl_GapAt.mono ..)
   | (with_reducible exact impl_Step.mono ..)
   | (with_reducible exact impl_WayBetween.mono ..)
   | (with_reducible first | exact lr_ _ | exact ln_ _ | refine li_ ?_ ?_ | refine lb_ ?_ fun _ => ?_)
   | exact ih0 ..
   | exact impl_GapAt.mono ..
   | exact impl_Step.mono ..
   | exact impl_WayBetween.mono ..
   | exact ln_ _ | refine li_ ?_ ?_ | refine lb_ ?_ fun _ => ?_
theorem impl_gapsOn.mono : ∀ a0 a1 a2 a3 a4 k, LeO (impl_gapsOn.f k a0 a1 a2 a3 a4) (impl_gapsOn.f (k + 1) a0 a1 a2 a3 a4) := by
 intro a0 a1 a2 a3 a4 k
 have ih0 := impl_gapsOn.mono_l k
 unfold impl_gapsOn.f
 repeat' first
   | (with_reducible exact ih0 ..)
   | (with_reducible exact impl_GapAt.mono ..)
   | (with_reducible exact impl_Step.mono ..)
   | (with_reducible exact impl_WayBetween.mono ..)
   | (with_reducible first | exact lr_ _ | exact ln_ _ | refine li_ ?_ ?_ | refine lb_ ?_ fun _ => ?_)
   | exact ih0 ..
   | exact impl_GapAt.mono ..
   | exact impl_Step.mono ..
   | exact impl_WayBetween.mono ..
   | exact ln_ _ | refine li_ ?_ ?_ | refine lb_ ?_ fun _ => ?_
set_option maxHeartbeats 8000000 in
set_option maxRecDepth 100000 in
theorem impl_gapsOn.calls (k : Nat) (a0_0 : Int) (a0_1 : Int) (a0_2 : Int) (a1 : Int) (a2 : Int) (r : List Int) (w : World) (h : impl_gapsOn.f k a0_0 a0_1 a0_2 a1 a2 = some r) :
  Calls Tryd.prog 38 #[.agg #[.int .i64 a0_0, .int .i64 a0_1, .int .i64 a0_2], .int .i64 a1, .int .i64 a2] w fun e w' => ∃ v0_ : Value, e = .returned (v0_) ∧ Kd.R (Kd.int .i64) 3 w' w.heap.size (fun _ => True) v0_ r ∧ Below w.heap.size w w' := by
 have hu28 := Tryd.underlying28
 have hu26 := Tryd.underlying26
 have HB := Aside0.mk (Below.refl w.heap.size w)
 have H : ((impl_WayBetween.f k a0_0 a0_1 a0_2 a1 a2).bind fun bt502 => (impl_gapsOn.l0 k a1 ([] : List Int) bt502.1 (bt502.1.length : Int) 0 a0_0 a0_1 a0_2)) = some r := h
 clear h
 replace H := Option.bind_eq_some_iff.mp H
 obtain ⟨⟨t502, t505⟩, A40, H⟩ := H
 replace H : (impl_gapsOn.l0 k a1 ([] : List Int) t502 (t502.length : Int) 0 a0_0 a0_1 a0_2) = some r := H
 have A4 := Aside0.mk A40
 clear A40
 have H' := Aside0.mk H
 clear H
 go_enter Tryd.func38, Tryd.ntmps38
 go_wp2_with (first | (refine box_ (N := 3) (cs := #[.int .i64 a0_0, .int .i64 a0_1, .int .i64 a0_2]) (t := 28) ?_; intro gb501 hg w5 hbox hb; have BK501 := Aside0.mk (hbox); have GW501 := HB.g0 hg; have GE501 := HB.g0 hg; replace HB := HB.s0 hb; clear hb hbox hg; obtain ⟨hcz6_0, hcz6_1, hcz6_2⟩ := cz3_ BK501.out; obtain ⟨hfz6_0, hfz6_1, hfz6_2⟩ := fz3_ BK501.out) | (refine gl_ 16 Tryd.func55 #[.agg #[.int .i64 a0_0, .int .i64 a0_1, .int .i64 a0_2], .int .i64 a1, .int .i64 a2] ?_; (with_reducible refine (impl_WayBetween.calls k a0_0 a0_1 a0_2 a1 a2 t502 t505 _ A4.out).mono ?_); rintro e w7 ⟨v503, rfl, ho0, hb⟩; refine ⟨_, rfl, ?_⟩; have HO504 := Aside0.mk (Kd.R_lower ho0 (below_size (hb1_ HB.out GE501.out))); replace BK501 := BK501.bb hb; replace HB := HB.s1 GE501 hb; (try clear hb); (try clear ho0); obtain ⟨Ao8, co8, eo8⟩ := Kd.R_slice HO504.out; subst eo8))
 go_loopg [1, 9, 21] k (fun kq v1 v9 v21 w' => ∃ (x1_1 : Int) (x9_1 : List Int) (x21_1 : Int), v1 = .int .i64 x1_1 ∧ v21 = .int .i64 x21_1 ∧ Aside0 (impl_gapsOn.l0 kq x1_1 x9_1 t502 (t502.length : Int) x21_1 a0_0 a0_1 a0_2 = some r) ∧ Aside0 (kq ≤ k) ∧ Aside0 (Kd.R (Kd.int .i64) 3 w' w.heap.size (fun k_ => some k_ ≠ ((.slice Ao8 t502.length co8) : Value).ownBlock) v9 x9_1) ∧ Aside0 (Kd.R (Kd.int .i64) 3 w' w.heap.size (fun k_ => some k_ ≠ (v9 : Value).ownBlock) (.slice Ao8 t502.length co8) t502) ∧ Aside0 (w'.heap[gb501]? = some (.cells #[.int .i64 a0_0, .int .i64 a0_1, .int .i64 a0_2] 28 (0, 0))) ∧ Aside0 (Below w.heap.size w w'))
 case atStart => exact ⟨(a1), (([] : List Int)), (0), (by first | rfl | (simp; done) | (simp [*]; done)), (by first | rfl | (simp; done) | (simp [*]; done)), H', ⟨Nat.le_refl _⟩, ⟨by first | exact Kd.R_nil _ _ _ _ _ | exact Kd.N_nil _ _ _ _ _ | exact Kd.V_nil _ _ _ _ _ | exact Kd.Q_nil _ _ _ _ _ | exact Kd.S_nil _ _ _ _ _⟩, ⟨by (with_reducible repeat (first | apply Kd.R_alloc | apply Kd.R_drewN | apply Kd.R_drew)); exact Kd.R_mono HO504.out (fun _ hk => (by simp [Value.ownBlock]))⟩, ⟨bk_ BK501.out⟩, ⟨hb1_ HB.out GE501.out⟩⟩
 case round =>
  clear H'
  try clear p2
  try clear c3
  try clear c5
  try clear hcz6_0
  try clear hcz6_1
  try clear hcz6_2
  try clear hfz6_0
  try clear hfz6_1
  try clear hfz6_2
  obtain ⟨x1_1, x9_1, x21_1, rfl, rfl, HA, HK1, HO_9, HO_19, BK501, HB⟩ := hrel
  cases gk with
  | zero => exact absurd HA.out (by simp [impl_gapsOn.l0])
  | succ k1 =>
   have H := HA.out
   clear HA
   simp only [impl_gapsOn.l0] at H
   by_cases c9 : x21_1 < (t502.length : Int)
   ·rw [if_pos c9] at H
    have c9b0 : decide (x21_1 < (t502.length : Int)) = true := decide_eq_true c9
    clear c9
    by_cases c10 : 0 ≤ x21_1
    ·rw [if_pos c10] at H
     have c10b0 : decide (0 ≤ x21_1) = true := decide_eq_true c10
     clear c10
     by_cases c11 : x21_1 < (t502.length : Int)
     ·rw [if_pos c11] at H
      have c11b0 : decide (x21_1 < (t502.length : Int)) = true := decide_eq_true c11
      clear c11
      replace H := Option.bind_eq_some_iff.mp H
      obtain ⟨t507, A120, H⟩ := H
      replace H : (if x9_1.length < 17592186044416 then ((impl_Step.f k1 a0_0 a0_1 a0_2 x1_1 (rd t502 x21_1)).bind fun t511 => (impl_gapsOn.l0 k1 t511 (x9_1 ++ [t507]) t502 (t502.length : Int) (wrap64 (x21_1 + 1)) a0_0 a0_1 a0_2)) else (none)) = some r := H
      have A12 := Aside0.mk A120
      clear A120
      by_cases c13 : x9_1.length < 17592186044416
      ·rw [if_pos c13] at H
       have LMc13 := Aside0.mk c13
       clear c13
       obtain ⟨y508, hy508⟩ : ∃ y_ : List Int, y_ = (x9_1 ++ [t507]) := ⟨_, rfl⟩
       replace H : ((impl_Step.f k1 a0_0 a0_1 a0_2 x1_1 (rd t502 x21_1)).bind fun t511 => (impl_gapsOn.l0 k1 t511 y508 t502 (t502.length : Int) (wrap64 (x21_1 + 1)) a0_0 a0_1 a0_2)) = some r := by first | (rw [hy508]; with_reducible exact H) | (have H2_ := (Option.bind_some _ _).symm.trans H; rw [hy508]; with_reducible exact H2_) | (have H2_ := (Option.bind_some _ _).symm.trans H; with_reducible exact H2_) | with_reducible exact H | (rw [hy508]; exact H) | exact H
       have Ny508 := Aside0.mk hy508
       clear hy508
       replace H := Option.bind_eq_some_iff.mp H
       obtain ⟨t511, A140, H⟩ := H
       replace H : (impl_gapsOn.l0 k1 t511 y508 t502 (t502.length : Int) (wrap64 (x21_1 + 1)) a0_0 a0_1 a0_2) = some r := H
       have A14 := Aside0.mk A140
       clear A140
       have H' := Aside0.mk H
       clear H
       have p506 : 0 ≤ (x21_1 : Int) := of_decide_eq_true (as_)
       have q506 : x21_1 < (t502.length : Int) := of_decide_eq_true (as_)
       obtain ⟨ad506, e506, hx506_0⟩ := Kd.at_int (Kd.R_reads' HO_19.out).2.2 x21_1 p506 q506
       cases e506
       replace p506 := eq_true p506
       replace q506 := eq_true q506
       obtain ⟨hcz15_0, hcz15_1, hcz15_2⟩ := cz3_ BK501.out
       obtain ⟨hfz15_0, hfz15_1, hfz15_2⟩ := fz3_ BK501.out
       go_wp2_with (first | (refine gl_ 30 Tryd.func56 #[.agg #[.int .i64 a0_0, .int .i64 a0_1], .int .i64 x1_1, .int .i64 (rd t502 x21_1)] ?_; (with_reducible refine (impl_GapAt.calls k1 a0_0 a0_1 x1_1 (rd t502 x21_1) t507 _ A12.out).mono ?_); rintro e w16 ⟨rfl, hb⟩; refine ⟨_, rfl, ?_⟩; replace HO_9 := HO_9.kb hb; replace HO_19 := HO_19.kb hb; replace BK501 := BK501.bb hb; replace HB := HB.s1 GE501 hb; (try clear hb)) | ((with_reducible refine gate_builtin (b := .append) (xs := #[.tmp 25, .tmp 31]) rfl ?_); at_builtin; refine Kd.R_append (Kd.int .i64) (w0 := w) w.heap.size rfl (.tmp 25) (.tmp 31) 37 3 (.int .i64 0) 8 rfl Tryd.underlying37 info3 rfl (by decide) (by omega) u9 x9_1 t507 [.int .i64 t507] (fun k_ => some k_ ≠ (.slice (some ad506) t502.length co8 : Value).ownBlock) (fun _ => False) rfl rfl ?aP (fun _ hk => hk.elim) ?aF ?aO ?aB ?aS ?aL ?_; (case aP => exact rfl); (case aB => exact (hb1_ HB.out GE501.out)); (case aF => exact (fun k_ hk => Kd.fresh' (Kd.R_lt (kr_ HO_19.out)) k_ hk)); (case aO => exact (kr_ HO_9.out)); (case aS => exact (below_size (hb1_ HB.out GE501.out))); (case aL => have := LMc13.out; omega); intro v509 w17 ho hb hg hat; rw [← Ny508.out] at ho; replace HO_19 := Aside0.mk (Kd.R_after (ok := (fun _ => True)) (by (with_reducible repeat (first | apply Kd.R_alloc | apply Kd.R_drewN | apply Kd.R_drew)); exact Kd.R_mono HO_19.out (fun _ hk => ⟨trivial, hk⟩)) hg hat); replace BK501 := Aside0.mk (blk_grown (g := gb501) (o := .cells #[.int .i64 a0_0, .int .i64 a0_1, .int .i64 a0_2] 28 (0, 0)) (bk_ BK501.out) hg (Kd.R_ne HO_9.out BK501.out (by decide))); replace HB := Aside0.mk (hb); have HO510 := Aside0.mk (ho); clear HO_9; clear ho hb hg hat; obtain ⟨hcz18_0, hcz18_1, hcz18_2⟩ := cz3_ BK501.out; obtain ⟨hfz18_0, hfz18_1, hfz18_2⟩ := fz3_ BK501.out) | (refine gl_ 36 Tryd.func57 #[.agg #[.int .i64 a0_0, .int .i64 a0_1, .int .i64 a0_2], .int .i64 x1_1, .int .i64 (rd t502 x21_1)] ?_; (with_reducible refine (impl_Step.calls k1 a0_0 a0_1 a0_2 x1_1 (rd t502 x21_1) t511 _ A14.out).mono ?_); rintro e w19 ⟨rfl, hb⟩; refine ⟨_, rfl, ?_⟩; replace HO_19 := HO_19.kb hb; replace HO510 := HO510.kb hb; replace BK501 := BK501.bb hb; replace HB := HB.s1 GE501 hb; (try clear hb)))
       go_roundg k1
       case measure => have := HK1.out; omega
       case rel => exact ⟨(t511), (y508), (wrap64 (x21_1 + 1)), (by first | rfl | (simp; done) | (simp [*]; done)), (by first | rfl | (simp; done) | (simp [*]; done)), H', ⟨by have := HK1.out; omega⟩, ⟨kr_ HO510.out⟩, ⟨by (with_reducible repeat (first | apply Kd.R_alloc | apply Kd.R_drewN | apply Kd.R_drew)); exact Kd.R_mono HO_19.out (fun _ hk => hk.2)⟩, ⟨bk_ BK501.out⟩, ⟨hb1_ HB.out GE501.out⟩⟩
      ·rw [if_neg c13] at H
       exact absurd H (by simp)
     ·rw [if_neg c11] at H
      exact absurd H (by simp)
    ·rw [if_neg c10] at H
     exact absurd H (by simp)
   ·rw [if_neg c9] at H
    have c9b0 : decide (x21_1 < (t502.length : Int)) = false := decide_eq_false c9
    clear c9
    obtain rfl := Option.some.inj H
    go_wp2
    go_ret
    exact ⟨_, ex_, by (with_reducible repeat (first | apply Kd.R_alloc | apply Kd.R_drewN | apply Kd.R_drew)); exact Kd.R_mono HO_9.out (fun _ hk => trivial), hb1_ HB.out GE501.out⟩

end Go.Proofs.YtbdodiaedocmjaaDoor.X
