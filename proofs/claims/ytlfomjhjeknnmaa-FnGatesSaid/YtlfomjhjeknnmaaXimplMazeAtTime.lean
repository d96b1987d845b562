-- Written by a program of this session (xprint.py), out of the translation and of hand-written contracts. Lean checks it.
import Derived.Test.YtlfomjhjeknnmaaX0
import Derived.Test.YtlfomjhjeknnmaaXimplTimedOk
import Derived.Test.YtlfomjhjeknnmaaXimplwith
namespace Go.Proofs.Ytlfomjhjeknnmaa.X
open Go.RowKit Go.Proofs.YtlfomjhjeknnmaaW.PrintWords Go.Proofs.YtlfomjhjeknnmaaW.PrintLast Go.Proofs.YtlfomjhjeknnmaaW.PrintMore
attribute [local go_sem] max2_int min2_int max_two min_two max_three min_three max_four min_four   -- for this text's walks alone
set_option linter.unusedVariables false
set_option linter.unusedSimpArgs false

/-! ### impl_MazeAtTime: function 25 -/
mutual
def impl_MazeAtTime.j0 : Nat → Int → Bool → Int → Int → Int → Int → List (S56) → Option (Int × Int × Int × Bool)
 | 0, _, _, _, _, _, _, _ => none
 | k + 1, x1, x19, x502000, x502001, x502002, x502003, x502004 => if x19 = true then (some (0, 0, 0, false)) else (impl_MazeAtTime.l0 k x1 x502004 (x502004.length : Int) 0 x502000 x502001 x502002 x502003 x502004 x502000 x502001 x502002)
def impl_MazeAtTime.l0 : Nat → Int → List (S56) → Int → Int → Int → Int → Int → Int → List (S56) → Int → Int → Int → Option (Int × Int × Int × Bool)
 | 0, _, _, _, _, _, _, _, _, _, _, _, _ => none
 | k + 1, x1, x24, x25, x26, x502000, x502001, x502002, x502003, x502004, x505000, x505001, x505002 => if x26 < x25 then (if 0 ≤ x26 then (if x26 < (x24.length : Int) then (if x502003 = 0 then (none) else (if 0 ≤ (Int.tmod x1 x502003) then (if (Go.bits .and .i64 (shr .i64 ((rd_T56 x24 x26).f1) (Int.tmod x1 x502003)) 1) = 0 then ((impl_with.f x505000 x505001 x505002 ((rd_T56 x24 x26).f0) false).bind fun bt507 => (impl_MazeAtTime.l0 k x1 x24 x25 (wrap64 (x26 + 1)) x502000 x502001 x502002 x502003 x502004 bt507.1 bt507.2.1 bt507.2.2)) else (impl_MazeAtTime.l0 k x1 x24 x25 (wrap64 (x26 + 1)) x502000 x502001 x502002 x502003 x502004 x505000 x505001 x505002)) else (none))) else (none)) else (none)) else (some (x505000, x505001, x505002, true))
end
def impl_MazeAtTime.f (k : Nat) (a0_0 : Int) (a0_1 : Int) (a0_2 : Int) (a0_3 : Int) (l0_4 : List (S56)) (a1 : Int) : Option (Int × Int × Int × Bool) := (impl_TimedOk.f k a0_0 a0_1 a0_2 a0_3 l0_4).bind fun t503 => (if t503 = true then (if a1 < 0 then (impl_MazeAtTime.j0 k a1 true a0_0 a0_1 a0_2 a0_3 l0_4) else (impl_MazeAtTime.j0 k a1 (decide (a1 > 1000)) a0_0 a0_1 a0_2 a0_3 l0_4)) else (impl_MazeAtTime.j0 k a1 true a0_0 a0_1 a0_2 a0_3 l0_4))
theorem impl_MazeAtTime.mono_l : ∀ k, (∀ y0 y1 y2 y3 y4 y5 y6, LeO (impl_MazeAtTime.j0 k y0 y1 y2 y3 y4 y5 y6) (impl_MazeAtTime.j0 (k + 1) y0 y1 y2 y3 y4 y5 y6)) ∧ (∀ y0 y1 y2 y3 y4 y5 y6 y7 y8 y9 y10 y11, LeO (impl_MazeAtTime.l0 k y0 y1 y2 y3 y4 y5 y6 y7 y8 y9 y10 y11) (impl_MazeAtTime.l0 (k + 1) y0 y1 y2 y3 y4 y5 y6 y7 y8 y9 y10 y11))
 | 0 => ⟨fun _ _ _ _ _ _ _ r h => by simp [impl_MazeAtTime.j0] at h, fun _ _ _ _ _ _ _ _ _ _ _ _ r h => by simp [impl_MazeAtTime.l0] at h⟩
 | k + 1 => by
  obtain ⟨ih0, ih1⟩ := impl_MazeAtTime.mono_l k
  refine ⟨?_, ?_⟩
  ·intro y0 y1 y2 y3 y4 y5 y6
   unfold impl_MazeAtTime.j0
   repeat' first
   | (with_reducible exact ih0 ..)
   | (with_reducible exact ih1 ..)
   | (with_reducible exact impl_TimedOk.mono ..)
   | (with_reducible first | exact lr_ _ | exact ln_ _ | refine li_ ?_ ?_ | refine lb_ ?_ fun _ => ?_)
   | exact ih0 ..
   | exact ih1 ..
   | exact impl_TimedOk.mono ..
   | exact ln_ _ | refine li_ ?_ ?_ | refine lb_ ?_ fun _ => ?_
  ·intro y0 y1 y2 y3 y4 y5 y6 y7 y8 y9 y10 y11
   unfold impl_MazeAtTime.l0
   repeat' first
   | (with_reducible exact ih0 ..)
   | (with_reducible exact ih1 ..)
   | (with_reducible exact impl_TimedOk.mono ..)
   | (with_reducible first | exact lr_ _ | exact ln_ _ | refine li_ ?_ ?_ | refine lb_ ?_ fun _ => ?_)
   | exact ih0 ..
   | exact ih1 ..
   | exact impl_TimedOk.mono ..
   | exact ln_ _ | refine li_ ?_ ?_ | refine lb_ ?_ fun _ => ?_
theorem impl_MazeAtTime.mono : ∀ a0 a1 a2 a3 a4 a5 k, LeO (impl_MazeAtTime.f k a0 a1 a2 a3 a4 a5) (impl_MazeAtTime.f (k + 1) a0 a1 a2 a3 a4 a5) := by
 intro a0 a1 a2 a3 a4 a5 k
 obtain ⟨ih0, ih1⟩ := impl_MazeAtTime.mono_l k
 unfold impl_MazeAtTime.f
 repeat' first
   | (with_reducible exact ih0 ..)
   | (with_reducible exact ih1 ..)
   | (with_reducible exact impl_TimedOk.mono ..)
   | (with_reducible first | exact lr_ _ | exact ln_ _ | refine li_ ?_ ?_ | refine lb_ ?_ fun _ => ?_)
   | exact ih0 ..
   | exact ih1 ..
   | exact impl_TimedOk.mono ..
   | exact ln_ _ | refine li_ ?_ ?_ | refine lb_ ?_ fun _ => ?_
set_option maxHeartbeats 8000000 in
set_option maxRecDepth 100000 in
theorem impl_MazeAtTime.calls (k : Nat) (a0_0 : Int) (a0_1 : Int) (a0_2 : Int) (a0_3 : Int) (A0_4 : Option Addr) (c0_4 : Nat) (l0_4 : List (S56)) (a1 : Int) (r1 : Int) (r2 : Int) (r3 : Int) (r4 : Bool) (w : World) (hr0_4 : Kd.C k56 w A0_4 l0_4.length l0_4) (hc0_4 : l0_4.length ≤ c0_4) (h : impl_MazeAtTime.f k a0_0 a0_1 a0_2 a0_3 l0_4 a1 = some (r1, r2, r3, r4)) :
  Calls Try.prog 25 #[.agg #[.int .i64 a0_0, .int .i64 a0_1, .int .i64 a0_2, .int .i64 a0_3, .slice A0_4 l0_4.length c0_4], .int .i64 a1] w fun e w' => e = .returned (.tuple #[.agg #[.int .i64 r1, .int .i64 r2, .int .i64 r3], .bool r4]) ∧ Below w.heap.size w w' := by
 have hu36 := Try.underlying36
 have hu33 := Try.underlying33
 have hu56 := Try.underlying56
 have HR0_4 := Aside0.mk hr0_4
 have HC0_4 := Aside0.mk hc0_4
 clear hr0_4 hc0_4
 have HB := Aside0.mk (Below.refl w.heap.size w)
 have H : ((impl_TimedOk.f k a0_0 a0_1 a0_2 a0_3 l0_4).bind fun t503 => (if t503 = true then (if a1 < 0 then (impl_MazeAtTime.j0 k a1 true a0_0 a0_1 a0_2 a0_3 l0_4) else (impl_MazeAtTime.j0 k a1 (decide (a1 > 1000)) a0_0 a0_1 a0_2 a0_3 l0_4)) else (impl_MazeAtTime.j0 k a1 true a0_0 a0_1 a0_2 a0_3 l0_4))) = some (r1, r2, r3, r4) := h
 clear h
 have HC3 := Aside0.mk H
 clear H
 go_enter Try.func25, Try.ntmps25
 go_upto_region 1 with (first | (refine box_ (N := 2) (cs := #[.int .i64 a0_0, .int .i64 a0_1, .int .i64 a0_2, .int .i64 a0_3, .slice A0_4 l0_4.length c0_4]) (t := 36) ?_; intro gb501 hg w4 hbox hb; have BK501 := Aside0.mk (hbox); have GW501 := HB.g0 hg; have GE501 := HB.g0 hg; replace HB := HB.s0 hb; clear hb hbox hg) | (refine box_ (N := 4) (cs := #[.int .i64 0, .int .i64 0, .int .i64 0]) (t := 33) ?_; intro gb502 hg w5 hbox hb; have BK502 := Aside0.mk (hbox); have GW502 := HB.g1 GE501 hg; have GE502 := HB.g1 GE501 hg; replace HB := HB.s1 GE501 hb; have NB501_502 := BK501.nl hg; have NB502_501 := BK501.nr hg; replace BK501 := BK501.bb hb; clear hb hbox hg))
 repeat (go_quiet (first | (refine box_ (N := 2) (cs := #[.int .i64 a0_0, .int .i64 a0_1, .int .i64 a0_2, .int .i64 a0_3, .slice A0_4 l0_4.length c0_4]) (t := 36) ?_; intro gb501 hg w4 hbox hb; have BK501 := Aside0.mk (hbox); have GW501 := HB.g0 hg; have GE501 := HB.g0 hg; replace HB := HB.s0 hb; clear hb hbox hg) | (refine box_ (N := 4) (cs := #[.int .i64 0, .int .i64 0, .int .i64 0]) (t := 33) ?_; intro gb502 hg w5 hbox hb; have BK502 := Aside0.mk (hbox); have GW502 := HB.g1 GE501 hg; have GE502 := HB.g1 GE501 hg; replace HB := HB.s1 GE501 hb; have NB501_502 := BK501.nl hg; have NB502_501 := BK501.nr hg; replace BK501 := BK501.bb hb; clear hb hbox hg)); go_upto_region 1 with (first | (refine box_ (N := 2) (cs := #[.int .i64 a0_0, .int .i64 a0_1, .int .i64 a0_2, .int .i64 a0_3, .slice A0_4 l0_4.length c0_4]) (t := 36) ?_; intro gb501 hg w4 hbox hb; have BK501 := Aside0.mk (hbox); have GW501 := HB.g0 hg; have GE501 := HB.g0 hg; replace HB := HB.s0 hb; clear hb hbox hg) | (refine box_ (N := 4) (cs := #[.int .i64 0, .int .i64 0, .int .i64 0]) (t := 33) ?_; intro gb502 hg w5 hbox hb; have BK502 := Aside0.mk (hbox); have GW502 := HB.g1 GE501 hg; have GE502 := HB.g1 GE501 hg; replace HB := HB.s1 GE501 hb; have NB501_502 := BK501.nl hg; have NB502_501 := BK501.nr hg; replace BK501 := BK501.bb hb; clear hb hbox hg)))
 (try simp only [Act.put, List.setIfInBounds_toArray, List.set_cons_zero, List.set_cons_succ])
 go_cut [19] (fun v19 wc => ∃ (kq : Nat) (x19_2 : Bool), v19 = .bool x19_2 ∧ Aside0 (impl_MazeAtTime.j0 kq a1 x19_2 a0_0 a0_1 a0_2 a0_3 l0_4 = some (r1, r2, r3, r4)) ∧ Aside0 (kq ≤ k) ∧ Aside0 (wc.heap[gb501]? = some (.cells #[.int .i64 a0_0, .int .i64 a0_1, .int .i64 a0_2, .int .i64 a0_3, (.slice A0_4 l0_4.length c0_4)] 36 (0, 0))) ∧ Aside0 (wc.heap[gb502]? = some (.cells #[.int .i64 0, .int .i64 0, .int .i64 0] 33 (0, 0))) ∧ Aside0 (Below w.heap.size w wc))
 case first =>
  have H := HC3.out
  clear HC3
  replace H := Option.bind_eq_some_iff.mp H
  obtain ⟨t503, A60, H⟩ := H
  replace H : (if t503 = true then (if a1 < 0 then (impl_MazeAtTime.j0 k a1 true a0_0 a0_1 a0_2 a0_3 l0_4) else (impl_MazeAtTime.j0 k a1 (decide (a1 > 1000)) a0_0 a0_1 a0_2 a0_3 l0_4)) else (impl_MazeAtTime.j0 k a1 true a0_0 a0_1 a0_2 a0_3 l0_4)) = some (r1, r2, r3, r4) := H
  have A6 := Aside0.mk A60
  clear A60
  by_cases c7 : t503 = true
  ·subst c7
   have H1 : (if a1 < 0 then (impl_MazeAtTime.j0 k a1 true a0_0 a0_1 a0_2 a0_3 l0_4) else (impl_MazeAtTime.j0 k a1 (decide (a1 > 1000)) a0_0 a0_1 a0_2 a0_3 l0_4)) = some (r1, r2, r3, r4) := by rw [if_pos rfl] at H; exact H
   clear H
   have H := H1
   clear H1
   by_cases c8 : a1 < 0
   ·rw [if_pos c8] at H
    have c8b0 : decide (a1 < 0) = true := decide_eq_true c8
    clear c8
    (first | rw [c8b0] | (simp only [i64_w, i32_w]; rw [c8b0]) | skip)
    have H' := Aside0.mk H
    clear H
    have hnb9 := NB501_502.out
    have hnc9 := NB502_501.out
    obtain ⟨hcz10_0, hcz10_1, hcz10_2, hcz10_3, hcz10_4⟩ := cz5_ BK501.out
    obtain ⟨hfz10_0, hfz10_1, hfz10_2, hfz10_3, hfz10_4⟩ := fz5_ BK501.out
    go_wp2_with (first | (go_at_call 37; (with_reducible refine (impl_TimedOk.calls k a0_0 a0_1 a0_2 a0_3 _ _ l0_4 true _ ?side1 ?side2 A6.out).mono ?_); (case side1 => repeat (first | exact (Kd.C_below HR0_4.out HB.out) | (with_reducible refine Kd.C_alloc ?_ _) | (with_reducible refine Kd.C_drewN ?_ _) | (with_reducible refine Kd.C_drew ?_))); (case side2 => exact HC0_4.out); rintro e w11 ⟨rfl, hb⟩; replace BK501 := BK501.bb hb; replace BK502 := BK502.bb hb; replace HB := HB.s2 GE501 GE502 hb; (try clear hb)))
    repeat (go_quiet (first | (go_at_call 37; (with_reducible refine (impl_TimedOk.calls k a0_0 a0_1 a0_2 a0_3 _ _ l0_4 true _ ?side1 ?side2 A6.out).mono ?_); (case side1 => repeat (first | exact (Kd.C_below HR0_4.out HB.out) | (with_reducible refine Kd.C_alloc ?_ _) | (with_reducible refine Kd.C_drewN ?_ _) | (with_reducible refine Kd.C_drew ?_))); (case side2 => exact HC0_4.out); rintro e w11 ⟨rfl, hb⟩; replace BK501 := BK501.bb hb; replace BK502 := BK502.bb hb; replace HB := HB.s2 GE501 GE502 hb; (try clear hb))); try go_wp2_with (first | (go_at_call 37; (with_reducible refine (impl_TimedOk.calls k a0_0 a0_1 a0_2 a0_3 _ _ l0_4 true _ ?side1 ?side2 A6.out).mono ?_); (case side1 => repeat (first | exact (Kd.C_below HR0_4.out HB.out) | (with_reducible refine Kd.C_alloc ?_ _) | (with_reducible refine Kd.C_drewN ?_ _) | (with_reducible refine Kd.C_drew ?_))); (case side2 => exact HC0_4.out); rintro e w11 ⟨rfl, hb⟩; replace BK501 := BK501.bb hb; replace BK502 := BK502.bb hb; replace HB := HB.s2 GE501 GE502 hb; (try clear hb))))
    go_meet
    case rel => exact ⟨_, (true), (by first | rfl | (simp; done) | (simp [*]; done)), H', ⟨by first | omega | exact Nat.le_refl _⟩, ⟨bk_ BK501.out⟩, ⟨bk_ BK502.out⟩, ⟨hb2_ HB.out GE501.out GE502.out⟩⟩
   ·rw [if_neg c8] at H
    have c8b0 : decide (a1 < 0) = false := decide_eq_false c8
    clear c8
    (first | rw [c8b0] | (simp only [i64_w, i32_w]; rw [c8b0]) | skip)
    have H' := Aside0.mk H
    clear H
    have hnb12 := NB501_502.out
    have hnc12 := NB502_501.out
    obtain ⟨hcz13_0, hcz13_1, hcz13_2, hcz13_3, hcz13_4⟩ := cz5_ BK501.out
    obtain ⟨hfz13_0, hfz13_1, hfz13_2, hfz13_3, hfz13_4⟩ := fz5_ BK501.out
    go_wp2_with (first | (go_at_call 37; (with_reducible refine (impl_TimedOk.calls k a0_0 a0_1 a0_2 a0_3 _ _ l0_4 true _ ?side1 ?side2 A6.out).mono ?_); (case side1 => repeat (first | exact (Kd.C_below HR0_4.out HB.out) | (with_reducible refine Kd.C_alloc ?_ _) | (with_reducible refine Kd.C_drewN ?_ _) | (with_reducible refine Kd.C_drew ?_))); (case side2 => exact HC0_4.out); rintro e w14 ⟨rfl, hb⟩; replace BK501 := BK501.bb hb; replace BK502 := BK502.bb hb; replace HB := HB.s2 GE501 GE502 hb; (try clear hb)))
    repeat (go_quiet (first | (go_at_call 37; (with_reducible refine (impl_TimedOk.calls k a0_0 a0_1 a0_2 a0_3 _ _ l0_4 true _ ?side1 ?side2 A6.out).mono ?_); (case side1 => repeat (first | exact (Kd.C_below HR0_4.out HB.out) | (with_reducible refine Kd.C_alloc ?_ _) | (with_reducible refine Kd.C_drewN ?_ _) | (with_reducible refine Kd.C_drew ?_))); (case side2 => exact HC0_4.out); rintro e w14 ⟨rfl, hb⟩; replace BK501 := BK501.bb hb; replace BK502 := BK502.bb hb; replace HB := HB.s2 GE501 GE502 hb; (try clear hb))); try go_wp2_with (first | (go_at_call 37; (with_reducible refine (impl_TimedOk.calls k a0_0 a0_1 a0_2 a0_3 _ _ l0_4 true _ ?side1 ?side2 A6.out).mono ?_); (case side1 => repeat (first | exact (Kd.C_below HR0_4.out HB.out) | (with_reducible refine Kd.C_alloc ?_ _) | (with_reducible refine Kd.C_drewN ?_ _) | (with_reducible refine Kd.C_drew ?_))); (case side2 => exact HC0_4.out); rintro e w14 ⟨rfl, hb⟩; replace BK501 := BK501.bb hb; replace BK502 := BK502.bb hb; replace HB := HB.s2 GE501 GE502 hb; (try clear hb))))
    go_meet
    case rel => exact ⟨_, (decide (a1 > 1000)), (by first | rfl | (simp; done) | (simp [*]; done)), H', ⟨by first | omega | exact Nat.le_refl _⟩, ⟨bk_ BK501.out⟩, ⟨bk_ BK502.out⟩, ⟨hb2_ HB.out GE501.out GE502.out⟩⟩
  ·replace c7 := Bool.eq_false_iff.mpr c7
   subst c7
   have H1 : (impl_MazeAtTime.j0 k a1 true a0_0 a0_1 a0_2 a0_3 l0_4) = some (r1, r2, r3, r4) := by rw [if_neg (show ¬ (false = true) by decide)] at H; exact H
   clear H
   have H := H1
   clear H1
   have H' := Aside0.mk H
   clear H
   have hnb15 := NB501_502.out
   have hnc15 := NB502_501.out
   obtain ⟨hcz16_0, hcz16_1, hcz16_2, hcz16_3, hcz16_4⟩ := cz5_ BK501.out
   obtain ⟨hfz16_0, hfz16_1, hfz16_2, hfz16_3, hfz16_4⟩ := fz5_ BK501.out
   go_wp2_with (first | (go_at_call 37; (with_reducible refine (impl_TimedOk.calls k a0_0 a0_1 a0_2 a0_3 _ _ l0_4 false _ ?side1 ?side2 A6.out).mono ?_); (case side1 => repeat (first | exact (Kd.C_below HR0_4.out HB.out) | (with_reducible refine Kd.C_alloc ?_ _) | (with_reducible refine Kd.C_drewN ?_ _) | (with_reducible refine Kd.C_drew ?_))); (case side2 => exact HC0_4.out); rintro e w17 ⟨rfl, hb⟩; replace BK501 := BK501.bb hb; replace BK502 := BK502.bb hb; replace HB := HB.s2 GE501 GE502 hb; (try clear hb)))
   repeat (go_quiet (first | (go_at_call 37; (with_reducible refine (impl_TimedOk.calls k a0_0 a0_1 a0_2 a0_3 _ _ l0_4 false _ ?side1 ?side2 A6.out).mono ?_); (case side1 => repeat (first | exact (Kd.C_below HR0_4.out HB.out) | (with_reducible refine Kd.C_alloc ?_ _) | (with_reducible refine Kd.C_drewN ?_ _) | (with_reducible refine Kd.C_drew ?_))); (case side2 => exact HC0_4.out); rintro e w17 ⟨rfl, hb⟩; replace BK501 := BK501.bb hb; replace BK502 := BK502.bb hb; replace HB := HB.s2 GE501 GE502 hb; (try clear hb))); try go_wp2_with (first | (go_at_call 37; (with_reducible refine (impl_TimedOk.calls k a0_0 a0_1 a0_2 a0_3 _ _ l0_4 false _ ?side1 ?side2 A6.out).mono ?_); (case side1 => repeat (first | exact (Kd.C_below HR0_4.out HB.out) | (with_reducible refine Kd.C_alloc ?_ _) | (with_reducible refine Kd.C_drewN ?_ _) | (with_reducible refine Kd.C_drew ?_))); (case side2 => exact HC0_4.out); rintro e w17 ⟨rfl, hb⟩; replace BK501 := BK501.bb hb; replace BK502 := BK502.bb hb; replace HB := HB.s2 GE501 GE502 hb; (try clear hb))))
   go_meet
   case rel => exact ⟨_, (true), (by first | rfl | (simp; done) | (simp [*]; done)), H', ⟨by first | omega | exact Nat.le_refl _⟩, ⟨bk_ BK501.out⟩, ⟨bk_ BK502.out⟩, ⟨hb2_ HB.out GE501.out GE502.out⟩⟩
 case rest =>
  clear HC3
  try clear c1
  try clear c2
  try clear p2
  try clear c7
  try clear c8
  try clear c8b0
  try clear c9
  try clear c12
  try clear c15
  try clear hcz10_0
  try clear hcz10_1
  try clear hcz10_2
  try clear hcz10_3
  try clear hcz10_4
  try clear hcz13_0
  try clear hcz13_1
  try clear hcz13_2
  try clear hcz13_3
  try clear hcz13_4
  try clear hcz16_0
  try clear hcz16_1
  try clear hcz16_2
  try clear hcz16_3
  try clear hcz16_4
  try clear hfz10_0
  try clear hfz10_1
  try clear hfz10_2
  try clear hfz10_3
  try clear hfz10_4
  try clear hfz13_0
  try clear hfz13_1
  try clear hfz13_2
  try clear hfz13_3
  try clear hfz13_4
  try clear hfz16_0
  try clear hfz16_1
  try clear hfz16_2
  try clear hfz16_3
  try clear hfz16_4
  obtain ⟨kq, x19_2, rfl, HA, HJ2, BK501, BK502, HB⟩ := hcut
  cases kq with
  | zero => exact absurd HA.out (by simp [impl_MazeAtTime.j0])
  | succ kj2 =>
   have H := HA.out
   clear HA
   simp only [impl_MazeAtTime.j0] at H
   by_cases c18 : x19_2 = true
   ·subst c18
    have H1 : (some (0, 0, 0, false)) = some (r1, r2, r3, r4) := by rw [if_pos rfl] at H; exact H
    clear H
    have H := H1
    clear H1
    simp only [Option.some.injEq, Prod.mk.injEq] at H
    obtain ⟨rfl, rfl, rfl, rfl⟩ := H
    have hnb19 := NB502_501.out
    have hnc19 := NB501_502.out
    obtain ⟨hcz20_0, hcz20_1, hcz20_2⟩ := cz3_ BK502.out
    obtain ⟨hfz20_0, hfz20_1, hfz20_2⟩ := fz3_ BK502.out
    go_wp2
    repeat (go_quiet (fail); try go_wp2)
    refine bodyPost_ret (results_ct rfl _ _ gb502 33 #[.int .i64 0, .int .i64 0, .int .i64 0] (0, 0) _ rfl (bq3_ BK502.out) Try.underlying33 rfl (by kernel_rfl)) rfl ?_
    exact ⟨ex_, hb2_ HB.out GE501.out GE502.out⟩
   ·replace c18 := Bool.eq_false_iff.mpr c18
    subst c18
    have H1 : (impl_MazeAtTime.l0 kj2 a1 l0_4 (l0_4.length : Int) 0 a0_0 a0_1 a0_2 a0_3 l0_4 a0_0 a0_1 a0_2) = some (r1, r2, r3, r4) := by rw [if_neg (show ¬ (false = true) by decide)] at H; exact H
    clear H
    have H := H1
    clear H1
    have H' := Aside0.mk H
    clear H
    have hnb21 := NB501_502.out
    have hnc21 := NB502_501.out
    obtain ⟨hcz22_0, hcz22_1, hcz22_2, hcz22_3, hcz22_4⟩ := cz5_ BK501.out
    obtain ⟨hfz22_0, hfz22_1, hfz22_2, hfz22_3, hfz22_4⟩ := fz5_ BK501.out
    go_wp2_with (first | (refine box_ (N := 6) (cs := #[.int .i64 0, .int .i64 0, .int .i64 0]) (t := 33) ?_; intro gb504 hg w23 hbox hb; have BK504 := Aside0.mk (hbox); have GW504 := HB.g2 GE501 GE502 hg; have GE504 := HB.g2 GE501 GE502 hg; replace HB := HB.s2 GE501 GE502 hb; have NB501_504 := BK501.nl hg; have NB504_501 := BK501.nr hg; replace BK501 := BK501.bb hb; have NB502_504 := BK502.nl hg; have NB504_502 := BK502.nr hg; replace BK502 := BK502.bb hb; clear hb hbox hg; have hnb24 := NB504_501.out; have hnc24 := NB501_504.out; have hnb25 := NB504_502.out; have hnc25 := NB502_504.out; obtain ⟨hcz26_0, hcz26_1, hcz26_2⟩ := cz3_ BK504.out; obtain ⟨hfz26_0, hfz26_1, hfz26_2⟩ := fz3_ BK504.out; obtain ⟨hcz27_0, hcz27_1, hcz27_2, hcz27_3, hcz27_4⟩ := cz5_ BK501.out; obtain ⟨hfz27_0, hfz27_1, hfz27_2, hfz27_3, hfz27_4⟩ := fz5_ BK501.out))
    repeat (go_quiet (first | (refine box_ (N := 6) (cs := #[.int .i64 0, .int .i64 0, .int .i64 0]) (t := 33) ?_; intro gb504 hg w23 hbox hb; have BK504 := Aside0.mk (hbox); have GW504 := HB.g2 GE501 GE502 hg; have GE504 := HB.g2 GE501 GE502 hg; replace HB := HB.s2 GE501 GE502 hb; have NB501_504 := BK501.nl hg; have NB504_501 := BK501.nr hg; replace BK501 := BK501.bb hb; have NB502_504 := BK502.nl hg; have NB504_502 := BK502.nr hg; replace BK502 := BK502.bb hb; clear hb hbox hg; have hnb24 := NB504_501.out; have hnc24 := NB501_504.out; have hnb25 := NB504_502.out; have hnc25 := NB502_504.out; obtain ⟨hcz26_0, hcz26_1, hcz26_2⟩ := cz3_ BK504.out; obtain ⟨hfz26_0, hfz26_1, hfz26_2⟩ := fz3_ BK504.out; obtain ⟨hcz27_0, hcz27_1, hcz27_2, hcz27_3, hcz27_4⟩ := cz5_ BK501.out; obtain ⟨hfz27_0, hfz27_1, hfz27_2, hfz27_3, hfz27_4⟩ := fz5_ BK501.out)); try go_wp2_with (first | (refine box_ (N := 6) (cs := #[.int .i64 0, .int .i64 0, .int .i64 0]) (t := 33) ?_; intro gb504 hg w23 hbox hb; have BK504 := Aside0.mk (hbox); have GW504 := HB.g2 GE501 GE502 hg; have GE504 := HB.g2 GE501 GE502 hg; replace HB := HB.s2 GE501 GE502 hb; have NB501_504 := BK501.nl hg; have NB504_501 := BK501.nr hg; replace BK501 := BK501.bb hb; have NB502_504 := BK502.nl hg; have NB504_502 := BK502.nr hg; replace BK502 := BK502.bb hb; clear hb hbox hg; have hnb24 := NB504_501.out; have hnc24 := NB501_504.out; have hnb25 := NB504_502.out; have hnc25 := NB502_504.out; obtain ⟨hcz26_0, hcz26_1, hcz26_2⟩ := cz3_ BK504.out; obtain ⟨hfz26_0, hfz26_1, hfz26_2⟩ := fz3_ BK504.out; obtain ⟨hcz27_0, hcz27_1, hcz27_2, hcz27_3, hcz27_4⟩ := cz5_ BK501.out; obtain ⟨hfz27_0, hfz27_1, hfz27_2, hfz27_3, hfz27_4⟩ := fz5_ BK501.out)))
    go_loopg [26] kj2 (fun kq v26 w' => ∃ (x26_2 : Int) (x505000_2 : Int) (x505001_2 : Int) (x505002_2 : Int), v26 = .int .i64 x26_2 ∧ Aside0 (impl_MazeAtTime.l0 kq a1 l0_4 (l0_4.length : Int) x26_2 a0_0 a0_1 a0_2 a0_3 l0_4 x505000_2 x505001_2 x505002_2 = some (r1, r2, r3, r4)) ∧ Aside0 (kq ≤ kj2) ∧ Aside0 (w'.heap[gb501]? = some (.cells #[.int .i64 a0_0, .int .i64 a0_1, .int .i64 a0_2, .int .i64 a0_3, (.slice A0_4 l0_4.length c0_4)] 36 (0, 0))) ∧ Aside0 (w'.heap[gb502]? = some (.cells #[.int .i64 0, .int .i64 0, .int .i64 0] 33 (0, 0))) ∧ Aside0 (w'.heap[gb504]? = some (.cells #[.int .i64 x505000_2, .int .i64 x505001_2, .int .i64 x505002_2] 33 (0, 0))) ∧ Aside0 (Below w.heap.size w w'))
    case atStart => exact ⟨(0), (a0_0), (a0_1), (a0_2), (by first | rfl | (simp; done) | (simp [*]; done)), H', ⟨Nat.le_refl _⟩, ⟨by (with_reducible repeat (first | refine blk_drewN ?_ _ | refine blk_drew ?_ | refine blk_alloc ?_ _)); refine blk_far ?_ NB501_504.out _; (with_reducible repeat (first | refine blk_drewN ?_ _ | refine blk_drew ?_ | refine blk_alloc ?_ _)); refine blk_far ?_ NB501_504.out _; (with_reducible repeat (first | refine blk_drewN ?_ _ | refine blk_drew ?_ | refine blk_alloc ?_ _)); refine blk_far ?_ NB501_504.out _; (with_reducible repeat (first | refine blk_drewN ?_ _ | refine blk_drew ?_ | refine blk_alloc ?_ _)); exact BK501.out⟩, ⟨by (with_reducible repeat (first | refine blk_drewN ?_ _ | refine blk_drew ?_ | refine blk_alloc ?_ _)); refine blk_far ?_ NB502_504.out _; (with_reducible repeat (first | refine blk_drewN ?_ _ | refine blk_drew ?_ | refine blk_alloc ?_ _)); refine blk_far ?_ NB502_504.out _; (with_reducible repeat (first | refine blk_drewN ?_ _ | refine blk_drew ?_ | refine blk_alloc ?_ _)); refine blk_far ?_ NB502_504.out _; (with_reducible repeat (first | refine blk_drewN ?_ _ | refine blk_drew ?_ | refine blk_alloc ?_ _)); exact BK502.out⟩, ⟨bq3_ BK504.out⟩, ⟨hb3_ HB.out GE501.out GE502.out GE504.out⟩⟩
    case round =>
     clear H'
     try clear c1
     try clear c2
     try clear p2
     try clear c7
     try clear c8
     try clear c8b0
     try clear c9
     try clear c12
     try clear c15
     try clear c18
     try clear c19
     try clear c21
     try clear c24
     try clear c25
     try clear hcz10_0
     try clear hcz10_1
     try clear hcz10_2
     try clear hcz10_3
     try clear hcz10_4
     try clear hcz13_0
     try clear hcz13_1
     try clear hcz13_2
     try clear hcz13_3
     try clear hcz13_4
     try clear hcz16_0
     try clear hcz16_1
     try clear hcz16_2
     try clear hcz16_3
     try clear hcz16_4
     try clear hcz20_0
     try clear hcz20_1
     try clear hcz20_2
     try clear hcz22_0
     try clear hcz22_1
     try clear hcz22_2
     try clear hcz22_3
     try clear hcz22_4
     try clear hcz26_0
     try clear hcz26_1
     try clear hcz26_2
     try clear hcz27_0
     try clear hcz27_1
     try clear hcz27_2
     try clear hcz27_3
     try clear hcz27_4
     try clear hfz10_0
     try clear hfz10_1
     try clear hfz10_2
     try clear hfz10_3
     try clear hfz10_4
     try clear hfz13_0
     try clear hfz13_1
     try clear hfz13_2
     try clear hfz13_3
     try clear hfz13_4
     try clear hfz16_0
     try clear hfz16_1
     try clear hfz16_2
     try clear hfz16_3
     try clear hfz16_4
     try clear hfz20_0
     try clear hfz20_1
     try clear hfz20_2
     try clear hfz22_0
     try clear hfz22_1
     try clear hfz22_2
     try clear hfz22_3
     try clear hfz22_4
     try clear hfz26_0
     try clear hfz26_1
     try clear hfz26_2
     try clear hfz27_0
     try clear hfz27_1
     try clear hfz27_2
     try clear hfz27_3
     try clear hfz27_4
     try clear p2
     obtain ⟨x26_2, x505000_2, x505001_2, x505002_2, rfl, HA, HK2, BK501, BK502, BK504, HB⟩ := hrel
     cases gk with
     | zero => exact absurd HA.out (by simp [impl_MazeAtTime.l0])
     | succ k2 =>
      have H := HA.out
      clear HA
      simp only [impl_MazeAtTime.l0] at H
      by_cases c28 : x26_2 < (l0_4.length : Int)
      ·rw [if_pos c28] at H
       have c28b0 : decide (x26_2 < (l0_4.length : Int)) = true := decide_eq_true c28
       clear c28
       by_cases c29 : 0 ≤ x26_2
       ·rw [if_pos c29] at H
        have c29b0 : decide (0 ≤ x26_2) = true := decide_eq_true c29
        clear c29
        by_cases c30 : x26_2 < (l0_4.length : Int)
        ·rw [if_pos c30] at H
         have c30b0 : decide (x26_2 < (l0_4.length : Int)) = true := decide_eq_true c30
         clear c30
         by_cases c31 : a0_3 = 0
         ·rw [if_pos c31] at H
          exact absurd H (by simp)
         ·rw [if_neg c31] at H
          have c31b0 : (a0_3 == 0) = false := beq_eq_false_iff_ne.mpr c31
          have c31b1 : (a0_3 != 0) = true := bne_iff_ne.mpr c31
          obtain ⟨ji32, hji32⟩ : ∃ j_ : Int, (Int.tmod a1 a0_3) = j_ := ⟨_, rfl⟩
          replace H : (if 0 ≤ (ji32) then (if (Go.bits .and .i64 (shr .i64 ((rd_T56 l0_4 x26_2).f1) (ji32)) 1) = 0 then ((impl_with.f x505000_2 x505001_2 x505002_2 ((rd_T56 l0_4 x26_2).f0) false).bind fun bt507 => (impl_MazeAtTime.l0 k2 a1 l0_4 (l0_4.length : Int) (wrap64 (x26_2 + 1)) a0_0 a0_1 a0_2 a0_3 l0_4 bt507.1 bt507.2.1 bt507.2.2)) else (impl_MazeAtTime.l0 k2 a1 l0_4 (l0_4.length : Int) (wrap64 (x26_2 + 1)) a0_0 a0_1 a0_2 a0_3 l0_4 x505000_2 x505001_2 x505002_2)) else (none)) = some (r1, r2, r3, r4) := by first | (rw [hji32] at H; exact H) | (simp only [hji32] at H ⊢; exact H)
          by_cases c33 : 0 ≤ (ji32)
          ·rw [if_pos c33] at H
           have c33b0 := eq_true c33
           have c33b1 : decide (0 ≤ (ji32)) = true := decide_eq_true c33
           clear c33
           obtain ⟨ji34, hji34⟩ : ∃ j_ : Int, (shr .i64 ((rd_T56 l0_4 x26_2).f1) (ji32)) = j_ := ⟨_, rfl⟩
           replace H : (if (Go.bits .and .i64 (ji34) 1) = 0 then ((impl_with.f x505000_2 x505001_2 x505002_2 ((rd_T56 l0_4 x26_2).f0) false).bind fun bt507 => (impl_MazeAtTime.l0 k2 a1 l0_4 (l0_4.length : Int) (wrap64 (x26_2 + 1)) a0_0 a0_1 a0_2 a0_3 l0_4 bt507.1 bt507.2.1 bt507.2.2)) else (impl_MazeAtTime.l0 k2 a1 l0_4 (l0_4.length : Int) (wrap64 (x26_2 + 1)) a0_0 a0_1 a0_2 a0_3 l0_4 x505000_2 x505001_2 x505002_2)) = some (r1, r2, r3, r4) := by first | (rw [hji34] at H; exact H) | (simp only [hji34] at H ⊢; exact H)
           have hji34_ : (((rd_T56 l0_4 x26_2).f1) / 2 ^ min (ji32).toNat 64) = ji34 := hji34
           have hji34z : (ji32) ≤ 64 → (((rd_T56 l0_4 x26_2).f1) / 2 ^ (ji32).toNat) = ji34 := shr_small hji34
           by_cases c35 : (Go.bits .and .i64 (ji34) 1) = 0
           ·rw [if_pos c35] at H
            have c35b0 : ((Go.bits .and .i64 (ji34) 1) == 0) = true := beq_iff_eq.mpr c35
            have c35b1 : ((Go.bits .and .i64 (ji34) 1) != 0) = false := bne_eq_false_iff_eq.mpr c35
            clear c35
            replace H := Option.bind_eq_some_iff.mp H
            obtain ⟨⟨t507, t508, t509⟩, A360, H⟩ := H
            replace H : (impl_MazeAtTime.l0 k2 a1 l0_4 (l0_4.length : Int) (wrap64 (x26_2 + 1)) a0_0 a0_1 a0_2 a0_3 l0_4 t507 t508 t509) = some (r1, r2, r3, r4) := H
            have A36 := Aside0.mk A360
            clear A360
            have H' := Aside0.mk H
            clear H
            have p505 : 0 ≤ (x26_2 : Int) := of_decide_eq_true (as_)
            have q505 : x26_2 < (l0_4.length : Int) := of_decide_eq_true (as_)
            obtain ⟨ad505, e505, hx505_0, hx505_1⟩ := at_T56 HR0_4.out x26_2 p505 q505
            cases e505
            replace hx505_0 := (HB.out.cell (World.block_lt_of_cell? w _ hx505_0)).trans hx505_0
            replace hx505_1 := (HB.out.cell (World.block_lt_of_cell? w _ hx505_1)).trans hx505_1
            replace p505 := eq_true p505
            replace q505 := eq_true q505
            go_wp2_with (first | (refine box_ (N := 8) (cs := #[.int .i64 0, .int .i64 0]) (t := 56) ?_; intro gb506 hg w37 hbox hb; have BK506 := Aside0.mk (hbox); have GW506 := HB.g3 GE501 GE502 GE504 hg; have GE506 := HB.g3 GE501 GE502 GE504 hg; replace HB := HB.s3 GE501 GE502 GE504 hb; have NB501_506 := BK501.nl hg; have NB506_501 := BK501.nr hg; replace BK501 := BK501.bb hb; have NB502_506 := BK502.nl hg; have NB506_502 := BK502.nr hg; replace BK502 := BK502.bb hb; have NB504_506 := BK504.nl hg; have NB506_504 := BK504.nr hg; replace BK504 := BK504.bb hb; clear hb hbox hg; have hnb38 := NB506_501.out; have hnc38 := NB501_506.out; have hnb39 := NB506_502.out; have hnc39 := NB502_506.out; have hnb40 := NB506_504.out; have hnc40 := NB504_506.out; obtain ⟨hcz41_0, hcz41_1⟩ := cz2_ BK506.out; obtain ⟨hfz41_0, hfz41_1⟩ := fz2_ BK506.out; have hnb42 := NB501_502.out; have hnc42 := NB502_501.out; have hnb43 := NB501_504.out; have hnc43 := NB504_501.out; obtain ⟨hcz44_0, hcz44_1, hcz44_2, hcz44_3, hcz44_4⟩ := cz5_ BK501.out; obtain ⟨hfz44_0, hfz44_1, hfz44_2, hfz44_3, hfz44_4⟩ := fz5_ BK501.out; have hnb45 := NB504_502.out; have hnc45 := NB502_504.out; obtain ⟨hcz46_0, hcz46_1, hcz46_2⟩ := cz3_ BK504.out; obtain ⟨hfz46_0, hfz46_1, hfz46_2⟩ := fz3_ BK504.out) | (go_at_call 51; (with_reducible refine (impl_with.calls x505000_2 x505001_2 x505002_2 ((rd_T56 l0_4 x26_2).f0) false t507 t508 t509 _ A36.out).mono ?_); rintro e w47 ⟨rfl, hb⟩; replace BK501 := Aside0.mk (blk_below (g := gb501) (o := .cells #[.int .i64 a0_0, .int .i64 a0_1, .int .i64 a0_2, .int .i64 a0_3, .slice (some ad505) l0_4.length c0_4] 36 (0, 0)) (by (with_reducible repeat (first | refine blk_drewN ?_ _ | refine blk_drew ?_ | refine blk_alloc ?_ _)); refine blk_far ?_ NB501_506.out _; (with_reducible repeat (first | refine blk_drewN ?_ _ | refine blk_drew ?_ | refine blk_alloc ?_ _)); refine blk_far ?_ NB501_506.out _; (with_reducible repeat (first | refine blk_drewN ?_ _ | refine blk_drew ?_ | refine blk_alloc ?_ _)); exact BK501.out) hb); replace BK502 := Aside0.mk (blk_below (g := gb502) (o := .cells #[.int .i64 0, .int .i64 0, .int .i64 0] 33 (0, 0)) (by (with_reducible repeat (first | refine blk_drewN ?_ _ | refine blk_drew ?_ | refine blk_alloc ?_ _)); refine blk_far ?_ NB502_506.out _; (with_reducible repeat (first | refine blk_drewN ?_ _ | refine blk_drew ?_ | refine blk_alloc ?_ _)); refine blk_far ?_ NB502_506.out _; (with_reducible repeat (first | refine blk_drewN ?_ _ | refine blk_drew ?_ | refine blk_alloc ?_ _)); exact BK502.out) hb); replace BK504 := Aside0.mk (blk_below (g := gb504) (o := .cells #[.int .i64 x505000_2, .int .i64 x505001_2, .int .i64 x505002_2] 33 (0, 0)) (by (with_reducible repeat (first | refine blk_drewN ?_ _ | refine blk_drew ?_ | refine blk_alloc ?_ _)); refine blk_far ?_ NB504_506.out _; (with_reducible repeat (first | refine blk_drewN ?_ _ | refine blk_drew ?_ | refine blk_alloc ?_ _)); refine blk_far ?_ NB504_506.out _; (with_reducible repeat (first | refine blk_drewN ?_ _ | refine blk_drew ?_ | refine blk_alloc ?_ _)); exact BK504.out) hb); replace BK506 := Aside0.mk (blk_below (bq2_ BK506.out) hb); replace HB := HB.s4 GE501 GE502 GE504 GE506 hb; (try clear hb); obtain ⟨hcz48_0, hcz48_1, hcz48_2⟩ := cz3_ BK504.out; obtain ⟨hfz48_0, hfz48_1, hfz48_2⟩ := fz3_ BK504.out))
            repeat (go_quiet (first | (refine box_ (N := 8) (cs := #[.int .i64 0, .int .i64 0]) (t := 56) ?_; intro gb506 hg w37 hbox hb; have BK506 := Aside0.mk (hbox); have GW506 := HB.g3 GE501 GE502 GE504 hg; have GE506 := HB.g3 GE501 GE502 GE504 hg; replace HB := HB.s3 GE501 GE502 GE504 hb; have NB501_506 := BK501.nl hg; have NB506_501 := BK501.nr hg; replace BK501 := BK501.bb hb; have NB502_506 := BK502.nl hg; have NB506_502 := BK502.nr hg; replace BK502 := BK502.bb hb; have NB504_506 := BK504.nl hg; have NB506_504 := BK504.nr hg; replace BK504 := BK504.bb hb; clear hb hbox hg; have hnb38 := NB506_501.out; have hnc38 := NB501_506.out; have hnb39 := NB506_502.out; have hnc39 := NB502_506.out; have hnb40 := NB506_504.out; have hnc40 := NB504_506.out; obtain ⟨hcz41_0, hcz41_1⟩ := cz2_ BK506.out; obtain ⟨hfz41_0, hfz41_1⟩ := fz2_ BK506.out; have hnb42 := NB501_502.out; have hnc42 := NB502_501.out; have hnb43 := NB501_504.out; have hnc43 := NB504_501.out; obtain ⟨hcz44_0, hcz44_1, hcz44_2, hcz44_3, hcz44_4⟩ := cz5_ BK501.out; obtain ⟨hfz44_0, hfz44_1, hfz44_2, hfz44_3, hfz44_4⟩ := fz5_ BK501.out; have hnb45 := NB504_502.out; have hnc45 := NB502_504.out; obtain ⟨hcz46_0, hcz46_1, hcz46_2⟩ := cz3_ BK504.out; obtain ⟨hfz46_0, hfz46_1, hfz46_2⟩ := fz3_ BK504.out) | (go_at_call 51; (with_reducible refine (impl_with.calls x505000_2 x505001_2 x505002_2 ((rd_T56 l0_4 x26_2).f0) false t507 t508 t509 _ A36.out).mono ?_); rintro e w47 ⟨rfl, hb⟩; replace BK501 := Aside0.mk (blk_below (g := gb501) (o := .cells #[.int .i64 a0_0, .int .i64 a0_1, .int .i64 a0_2, .int .i64 a0_3, .slice (some ad505) l0_4.length c0_4] 36 (0, 0)) (by (with_reducible repeat (first | refine blk_drewN ?_ _ | refine blk_drew ?_ | refine blk_alloc ?_ _)); refine blk_far ?_ NB501_506.out _; (with_reducible repeat (first | refine blk_drewN ?_ _ | refine blk_drew ?_ | refine blk_alloc ?_ _)); refine blk_far ?_ NB501_506.out _; (with_reducible repeat (first | refine blk_drewN ?_ _ | refine blk_drew ?_ | refine blk_alloc ?_ _)); exact BK501.out) hb); replace BK502 := Aside0.mk (blk_below (g := gb502) (o := .cells #[.int .i64 0, .int .i64 0, .int .i64 0] 33 (0, 0)) (by (with_reducible repeat (first | refine blk_drewN ?_ _ | refine blk_drew ?_ | refine blk_alloc ?_ _)); refine blk_far ?_ NB502_506.out _; (with_reducible repeat (first | refine blk_drewN ?_ _ | refine blk_drew ?_ | refine blk_alloc ?_ _)); refine blk_far ?_ NB502_506.out _; (with_reducible repeat (first | refine blk_drewN ?_ _ | refine blk_drew ?_ | refine blk_alloc ?_ _)); exact BK502.out) hb); replace BK504 := Aside0.mk (blk_below (g := gb504) (o := .cells #[.int .i64 x505000_2, .int .i64 x505001_2, .int .i64 x505002_2] 33 (0, 0)) (by (with_reducible repeat (first | refine blk_drewN ?_ _ | refine blk_drew ?_ | refine blk_alloc ?_ _)); refine blk_far ?_ NB504_506.out _; (with_reducible repeat (first | refine blk_drewN ?_ _ | refine blk_drew ?_ | refine blk_alloc ?_ _)); refine blk_far ?_ NB504_506.out _; (with_reducible repeat (first | refine blk_drewN ?_ _ | refine blk_drew ?_ | refine blk_alloc ?_ _)); exact BK504.out) hb); replace BK506 := Aside0.mk (blk_below (bq2_ BK506.out) hb); replace HB := HB.s4 GE501 GE502 GE504 GE506 hb; (try clear hb); obtain ⟨hcz48_0, hcz48_1, hcz48_2⟩ := cz3_ BK504.out; obtain ⟨hfz48_0, hfz48_1, hfz48_2⟩ := fz3_ BK504.out)); try go_wp2_with (first | (refine box_ (N := 8) (cs := #[.int .i64 0, .int .i64 0]) (t := 56) ?_; intro gb506 hg w37 hbox hb; have BK506 := Aside0.mk (hbox); have GW506 := HB.g3 GE501 GE502 GE504 hg; have GE506 := HB.g3 GE501 GE502 GE504 hg; replace HB := HB.s3 GE501 GE502 GE504 hb; have NB501_506 := BK501.nl hg; have NB506_501 := BK501.nr hg; replace BK501 := BK501.bb hb; have NB502_506 := BK502.nl hg; have NB506_502 := BK502.nr hg; replace BK502 := BK502.bb hb; have NB504_506 := BK504.nl hg; have NB506_504 := BK504.nr hg; replace BK504 := BK504.bb hb; clear hb hbox hg; have hnb38 := NB506_501.out; have hnc38 := NB501_506.out; have hnb39 := NB506_502.out; have hnc39 := NB502_506.out; have hnb40 := NB506_504.out; have hnc40 := NB504_506.out; obtain ⟨hcz41_0, hcz41_1⟩ := cz2_ BK506.out; obtain ⟨hfz41_0, hfz41_1⟩ := fz2_ BK506.out; have hnb42 := NB501_502.out; have hnc42 := NB502_501.out; have hnb43 := NB501_504.out; have hnc43 := NB504_501.out; obtain ⟨hcz44_0, hcz44_1, hcz44_2, hcz44_3, hcz44_4⟩ := cz5_ BK501.out; obtain ⟨hfz44_0, hfz44_1, hfz44_2, hfz44_3, hfz44_4⟩ := fz5_ BK501.out; have hnb45 := NB504_502.out; have hnc45 := NB502_504.out; obtain ⟨hcz46_0, hcz46_1, hcz46_2⟩ := cz3_ BK504.out; obtain ⟨hfz46_0, hfz46_1, hfz46_2⟩ := fz3_ BK504.out) | (go_at_call 51; (with_reducible refine (impl_with.calls x505000_2 x505001_2 x505002_2 ((rd_T56 l0_4 x26_2).f0) false t507 t508 t509 _ A36.out).mono ?_); rintro e w47 ⟨rfl, hb⟩; replace BK501 := Aside0.mk (blk_below (g := gb501) (o := .cells #[.int .i64 a0_0, .int .i64 a0_1, .int .i64 a0_2, .int .i64 a0_3, .slice (some ad505) l0_4.length c0_4] 36 (0, 0)) (by (with_reducible repeat (first | refine blk_drewN ?_ _ | refine blk_drew ?_ | refine blk_alloc ?_ _)); refine blk_far ?_ NB501_506.out _; (with_reducible repeat (first | refine blk_drewN ?_ _ | refine blk_drew ?_ | refine blk_alloc ?_ _)); refine blk_far ?_ NB501_506.out _; (with_reducible repeat (first | refine blk_drewN ?_ _ | refine blk_drew ?_ | refine blk_alloc ?_ _)); exact BK501.out) hb); replace BK502 := Aside0.mk (blk_below (g := gb502) (o := .cells #[.int .i64 0, .int .i64 0, .int .i64 0] 33 (0, 0)) (by (with_reducible repeat (first | refine blk_drewN ?_ _ | refine blk_drew ?_ | refine blk_alloc ?_ _)); refine blk_far ?_ NB502_506.out _; (with_reducible repeat (first | refine blk_drewN ?_ _ | refine blk_drew ?_ | refine blk_alloc ?_ _)); refine blk_far ?_ NB502_506.out _; (with_reducible repeat (first | refine blk_drewN ?_ _ | refine blk_drew ?_ | refine blk_alloc ?_ _)); exact BK502.out) hb); replace BK504 := Aside0.mk (blk_below (g := gb504) (o := .cells #[.int .i64 x505000_2, .int .i64 x505001_2, .int .i64 x505002_2] 33 (0, 0)) (by (with_reducible repeat (first | refine blk_drewN ?_ _ | refine blk_drew ?_ | refine blk_alloc ?_ _)); refine blk_far ?_ NB504_506.out _; (with_reducible repeat (first | refine blk_drewN ?_ _ | refine blk_drew ?_ | refine blk_alloc ?_ _)); refine blk_far ?_ NB504_506.out _; (with_reducible repeat (first | refine blk_drewN ?_ _ | refine blk_drew ?_ | refine blk_alloc ?_ _)); exact BK504.out) hb); replace BK506 := Aside0.mk (blk_below (bq2_ BK506.out) hb); replace HB := HB.s4 GE501 GE502 GE504 GE506 hb; (try clear hb); obtain ⟨hcz48_0, hcz48_1, hcz48_2⟩ := cz3_ BK504.out; obtain ⟨hfz48_0, hfz48_1, hfz48_2⟩ := fz3_ BK504.out)))
            go_roundg k2
            case measure => have := HJ2.out; have := HK2.out; omega
            case rel => exact ⟨(wrap64 (x26_2 + 1)), (t507), (t508), (t509), (by first | rfl | (simp; done) | (simp [*]; done)), H', ⟨by have := HJ2.out; have := HK2.out; omega⟩, ⟨by (with_reducible repeat (first | refine blk_drewN ?_ _ | refine blk_drew ?_ | refine blk_alloc ?_ _)); refine blk_far ?_ NB501_504.out _; (with_reducible repeat (first | refine blk_drewN ?_ _ | refine blk_drew ?_ | refine blk_alloc ?_ _)); refine blk_far ?_ NB501_504.out _; (with_reducible repeat (first | refine blk_drewN ?_ _ | refine blk_drew ?_ | refine blk_alloc ?_ _)); refine blk_far ?_ NB501_504.out _; (with_reducible repeat (first | refine blk_drewN ?_ _ | refine blk_drew ?_ | refine blk_alloc ?_ _)); exact BK501.out⟩, ⟨by (with_reducible repeat (first | refine blk_drewN ?_ _ | refine blk_drew ?_ | refine blk_alloc ?_ _)); refine blk_far ?_ NB502_504.out _; (with_reducible repeat (first | refine blk_drewN ?_ _ | refine blk_drew ?_ | refine blk_alloc ?_ _)); refine blk_far ?_ NB502_504.out _; (with_reducible repeat (first | refine blk_drewN ?_ _ | refine blk_drew ?_ | refine blk_alloc ?_ _)); refine blk_far ?_ NB502_504.out _; (with_reducible repeat (first | refine blk_drewN ?_ _ | refine blk_drew ?_ | refine blk_alloc ?_ _)); exact BK502.out⟩, ⟨bq3_ BK504.out⟩, ⟨hb4_ HB.out GE501.out GE502.out GE504.out GE506.out⟩⟩
           ·rw [if_neg c35] at H
            have c35b0 : ((Go.bits .and .i64 (ji34) 1) == 0) = false := beq_eq_false_iff_ne.mpr c35
            have c35b1 : ((Go.bits .and .i64 (ji34) 1) != 0) = true := bne_iff_ne.mpr c35
            have H' := Aside0.mk H
            clear H
            have p505 : 0 ≤ (x26_2 : Int) := of_decide_eq_true (as_)
            have q505 : x26_2 < (l0_4.length : Int) := of_decide_eq_true (as_)
            obtain ⟨ad505, e505, hx505_0, hx505_1⟩ := at_T56 HR0_4.out x26_2 p505 q505
            cases e505
            replace hx505_0 := (HB.out.cell (World.block_lt_of_cell? w _ hx505_0)).trans hx505_0
            replace hx505_1 := (HB.out.cell (World.block_lt_of_cell? w _ hx505_1)).trans hx505_1
            replace p505 := eq_true p505
            replace q505 := eq_true q505
            go_wp2_with (first | (refine box_ (N := 8) (cs := #[.int .i64 0, .int .i64 0]) (t := 56) ?_; intro gb506 hg w49 hbox hb; have BK506 := Aside0.mk (hbox); have GW506 := HB.g3 GE501 GE502 GE504 hg; have GE506 := HB.g3 GE501 GE502 GE504 hg; replace HB := HB.s3 GE501 GE502 GE504 hb; have NB501_506 := BK501.nl hg; have NB506_501 := BK501.nr hg; replace BK501 := BK501.bb hb; have NB502_506 := BK502.nl hg; have NB506_502 := BK502.nr hg; replace BK502 := BK502.bb hb; have NB504_506 := BK504.nl hg; have NB506_504 := BK504.nr hg; replace BK504 := BK504.bb hb; clear hb hbox hg; have hnb50 := NB506_501.out; have hnc50 := NB501_506.out; have hnb51 := NB506_502.out; have hnc51 := NB502_506.out; have hnb52 := NB506_504.out; have hnc52 := NB504_506.out; obtain ⟨hcz53_0, hcz53_1⟩ := cz2_ BK506.out; obtain ⟨hfz53_0, hfz53_1⟩ := fz2_ BK506.out; have hnb54 := NB501_502.out; have hnc54 := NB502_501.out; have hnb55 := NB501_504.out; have hnc55 := NB504_501.out; obtain ⟨hcz56_0, hcz56_1, hcz56_2, hcz56_3, hcz56_4⟩ := cz5_ BK501.out; obtain ⟨hfz56_0, hfz56_1, hfz56_2, hfz56_3, hfz56_4⟩ := fz5_ BK501.out))
            repeat (go_quiet (first | (refine box_ (N := 8) (cs := #[.int .i64 0, .int .i64 0]) (t := 56) ?_; intro gb506 hg w49 hbox hb; have BK506 := Aside0.mk (hbox); have GW506 := HB.g3 GE501 GE502 GE504 hg; have GE506 := HB.g3 GE501 GE502 GE504 hg; replace HB := HB.s3 GE501 GE502 GE504 hb; have NB501_506 := BK501.nl hg; have NB506_501 := BK501.nr hg; replace BK501 := BK501.bb hb; have NB502_506 := BK502.nl hg; have NB506_502 := BK502.nr hg; replace BK502 := BK502.bb hb; have NB504_506 := BK504.nl hg; have NB506_504 := BK504.nr hg; replace BK504 := BK504.bb hb; clear hb hbox hg; have hnb50 := NB506_501.out; have hnc50 := NB501_506.out; have hnb51 := NB506_502.out; have hnc51 := NB502_506.out; have hnb52 := NB506_504.out; have hnc52 := NB504_506.out; obtain ⟨hcz53_0, hcz53_1⟩ := cz2_ BK506.out; obtain ⟨hfz53_0, hfz53_1⟩ := fz2_ BK506.out; have hnb54 := NB501_502.out; have hnc54 := NB502_501.out; have hnb55 := NB501_504.out; have hnc55 := NB504_501.out; obtain ⟨hcz56_0, hcz56_1, hcz56_2, hcz56_3, hcz56_4⟩ := cz5_ BK501.out; obtain ⟨hfz56_0, hfz56_1, hfz56_2, hfz56_3, hfz56_4⟩ := fz5_ BK501.out)); try go_wp2_with (first | (refine box_ (N := 8) (cs := #[.int .i64 0, .int .i64 0]) (t := 56) ?_; intro gb506 hg w49 hbox hb; have BK506 := Aside0.mk (hbox); have GW506 := HB.g3 GE501 GE502 GE504 hg; have GE506 := HB.g3 GE501 GE502 GE504 hg; replace HB := HB.s3 GE501 GE502 GE504 hb; have NB501_506 := BK501.nl hg; have NB506_501 := BK501.nr hg; replace BK501 := BK501.bb hb; have NB502_506 := BK502.nl hg; have NB506_502 := BK502.nr hg; replace BK502 := BK502.bb hb; have NB504_506 := BK504.nl hg; have NB506_504 := BK504.nr hg; replace BK504 := BK504.bb hb; clear hb hbox hg; have hnb50 := NB506_501.out; have hnc50 := NB501_506.out; have hnb51 := NB506_502.out; have hnc51 := NB502_506.out; have hnb52 := NB506_504.out; have hnc52 := NB504_506.out; obtain ⟨hcz53_0, hcz53_1⟩ := cz2_ BK506.out; obtain ⟨hfz53_0, hfz53_1⟩ := fz2_ BK506.out; have hnb54 := NB501_502.out; have hnc54 := NB502_501.out; have hnb55 := NB501_504.out; have hnc55 := NB504_501.out; obtain ⟨hcz56_0, hcz56_1, hcz56_2, hcz56_3, hcz56_4⟩ := cz5_ BK501.out; obtain ⟨hfz56_0, hfz56_1, hfz56_2, hfz56_3, hfz56_4⟩ := fz5_ BK501.out)))
            go_roundg k2
            case measure => have := HJ2.out; have := HK2.out; omega
            case rel => exact ⟨(wrap64 (x26_2 + 1)), (x505000_2), (x505001_2), (x505002_2), (by first | rfl | (simp; done) | (simp [*]; done)), H', ⟨by have := HJ2.out; have := HK2.out; omega⟩, ⟨by (with_reducible repeat (first | refine blk_drewN ?_ _ | refine blk_drew ?_ | refine blk_alloc ?_ _)); refine blk_far ?_ NB501_506.out _; (with_reducible repeat (first | refine blk_drewN ?_ _ | refine blk_drew ?_ | refine blk_alloc ?_ _)); refine blk_far ?_ NB501_506.out _; (with_reducible repeat (first | refine blk_drewN ?_ _ | refine blk_drew ?_ | refine blk_alloc ?_ _)); exact BK501.out⟩, ⟨by (with_reducible repeat (first | refine blk_drewN ?_ _ | refine blk_drew ?_ | refine blk_alloc ?_ _)); refine blk_far ?_ NB502_506.out _; (with_reducible repeat (first | refine blk_drewN ?_ _ | refine blk_drew ?_ | refine blk_alloc ?_ _)); refine blk_far ?_ NB502_506.out _; (with_reducible repeat (first | refine blk_drewN ?_ _ | refine blk_drew ?_ | refine blk_alloc ?_ _)); exact BK502.out⟩, ⟨by (with_reducible repeat (first | refine blk_drewN ?_ _ | refine blk_drew ?_ | refine blk_alloc ?_ _)); refine blk_far ?_ NB504_506.out _; (with_reducible repeat (first | refine blk_drewN ?_ _ | refine blk_drew ?_ | refine blk_alloc ?_ _)); refine blk_far ?_ NB504_506.out _; (with_reducible repeat (first | refine blk_drewN ?_ _ | refine blk_drew ?_ | refine blk_alloc ?_ _)); exact BK504.out⟩, ⟨hb4_ HB.out GE501.out GE502.out GE504.out GE506.out⟩⟩
          ·rw [if_neg c33] at H
           exact absurd H (by simp)
        ·rw [if_neg c30] at H
         exact absurd H (by simp)
       ·rw [if_neg c29] at H
        exact absurd H (by simp)
      ·rw [if_neg c28] at H
       have c28b0 : decide (x26_2 < (l0_4.length : Int)) = false := decide_eq_false c28
       clear c28
       simp only [Option.some.injEq, Prod.mk.injEq] at H
       obtain ⟨rfl, rfl, rfl, rfl⟩ := H
       have hnb57 := NB504_501.out
       have hnc57 := NB501_504.out
       have hnb58 := NB504_502.out
       have hnc58 := NB502_504.out
       obtain ⟨hcz59_0, hcz59_1, hcz59_2⟩ := cz3_ BK504.out
       obtain ⟨hfz59_0, hfz59_1, hfz59_2⟩ := fz3_ BK504.out
       have hnb60 := NB502_501.out
       have hnc60 := NB501_502.out
       obtain ⟨hcz61_0, hcz61_1, hcz61_2⟩ := cz3_ BK502.out
       obtain ⟨hfz61_0, hfz61_1, hfz61_2⟩ := fz3_ BK502.out
       go_wp2
       repeat (go_quiet (fail); try go_wp2)
       refine bodyPost_ret (results_ct rfl _ _ gb502 33 #[.int .i64 x505000_2, .int .i64 x505001_2, .int .i64 x505002_2] (0, 0) _ rfl (bq3_ BK502.out) Try.underlying33 rfl (by kernel_rfl)) rfl ?_
       exact ⟨ex_, hb3_ HB.out GE501.out GE502.out GE504.out⟩

end Go.Proofs.Ytlfomjhjeknnmaa.X
