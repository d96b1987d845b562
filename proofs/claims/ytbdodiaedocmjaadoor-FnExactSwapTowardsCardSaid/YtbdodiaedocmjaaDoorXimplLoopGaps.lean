-- Written by a program of this session (xprint.py), out of the translation and of hand-written contracts. Lean checks it.
import Derived.Test.YtbdodiaedocmjaaDoorX0
import Derived.Test.YtbdodiaedocmjaaDoorXcgaps
import Derived.Test.YtbdodiaedocmjaaDoorXcmaze
import Derived.Test.YtbdodiaedocmjaaDoorXctrees
import Derived.Test.YtbdodiaedocmjaaDoorXimplEndsOf
import Derived.Test.YtbdodiaedocmjaaDoorXimplgapsOn
import Derived.Test.YtbdodiaedocmjaaDoorXimplordered
namespace Go.Proofs.YtbdodiaedocmjaaDoor.X
open Go.RowKit Go.Proofs.YtbdodiaedocmjaaDoorW.PrintWords Go.Proofs.YtbdodiaedocmjaaDoorW.PrintLast Go.Proofs.YtbdodiaedocmjaaDoorW.PrintMore
attribute [local go_sem] max2_int min2_int max_two min_two max_three min_three max_four min_four   -- for this text's walks alone
set_option linter.unusedVariables false
set_option linter.unusedSimpArgs false

/-! ### impl_LoopGaps: function 19 -/
def impl_LoopGaps.j0 : Nat → Int → Bool → Int → Int → Int → Option (List Int)
 | 0, _, _, _, _, _ => none
 | k + 1, x1, x21, x502000, x502001, x502002 => if x21 = true then (some ([] : List Int)) else ((impl_EndsOf.f x502000 x502001 x1).bind fun bt505 => ((impl_gapsOn.f k x502000 x502001 x502002 bt505.1 bt505.2).bind fun t507 => ((impl_ordered.f t507).bind fun t510 => (some t510))))
def impl_LoopGaps.f (k : Nat) (a0_0 : Int) (a0_1 : Int) (a0_2 : Int) (a1 : Int) : Option (List Int) := (impl_IsPerfect.f k a0_0 a0_1 a0_2).bind fun t502 => (if t502 = true then ((impl_isGap.f a0_0 a0_1 a1).bind fun t503 => (if t503 = true then ((impl_isOpen.f a0_0 a0_1 a0_2 a1).bind fun t504 => (impl_LoopGaps.j0 k a1 t504 a0_0 a0_1 a0_2)) else (impl_LoopGaps.j0 k a1 true a0_0 a0_1 a0_2))) else (impl_LoopGaps.j0 k a1 true a0_0 a0_1 a0_2))
theorem impl_LoopGaps.mono_l : ∀ k, (∀ y0 y1 y2 y3 y4, LeO (impl_LoopGaps.j0 k y0 y1 y2 y3 y4) (impl_LoopGaps.j0 (k + 1) y0 y1 y2 y3 y4))
 | 0 => fun _ _ _ _ _ r h => by simp [impl_LoopGaps.j0] at h
 | k + 1 => by
  have ih0 := impl_LoopGaps.mono_l k
  ·intro y0 y1 y2 y3 y4
   unfold impl_LoopGaps.j0
   repeat' first
   | (with_reducible exact ih0 ..)
   | (with_reducible exact impl_IsPerfect.mono ..)
   | (with_reducible exact impl_gapsOn.mono ..)
   | (with_reducible first | exact lr_ _ | exact ln_ _ | refine li_ ?_ ?_ | refine lb_ ?_ fun _ => ?_)
   | exact ih0 ..
   | exact impl_IsPerfect.mono ..
   | exact impl_gapsOn.mono ..
   | exact ln_ _ | refine li_ ?_ ?_ | refine lb_ ?_ fun _ => ?_
theorem impl_LoopGaps.mono : ∀ a0 a1 a2 a3 k, LeO (impl_LoopGaps.f k a0 a1 a2 a3) (impl_LoopGaps.f (k + 1) a0 a1 a2 a3) := by
 intro a0 a1 a2 a3 k
 have ih0 := impl_LoopGaps.mono_l k
 unfold impl_LoopGaps.f
 repeat' first
   | (with_reducible exact ih0 ..)
   | (with_reducible exact impl_IsPerfect.mono ..)
   | (with_reducible exact impl_gapsOn.mono ..)
   | (with_reducible first | exact lr_ _ | exact ln_ _ | refine li_ ?_ ?_ | refine lb_ ?_ fun _ => ?_)
   | exact ih0 ..
   | exact impl_IsPerfect.mono ..
   | exact impl_gapsOn.mono ..
   | exact ln_ _ | refine li_ ?_ ?_ | refine lb_ ?_ fun _ => ?_
set_option maxHeartbeats 8000000 in
set_option maxRecDepth 100000 in
theorem impl_LoopGaps.calls (k : Nat) (a0_0 : Int) (a0_1 : Int) (a0_2 : Int) (a1 : Int) (r : List Int) (w : World) (h : impl_LoopGaps.f k a0_0 a0_1 a0_2 a1 = some r) :
  Calls Tryd.prog 19 #[.agg #[.int .i64 a0_0, .int .i64 a0_1, .int .i64 a0_2], .int .i64 a1] w fun e w' => ∃ v0_ : Value, e = .returned (v0_) ∧ Kd.R (Kd.int .i64) 3 w' w.heap.size (fun _ => True) v0_ r ∧ Below w.heap.size w w' := by
 have hu28 := Tryd.underlying28
 have hu26 := Tryd.underlying26
 have HB := Aside0.mk (Below.refl w.heap.size w)
 have H : ((impl_IsPerfect.f k a0_0 a0_1 a0_2).bind fun t502 => (if t502 = true then ((impl_isGap.f a0_0 a0_1 a1).bind fun t503 => (if t503 = true then ((impl_isOpen.f a0_0 a0_1 a0_2 a1).bind fun t504 => (impl_LoopGaps.j0 k a1 t504 a0_0 a0_1 a0_2)) else (impl_LoopGaps.j0 k a1 true a0_0 a0_1 a0_2))) else (impl_LoopGaps.j0 k a1 true a0_0 a0_1 a0_2))) = some r := h
 clear h
 have HC3 := Aside0.mk H
 clear H
 go_enter Tryd.func19, Tryd.ntmps19
 go_upto_region 1 with (first | (refine box_ (N := 2) (cs := #[.int .i64 a0_0, .int .i64 a0_1, .int .i64 a0_2]) (t := 28) ?_; intro gb501 hg w4 hbox hb; have BK501 := Aside0.mk (hbox); have GW501 := HB.g0 hg; have GE501 := HB.g0 hg; replace HB := HB.s0 hb; clear hb hbox hg))
 (try simp only [Act.put, List.setIfInBounds_toArray, List.set_cons_zero, List.set_cons_succ])
 go_cut [21] (fun v21 wc => ∃ (kq : Nat) (x21_2 : Bool), v21 = .bool x21_2 ∧ Aside0 (impl_LoopGaps.j0 kq a1 x21_2 a0_0 a0_1 a0_2 = some r) ∧ Aside0 (kq ≤ k) ∧ Aside0 (wc.heap[gb501]? = some (.cells #[.int .i64 a0_0, .int .i64 a0_1, .int .i64 a0_2] 28 (0, 0))) ∧ Aside0 (Below w.heap.size w wc))
 case first =>
  have H := HC3.out
  clear HC3
  replace H := Option.bind_eq_some_iff.mp H
  obtain ⟨t502, A50, H⟩ := H
  replace H : (if t502 = true then ((impl_isGap.f a0_0 a0_1 a1).bind fun t503 => (if t503 = true then ((impl_isOpen.f a0_0 a0_1 a0_2 a1).bind fun t504 => (impl_LoopGaps.j0 k a1 t504 a0_0 a0_1 a0_2)) else (impl_LoopGaps.j0 k a1 true a0_0 a0_1 a0_2))) else (impl_LoopGaps.j0 k a1 true a0_0 a0_1 a0_2)) = some r := H
  have A5 := Aside0.mk A50
  clear A50
  by_cases c6 : t502 = true
  ·subst c6
   have H1 : ((impl_isGap.f a0_0 a0_1 a1).bind fun t503 => (if t503 = true then ((impl_isOpen.f a0_0 a0_1 a0_2 a1).bind fun t504 => (impl_LoopGaps.j0 k a1 t504 a0_0 a0_1 a0_2)) else (impl_LoopGaps.j0 k a1 true a0_0 a0_1 a0_2))) = some r := by rw [if_pos rfl] at H; exact H
   clear H
   have H := H1
   clear H1
   replace H := Option.bind_eq_some_iff.mp H
   obtain ⟨t503, A70, H⟩ := H
   replace H : (if t503 = true then ((impl_isOpen.f a0_0 a0_1 a0_2 a1).bind fun t504 => (impl_LoopGaps.j0 k a1 t504 a0_0 a0_1 a0_2)) else (impl_LoopGaps.j0 k a1 true a0_0 a0_1 a0_2)) = some r := H
   have A7 := Aside0.mk A70
   clear A70
   by_cases c8 : t503 = true
   ·subst c8
    have H1 : ((impl_isOpen.f a0_0 a0_1 a0_2 a1).bind fun t504 => (impl_LoopGaps.j0 k a1 t504 a0_0 a0_1 a0_2)) = some r := by rw [if_pos rfl] at H; exact H
    clear H
    have H := H1
    clear H1
    replace H := Option.bind_eq_some_iff.mp H
    obtain ⟨t504, A90, H⟩ := H
    replace H : (impl_LoopGaps.j0 k a1 t504 a0_0 a0_1 a0_2) = some r := H
    have A9 := Aside0.mk A90
    clear A90
    have H' := Aside0.mk H
    clear H
    obtain ⟨hcz10_0, hcz10_1, hcz10_2⟩ := cz3_ BK501.out
    obtain ⟨hfz10_0, hfz10_1, hfz10_2⟩ := fz3_ BK501.out
    go_wp2_with (first | (refine gl_ 8 Tryd.func31 #[.agg #[.int .i64 a0_0, .int .i64 a0_1, .int .i64 a0_2]] ?_; (with_reducible refine (impl_IsPerfect.calls k a0_0 a0_1 a0_2 true _ A5.out).mono ?_); rintro e w11 ⟨rfl, hb⟩; refine ⟨_, rfl, ?_⟩; replace BK501 := BK501.bb hb; replace HB := HB.s1 GE501 hb; (try clear hb); obtain ⟨hcz12_0, hcz12_1, hcz12_2⟩ := cz3_ BK501.out; obtain ⟨hfz12_0, hfz12_1, hfz12_2⟩ := fz3_ BK501.out) | (go_at_call 35; (with_reducible refine (impl_isGap.calls a0_0 a0_1 a1 true _ A7.out).mono ?_); rintro e w13 ⟨rfl, hb⟩; replace BK501 := BK501.bb hb; replace HB := HB.s1 GE501 hb; (try clear hb); obtain ⟨hcz14_0, hcz14_1, hcz14_2⟩ := cz3_ BK501.out; obtain ⟨hfz14_0, hfz14_1, hfz14_2⟩ := fz3_ BK501.out) | (go_at_call 20; (with_reducible refine (impl_isOpen.calls a0_0 a0_1 a0_2 a1 t504 _ A9.out).mono ?_); rintro e w15 ⟨rfl, hb⟩; replace BK501 := BK501.bb hb; replace HB := HB.s1 GE501 hb; (try clear hb)))
    go_meet
    case rel => exact ⟨_, (t504), (by first | rfl | (simp; done) | (simp [*]; done)), H', ⟨by first | omega | exact Nat.le_refl _⟩, ⟨bk_ BK501.out⟩, ⟨hb1_ HB.out GE501.out⟩⟩
   ·replace c8 := Bool.eq_false_iff.mpr c8
    subst c8
    have H1 : (impl_LoopGaps.j0 k a1 true a0_0 a0_1 a0_2) = some r := by rw [if_neg (show ¬ (false = true) by decide)] at H; exact H
    clear H
    have H := H1
    clear H1
    have H' := Aside0.mk H
    clear H
    obtain ⟨hcz16_0, hcz16_1, hcz16_2⟩ := cz3_ BK501.out
    obtain ⟨hfz16_0, hfz16_1, hfz16_2⟩ := fz3_ BK501.out
    go_wp2_with (first | (refine gl_ 8 Tryd.func31 #[.agg #[.int .i64 a0_0, .int .i64 a0_1, .int .i64 a0_2]] ?_; (with_reducible refine (impl_IsPerfect.calls k a0_0 a0_1 a0_2 true _ A5.out).mono ?_); rintro e w17 ⟨rfl, hb⟩; refine ⟨_, rfl, ?_⟩; replace BK501 := BK501.bb hb; replace HB := HB.s1 GE501 hb; (try clear hb); obtain ⟨hcz18_0, hcz18_1, hcz18_2⟩ := cz3_ BK501.out; obtain ⟨hfz18_0, hfz18_1, hfz18_2⟩ := fz3_ BK501.out) | (go_at_call 35; (with_reducible refine (impl_isGap.calls a0_0 a0_1 a1 false _ A7.out).mono ?_); rintro e w19 ⟨rfl, hb⟩; replace BK501 := BK501.bb hb; replace HB := HB.s1 GE501 hb; (try clear hb)))
    go_meet
    case rel => exact ⟨_, (true), (by first | rfl | (simp; done) | (simp [*]; done)), H', ⟨by first | omega | exact Nat.le_refl _⟩, ⟨bk_ BK501.out⟩, ⟨hb1_ HB.out GE501.out⟩⟩
  ·replace c6 := Bool.eq_false_iff.mpr c6
   subst c6
   have H1 : (impl_LoopGaps.j0 k a1 true a0_0 a0_1 a0_2) = some r := by rw [if_neg (show ¬ (false = true) by decide)] at H; exact H
   clear H
   have H := H1
   clear H1
   have H' := Aside0.mk H
   clear H
   obtain ⟨hcz20_0, hcz20_1, hcz20_2⟩ := cz3_ BK501.out
   obtain ⟨hfz20_0, hfz20_1, hfz20_2⟩ := fz3_ BK501.out
   go_wp2_with (first | (refine gl_ 8 Tryd.func31 #[.agg #[.int .i64 a0_0, .int .i64 a0_1, .int .i64 a0_2]] ?_; (with_reducible refine (impl_IsPerfect.calls k a0_0 a0_1 a0_2 false _ A5.out).mono ?_); rintro e w21 ⟨rfl, hb⟩; refine ⟨_, rfl, ?_⟩; replace BK501 := BK501.bb hb; replace HB := HB.s1 GE501 hb; (try clear hb)))
   go_meet
   case rel => exact ⟨_, (true), (by first | rfl | (simp; done) | (simp [*]; done)), H', ⟨by first | omega | exact Nat.le_refl _⟩, ⟨bk_ BK501.out⟩, ⟨hb1_ HB.out GE501.out⟩⟩
 case rest =>
  clear HC3
  try clear c1
  try clear p2
  try clear c3
  try clear c6
  try clear c8
  try clear c19
  try clear hcz10_0
  try clear hcz10_1
  try clear hcz10_2
  try clear hcz12_0
  try clear hcz12_1
  try clear hcz12_2
  try clear hcz14_0
  try clear hcz14_1
  try clear hcz14_2
  try clear hcz16_0
  try clear hcz16_1
  try clear hcz16_2
  try clear hcz18_0
  try clear hcz18_1
  try clear hcz18_2
  try clear hcz20_0
  try clear hcz20_1
  try clear hcz20_2
  try clear hfz10_0
  try clear hfz10_1
  try clear hfz10_2
  try clear hfz12_0
  try clear hfz12_1
  try clear hfz12_2
  try clear hfz14_0
  try clear hfz14_1
  try clear hfz14_2
  try clear hfz16_0
  try clear hfz16_1
  try clear hfz16_2
  try clear hfz18_0
  try clear hfz18_1
  try clear hfz18_2
  try clear hfz20_0
  try clear hfz20_1
  try clear hfz20_2
  obtain ⟨kq, x21_2, rfl, HA, HJ2, BK501, HB⟩ := hcut
  cases kq with
  | zero => exact absurd HA.out (by simp [impl_LoopGaps.j0])
  | succ kj2 =>
   have H := HA.out
   clear HA
   simp only [impl_LoopGaps.j0] at H
   by_cases c22 : x21_2 = true
   ·subst c22
    have H1 : (some ([] : List Int)) = some r := by rw [if_pos rfl] at H; exact H
    clear H
    have H := H1
    clear H1
    obtain rfl := Option.some.inj H
    go_wp2
    go_ret
    exact ⟨_, ex_, by first | exact Kd.R_nil _ _ _ _ _ | exact Kd.N_nil _ _ _ _ _ | exact Kd.V_nil _ _ _ _ _ | exact Kd.Q_nil _ _ _ _ _ | exact Kd.S_nil _ _ _ _ _, hb1_ HB.out GE501.out⟩
   ·replace c22 := Bool.eq_false_iff.mpr c22
    subst c22
    have H1 : ((impl_EndsOf.f a0_0 a0_1 a1).bind fun bt505 => ((impl_gapsOn.f kj2 a0_0 a0_1 a0_2 bt505.1 bt505.2).bind fun t507 => ((impl_ordered.f t507).bind fun t510 => (some t510)))) = some r := by rw [if_neg (show ¬ (false = true) by decide)] at H; exact H
    clear H
    have H := H1
    clear H1
    replace H := Option.bind_eq_some_iff.mp H
    obtain ⟨⟨t505, t506⟩, A230, H⟩ := H
    replace H : ((impl_gapsOn.f kj2 a0_0 a0_1 a0_2 t505 t506).bind fun t507 => ((impl_ordered.f t507).bind fun t510 => (some t510))) = some r := H
    have A23 := Aside0.mk A230
    clear A230
    replace H := Option.bind_eq_some_iff.mp H
    obtain ⟨t507, A240, H⟩ := H
    replace H : ((impl_ordered.f t507).bind fun t510 => (some t510)) = some r := H
    have A24 := Aside0.mk A240
    clear A240
    replace H := Option.bind_eq_some_iff.mp H
    obtain ⟨t510, A250, H⟩ := H
    replace H : (some t510) = some r := H
    have A25 := Aside0.mk A250
    clear A250
    obtain rfl := Option.some.inj H
    obtain ⟨hcz26_0, hcz26_1, hcz26_2⟩ := cz3_ BK501.out
    obtain ⟨hfz26_0, hfz26_1, hfz26_2⟩ := fz3_ BK501.out
    go_wp2_with (first | (refine gl_ 26 Tryd.func36 #[.agg #[.int .i64 a0_0, .int .i64 a0_1], .int .i64 a1] ?_; (with_reducible refine (impl_EndsOf.calls a0_0 a0_1 a1 t505 t506 _ A23.out).mono ?_); rintro e w27 ⟨rfl, hb⟩; refine ⟨_, rfl, ?_⟩; replace BK501 := BK501.bb hb; replace HB := HB.s1 GE501 hb; (try clear hb); obtain ⟨hcz28_0, hcz28_1, hcz28_2⟩ := cz3_ BK501.out; obtain ⟨hfz28_0, hfz28_1, hfz28_2⟩ := fz3_ BK501.out) | (refine gl_ 32 Tryd.func38 #[.agg #[.int .i64 a0_0, .int .i64 a0_1, .int .i64 a0_2], .int .i64 t505, .int .i64 t506] ?_; (with_reducible refine (impl_gapsOn.calls kj2 a0_0 a0_1 a0_2 t505 t506 t507 _ A24.out).mono ?_); rintro e w29 ⟨v508, rfl, ho0, hb⟩; refine ⟨_, rfl, ?_⟩; have HO509 := Aside0.mk (Kd.R_lower ho0 (below_size (hb1_ HB.out GE501.out))); replace BK501 := BK501.bb hb; replace HB := HB.s1 GE501 hb; (try clear hb); (try clear ho0); obtain ⟨Ao30, co30, eo30⟩ := Kd.R_slice HO509.out; subst eo30) | (refine gl_ 33 Tryd.func37 #[.slice Ao30 t507.length co30] ?_; (with_reducible refine (impl_ordered.calls (fun k_ => some k_ = (.slice Ao30 t507.length co30 : Value).ownBlock) (.slice Ao30 t507.length co30) t507 t510 w _ ?side1 ?side2 A25.out).mono ?_); (case side1 => repeat (first | (with_reducible first | exact HB.out | apply below_alloc | apply pw_below_drewN | apply below_drew1 | refine below_set ?_ GE501.out) | exact HB.out)); (case side2 => exact Kd.R_tight rfl HO509.out); rintro e w31 ⟨v511, rfl, ho0, hb, hkp⟩; refine ⟨_, rfl, ?_⟩; replace BK501 := Aside0.mk (blk_kept (bk_ BK501.out) hkp (fun hs_ => (fun e_ => (Kd.R_ne HO509.out BK501.out (by decide)) e_) hs_)); have HO512 := Aside0.mk (Kd.R_mono (ok' := fun k_ => True) ho0 (fun k_ hk_ => trivial)); replace HB := Aside0.mk (hb); clear HO509; (try clear hb); (try clear hkp); (try clear ho0)))
    go_ret
    exact ⟨_, ex_, kr_ HO512.out, hb1_ HB.out GE501.out⟩

end Go.Proofs.YtbdodiaedocmjaaDoor.X
