-- Written by a program of this session (xprint.py), out of the translation and of hand-written contracts. Lean checks it.
import Derived.Test.YtbdodiaedocmjaaDoorX0
import Derived.Test.YtbdodiaedocmjaaDoorXEq0
import Derived.Test.YtbdodiaedocmjaaDoorXcdist
import Derived.Test.YtbdodiaedocmjaaDoorXcgaps
import Derived.Test.YtbdodiaedocmjaaDoorXcgrid
import Derived.Test.YtbdodiaedocmjaaDoorXcints
import Derived.Test.YtbdodiaedocmjaaDoorXcmaze
import Derived.Test.YtbdodiaedocmjaaDoorXcperfs
import Derived.Test.YtbdodiaedocmjaaDoorXcstrees
import Derived.Test.YtbdodiaedocmjaaDoorXspecSetGap
namespace Go.Proofs.YtbdodiaedocmjaaDoor.X
open Go.RowKit Go.Proofs.YtbdodiaedocmjaaDoorW.PrintWords Go.Proofs.YtbdodiaedocmjaaDoorW.PrintLast Go.Proofs.YtbdodiaedocmjaaDoorW.PrintMore
attribute [local go_sem] max2_int min2_int max_two min_two max_three min_three max_four min_four   -- for this text's walks alone
set_option linter.unusedVariables false
set_option linter.unusedSimpArgs false

section
attribute [local go_sem high] eqA26
/-! ### spec_GapsApart: function 11 -/
mutual
def spec_GapsApart.j0 : Nat → Bool → Int → Int → Int → Int → Int → Int → Option (Int)
 | 0, _, _, _, _, _, _, _ => none
 | k + 1, x21, x502000, x502001, x502002, x503000, x503001, x503002 => if x21 = true then (some (-1)) else (spec_GapsApart.l0 k 0 0 x502000 x502001 x502002 x503000 x503001 x503002)
def spec_GapsApart.l0 : Nat → Int → Int → Int → Int → Int → Int → Int → Int → Option (Int)
 | 0, _, _, _, _, _, _, _, _ => none
 | k + 1, x5, x6, x502000, x502001, x502002, x503000, x503001, x503002 => (spec_CountGaps.f x502000 x502001).bind fun t505 => (if x6 < t505 then ((spec_l03Bit.f x502002 x6).bind fun t506 => (if t506 = true then ((spec_l03Bit.f x503002 x6).bind fun t507 => (if t507 = true then (spec_GapsApart.l0 k x5 (wrap64 (x6 + 1)) x502000 x502001 x502002 x503000 x503001 x503002) else (spec_GapsApart.l0 k (wrap64 (x5 + 1)) (wrap64 (x6 + 1)) x502000 x502001 x502002 x503000 x503001 x503002))) else (spec_GapsApart.l0 k x5 (wrap64 (x6 + 1)) x502000 x502001 x502002 x503000 x503001 x503002))) else (some x5))
end
def spec_GapsApart.f (k : Nat) (a0_0 : Int) (a0_1 : Int) (a0_2 : Int) (a1_0 : Int) (a1_1 : Int) (a1_2 : Int) : Option (Int) := (spec_IsPerfect.f k a0_0 a0_1 a0_2).bind fun t503 => (if t503 = true then ((spec_IsPerfect.f k a1_0 a1_1 a1_2).bind fun t504 => (if t504 = true then (spec_GapsApart.j0 k (!(a0_0 == a1_0) || (!(a0_1 == a1_1))) a0_0 a0_1 a0_2 a1_0 a1_1 a1_2) else (spec_GapsApart.j0 k true a0_0 a0_1 a0_2 a1_0 a1_1 a1_2))) else (spec_GapsApart.j0 k true a0_0 a0_1 a0_2 a1_0 a1_1 a1_2))
theorem spec_GapsApart.mono_l : ∀ k, (∀ y0 y1 y2 y3 y4 y5 y6, LeO (spec_GapsApart.j0 k y0 y1 y2 y3 y4 y5 y6) (spec_GapsApart.j0 (k + 1) y0 y1 y2 y3 y4 y5 y6)) ∧ (∀ y0 y1 y2 y3 y4 y5 y6 y7, LeO (spec_GapsApart.l0 k y0 y1 y2 y3 y4 y5 y6 y7) (spec_GapsApart.l0 (k + 1) y0 y1 y2 y3 y4 y5 y6 y7))
 | 0 => ⟨fun _ _ _ _ _ _ _ r h => by simp [spec_GapsApart.j0] at h, fun _ _ _ _ _ _ _ _ r h => by simp [spec_GapsApart.l0] at h⟩
 | k + 1 => by
  obtain ⟨ih0, ih1⟩ := spec_GapsApart.mono_l k
  refine ⟨?_, ?_⟩
  ·intro y0 y1 y2 y3 y4 y5 y6
   unfold spec_GapsApart.j0
   repeat' first
   | (with_reducible exact ih0 ..)
   | (with_reducible exact ih1 ..)
   | (with_reducible exact spec_IsPerfect.mono ..)
   | (with_reducible first | exact lr_ _ | exact ln_ _ | refine li_ ?_ ?_ | refine lb_ ?_ fun _ => ?_)
   | exact ih0 ..
   | exact ih1 ..
   | exact spec_IsPerfect.mono ..
   | exact ln_ _ | refine li_ ?_ ?_ | refine lb_ ?_ fun _ => ?_
  ·intro y0 y1 y2 y3 y4 y5 y6 y7
   unfold spec_GapsApart.l0
   repeat' first
   | (with_reducible exact ih0 ..)
   | (with_reducible exact ih1 ..)
   | (with_reducible exact spec_IsPerfect.mono ..)
   | (with_reducible first | exact lr_ _ | exact ln_ _ | refine li_ ?_ ?_ | refine lb_ ?_ fun _ => ?_)
   | exact ih0 ..
   | exact ih1 ..
   | exact spec_IsPerfect.mono ..
   | exact ln_ _ | refine li_ ?_ ?_ | refine lb_ ?_ fun _ => ?_
theorem spec_GapsApart.mono : ∀ a0 a1 a2 a3 a4 a5 k, LeO (spec_GapsApart.f k a0 a1 a2 a3 a4 a5) (spec_GapsApart.f (k + 1) a0 a1 a2 a3 a4 a5) := by
 intro a0 a1 a2 a3 a4 a5 k
 obtain ⟨ih0, ih1⟩ := spec_GapsApart.mono_l k
 unfold spec_GapsApart.f
 repeat' first
   | (with_reducible exact ih0 ..)
   | (with_reducible exact ih1 ..)
   | (with_reducible exact spec_IsPerfect.mono ..)
   | (with_reducible first | exact lr_ _ | exact ln_ _ | refine li_ ?_ ?_ | refine lb_ ?_ fun _ => ?_)
   | exact ih0 ..
   | exact ih1 ..
   | exact spec_IsPerfect.mono ..
   | exact ln_ _ | refine li_ ?_ ?_ | refine lb_ ?_ fun _ => ?_
set_option maxHeartbeats 8000000 in
set_option maxRecDepth 100000 in
theorem spec_GapsApart.calls (k : Nat) (a0_0 : Int) (a0_1 : Int) (a0_2 : Int) (a1_0 : Int) (a1_1 : Int) (a1_2 : Int) (r : Int) (w : World) (h : spec_GapsApart.f k a0_0 a0_1 a0_2 a1_0 a1_1 a1_2 = some r) :
  Calls Tryd.prog 11 #[.agg #[.int .i64 a0_0, .int .i64 a0_1, .int .i64 a0_2], .agg #[.int .i64 a1_0, .int .i64 a1_1, .int .i64 a1_2]] w fun e w' => e = .returned (.int .i64 r) ∧ Below w.heap.size w w' := by
 have hu28 := Tryd.underlying28
 have hu26 := Tryd.underlying26
 have HB := Aside0.mk (Below.refl w.heap.size w)
 have H : ((spec_IsPerfect.f k a0_0 a0_1 a0_2).bind fun t503 => (if t503 = true then ((spec_IsPerfect.f k a1_0 a1_1 a1_2).bind fun t504 => (if t504 = true then (spec_GapsApart.j0 k (!(a0_0 == a1_0) || (!(a0_1 == a1_1))) a0_0 a0_1 a0_2 a1_0 a1_1 a1_2) else (spec_GapsApart.j0 k true a0_0 a0_1 a0_2 a1_0 a1_1 a1_2))) else (spec_GapsApart.j0 k true a0_0 a0_1 a0_2 a1_0 a1_1 a1_2))) = some r := h
 clear h
 have HC3 := Aside0.mk H
 clear H
 go_enter Tryd.func11, Tryd.ntmps11
 go_upto_region 1 with (first | (refine box_ (N := 2) (cs := #[.int .i64 a0_0, .int .i64 a0_1, .int .i64 a0_2]) (t := 28) ?_; intro gb501 hg w4 hbox hb; have BK501 := Aside0.mk (hbox); have GW501 := HB.g0 hg; have GE501 := HB.g0 hg; replace HB := HB.s0 hb; clear hb hbox hg) | (refine box_ (N := 3) (cs := #[.int .i64 a1_0, .int .i64 a1_1, .int .i64 a1_2]) (t := 28) ?_; intro gb502 hg w5 hbox hb; have BK502 := Aside0.mk (hbox); have GW502 := HB.g1 GE501 hg; have GE502 := HB.g1 GE501 hg; replace HB := HB.s1 GE501 hb; have NB501_502 := BK501.nl hg; have NB502_501 := BK501.nr hg; replace BK501 := BK501.bb hb; clear hb hbox hg))
 (try simp only [Act.put, List.setIfInBounds_toArray, List.set_cons_zero, List.set_cons_succ])
 go_cut [21] (fun v21 wc => ∃ (kq : Nat) (x21_2 : Bool), v21 = .bool x21_2 ∧ Aside0 (spec_GapsApart.j0 kq x21_2 a0_0 a0_1 a0_2 a1_0 a1_1 a1_2 = some r) ∧ Aside0 (kq ≤ k) ∧ Aside0 (wc.heap[gb501]? = some (.cells #[.int .i64 a0_0, .int .i64 a0_1, .int .i64 a0_2] 28 (0, 0))) ∧ Aside0 (wc.heap[gb502]? = some (.cells #[.int .i64 a1_0, .int .i64 a1_1, .int .i64 a1_2] 28 (0, 0))) ∧ Aside0 (Below w.heap.size w wc))
 case first =>
  have H := HC3.out
  clear HC3
  replace H := Option.bind_eq_some_iff.mp H
  obtain ⟨t503, A60, H⟩ := H
  replace H : (if t503 = true then ((spec_IsPerfect.f k a1_0 a1_1 a1_2).bind fun t504 => (if t504 = true then (spec_GapsApart.j0 k (!(a0_0 == a1_0) || (!(a0_1 == a1_1))) a0_0 a0_1 a0_2 a1_0 a1_1 a1_2) else (spec_GapsApart.j0 k true a0_0 a0_1 a0_2 a1_0 a1_1 a1_2))) else (spec_GapsApart.j0 k true a0_0 a0_1 a0_2 a1_0 a1_1 a1_2)) = some r := H
  have A6 := Aside0.mk A60
  clear A60
  by_cases c7 : t503 = true
  ·subst c7
   have H1 : ((spec_IsPerfect.f k a1_0 a1_1 a1_2).bind fun t504 => (if t504 = true then (spec_GapsApart.j0 k (!(a0_0 == a1_0) || (!(a0_1 == a1_1))) a0_0 a0_1 a0_2 a1_0 a1_1 a1_2) else (spec_GapsApart.j0 k true a0_0 a0_1 a0_2 a1_0 a1_1 a1_2))) = some r := by rw [if_pos rfl] at H; exact H
   clear H
   have H := H1
   clear H1
   replace H := Option.bind_eq_some_iff.mp H
   obtain ⟨t504, A80, H⟩ := H
   replace H : (if t504 = true then (spec_GapsApart.j0 k (!(a0_0 == a1_0) || (!(a0_1 == a1_1))) a0_0 a0_1 a0_2 a1_0 a1_1 a1_2) else (spec_GapsApart.j0 k true a0_0 a0_1 a0_2 a1_0 a1_1 a1_2)) = some r := H
   have A8 := Aside0.mk A80
   clear A80
   by_cases c9 : t504 = true
   ·subst c9
    have H1 : (spec_GapsApart.j0 k (!(a0_0 == a1_0) || (!(a0_1 == a1_1))) a0_0 a0_1 a0_2 a1_0 a1_1 a1_2) = some r := by rw [if_pos rfl] at H; exact H
    clear H
    have H := H1
    clear H1
    have H' := Aside0.mk H
    clear H
    have hnb10 := NB501_502.out
    have hnc10 := NB502_501.out
    obtain ⟨hcz11_0, hcz11_1, hcz11_2⟩ := cz3_ BK501.out
    obtain ⟨hfz11_0, hfz11_1, hfz11_2⟩ := fz3_ BK501.out
    go_wp2_with (first | (refine gl_ 8 Tryd.func23 #[.agg #[.int .i64 a0_0, .int .i64 a0_1, .int .i64 a0_2]] ?_; (with_reducible refine (spec_IsPerfect.calls k a0_0 a0_1 a0_2 true _ A6.out).mono ?_); rintro e w12 ⟨rfl, hb⟩; refine ⟨_, rfl, ?_⟩; replace BK501 := BK501.bb hb; replace BK502 := BK502.bb hb; replace HB := HB.s2 GE501 GE502 hb; (try clear hb); obtain ⟨hcz13_0, hcz13_1, hcz13_2⟩ := cz3_ BK502.out; obtain ⟨hfz13_0, hfz13_1, hfz13_2⟩ := fz3_ BK502.out) | (go_at_call 23; (with_reducible refine (spec_IsPerfect.calls k a1_0 a1_1 a1_2 true _ A8.out).mono ?_); rintro e w14 ⟨rfl, hb⟩; replace BK501 := BK501.bb hb; replace BK502 := BK502.bb hb; replace HB := HB.s2 GE501 GE502 hb; (try clear hb); obtain ⟨hcz15_0, hcz15_1, hcz15_2⟩ := cz3_ BK501.out; obtain ⟨hfz15_0, hfz15_1, hfz15_2⟩ := fz3_ BK501.out; obtain ⟨hcz16_0, hcz16_1, hcz16_2⟩ := cz3_ BK502.out; obtain ⟨hfz16_0, hfz16_1, hfz16_2⟩ := fz3_ BK502.out))
    go_meet
    case rel => exact ⟨_, ((!(a0_0 == a1_0) || (!(a0_1 == a1_1)))), (by first | rfl | (simp; done) | (simp [*]; done)), H', ⟨by first | omega | exact Nat.le_refl _⟩, ⟨bk_ BK501.out⟩, ⟨bk_ BK502.out⟩, ⟨hb2_ HB.out GE501.out GE502.out⟩⟩
   ·replace c9 := Bool.eq_false_iff.mpr c9
    subst c9
    have H1 : (spec_GapsApart.j0 k true a0_0 a0_1 a0_2 a1_0 a1_1 a1_2) = some r := by rw [if_neg (show ¬ (false = true) by decide)] at H; exact H
    clear H
    have H := H1
    clear H1
    have H' := Aside0.mk H
    clear H
    have hnb17 := NB501_502.out
    have hnc17 := NB502_501.out
    obtain ⟨hcz18_0, hcz18_1, hcz18_2⟩ := cz3_ BK501.out
    obtain ⟨hfz18_0, hfz18_1, hfz18_2⟩ := fz3_ BK501.out
    go_wp2_with (first | (refine gl_ 8 Tryd.func23 #[.agg #[.int .i64 a0_0, .int .i64 a0_1, .int .i64 a0_2]] ?_; (with_reducible refine (spec_IsPerfect.calls k a0_0 a0_1 a0_2 true _ A6.out).mono ?_); rintro e w19 ⟨rfl, hb⟩; refine ⟨_, rfl, ?_⟩; replace BK501 := BK501.bb hb; replace BK502 := BK502.bb hb; replace HB := HB.s2 GE501 GE502 hb; (try clear hb); obtain ⟨hcz20_0, hcz20_1, hcz20_2⟩ := cz3_ BK502.out; obtain ⟨hfz20_0, hfz20_1, hfz20_2⟩ := fz3_ BK502.out) | (go_at_call 23; (with_reducible refine (spec_IsPerfect.calls k a1_0 a1_1 a1_2 false _ A8.out).mono ?_); rintro e w21 ⟨rfl, hb⟩; replace BK501 := BK501.bb hb; replace BK502 := BK502.bb hb; replace HB := HB.s2 GE501 GE502 hb; (try clear hb)))
    go_meet
    case rel => exact ⟨_, (true), (by first | rfl | (simp; done) | (simp [*]; done)), H', ⟨by first | omega | exact Nat.le_refl _⟩, ⟨bk_ BK501.out⟩, ⟨bk_ BK502.out⟩, ⟨hb2_ HB.out GE501.out GE502.out⟩⟩
  ·replace c7 := Bool.eq_false_iff.mpr c7
   subst c7
   have H1 : (spec_GapsApart.j0 k true a0_0 a0_1 a0_2 a1_0 a1_1 a1_2) = some r := by rw [if_neg (show ¬ (false = true) by decide)] at H; exact H
   clear H
   have H := H1
   clear H1
   have H' := Aside0.mk H
   clear H
   have hnb22 := NB501_502.out
   have hnc22 := NB502_501.out
   obtain ⟨hcz23_0, hcz23_1, hcz23_2⟩ := cz3_ BK501.out
   obtain ⟨hfz23_0, hfz23_1, hfz23_2⟩ := fz3_ BK501.out
   go_wp2_with (first | (refine gl_ 8 Tryd.func23 #[.agg #[.int .i64 a0_0, .int .i64 a0_1, .int .i64 a0_2]] ?_; (with_reducible refine (spec_IsPerfect.calls k a0_0 a0_1 a0_2 false _ A6.out).mono ?_); rintro e w24 ⟨rfl, hb⟩; refine ⟨_, rfl, ?_⟩; replace BK501 := BK501.bb hb; replace BK502 := BK502.bb hb; replace HB := HB.s2 GE501 GE502 hb; (try clear hb)))
   go_meet
   case rel => exact ⟨_, (true), (by first | rfl | (simp; done) | (simp [*]; done)), H', ⟨by first | omega | exact Nat.le_refl _⟩, ⟨bk_ BK501.out⟩, ⟨bk_ BK502.out⟩, ⟨hb2_ HB.out GE501.out GE502.out⟩⟩
 case rest =>
  clear HC3
  try clear c1
  try clear c2
  try clear p2
  try clear c7
  try clear c9
  try clear c10
  try clear c11
  try clear c17
  try clear c22
  try clear c23
  try clear hcz11_0
  try clear hcz11_1
  try clear hcz11_2
  try clear hcz13_0
  try clear hcz13_1
  try clear hcz13_2
  try clear hcz15_0
  try clear hcz15_1
  try clear hcz15_2
  try clear hcz16_0
  try clear hcz16_1
  try clear hcz16_2
  try clear hcz18_0
  try clear hcz18_1
  try clear hcz18_2
  try clear hcz20_0
  try clear hcz20_1
  try clear hcz20_2
  try clear hcz23_0
  try clear hcz23_1
  try clear hcz23_2
  try clear hfz11_0
  try clear hfz11_1
  try clear hfz11_2
  try clear hfz13_0
  try clear hfz13_1
  try clear hfz13_2
  try clear hfz15_0
  try clear hfz15_1
  try clear hfz15_2
  try clear hfz16_0
  try clear hfz16_1
  try clear hfz16_2
  try clear hfz18_0
  try clear hfz18_1
  try clear hfz18_2
  try clear hfz20_0
  try clear hfz20_1
  try clear hfz20_2
  try clear hfz23_0
  try clear hfz23_1
  try clear hfz23_2
  obtain ⟨kq, x21_2, rfl, HA, HJ2, BK501, BK502, HB⟩ := hcut
  cases kq with
  | zero => exact absurd HA.out (by simp [spec_GapsApart.j0])
  | succ kj2 =>
   have H := HA.out
   clear HA
   simp only [spec_GapsApart.j0] at H
   by_cases c25 : x21_2 = true
   ·subst c25
    have H1 : (some (-1)) = some r := by rw [if_pos rfl] at H; exact H
    clear H
    have H := H1
    clear H1
    obtain rfl := Option.some.inj H
    go_wp2
    go_ret
    exact ⟨ex_, hb2_ HB.out GE501.out GE502.out⟩
   ·replace c25 := Bool.eq_false_iff.mpr c25
    subst c25
    have H1 : (spec_GapsApart.l0 kj2 0 0 a0_0 a0_1 a0_2 a1_0 a1_1 a1_2) = some r := by rw [if_neg (show ¬ (false = true) by decide)] at H; exact H
    clear H
    have H := H1
    clear H1
    have H' := Aside0.mk H
    clear H
    go_wp2
    go_loopg [5, 6] kj2 (fun kq v5 v6 w' => ∃ (x5_2 : Int) (x6_2 : Int), v5 = .int .i64 x5_2 ∧ v6 = .int .i64 x6_2 ∧ Aside0 (spec_GapsApart.l0 kq x5_2 x6_2 a0_0 a0_1 a0_2 a1_0 a1_1 a1_2 = some r) ∧ Aside0 (kq ≤ kj2) ∧ Aside0 (w'.heap[gb501]? = some (.cells #[.int .i64 a0_0, .int .i64 a0_1, .int .i64 a0_2] 28 (0, 0))) ∧ Aside0 (w'.heap[gb502]? = some (.cells #[.int .i64 a1_0, .int .i64 a1_1, .int .i64 a1_2] 28 (0, 0))) ∧ Aside0 (Below w.heap.size w w'))
    case atStart => exact ⟨(0), (0), (by first | rfl | (simp; done) | (simp [*]; done)), (by first | rfl | (simp; done) | (simp [*]; done)), H', ⟨Nat.le_refl _⟩, ⟨bk_ BK501.out⟩, ⟨bk_ BK502.out⟩, ⟨hb2_ HB.out GE501.out GE502.out⟩⟩
    case round =>
     clear H'
     try clear c1
     try clear c2
     try clear p2
     try clear c7
     try clear c9
     try clear c10
     try clear c11
     try clear c17
     try clear c22
     try clear c23
     try clear c25
     try clear hcz11_0
     try clear hcz11_1
     try clear hcz11_2
     try clear hcz13_0
     try clear hcz13_1
     try clear hcz13_2
     try clear hcz15_0
     try clear hcz15_1
     try clear hcz15_2
     try clear hcz16_0
     try clear hcz16_1
     try clear hcz16_2
     try clear hcz18_0
     try clear hcz18_1
     try clear hcz18_2
     try clear hcz20_0
     try clear hcz20_1
     try clear hcz20_2
     try clear hcz23_0
     try clear hcz23_1
     try clear hcz23_2
     try clear hfz11_0
     try clear hfz11_1
     try clear hfz11_2
     try clear hfz13_0
     try clear hfz13_1
     try clear hfz13_2
     try clear hfz15_0
     try clear hfz15_1
     try clear hfz15_2
     try clear hfz16_0
     try clear hfz16_1
     try clear hfz16_2
     try clear hfz18_0
     try clear hfz18_1
     try clear hfz18_2
     try clear hfz20_0
     try clear hfz20_1
     try clear hfz20_2
     try clear hfz23_0
     try clear hfz23_1
     try clear hfz23_2
     try clear p2
     obtain ⟨x5_2, x6_2, rfl, rfl, HA, HK2, BK501, BK502, HB⟩ := hrel
     cases gk with
     | zero => exact absurd HA.out (by simp [spec_GapsApart.l0])
     | succ k2 =>
      have H := HA.out
      clear HA
      simp only [spec_GapsApart.l0] at H
      replace H := Option.bind_eq_some_iff.mp H
      obtain ⟨t505, A260, H⟩ := H
      replace H : (if x6_2 < t505 then ((spec_l03Bit.f a0_2 x6_2).bind fun t506 => (if t506 = true then ((spec_l03Bit.f a1_2 x6_2).bind fun t507 => (if t507 = true then (spec_GapsApart.l0 k2 x5_2 (wrap64 (x6_2 + 1)) a0_0 a0_1 a0_2 a1_0 a1_1 a1_2) else (spec_GapsApart.l0 k2 (wrap64 (x5_2 + 1)) (wrap64 (x6_2 + 1)) a0_0 a0_1 a0_2 a1_0 a1_1 a1_2))) else (spec_GapsApart.l0 k2 x5_2 (wrap64 (x6_2 + 1)) a0_0 a0_1 a0_2 a1_0 a1_1 a1_2))) else (some x5_2)) = some r := H
      have A26 := Aside0.mk A260
      clear A260
      by_cases c27 : x6_2 < t505
      ·rw [if_pos c27] at H
       have c27b0 : decide (x6_2 < t505) = true := decide_eq_true c27
       clear c27
       replace H := Option.bind_eq_some_iff.mp H
       obtain ⟨t506, A280, H⟩ := H
       replace H : (if t506 = true then ((spec_l03Bit.f a1_2 x6_2).bind fun t507 => (if t507 = true then (spec_GapsApart.l0 k2 x5_2 (wrap64 (x6_2 + 1)) a0_0 a0_1 a0_2 a1_0 a1_1 a1_2) else (spec_GapsApart.l0 k2 (wrap64 (x5_2 + 1)) (wrap64 (x6_2 + 1)) a0_0 a0_1 a0_2 a1_0 a1_1 a1_2))) else (spec_GapsApart.l0 k2 x5_2 (wrap64 (x6_2 + 1)) a0_0 a0_1 a0_2 a1_0 a1_1 a1_2)) = some r := H
       have A28 := Aside0.mk A280
       clear A280
       by_cases c29 : t506 = true
       ·subst c29
        have H1 : ((spec_l03Bit.f a1_2 x6_2).bind fun t507 => (if t507 = true then (spec_GapsApart.l0 k2 x5_2 (wrap64 (x6_2 + 1)) a0_0 a0_1 a0_2 a1_0 a1_1 a1_2) else (spec_GapsApart.l0 k2 (wrap64 (x5_2 + 1)) (wrap64 (x6_2 + 1)) a0_0 a0_1 a0_2 a1_0 a1_1 a1_2))) = some r := by rw [if_pos rfl] at H; exact H
        clear H
        have H := H1
        clear H1
        replace H := Option.bind_eq_some_iff.mp H
        obtain ⟨t507, A300, H⟩ := H
        replace H : (if t507 = true then (spec_GapsApart.l0 k2 x5_2 (wrap64 (x6_2 + 1)) a0_0 a0_1 a0_2 a1_0 a1_1 a1_2) else (spec_GapsApart.l0 k2 (wrap64 (x5_2 + 1)) (wrap64 (x6_2 + 1)) a0_0 a0_1 a0_2 a1_0 a1_1 a1_2)) = some r := H
        have A30 := Aside0.mk A300
        clear A300
        by_cases c31 : t507 = true
        ·subst c31
         have H1 : (spec_GapsApart.l0 k2 x5_2 (wrap64 (x6_2 + 1)) a0_0 a0_1 a0_2 a1_0 a1_1 a1_2) = some r := by rw [if_pos rfl] at H; exact H
         clear H
         have H := H1
         clear H1
         have H' := Aside0.mk H
         clear H
         have hnb32 := NB501_502.out
         have hnc32 := NB502_501.out
         obtain ⟨hcz33_0, hcz33_1, hcz33_2⟩ := cz3_ BK501.out
         obtain ⟨hfz33_0, hfz33_1, hfz33_2⟩ := fz3_ BK501.out
         go_wp2_with (first | (refine gl_ 25 Tryd.func12 #[.agg #[.int .i64 a0_0, .int .i64 a0_1]] ?_; (with_reducible refine (spec_CountGaps.calls a0_0 a0_1 t505 _ A26.out).mono ?_); rintro e w34 ⟨rfl, hb⟩; refine ⟨_, rfl, ?_⟩; replace BK501 := BK501.bb hb; replace BK502 := BK502.bb hb; replace HB := HB.s2 GE501 GE502 hb; (try clear hb); obtain ⟨hcz35_0, hcz35_1, hcz35_2⟩ := cz3_ BK501.out; obtain ⟨hfz35_0, hfz35_1, hfz35_2⟩ := fz3_ BK501.out) | (refine gl_ 32 Tryd.func13 #[.int .i64 a0_2, .int .i64 x6_2] ?_; (with_reducible refine (spec_l03Bit.calls a0_2 x6_2 true _ A28.out).mono ?_); rintro e w' ⟨rfl, ⟨nd, rfl⟩⟩; refine ⟨_, rfl, ?_⟩; obtain ⟨hcz36_0, hcz36_1, hcz36_2⟩ := cz3_ BK502.out; obtain ⟨hfz36_0, hfz36_1, hfz36_2⟩ := fz3_ BK502.out) | (go_at_call 13; (with_reducible refine (spec_l03Bit.calls a1_2 x6_2 true _ A30.out).mono ?_); rintro e w' ⟨rfl, ⟨nd, rfl⟩⟩))
         go_roundg k2
         case measure => have := HJ2.out; have := HK2.out; omega
         case rel => exact ⟨(x5_2), (wrap64 (x6_2 + 1)), (by first | rfl | (simp; done) | (simp [*]; done)), (by first | rfl | (simp; done) | (simp [*]; done)), H', ⟨by have := HJ2.out; have := HK2.out; omega⟩, ⟨bk_ BK501.out⟩, ⟨bk_ BK502.out⟩, ⟨hb2_ HB.out GE501.out GE502.out⟩⟩
        ·replace c31 := Bool.eq_false_iff.mpr c31
         subst c31
         have H1 : (spec_GapsApart.l0 k2 (wrap64 (x5_2 + 1)) (wrap64 (x6_2 + 1)) a0_0 a0_1 a0_2 a1_0 a1_1 a1_2) = some r := by rw [if_neg (show ¬ (false = true) by decide)] at H; exact H
         clear H
         have H := H1
         clear H1
         have H' := Aside0.mk H
         clear H
         have hnb37 := NB501_502.out
         have hnc37 := NB502_501.out
         obtain ⟨hcz38_0, hcz38_1, hcz38_2⟩ := cz3_ BK501.out
         obtain ⟨hfz38_0, hfz38_1, hfz38_2⟩ := fz3_ BK501.out
         go_wp2_with (first | (refine gl_ 25 Tryd.func12 #[.agg #[.int .i64 a0_0, .int .i64 a0_1]] ?_; (with_reducible refine (spec_CountGaps.calls a0_0 a0_1 t505 _ A26.out).mono ?_); rintro e w39 ⟨rfl, hb⟩; refine ⟨_, rfl, ?_⟩; replace BK501 := BK501.bb hb; replace BK502 := BK502.bb hb; replace HB := HB.s2 GE501 GE502 hb; (try clear hb); obtain ⟨hcz40_0, hcz40_1, hcz40_2⟩ := cz3_ BK501.out; obtain ⟨hfz40_0, hfz40_1, hfz40_2⟩ := fz3_ BK501.out) | (refine gl_ 32 Tryd.func13 #[.int .i64 a0_2, .int .i64 x6_2] ?_; (with_reducible refine (spec_l03Bit.calls a0_2 x6_2 true _ A28.out).mono ?_); rintro e w' ⟨rfl, ⟨nd, rfl⟩⟩; refine ⟨_, rfl, ?_⟩; obtain ⟨hcz41_0, hcz41_1, hcz41_2⟩ := cz3_ BK502.out; obtain ⟨hfz41_0, hfz41_1, hfz41_2⟩ := fz3_ BK502.out) | (go_at_call 13; (with_reducible refine (spec_l03Bit.calls a1_2 x6_2 false _ A30.out).mono ?_); rintro e w' ⟨rfl, ⟨nd, rfl⟩⟩))
         go_roundg k2
         case measure => have := HJ2.out; have := HK2.out; omega
         case rel => exact ⟨(wrap64 (x5_2 + 1)), (wrap64 (x6_2 + 1)), (by first | rfl | (simp; done) | (simp [*]; done)), (by first | rfl | (simp; done) | (simp [*]; done)), H', ⟨by have := HJ2.out; have := HK2.out; omega⟩, ⟨bk_ BK501.out⟩, ⟨bk_ BK502.out⟩, ⟨hb2_ HB.out GE501.out GE502.out⟩⟩
       ·replace c29 := Bool.eq_false_iff.mpr c29
        subst c29
        have H1 : (spec_GapsApart.l0 k2 x5_2 (wrap64 (x6_2 + 1)) a0_0 a0_1 a0_2 a1_0 a1_1 a1_2) = some r := by rw [if_neg (show ¬ (false = true) by decide)] at H; exact H
        clear H
        have H := H1
        clear H1
        have H' := Aside0.mk H
        clear H
        have hnb42 := NB501_502.out
        have hnc42 := NB502_501.out
        obtain ⟨hcz43_0, hcz43_1, hcz43_2⟩ := cz3_ BK501.out
        obtain ⟨hfz43_0, hfz43_1, hfz43_2⟩ := fz3_ BK501.out
        go_wp2_with (first | (refine gl_ 25 Tryd.func12 #[.agg #[.int .i64 a0_0, .int .i64 a0_1]] ?_; (with_reducible refine (spec_CountGaps.calls a0_0 a0_1 t505 _ A26.out).mono ?_); rintro e w44 ⟨rfl, hb⟩; refine ⟨_, rfl, ?_⟩; replace BK501 := BK501.bb hb; replace BK502 := BK502.bb hb; replace HB := HB.s2 GE501 GE502 hb; (try clear hb); obtain ⟨hcz45_0, hcz45_1, hcz45_2⟩ := cz3_ BK501.out; obtain ⟨hfz45_0, hfz45_1, hfz45_2⟩ := fz3_ BK501.out) | (refine gl_ 32 Tryd.func13 #[.int .i64 a0_2, .int .i64 x6_2] ?_; (with_reducible refine (spec_l03Bit.calls a0_2 x6_2 false _ A28.out).mono ?_); rintro e w' ⟨rfl, ⟨nd, rfl⟩⟩; refine ⟨_, rfl, ?_⟩))
        go_roundg k2
        case measure => have := HJ2.out; have := HK2.out; omega
        case rel => exact ⟨(x5_2), (wrap64 (x6_2 + 1)), (by first | rfl | (simp; done) | (simp [*]; done)), (by first | rfl | (simp; done) | (simp [*]; done)), H', ⟨by have := HJ2.out; have := HK2.out; omega⟩, ⟨bk_ BK501.out⟩, ⟨bk_ BK502.out⟩, ⟨hb2_ HB.out GE501.out GE502.out⟩⟩
      ·rw [if_neg c27] at H
       have c27b0 : decide (x6_2 < t505) = false := decide_eq_false c27
       clear c27
       obtain rfl := Option.some.inj H
       have hnb46 := NB501_502.out
       have hnc46 := NB502_501.out
       obtain ⟨hcz47_0, hcz47_1, hcz47_2⟩ := cz3_ BK501.out
       obtain ⟨hfz47_0, hfz47_1, hfz47_2⟩ := fz3_ BK501.out
       go_wp2_with (first | (refine gl_ 25 Tryd.func12 #[.agg #[.int .i64 a0_0, .int .i64 a0_1]] ?_; (with_reducible refine (spec_CountGaps.calls a0_0 a0_1 t505 _ A26.out).mono ?_); rintro e w48 ⟨rfl, hb⟩; refine ⟨_, rfl, ?_⟩; replace BK501 := BK501.bb hb; replace BK502 := BK502.bb hb; replace HB := HB.s2 GE501 GE502 hb; (try clear hb)))
       go_ret
       exact ⟨ex_, hb2_ HB.out GE501.out GE502.out⟩

end
/-! ### spec_LoopGaps: function 14 -/
mutual
def spec_LoopGaps.j0 : Nat → Int → List Int → Bool → Int → Int → Int → Option (List Int)
 | 0, _, _, _, _, _, _ => none
 | k + 1, x1, x5, x29, x502000, x502001, x502002 => if x29 = true then (some x5) else ((spec_EndsOf.f x502000 x502001 x1).bind fun bt509 => (spec_LoopGaps.l0 k x5 bt509.1 bt509.2 0 x502000 x502001 x502002))
def spec_LoopGaps.l0 : Nat → List Int → Int → Int → Int → Int → Int → Int → Option (List Int)
 | 0, _, _, _, _, _, _, _ => none
 | k + 1, x5, x6, x7, x8, x502000, x502001, x502002 => (spec_CountGaps.f x502000 x502001).bind fun t511 => (if x8 < t511 then ((spec_l03Bit.f x502002 x8).bind fun t512 => (if t512 = true then ((spec_SetGap.f k x502000 x502001 x502002 x8 false).bind fun bt513 => ((spec_DistanceOf.f k bt513.1 bt513.2.1 bt513.2.2.1 x6 x7).bind fun t518 => (if t518 < 0 then (if x5.length < 17592186044416 then (spec_LoopGaps.l0 k (x5 ++ [x8]) x6 x7 (wrap64 (x8 + 1)) x502000 x502001 x502002) else (none)) else (spec_LoopGaps.l0 k x5 x6 x7 (wrap64 (x8 + 1)) x502000 x502001 x502002)))) else (spec_LoopGaps.l0 k x5 x6 x7 (wrap64 (x8 + 1)) x502000 x502001 x502002))) else (some x5))
end
def spec_LoopGaps.f (k : Nat) (a0_0 : Int) (a0_1 : Int) (a0_2 : Int) (a1 : Int) : Option (List Int) := (some (([] : List Int) : List Int)).bind fun y502 => ((spec_IsPerfect.f k a0_0 a0_1 a0_2).bind fun t505 => (if t505 = true then ((spec_CountGaps.f a0_0 a0_1).bind fun t506 => ((spec_l01In.f a1 0 (wrap64 (t506 - 1))).bind fun t507 => (if t507 = true then ((spec_l03Bit.f a0_2 a1).bind fun t508 => (spec_LoopGaps.j0 k a1 y502 t508 a0_0 a0_1 a0_2)) else (spec_LoopGaps.j0 k a1 y502 true a0_0 a0_1 a0_2)))) else (spec_LoopGaps.j0 k a1 y502 true a0_0 a0_1 a0_2)))
theorem spec_LoopGaps.mono_l : ∀ k, (∀ y0 y1 y2 y3 y4 y5, LeO (spec_LoopGaps.j0 k y0 y1 y2 y3 y4 y5) (spec_LoopGaps.j0 (k + 1) y0 y1 y2 y3 y4 y5)) ∧ (∀ y0 y1 y2 y3 y4 y5 y6, LeO (spec_LoopGaps.l0 k y0 y1 y2 y3 y4 y5 y6) (spec_LoopGaps.l0 (k + 1) y0 y1 y2 y3 y4 y5 y6))
 | 0 => ⟨fun _ _ _ _ _ _ r h => by simp [spec_LoopGaps.j0] at h, fun _ _ _ _ _ _ _ r h => by simp [spec_LoopGaps.l0] at h⟩
 | k + 1 => by
  obtain ⟨ih0, ih1⟩ := spec_LoopGaps.mono_l k
  refine ⟨?_, ?_⟩
  ·intro y0 y1 y2 y3 y4 y5
   unfold spec_LoopGaps.j0
   repeat' first
   | (with_reducible exact ih0 ..)
   | (with_reducible exact ih1 ..)
   | (with_reducible exact spec_DistanceOf.mono ..)
   | (with_reducible exact spec_IsPerfect.mono ..)
   | (with_reducible exact spec_SetGap.mono ..)
   | (with_reducible first | exact lr_ _ | exact ln_ _ | refine li_ ?_ ?_ | refine lb_ ?_ fun _ => ?_)
   | exact ih0 ..
   | exact ih1 ..
   | exact spec_DistanceOf.mono ..
   | exact spec_IsPerfect.mono ..
   | exact spec_SetGap.mono ..
   | exact ln_ _ | refine li_ ?_ ?_ | refine lb_ ?_ fun _ => ?_
  ·intro y0 y1 y2 y3 y4 y5 y6
   unfold spec_LoopGaps.l0
   repeat' first
   | (with_reducible exact ih0 ..)
   | (with_reducible exact ih1 ..)
   | (with_reducible exact spec_DistanceOf.mono ..)
   | (with_reducible exact spec_IsPerfect.mono ..)
   | (with_reducible exact spec_SetGap.mono ..)
   | (with_reducible first | exact lr_ _ | exact ln_ _ | refine li_ ?_ ?_ | refine lb_ ?_ fun _ => ?_)
   | exact ih0 ..
   | exact ih1 ..
   | exact spec_DistanceOf.mono ..
   | exact spec_IsPerfect.mono ..
   | exact spec_SetGap.mono ..
   | exact ln_ _ | refine li_ ?_ ?_ | refine lb_ ?_ fun _ => ?_
theorem spec_LoopGaps.mono : ∀ a0 a1 a2 a3 k, LeO (spec_LoopGaps.f k a0 a1 a2 a3) (spec_LoopGaps.f (k + 1) a0 a1 a2 a3) := by
 intro a0 a1 a2 a3 k
 obtain ⟨ih0, ih1⟩ := spec_LoopGaps.mono_l k
 unfold spec_LoopGaps.f
 repeat' first
   | (with_reducible exact ih0 ..)
   | (with_reducible exact ih1 ..)
   | (with_reducible exact spec_DistanceOf.mono ..)
   | (with_reducible exact spec_IsPerfect.mono ..)
   | (with_reducible exact spec_SetGap.mono ..)
   | (with_reducible first | exact lr_ _ | exact ln_ _ | refine li_ ?_ ?_ | refine lb_ ?_ fun _ => ?_)
   | exact ih0 ..
   | exact ih1 ..
   | exact spec_DistanceOf.mono ..
   | exact spec_IsPerfect.mono ..
   | exact spec_SetGap.mono ..
   | exact ln_ _ | refine li_ ?_ ?_ | refine lb_ ?_ fun _ => ?_
set_option maxHeartbeats 8000000 in
set_option maxRecDepth 100000 in
theorem spec_LoopGaps.calls (k : Nat) (a0_0 : Int) (a0_1 : Int) (a0_2 : Int) (a1 : Int) (r : List Int) (w : World) (h : spec_LoopGaps.f k a0_0 a0_1 a0_2 a1 = some r) :
  Calls Tryd.prog 14 #[.agg #[.int .i64 a0_0, .int .i64 a0_1, .int .i64 a0_2], .int .i64 a1] w fun e w' => ∃ v0_ : Value, e = .returned (v0_) ∧ Kd.R (Kd.int .i64) 3 w' w.heap.size (fun _ => True) v0_ r ∧ Below w.heap.size w w' := by
 have hu28 := Tryd.underlying28
 have hu26 := Tryd.underlying26
 have HB := Aside0.mk (Below.refl w.heap.size w)
 have H : ((some (([] : List Int) : List Int)).bind fun y502 => ((spec_IsPerfect.f k a0_0 a0_1 a0_2).bind fun t505 => (if t505 = true then ((spec_CountGaps.f a0_0 a0_1).bind fun t506 => ((spec_l01In.f a1 0 (wrap64 (t506 - 1))).bind fun t507 => (if t507 = true then ((spec_l03Bit.f a0_2 a1).bind fun t508 => (spec_LoopGaps.j0 k a1 y502 t508 a0_0 a0_1 a0_2)) else (spec_LoopGaps.j0 k a1 y502 true a0_0 a0_1 a0_2)))) else (spec_LoopGaps.j0 k a1 y502 true a0_0 a0_1 a0_2)))) = some r := h
 clear h
 obtain ⟨y502, hy502⟩ : ∃ y_ : List Int, y_ = (([] : List Int)) := ⟨_, rfl⟩
 replace H : ((spec_IsPerfect.f k a0_0 a0_1 a0_2).bind fun t505 => (if t505 = true then ((spec_CountGaps.f a0_0 a0_1).bind fun t506 => ((spec_l01In.f a1 0 (wrap64 (t506 - 1))).bind fun t507 => (if t507 = true then ((spec_l03Bit.f a0_2 a1).bind fun t508 => (spec_LoopGaps.j0 k a1 y502 t508 a0_0 a0_1 a0_2)) else (spec_LoopGaps.j0 k a1 y502 true a0_0 a0_1 a0_2)))) else (spec_LoopGaps.j0 k a1 y502 true a0_0 a0_1 a0_2))) = some r := by first | (rw [hy502]; with_reducible exact H) | (have H2_ := (Option.bind_some _ _).symm.trans H; rw [hy502]; with_reducible exact H2_) | (have H2_ := (Option.bind_some _ _).symm.trans H; with_reducible exact H2_) | with_reducible exact H | (rw [hy502]; exact H) | exact H
 have Ny502 := Aside0.mk hy502
 clear hy502
 have HC3 := Aside0.mk H
 clear H
 go_enter Tryd.func14, Tryd.ntmps14
 go_upto_region 2 with (first | (refine box_ (N := 2) (cs := #[.int .i64 a0_0, .int .i64 a0_1, .int .i64 a0_2]) (t := 28) ?_; intro gb501 hg w4 hbox hb; have BK501 := Aside0.mk (hbox); have GW501 := HB.g0 hg; have GE501 := HB.g0 hg; replace HB := HB.s0 hb; clear hb hbox hg) | ((with_reducible refine gate_dst (N := 11) rfl ?_); refine Kd.R_lit (Kd.int .i64) _ 3 ?hg (N := 11) ?hd (xs := ([] : List Int)) (inner := []) (ok := fun _ => True) (okp := fun _ => True) ?hr ?hp (fun _ hk => hk) trivial (Below.refl _ _) (Nat.le_refl _) (by simp) ?_; (case hd => rfl); (case hg => rfl); (case hr => first | (go_simp; done) | (go_simp; rfl)); (case hp => exact (Reps.none _ _)); intro v503 w5 ho6 hb hg_ hnew_; clear hg_ hnew_; (first | rw [← Ny502.out] at ho6 | (simp only [Int.reduceToNat] at ho6; rw [← Ny502.out] at ho6)); have HO504 := Aside0.mk (Kd.R_lower ho6 (below_size (hb1_ HB.out GE501.out))); replace BK501 := BK501.bb hb; replace HB := HB.s1 GE501 hb; clear hb ho6))
 (try simp only [Act.put, List.setIfInBounds_toArray, List.set_cons_zero, List.set_cons_succ])
 go_cut [29] (fun v29 wc => ∃ (kq : Nat) (x29_2 : Bool), v29 = .bool x29_2 ∧ Aside0 (spec_LoopGaps.j0 kq a1 y502 x29_2 a0_0 a0_1 a0_2 = some r) ∧ Aside0 (kq ≤ k) ∧ Aside0 (Kd.R (Kd.int .i64) 3 wc w.heap.size (fun _ => True) v503 y502) ∧ Aside0 (wc.heap[gb501]? = some (.cells #[.int .i64 a0_0, .int .i64 a0_1, .int .i64 a0_2] 28 (0, 0))) ∧ Aside0 (Below w.heap.size w wc))
 case first =>
  have H := HC3.out
  clear HC3
  replace H := Option.bind_eq_some_iff.mp H
  obtain ⟨t505, A70, H⟩ := H
  replace H : (if t505 = true then ((spec_CountGaps.f a0_0 a0_1).bind fun t506 => ((spec_l01In.f a1 0 (wrap64 (t506 - 1))).bind fun t507 => (if t507 = true then ((spec_l03Bit.f a0_2 a1).bind fun t508 => (spec_LoopGaps.j0 k a1 y502 t508 a0_0 a0_1 a0_2)) else (spec_LoopGaps.j0 k a1 y502 true a0_0 a0_1 a0_2)))) else (spec_LoopGaps.j0 k a1 y502 true a0_0 a0_1 a0_2)) = some r := H
  have A7 := Aside0.mk A70
  clear A70
  by_cases c8 : t505 = true
  ·subst c8
   have H1 : ((spec_CountGaps.f a0_0 a0_1).bind fun t506 => ((spec_l01In.f a1 0 (wrap64 (t506 - 1))).bind fun t507 => (if t507 = true then ((spec_l03Bit.f a0_2 a1).bind fun t508 => (spec_LoopGaps.j0 k a1 y502 t508 a0_0 a0_1 a0_2)) else (spec_LoopGaps.j0 k a1 y502 true a0_0 a0_1 a0_2)))) = some r := by rw [if_pos rfl] at H; exact H
   clear H
   have H := H1
   clear H1
   replace H := Option.bind_eq_some_iff.mp H
   obtain ⟨t506, A90, H⟩ := H
   replace H : ((spec_l01In.f a1 0 (wrap64 (t506 - 1))).bind fun t507 => (if t507 = true then ((spec_l03Bit.f a0_2 a1).bind fun t508 => (spec_LoopGaps.j0 k a1 y502 t508 a0_0 a0_1 a0_2)) else (spec_LoopGaps.j0 k a1 y502 true a0_0 a0_1 a0_2))) = some r := H
   have A9 := Aside0.mk A90
   clear A90
   replace H := Option.bind_eq_some_iff.mp H
   obtain ⟨t507, A100, H⟩ := H
   replace H : (if t507 = true then ((spec_l03Bit.f a0_2 a1).bind fun t508 => (spec_LoopGaps.j0 k a1 y502 t508 a0_0 a0_1 a0_2)) else (spec_LoopGaps.j0 k a1 y502 true a0_0 a0_1 a0_2)) = some r := H
   have A10 := Aside0.mk A100
   clear A100
   by_cases c11 : t507 = true
   ·subst c11
    have H1 : ((spec_l03Bit.f a0_2 a1).bind fun t508 => (spec_LoopGaps.j0 k a1 y502 t508 a0_0 a0_1 a0_2)) = some r := by rw [if_pos rfl] at H; exact H
    clear H
    have H := H1
    clear H1
    replace H := Option.bind_eq_some_iff.mp H
    obtain ⟨t508, A120, H⟩ := H
    replace H : (spec_LoopGaps.j0 k a1 y502 t508 a0_0 a0_1 a0_2) = some r := H
    have A12 := Aside0.mk A120
    clear A120
    have H' := Aside0.mk H
    clear H
    obtain ⟨hcz13_0, hcz13_1, hcz13_2⟩ := cz3_ BK501.out
    obtain ⟨hfz13_0, hfz13_1, hfz13_2⟩ := fz3_ BK501.out
    go_wp2_with (first | (refine gl_ 13 Tryd.func23 #[.agg #[.int .i64 a0_0, .int .i64 a0_1, .int .i64 a0_2]] ?_; (with_reducible refine (spec_IsPerfect.calls k a0_0 a0_1 a0_2 true _ A7.out).mono ?_); rintro e w14 ⟨rfl, hb⟩; refine ⟨_, rfl, ?_⟩; replace HO504 := HO504.kb hb; replace BK501 := BK501.bb hb; replace HB := HB.s1 GE501 hb; (try clear hb); obtain ⟨hcz15_0, hcz15_1, hcz15_2⟩ := cz3_ BK501.out; obtain ⟨hfz15_0, hfz15_1, hfz15_2⟩ := fz3_ BK501.out) | (go_at_call 12; (with_reducible refine (spec_CountGaps.calls a0_0 a0_1 t506 _ A9.out).mono ?_); rintro e w16 ⟨rfl, hb⟩; replace HO504 := HO504.kb hb; replace BK501 := BK501.bb hb; replace HB := HB.s1 GE501 hb; (try clear hb)) | (go_at_call 26; (with_reducible refine (spec_l01In.calls a1 0 (wrap64 (t506 - 1)) true _ A10.out).mono ?_); rintro e w' ⟨rfl, ⟨nd, rfl⟩⟩; obtain ⟨hcz17_0, hcz17_1, hcz17_2⟩ := cz3_ BK501.out; obtain ⟨hfz17_0, hfz17_1, hfz17_2⟩ := fz3_ BK501.out) | (go_at_call 13; (with_reducible refine (spec_l03Bit.calls a0_2 a1 t508 _ A12.out).mono ?_); rintro e w' ⟨rfl, ⟨nd, rfl⟩⟩))
    go_meet
    case rel => exact ⟨_, (t508), (by first | rfl | (simp; done) | (simp [*]; done)), H', ⟨by first | omega | exact Nat.le_refl _⟩, ⟨kr_ HO504.out⟩, ⟨bk_ BK501.out⟩, ⟨hb1_ HB.out GE501.out⟩⟩
   ·replace c11 := Bool.eq_false_iff.mpr c11
    subst c11
    have H1 : (spec_LoopGaps.j0 k a1 y502 true a0_0 a0_1 a0_2) = some r := by rw [if_neg (show ¬ (false = true) by decide)] at H; exact H
    clear H
    have H := H1
    clear H1
    have H' := Aside0.mk H
    clear H
    obtain ⟨hcz18_0, hcz18_1, hcz18_2⟩ := cz3_ BK501.out
    obtain ⟨hfz18_0, hfz18_1, hfz18_2⟩ := fz3_ BK501.out
    go_wp2_with (first | (refine gl_ 13 Tryd.func23 #[.agg #[.int .i64 a0_0, .int .i64 a0_1, .int .i64 a0_2]] ?_; (with_reducible refine (spec_IsPerfect.calls k a0_0 a0_1 a0_2 true _ A7.out).mono ?_); rintro e w19 ⟨rfl, hb⟩; refine ⟨_, rfl, ?_⟩; replace HO504 := HO504.kb hb; replace BK501 := BK501.bb hb; replace HB := HB.s1 GE501 hb; (try clear hb); obtain ⟨hcz20_0, hcz20_1, hcz20_2⟩ := cz3_ BK501.out; obtain ⟨hfz20_0, hfz20_1, hfz20_2⟩ := fz3_ BK501.out) | (go_at_call 12; (with_reducible refine (spec_CountGaps.calls a0_0 a0_1 t506 _ A9.out).mono ?_); rintro e w21 ⟨rfl, hb⟩; replace HO504 := HO504.kb hb; replace BK501 := BK501.bb hb; replace HB := HB.s1 GE501 hb; (try clear hb)) | (go_at_call 26; (with_reducible refine (spec_l01In.calls a1 0 (wrap64 (t506 - 1)) false _ A10.out).mono ?_); rintro e w' ⟨rfl, ⟨nd, rfl⟩⟩))
    go_meet
    case rel => exact ⟨_, (true), (by first | rfl | (simp; done) | (simp [*]; done)), H', ⟨by first | omega | exact Nat.le_refl _⟩, ⟨kr_ HO504.out⟩, ⟨bk_ BK501.out⟩, ⟨hb1_ HB.out GE501.out⟩⟩
  ·replace c8 := Bool.eq_false_iff.mpr c8
   subst c8
   have H1 : (spec_LoopGaps.j0 k a1 y502 true a0_0 a0_1 a0_2) = some r := by rw [if_neg (show ¬ (false = true) by decide)] at H; exact H
   clear H
   have H := H1
   clear H1
   have H' := Aside0.mk H
   clear H
   obtain ⟨hcz22_0, hcz22_1, hcz22_2⟩ := cz3_ BK501.out
   obtain ⟨hfz22_0, hfz22_1, hfz22_2⟩ := fz3_ BK501.out
   go_wp2_with (first | (refine gl_ 13 Tryd.func23 #[.agg #[.int .i64 a0_0, .int .i64 a0_1, .int .i64 a0_2]] ?_; (with_reducible refine (spec_IsPerfect.calls k a0_0 a0_1 a0_2 false _ A7.out).mono ?_); rintro e w23 ⟨rfl, hb⟩; refine ⟨_, rfl, ?_⟩; replace HO504 := HO504.kb hb; replace BK501 := BK501.bb hb; replace HB := HB.s1 GE501 hb; (try clear hb)))
   go_meet
   case rel => exact ⟨_, (true), (by first | rfl | (simp; done) | (simp [*]; done)), H', ⟨by first | omega | exact Nat.le_refl _⟩, ⟨kr_ HO504.out⟩, ⟨bk_ BK501.out⟩, ⟨hb1_ HB.out GE501.out⟩⟩
 case rest =>
  clear HC3
  try clear c1
  try clear c2
  try clear p2
  try clear p6
  try clear c8
  try clear c11
  try clear c14
  try clear c23
  try clear hcz13_0
  try clear hcz13_1
  try clear hcz13_2
  try clear hcz15_0
  try clear hcz15_1
  try clear hcz15_2
  try clear hcz17_0
  try clear hcz17_1
  try clear hcz17_2
  try clear hcz18_0
  try clear hcz18_1
  try clear hcz18_2
  try clear hcz20_0
  try clear hcz20_1
  try clear hcz20_2
  try clear hcz22_0
  try clear hcz22_1
  try clear hcz22_2
  try clear hfz13_0
  try clear hfz13_1
  try clear hfz13_2
  try clear hfz15_0
  try clear hfz15_1
  try clear hfz15_2
  try clear hfz17_0
  try clear hfz17_1
  try clear hfz17_2
  try clear hfz18_0
  try clear hfz18_1
  try clear hfz18_2
  try clear hfz20_0
  try clear hfz20_1
  try clear hfz20_2
  try clear hfz22_0
  try clear hfz22_1
  try clear hfz22_2
  obtain ⟨kq, x29_2, rfl, HA, HJ2, HO_5, BK501, HB⟩ := hcut
  cases kq with
  | zero => exact absurd HA.out (by simp [spec_LoopGaps.j0])
  | succ kj2 =>
   have H := HA.out
   clear HA
   simp only [spec_LoopGaps.j0] at H
   by_cases c24 : x29_2 = true
   ·subst c24
    have H1 : (some y502) = some r := by rw [if_pos rfl] at H; exact H
    clear H
    have H := H1
    clear H1
    obtain rfl := Option.some.inj H
    go_wp2
    go_ret
    exact ⟨_, ex_, kr_ HO_5.out, hb1_ HB.out GE501.out⟩
   ·replace c24 := Bool.eq_false_iff.mpr c24
    subst c24
    have H1 : ((spec_EndsOf.f a0_0 a0_1 a1).bind fun bt509 => (spec_LoopGaps.l0 kj2 y502 bt509.1 bt509.2 0 a0_0 a0_1 a0_2)) = some r := by rw [if_neg (show ¬ (false = true) by decide)] at H; exact H
    clear H
    have H := H1
    clear H1
    replace H := Option.bind_eq_some_iff.mp H
    obtain ⟨⟨t509, t510⟩, A250, H⟩ := H
    replace H : (spec_LoopGaps.l0 kj2 y502 t509 t510 0 a0_0 a0_1 a0_2) = some r := H
    have A25 := Aside0.mk A250
    clear A250
    have H' := Aside0.mk H
    clear H
    obtain ⟨hcz26_0, hcz26_1, hcz26_2⟩ := cz3_ BK501.out
    obtain ⟨hfz26_0, hfz26_1, hfz26_2⟩ := fz3_ BK501.out
    go_wp2_with (first | (refine gl_ 35 Tryd.func27 #[.agg #[.int .i64 a0_0, .int .i64 a0_1], .int .i64 a1] ?_; (with_reducible refine (spec_EndsOf.calls a0_0 a0_1 a1 t509 t510 _ A25.out).mono ?_); rintro e w27 ⟨rfl, hb⟩; refine ⟨_, rfl, ?_⟩; replace HO_5 := HO_5.kb hb; replace BK501 := BK501.bb hb; replace HB := HB.s1 GE501 hb; (try clear hb)))
    go_loopg [5, 8] kj2 (fun kq v5 v8 w' => ∃ (x5_2 : List Int) (x8_2 : Int), v8 = .int .i64 x8_2 ∧ Aside0 (spec_LoopGaps.l0 kq x5_2 t509 t510 x8_2 a0_0 a0_1 a0_2 = some r) ∧ Aside0 (kq ≤ kj2) ∧ Aside0 (Kd.R (Kd.int .i64) 3 w' w.heap.size (fun _ => True) v5 x5_2) ∧ Aside0 (w'.heap[gb501]? = some (.cells #[.int .i64 a0_0, .int .i64 a0_1, .int .i64 a0_2] 28 (0, 0))) ∧ Aside0 (Below w.heap.size w w'))
    case atStart => exact ⟨(y502), (0), (by first | rfl | (simp; done) | (simp [*]; done)), H', ⟨Nat.le_refl _⟩, ⟨kr_ HO_5.out⟩, ⟨bk_ BK501.out⟩, ⟨hb1_ HB.out GE501.out⟩⟩
    case round =>
     clear H'
     try clear c1
     try clear c2
     try clear p2
     try clear p6
     try clear c8
     try clear c11
     try clear c14
     try clear c23
     try clear c24
     try clear c27
     try clear hcz13_0
     try clear hcz13_1
     try clear hcz13_2
     try clear hcz15_0
     try clear hcz15_1
     try clear hcz15_2
     try clear hcz17_0
     try clear hcz17_1
     try clear hcz17_2
     try clear hcz18_0
     try clear hcz18_1
     try clear hcz18_2
     try clear hcz20_0
     try clear hcz20_1
     try clear hcz20_2
     try clear hcz22_0
     try clear hcz22_1
     try clear hcz22_2
     try clear hcz26_0
     try clear hcz26_1
     try clear hcz26_2
     try clear hfz13_0
     try clear hfz13_1
     try clear hfz13_2
     try clear hfz15_0
     try clear hfz15_1
     try clear hfz15_2
     try clear hfz17_0
     try clear hfz17_1
     try clear hfz17_2
     try clear hfz18_0
     try clear hfz18_1
     try clear hfz18_2
     try clear hfz20_0
     try clear hfz20_1
     try clear hfz20_2
     try clear hfz22_0
     try clear hfz22_1
     try clear hfz22_2
     try clear hfz26_0
     try clear hfz26_1
     try clear hfz26_2
     try clear p2
     try clear p6
     obtain ⟨x5_2, x8_2, rfl, HA, HK2, HO_5, BK501, HB⟩ := hrel
     cases gk with
     | zero => exact absurd HA.out (by simp [spec_LoopGaps.l0])
     | succ k2 =>
      have H := HA.out
      clear HA
      simp only [spec_LoopGaps.l0] at H
      replace H := Option.bind_eq_some_iff.mp H
      obtain ⟨t511, A280, H⟩ := H
      replace H : (if x8_2 < t511 then ((spec_l03Bit.f a0_2 x8_2).bind fun t512 => (if t512 = true then ((spec_SetGap.f k2 a0_0 a0_1 a0_2 x8_2 false).bind fun bt513 => ((spec_DistanceOf.f k2 bt513.1 bt513.2.1 bt513.2.2.1 t509 t510).bind fun t518 => (if t518 < 0 then (if x5_2.length < 17592186044416 then (spec_LoopGaps.l0 k2 (x5_2 ++ [x8_2]) t509 t510 (wrap64 (x8_2 + 1)) a0_0 a0_1 a0_2) else (none)) else (spec_LoopGaps.l0 k2 x5_2 t509 t510 (wrap64 (x8_2 + 1)) a0_0 a0_1 a0_2)))) else (spec_LoopGaps.l0 k2 x5_2 t509 t510 (wrap64 (x8_2 + 1)) a0_0 a0_1 a0_2))) else (some x5_2)) = some r := H
      have A28 := Aside0.mk A280
      clear A280
      by_cases c29 : x8_2 < t511
      ·rw [if_pos c29] at H
       have c29b0 : decide (x8_2 < t511) = true := decide_eq_true c29
       clear c29
       replace H := Option.bind_eq_some_iff.mp H
       obtain ⟨t512, A300, H⟩ := H
       replace H : (if t512 = true then ((spec_SetGap.f k2 a0_0 a0_1 a0_2 x8_2 false).bind fun bt513 => ((spec_DistanceOf.f k2 bt513.1 bt513.2.1 bt513.2.2.1 t509 t510).bind fun t518 => (if t518 < 0 then (if x5_2.length < 17592186044416 then (spec_LoopGaps.l0 k2 (x5_2 ++ [x8_2]) t509 t510 (wrap64 (x8_2 + 1)) a0_0 a0_1 a0_2) else (none)) else (spec_LoopGaps.l0 k2 x5_2 t509 t510 (wrap64 (x8_2 + 1)) a0_0 a0_1 a0_2)))) else (spec_LoopGaps.l0 k2 x5_2 t509 t510 (wrap64 (x8_2 + 1)) a0_0 a0_1 a0_2)) = some r := H
       have A30 := Aside0.mk A300
       clear A300
       by_cases c31 : t512 = true
       ·subst c31
        have H1 : ((spec_SetGap.f k2 a0_0 a0_1 a0_2 x8_2 false).bind fun bt513 => ((spec_DistanceOf.f k2 bt513.1 bt513.2.1 bt513.2.2.1 t509 t510).bind fun t518 => (if t518 < 0 then (if x5_2.length < 17592186044416 then (spec_LoopGaps.l0 k2 (x5_2 ++ [x8_2]) t509 t510 (wrap64 (x8_2 + 1)) a0_0 a0_1 a0_2) else (none)) else (spec_LoopGaps.l0 k2 x5_2 t509 t510 (wrap64 (x8_2 + 1)) a0_0 a0_1 a0_2)))) = some r := by rw [if_pos rfl] at H; exact H
        clear H
        have H := H1
        clear H1
        replace H := Option.bind_eq_some_iff.mp H
        obtain ⟨⟨t513, t514, t515, t516⟩, A320, H⟩ := H
        replace H : ((spec_DistanceOf.f k2 t513 t514 t515 t509 t510).bind fun t518 => (if t518 < 0 then (if x5_2.length < 17592186044416 then (spec_LoopGaps.l0 k2 (x5_2 ++ [x8_2]) t509 t510 (wrap64 (x8_2 + 1)) a0_0 a0_1 a0_2) else (none)) else (spec_LoopGaps.l0 k2 x5_2 t509 t510 (wrap64 (x8_2 + 1)) a0_0 a0_1 a0_2))) = some r := H
        have A32 := Aside0.mk A320
        clear A320
        replace H := Option.bind_eq_some_iff.mp H
        obtain ⟨t518, A330, H⟩ := H
        replace H : (if t518 < 0 then (if x5_2.length < 17592186044416 then (spec_LoopGaps.l0 k2 (x5_2 ++ [x8_2]) t509 t510 (wrap64 (x8_2 + 1)) a0_0 a0_1 a0_2) else (none)) else (spec_LoopGaps.l0 k2 x5_2 t509 t510 (wrap64 (x8_2 + 1)) a0_0 a0_1 a0_2)) = some r := H
        have A33 := Aside0.mk A330
        clear A330
        by_cases c34 : t518 < 0
        ·rw [if_pos c34] at H
         have c34b0 : decide (t518 < 0) = true := decide_eq_true c34
         clear c34
         by_cases c35 : x5_2.length < 17592186044416
         ·rw [if_pos c35] at H
          have LMc35 := Aside0.mk c35
          clear c35
          obtain ⟨y519, hy519⟩ : ∃ y_ : List Int, y_ = (x5_2 ++ [x8_2]) := ⟨_, rfl⟩
          replace H : (spec_LoopGaps.l0 k2 y519 t509 t510 (wrap64 (x8_2 + 1)) a0_0 a0_1 a0_2) = some r := by first | (rw [hy519]; with_reducible exact H) | (have H2_ := (Option.bind_some _ _).symm.trans H; rw [hy519]; with_reducible exact H2_) | (have H2_ := (Option.bind_some _ _).symm.trans H; with_reducible exact H2_) | with_reducible exact H | (rw [hy519]; exact H) | exact H
          have Ny519 := Aside0.mk hy519
          clear hy519
          have H' := Aside0.mk H
          clear H
          obtain ⟨hcz36_0, hcz36_1, hcz36_2⟩ := cz3_ BK501.out
          obtain ⟨hfz36_0, hfz36_1, hfz36_2⟩ := fz3_ BK501.out
          go_wp2_with (first | (refine gl_ 41 Tryd.func12 #[.agg #[.int .i64 a0_0, .int .i64 a0_1]] ?_; (with_reducible refine (spec_CountGaps.calls a0_0 a0_1 t511 _ A28.out).mono ?_); rintro e w37 ⟨rfl, hb⟩; refine ⟨_, rfl, ?_⟩; replace HO_5 := HO_5.kb hb; replace BK501 := BK501.bb hb; replace HB := HB.s1 GE501 hb; (try clear hb); obtain ⟨hcz38_0, hcz38_1, hcz38_2⟩ := cz3_ BK501.out; obtain ⟨hfz38_0, hfz38_1, hfz38_2⟩ := fz3_ BK501.out) | (refine gl_ 48 Tryd.func13 #[.int .i64 a0_2, .int .i64 x8_2] ?_; (with_reducible refine (spec_l03Bit.calls a0_2 x8_2 true _ A30.out).mono ?_); rintro e w' ⟨rfl, ⟨nd, rfl⟩⟩; refine ⟨_, rfl, ?_⟩; (try (rw [drewN_self w37]; generalize hq_ : World.drewN w37 _ = w37; have n0_ : Aside0 (Kd.R (Kd.int .i64) 3 w37 w.heap.size (fun _ => True) u5 x5_2) := ⟨by rw [← hq_]; exact (kr_ HO_5.out)⟩; have n1_ : Aside0 (w37.heap[gb501]? = some (.cells #[.int .i64 a0_0, .int .i64 a0_1, .int .i64 a0_2] 28 (0, 0))) := ⟨by rw [← hq_]; exact (bk_ BK501.out)⟩; have n2_ : Aside0 (Below w.heap.size w w37) := ⟨by rw [← hq_]; exact (hb1_ HB.out GE501.out)⟩; clear HO_5 BK501 HB hq_; have HO_5 := n0_; have BK501 := n1_; have HB := n2_; clear n0_ n1_ n2_; obtain ⟨qa0_, qa1_, qa2_⟩ := cz3_ BK501.out; obtain ⟨qf0_, qf1_, qf2_⟩ := fz3_ BK501.out))) | (refine gl_ 53 Tryd.func28 #[.agg #[.int .i64 a0_0, .int .i64 a0_1, .int .i64 a0_2], .int .i64 x8_2, .bool false] ?_; (with_reducible refine (spec_SetGap.calls k2 a0_0 a0_1 a0_2 x8_2 false t513 t514 t515 t516 _ A32.out).mono ?_); rintro e w39 ⟨rfl, hb⟩; refine ⟨_, rfl, ?_⟩; replace HO_5 := HO_5.kb hb; replace BK501 := BK501.bb hb; replace HB := HB.s1 GE501 hb; (try clear hb)) | (refine box_ (N := 9) (cs := #[.int .i64 0, .int .i64 0, .int .i64 0]) (t := 28) ?_; intro gb517 hg w40 hbox hb; replace HO_5 := HO_5.kb hb; have BK517 := Aside0.mk (hbox); have GW517 := HB.g1 GE501 hg; have GE517 := HB.g1 GE501 hg; replace HB := HB.s1 GE501 hb; have NB501_517 := BK501.nl hg; have NB517_501 := BK501.nr hg; replace BK501 := BK501.bb hb; clear hb hbox hg; have hnb41 := NB517_501.out; have hnc41 := NB501_517.out; obtain ⟨hcz42_0, hcz42_1, hcz42_2⟩ := cz3_ BK517.out; obtain ⟨hfz42_0, hfz42_1, hfz42_2⟩ := fz3_ BK517.out) | (refine gl_ 59 Tryd.func29 #[.agg #[.int .i64 t513, .int .i64 t514, .int .i64 t515], .int .i64 t509, .int .i64 t510] ?_; (with_reducible refine (spec_DistanceOf.calls k2 t513 t514 t515 t509 t510 t518 _ A33.out).mono ?_); rintro e w43 ⟨rfl, hb⟩; refine ⟨_, rfl, ?_⟩; replace HO_5 := Aside0.mk (Kd.R_below (rq3_ HO_5.out BK517.out) hb); replace BK501 := Aside0.mk (blk_below (g := gb501) (o := .cells #[.int .i64 a0_0, .int .i64 a0_1, .int .i64 a0_2] 28 (0, 0)) (by (with_reducible repeat (first | refine blk_drewN ?_ _ | refine blk_drew ?_ | refine blk_alloc ?_ _)); refine blk_far ?_ NB501_517.out _; (with_reducible repeat (first | refine blk_drewN ?_ _ | refine blk_drew ?_ | refine blk_alloc ?_ _)); refine blk_far ?_ NB501_517.out _; (with_reducible repeat (first | refine blk_drewN ?_ _ | refine blk_drew ?_ | refine blk_alloc ?_ _)); refine blk_far ?_ NB501_517.out _; (with_reducible repeat (first | refine blk_drewN ?_ _ | refine blk_drew ?_ | refine blk_alloc ?_ _)); exact BK501.out) hb); replace BK517 := Aside0.mk (blk_below (bq3_ BK517.out) hb); replace HB := HB.s2 GE501 GE517 hb; (try clear hb)) | ((with_reducible refine gate_builtin (b := .append) (xs := #[.tmp 61, .tmp 63]) rfl ?_); at_builtin; refine Kd.R_append (Kd.int .i64) (w0 := w) w.heap.size rfl (.tmp 61) (.tmp 63) 37 3 (.int .i64 0) 8 rfl Tryd.underlying37 info3 rfl (by decide) (by omega) u5 x5_2 x8_2 [.int .i64 x8_2] (fun _ => True) (fun _ => False) rfl rfl ?aP (fun _ hk => hk.elim) ?aF ?aO ?aB ?aS ?aL ?_; (case aP => exact rfl); (case aB => exact (hb2_ HB.out GE501.out GE517.out)); (case aF => exact (fun _ _ => trivial)); (case aO => exact (kr_ HO_5.out)); (case aS => exact (below_size (hb2_ HB.out GE501.out GE517.out))); (case aL => have := LMc35.out; omega); intro v520 w44 ho hb hg hat; rw [← Ny519.out] at ho; replace BK501 := Aside0.mk (blk_grown (g := gb501) (o := .cells #[.int .i64 a0_0, .int .i64 a0_1, .int .i64 a0_2] 28 (0, 0)) (bk_ BK501.out) hg (Kd.R_ne HO_5.out BK501.out (by decide))); replace BK517 := Aside0.mk (blk_grown (g := gb517) (o := .cells #[.int .i64 t513, .int .i64 t514, .int .i64 t515] 28 (0, 0)) (bk_ BK517.out) hg (Kd.R_ne HO_5.out BK517.out (by decide))); replace HB := Aside0.mk (hb); have HO521 := Aside0.mk (ho); clear HO_5; clear ho hb hg hat))
          go_roundg k2
          case measure => have := HJ2.out; have := HK2.out; omega
          case rel => exact ⟨(y519), (wrap64 (x8_2 + 1)), (by first | rfl | (simp; done) | (simp [*]; done)), H', ⟨by have := HJ2.out; have := HK2.out; omega⟩, ⟨kr_ HO521.out⟩, ⟨bk_ BK501.out⟩, ⟨hb2_ HB.out GE501.out GE517.out⟩⟩
         ·rw [if_neg c35] at H
          exact absurd H (by simp)
        ·rw [if_neg c34] at H
         have c34b0 : decide (t518 < 0) = false := decide_eq_false c34
         clear c34
         have H' := Aside0.mk H
         clear H
         obtain ⟨hcz45_0, hcz45_1, hcz45_2⟩ := cz3_ BK501.out
         obtain ⟨hfz45_0, hfz45_1, hfz45_2⟩ := fz3_ BK501.out
         go_wp2_with (first | (refine gl_ 41 Tryd.func12 #[.agg #[.int .i64 a0_0, .int .i64 a0_1]] ?_; (with_reducible refine (spec_CountGaps.calls a0_0 a0_1 t511 _ A28.out).mono ?_); rintro e w46 ⟨rfl, hb⟩; refine ⟨_, rfl, ?_⟩; replace HO_5 := HO_5.kb hb; replace BK501 := BK501.bb hb; replace HB := HB.s1 GE501 hb; (try clear hb); obtain ⟨hcz47_0, hcz47_1, hcz47_2⟩ := cz3_ BK501.out; obtain ⟨hfz47_0, hfz47_1, hfz47_2⟩ := fz3_ BK501.out) | (refine gl_ 48 Tryd.func13 #[.int .i64 a0_2, .int .i64 x8_2] ?_; (with_reducible refine (spec_l03Bit.calls a0_2 x8_2 true _ A30.out).mono ?_); rintro e w' ⟨rfl, ⟨nd, rfl⟩⟩; refine ⟨_, rfl, ?_⟩; (try (rw [drewN_self w46]; generalize hq_ : World.drewN w46 _ = w46; have n0_ : Aside0 (Kd.R (Kd.int .i64) 3 w46 w.heap.size (fun _ => True) u5 x5_2) := ⟨by rw [← hq_]; exact (kr_ HO_5.out)⟩; have n1_ : Aside0 (w46.heap[gb501]? = some (.cells #[.int .i64 a0_0, .int .i64 a0_1, .int .i64 a0_2] 28 (0, 0))) := ⟨by rw [← hq_]; exact (bk_ BK501.out)⟩; have n2_ : Aside0 (Below w.heap.size w w46) := ⟨by rw [← hq_]; exact (hb1_ HB.out GE501.out)⟩; clear HO_5 BK501 HB hq_; have HO_5 := n0_; have BK501 := n1_; have HB := n2_; clear n0_ n1_ n2_; obtain ⟨qa0_, qa1_, qa2_⟩ := cz3_ BK501.out; obtain ⟨qf0_, qf1_, qf2_⟩ := fz3_ BK501.out))) | (refine gl_ 53 Tryd.func28 #[.agg #[.int .i64 a0_0, .int .i64 a0_1, .int .i64 a0_2], .int .i64 x8_2, .bool false] ?_; (with_reducible refine (spec_SetGap.calls k2 a0_0 a0_1 a0_2 x8_2 false t513 t514 t515 t516 _ A32.out).mono ?_); rintro e w48 ⟨rfl, hb⟩; refine ⟨_, rfl, ?_⟩; replace HO_5 := HO_5.kb hb; replace BK501 := BK501.bb hb; replace HB := HB.s1 GE501 hb; (try clear hb)) | (refine box_ (N := 9) (cs := #[.int .i64 0, .int .i64 0, .int .i64 0]) (t := 28) ?_; intro gb517 hg w49 hbox hb; replace HO_5 := HO_5.kb hb; have BK517 := Aside0.mk (hbox); have GW517 := HB.g1 GE501 hg; have GE517 := HB.g1 GE501 hg; replace HB := HB.s1 GE501 hb; have NB501_517 := BK501.nl hg; have NB517_501 := BK501.nr hg; replace BK501 := BK501.bb hb; clear hb hbox hg; have hnb50 := NB517_501.out; have hnc50 := NB501_517.out; obtain ⟨hcz51_0, hcz51_1, hcz51_2⟩ := cz3_ BK517.out; obtain ⟨hfz51_0, hfz51_1, hfz51_2⟩ := fz3_ BK517.out) | (refine gl_ 59 Tryd.func29 #[.agg #[.int .i64 t513, .int .i64 t514, .int .i64 t515], .int .i64 t509, .int .i64 t510] ?_; (with_reducible refine (spec_DistanceOf.calls k2 t513 t514 t515 t509 t510 t518 _ A33.out).mono ?_); rintro e w52 ⟨rfl, hb⟩; refine ⟨_, rfl, ?_⟩; replace HO_5 := Aside0.mk (Kd.R_below (rq3_ HO_5.out BK517.out) hb); replace BK501 := Aside0.mk (blk_below (g := gb501) (o := .cells #[.int .i64 a0_0, .int .i64 a0_1, .int .i64 a0_2] 28 (0, 0)) (by (with_reducible repeat (first | refine blk_drewN ?_ _ | refine blk_drew ?_ | refine blk_alloc ?_ _)); refine blk_far ?_ NB501_517.out _; (with_reducible repeat (first | refine blk_drewN ?_ _ | refine blk_drew ?_ | refine blk_alloc ?_ _)); refine blk_far ?_ NB501_517.out _; (with_reducible repeat (first | refine blk_drewN ?_ _ | refine blk_drew ?_ | refine blk_alloc ?_ _)); refine blk_far ?_ NB501_517.out _; (with_reducible repeat (first | refine blk_drewN ?_ _ | refine blk_drew ?_ | refine blk_alloc ?_ _)); exact BK501.out) hb); replace BK517 := Aside0.mk (blk_below (bq3_ BK517.out) hb); replace HB := HB.s2 GE501 GE517 hb; (try clear hb)))
         go_roundg k2
         case measure => have := HJ2.out; have := HK2.out; omega
         case rel => exact ⟨(x5_2), (wrap64 (x8_2 + 1)), (by first | rfl | (simp; done) | (simp [*]; done)), H', ⟨by have := HJ2.out; have := HK2.out; omega⟩, ⟨kr_ HO_5.out⟩, ⟨bk_ BK501.out⟩, ⟨hb2_ HB.out GE501.out GE517.out⟩⟩
       ·replace c31 := Bool.eq_false_iff.mpr c31
        subst c31
        have H1 : (spec_LoopGaps.l0 k2 x5_2 t509 t510 (wrap64 (x8_2 + 1)) a0_0 a0_1 a0_2) = some r := by rw [if_neg (show ¬ (false = true) by decide)] at H; exact H
        clear H
        have H := H1
        clear H1
        have H' := Aside0.mk H
        clear H
        obtain ⟨hcz53_0, hcz53_1, hcz53_2⟩ := cz3_ BK501.out
        obtain ⟨hfz53_0, hfz53_1, hfz53_2⟩ := fz3_ BK501.out
        go_wp2_with (first | (refine gl_ 41 Tryd.func12 #[.agg #[.int .i64 a0_0, .int .i64 a0_1]] ?_; (with_reducible refine (spec_CountGaps.calls a0_0 a0_1 t511 _ A28.out).mono ?_); rintro e w54 ⟨rfl, hb⟩; refine ⟨_, rfl, ?_⟩; replace HO_5 := HO_5.kb hb; replace BK501 := BK501.bb hb; replace HB := HB.s1 GE501 hb; (try clear hb); obtain ⟨hcz55_0, hcz55_1, hcz55_2⟩ := cz3_ BK501.out; obtain ⟨hfz55_0, hfz55_1, hfz55_2⟩ := fz3_ BK501.out) | (refine gl_ 48 Tryd.func13 #[.int .i64 a0_2, .int .i64 x8_2] ?_; (with_reducible refine (spec_l03Bit.calls a0_2 x8_2 false _ A30.out).mono ?_); rintro e w' ⟨rfl, ⟨nd, rfl⟩⟩; refine ⟨_, rfl, ?_⟩))
        go_roundg k2
        case measure => have := HJ2.out; have := HK2.out; omega
        case rel => exact ⟨(x5_2), (wrap64 (x8_2 + 1)), (by first | rfl | (simp; done) | (simp [*]; done)), H', ⟨by have := HJ2.out; have := HK2.out; omega⟩, ⟨kr_ HO_5.out⟩, ⟨bk_ BK501.out⟩, ⟨hb1_ HB.out GE501.out⟩⟩
      ·rw [if_neg c29] at H
       have c29b0 : decide (x8_2 < t511) = false := decide_eq_false c29
       clear c29
       obtain rfl := Option.some.inj H
       obtain ⟨hcz56_0, hcz56_1, hcz56_2⟩ := cz3_ BK501.out
       obtain ⟨hfz56_0, hfz56_1, hfz56_2⟩ := fz3_ BK501.out
       go_wp2_with (first | (refine gl_ 41 Tryd.func12 #[.agg #[.int .i64 a0_0, .int .i64 a0_1]] ?_; (with_reducible refine (spec_CountGaps.calls a0_0 a0_1 t511 _ A28.out).mono ?_); rintro e w57 ⟨rfl, hb⟩; refine ⟨_, rfl, ?_⟩; replace HO_5 := HO_5.kb hb; replace BK501 := BK501.bb hb; replace HB := HB.s1 GE501 hb; (try clear hb)))
       go_ret
       exact ⟨_, ex_, kr_ HO_5.out, hb1_ HB.out GE501.out⟩

/-! ### spec_SwapGaps: function 15 -/
def spec_SwapGaps.f (k : Nat) (a0_0 : Int) (a0_1 : Int) (a0_2 : Int) (a1 : Int) (a2 : Int) : Option (Int × Int × Int × Bool) := (spec_LoopGaps.f k a0_0 a0_1 a0_2 a1).bind fun t503 => ((spec_l07In.f k t503 a2).bind fun t506 => (if t506 = true then ((spec_SetGap.f k a0_0 a0_1 a0_2 a1 true).bind fun bt507 => ((spec_SetGap.f k bt507.1 bt507.2.1 bt507.2.2.1 a2 false).bind fun bt512 => (some (bt512.1, bt512.2.1, bt512.2.2.1, true)))) else (some (a0_0, a0_1, a0_2, false))))
theorem spec_SwapGaps.mono : ∀ a0 a1 a2 a3 a4 k, LeO (spec_SwapGaps.f k a0 a1 a2 a3 a4) (spec_SwapGaps.f (k + 1) a0 a1 a2 a3 a4) := by
 intro a0 a1 a2 a3 a4 k
 unfold spec_SwapGaps.f
 repeat' first
   | (with_reducible exact spec_LoopGaps.mono ..)
   | (with_reducible exact spec_SetGap.mono ..)
   | (with_reducible exact spec_l07In.mono ..)
   | (with_reducible first | exact lr_ _ | exact ln_ _ | refine li_ ?_ ?_ | refine lb_ ?_ fun _ => ?_)
   | exact spec_LoopGaps.mono ..
   | exact spec_SetGap.mono ..
   | exact spec_l07In.mono ..
   | exact ln_ _ | refine li_ ?_ ?_ | refine lb_ ?_ fun _ => ?_
set_option maxHeartbeats 8000000 in
set_option maxRecDepth 100000 in
theorem spec_SwapGaps.calls (k : Nat) (a0_0 : Int) (a0_1 : Int) (a0_2 : Int) (a1 : Int) (a2 : Int) (r1 : Int) (r2 : Int) (r3 : Int) (r4 : Bool) (w : World) (h : spec_SwapGaps.f k a0_0 a0_1 a0_2 a1 a2 = some (r1, r2, r3, r4)) :
  Calls Tryd.prog 15 #[.agg #[.int .i64 a0_0, .int .i64 a0_1, .int .i64 a0_2], .int .i64 a1, .int .i64 a2] w fun e w' => e = .returned (.tuple #[.agg #[.int .i64 r1, .int .i64 r2, .int .i64 r3], .bool r4]) ∧ Below w.heap.size w w' := by
 have hu28 := Tryd.underlying28
 have HB := Aside0.mk (Below.refl w.heap.size w)
 have H : ((spec_LoopGaps.f k a0_0 a0_1 a0_2 a1).bind fun t503 => ((spec_l07In.f k t503 a2).bind fun t506 => (if t506 = true then ((spec_SetGap.f k a0_0 a0_1 a0_2 a1 true).bind fun bt507 => ((spec_SetGap.f k bt507.1 bt507.2.1 bt507.2.2.1 a2 false).bind fun bt512 => (some (bt512.1, bt512.2.1, bt512.2.2.1, true)))) else (some (a0_0, a0_1, a0_2, false))))) = some (r1, r2, r3, r4) := h
 clear h
 replace H := Option.bind_eq_some_iff.mp H
 obtain ⟨t503, A40, H⟩ := H
 replace H : ((spec_l07In.f k t503 a2).bind fun t506 => (if t506 = true then ((spec_SetGap.f k a0_0 a0_1 a0_2 a1 true).bind fun bt507 => ((spec_SetGap.f k bt507.1 bt507.2.1 bt507.2.2.1 a2 false).bind fun bt512 => (some (bt512.1, bt512.2.1, bt512.2.2.1, true)))) else (some (a0_0, a0_1, a0_2, false)))) = some (r1, r2, r3, r4) := H
 have A4 := Aside0.mk A40
 clear A40
 replace H := Option.bind_eq_some_iff.mp H
 obtain ⟨t506, A50, H⟩ := H
 replace H : (if t506 = true then ((spec_SetGap.f k a0_0 a0_1 a0_2 a1 true).bind fun bt507 => ((spec_SetGap.f k bt507.1 bt507.2.1 bt507.2.2.1 a2 false).bind fun bt512 => (some (bt512.1, bt512.2.1, bt512.2.2.1, true)))) else (some (a0_0, a0_1, a0_2, false))) = some (r1, r2, r3, r4) := H
 have A5 := Aside0.mk A50
 clear A50
 by_cases c6 : t506 = true
 ·subst c6
  have H1 : ((spec_SetGap.f k a0_0 a0_1 a0_2 a1 true).bind fun bt507 => ((spec_SetGap.f k bt507.1 bt507.2.1 bt507.2.2.1 a2 false).bind fun bt512 => (some (bt512.1, bt512.2.1, bt512.2.2.1, true)))) = some (r1, r2, r3, r4) := by rw [if_pos rfl] at H; exact H
  clear H
  have H := H1
  clear H1
  replace H := Option.bind_eq_some_iff.mp H
  obtain ⟨⟨t507, t508, t509, t510⟩, A70, H⟩ := H
  replace H : ((spec_SetGap.f k t507 t508 t509 a2 false).bind fun bt512 => (some (bt512.1, bt512.2.1, bt512.2.2.1, true))) = some (r1, r2, r3, r4) := H
  have A7 := Aside0.mk A70
  clear A70
  replace H := Option.bind_eq_some_iff.mp H
  obtain ⟨⟨t512, t513, t514, t515⟩, A80, H⟩ := H
  replace H : (some (t512, t513, t514, true)) = some (r1, r2, r3, r4) := H
  have A8 := Aside0.mk A80
  clear A80
  simp only [Option.some.injEq, Prod.mk.injEq] at H
  obtain ⟨rfl, rfl, rfl, rfl⟩ := H
  go_enter Tryd.func15, Tryd.ntmps15
  go_wp2_with (first | (refine box_ (N := 3) (cs := #[.int .i64 a0_0, .int .i64 a0_1, .int .i64 a0_2]) (t := 28) ?_; intro gb501 hg w9 hbox hb; have BK501 := Aside0.mk (hbox); have GW501 := HB.g0 hg; have GE501 := HB.g0 hg; replace HB := HB.s0 hb; clear hb hbox hg) | (refine box_ (N := 6) (cs := #[.int .i64 0, .int .i64 0, .int .i64 0]) (t := 28) ?_; intro gb502 hg w10 hbox hb; have BK502 := Aside0.mk (hbox); have GW502 := HB.g1 GE501 hg; have GE502 := HB.g1 GE501 hg; replace HB := HB.s1 GE501 hb; have NB501_502 := BK501.nl hg; have NB502_501 := BK501.nr hg; replace BK501 := BK501.bb hb; clear hb hbox hg; have hnb11 := NB501_502.out; have hnc11 := NB502_501.out; obtain ⟨hcz12_0, hcz12_1, hcz12_2⟩ := cz3_ BK501.out; obtain ⟨hfz12_0, hfz12_1, hfz12_2⟩ := fz3_ BK501.out) | (refine gl_ 14 Tryd.func14 #[.agg #[.int .i64 a0_0, .int .i64 a0_1, .int .i64 a0_2], .int .i64 a1] ?_; (with_reducible refine (spec_LoopGaps.calls k a0_0 a0_1 a0_2 a1 t503 _ A4.out).mono ?_); rintro e w13 ⟨v504, rfl, ho0, hb⟩; refine ⟨_, rfl, ?_⟩; have HO505 := Aside0.mk (Kd.R_lower ho0 (below_size (hb2_ HB.out GE501.out GE502.out))); replace BK501 := BK501.bb hb; replace BK502 := BK502.bb hb; replace HB := HB.s2 GE501 GE502 hb; (try clear hb); (try clear ho0); obtain ⟨Ao14, co14, eo14⟩ := Kd.R_slice HO505.out; subst eo14) | (refine gl_ 16 Tryd.func30 #[.slice Ao14 t503.length co14, .int .i64 a2] ?_; (with_reducible refine (spec_l07In.calls k _ _ t503 a2 true _ ?side1 ?side2 A5.out).mono ?_); (case side1 => repeat (first | exact (Kd.R_reads' HO505.out).2.2 | (with_reducible refine Kd.C_alloc ?_ _) | (with_reducible refine Kd.C_drewN ?_ _) | (with_reducible refine Kd.C_drew ?_))); (case side2 => exact (Kd.R_reads' HO505.out).2.1); rintro e w' ⟨rfl, ⟨nd, rfl⟩⟩; refine ⟨_, rfl, ?_⟩; (try (rw [drewN_self w13]; generalize hq_ : World.drewN w13 _ = w13; have n0_ : Aside0 (Kd.R (Kd.int .i64) 3 w13 w.heap.size (fun _ => True) (.slice Ao14 t503.length co14) t503) := ⟨by rw [← hq_]; exact (kr_ HO505.out)⟩; have n1_ : Aside0 (w13.heap[gb501]? = some (.cells #[.int .i64 a0_0, .int .i64 a0_1, .int .i64 a0_2] 28 (0, 0))) := ⟨by rw [← hq_]; exact (bk_ BK501.out)⟩; have n2_ : Aside0 (w13.heap[gb502]? = some (.cells #[.int .i64 0, .int .i64 0, .int .i64 0] 28 (0, 0))) := ⟨by rw [← hq_]; exact (bk_ BK502.out)⟩; have n3_ : Aside0 (Below w.heap.size w w13) := ⟨by rw [← hq_]; exact (hb2_ HB.out GE501.out GE502.out)⟩; clear HO505 BK501 BK502 HB hq_; have HO505 := n0_; have BK501 := n1_; have BK502 := n2_; have HB := n3_; clear n0_ n1_ n2_ n3_)); obtain ⟨hcz15_0, hcz15_1, hcz15_2⟩ := cz3_ BK501.out; obtain ⟨hfz15_0, hfz15_1, hfz15_2⟩ := fz3_ BK501.out) | (refine gl_ 22 Tryd.func28 #[.agg #[.int .i64 a0_0, .int .i64 a0_1, .int .i64 a0_2], .int .i64 a1, .bool true] ?_; (with_reducible refine (spec_SetGap.calls k a0_0 a0_1 a0_2 a1 true t507 t508 t509 t510 _ A7.out).mono ?_); rintro e w16 ⟨rfl, hb⟩; refine ⟨_, rfl, ?_⟩; replace HO505 := HO505.kb hb; replace BK501 := BK501.bb hb; replace BK502 := BK502.bb hb; replace HB := HB.s2 GE501 GE502 hb; (try clear hb)) | (refine box_ (N := 8) (cs := #[.int .i64 0, .int .i64 0, .int .i64 0]) (t := 28) ?_; intro gb511 hg w17 hbox hb; replace HO505 := HO505.kb hb; have BK511 := Aside0.mk (hbox); have GW511 := HB.g2 GE501 GE502 hg; have GE511 := HB.g2 GE501 GE502 hg; replace HB := HB.s2 GE501 GE502 hb; have NB501_511 := BK501.nl hg; have NB511_501 := BK501.nr hg; replace BK501 := BK501.bb hb; have NB502_511 := BK502.nl hg; have NB511_502 := BK502.nr hg; replace BK502 := BK502.bb hb; clear hb hbox hg; have hnb18 := NB511_501.out; have hnc18 := NB501_511.out; have hnb19 := NB511_502.out; have hnc19 := NB502_511.out; obtain ⟨hcz20_0, hcz20_1, hcz20_2⟩ := cz3_ BK511.out; obtain ⟨hfz20_0, hfz20_1, hfz20_2⟩ := fz3_ BK511.out) | (refine gl_ 28 Tryd.func28 #[.agg #[.int .i64 t507, .int .i64 t508, .int .i64 t509], .int .i64 a2, .bool false] ?_; (with_reducible refine (spec_SetGap.calls k t507 t508 t509 a2 false t512 t513 t514 t515 _ A8.out).mono ?_); rintro e w21 ⟨rfl, hb⟩; refine ⟨_, rfl, ?_⟩; replace HO505 := Aside0.mk (Kd.R_below (rq3_ HO505.out BK511.out) hb); replace BK501 := Aside0.mk (blk_below (g := gb501) (o := .cells #[.int .i64 a0_0, .int .i64 a0_1, .int .i64 a0_2] 28 (0, 0)) (by (with_reducible repeat (first | refine blk_drewN ?_ _ | refine blk_drew ?_ | refine blk_alloc ?_ _)); refine blk_far ?_ NB501_511.out _; (with_reducible repeat (first | refine blk_drewN ?_ _ | refine blk_drew ?_ | refine blk_alloc ?_ _)); refine blk_far ?_ NB501_511.out _; (with_reducible repeat (first | refine blk_drewN ?_ _ | refine blk_drew ?_ | refine blk_alloc ?_ _)); refine blk_far ?_ NB501_511.out _; (with_reducible repeat (first | refine blk_drewN ?_ _ | refine blk_drew ?_ | refine blk_alloc ?_ _)); exact BK501.out) hb); replace BK502 := Aside0.mk (blk_below (g := gb502) (o := .cells #[.int .i64 0, .int .i64 0, .int .i64 0] 28 (0, 0)) (by (with_reducible repeat (first | refine blk_drewN ?_ _ | refine blk_drew ?_ | refine blk_alloc ?_ _)); refine blk_far ?_ NB502_511.out _; (with_reducible repeat (first | refine blk_drewN ?_ _ | refine blk_drew ?_ | refine blk_alloc ?_ _)); refine blk_far ?_ NB502_511.out _; (with_reducible repeat (first | refine blk_drewN ?_ _ | refine blk_drew ?_ | refine blk_alloc ?_ _)); refine blk_far ?_ NB502_511.out _; (with_reducible repeat (first | refine blk_drewN ?_ _ | refine blk_drew ?_ | refine blk_alloc ?_ _)); exact BK502.out) hb); replace BK511 := Aside0.mk (blk_below (bq3_ BK511.out) hb); replace HB := HB.s3 GE501 GE502 GE511 hb; (try clear hb)) | (refine box_ (N := 10) (cs := #[.int .i64 0, .int .i64 0, .int .i64 0]) (t := 28) ?_; intro gb516 hg w22 hbox hb; replace HO505 := HO505.kb hb; have BK516 := Aside0.mk (hbox); have GW516 := HB.g3 GE501 GE502 GE511 hg; have GE516 := HB.g3 GE501 GE502 GE511 hg; replace HB := HB.s3 GE501 GE502 GE511 hb; have NB501_516 := BK501.nl hg; have NB516_501 := BK501.nr hg; replace BK501 := BK501.bb hb; have NB502_516 := BK502.nl hg; have NB516_502 := BK502.nr hg; replace BK502 := BK502.bb hb; have NB511_516 := BK511.nl hg; have NB516_511 := BK511.nr hg; replace BK511 := BK511.bb hb; clear hb hbox hg; have hnb23 := NB516_501.out; have hnc23 := NB501_516.out; have hnb24 := NB516_502.out; have hnc24 := NB502_516.out; have hnb25 := NB516_511.out; have hnc25 := NB511_516.out; obtain ⟨hcz26_0, hcz26_1, hcz26_2⟩ := cz3_ BK516.out; obtain ⟨hfz26_0, hfz26_1, hfz26_2⟩ := fz3_ BK516.out; obtain ⟨hcz27_0, hcz27_1, hcz27_2⟩ := cz3_ BK502.out; obtain ⟨hfz27_0, hfz27_1, hfz27_2⟩ := fz3_ BK502.out))
  refine bodyPost_ret (results_ct rfl _ _ gb502 28 #[.int .i64 t512, .int .i64 t513, .int .i64 t514] (0, 0) _ rfl (by (with_reducible repeat (first | refine blk_drewN ?_ _ | refine blk_drew ?_ | refine blk_alloc ?_ _)); refine blk_put (cs := #[.int .i64 t512, .int .i64 t513, .int .i64 0]) ?_ 2 _ rfl; (with_reducible repeat (first | refine blk_drewN ?_ _ | refine blk_drew ?_ | refine blk_alloc ?_ _)); refine blk_put (cs := #[.int .i64 t512, .int .i64 0, .int .i64 0]) ?_ 1 _ rfl; (with_reducible repeat (first | refine blk_drewN ?_ _ | refine blk_drew ?_ | refine blk_alloc ?_ _)); refine blk_put (cs := #[.int .i64 0, .int .i64 0, .int .i64 0]) ?_ 0 _ rfl; (with_reducible repeat (first | refine blk_drewN ?_ _ | refine blk_drew ?_ | refine blk_alloc ?_ _)); refine blk_far ?_ NB502_516.out _; (with_reducible repeat (first | refine blk_drewN ?_ _ | refine blk_drew ?_ | refine blk_alloc ?_ _)); refine blk_far ?_ NB502_516.out _; (with_reducible repeat (first | refine blk_drewN ?_ _ | refine blk_drew ?_ | refine blk_alloc ?_ _)); refine blk_far ?_ NB502_516.out _; (with_reducible repeat (first | refine blk_drewN ?_ _ | refine blk_drew ?_ | refine blk_alloc ?_ _)); exact BK502.out) Tryd.underlying28 rfl (by kernel_rfl)) rfl ?_
  exact ⟨ex_, hb4_ HB.out GE501.out GE502.out GE511.out GE516.out⟩
 ·replace c6 := Bool.eq_false_iff.mpr c6
  subst c6
  have H1 : (some (a0_0, a0_1, a0_2, false)) = some (r1, r2, r3, r4) := by rw [if_neg (show ¬ (false = true) by decide)] at H; exact H
  clear H
  have H := H1
  clear H1
  simp only [Option.some.injEq, Prod.mk.injEq] at H
  obtain ⟨rfl, rfl, rfl, rfl⟩ := H
  go_enter Tryd.func15, Tryd.ntmps15
  go_wp2_with (first | (refine box_ (N := 3) (cs := #[.int .i64 a0_0, .int .i64 a0_1, .int .i64 a0_2]) (t := 28) ?_; intro gb501 hg w28 hbox hb; have BK501 := Aside0.mk (hbox); have GW501 := HB.g0 hg; have GE501 := HB.g0 hg; replace HB := HB.s0 hb; clear hb hbox hg) | (refine box_ (N := 6) (cs := #[.int .i64 0, .int .i64 0, .int .i64 0]) (t := 28) ?_; intro gb502 hg w29 hbox hb; have BK502 := Aside0.mk (hbox); have GW502 := HB.g1 GE501 hg; have GE502 := HB.g1 GE501 hg; replace HB := HB.s1 GE501 hb; have NB501_502 := BK501.nl hg; have NB502_501 := BK501.nr hg; replace BK501 := BK501.bb hb; clear hb hbox hg; have hnb30 := NB501_502.out; have hnc30 := NB502_501.out; obtain ⟨hcz31_0, hcz31_1, hcz31_2⟩ := cz3_ BK501.out; obtain ⟨hfz31_0, hfz31_1, hfz31_2⟩ := fz3_ BK501.out) | (refine gl_ 14 Tryd.func14 #[.agg #[.int .i64 a0_0, .int .i64 a0_1, .int .i64 a0_2], .int .i64 a1] ?_; (with_reducible refine (spec_LoopGaps.calls k a0_0 a0_1 a0_2 a1 t503 _ A4.out).mono ?_); rintro e w32 ⟨v504, rfl, ho0, hb⟩; refine ⟨_, rfl, ?_⟩; have HO505 := Aside0.mk (Kd.R_lower ho0 (below_size (hb2_ HB.out GE501.out GE502.out))); replace BK501 := BK501.bb hb; replace BK502 := BK502.bb hb; replace HB := HB.s2 GE501 GE502 hb; (try clear hb); (try clear ho0); obtain ⟨Ao33, co33, eo33⟩ := Kd.R_slice HO505.out; subst eo33) | (refine gl_ 16 Tryd.func30 #[.slice Ao33 t503.length co33, .int .i64 a2] ?_; (with_reducible refine (spec_l07In.calls k _ _ t503 a2 false _ ?side1 ?side2 A5.out).mono ?_); (case side1 => repeat (first | exact (Kd.R_reads' HO505.out).2.2 | (with_reducible refine Kd.C_alloc ?_ _) | (with_reducible refine Kd.C_drewN ?_ _) | (with_reducible refine Kd.C_drew ?_))); (case side2 => exact (Kd.R_reads' HO505.out).2.1); rintro e w' ⟨rfl, ⟨nd, rfl⟩⟩; refine ⟨_, rfl, ?_⟩; (try (rw [drewN_self w32]; generalize hq_ : World.drewN w32 _ = w32; have n0_ : Aside0 (Kd.R (Kd.int .i64) 3 w32 w.heap.size (fun _ => True) (.slice Ao33 t503.length co33) t503) := ⟨by rw [← hq_]; exact (kr_ HO505.out)⟩; have n1_ : Aside0 (w32.heap[gb501]? = some (.cells #[.int .i64 a0_0, .int .i64 a0_1, .int .i64 a0_2] 28 (0, 0))) := ⟨by rw [← hq_]; exact (bk_ BK501.out)⟩; have n2_ : Aside0 (w32.heap[gb502]? = some (.cells #[.int .i64 0, .int .i64 0, .int .i64 0] 28 (0, 0))) := ⟨by rw [← hq_]; exact (bk_ BK502.out)⟩; have n3_ : Aside0 (Below w.heap.size w w32) := ⟨by rw [← hq_]; exact (hb2_ HB.out GE501.out GE502.out)⟩; clear HO505 BK501 BK502 HB hq_; have HO505 := n0_; have BK501 := n1_; have BK502 := n2_; have HB := n3_; clear n0_ n1_ n2_ n3_)); obtain ⟨hcz34_0, hcz34_1, hcz34_2⟩ := cz3_ BK501.out; obtain ⟨hfz34_0, hfz34_1, hfz34_2⟩ := fz3_ BK501.out; obtain ⟨hcz35_0, hcz35_1, hcz35_2⟩ := cz3_ BK502.out; obtain ⟨hfz35_0, hfz35_1, hfz35_2⟩ := fz3_ BK502.out))
  refine bodyPost_ret (results_ct rfl _ _ gb502 28 #[.int .i64 a0_0, .int .i64 a0_1, .int .i64 a0_2] (0, 0) _ rfl (bq3_ BK502.out) Tryd.underlying28 rfl (by kernel_rfl)) rfl ?_
  exact ⟨ex_, hb2_ HB.out GE501.out GE502.out⟩

end Go.Proofs.YtbdodiaedocmjaaDoor.X
