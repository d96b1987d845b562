-- Written by a program of this session (xprint.py), out of the translation and of hand-written contracts. Lean checks it.
import Derived.Test.YtmcllgonjlapoaaX0
import Derived.Test.YtmcllgonjlapoaaXcgrid
import Derived.Test.YtmcllgonjlapoaaXcin
import Derived.Test.YtmcllgonjlapoaaXcmaze
import Derived.Test.YtmcllgonjlapoaaXspecl25Seen
namespace Go.Proofs.Ytmcllgonjlapoaa.X
open Go.RowKit Go.Proofs.YtmcllgonjlapoaaW.PrintWords Go.Proofs.YtmcllgonjlapoaaW.PrintLast Go.Proofs.YtmcllgonjlapoaaW.PrintMore
attribute [local go_sem] max2_int min2_int max_two min_two max_three min_three max_four min_four   -- for this text's walks alone
set_option linter.unusedVariables false
set_option linter.unusedSimpArgs false

/-! ### spec_SeenFrom: function 25 -/
def spec_SeenFrom.l0 : Nat → List Int → Int → Int → Int → Int → Int → Option (List Int)
 | 0, _, _, _, _, _, _ => none
 | k + 1, x5, x6, x7, x502000, x502001, x502002 => (spec_CountCells.f x502000 x502001).bind fun t507 => (if x7 < t507 then ((spec_l03Bit.f x6 x7).bind fun t508 => (if t508 = true then (if x5.length < 17592186044416 then (spec_SeenFrom.l0 k (x5 ++ [x7]) x6 (wrap64 (x7 + 1)) x502000 x502001 x502002) else (none)) else (spec_SeenFrom.l0 k x5 x6 (wrap64 (x7 + 1)) x502000 x502001 x502002))) else (some x5))
def spec_SeenFrom.f (k : Nat) (a0_0 : Int) (a0_1 : Int) (a0_2 : Int) (a1 : Int) : Option (List Int) := (some (([] : List Int) : List Int)).bind fun y502 => ((spec_l04Has.f a0_0 a0_1 a0_2 a1).bind fun t505 => (if t505 = true then ((spec_l25Seen.f k a0_0 a0_1 a0_2 a1).bind fun t506 => (spec_SeenFrom.l0 k y502 t506 0 a0_0 a0_1 a0_2)) else (some y502)))
theorem spec_SeenFrom.mono_l : ∀ k, (∀ y0 y1 y2 y3 y4 y5, LeO (spec_SeenFrom.l0 k y0 y1 y2 y3 y4 y5) (spec_SeenFrom.l0 (k + 1) y0 y1 y2 y3 y4 y5))
 | 0 => fun _ _ _ _ _ _ r h => by simp [spec_SeenFrom.l0] at h
 | k + 1 => by
  have ih0 := spec_SeenFrom.mono_l k
  ·intro y0 y1 y2 y3 y4 y5
   unfold spec_SeenFrom.l0
   repeat' first
   | (with_reducible exact ih0 ..)
   | (with_reducible exact spec_l25Seen.mono ..)
   | (with_reducible first | exact lr_ _ | exact ln_ _ | refine li_ ?_ ?_ | refine lb_ ?_ fun _ => ?_)
   | exact ih0 ..
   | exact spec_l25Seen.mono ..
   | exact ln_ _ | refine li_ ?_ ?_ | refine lb_ ?_ fun _ => ?_
theorem spec_SeenFrom.mono : ∀ a0 a1 a2 a3 k, LeO (spec_SeenFrom.f k a0 a1 a2 a3) (spec_SeenFrom.f (k + 1) a0 a1 a2 a3) := by
 intro a0 a1 a2 a3 k
 have ih0 := spec_SeenFrom.mono_l k
 unfold spec_SeenFrom.f
 repeat' first
   | (with_reducible exact ih0 ..)
   | (with_reducible exact spec_l25Seen.mono ..)
   | (with_reducible first | exact lr_ _ | exact ln_ _ | refine li_ ?_ ?_ | refine lb_ ?_ fun _ => ?_)
   | exact ih0 ..
   | exact spec_l25Seen.mono ..
   | exact ln_ _ | refine li_ ?_ ?_ | refine lb_ ?_ fun _ => ?_
set_option maxHeartbeats 8000000 in
set_option maxRecDepth 100000 in
theorem spec_SeenFrom.calls (k : Nat) (a0_0 : Int) (a0_1 : Int) (a0_2 : Int) (a1 : Int) (r : List Int) (w : World) (h : spec_SeenFrom.f k a0_0 a0_1 a0_2 a1 = some r) :
  Calls Try.prog 25 #[.agg #[.int .i64 a0_0, .int .i64 a0_1, .int .i64 a0_2], .int .i64 a1] w fun e w' => ∃ v0_ : Value, e = .returned (v0_) ∧ Kd.R (Kd.int .i64) 3 w' w.heap.size (fun _ => True) v0_ r ∧ Below w.heap.size w w' := by
 have hu30 := Try.underlying30
 have hu28 := Try.underlying28
 have HB := Aside0.mk (Below.refl w.heap.size w)
 have H : ((some (([] : List Int) : List Int)).bind fun y502 => ((spec_l04Has.f a0_0 a0_1 a0_2 a1).bind fun t505 => (if t505 = true then ((spec_l25Seen.f k a0_0 a0_1 a0_2 a1).bind fun t506 => (spec_SeenFrom.l0 k y502 t506 0 a0_0 a0_1 a0_2)) else (some y502)))) = some r := h
 clear h
 obtain ⟨y502, hy502⟩ : ∃ y_ : List Int, y_ = (([] : List Int)) := ⟨_, rfl⟩
 replace H : ((spec_l04Has.f a0_0 a0_1 a0_2 a1).bind fun t505 => (if t505 = true then ((spec_l25Seen.f k a0_0 a0_1 a0_2 a1).bind fun t506 => (spec_SeenFrom.l0 k y502 t506 0 a0_0 a0_1 a0_2)) else (some y502))) = some r := by first | (rw [hy502]; with_reducible exact H) | (have H2_ := (Option.bind_some _ _).symm.trans H; rw [hy502]; with_reducible exact H2_) | (have H2_ := (Option.bind_some _ _).symm.trans H; with_reducible exact H2_) | with_reducible exact H | (rw [hy502]; exact H) | exact H
 have Ny502 := Aside0.mk hy502
 clear hy502
 replace H := Option.bind_eq_some_iff.mp H
 obtain ⟨t505, A30, H⟩ := H
 replace H : (if t505 = true then ((spec_l25Seen.f k a0_0 a0_1 a0_2 a1).bind fun t506 => (spec_SeenFrom.l0 k y502 t506 0 a0_0 a0_1 a0_2)) else (some y502)) = some r := H
 have A3 := Aside0.mk A30
 clear A30
 by_cases c4 : t505 = true
 ·subst c4
  have H1 : ((spec_l25Seen.f k a0_0 a0_1 a0_2 a1).bind fun t506 => (spec_SeenFrom.l0 k y502 t506 0 a0_0 a0_1 a0_2)) = some r := by rw [if_pos rfl] at H; exact H
  clear H
  have H := H1
  clear H1
  replace H := Option.bind_eq_some_iff.mp H
  obtain ⟨t506, A50, H⟩ := H
  replace H : (spec_SeenFrom.l0 k y502 t506 0 a0_0 a0_1 a0_2) = some r := H
  have A5 := Aside0.mk A50
  clear A50
  have H' := Aside0.mk H
  clear H
  go_enter Try.func25, Try.ntmps25
  go_wp2_with (first | (refine box_ (N := 2) (cs := #[.int .i64 a0_0, .int .i64 a0_1, .int .i64 a0_2]) (t := 30) ?_; intro gb501 hg w6 hbox hb; have BK501 := Aside0.mk (hbox); have GW501 := HB.g0 hg; have GE501 := HB.g0 hg; replace HB := HB.s0 hb; clear hb hbox hg) | ((with_reducible refine gate_dst (N := 8) rfl ?_); refine Kd.R_lit (Kd.int .i64) _ 3 ?hg (N := 8) ?hd (xs := ([] : List Int)) (inner := []) (ok := fun _ => True) (okp := fun _ => True) ?hr ?hp (fun _ hk => hk) trivial (Below.refl _ _) (Nat.le_refl _) (by simp) ?_; (case hd => rfl); (case hg => rfl); (case hr => first | (go_simp; done) | (go_simp; rfl)); (case hp => exact (Reps.none _ _)); intro v503 w7 ho8 hb hg_ hnew_; clear hg_ hnew_; (first | rw [← Ny502.out] at ho8 | (simp only [Int.reduceToNat] at ho8; rw [← Ny502.out] at ho8)); have HO504 := Aside0.mk (Kd.R_lower ho8 (below_size (hb1_ HB.out GE501.out))); replace BK501 := BK501.bb hb; replace HB := HB.s1 GE501 hb; clear hb ho8; obtain ⟨hcz9_0, hcz9_1, hcz9_2⟩ := cz3_ BK501.out; obtain ⟨hfz9_0, hfz9_1, hfz9_2⟩ := fz3_ BK501.out) | (refine gl_ 11 Try.func49 #[.agg #[.int .i64 a0_0, .int .i64 a0_1, .int .i64 a0_2], .int .i64 a1] ?_; (with_reducible refine (spec_l04Has.calls a0_0 a0_1 a0_2 a1 true _ A3.out).mono ?_); rintro e w10 ⟨rfl, hb⟩; refine ⟨_, rfl, ?_⟩; replace HO504 := HO504.kb hb; replace BK501 := BK501.bb hb; replace HB := HB.s1 GE501 hb; (try clear hb); obtain ⟨hcz11_0, hcz11_1, hcz11_2⟩ := cz3_ BK501.out; obtain ⟨hfz11_0, hfz11_1, hfz11_2⟩ := fz3_ BK501.out) | (refine gl_ 16 Try.func60 #[.agg #[.int .i64 a0_0, .int .i64 a0_1, .int .i64 a0_2], .int .i64 a1] ?_; (with_reducible refine (spec_l25Seen.calls k a0_0 a0_1 a0_2 a1 t506 _ A5.out).mono ?_); rintro e w12 ⟨rfl, hb⟩; refine ⟨_, rfl, ?_⟩; replace HO504 := HO504.kb hb; replace BK501 := BK501.bb hb; replace HB := HB.s1 GE501 hb; (try clear hb)))
  go_loopg [5, 7] k (fun kq v5 v7 w' => ∃ (x5_1 : List Int) (x7_1 : Int), v7 = .int .i64 x7_1 ∧ Aside0 (spec_SeenFrom.l0 kq x5_1 t506 x7_1 a0_0 a0_1 a0_2 = some r) ∧ Aside0 (kq ≤ k) ∧ Aside0 (Kd.R (Kd.int .i64) 3 w' w.heap.size (fun _ => True) v5 x5_1) ∧ Aside0 (w'.heap[gb501]? = some (.cells #[.int .i64 a0_0, .int .i64 a0_1, .int .i64 a0_2] 30 (0, 0))) ∧ Aside0 (Below w.heap.size w w'))
  case atStart => exact ⟨(y502), (0), (by first | rfl | (simp; done) | (simp [*]; done)), H', ⟨Nat.le_refl _⟩, ⟨kr_ HO504.out⟩, ⟨bk_ BK501.out⟩, ⟨hb1_ HB.out GE501.out⟩⟩
  case round =>
   clear H'
   try clear c2
   try clear p2
   try clear c4
   try clear c6
   try clear hcz11_0
   try clear hcz11_1
   try clear hcz11_2
   try clear hcz9_0
   try clear hcz9_1
   try clear hcz9_2
   try clear hfz11_0
   try clear hfz11_1
   try clear hfz11_2
   try clear hfz9_0
   try clear hfz9_1
   try clear hfz9_2
   obtain ⟨x5_1, x7_1, rfl, HA, HK1, HO_5, BK501, HB⟩ := hrel
   cases gk with
   | zero => exact absurd HA.out (by simp [spec_SeenFrom.l0])
   | succ k1 =>
    have H := HA.out
    clear HA
    simp only [spec_SeenFrom.l0] at H
    replace H := Option.bind_eq_some_iff.mp H
    obtain ⟨t507, A130, H⟩ := H
    replace H : (if x7_1 < t507 then ((spec_l03Bit.f t506 x7_1).bind fun t508 => (if t508 = true then (if x5_1.length < 17592186044416 then (spec_SeenFrom.l0 k1 (x5_1 ++ [x7_1]) t506 (wrap64 (x7_1 + 1)) a0_0 a0_1 a0_2) else (none)) else (spec_SeenFrom.l0 k1 x5_1 t506 (wrap64 (x7_1 + 1)) a0_0 a0_1 a0_2))) else (some x5_1)) = some r := H
    have A13 := Aside0.mk A130
    clear A130
    by_cases c14 : x7_1 < t507
    ·rw [if_pos c14] at H
     have c14b0 : decide (x7_1 < t507) = true := decide_eq_true c14
     clear c14
     replace H := Option.bind_eq_some_iff.mp H
     obtain ⟨t508, A150, H⟩ := H
     replace H : (if t508 = true then (if x5_1.length < 17592186044416 then (spec_SeenFrom.l0 k1 (x5_1 ++ [x7_1]) t506 (wrap64 (x7_1 + 1)) a0_0 a0_1 a0_2) else (none)) else (spec_SeenFrom.l0 k1 x5_1 t506 (wrap64 (x7_1 + 1)) a0_0 a0_1 a0_2)) = some r := H
     have A15 := Aside0.mk A150
     clear A150
     by_cases c16 : t508 = true
     ·subst c16
      have H1 : (if x5_1.length < 17592186044416 then (spec_SeenFrom.l0 k1 (x5_1 ++ [x7_1]) t506 (wrap64 (x7_1 + 1)) a0_0 a0_1 a0_2) else (none)) = some r := by rw [if_pos rfl] at H; exact H
      clear H
      have H := H1
      clear H1
      by_cases c17 : x5_1.length < 17592186044416
      ·rw [if_pos c17] at H
       have LMc17 := Aside0.mk c17
       clear c17
       obtain ⟨y509, hy509⟩ : ∃ y_ : List Int, y_ = (x5_1 ++ [x7_1]) := ⟨_, rfl⟩
       replace H : (spec_SeenFrom.l0 k1 y509 t506 (wrap64 (x7_1 + 1)) a0_0 a0_1 a0_2) = some r := by first | (rw [hy509]; with_reducible exact H) | (have H2_ := (Option.bind_some _ _).symm.trans H; rw [hy509]; with_reducible exact H2_) | (have H2_ := (Option.bind_some _ _).symm.trans H; with_reducible exact H2_) | with_reducible exact H | (rw [hy509]; exact H) | exact H
       have Ny509 := Aside0.mk hy509
       clear hy509
       have H' := Aside0.mk H
       clear H
       obtain ⟨hcz18_0, hcz18_1, hcz18_2⟩ := cz3_ BK501.out
       obtain ⟨hfz18_0, hfz18_1, hfz18_2⟩ := fz3_ BK501.out
       go_wp2_with (first | (refine gl_ 20 Try.func39 #[.agg #[.int .i64 a0_0, .int .i64 a0_1]] ?_; (with_reducible refine (spec_CountCells.calls a0_0 a0_1 t507 _ A13.out).mono ?_); rintro e w19 ⟨rfl, hb⟩; refine ⟨_, rfl, ?_⟩; replace HO_5 := HO_5.kb hb; replace BK501 := BK501.bb hb; replace HB := HB.s1 GE501 hb; (try clear hb)) | (refine gl_ 26 Try.func61 #[.int .i64 t506, .int .i64 x7_1] ?_; (with_reducible refine (spec_l03Bit.calls t506 x7_1 true _ A15.out).mono ?_); rintro e w' ⟨rfl, ⟨nd, rfl⟩⟩; refine ⟨_, rfl, ?_⟩) | ((with_reducible refine gate_builtin (b := .append) (xs := #[.tmp 27, .tmp 29]) rfl ?_); at_builtin; refine Kd.R_append (Kd.int .i64) (w0 := w) w.heap.size rfl (.tmp 27) (.tmp 29) 26 3 (.int .i64 0) 8 rfl Try.underlying26 info3 rfl (by decide) (by omega) u5 x5_1 x7_1 [.int .i64 x7_1] (fun _ => True) (fun _ => False) rfl rfl ?aP (fun _ hk => hk.elim) ?aF ?aO ?aB ?aS ?aL ?_; (case aP => exact rfl); (case aB => exact (hb1_ HB.out GE501.out)); (case aF => exact (fun _ _ => trivial)); (case aO => exact (kr_ HO_5.out)); (case aS => exact (below_size (hb1_ HB.out GE501.out))); (case aL => have := LMc17.out; omega); intro v510 w20 ho hb hg hat; rw [← Ny509.out] at ho; replace BK501 := Aside0.mk (blk_grown (g := gb501) (o := .cells #[.int .i64 a0_0, .int .i64 a0_1, .int .i64 a0_2] 30 (0, 0)) (bk_ BK501.out) hg (Kd.R_ne HO_5.out BK501.out (by decide))); replace HB := Aside0.mk (hb); have HO511 := Aside0.mk (ho); clear HO_5; clear ho hb hg hat))
       go_roundg k1
       case measure => have := HK1.out; omega
       case rel => exact ⟨(y509), (wrap64 (x7_1 + 1)), (by first | rfl | (simp; done) | (simp [*]; done)), H', ⟨by have := HK1.out; omega⟩, ⟨kr_ HO511.out⟩, ⟨bk_ BK501.out⟩, ⟨hb1_ HB.out GE501.out⟩⟩
      ·rw [if_neg c17] at H
       exact absurd H (by simp)
     ·replace c16 := Bool.eq_false_iff.mpr c16
      subst c16
      have H1 : (spec_SeenFrom.l0 k1 x5_1 t506 (wrap64 (x7_1 + 1)) a0_0 a0_1 a0_2) = some r := by rw [if_neg (show ¬ (false = true) by decide)] at H; exact H
      clear H
      have H := H1
      clear H1
      have H' := Aside0.mk H
      clear H
      obtain ⟨hcz21_0, hcz21_1, hcz21_2⟩ := cz3_ BK501.out
      obtain ⟨hfz21_0, hfz21_1, hfz21_2⟩ := fz3_ BK501.out
      go_wp2_with (first | (refine gl_ 20 Try.func39 #[.agg #[.int .i64 a0_0, .int .i64 a0_1]] ?_; (with_reducible refine (spec_CountCells.calls a0_0 a0_1 t507 _ A13.out).mono ?_); rintro e w22 ⟨rfl, hb⟩; refine ⟨_, rfl, ?_⟩; replace HO_5 := HO_5.kb hb; replace BK501 := BK501.bb hb; replace HB := HB.s1 GE501 hb; (try clear hb)) | (refine gl_ 26 Try.func61 #[.int .i64 t506, .int .i64 x7_1] ?_; (with_reducible refine (spec_l03Bit.calls t506 x7_1 false _ A15.out).mono ?_); rintro e w' ⟨rfl, ⟨nd, rfl⟩⟩; refine ⟨_, rfl, ?_⟩))
      go_roundg k1
      case measure => have := HK1.out; omega
      case rel => exact ⟨(x5_1), (wrap64 (x7_1 + 1)), (by first | rfl | (simp; done) | (simp [*]; done)), H', ⟨by have := HK1.out; omega⟩, ⟨kr_ HO_5.out⟩, ⟨bk_ BK501.out⟩, ⟨hb1_ HB.out GE501.out⟩⟩
    ·rw [if_neg c14] at H
     have c14b0 : decide (x7_1 < t507) = false := decide_eq_false c14
     clear c14
     obtain rfl := Option.some.inj H
     obtain ⟨hcz23_0, hcz23_1, hcz23_2⟩ := cz3_ BK501.out
     obtain ⟨hfz23_0, hfz23_1, hfz23_2⟩ := fz3_ BK501.out
     go_wp2_with (first | (refine gl_ 20 Try.func39 #[.agg #[.int .i64 a0_0, .int .i64 a0_1]] ?_; (with_reducible refine (spec_CountCells.calls a0_0 a0_1 t507 _ A13.out).mono ?_); rintro e w24 ⟨rfl, hb⟩; refine ⟨_, rfl, ?_⟩; replace HO_5 := HO_5.kb hb; replace BK501 := BK501.bb hb; replace HB := HB.s1 GE501 hb; (try clear hb)))
     go_ret
     exact ⟨_, ex_, kr_ HO_5.out, hb1_ HB.out GE501.out⟩
 ·replace c4 := Bool.eq_false_iff.mpr c4
  subst c4
  have H1 : (some y502) = some r := by rw [if_neg (show ¬ (false = true) by decide)] at H; exact H
  clear H
  have H := H1
  clear H1
  obtain rfl := Option.some.inj H
  go_enter Try.func25, Try.ntmps25
  go_wp2_with (first | (refine box_ (N := 2) (cs := #[.int .i64 a0_0, .int .i64 a0_1, .int .i64 a0_2]) (t := 30) ?_; intro gb501 hg w25 hbox hb; have BK501 := Aside0.mk (hbox); have GW501 := HB.g0 hg; have GE501 := HB.g0 hg; replace HB := HB.s0 hb; clear hb hbox hg) | ((with_reducible refine gate_dst (N := 8) rfl ?_); refine Kd.R_lit (Kd.int .i64) _ 3 ?hg (N := 8) ?hd (xs := ([] : List Int)) (inner := []) (ok := fun _ => True) (okp := fun _ => True) ?hr ?hp (fun _ hk => hk) trivial (Below.refl _ _) (Nat.le_refl _) (by simp) ?_; (case hd => rfl); (case hg => rfl); (case hr => first | (go_simp; done) | (go_simp; rfl)); (case hp => exact (Reps.none _ _)); intro v503 w26 ho27 hb hg_ hnew_; clear hg_ hnew_; (first | rw [← Ny502.out] at ho27 | (simp only [Int.reduceToNat] at ho27; rw [← Ny502.out] at ho27)); have HO504 := Aside0.mk (Kd.R_lower ho27 (below_size (hb1_ HB.out GE501.out))); replace BK501 := BK501.bb hb; replace HB := HB.s1 GE501 hb; clear hb ho27; obtain ⟨hcz28_0, hcz28_1, hcz28_2⟩ := cz3_ BK501.out; obtain ⟨hfz28_0, hfz28_1, hfz28_2⟩ := fz3_ BK501.out) | (refine gl_ 11 Try.func49 #[.agg #[.int .i64 a0_0, .int .i64 a0_1, .int .i64 a0_2], .int .i64 a1] ?_; (with_reducible refine (spec_l04Has.calls a0_0 a0_1 a0_2 a1 false _ A3.out).mono ?_); rintro e w29 ⟨rfl, hb⟩; refine ⟨_, rfl, ?_⟩; replace HO504 := HO504.kb hb; replace BK501 := BK501.bb hb; replace HB := HB.s1 GE501 hb; (try clear hb)))
  go_ret
  exact ⟨_, ex_, kr_ HO504.out, hb1_ HB.out GE501.out⟩

end Go.Proofs.Ytmcllgonjlapoaa.X
