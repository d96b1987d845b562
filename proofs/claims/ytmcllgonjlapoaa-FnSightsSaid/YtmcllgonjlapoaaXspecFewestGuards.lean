-- Written by a program of this session (xprint.py), out of the translation and of hand-written contracts. Lean checks it.
import Derived.Test.YtmcllgonjlapoaaX0
import Derived.Test.YtmcllgonjlapoaaXcgrid
import Derived.Test.YtmcllgonjlapoaaXcmaze
import Derived.Test.YtmcllgonjlapoaaXspecl25Guards
import Derived.Test.YtmcllgonjlapoaaXspecl25Seen
namespace Go.Proofs.Ytmcllgonjlapoaa.X
open Go.RowKit Go.Proofs.YtmcllgonjlapoaaW.PrintWords Go.Proofs.YtmcllgonjlapoaaW.PrintLast Go.Proofs.YtmcllgonjlapoaaW.PrintMore
attribute [local go_sem] max2_int min2_int max_two min_two max_three min_three max_four min_four   -- for this text's walks alone
set_option linter.unusedVariables false
set_option linter.unusedSimpArgs false

/-! ### spec_FewestGuards: function 34 -/
mutual
def spec_FewestGuards.l0 : Nat → List Int → Int → Int → Int → Int → Option (List Int)
 | 0, _, _, _, _, _ => none
 | k + 1, x3, x4, x502000, x502001, x502002 => (spec_CountCells.f x502000 x502001).bind fun t509 => (if x4 < t509 then ((spec_l25Seen.f k x502000 x502001 x502002 x4).bind fun t510 => (if x3.length < 17592186044416 then (spec_FewestGuards.l0 k (x3 ++ [t510]) (wrap64 (x4 + 1)) x502000 x502001 x502002) else (none))) else (spec_FewestGuards.l1 k x3 1 x502000 x502001 x502002))
def spec_FewestGuards.l1 : Nat → List Int → Int → Int → Int → Int → Option (List Int)
 | 0, _, _, _, _, _ => none
 | k + 1, x3, x5, x502000, x502001, x502002 => if x5 < (x3.length : Int) then ((spec_l25Guards.f k x502000 x502001 x502002 x3 0 x5 (wrap64 ((shl .i64 1 (x3.length : Int)) - 1))).bind fun bt514 => (if bt514.2 = true then (some bt514.1) else (spec_FewestGuards.l1 k x3 (wrap64 (x5 + 1)) x502000 x502001 x502002))) else ((spec_l25Guards.f k x502000 x502001 x502002 x3 0 (x3.length : Int) (wrap64 ((shl .i64 1 (x3.length : Int)) - 1))).bind fun bt518 => (some bt518.1))
end
def spec_FewestGuards.f (k : Nat) (a0_0 : Int) (a0_1 : Int) (a0_2 : Int) : Option (List Int) := (spec_MazeOk.f a0_0 a0_1 a0_2).bind fun t502 => (if t502 = true then (spec_FewestGuards.l0 k (([] : List Int)) 0 a0_0 a0_1 a0_2) else (some (([] : List Int))))
theorem spec_FewestGuards.mono_l : ∀ k, (∀ y0 y1 y2 y3 y4, LeO (spec_FewestGuards.l0 k y0 y1 y2 y3 y4) (spec_FewestGuards.l0 (k + 1) y0 y1 y2 y3 y4)) ∧ (∀ y0 y1 y2 y3 y4, LeO (spec_FewestGuards.l1 k y0 y1 y2 y3 y4) (spec_FewestGuards.l1 (k + 1) y0 y1 y2 y3 y4))
 | 0 => ⟨fun _ _ _ _ _ r h => by simp [spec_FewestGuards.l0] at h, fun _ _ _ _ _ r h => by simp [spec_FewestGuards.l1] at h⟩
 | k + 1 => by
  obtain ⟨ih0, ih1⟩ := spec_FewestGuards.mono_l k
  refine ⟨?_, ?_⟩
  ·intro y0 y1 y2 y3 y4
   unfold spec_FewestGuards.l0
   repeat' first
   | (with_reducible exact ih0 ..)
   | (with_reducible exact ih1 ..)
   | (with_reducible exact spec_l25Guards.mono ..)
   | (with_reducible exact spec_l25Seen.mono ..)
   | (with_reducible first | exact lr_ _ | exact ln_ _ | refine li_ ?_ ?_ | refine lb_ ?_ fun _ => ?_)
   | exact ih0 ..
   | exact ih1 ..
   | exact spec_l25Guards.mono ..
   | exact spec_l25Seen.mono ..
   | exact ln_ _ | refine li_ ?_ ?_ | refine lb_ ?_ fun _ => ?_
  ·intro y0 y1 y2 y3 y4
   unfold spec_FewestGuards.l1
   repeat' first
   | (with_reducible exact ih0 ..)
   | (with_reducible exact ih1 ..)
   | (with_reducible exact spec_l25Guards.mono ..)
   | (with_reducible exact spec_l25Seen.mono ..)
   | (with_reducible first | exact lr_ _ | exact ln_ _ | refine li_ ?_ ?_ | refine lb_ ?_ fun _ => ?_)
   | exact ih0 ..
   | exact ih1 ..
   | exact spec_l25Guards.mono ..
   | exact spec_l25Seen.mono ..
   | exact ln_ _ | refine li_ ?_ ?_ | refine lb_ ?_ fun _ => ?_
theorem spec_FewestGuards.mono : ∀ a0 a1 a2 k, LeO (spec_FewestGuards.f k a0 a1 a2) (spec_FewestGuards.f (k + 1) a0 a1 a2) := by
 intro a0 a1 a2 k
 obtain ⟨ih0, ih1⟩ := spec_FewestGuards.mono_l k
 unfold spec_FewestGuards.f
 repeat' first
   | (with_reducible exact ih0 ..)
   | (with_reducible exact ih1 ..)
   | (with_reducible exact spec_l25Guards.mono ..)
   | (with_reducible exact spec_l25Seen.mono ..)
   | (with_reducible first | exact lr_ _ | exact ln_ _ | refine li_ ?_ ?_ | refine lb_ ?_ fun _ => ?_)
   | exact ih0 ..
   | exact ih1 ..
   | exact spec_l25Guards.mono ..
   | exact spec_l25Seen.mono ..
   | exact ln_ _ | refine li_ ?_ ?_ | refine lb_ ?_ fun _ => ?_
def spec_FewestGuards.T11 : Bool × List (List Nat × List Nat) := (true, [([], []), ([], []), ([], []), ([], []), ([3], [3]), ([4], [4]), ([5], [5]), ([0, 1, 2, 6], [0, 1, 2, 6]), ([7], [7]), ([8], [8]), ([8], [8]), ([9, 7, 0, 1, 2, 3, 4, 5, 6, 7, 8, 9], [9]), ([10, 11, 0, 1, 2, 3, 4, 5, 6, 7, 8, 9, 10, 11], [10])])
def spec_FewestGuards.B11 : List Nat := [0, 0, 0, 0, 8, 24, 56, 127, 255, 511, 511, 1023, 4095]
theorem spec_FewestGuards.tab11 : rtab .any (opsOf Try.f34 11) = spec_FewestGuards.T11 := by kernel_rfl
theorem spec_FewestGuards.bits11 : waitsOk spec_FewestGuards.T11.2 spec_FewestGuards.B11 = true := by kernel_rfl
def spec_FewestGuards.T14 : Bool × List (List Nat × List Nat) := (true, [([], []), ([], []), ([], []), ([2], [2]), ([], []), ([4], [4]), ([5], [5]), ([6], [6]), ([0, 1, 3, 7], [0, 1, 3, 7]), ([8], [8]), ([9], [9]), ([9], [9]), ([10, 8, 0, 1, 2, 3, 4, 5, 6, 7, 8, 9, 10], [10]), ([11, 12, 0, 1, 2, 3, 4, 5, 6, 7, 8, 9, 10, 11, 12], [11])])
def spec_FewestGuards.B14 : List Nat := [0, 0, 0, 4, 0, 16, 48, 112, 255, 511, 1023, 1023, 2047, 8191]
theorem spec_FewestGuards.tab14 : rtab .any (opsOf Try.f34 14) = spec_FewestGuards.T14 := by kernel_rfl
theorem spec_FewestGuards.bits14 : waitsOk spec_FewestGuards.T14.2 spec_FewestGuards.B14 = true := by kernel_rfl
set_option maxHeartbeats 8000000 in
set_option maxRecDepth 100000 in
theorem spec_FewestGuards.calls (k : Nat) (a0_0 : Int) (a0_1 : Int) (a0_2 : Int) (r : List Int) (w : World) (h : spec_FewestGuards.f k a0_0 a0_1 a0_2 = some r) :
  Calls Try.prog 34 #[.agg #[.int .i64 a0_0, .int .i64 a0_1, .int .i64 a0_2]] w fun e w' => ∃ v0_ : Value, e = .returned (v0_) ∧ Kd.R (Kd.int .i64) 3 w' w.heap.size (fun _ => True) v0_ r ∧ Below w.heap.size w w' := by
 have hu30 := Try.underlying30
 have hu28 := Try.underlying28
 have HB := Aside0.mk (Below.refl w.heap.size w)
 have H : ((spec_MazeOk.f a0_0 a0_1 a0_2).bind fun t502 => (if t502 = true then (spec_FewestGuards.l0 k (([] : List Int)) 0 a0_0 a0_1 a0_2) else (some (([] : List Int))))) = some r := h
 clear h
 replace H := Option.bind_eq_some_iff.mp H
 obtain ⟨t502, A20, H⟩ := H
 replace H : (if t502 = true then (spec_FewestGuards.l0 k (([] : List Int)) 0 a0_0 a0_1 a0_2) else (some (([] : List Int)))) = some r := H
 have A2 := Aside0.mk A20
 clear A20
 by_cases c3 : t502 = true
 ·subst c3
  have H1 : (spec_FewestGuards.l0 k (([] : List Int)) 0 a0_0 a0_1 a0_2) = some r := by rw [if_pos rfl] at H; exact H
  clear H
  have H := H1
  clear H1
  obtain ⟨y506, hy506⟩ : ∃ y_ : List Int, y_ = (([] : List Int)) := ⟨_, rfl⟩
  replace H : (spec_FewestGuards.l0 k y506 0 a0_0 a0_1 a0_2) = some r := by first | (rw [hy506]; with_reducible exact H) | (have H2_ := (Option.bind_some _ _).symm.trans H; rw [hy506]; with_reducible exact H2_) | (have H2_ := (Option.bind_some _ _).symm.trans H; with_reducible exact H2_) | with_reducible exact H | (rw [hy506]; exact H) | exact H
  have Ny506 := Aside0.mk hy506
  clear hy506
  have H' := Aside0.mk H
  clear H
  go_enter Try.func34, Try.ntmps34
  go_wp2_with (first | (refine box_ (N := 1) (cs := #[.int .i64 a0_0, .int .i64 a0_1, .int .i64 a0_2]) (t := 30) ?_; intro gb501 hg w4 hbox hb; have BK501 := Aside0.mk (hbox); have GW501 := HB.g0 hg; have GE501 := HB.g0 hg; replace HB := HB.s0 hb; clear hb hbox hg; obtain ⟨hcz5_0, hcz5_1, hcz5_2⟩ := cz3_ BK501.out; obtain ⟨hfz5_0, hfz5_1, hfz5_2⟩ := fz3_ BK501.out) | (refine gl_ 11 Try.func51 #[.agg #[.int .i64 a0_0, .int .i64 a0_1, .int .i64 a0_2]] ?_; (with_reducible refine (spec_MazeOk.calls a0_0 a0_1 a0_2 true _ A2.out).mono ?_); rintro e w6 ⟨rfl, hb⟩; refine ⟨_, rfl, ?_⟩; replace BK501 := BK501.bb hb; replace HB := HB.s1 GE501 hb; (try clear hb)) | ((with_reducible refine gate_dst (N := 14) rfl ?_); refine Kd.R_lit (Kd.int .i64) _ 3 ?hg (N := 14) ?hd (xs := ([] : List Int)) (inner := []) (ok := fun _ => True) (okp := fun _ => True) ?hr ?hp (fun _ hk => hk) trivial (Below.refl _ _) (Nat.le_refl _) (by simp) ?_; (case hd => rfl); (case hg => rfl); (case hr => first | (go_simp; done) | (go_simp; rfl)); (case hp => exact (Reps.none _ _)); intro v507 w7 ho8 hb hg_ hnew_; clear hg_ hnew_; (first | rw [← Ny506.out] at ho8 | (simp only [Int.reduceToNat] at ho8; rw [← Ny506.out] at ho8)); have HO508 := Aside0.mk (Kd.R_lower ho8 (below_size (hb1_ HB.out GE501.out))); replace BK501 := BK501.bb hb; replace HB := HB.s1 GE501 hb; clear hb ho8))
  go_loopg [3, 4] k (fun kq v3 v4 w' => ∃ (x3_1 : List Int) (x4_1 : Int), v4 = .int .i64 x4_1 ∧ Aside0 (spec_FewestGuards.l0 kq x3_1 x4_1 a0_0 a0_1 a0_2 = some r) ∧ Aside0 (kq ≤ k) ∧ Aside0 (Kd.R (Kd.int .i64) 3 w' w.heap.size (fun _ => True) v3 x3_1) ∧ Aside0 (w'.heap[gb501]? = some (.cells #[.int .i64 a0_0, .int .i64 a0_1, .int .i64 a0_2] 30 (0, 0))) ∧ Aside0 (Below w.heap.size w w'))
  case atStart => exact ⟨(y506), (0), (by first | rfl | (simp; done) | (simp [*]; done)), H', ⟨Nat.le_refl _⟩, ⟨kr_ HO508.out⟩, ⟨bk_ BK501.out⟩, ⟨hb1_ HB.out GE501.out⟩⟩
  case round =>
   clear H'
   try clear p2
   try clear c3
   try clear c5
   try clear hcz5_0
   try clear hcz5_1
   try clear hcz5_2
   try clear hfz5_0
   try clear hfz5_1
   try clear hfz5_2
   obtain ⟨x3_1, x4_1, rfl, HA, HK1, HO_3, BK501, HB⟩ := hrel
   cases gk with
   | zero => exact absurd HA.out (by simp [spec_FewestGuards.l0])
   | succ k1 =>
    have H := HA.out
    clear HA
    simp only [spec_FewestGuards.l0] at H
    replace H := Option.bind_eq_some_iff.mp H
    obtain ⟨t509, A90, H⟩ := H
    replace H : (if x4_1 < t509 then ((spec_l25Seen.f k1 a0_0 a0_1 a0_2 x4_1).bind fun t510 => (if x3_1.length < 17592186044416 then (spec_FewestGuards.l0 k1 (x3_1 ++ [t510]) (wrap64 (x4_1 + 1)) a0_0 a0_1 a0_2) else (none))) else (spec_FewestGuards.l1 k1 x3_1 1 a0_0 a0_1 a0_2)) = some r := H
    have A9 := Aside0.mk A90
    clear A90
    by_cases c10 : x4_1 < t509
    ·rw [if_pos c10] at H
     have c10b0 : decide (x4_1 < t509) = true := decide_eq_true c10
     clear c10
     replace H := Option.bind_eq_some_iff.mp H
     obtain ⟨t510, A110, H⟩ := H
     replace H : (if x3_1.length < 17592186044416 then (spec_FewestGuards.l0 k1 (x3_1 ++ [t510]) (wrap64 (x4_1 + 1)) a0_0 a0_1 a0_2) else (none)) = some r := H
     have A11 := Aside0.mk A110
     clear A110
     by_cases c12 : x3_1.length < 17592186044416
     ·rw [if_pos c12] at H
      have LMc12 := Aside0.mk c12
      clear c12
      obtain ⟨y511, hy511⟩ : ∃ y_ : List Int, y_ = (x3_1 ++ [t510]) := ⟨_, rfl⟩
      replace H : (spec_FewestGuards.l0 k1 y511 (wrap64 (x4_1 + 1)) a0_0 a0_1 a0_2) = some r := by first | (rw [hy511]; with_reducible exact H) | (have H2_ := (Option.bind_some _ _).symm.trans H; rw [hy511]; with_reducible exact H2_) | (have H2_ := (Option.bind_some _ _).symm.trans H; with_reducible exact H2_) | with_reducible exact H | (rw [hy511]; exact H) | exact H
      have Ny511 := Aside0.mk hy511
      clear hy511
      have H' := Aside0.mk H
      clear H
      obtain ⟨hcz13_0, hcz13_1, hcz13_2⟩ := cz3_ BK501.out
      obtain ⟨hfz13_0, hfz13_1, hfz13_2⟩ := fz3_ BK501.out
      go_wp2_with (first | (refine gl_ 18 Try.func39 #[.agg #[.int .i64 a0_0, .int .i64 a0_1]] ?_; (with_reducible refine (spec_CountCells.calls a0_0 a0_1 t509 _ A9.out).mono ?_); rintro e w14 ⟨rfl, hb⟩; refine ⟨_, rfl, ?_⟩; replace HO_3 := HO_3.kb hb; replace BK501 := BK501.bb hb; replace HB := HB.s1 GE501 hb; (try clear hb); obtain ⟨hcz15_0, hcz15_1, hcz15_2⟩ := cz3_ BK501.out; obtain ⟨hfz15_0, hfz15_1, hfz15_2⟩ := fz3_ BK501.out) | (refine gl_ 25 Try.func60 #[.agg #[.int .i64 a0_0, .int .i64 a0_1, .int .i64 a0_2], .int .i64 x4_1] ?_; (with_reducible refine (spec_l25Seen.calls k1 a0_0 a0_1 a0_2 x4_1 t510 _ A11.out).mono ?_); rintro e w16 ⟨rfl, hb⟩; refine ⟨_, rfl, ?_⟩; replace HO_3 := HO_3.kb hb; replace BK501 := BK501.bb hb; replace HB := HB.s1 GE501 hb; (try clear hb)) | ((with_reducible refine gate_builtin (b := .append) (xs := #[.tmp 22, .tmp 26]) rfl ?_); at_builtin; refine Kd.R_append (Kd.int .i64) (w0 := w) w.heap.size rfl (.tmp 22) (.tmp 26) 26 3 (.int .i64 0) 8 rfl Try.underlying26 info3 rfl (by decide) (by omega) u3 x3_1 t510 [.int .i64 t510] (fun _ => True) (fun _ => False) rfl rfl ?aP (fun _ hk => hk.elim) ?aF ?aO ?aB ?aS ?aL ?_; (case aP => exact rfl); (case aB => exact (hb1_ HB.out GE501.out)); (case aF => exact (fun _ _ => trivial)); (case aO => exact (kr_ HO_3.out)); (case aS => exact (below_size (hb1_ HB.out GE501.out))); (case aL => have := LMc12.out; omega); intro v512 w17 ho hb hg hat; rw [← Ny511.out] at ho; replace BK501 := Aside0.mk (blk_grown (g := gb501) (o := .cells #[.int .i64 a0_0, .int .i64 a0_1, .int .i64 a0_2] 30 (0, 0)) (bk_ BK501.out) hg (Kd.R_ne HO_3.out BK501.out (by decide))); replace HB := Aside0.mk (hb); have HO513 := Aside0.mk (ho); clear HO_3; clear ho hb hg hat))
      go_roundg k1
      case measure => have := HK1.out; omega
      case rel => exact ⟨(y511), (wrap64 (x4_1 + 1)), (by first | rfl | (simp; done) | (simp [*]; done)), H', ⟨by have := HK1.out; omega⟩, ⟨kr_ HO513.out⟩, ⟨bk_ BK501.out⟩, ⟨hb1_ HB.out GE501.out⟩⟩
     ·rw [if_neg c12] at H
      exact absurd H (by simp)
    ·rw [if_neg c10] at H
     have c10b0 : decide (x4_1 < t509) = false := decide_eq_false c10
     clear c10
     have H' := Aside0.mk H
     clear H
     obtain ⟨hcz18_0, hcz18_1, hcz18_2⟩ := cz3_ BK501.out
     obtain ⟨hfz18_0, hfz18_1, hfz18_2⟩ := fz3_ BK501.out
     go_wp2_with (first | (refine gl_ 18 Try.func39 #[.agg #[.int .i64 a0_0, .int .i64 a0_1]] ?_; (with_reducible refine (spec_CountCells.calls a0_0 a0_1 t509 _ A9.out).mono ?_); rintro e w19 ⟨rfl, hb⟩; refine ⟨_, rfl, ?_⟩; replace HO_3 := HO_3.kb hb; replace BK501 := BK501.bb hb; replace HB := HB.s1 GE501 hb; (try clear hb)))
     go_loopg [5] k1 (fun kq v5 w' => ∃ (x5_2 : Int), v5 = .int .i64 x5_2 ∧ Aside0 (spec_FewestGuards.l1 kq x3_1 x5_2 a0_0 a0_1 a0_2 = some r) ∧ Aside0 (kq ≤ k1) ∧ Aside0 (Kd.R (Kd.int .i64) 3 w' w.heap.size (fun _ => True) u3 x3_1) ∧ Aside0 (w'.heap[gb501]? = some (.cells #[.int .i64 a0_0, .int .i64 a0_1, .int .i64 a0_2] 30 (0, 0))) ∧ Aside0 (Below w.heap.size w w'))
     case atStart => exact ⟨(1), (by first | rfl | (simp; done) | (simp [*]; done)), H', ⟨Nat.le_refl _⟩, ⟨kr_ HO_3.out⟩, ⟨bk_ BK501.out⟩, ⟨hb1_ HB.out GE501.out⟩⟩
     case round =>
      clear H'
      try clear c1
      try clear p2
      try clear c3
      try clear c5
      try clear c6
      try clear p6
      try clear c10
      try clear c10b0
      try clear c12
      try clear hcz13_0
      try clear hcz13_1
      try clear hcz13_2
      try clear hcz15_0
      try clear hcz15_1
      try clear hcz15_2
      try clear hcz18_0
      try clear hcz18_1
      try clear hcz18_2
      try clear hcz5_0
      try clear hcz5_1
      try clear hcz5_2
      try clear hfz13_0
      try clear hfz13_1
      try clear hfz13_2
      try clear hfz15_0
      try clear hfz15_1
      try clear hfz15_2
      try clear hfz18_0
      try clear hfz18_1
      try clear hfz18_2
      try clear hfz5_0
      try clear hfz5_1
      try clear hfz5_2
      try clear p2
      obtain ⟨x5_2, rfl, HA, HK2, HO_3, BK501, HB⟩ := hrel
      cases gk with
      | zero => exact absurd HA.out (by simp [spec_FewestGuards.l1])
      | succ k2 =>
       have H := HA.out
       clear HA
       simp only [spec_FewestGuards.l1] at H
       by_cases c20 : x5_2 < (x3_1.length : Int)
       ·rw [if_pos c20] at H
        have c20b0 : decide (x5_2 < (x3_1.length : Int)) = true := decide_eq_true c20
        clear c20
        obtain ⟨ji21, hji21⟩ : ∃ j_ : Int, (shl .i64 1 (x3_1.length : Int)) = j_ := ⟨_, rfl⟩
        replace H : ((spec_l25Guards.f k2 a0_0 a0_1 a0_2 x3_1 0 x5_2 (wrap64 ((ji21) - 1))).bind fun bt514 => (if bt514.2 = true then (some bt514.1) else (spec_FewestGuards.l1 k2 x3_1 (wrap64 (x5_2 + 1)) a0_0 a0_1 a0_2))) = some r := by first | (rw [hji21] at H; exact H) | (simp only [hji21] at H ⊢; exact H)
        have hji21_ : (IntKind.i64.wrap (1 * 2 ^ min (x3_1.length : Int).toNat 64)) = ji21 := hji21
        have hji21z : (x3_1.length : Int) ≤ 64 → (IntKind.i64.wrap (1 * 2 ^ (x3_1.length : Int).toNat)) = ji21 := shl_small hji21
        have hji21p : (IntKind.i64.wrap (1 * 2 ^ min x3_1.length 64)) = ji21 := hji21_
        have hji21q : (x3_1.length : Int) ≤ 64 → (IntKind.i64.wrap (1 * 2 ^ x3_1.length)) = ji21 := hji21z
        have hji21r : (IntKind.i64.wrap (2 ^ min x3_1.length 64)) = ji21 := by have h_ := hji21p; rw [Int.one_mul] at h_; exact h_
        have hji21s : (x3_1.length : Int) ≤ 64 → (IntKind.i64.wrap (2 ^ x3_1.length)) = ji21 := fun hle_ => by have h_ := hji21q hle_; rw [Int.one_mul] at h_; exact h_
        have hji21u : (IntKind.i64.wrap (2 ^ min (x3_1.length : Int).toNat 64)) = ji21 := by have h_ := hji21_; rw [Int.one_mul] at h_; exact h_
        have hji21v : (x3_1.length : Int) ≤ 64 → (IntKind.i64.wrap (2 ^ (x3_1.length : Int).toNat)) = ji21 := fun hle_ => by have h_ := hji21z hle_; rw [Int.one_mul] at h_; exact h_
        have hji21y : (wrap64 (1 * 2 ^ min (x3_1.length : Int).toNat 64)) = ji21 := (i64_w _).symm.trans hji21_
        have hji21x : (x3_1.length : Int) ≤ 64 → (wrap64 (1 * 2 ^ (x3_1.length : Int).toNat)) = ji21 := fun h_ => (i64_w _).symm.trans (hji21z h_)
        replace H := Option.bind_eq_some_iff.mp H
        obtain ⟨⟨t514, t517⟩, A220, H⟩ := H
        replace H : (if t517 = true then (some t514) else (spec_FewestGuards.l1 k2 x3_1 (wrap64 (x5_2 + 1)) a0_0 a0_1 a0_2)) = some r := H
        have A22 := Aside0.mk A220
        clear A220
        by_cases c23 : t517 = true
        ·subst c23
         have H1 : (some t514) = some r := by rw [if_pos rfl] at H; exact H
         clear H
         have H := H1
         clear H1
         obtain rfl := Option.some.inj H
         obtain ⟨Ao24, co24, eo24⟩ := Kd.R_slice HO_3.out
         subst eo24
         try go_wp2
         replace HO_3 := Aside0.mk (Kd.R_drew HO_3.out)
         replace BK501 := Aside0.mk (blk_drew BK501.out)
         replace HB := Aside0.mk (below_drew1 HB.out)
         refine start_ (n := 13) (S := fun w' => w'.cell? ⟨gb501, 0, none⟩ = some (.int .i64 a0_0) ∧ w'.cell? ⟨gb501, 1, none⟩ = some (.int .i64 a0_1) ∧ w'.cell? ⟨gb501, 2, none⟩ = some (.int .i64 a0_2)) (ds := []) #[false, false, false, false, false, false, false, false, false, false, false, false, false] (by kernel_rfl) rfl rfl ⟨BK501.c 0, BK501.c 1, BK501.c 2⟩ (fun hHeld => ?_); refine with_tabW spec_FewestGuards.tab11 spec_FewestGuards.bits11 (fun HT_ HW_ => ?_)
         generalize wr.drew = w25 at HO_3 BK501 HB hHeld ⊢
         refine pv_ (i := 1) (N := some 36) HT_.out ?_
         refine pv_ (i := 2) (N := some 37) HT_.out ?_
         refine pv_ (i := 3) (N := some 38) HT_.out ?_
         refine pv_ (i := 4) (N := some 39) HT_.out ?_
         refine pv_ (i := 5) (N := some 40) HT_.out ?_
         refine pv_ (i := 6) (N := some 41) HT_.out ?_
         refine tv3_ (i := 0) (N := some 35) HT_.out HW_.out hHeld ?_
         refine ov_ (i := 7) (N := some 42) HT_.out (fun K hK => ?_)
         refine goes_ Try.func67 (by kernel_rfl) rfl #[.agg #[.int .i64 a0_0, .int .i64 a0_1, .int .i64 a0_2], .slice Ao24 x3_1.length co24, .int .i64 0, .int .i64 x5_2, .int .i64 (wrap64 ((ji21) - 1))] (by rfl) rfl rfl (by (try simp only [List.map_toArray, List.map_cons, List.map_nil]); first | done | (simp only [hji21]; rfl) | rfl | (simp only [List.length_drop, List.length_take]; rfl)) ?_
         with_reducible refine (spec_l25Guards.calls k2 a0_0 a0_1 a0_2 _ _ x3_1 0 x5_2 (wrap64 ((ji21) - 1)) t514 true _ ?side1 ?side2 A22.out).mono ?_
         (case side1 => repeat (first | exact (Kd.R_reads' HO_3.out).2.2 | (with_reducible refine Kd.C_alloc ?_ _) | (with_reducible refine Kd.C_drewN ?_ _) | (with_reducible refine Kd.C_drew ?_)))
         (case side2 => exact (Kd.R_reads' HO_3.out).2.1)
         rintro e w26 ⟨v515, rfl, ho0, hb⟩
         refine ⟨_, rfl, ?_⟩
         have n0_ := Aside0.mk (Kd.R_elder' (kr_ HO_3.out) (Kd.R_base ho0) hb)
         have n1_ := Aside0.mk (Kd.R_lower (Kd.R_new' ho0 (Kd.R_lt (kr_ HO_3.out))) (below_size (hb1_ HB.out GE501.out)))
         have n2_ := BK501.bb hb
         have n3_ := HB.s1 GE501 hb
         clear HO_3
         clear BK501
         clear HB
         have HO_3 := n0_
         have HO516 := n1_
         have BK501 := n2_
         have HB := n3_
         clear n0_ n1_ n2_ n3_
         skip
         (try clear hb2)
         (try clear hk)
         (try clear hi)
         (try clear ho0)
         refine hK.out _ _ ⟨BK501.c 0, BK501.c 1, BK501.c 2⟩ (fun hHeld => ?_)
         clear hK K
         refine nm_ ?_
         refine pv_ (i := 8) (N := some 34) HT_.out ?_
         refine pv_ (i := 9) (N := some 43) HT_.out ?_
         refine pv_ (i := 10) (N := some 44) HT_.out ?_
         refine pv_ (i := 11) (N := some 6) HT_.out ?_
         refine pv_ (i := 12) (N := some 7) HT_.out ?_
         refine done_ (done_of HT_.out (by kernel_rfl)) ?_
         try go_wp2
         go_ret
         exact ⟨_, by first | rfl | (simp [errW_none, errW_some] <;> rfl) | (simp only [← hji21]; first | rfl | (simp [errW_none, errW_some] <;> rfl)) | (simp [*, errW_none, errW_some] <;> rfl), by (with_reducible repeat (first | apply Kd.R_alloc | apply Kd.R_drewN | apply Kd.R_drew)); exact Kd.R_mono HO516.out (fun _ hk => trivial), hb1_ HB.out GE501.out⟩
        ·replace c23 := Bool.eq_false_iff.mpr c23
         subst c23
         have H1 : (spec_FewestGuards.l1 k2 x3_1 (wrap64 (x5_2 + 1)) a0_0 a0_1 a0_2) = some r := by rw [if_neg (show ¬ (false = true) by decide)] at H; exact H
         clear H
         have H := H1
         clear H1
         have H' := Aside0.mk H
         clear H
         obtain ⟨Ao27, co27, eo27⟩ := Kd.R_slice HO_3.out
         subst eo27
         try go_wp2
         replace HO_3 := Aside0.mk (Kd.R_drew HO_3.out)
         replace BK501 := Aside0.mk (blk_drew BK501.out)
         replace HB := Aside0.mk (below_drew1 HB.out)
         refine start_ (n := 13) (S := fun w' => w'.cell? ⟨gb501, 0, none⟩ = some (.int .i64 a0_0) ∧ w'.cell? ⟨gb501, 1, none⟩ = some (.int .i64 a0_1) ∧ w'.cell? ⟨gb501, 2, none⟩ = some (.int .i64 a0_2)) (ds := []) #[false, false, false, false, false, false, false, false, false, false, false, false, false] (by kernel_rfl) rfl rfl ⟨BK501.c 0, BK501.c 1, BK501.c 2⟩ (fun hHeld => ?_); refine with_tabW spec_FewestGuards.tab11 spec_FewestGuards.bits11 (fun HT_ HW_ => ?_)
         generalize wr.drew = w28 at HO_3 BK501 HB hHeld ⊢
         refine pv_ (i := 1) (N := some 36) HT_.out ?_
         refine pv_ (i := 2) (N := some 37) HT_.out ?_
         refine pv_ (i := 3) (N := some 38) HT_.out ?_
         refine pv_ (i := 4) (N := some 39) HT_.out ?_
         refine pv_ (i := 5) (N := some 40) HT_.out ?_
         refine pv_ (i := 6) (N := some 41) HT_.out ?_
         refine tv3_ (i := 0) (N := some 35) HT_.out HW_.out hHeld ?_
         refine ov_ (i := 7) (N := some 42) HT_.out (fun K hK => ?_)
         refine goes_ Try.func67 (by kernel_rfl) rfl #[.agg #[.int .i64 a0_0, .int .i64 a0_1, .int .i64 a0_2], .slice Ao27 x3_1.length co27, .int .i64 0, .int .i64 x5_2, .int .i64 (wrap64 ((ji21) - 1))] (by rfl) rfl rfl (by (try simp only [List.map_toArray, List.map_cons, List.map_nil]); first | done | (simp only [hji21]; rfl) | rfl | (simp only [List.length_drop, List.length_take]; rfl)) ?_
         with_reducible refine (spec_l25Guards.calls k2 a0_0 a0_1 a0_2 _ _ x3_1 0 x5_2 (wrap64 ((ji21) - 1)) t514 false _ ?side1 ?side2 A22.out).mono ?_
         (case side1 => repeat (first | exact (Kd.R_reads' HO_3.out).2.2 | (with_reducible refine Kd.C_alloc ?_ _) | (with_reducible refine Kd.C_drewN ?_ _) | (with_reducible refine Kd.C_drew ?_)))
         (case side2 => exact (Kd.R_reads' HO_3.out).2.1)
         rintro e w29 ⟨v515, rfl, ho0, hb⟩
         refine ⟨_, rfl, ?_⟩
         have n0_ := Aside0.mk (Kd.R_elder' (kr_ HO_3.out) (Kd.R_base ho0) hb)
         have n1_ := Aside0.mk (Kd.R_lower (Kd.R_new' ho0 (Kd.R_lt (kr_ HO_3.out))) (below_size (hb1_ HB.out GE501.out)))
         have n2_ := BK501.bb hb
         have n3_ := HB.s1 GE501 hb
         clear HO_3
         clear BK501
         clear HB
         have HO_3 := n0_
         have HO516 := n1_
         have BK501 := n2_
         have HB := n3_
         clear n0_ n1_ n2_ n3_
         skip
         (try clear hb2)
         (try clear hk)
         (try clear hi)
         (try clear ho0)
         refine hK.out _ _ ⟨BK501.c 0, BK501.c 1, BK501.c 2⟩ (fun hHeld => ?_)
         clear hK K
         refine nm_ ?_
         refine pv_ (i := 8) (N := some 34) HT_.out ?_
         refine pv_ (i := 9) (N := some 43) HT_.out ?_
         refine pv_ (i := 10) (N := some 44) HT_.out ?_
         refine pv_ (i := 11) (N := some 6) HT_.out ?_
         refine pv_ (i := 12) (N := some 7) HT_.out ?_
         refine done_ (done_of HT_.out (by kernel_rfl)) ?_
         try go_wp2
         go_roundg k2
         case measure => have := HK1.out; have := HK2.out; omega
         case rel => exact ⟨(wrap64 (x5_2 + 1)), (by first | rfl | (simp; done) | (simp [*]; done)), H', ⟨by have := HK1.out; have := HK2.out; omega⟩, ⟨by (with_reducible repeat (first | apply Kd.R_alloc | apply Kd.R_drewN | apply Kd.R_drew)); exact Kd.R_mono HO_3.out (fun _ hk => trivial)⟩, ⟨bk_ BK501.out⟩, ⟨hb1_ HB.out GE501.out⟩⟩
       ·rw [if_neg c20] at H
        have c20b0 : decide (x5_2 < (x3_1.length : Int)) = false := decide_eq_false c20
        clear c20
        obtain ⟨ji30, hji30⟩ : ∃ j_ : Int, (shl .i64 1 (x3_1.length : Int)) = j_ := ⟨_, rfl⟩
        replace H : ((spec_l25Guards.f k2 a0_0 a0_1 a0_2 x3_1 0 (x3_1.length : Int) (wrap64 ((ji30) - 1))).bind fun bt518 => (some bt518.1)) = some r := by first | (rw [hji30] at H; exact H) | (simp only [hji30] at H ⊢; exact H)
        have hji30_ : (IntKind.i64.wrap (1 * 2 ^ min (x3_1.length : Int).toNat 64)) = ji30 := hji30
        have hji30z : (x3_1.length : Int) ≤ 64 → (IntKind.i64.wrap (1 * 2 ^ (x3_1.length : Int).toNat)) = ji30 := shl_small hji30
        have hji30p : (IntKind.i64.wrap (1 * 2 ^ min x3_1.length 64)) = ji30 := hji30_
        have hji30q : (x3_1.length : Int) ≤ 64 → (IntKind.i64.wrap (1 * 2 ^ x3_1.length)) = ji30 := hji30z
        have hji30r : (IntKind.i64.wrap (2 ^ min x3_1.length 64)) = ji30 := by have h_ := hji30p; rw [Int.one_mul] at h_; exact h_
        have hji30s : (x3_1.length : Int) ≤ 64 → (IntKind.i64.wrap (2 ^ x3_1.length)) = ji30 := fun hle_ => by have h_ := hji30q hle_; rw [Int.one_mul] at h_; exact h_
        have hji30u : (IntKind.i64.wrap (2 ^ min (x3_1.length : Int).toNat 64)) = ji30 := by have h_ := hji30_; rw [Int.one_mul] at h_; exact h_
        have hji30v : (x3_1.length : Int) ≤ 64 → (IntKind.i64.wrap (2 ^ (x3_1.length : Int).toNat)) = ji30 := fun hle_ => by have h_ := hji30z hle_; rw [Int.one_mul] at h_; exact h_
        have hji30y : (wrap64 (1 * 2 ^ min (x3_1.length : Int).toNat 64)) = ji30 := (i64_w _).symm.trans hji30_
        have hji30x : (x3_1.length : Int) ≤ 64 → (wrap64 (1 * 2 ^ (x3_1.length : Int).toNat)) = ji30 := fun h_ => (i64_w _).symm.trans (hji30z h_)
        replace H := Option.bind_eq_some_iff.mp H
        obtain ⟨⟨t518, t521⟩, A310, H⟩ := H
        replace H : (some t518) = some r := H
        have A31 := Aside0.mk A310
        clear A310
        obtain rfl := Option.some.inj H
        obtain ⟨Ao32, co32, eo32⟩ := Kd.R_slice HO_3.out
        subst eo32
        try go_wp2
        replace HO_3 := Aside0.mk (Kd.R_drew HO_3.out)
        replace BK501 := Aside0.mk (blk_drew BK501.out)
        replace HB := Aside0.mk (below_drew1 HB.out)
        refine start_ (n := 14) (S := fun w' => w'.cell? ⟨gb501, 0, none⟩ = some (.int .i64 a0_0) ∧ w'.cell? ⟨gb501, 1, none⟩ = some (.int .i64 a0_1) ∧ w'.cell? ⟨gb501, 2, none⟩ = some (.int .i64 a0_2)) (ds := []) #[false, false, false, false, false, false, false, false, false, false, false, false, false, false] (by kernel_rfl) rfl rfl ⟨BK501.c 0, BK501.c 1, BK501.c 2⟩ (fun hHeld => ?_); refine with_tabW spec_FewestGuards.tab14 spec_FewestGuards.bits14 (fun HT_ HW_ => ?_)
        generalize wr.drew = w33 at HO_3 BK501 HB hHeld ⊢
        refine pv_ (i := 1) (N := some 49) HT_.out ?_
        refine pv_ (i := 2) (N := some 50) HT_.out ?_
        refine pv_ (i := 3) (N := some 51) HT_.out ?_
        refine pv_ (i := 4) (N := some 52) HT_.out ?_
        refine pv_ (i := 5) (N := some 53) HT_.out ?_
        refine pv_ (i := 6) (N := some 54) HT_.out ?_
        refine pv_ (i := 7) (N := some 55) HT_.out ?_
        refine tv3_ (i := 0) (N := some 48) HT_.out HW_.out hHeld ?_
        refine ov_ (i := 8) (N := some 56) HT_.out (fun K hK => ?_)
        refine goes_ Try.func67 (by kernel_rfl) rfl #[.agg #[.int .i64 a0_0, .int .i64 a0_1, .int .i64 a0_2], .slice Ao32 x3_1.length co32, .int .i64 0, .int .i64 (x3_1.length : Int), .int .i64 (wrap64 ((ji30) - 1))] (by rfl) rfl rfl (by (try simp only [List.map_toArray, List.map_cons, List.map_nil]); first | done | (simp only [hji30]; rfl) | rfl | (simp only [List.length_drop, List.length_take]; rfl)) ?_
        with_reducible refine (spec_l25Guards.calls k2 a0_0 a0_1 a0_2 _ _ x3_1 0 (x3_1.length : Int) (wrap64 ((ji30) - 1)) t518 t521 _ ?side1 ?side2 A31.out).mono ?_
        (case side1 => repeat (first | exact (Kd.R_reads' HO_3.out).2.2 | (with_reducible refine Kd.C_alloc ?_ _) | (with_reducible refine Kd.C_drewN ?_ _) | (with_reducible refine Kd.C_drew ?_)))
        (case side2 => exact (Kd.R_reads' HO_3.out).2.1)
        rintro e w34 ⟨v519, rfl, ho0, hb⟩
        refine ⟨_, rfl, ?_⟩
        have n0_ := Aside0.mk (Kd.R_elder' (kr_ HO_3.out) (Kd.R_base ho0) hb)
        have n1_ := Aside0.mk (Kd.R_lower (Kd.R_new' ho0 (Kd.R_lt (kr_ HO_3.out))) (below_size (hb1_ HB.out GE501.out)))
        have n2_ := BK501.bb hb
        have n3_ := HB.s1 GE501 hb
        clear HO_3
        clear BK501
        clear HB
        have HO_3 := n0_
        have HO520 := n1_
        have BK501 := n2_
        have HB := n3_
        clear n0_ n1_ n2_ n3_
        skip
        (try clear hb2)
        (try clear hk)
        (try clear hi)
        (try clear ho0)
        refine hK.out _ _ ⟨BK501.c 0, BK501.c 1, BK501.c 2⟩ (fun hHeld => ?_)
        clear hK K
        refine nm_ ?_
        refine pv_ (i := 9) (N := some 47) HT_.out ?_
        refine pv_ (i := 10) (N := some 57) HT_.out ?_
        refine pv_ (i := 11) (N := some 58) HT_.out ?_
        refine pv_ (i := 12) (N := some 8) HT_.out ?_
        refine pv_ (i := 13) (N := some 9) HT_.out ?_
        refine done_ (done_of HT_.out (by kernel_rfl)) ?_
        try go_wp2
        go_ret
        exact ⟨_, by first | rfl | (simp [errW_none, errW_some] <;> rfl) | (simp only [← hji30]; first | rfl | (simp [errW_none, errW_some] <;> rfl)) | (simp [*, errW_none, errW_some] <;> rfl), by (with_reducible repeat (first | apply Kd.R_alloc | apply Kd.R_drewN | apply Kd.R_drew)); exact Kd.R_mono HO520.out (fun _ hk => trivial), hb1_ HB.out GE501.out⟩
 ·replace c3 := Bool.eq_false_iff.mpr c3
  subst c3
  have H1 : (some (([] : List Int))) = some r := by rw [if_neg (show ¬ (false = true) by decide)] at H; exact H
  clear H
  have H := H1
  clear H1
  obtain ⟨y503, hy503⟩ : ∃ y_ : List Int, y_ = (([] : List Int)) := ⟨_, rfl⟩
  replace H : (some y503) = some r := by first | (rw [hy503]; with_reducible exact H) | (have H2_ := (Option.bind_some _ _).symm.trans H; rw [hy503]; with_reducible exact H2_) | (have H2_ := (Option.bind_some _ _).symm.trans H; with_reducible exact H2_) | with_reducible exact H | (rw [hy503]; exact H) | exact H
  have Ny503 := Aside0.mk hy503
  clear hy503
  obtain rfl := Option.some.inj H
  go_enter Try.func34, Try.ntmps34
  go_wp2_with (first | (refine box_ (N := 1) (cs := #[.int .i64 a0_0, .int .i64 a0_1, .int .i64 a0_2]) (t := 30) ?_; intro gb501 hg w35 hbox hb; have BK501 := Aside0.mk (hbox); have GW501 := HB.g0 hg; have GE501 := HB.g0 hg; replace HB := HB.s0 hb; clear hb hbox hg; obtain ⟨hcz36_0, hcz36_1, hcz36_2⟩ := cz3_ BK501.out; obtain ⟨hfz36_0, hfz36_1, hfz36_2⟩ := fz3_ BK501.out) | (refine gl_ 11 Try.func51 #[.agg #[.int .i64 a0_0, .int .i64 a0_1, .int .i64 a0_2]] ?_; (with_reducible refine (spec_MazeOk.calls a0_0 a0_1 a0_2 false _ A2.out).mono ?_); rintro e w37 ⟨rfl, hb⟩; refine ⟨_, rfl, ?_⟩; replace BK501 := BK501.bb hb; replace HB := HB.s1 GE501 hb; (try clear hb)) | ((with_reducible refine gate_dst (N := 13) rfl ?_); refine Kd.R_lit (Kd.int .i64) _ 3 ?hg (N := 13) ?hd (xs := ([] : List Int)) (inner := []) (ok := fun _ => True) (okp := fun _ => True) ?hr ?hp (fun _ hk => hk) trivial (Below.refl _ _) (Nat.le_refl _) (by simp) ?_; (case hd => rfl); (case hg => rfl); (case hr => first | (go_simp; done) | (go_simp; rfl)); (case hp => exact (Reps.none _ _)); intro v504 w38 ho39 hb hg_ hnew_; clear hg_ hnew_; (first | rw [← Ny503.out] at ho39 | (simp only [Int.reduceToNat] at ho39; rw [← Ny503.out] at ho39)); have HO505 := Aside0.mk (Kd.R_lower ho39 (below_size (hb1_ HB.out GE501.out))); replace BK501 := BK501.bb hb; replace HB := HB.s1 GE501 hb; clear hb ho39))
  go_ret
  exact ⟨_, ex_, kr_ HO505.out, hb1_ HB.out GE501.out⟩

end Go.Proofs.Ytmcllgonjlapoaa.X
