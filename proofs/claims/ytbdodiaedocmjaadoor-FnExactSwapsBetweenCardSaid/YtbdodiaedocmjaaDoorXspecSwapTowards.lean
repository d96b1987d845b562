-- Written by a program of this session (xprint.py), out of the translation and of hand-written contracts. Lean checks it.
import Derived.Test.YtbdodiaedocmjaaDoorX0
import Derived.Test.YtbdodiaedocmjaaDoorXcgaps
import Derived.Test.YtbdodiaedocmjaaDoorXcmaze
import Derived.Test.YtbdodiaedocmjaaDoorXcswaps
namespace Go.Proofs.YtbdodiaedocmjaaDoor.X
open Go.RowKit Go.Proofs.YtbdodiaedocmjaaDoorW.PrintWords Go.Proofs.YtbdodiaedocmjaaDoorW.PrintLast Go.Proofs.YtbdodiaedocmjaaDoorW.PrintMore
attribute [local go_sem] max2_int min2_int max_two min_two max_three min_three max_four min_four   -- for this text's walks alone
set_option linter.unusedVariables false
set_option linter.unusedSimpArgs false

/-! ### spec_SwapTowards: function 5 -/
mutual
def spec_SwapTowards.l0 : Nat → Int → Int → Int → Int → Int → Int → Int → Option (Int × Int × Int × Bool)
 | 0, _, _, _, _, _, _, _ => none
 | k + 1, x6, x502000, x502001, x502002, x503000, x503001, x503002 => (spec_CountGaps.f x502000 x502001).bind fun t505 => (if x6 < t505 then ((spec_l03Bit.f x503002 x6).bind fun t506 => (if t506 = true then ((spec_l03Bit.f x502002 x6).bind fun t507 => (spec_SwapTowards.j1 k x6 t507 x502000 x502001 x502002 x503000 x503001 x503002)) else (spec_SwapTowards.j1 k x6 true x502000 x502001 x502002 x503000 x503001 x503002))) else (some (x502000, x502001, x502002, false)))
def spec_SwapTowards.j1 : Nat → Int → Bool → Int → Int → Int → Int → Int → Int → Option (Int × Int × Int × Bool)
 | 0, _, _, _, _, _, _, _, _ => none
 | k + 1, x6, x31, x502000, x502001, x502002, x503000, x503001, x503002 => if x31 = true then (spec_SwapTowards.l0 k (wrap64 (x6 + 1)) x502000 x502001 x502002 x503000 x503001 x503002) else ((spec_LoopGaps.f k x502000 x502001 x502002 x6).bind fun t508 => (spec_SwapTowards.l1 k x6 t508 0 x502000 x502001 x502002 x503000 x503001 x503002))
def spec_SwapTowards.l1 : Nat → Int → List Int → Int → Int → Int → Int → Int → Int → Int → Option (Int × Int × Int × Bool)
 | 0, _, _, _, _, _, _, _, _, _ => none
 | k + 1, x6, x7, x8, x502000, x502001, x502002, x503000, x503001, x503002 => if x8 < (x7.length : Int) then (if 0 ≤ x8 then ((spec_l03Bit.f x503002 (rd x7 x8)).bind fun t512 => (if t512 = true then (spec_SwapTowards.l1 k x6 x7 (wrap64 (x8 + 1)) x502000 x502001 x502002 x503000 x503001 x503002) else ((spec_SwapGaps.f k x502000 x502001 x502002 x6 (rd x7 x8)).bind fun bt514 => (some (bt514.1, bt514.2.1, bt514.2.2.1, bt514.2.2.2))))) else (none)) else (spec_SwapTowards.l0 k (wrap64 (x6 + 1)) x502000 x502001 x502002 x503000 x503001 x503002)
end
def spec_SwapTowards.f (k : Nat) (a0_0 : Int) (a0_1 : Int) (a0_2 : Int) (a1_0 : Int) (a1_1 : Int) (a1_2 : Int) : Option (Int × Int × Int × Bool) := (spec_GapsApart.f k a0_0 a0_1 a0_2 a1_0 a1_1 a1_2).bind fun t504 => (if t504 ≤ 0 then (some (a0_0, a0_1, a0_2, false)) else (spec_SwapTowards.l0 k 0 a0_0 a0_1 a0_2 a1_0 a1_1 a1_2))
theorem spec_SwapTowards.mono_l : ∀ k, (∀ y0 y1 y2 y3 y4 y5 y6, LeO (spec_SwapTowards.l0 k y0 y1 y2 y3 y4 y5 y6) (spec_SwapTowards.l0 (k + 1) y0 y1 y2 y3 y4 y5 y6)) ∧ (∀ y0 y1 y2 y3 y4 y5 y6 y7, LeO (spec_SwapTowards.j1 k y0 y1 y2 y3 y4 y5 y6 y7) (spec_SwapTowards.j1 (k + 1) y0 y1 y2 y3 y4 y5 y6 y7)) ∧ (∀ y0 y1 y2 y3 y4 y5 y6 y7 y8, LeO (spec_SwapTowards.l1 k y0 y1 y2 y3 y4 y5 y6 y7 y8) (spec_SwapTowards.l1 (k + 1) y0 y1 y2 y3 y4 y5 y6 y7 y8))
 | 0 => ⟨fun _ _ _ _ _ _ _ r h => by simp [spec_SwapTowards.l0] at h, fun _ _ _ _ _ _ _ _ r h => by simp [spec_SwapTowards.j1] at h, fun _ _ _ _ _ _ _ _ _ r h => by simp [spec_SwapTowards.l1] at h⟩
 | k + 1 => by
  obtain ⟨ih0, ih1, ih2⟩ := spec_SwapTowards.mono_l k
  refine ⟨?_, ?_, ?_⟩
  ·intro y0 y1 y2 y3 y4 y5 y6
   unfold spec_SwapTowards.l0
   repeat' first
   | (with_reducible exact ih0 ..)
   | (with_reducible exact ih1 ..)
   | (with_reducible exact ih2 ..)
   | (with_reducible exact spec_GapsApart.mono ..)
   | (with_reducible exact spec_LoopGaps.mono ..)
   | (with_reducible exact spec_SwapGaps.mono ..)
   | (with_reducible first | exact lr_ _ | exact ln_ _ | refine li_ ?_ ?_ | refine lb_ ?_ fun _ => ?_)
   | exact ih0 ..
   | exact ih1 ..
   | exact ih2 ..
   | exact spec_GapsApart.mono ..
   | exact spec_LoopGaps.mono ..
   | exact spec_SwapGaps.mono ..
   | exact ln_ _ | refine li_ ?_ ?_ | refine lb_ ?_ fun _ => ?_
  ·intro y0 y1 y2 y3 y4 y5 y6 y7
   unfold spec_SwapTowards.j1
   repeat' first
   | (with_reducible exact ih0 ..)
   | (with_reducible exact ih1 ..)
   | (with_reducible exact ih2 ..)
   | (with_reducible exact spec_GapsApart.mono ..)
   | (with_reducible exact spec_LoopGaps.mono ..)
   | (with_reducible exact spec_SwapGaps.mono ..)
   | (with_reducible first | exact lr_ _ | exact ln_ _ | refine li_ ?_ ?_ | refine lb_ ?_ fun _ => ?_)
   | exact ih0 ..
   | exact ih1 ..
   | exact ih2 ..
   | exact spec_GapsApart.mono ..
   | exact spec_LoopGaps.mono ..
   | exact spec_SwapGaps.mono ..
   | exact ln_ _ | refine li_ ?_ ?_ | refine lb_ ?_ fun _ => ?_
  ·intro y0 y1 y2 y3 y4 y5 y6 y7 y8
   unfold spec_SwapTowards.l1
   repeat' first
   | (with_reducible exact ih0 ..)
   | (with_reducible exact ih1 ..)
   | (with_reducible exact ih2 ..)
   | (with_reducible exact spec_GapsApart.mono ..)
   | (with_reducible exact spec_LoopGaps.mono ..)
   | (with_reducible exact spec_SwapGaps.mono ..)
   | (with_reducible first | exact lr_ _ | exact ln_ _ | refine li_ ?_ ?_ | refine lb_ ?_ fun _ => ?_)
   | exact ih0 ..
   | exact ih1 ..
   | exact ih2 ..
   | exact spec_GapsApart.mono ..
   | exact spec_LoopGaps.mono ..
   | exact spec_SwapGaps.mono ..
   | exact ln_ _ | refine li_ ?_ ?_ | refine lb_ ?_ fun _ => ?_
theorem spec_SwapTowards.mono : ∀ a0 a1 a2 a3 a4 a5 k, LeO (spec_SwapTowards.f k a0 a1 a2 a3 a4 a5) (spec_SwapTowards.f (k + 1) a0 a1 a2 a3 a4 a5) := by
 intro a0 a1 a2 a3 a4 a5 k
 obtain ⟨ih0, ih1, ih2⟩ := spec_SwapTowards.mono_l k
 unfold spec_SwapTowards.f
 repeat' first
   | (with_reducible exact ih0 ..)
   | (with_reducible exact ih1 ..)
   | (with_reducible exact ih2 ..)
   | (with_reducible exact spec_GapsApart.mono ..)
   | (with_reducible exact spec_LoopGaps.mono ..)
   | (with_reducible exact spec_SwapGaps.mono ..)
   | (with_reducible first | exact lr_ _ | exact ln_ _ | refine li_ ?_ ?_ | refine lb_ ?_ fun _ => ?_)
   | exact ih0 ..
   | exact ih1 ..
   | exact ih2 ..
   | exact spec_GapsApart.mono ..
   | exact spec_LoopGaps.mono ..
   | exact spec_SwapGaps.mono ..
   | exact ln_ _ | refine li_ ?_ ?_ | refine lb_ ?_ fun _ => ?_
def spec_SwapTowards.T11 : Bool × List (List Nat × List Nat) := (true, [([], []), ([0], [0]), ([], []), ([], []), ([2, 3], [2, 3]), ([4], [4]), ([1, 5], [1, 5]), ([6], [6])])
def spec_SwapTowards.B11 : List Nat := [0, 1, 0, 0, 12, 28, 63, 127]
theorem spec_SwapTowards.tab11 : rtab .any (opsOf Tryd.f5 11) = spec_SwapTowards.T11 := by kernel_rfl
theorem spec_SwapTowards.bits11 : waitsOk spec_SwapTowards.T11.2 spec_SwapTowards.B11 = true := by kernel_rfl
def spec_SwapTowards.T12 : Bool × List (List Nat × List Nat) := (true, [([], []), ([], []), ([], []), ([], []), ([2, 3], [2, 3]), ([4], [4]), ([0, 1, 5], [0, 1, 5]), ([6], [6]), ([6], [6]), ([7, 6, 0, 1, 2, 3, 4, 5, 6, 7, 8], [7]), ([8, 9, 0, 1, 2, 3, 4, 5, 6, 7, 8, 9], [8])])
def spec_SwapTowards.B12 : List Nat := [0, 0, 0, 0, 12, 28, 63, 127, 127, 511, 1023]
theorem spec_SwapTowards.tab12 : rtab .any (opsOf Tryd.f5 12) = spec_SwapTowards.T12 := by kernel_rfl
theorem spec_SwapTowards.bits12 : waitsOk spec_SwapTowards.T12.2 spec_SwapTowards.B12 = true := by kernel_rfl
set_option maxHeartbeats 8000000 in
set_option maxRecDepth 100000 in
theorem spec_SwapTowards.calls (k : Nat) (a0_0 : Int) (a0_1 : Int) (a0_2 : Int) (a1_0 : Int) (a1_1 : Int) (a1_2 : Int) (r1 : Int) (r2 : Int) (r3 : Int) (r4 : Bool) (w : World) (h : spec_SwapTowards.f k a0_0 a0_1 a0_2 a1_0 a1_1 a1_2 = some (r1, r2, r3, r4)) :
  Calls Tryd.prog 5 #[.agg #[.int .i64 a0_0, .int .i64 a0_1, .int .i64 a0_2], .agg #[.int .i64 a1_0, .int .i64 a1_1, .int .i64 a1_2]] w fun e w' => e = .returned (.tuple #[.agg #[.int .i64 r1, .int .i64 r2, .int .i64 r3], .bool r4]) ∧ Below w.heap.size w w' := by
 have hu28 := Tryd.underlying28
 have hu26 := Tryd.underlying26
 have HB := Aside0.mk (Below.refl w.heap.size w)
 have H : ((spec_GapsApart.f k a0_0 a0_1 a0_2 a1_0 a1_1 a1_2).bind fun t504 => (if t504 ≤ 0 then (some (a0_0, a0_1, a0_2, false)) else (spec_SwapTowards.l0 k 0 a0_0 a0_1 a0_2 a1_0 a1_1 a1_2))) = some (r1, r2, r3, r4) := h
 clear h
 replace H := Option.bind_eq_some_iff.mp H
 obtain ⟨t504, A30, H⟩ := H
 replace H : (if t504 ≤ 0 then (some (a0_0, a0_1, a0_2, false)) else (spec_SwapTowards.l0 k 0 a0_0 a0_1 a0_2 a1_0 a1_1 a1_2)) = some (r1, r2, r3, r4) := H
 have A3 := Aside0.mk A30
 clear A30
 by_cases c4 : t504 ≤ 0
 ·rw [if_pos c4] at H
  have c4b0 : decide (t504 ≤ 0) = true := decide_eq_true c4
  clear c4
  simp only [Option.some.injEq, Prod.mk.injEq] at H
  obtain ⟨rfl, rfl, rfl, rfl⟩ := H
  go_enter Tryd.func5, Tryd.ntmps5
  go_wp2_with (first | (refine box_ (N := 2) (cs := #[.int .i64 a0_0, .int .i64 a0_1, .int .i64 a0_2]) (t := 28) ?_; intro gb501 hg w5 hbox hb; have BK501 := Aside0.mk (hbox); have GW501 := HB.g0 hg; have GE501 := HB.g0 hg; replace HB := HB.s0 hb; clear hb hbox hg) | (refine box_ (N := 3) (cs := #[.int .i64 a1_0, .int .i64 a1_1, .int .i64 a1_2]) (t := 28) ?_; intro gb502 hg w6 hbox hb; have BK502 := Aside0.mk (hbox); have GW502 := HB.g1 GE501 hg; have GE502 := HB.g1 GE501 hg; replace HB := HB.s1 GE501 hb; have NB501_502 := BK501.nl hg; have NB502_501 := BK501.nr hg; replace BK501 := BK501.bb hb; clear hb hbox hg) | (refine box_ (N := 4) (cs := #[.int .i64 0, .int .i64 0, .int .i64 0]) (t := 28) ?_; intro gb503 hg w7 hbox hb; have BK503 := Aside0.mk (hbox); have GW503 := HB.g2 GE501 GE502 hg; have GE503 := HB.g2 GE501 GE502 hg; replace HB := HB.s2 GE501 GE502 hb; have NB501_503 := BK501.nl hg; have NB503_501 := BK501.nr hg; replace BK501 := BK501.bb hb; have NB502_503 := BK502.nl hg; have NB503_502 := BK502.nr hg; replace BK502 := BK502.bb hb; clear hb hbox hg; have hnb8 := NB501_502.out; have hnc8 := NB502_501.out; have hnb9 := NB501_503.out; have hnc9 := NB503_501.out; obtain ⟨hcz10_0, hcz10_1, hcz10_2⟩ := cz3_ BK501.out; obtain ⟨hfz10_0, hfz10_1, hfz10_2⟩ := fz3_ BK501.out; have hnb11 := NB502_503.out; have hnc11 := NB503_502.out; obtain ⟨hcz12_0, hcz12_1, hcz12_2⟩ := cz3_ BK502.out; obtain ⟨hfz12_0, hfz12_1, hfz12_2⟩ := fz3_ BK502.out) | (refine gl_ 11 Tryd.func11 #[.agg #[.int .i64 a0_0, .int .i64 a0_1, .int .i64 a0_2], .agg #[.int .i64 a1_0, .int .i64 a1_1, .int .i64 a1_2]] ?_; (with_reducible refine (spec_GapsApart.calls k a0_0 a0_1 a0_2 a1_0 a1_1 a1_2 t504 _ A3.out).mono ?_); rintro e w13 ⟨rfl, hb⟩; refine ⟨_, rfl, ?_⟩; replace BK501 := BK501.bb hb; replace BK502 := BK502.bb hb; replace BK503 := BK503.bb hb; replace HB := HB.s3 GE501 GE502 GE503 hb; (try clear hb); obtain ⟨hcz14_0, hcz14_1, hcz14_2⟩ := cz3_ BK501.out; obtain ⟨hfz14_0, hfz14_1, hfz14_2⟩ := fz3_ BK501.out; obtain ⟨hcz15_0, hcz15_1, hcz15_2⟩ := cz3_ BK503.out; obtain ⟨hfz15_0, hfz15_1, hfz15_2⟩ := fz3_ BK503.out))
  refine bodyPost_ret (results_ct rfl _ _ gb503 28 #[.int .i64 a0_0, .int .i64 a0_1, .int .i64 a0_2] (0, 0) _ rfl (bq3_ BK503.out) Tryd.underlying28 rfl (by kernel_rfl)) rfl ?_
  exact ⟨ex_, hb3_ HB.out GE501.out GE502.out GE503.out⟩
 ·rw [if_neg c4] at H
  have c4b0 : decide (t504 ≤ 0) = false := decide_eq_false c4
  clear c4
  have H' := Aside0.mk H
  clear H
  go_enter Tryd.func5, Tryd.ntmps5
  go_wp2_with (first | (refine box_ (N := 2) (cs := #[.int .i64 a0_0, .int .i64 a0_1, .int .i64 a0_2]) (t := 28) ?_; intro gb501 hg w16 hbox hb; have BK501 := Aside0.mk (hbox); have GW501 := HB.g0 hg; have GE501 := HB.g0 hg; replace HB := HB.s0 hb; clear hb hbox hg) | (refine box_ (N := 3) (cs := #[.int .i64 a1_0, .int .i64 a1_1, .int .i64 a1_2]) (t := 28) ?_; intro gb502 hg w17 hbox hb; have BK502 := Aside0.mk (hbox); have GW502 := HB.g1 GE501 hg; have GE502 := HB.g1 GE501 hg; replace HB := HB.s1 GE501 hb; have NB501_502 := BK501.nl hg; have NB502_501 := BK501.nr hg; replace BK501 := BK501.bb hb; clear hb hbox hg) | (refine box_ (N := 4) (cs := #[.int .i64 0, .int .i64 0, .int .i64 0]) (t := 28) ?_; intro gb503 hg w18 hbox hb; have BK503 := Aside0.mk (hbox); have GW503 := HB.g2 GE501 GE502 hg; have GE503 := HB.g2 GE501 GE502 hg; replace HB := HB.s2 GE501 GE502 hb; have NB501_503 := BK501.nl hg; have NB503_501 := BK501.nr hg; replace BK501 := BK501.bb hb; have NB502_503 := BK502.nl hg; have NB503_502 := BK502.nr hg; replace BK502 := BK502.bb hb; clear hb hbox hg; have hnb19 := NB501_502.out; have hnc19 := NB502_501.out; have hnb20 := NB501_503.out; have hnc20 := NB503_501.out; obtain ⟨hcz21_0, hcz21_1, hcz21_2⟩ := cz3_ BK501.out; obtain ⟨hfz21_0, hfz21_1, hfz21_2⟩ := fz3_ BK501.out; have hnb22 := NB502_503.out; have hnc22 := NB503_502.out; obtain ⟨hcz23_0, hcz23_1, hcz23_2⟩ := cz3_ BK502.out; obtain ⟨hfz23_0, hfz23_1, hfz23_2⟩ := fz3_ BK502.out) | (refine gl_ 11 Tryd.func11 #[.agg #[.int .i64 a0_0, .int .i64 a0_1, .int .i64 a0_2], .agg #[.int .i64 a1_0, .int .i64 a1_1, .int .i64 a1_2]] ?_; (with_reducible refine (spec_GapsApart.calls k a0_0 a0_1 a0_2 a1_0 a1_1 a1_2 t504 _ A3.out).mono ?_); rintro e w24 ⟨rfl, hb⟩; refine ⟨_, rfl, ?_⟩; replace BK501 := BK501.bb hb; replace BK502 := BK502.bb hb; replace BK503 := BK503.bb hb; replace HB := HB.s3 GE501 GE502 GE503 hb; (try clear hb)))
  go_loopg [6] k (fun kq v6 w' => ∃ (x6_1 : Int) (x504000_1 : Int) (x504001_1 : Int) (x504002_1 : Int), v6 = .int .i64 x6_1 ∧ Aside0 (spec_SwapTowards.l0 kq x6_1 a0_0 a0_1 a0_2 a1_0 a1_1 a1_2 = some (r1, r2, r3, r4)) ∧ Aside0 (kq ≤ k) ∧ Aside0 (w'.heap[gb501]? = some (.cells #[.int .i64 a0_0, .int .i64 a0_1, .int .i64 a0_2] 28 (0, 0))) ∧ Aside0 (w'.heap[gb502]? = some (.cells #[.int .i64 a1_0, .int .i64 a1_1, .int .i64 a1_2] 28 (0, 0))) ∧ Aside0 (w'.heap[gb503]? = some (.cells #[.int .i64 x504000_1, .int .i64 x504001_1, .int .i64 x504002_1] 28 (0, 0))) ∧ Aside0 (Below w.heap.size w w'))
  case atStart => exact ⟨(0), (0), (0), (0), (by first | rfl | (simp; done) | (simp [*]; done)), H', ⟨Nat.le_refl _⟩, ⟨bk_ BK501.out⟩, ⟨bk_ BK502.out⟩, ⟨bk_ BK503.out⟩, ⟨hb3_ HB.out GE501.out GE502.out GE503.out⟩⟩
  case round =>
   clear H'
   try clear c1
   try clear c2
   try clear p2
   try clear c4
   try clear c4b0
   try clear c5
   try clear c8
   try clear c9
   try clear c11
   try clear c19
   try clear c20
   try clear c22
   try clear hcz10_0
   try clear hcz10_1
   try clear hcz10_2
   try clear hcz12_0
   try clear hcz12_1
   try clear hcz12_2
   try clear hcz14_0
   try clear hcz14_1
   try clear hcz14_2
   try clear hcz15_0
   try clear hcz15_1
   try clear hcz15_2
   try clear hcz21_0
   try clear hcz21_1
   try clear hcz21_2
   try clear hcz23_0
   try clear hcz23_1
   try clear hcz23_2
   try clear hfz10_0
   try clear hfz10_1
   try clear hfz10_2
   try clear hfz12_0
   try clear hfz12_1
   try clear hfz12_2
   try clear hfz14_0
   try clear hfz14_1
   try clear hfz14_2
   try clear hfz15_0
   try clear hfz15_1
   try clear hfz15_2
   try clear hfz21_0
   try clear hfz21_1
   try clear hfz21_2
   try clear hfz23_0
   try clear hfz23_1
   try clear hfz23_2
   obtain ⟨x6_1, x504000_1, x504001_1, x504002_1, rfl, HA, HK1, BK501, BK502, BK503, HB⟩ := hrel
   cases gk with
   | zero => exact absurd HA.out (by simp [spec_SwapTowards.l0])
   | succ k1 =>
    have H := HA.out
    clear HA
    simp only [spec_SwapTowards.l0] at H
    replace H := Option.bind_eq_some_iff.mp H
    obtain ⟨t505, A250, H⟩ := H
    replace H : (if x6_1 < t505 then ((spec_l03Bit.f a1_2 x6_1).bind fun t506 => (if t506 = true then ((spec_l03Bit.f a0_2 x6_1).bind fun t507 => (spec_SwapTowards.j1 k1 x6_1 t507 a0_0 a0_1 a0_2 a1_0 a1_1 a1_2)) else (spec_SwapTowards.j1 k1 x6_1 true a0_0 a0_1 a0_2 a1_0 a1_1 a1_2))) else (some (a0_0, a0_1, a0_2, false))) = some (r1, r2, r3, r4) := H
    have A25 := Aside0.mk A250
    clear A250
    by_cases c26 : x6_1 < t505
    ·rw [if_pos c26] at H
     have c26b0 : decide (x6_1 < t505) = true := decide_eq_true c26
     clear c26
     have HC27 := Aside0.mk H
     clear H
     have hnb28 := NB501_502.out
     have hnc28 := NB502_501.out
     have hnb29 := NB501_503.out
     have hnc29 := NB503_501.out
     obtain ⟨hcz30_0, hcz30_1, hcz30_2⟩ := cz3_ BK501.out
     obtain ⟨hfz30_0, hfz30_1, hfz30_2⟩ := fz3_ BK501.out
     go_upto_region 6 with (first | (refine gl_ 17 Tryd.func12 #[.agg #[.int .i64 a0_0, .int .i64 a0_1]] ?_; (with_reducible refine (spec_CountGaps.calls a0_0 a0_1 t505 _ A25.out).mono ?_); rintro e w31 ⟨rfl, hb⟩; refine ⟨_, rfl, ?_⟩; replace BK501 := BK501.bb hb; replace BK502 := BK502.bb hb; replace BK503 := BK503.bb hb; replace HB := HB.s3 GE501 GE502 GE503 hb; (try clear hb)))
     (try simp only [Act.put, List.setIfInBounds_toArray, List.set_cons_zero, List.set_cons_succ])
     go_cut [31] (fun v31 wc => ∃ (kq : Nat) (x31_26 : Bool), v31 = .bool x31_26 ∧ Aside0 (spec_SwapTowards.j1 kq x6_1 x31_26 a0_0 a0_1 a0_2 a1_0 a1_1 a1_2 = some (r1, r2, r3, r4)) ∧ Aside0 (kq ≤ k1) ∧ Aside0 (wc.heap[gb501]? = some (.cells #[.int .i64 a0_0, .int .i64 a0_1, .int .i64 a0_2] 28 (0, 0))) ∧ Aside0 (wc.heap[gb502]? = some (.cells #[.int .i64 a1_0, .int .i64 a1_1, .int .i64 a1_2] 28 (0, 0))) ∧ Aside0 (wc.heap[gb503]? = some (.cells #[.int .i64 x504000_1, .int .i64 x504001_1, .int .i64 x504002_1] 28 (0, 0))) ∧ Aside0 (Below w.heap.size w wc))
     case first =>
      have H := HC27.out
      clear HC27
      replace H := Option.bind_eq_some_iff.mp H
      obtain ⟨t506, A320, H⟩ := H
      replace H : (if t506 = true then ((spec_l03Bit.f a0_2 x6_1).bind fun t507 => (spec_SwapTowards.j1 k1 x6_1 t507 a0_0 a0_1 a0_2 a1_0 a1_1 a1_2)) else (spec_SwapTowards.j1 k1 x6_1 true a0_0 a0_1 a0_2 a1_0 a1_1 a1_2)) = some (r1, r2, r3, r4) := H
      have A32 := Aside0.mk A320
      clear A320
      by_cases c33 : t506 = true
      ·subst c33
       have H1 : ((spec_l03Bit.f a0_2 x6_1).bind fun t507 => (spec_SwapTowards.j1 k1 x6_1 t507 a0_0 a0_1 a0_2 a1_0 a1_1 a1_2)) = some (r1, r2, r3, r4) := by rw [if_pos rfl] at H; exact H
       clear H
       have H := H1
       clear H1
       replace H := Option.bind_eq_some_iff.mp H
       obtain ⟨t507, A340, H⟩ := H
       replace H : (spec_SwapTowards.j1 k1 x6_1 t507 a0_0 a0_1 a0_2 a1_0 a1_1 a1_2) = some (r1, r2, r3, r4) := H
       have A34 := Aside0.mk A340
       clear A340
       have H' := Aside0.mk H
       clear H
       have hnb35 := NB502_501.out
       have hnc35 := NB501_502.out
       have hnb36 := NB502_503.out
       have hnc36 := NB503_502.out
       obtain ⟨hcz37_0, hcz37_1, hcz37_2⟩ := cz3_ BK502.out
       obtain ⟨hfz37_0, hfz37_1, hfz37_2⟩ := fz3_ BK502.out
       go_wp2_with (first | (refine gl_ 24 Tryd.func13 #[.int .i64 a1_2, .int .i64 x6_1] ?_; (with_reducible refine (spec_l03Bit.calls a1_2 x6_1 true _ A32.out).mono ?_); rintro e w' ⟨rfl, ⟨nd, rfl⟩⟩; refine ⟨_, rfl, ?_⟩; have hnb38 := NB501_503.out; have hnc38 := NB503_501.out; obtain ⟨hcz39_0, hcz39_1, hcz39_2⟩ := cz3_ BK501.out; obtain ⟨hfz39_0, hfz39_1, hfz39_2⟩ := fz3_ BK501.out) | (go_at_call 13; (with_reducible refine (spec_l03Bit.calls a0_2 x6_1 t507 _ A34.out).mono ?_); rintro e w' ⟨rfl, ⟨nd, rfl⟩⟩))
       go_meet
       case rel => exact ⟨_, (t507), (by first | rfl | (simp; done) | (simp [*]; done)), H', ⟨by have := HK1.out; first | omega | exact Nat.le_refl _⟩, ⟨bk_ BK501.out⟩, ⟨bk_ BK502.out⟩, ⟨bk_ BK503.out⟩, ⟨hb3_ HB.out GE501.out GE502.out GE503.out⟩⟩
      ·replace c33 := Bool.eq_false_iff.mpr c33
       subst c33
       have H1 : (spec_SwapTowards.j1 k1 x6_1 true a0_0 a0_1 a0_2 a1_0 a1_1 a1_2) = some (r1, r2, r3, r4) := by rw [if_neg (show ¬ (false = true) by decide)] at H; exact H
       clear H
       have H := H1
       clear H1
       have H' := Aside0.mk H
       clear H
       have hnb40 := NB502_501.out
       have hnc40 := NB501_502.out
       have hnb41 := NB502_503.out
       have hnc41 := NB503_502.out
       obtain ⟨hcz42_0, hcz42_1, hcz42_2⟩ := cz3_ BK502.out
       obtain ⟨hfz42_0, hfz42_1, hfz42_2⟩ := fz3_ BK502.out
       go_wp2_with (first | (refine gl_ 24 Tryd.func13 #[.int .i64 a1_2, .int .i64 x6_1] ?_; (with_reducible refine (spec_l03Bit.calls a1_2 x6_1 false _ A32.out).mono ?_); rintro e w' ⟨rfl, ⟨nd, rfl⟩⟩; refine ⟨_, rfl, ?_⟩))
       go_meet
       case rel => exact ⟨_, (true), (by first | rfl | (simp; done) | (simp [*]; done)), H', ⟨by have := HK1.out; first | omega | exact Nat.le_refl _⟩, ⟨bk_ BK501.out⟩, ⟨bk_ BK502.out⟩, ⟨bk_ BK503.out⟩, ⟨hb3_ HB.out GE501.out GE502.out GE503.out⟩⟩
     case rest =>
      clear HC27
      try clear c1
      try clear c2
      try clear p2
      try clear c3
      try clear c4
      try clear c4b0
      try clear c5
      try clear c8
      try clear c9
      try clear c11
      try clear c12
      try clear c13
      try clear c19
      try clear c20
      try clear c22
      try clear c26
      try clear c26b0
      try clear c28
      try clear c29
      try clear c33
      try clear c35
      try clear c36
      try clear c38
      try clear c40
      try clear c41
      try clear hcz10_0
      try clear hcz10_1
      try clear hcz10_2
      try clear hcz12_0
      try clear hcz12_1
      try clear hcz12_2
      try clear hcz14_0
      try clear hcz14_1
      try clear hcz14_2
      try clear hcz15_0
      try clear hcz15_1
      try clear hcz15_2
      try clear hcz21_0
      try clear hcz21_1
      try clear hcz21_2
      try clear hcz23_0
      try clear hcz23_1
      try clear hcz23_2
      try clear hcz30_0
      try clear hcz30_1
      try clear hcz30_2
      try clear hcz37_0
      try clear hcz37_1
      try clear hcz37_2
      try clear hcz39_0
      try clear hcz39_1
      try clear hcz39_2
      try clear hcz42_0
      try clear hcz42_1
      try clear hcz42_2
      try clear hfz10_0
      try clear hfz10_1
      try clear hfz10_2
      try clear hfz12_0
      try clear hfz12_1
      try clear hfz12_2
      try clear hfz14_0
      try clear hfz14_1
      try clear hfz14_2
      try clear hfz15_0
      try clear hfz15_1
      try clear hfz15_2
      try clear hfz21_0
      try clear hfz21_1
      try clear hfz21_2
      try clear hfz23_0
      try clear hfz23_1
      try clear hfz23_2
      try clear hfz30_0
      try clear hfz30_1
      try clear hfz30_2
      try clear hfz37_0
      try clear hfz37_1
      try clear hfz37_2
      try clear hfz39_0
      try clear hfz39_1
      try clear hfz39_2
      try clear hfz42_0
      try clear hfz42_1
      try clear hfz42_2
      try clear p2
      obtain ⟨kq, x31_26, rfl, HA, HJ26, BK501, BK502, BK503, HB⟩ := hcut
      cases kq with
      | zero => exact absurd HA.out (by simp [spec_SwapTowards.j1])
      | succ kj26 =>
       have H := HA.out
       clear HA
       simp only [spec_SwapTowards.j1] at H
       by_cases c43 : x31_26 = true
       ·subst c43
        have H1 : (spec_SwapTowards.l0 kj26 (wrap64 (x6_1 + 1)) a0_0 a0_1 a0_2 a1_0 a1_1 a1_2) = some (r1, r2, r3, r4) := by rw [if_pos rfl] at H; exact H
        clear H
        have H := H1
        clear H1
        have H' := Aside0.mk H
        clear H
        go_wp2
        go_roundg kj26
        case measure => have := HK1.out; have := HJ26.out; omega
        case rel => exact ⟨(wrap64 (x6_1 + 1)), (x504000_1), (x504001_1), (x504002_1), (by first | rfl | (simp; done) | (simp [*]; done)), H', ⟨by have := HK1.out; have := HJ26.out; omega⟩, ⟨bk_ BK501.out⟩, ⟨bk_ BK502.out⟩, ⟨bk_ BK503.out⟩, ⟨hb3_ HB.out GE501.out GE502.out GE503.out⟩⟩
       ·replace c43 := Bool.eq_false_iff.mpr c43
        subst c43
        have H1 : ((spec_LoopGaps.f kj26 a0_0 a0_1 a0_2 x6_1).bind fun t508 => (spec_SwapTowards.l1 kj26 x6_1 t508 0 a0_0 a0_1 a0_2 a1_0 a1_1 a1_2)) = some (r1, r2, r3, r4) := by rw [if_neg (show ¬ (false = true) by decide)] at H; exact H
        clear H
        have H := H1
        clear H1
        replace H := Option.bind_eq_some_iff.mp H
        obtain ⟨t508, A440, H⟩ := H
        replace H : (spec_SwapTowards.l1 kj26 x6_1 t508 0 a0_0 a0_1 a0_2 a1_0 a1_1 a1_2) = some (r1, r2, r3, r4) := H
        have A44 := Aside0.mk A440
        clear A440
        have H' := Aside0.mk H
        clear H
        have hnb45 := NB501_502.out
        have hnc45 := NB502_501.out
        have hnb46 := NB501_503.out
        have hnc46 := NB503_501.out
        obtain ⟨hcz47_0, hcz47_1, hcz47_2⟩ := cz3_ BK501.out
        obtain ⟨hfz47_0, hfz47_1, hfz47_2⟩ := fz3_ BK501.out
        go_wp2_with (first | (refine gl_ 34 Tryd.func14 #[.agg #[.int .i64 a0_0, .int .i64 a0_1, .int .i64 a0_2], .int .i64 x6_1] ?_; (with_reducible refine (spec_LoopGaps.calls kj26 a0_0 a0_1 a0_2 x6_1 t508 _ A44.out).mono ?_); rintro e w48 ⟨v509, rfl, ho0, hb⟩; refine ⟨_, rfl, ?_⟩; have HO510 := Aside0.mk (Kd.R_lower ho0 (below_size (hb3_ HB.out GE501.out GE502.out GE503.out))); replace BK501 := BK501.bb hb; replace BK502 := BK502.bb hb; replace BK503 := BK503.bb hb; replace HB := HB.s3 GE501 GE502 GE503 hb; (try clear hb); (try clear ho0)))
        go_loopg [8] kj26 (fun kq v8 w' => ∃ (x8_3 : Int) (x504000_3 : Int) (x504001_3 : Int) (x504002_3 : Int), v8 = .int .i64 x8_3 ∧ Aside0 (spec_SwapTowards.l1 kq x6_1 t508 x8_3 a0_0 a0_1 a0_2 a1_0 a1_1 a1_2 = some (r1, r2, r3, r4)) ∧ Aside0 (kq ≤ kj26) ∧ Aside0 (Kd.R (Kd.int .i64) 3 w' w.heap.size (fun _ => True) v509 t508) ∧ Aside0 (w'.heap[gb501]? = some (.cells #[.int .i64 a0_0, .int .i64 a0_1, .int .i64 a0_2] 28 (0, 0))) ∧ Aside0 (w'.heap[gb502]? = some (.cells #[.int .i64 a1_0, .int .i64 a1_1, .int .i64 a1_2] 28 (0, 0))) ∧ Aside0 (w'.heap[gb503]? = some (.cells #[.int .i64 x504000_3, .int .i64 x504001_3, .int .i64 x504002_3] 28 (0, 0))) ∧ Aside0 (Below w.heap.size w w'))
        case atStart => exact ⟨(0), (x504000_1), (x504001_1), (x504002_1), (by first | rfl | (simp; done) | (simp [*]; done)), H', ⟨Nat.le_refl _⟩, ⟨kr_ HO510.out⟩, ⟨bk_ BK501.out⟩, ⟨bk_ BK502.out⟩, ⟨bk_ BK503.out⟩, ⟨hb3_ HB.out GE501.out GE502.out GE503.out⟩⟩
        case round =>
         clear H'
         try clear c1
         try clear c2
         try clear p2
         try clear c3
         try clear c4
         try clear c4b0
         try clear c5
         try clear p6
         try clear c8
         try clear c9
         try clear c11
         try clear c12
         try clear c13
         try clear c14
         try clear c19
         try clear c20
         try clear c22
         try clear c26
         try clear c26b0
         try clear c28
         try clear c29
         try clear c33
         try clear c35
         try clear c36
         try clear c38
         try clear c40
         try clear c41
         try clear c43
         try clear c45
         try clear c46
         try clear hcz10_0
         try clear hcz10_1
         try clear hcz10_2
         try clear hcz12_0
         try clear hcz12_1
         try clear hcz12_2
         try clear hcz14_0
         try clear hcz14_1
         try clear hcz14_2
         try clear hcz15_0
         try clear hcz15_1
         try clear hcz15_2
         try clear hcz21_0
         try clear hcz21_1
         try clear hcz21_2
         try clear hcz23_0
         try clear hcz23_1
         try clear hcz23_2
         try clear hcz30_0
         try clear hcz30_1
         try clear hcz30_2
         try clear hcz37_0
         try clear hcz37_1
         try clear hcz37_2
         try clear hcz39_0
         try clear hcz39_1
         try clear hcz39_2
         try clear hcz42_0
         try clear hcz42_1
         try clear hcz42_2
         try clear hcz47_0
         try clear hcz47_1
         try clear hcz47_2
         try clear hfz10_0
         try clear hfz10_1
         try clear hfz10_2
         try clear hfz12_0
         try clear hfz12_1
         try clear hfz12_2
         try clear hfz14_0
         try clear hfz14_1
         try clear hfz14_2
         try clear hfz15_0
         try clear hfz15_1
         try clear hfz15_2
         try clear hfz21_0
         try clear hfz21_1
         try clear hfz21_2
         try clear hfz23_0
         try clear hfz23_1
         try clear hfz23_2
         try clear hfz30_0
         try clear hfz30_1
         try clear hfz30_2
         try clear hfz37_0
         try clear hfz37_1
         try clear hfz37_2
         try clear hfz39_0
         try clear hfz39_1
         try clear hfz39_2
         try clear hfz42_0
         try clear hfz42_1
         try clear hfz42_2
         try clear hfz47_0
         try clear hfz47_1
         try clear hfz47_2
         try clear p2
         obtain ⟨x8_3, x504000_3, x504001_3, x504002_3, rfl, HA, HK3, HO_7, BK501, BK502, BK503, HB⟩ := hrel
         cases gk with
         | zero => exact absurd HA.out (by simp [spec_SwapTowards.l1])
         | succ k3 =>
          have H := HA.out
          clear HA
          simp only [spec_SwapTowards.l1] at H
          by_cases c49 : x8_3 < (t508.length : Int)
          ·rw [if_pos c49] at H
           have c49b0 : decide (x8_3 < (t508.length : Int)) = true := decide_eq_true c49
           clear c49
           by_cases c50 : 0 ≤ x8_3
           ·rw [if_pos c50] at H
            have c50b0 : decide (0 ≤ x8_3) = true := decide_eq_true c50
            clear c50
            replace H := Option.bind_eq_some_iff.mp H
            obtain ⟨t512, A510, H⟩ := H
            replace H : (if t512 = true then (spec_SwapTowards.l1 k3 x6_1 t508 (wrap64 (x8_3 + 1)) a0_0 a0_1 a0_2 a1_0 a1_1 a1_2) else ((spec_SwapGaps.f k3 a0_0 a0_1 a0_2 x6_1 (rd t508 x8_3)).bind fun bt514 => (some (bt514.1, bt514.2.1, bt514.2.2.1, bt514.2.2.2)))) = some (r1, r2, r3, r4) := H
            have A51 := Aside0.mk A510
            clear A510
            by_cases c52 : t512 = true
            ·subst c52
             have H1 : (spec_SwapTowards.l1 k3 x6_1 t508 (wrap64 (x8_3 + 1)) a0_0 a0_1 a0_2 a1_0 a1_1 a1_2) = some (r1, r2, r3, r4) := by rw [if_pos rfl] at H; exact H
             clear H
             have H := H1
             clear H1
             have H' := Aside0.mk H
             clear H
             obtain ⟨Ao53, co53, eo53⟩ := Kd.R_slice HO_7.out
             subst eo53
             try go_wp2
             replace HO_7 := Aside0.mk (Kd.R_drew HO_7.out)
             replace BK501 := Aside0.mk (blk_drew BK501.out)
             replace BK502 := Aside0.mk (blk_drew BK502.out)
             replace BK503 := Aside0.mk (blk_drew BK503.out)
             replace HB := Aside0.mk (below_drew1 HB.out)
             have p511 : 0 ≤ (x8_3 : Int) := of_decide_eq_true (as_)
             have q511 : x8_3 < (t508.length : Int) := of_decide_eq_true (as_)
             obtain ⟨ad511, e511, hx511_0⟩ := Kd.at_int (Kd.R_reads' HO_7.out).2.2 x8_3 p511 q511
             cases e511
             replace p511 := eq_true p511
             replace q511 := eq_true q511
             refine start_ (n := 8) (S := fun w' => w'.cell? ⟨gb502, 0, none⟩ = some (.int .i64 a1_0) ∧ w'.cell? ⟨gb502, 1, none⟩ = some (.int .i64 a1_1) ∧ w'.cell? ⟨gb502, 2, none⟩ = some (.int .i64 a1_2) ∧ w'.cell? (ad511.add (x8_3).toNat) = some (.int .i64 (rd t508 x8_3))) (ds := []) #[false, false, false, false, false, false, false, false] (by kernel_rfl) rfl rfl ⟨BK502.c 0, BK502.c 1, BK502.c 2, hx511_0⟩ (fun hHeld => ?_); refine with_tabW spec_SwapTowards.tab11 spec_SwapTowards.bits11 (fun HT_ HW_ => ?_)
             generalize wr.drew = w54 at HO_7 BK501 BK502 BK503 HB hx511_0 hHeld ⊢
             refine pv_ (i := 0) (N := some 41) HT_.out ?_
             refine pv_ (i := 2) (N := some 43) HT_.out ?_
             refine pv_ (i := 3) (N := some 44) HT_.out ?_
             refine pv_ (i := 4) (N := some 45) HT_.out ?_
             refine tv4_ (i := 1) (N := some 42) HT_.out HW_.out hHeld ?_
             refine tv4_ (i := 5) (N := some 46) HT_.out HW_.out hHeld ?_
             refine ov_ (i := 6) (N := some 47) HT_.out (fun K hK => ?_)
             refine gq_ Tryd.func13 #[.int .i64 a1_2, .int .i64 (rd t508 x8_3)] ?_
             with_reducible refine (spec_l03Bit.calls a1_2 (rd t508 x8_3) true _ A51.out).mono ?_
             rintro e w' ⟨rfl, ⟨nd, rfl⟩⟩
             refine ⟨_, rfl, ?_⟩
             refine hK.out _ _ ⟨BK502.c 0, BK502.c 1, BK502.c 2, hHeld.2.2.2⟩ (fun hHeld => ?_)
             clear hK K
             refine nm_ ?_
             refine pv_ (i := 7) (N := some 48) HT_.out ?_
             refine done_ (done_of HT_.out (by kernel_rfl)) ?_
             try go_wp2
             go_roundg k3
             case measure => have := HK1.out; have := HJ26.out; have := HK3.out; omega
             case rel => exact ⟨(wrap64 (x8_3 + 1)), (x504000_3), (x504001_3), (x504002_3), (by first | rfl | (simp; done) | (simp [*]; done)), H', ⟨by have := HK1.out; have := HJ26.out; have := HK3.out; omega⟩, ⟨kr_ HO_7.out⟩, ⟨bk_ BK501.out⟩, ⟨bk_ BK502.out⟩, ⟨bk_ BK503.out⟩, ⟨hb3_ HB.out GE501.out GE502.out GE503.out⟩⟩
            ·replace c52 := Bool.eq_false_iff.mpr c52
             subst c52
             have H1 : ((spec_SwapGaps.f k3 a0_0 a0_1 a0_2 x6_1 (rd t508 x8_3)).bind fun bt514 => (some (bt514.1, bt514.2.1, bt514.2.2.1, bt514.2.2.2))) = some (r1, r2, r3, r4) := by rw [if_neg (show ¬ (false = true) by decide)] at H; exact H
             clear H
             have H := H1
             clear H1
             replace H := Option.bind_eq_some_iff.mp H
             obtain ⟨⟨t514, t515, t516, t517⟩, A550, H⟩ := H
             replace H : (some (t514, t515, t516, t517)) = some (r1, r2, r3, r4) := H
             have A55 := Aside0.mk A550
             clear A550
             simp only [Option.some.injEq, Prod.mk.injEq] at H
             obtain ⟨rfl, rfl, rfl, rfl⟩ := H
             obtain ⟨Ao56, co56, eo56⟩ := Kd.R_slice HO_7.out
             subst eo56
             try go_wp2
             replace HO_7 := Aside0.mk (Kd.R_drew HO_7.out)
             replace BK501 := Aside0.mk (blk_drew BK501.out)
             replace BK502 := Aside0.mk (blk_drew BK502.out)
             replace BK503 := Aside0.mk (blk_drew BK503.out)
             replace HB := Aside0.mk (below_drew1 HB.out)
             have p511 : 0 ≤ (x8_3 : Int) := of_decide_eq_true (as_)
             have q511 : x8_3 < (t508.length : Int) := of_decide_eq_true (as_)
             obtain ⟨ad511, e511, hx511_0⟩ := Kd.at_int (Kd.R_reads' HO_7.out).2.2 x8_3 p511 q511
             cases e511
             replace p511 := eq_true p511
             replace q511 := eq_true q511
             refine start_ (n := 8) (S := fun w' => w'.cell? ⟨gb502, 0, none⟩ = some (.int .i64 a1_0) ∧ w'.cell? ⟨gb502, 1, none⟩ = some (.int .i64 a1_1) ∧ w'.cell? ⟨gb502, 2, none⟩ = some (.int .i64 a1_2) ∧ w'.cell? (ad511.add (x8_3).toNat) = some (.int .i64 (rd t508 x8_3))) (ds := []) #[false, false, false, false, false, false, false, false] (by kernel_rfl) rfl rfl ⟨BK502.c 0, BK502.c 1, BK502.c 2, hx511_0⟩ (fun hHeld => ?_); refine with_tabW spec_SwapTowards.tab11 spec_SwapTowards.bits11 (fun HT_ HW_ => ?_)
             generalize wr.drew = w57 at HO_7 BK501 BK502 BK503 HB hx511_0 hHeld ⊢
             refine pv_ (i := 0) (N := some 41) HT_.out ?_
             refine pv_ (i := 2) (N := some 43) HT_.out ?_
             refine pv_ (i := 3) (N := some 44) HT_.out ?_
             refine pv_ (i := 4) (N := some 45) HT_.out ?_
             refine tv4_ (i := 1) (N := some 42) HT_.out HW_.out hHeld ?_
             refine tv4_ (i := 5) (N := some 46) HT_.out HW_.out hHeld ?_
             refine ov_ (i := 6) (N := some 47) HT_.out (fun K hK => ?_)
             refine gq_ Tryd.func13 #[.int .i64 a1_2, .int .i64 (rd t508 x8_3)] ?_
             with_reducible refine (spec_l03Bit.calls a1_2 (rd t508 x8_3) false _ A51.out).mono ?_
             rintro e w' ⟨rfl, ⟨nd, rfl⟩⟩
             refine ⟨_, rfl, ?_⟩
             refine hK.out _ _ ⟨BK502.c 0, BK502.c 1, BK502.c 2, hHeld.2.2.2⟩ (fun hHeld => ?_)
             clear hK K
             refine nm_ ?_
             refine pv_ (i := 7) (N := some 48) HT_.out ?_
             refine done_ (done_of HT_.out (by kernel_rfl)) ?_
             try go_wp2
             (try (rw [drewN_self w57]; generalize hq_ : World.drewN w57 _ = w57; have n0_ : Aside0 (Kd.R (Kd.int .i64) 3 w57 w.heap.size (fun _ => True) (.slice (some ad511) t508.length co56) t508) := ⟨by rw [← hq_]; exact (kr_ HO_7.out)⟩; have n1_ : Aside0 (w57.heap[gb501]? = some (.cells #[.int .i64 a0_0, .int .i64 a0_1, .int .i64 a0_2] 28 (0, 0))) := ⟨by rw [← hq_]; exact (bk_ BK501.out)⟩; have n2_ : Aside0 (w57.heap[gb502]? = some (.cells #[.int .i64 a1_0, .int .i64 a1_1, .int .i64 a1_2] 28 (0, 0))) := ⟨by rw [← hq_]; exact (bk_ BK502.out)⟩; have n3_ : Aside0 (w57.heap[gb503]? = some (.cells #[.int .i64 x504000_3, .int .i64 x504001_3, .int .i64 x504002_3] 28 (0, 0))) := ⟨by rw [← hq_]; exact (bk_ BK503.out)⟩; have n4_ : Aside0 (Below w.heap.size w w57) := ⟨by rw [← hq_]; exact (hb3_ HB.out GE501.out GE502.out GE503.out)⟩; clear HO_7 BK501 BK502 BK503 HB hq_; have HO_7 := n0_; have BK501 := n1_; have BK502 := n2_; have BK503 := n3_; have HB := n4_; clear n0_ n1_ n2_ n3_ n4_))
             replace HO_7 := Aside0.mk (Kd.R_drew HO_7.out)
             replace BK501 := Aside0.mk (blk_drew BK501.out)
             replace BK502 := Aside0.mk (blk_drew BK502.out)
             replace BK503 := Aside0.mk (blk_drew BK503.out)
             replace HB := Aside0.mk (below_drew1 HB.out)
             have p513 : 0 ≤ (x8_3 : Int) := of_decide_eq_true (as_)
             have q513 : x8_3 < (t508.length : Int) := of_decide_eq_true (as_)
             obtain ⟨ad513, e513, hx513_0⟩ := Kd.at_int (Kd.R_reads' HO_7.out).2.2 x8_3 p513 q513
             obtain rfl : ad511 = ad513 := (by injection e513)
             replace p513 := eq_true p513
             replace q513 := eq_true q513
             refine start_ (n := 11) (S := fun w' => w'.cell? ⟨gb501, 0, none⟩ = some (.int .i64 a0_0) ∧ w'.cell? ⟨gb501, 1, none⟩ = some (.int .i64 a0_1) ∧ w'.cell? ⟨gb501, 2, none⟩ = some (.int .i64 a0_2) ∧ w'.cell? (ad511.add (x8_3).toNat) = some (.int .i64 (rd t508 x8_3))) (ds := []) #[false, false, false, false, false, false, false, false, false, false, false] (by kernel_rfl) rfl rfl ⟨BK501.c 0, BK501.c 1, BK501.c 2, hx513_0⟩ (fun hHeld => ?_); refine with_tabW spec_SwapTowards.tab12 spec_SwapTowards.bits12 (fun HT_ HW_ => ?_)
             generalize w57.drew = w58 at HO_7 BK501 BK502 BK503 HB hx513_0 hHeld ⊢
             refine pv_ (i := 1) (N := some 50) HT_.out ?_
             refine pv_ (i := 2) (N := some 51) HT_.out ?_
             refine pv_ (i := 3) (N := some 52) HT_.out ?_
             refine pv_ (i := 4) (N := some 53) HT_.out ?_
             refine tv4_ (i := 0) (N := some 49) HT_.out HW_.out hHeld ?_
             refine tv4_ (i := 5) (N := some 54) HT_.out HW_.out hHeld ?_
             refine ov_ (i := 6) (N := some 55) HT_.out (fun K hK => ?_)
             refine gq_ Tryd.func15 #[.agg #[.int .i64 a0_0, .int .i64 a0_1, .int .i64 a0_2], .int .i64 x6_1, .int .i64 (rd t508 x8_3)] ?_
             with_reducible refine (spec_SwapGaps.calls k3 a0_0 a0_1 a0_2 x6_1 (rd t508 x8_3) t514 t515 t516 t517 _ A55.out).mono ?_
             rintro e w59 ⟨rfl, hb⟩
             have HS3_ := (hb.cell (World.block_lt_of_cell? _ _ (hHeld.2.2.2))).trans (hHeld.2.2.2)
             refine ⟨_, rfl, ?_⟩
             replace HO_7 := HO_7.kb hb
             replace BK501 := BK501.bb hb
             replace BK502 := BK502.bb hb
             replace BK503 := BK503.bb hb
             replace HB := HB.s3 GE501 GE502 GE503 hb
             skip
             (try clear hb2)
             (try clear hk)
             (try clear hi)
             refine hK.out _ _ ⟨BK501.c 0, BK501.c 1, BK501.c 2, HS3_⟩ (fun hHeld => ?_)
             clear hK K
             refine nm_ ?_
             refine pv_ (i := 7) (N := some 56) HT_.out ?_
             refine pv_ (i := 8) (N := some 57) HT_.out ?_
             refine one_ (i := 9) (N := none) #[true, true, true, true, true, true, true, true, true, true, false] rfl rfl (one_of HT_.out (by kernel_rfl)) (by decide) (fun K hK => ?_)
             have hs60 : w59.cell? ⟨gb503, 0, none⟩ = some (.int .i64 x504000_3) := BK503.c 0
             have hfs60 := blk_frozen BK503.out 0
             have hns60_0 := NB501_503.out
             have hns60_1 := NB502_503.out
             have hms60_0 := NB503_501.out
             have hms60_1 := NB503_502.out
             have hs61 : w59.cell? ⟨gb503, 1, none⟩ = some (.int .i64 x504001_3) := BK503.c 1
             have hfs61 := blk_frozen BK503.out 1
             have hns61_0 := NB501_503.out
             have hns61_1 := NB502_503.out
             have hms61_0 := NB503_501.out
             have hms61_1 := NB503_502.out
             have hs62 : w59.cell? ⟨gb503, 2, none⟩ = some (.int .i64 x504002_3) := BK503.c 2
             have hfs62 := blk_frozen BK503.out 2
             have hns62_0 := NB501_503.out
             have hns62_1 := NB502_503.out
             have hms62_0 := NB503_501.out
             have hms62_1 := NB503_502.out
             refine skip_ (w1 := ?_) (by rfl) rfl ?_ ?_
             rotate_left
             ·go_simp
              rfl
             refine hK.out _ _ ⟨((cell_far (p := ⟨gb503, _, none⟩) NB501_503.out _).trans (((cell_far (p := ⟨gb503, _, none⟩) NB501_503.out _).trans (((cell_far (p := ⟨gb503, _, none⟩) NB501_503.out _).trans (hHeld.1)))))), ((cell_far (p := ⟨gb503, _, none⟩) NB501_503.out _).trans (((cell_far (p := ⟨gb503, _, none⟩) NB501_503.out _).trans (((cell_far (p := ⟨gb503, _, none⟩) NB501_503.out _).trans (hHeld.2.1)))))), ((cell_far (p := ⟨gb503, _, none⟩) NB501_503.out _).trans (((cell_far (p := ⟨gb503, _, none⟩) NB501_503.out _).trans (((cell_far (p := ⟨gb503, _, none⟩) NB501_503.out _).trans (hHeld.2.2.1)))))), ((cell_far (p := ⟨gb503, _, none⟩) (by first | exact Kd.own_blk (Kd.R_ne HO_7.out BK503.out (by decide)) | (rw [add_block]; exact Kd.own_blk (Kd.R_ne HO_7.out BK503.out (by decide))) | (show (Addr.add _ _).block ≠ _; rw [add_block]; exact Kd.own_blk (Kd.R_ne HO_7.out BK503.out (by decide))) | (dsimp only; exact Kd.own_blk (Kd.R_ne HO_7.out BK503.out (by decide)))) _).trans (((cell_far (p := ⟨gb503, _, none⟩) (by first | exact Kd.own_blk (Kd.R_ne HO_7.out BK503.out (by decide)) | (rw [add_block]; exact Kd.own_blk (Kd.R_ne HO_7.out BK503.out (by decide))) | (show (Addr.add _ _).block ≠ _; rw [add_block]; exact Kd.own_blk (Kd.R_ne HO_7.out BK503.out (by decide))) | (dsimp only; exact Kd.own_blk (Kd.R_ne HO_7.out BK503.out (by decide)))) _).trans (((cell_far (p := ⟨gb503, _, none⟩) (by first | exact Kd.own_blk (Kd.R_ne HO_7.out BK503.out (by decide)) | (rw [add_block]; exact Kd.own_blk (Kd.R_ne HO_7.out BK503.out (by decide))) | (show (Addr.add _ _).block ≠ _; rw [add_block]; exact Kd.own_blk (Kd.R_ne HO_7.out BK503.out (by decide))) | (dsimp only; exact Kd.own_blk (Kd.R_ne HO_7.out BK503.out (by decide)))) _).trans (hHeld.2.2.2))))))⟩ (fun hHeld => ?_)
             clear hK K
             refine pv_ (i := 10) (N := some 5) HT_.out ?_
             refine done_ (done_of HT_.out (by kernel_rfl)) ?_
             try go_wp2
             refine bodyPost_ret (results_ct rfl _ _ gb503 28 #[.int .i64 t514, .int .i64 t515, .int .i64 t516] (0, 0) _ rfl (bq3_ BK503.out) Tryd.underlying28 rfl (by kernel_rfl)) rfl ?_
             exact ⟨ex_, hb3_ HB.out GE501.out GE502.out GE503.out⟩
           ·rw [if_neg c50] at H
            exact absurd H (by simp)
          ·rw [if_neg c49] at H
           have c49b0 : decide (x8_3 < (t508.length : Int)) = false := decide_eq_false c49
           clear c49
           have H' := Aside0.mk H
           clear H
           obtain ⟨Ao63, co63, eo63⟩ := Kd.R_slice HO_7.out
           subst eo63
           go_wp2
           go_roundg k3
           case measure => have := HK1.out; have := HJ26.out; have := HK3.out; omega
           case rel => exact ⟨(wrap64 (x6_1 + 1)), (x504000_3), (x504001_3), (x504002_3), (by first | rfl | (simp; done) | (simp [*]; done)), H', ⟨by have := HK1.out; have := HJ26.out; have := HK3.out; omega⟩, ⟨bk_ BK501.out⟩, ⟨bk_ BK502.out⟩, ⟨bk_ BK503.out⟩, ⟨hb3_ HB.out GE501.out GE502.out GE503.out⟩⟩
    ·rw [if_neg c26] at H
     have c26b0 : decide (x6_1 < t505) = false := decide_eq_false c26
     clear c26
     simp only [Option.some.injEq, Prod.mk.injEq] at H
     obtain ⟨rfl, rfl, rfl, rfl⟩ := H
     have hnb64 := NB501_502.out
     have hnc64 := NB502_501.out
     have hnb65 := NB501_503.out
     have hnc65 := NB503_501.out
     obtain ⟨hcz66_0, hcz66_1, hcz66_2⟩ := cz3_ BK501.out
     obtain ⟨hfz66_0, hfz66_1, hfz66_2⟩ := fz3_ BK501.out
     go_wp2_with (first | (refine gl_ 17 Tryd.func12 #[.agg #[.int .i64 a0_0, .int .i64 a0_1]] ?_; (with_reducible refine (spec_CountGaps.calls a0_0 a0_1 t505 _ A25.out).mono ?_); rintro e w67 ⟨rfl, hb⟩; refine ⟨_, rfl, ?_⟩; replace BK501 := BK501.bb hb; replace BK502 := BK502.bb hb; replace BK503 := BK503.bb hb; replace HB := HB.s3 GE501 GE502 GE503 hb; (try clear hb); obtain ⟨hcz68_0, hcz68_1, hcz68_2⟩ := cz3_ BK501.out; obtain ⟨hfz68_0, hfz68_1, hfz68_2⟩ := fz3_ BK501.out; have hnb69 := NB503_502.out; have hnc69 := NB502_503.out; obtain ⟨hcz70_0, hcz70_1, hcz70_2⟩ := cz3_ BK503.out; obtain ⟨hfz70_0, hfz70_1, hfz70_2⟩ := fz3_ BK503.out))
     refine bodyPost_ret (results_ct rfl _ _ gb503 28 #[.int .i64 a0_0, .int .i64 a0_1, .int .i64 a0_2] (0, 0) _ rfl (bq3_ BK503.out) Tryd.underlying28 rfl (by kernel_rfl)) rfl ?_
     exact ⟨ex_, hb3_ HB.out GE501.out GE502.out GE503.out⟩

end Go.Proofs.YtbdodiaedocmjaaDoor.X
