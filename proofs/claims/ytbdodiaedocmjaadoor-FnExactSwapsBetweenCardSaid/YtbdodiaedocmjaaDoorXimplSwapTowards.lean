-- Written by a program of this session (xprint.py), out of the translation and of hand-written contracts. Lean checks it.
import Derived.Test.YtbdodiaedocmjaaDoorX0
import Derived.Test.YtbdodiaedocmjaaDoorXcmaze
import Derived.Test.YtbdodiaedocmjaaDoorXcswapi
import Derived.Test.YtbdodiaedocmjaaDoorXmathbitsTrailingZeros
namespace Go.Proofs.YtbdodiaedocmjaaDoor.X
open Go.RowKit Go.Proofs.YtbdodiaedocmjaaDoorW.PrintWords Go.Proofs.YtbdodiaedocmjaaDoorW.PrintLast Go.Proofs.YtbdodiaedocmjaaDoorW.PrintMore
attribute [local go_sem] max2_int min2_int max_two min_two max_three min_three max_four min_four   -- for this text's walks alone
set_option linter.unusedVariables false
set_option linter.unusedSimpArgs false

/-! ### impl_SwapTowards: function 7 -/
def impl_SwapTowards.l0 : Nat → Int → List Int → Int → Int → Int → Int → Int → Int → Int → Int → Option (Int × Int × Int × Bool)
 | 0, _, _, _, _, _, _, _, _, _, _ => none
 | k + 1, x6, x23, x24, x25, x502000, x502001, x502002, x503000, x503001, x503002 => if x25 < x24 then (if 0 ≤ x25 then (if x25 < (x23.length : Int) then ((impl_isOpen.f x503000 x503001 x503002 (rd x23 x25)).bind fun t510 => (if t510 = true then (impl_SwapTowards.l0 k x6 x23 x24 (wrap64 (x25 + 1)) x502000 x502001 x502002 x503000 x503001 x503002) else ((impl_SwapGaps.f k x502000 x502001 x502002 x6 (rd x23 x25)).bind fun bt511 => (some (bt511.1, bt511.2.1, bt511.2.2.1, bt511.2.2.2))))) else (none)) else (none)) else (some (x502000, x502001, x502002, false))
def impl_SwapTowards.f (k : Nat) (a0_0 : Int) (a0_1 : Int) (a0_2 : Int) (a1_0 : Int) (a1_1 : Int) (a1_2 : Int) : Option (Int × Int × Int × Bool) := (impl_GapsApart.f k a0_0 a0_1 a0_2 a1_0 a1_1 a1_2).bind fun t504 => (if t504 ≤ 0 then (some (a0_0, a0_1, a0_2, false)) else ((bits_TrailingZeros.f (IntKind.u64.wrap (Go.bits .andNot .i64 a1_2 a0_2))).bind fun t505 => ((impl_LoopGaps.f k a0_0 a0_1 a0_2 t505).bind fun t506 => (impl_SwapTowards.l0 k t505 t506 (t506.length : Int) 0 a0_0 a0_1 a0_2 a1_0 a1_1 a1_2))))
theorem impl_SwapTowards.mono_l : ∀ k, (∀ y0 y1 y2 y3 y4 y5 y6 y7 y8 y9, LeO (impl_SwapTowards.l0 k y0 y1 y2 y3 y4 y5 y6 y7 y8 y9) (impl_SwapTowards.l0 (k + 1) y0 y1 y2 y3 y4 y5 y6 y7 y8 y9))
 | 0 => fun _ _ _ _ _ _ _ _ _ _ r h => by simp [impl_SwapTowards.l0] at h
 | k + 1 => by
  have ih0 := impl_SwapTowards.mono_l k
  ·intro y0 y1 y2 y3 y4 y5 y6 y7 y8 y9
   unfold impl_SwapTowards.l0
   repeat' first
   | (with_reducible exact ih0 ..)
   | (with_reducible exact impl_GapsApart.mono ..)
   | (with_reducible exact impl_LoopGaps.mono ..)
   | (with_reducible exact impl_SwapGaps.mono ..)
   | (with_reducible first | exact lr_ _ | exact ln_ _ | refine li_ ?_ ?_ | refine lb_ ?_ fun _ => ?_)
   | exact ih0 ..
   | exact impl_GapsApart.mono ..
   | exact impl_LoopGaps.mono ..
   | exact impl_SwapGaps.mono ..
   | exact ln_ _ | refine li_ ?_ ?_ | refine lb_ ?_ fun _ => ?_
theorem impl_SwapTowards.mono : ∀ a0 a1 a2 a3 a4 a5 k, LeO (impl_SwapTowards.f k a0 a1 a2 a3 a4 a5) (impl_SwapTowards.f (k + 1) a0 a1 a2 a3 a4 a5) := by
 intro a0 a1 a2 a3 a4 a5 k
 have ih0 := impl_SwapTowards.mono_l k
 unfold impl_SwapTowards.f
 repeat' first
   | (with_reducible exact ih0 ..)
   | (with_reducible exact impl_GapsApart.mono ..)
   | (with_reducible exact impl_LoopGaps.mono ..)
   | (with_reducible exact impl_SwapGaps.mono ..)
   | (with_reducible first | exact lr_ _ | exact ln_ _ | refine li_ ?_ ?_ | refine lb_ ?_ fun _ => ?_)
   | exact ih0 ..
   | exact impl_GapsApart.mono ..
   | exact impl_LoopGaps.mono ..
   | exact impl_SwapGaps.mono ..
   | exact ln_ _ | refine li_ ?_ ?_ | refine lb_ ?_ fun _ => ?_
set_option maxHeartbeats 8000000 in
set_option maxRecDepth 100000 in
theorem impl_SwapTowards.calls (k : Nat) (a0_0 : Int) (a0_1 : Int) (a0_2 : Int) (a1_0 : Int) (a1_1 : Int) (a1_2 : Int) (r1 : Int) (r2 : Int) (r3 : Int) (r4 : Bool) (w : World) (h : impl_SwapTowards.f k a0_0 a0_1 a0_2 a1_0 a1_1 a1_2 = some (r1, r2, r3, r4)) (ht : TzTab w) :
  Calls Tryd.prog 7 #[.agg #[.int .i64 a0_0, .int .i64 a0_1, .int .i64 a0_2], .agg #[.int .i64 a1_0, .int .i64 a1_1, .int .i64 a1_2]] w fun e w' => e = .returned (.tuple #[.agg #[.int .i64 r1, .int .i64 r2, .int .i64 r3], .bool r4]) ∧ Below w.heap.size w w' := by
 have HZ := Aside0.mk ht
 clear ht
 have hu28 := Tryd.underlying28
 have HB := Aside0.mk (Below.refl w.heap.size w)
 have H : ((impl_GapsApart.f k a0_0 a0_1 a0_2 a1_0 a1_1 a1_2).bind fun t504 => (if t504 ≤ 0 then (some (a0_0, a0_1, a0_2, false)) else ((bits_TrailingZeros.f (IntKind.u64.wrap (Go.bits .andNot .i64 a1_2 a0_2))).bind fun t505 => ((impl_LoopGaps.f k a0_0 a0_1 a0_2 t505).bind fun t506 => (impl_SwapTowards.l0 k t505 t506 (t506.length : Int) 0 a0_0 a0_1 a0_2 a1_0 a1_1 a1_2))))) = some (r1, r2, r3, r4) := h
 clear h
 replace H := Option.bind_eq_some_iff.mp H
 obtain ⟨t504, A30, H⟩ := H
 replace H : (if t504 ≤ 0 then (some (a0_0, a0_1, a0_2, false)) else ((bits_TrailingZeros.f (IntKind.u64.wrap (Go.bits .andNot .i64 a1_2 a0_2))).bind fun t505 => ((impl_LoopGaps.f k a0_0 a0_1 a0_2 t505).bind fun t506 => (impl_SwapTowards.l0 k t505 t506 (t506.length : Int) 0 a0_0 a0_1 a0_2 a1_0 a1_1 a1_2)))) = some (r1, r2, r3, r4) := H
 have A3 := Aside0.mk A30
 clear A30
 by_cases c4 : t504 ≤ 0
 ·rw [if_pos c4] at H
  have c4b0 : decide (t504 ≤ 0) = true := decide_eq_true c4
  clear c4
  simp only [Option.some.injEq, Prod.mk.injEq] at H
  obtain ⟨rfl, rfl, rfl, rfl⟩ := H
  go_enter Tryd.func7, Tryd.ntmps7
  go_wp2_with (first | (refine box_ (N := 2) (cs := #[.int .i64 a0_0, .int .i64 a0_1, .int .i64 a0_2]) (t := 28) ?_; intro gb501 hg w5 hbox hb; have BK501 := Aside0.mk (hbox); have GW501 := HB.g0 hg; have GE501 := HB.g0 hg; replace HB := HB.s0 hb; clear hb hbox hg) | (refine box_ (N := 3) (cs := #[.int .i64 a1_0, .int .i64 a1_1, .int .i64 a1_2]) (t := 28) ?_; intro gb502 hg w6 hbox hb; have BK502 := Aside0.mk (hbox); have GW502 := HB.g1 GE501 hg; have GE502 := HB.g1 GE501 hg; replace HB := HB.s1 GE501 hb; have NB501_502 := BK501.nl hg; have NB502_501 := BK501.nr hg; replace BK501 := BK501.bb hb; clear hb hbox hg) | (refine box_ (N := 4) (cs := #[.int .i64 0, .int .i64 0, .int .i64 0]) (t := 28) ?_; intro gb503 hg w7 hbox hb; have BK503 := Aside0.mk (hbox); have GW503 := HB.g2 GE501 GE502 hg; have GE503 := HB.g2 GE501 GE502 hg; replace HB := HB.s2 GE501 GE502 hb; have NB501_503 := BK501.nl hg; have NB503_501 := BK501.nr hg; replace BK501 := BK501.bb hb; have NB502_503 := BK502.nl hg; have NB503_502 := BK502.nr hg; replace BK502 := BK502.bb hb; clear hb hbox hg; have hnb8 := NB501_502.out; have hnc8 := NB502_501.out; have hnb9 := NB501_503.out; have hnc9 := NB503_501.out; obtain ⟨hcz10_0, hcz10_1, hcz10_2⟩ := cz3_ BK501.out; obtain ⟨hfz10_0, hfz10_1, hfz10_2⟩ := fz3_ BK501.out; have hnb11 := NB502_503.out; have hnc11 := NB503_502.out; obtain ⟨hcz12_0, hcz12_1, hcz12_2⟩ := cz3_ BK502.out; obtain ⟨hfz12_0, hfz12_1, hfz12_2⟩ := fz3_ BK502.out) | (refine gl_ 11 Tryd.func17 #[.agg #[.int .i64 a0_0, .int .i64 a0_1, .int .i64 a0_2], .agg #[.int .i64 a1_0, .int .i64 a1_1, .int .i64 a1_2]] ?_; (with_reducible refine (impl_GapsApart.calls k a0_0 a0_1 a0_2 a1_0 a1_1 a1_2 t504 _ A3.out).mono ?_); rintro e w13 ⟨rfl, hb⟩; refine ⟨_, rfl, ?_⟩; replace BK501 := BK501.bb hb; replace BK502 := BK502.bb hb; replace BK503 := BK503.bb hb; replace HB := HB.s3 GE501 GE502 GE503 hb; (try clear hb); obtain ⟨hcz14_0, hcz14_1, hcz14_2⟩ := cz3_ BK501.out; obtain ⟨hfz14_0, hfz14_1, hfz14_2⟩ := fz3_ BK501.out; obtain ⟨hcz15_0, hcz15_1, hcz15_2⟩ := cz3_ BK503.out; obtain ⟨hfz15_0, hfz15_1, hfz15_2⟩ := fz3_ BK503.out))
  refine bodyPost_ret (results_ct rfl _ _ gb503 28 #[.int .i64 a0_0, .int .i64 a0_1, .int .i64 a0_2] (0, 0) _ rfl (bq3_ BK503.out) Tryd.underlying28 rfl (by kernel_rfl)) rfl ?_
  exact ⟨ex_, hb3_ HB.out GE501.out GE502.out GE503.out⟩
 ·rw [if_neg c4] at H
  have c4b0 : decide (t504 ≤ 0) = false := decide_eq_false c4
  clear c4
  replace H := Option.bind_eq_some_iff.mp H
  obtain ⟨t505, A160, H⟩ := H
  replace H : ((impl_LoopGaps.f k a0_0 a0_1 a0_2 t505).bind fun t506 => (impl_SwapTowards.l0 k t505 t506 (t506.length : Int) 0 a0_0 a0_1 a0_2 a1_0 a1_1 a1_2)) = some (r1, r2, r3, r4) := H
  have A16 := Aside0.mk A160
  clear A160
  replace H := Option.bind_eq_some_iff.mp H
  obtain ⟨t506, A170, H⟩ := H
  replace H : (impl_SwapTowards.l0 k t505 t506 (t506.length : Int) 0 a0_0 a0_1 a0_2 a1_0 a1_1 a1_2) = some (r1, r2, r3, r4) := H
  have A17 := Aside0.mk A170
  clear A170
  have H' := Aside0.mk H
  clear H
  go_enter Tryd.func7, Tryd.ntmps7
  go_wp2_with (first | (refine box_ (N := 2) (cs := #[.int .i64 a0_0, .int .i64 a0_1, .int .i64 a0_2]) (t := 28) ?_; intro gb501 hg w18 hbox hb; have BK501 := Aside0.mk (hbox); have GW501 := HB.g0 hg; have GE501 := HB.g0 hg; replace HB := HB.s0 hb; clear hb hbox hg) | (refine box_ (N := 3) (cs := #[.int .i64 a1_0, .int .i64 a1_1, .int .i64 a1_2]) (t := 28) ?_; intro gb502 hg w19 hbox hb; have BK502 := Aside0.mk (hbox); have GW502 := HB.g1 GE501 hg; have GE502 := HB.g1 GE501 hg; replace HB := HB.s1 GE501 hb; have NB501_502 := BK501.nl hg; have NB502_501 := BK501.nr hg; replace BK501 := BK501.bb hb; clear hb hbox hg) | (refine box_ (N := 4) (cs := #[.int .i64 0, .int .i64 0, .int .i64 0]) (t := 28) ?_; intro gb503 hg w20 hbox hb; have BK503 := Aside0.mk (hbox); have GW503 := HB.g2 GE501 GE502 hg; have GE503 := HB.g2 GE501 GE502 hg; replace HB := HB.s2 GE501 GE502 hb; have NB501_503 := BK501.nl hg; have NB503_501 := BK501.nr hg; replace BK501 := BK501.bb hb; have NB502_503 := BK502.nl hg; have NB503_502 := BK502.nr hg; replace BK502 := BK502.bb hb; clear hb hbox hg; have hnb21 := NB501_502.out; have hnc21 := NB502_501.out; have hnb22 := NB501_503.out; have hnc22 := NB503_501.out; obtain ⟨hcz23_0, hcz23_1, hcz23_2⟩ := cz3_ BK501.out; obtain ⟨hfz23_0, hfz23_1, hfz23_2⟩ := fz3_ BK501.out; have hnb24 := NB502_503.out; have hnc24 := NB503_502.out; obtain ⟨hcz25_0, hcz25_1, hcz25_2⟩ := cz3_ BK502.out; obtain ⟨hfz25_0, hfz25_1, hfz25_2⟩ := fz3_ BK502.out) | (refine gl_ 11 Tryd.func17 #[.agg #[.int .i64 a0_0, .int .i64 a0_1, .int .i64 a0_2], .agg #[.int .i64 a1_0, .int .i64 a1_1, .int .i64 a1_2]] ?_; (with_reducible refine (impl_GapsApart.calls k a0_0 a0_1 a0_2 a1_0 a1_1 a1_2 t504 _ A3.out).mono ?_); rintro e w26 ⟨rfl, hb⟩; refine ⟨_, rfl, ?_⟩; replace BK501 := BK501.bb hb; replace BK502 := BK502.bb hb; replace BK503 := BK503.bb hb; replace HB := HB.s3 GE501 GE502 GE503 hb; (try clear hb); obtain ⟨hcz27_0, hcz27_1, hcz27_2⟩ := cz3_ BK502.out; obtain ⟨hfz27_0, hfz27_1, hfz27_2⟩ := fz3_ BK502.out; obtain ⟨hcz28_0, hcz28_1, hcz28_2⟩ := cz3_ BK501.out; obtain ⟨hfz28_0, hfz28_1, hfz28_2⟩ := fz3_ BK501.out) | (refine gl_ 20 Tryd.func18 #[.int .u64 (IntKind.u64.wrap (Go.bits .andNot .i64 a1_2 a0_2))] ?_; (with_reducible refine (bits_TrailingZeros.calls (IntKind.u64.wrap (Go.bits .andNot .i64 a1_2 a0_2)) t505 _ A16.out (HZ.out.move (Nat.le_refl _) (by repeat (first | (with_reducible first | exact HB.out | exact Below.refl _ _ | apply below_alloc | apply pw_below_drewN | apply below_drew1 | refine below_set ?_ GE501.out | refine below_set ?_ GE502.out) | exact HB.out)))).mono ?_); rintro e w' ⟨rfl, ⟨nd, rfl⟩⟩; refine ⟨_, rfl, ?_⟩) | (refine gl_ 23 Tryd.func19 #[.agg #[.int .i64 a0_0, .int .i64 a0_1, .int .i64 a0_2], .int .i64 t505] ?_; (with_reducible refine (impl_LoopGaps.calls k a0_0 a0_1 a0_2 t505 t506 _ A17.out).mono ?_); rintro e w29 ⟨v507, rfl, ho0, hb⟩; refine ⟨_, rfl, ?_⟩; have HO508 := Aside0.mk (Kd.R_lower ho0 (below_size (hb3_ HB.out GE501.out GE502.out GE503.out))); replace BK501 := BK501.bb hb; replace BK502 := BK502.bb hb; replace BK503 := BK503.bb hb; replace HB := HB.s3 GE501 GE502 GE503 hb; (try clear hb); (try clear ho0); obtain ⟨Ao30, co30, eo30⟩ := Kd.R_slice HO508.out; subst eo30))
  go_loopg [25] k (fun kq v25 w' => ∃ (x25_1 : Int) (x504000_1 : Int) (x504001_1 : Int) (x504002_1 : Int), v25 = .int .i64 x25_1 ∧ Aside0 (impl_SwapTowards.l0 kq t505 t506 (t506.length : Int) x25_1 a0_0 a0_1 a0_2 a1_0 a1_1 a1_2 = some (r1, r2, r3, r4)) ∧ Aside0 (kq ≤ k) ∧ Aside0 (Kd.R (Kd.int .i64) 3 w' w.heap.size (fun _ => True) (.slice Ao30 t506.length co30) t506) ∧ Aside0 (w'.heap[gb501]? = some (.cells #[.int .i64 a0_0, .int .i64 a0_1, .int .i64 a0_2] 28 (0, 0))) ∧ Aside0 (w'.heap[gb502]? = some (.cells #[.int .i64 a1_0, .int .i64 a1_1, .int .i64 a1_2] 28 (0, 0))) ∧ Aside0 (w'.heap[gb503]? = some (.cells #[.int .i64 x504000_1, .int .i64 x504001_1, .int .i64 x504002_1] 28 (0, 0))) ∧ Aside0 (Below w.heap.size w w'))
  case atStart => exact ⟨(0), (0), (0), (0), (by first | rfl | (simp; done) | (simp [*]; done)), H', ⟨Nat.le_refl _⟩, ⟨kr_ HO508.out⟩, ⟨bk_ BK501.out⟩, ⟨bk_ BK502.out⟩, ⟨bk_ BK503.out⟩, ⟨hb3_ HB.out GE501.out GE502.out GE503.out⟩⟩
  case round =>
   clear H'
   try clear c1
   try clear c2
   try clear p2
   try clear c4
   try clear c4b0
   try clear c7
   try clear c8
   try clear c9
   try clear c11
   try clear c17
   try clear c18
   try clear c19
   try clear c21
   try clear c22
   try clear c24
   try clear hcz10_0
   try clear hcz10_1
   try clear hcz10_2
   try clear hcz12_0
   try clear hcz12_1
   try clear hcz12_2
   try clear hcz14_0
   try clear hcz14_1
   try clear hcz14_2
   try clear hcz15_0
   try clear hcz15_1
   try clear hcz15_2
   try clear hcz23_0
   try clear hcz23_1
   try clear hcz23_2
   try clear hcz25_0
   try clear hcz25_1
   try clear hcz25_2
   try clear hcz27_0
   try clear hcz27_1
   try clear hcz27_2
   try clear hcz28_0
   try clear hcz28_1
   try clear hcz28_2
   try clear hfz10_0
   try clear hfz10_1
   try clear hfz10_2
   try clear hfz12_0
   try clear hfz12_1
   try clear hfz12_2
   try clear hfz14_0
   try clear hfz14_1
   try clear hfz14_2
   try clear hfz15_0
   try clear hfz15_1
   try clear hfz15_2
   try clear hfz23_0
   try clear hfz23_1
   try clear hfz23_2
   try clear hfz25_0
   try clear hfz25_1
   try clear hfz25_2
   try clear hfz27_0
   try clear hfz27_1
   try clear hfz27_2
   try clear hfz28_0
   try clear hfz28_1
   try clear hfz28_2
   obtain ⟨x25_1, x504000_1, x504001_1, x504002_1, rfl, HA, HK1, HO_23, BK501, BK502, BK503, HB⟩ := hrel
   cases gk with
   | zero => exact absurd HA.out (by simp [impl_SwapTowards.l0])
   | succ k1 =>
    have H := HA.out
    clear HA
    simp only [impl_SwapTowards.l0] at H
    by_cases c31 : x25_1 < (t506.length : Int)
    ·rw [if_pos c31] at H
     have c31b0 : decide (x25_1 < (t506.length : Int)) = true := decide_eq_true c31
     clear c31
     by_cases c32 : 0 ≤ x25_1
     ·rw [if_pos c32] at H
      have c32b0 : decide (0 ≤ x25_1) = true := decide_eq_true c32
      clear c32
      by_cases c33 : x25_1 < (t506.length : Int)
      ·rw [if_pos c33] at H
       have c33b0 : decide (x25_1 < (t506.length : Int)) = true := decide_eq_true c33
       clear c33
       replace H := Option.bind_eq_some_iff.mp H
       obtain ⟨t510, A340, H⟩ := H
       replace H : (if t510 = true then (impl_SwapTowards.l0 k1 t505 t506 (t506.length : Int) (wrap64 (x25_1 + 1)) a0_0 a0_1 a0_2 a1_0 a1_1 a1_2) else ((impl_SwapGaps.f k1 a0_0 a0_1 a0_2 t505 (rd t506 x25_1)).bind fun bt511 => (some (bt511.1, bt511.2.1, bt511.2.2.1, bt511.2.2.2)))) = some (r1, r2, r3, r4) := H
       have A34 := Aside0.mk A340
       clear A340
       by_cases c35 : t510 = true
       ·subst c35
        have H1 : (impl_SwapTowards.l0 k1 t505 t506 (t506.length : Int) (wrap64 (x25_1 + 1)) a0_0 a0_1 a0_2 a1_0 a1_1 a1_2) = some (r1, r2, r3, r4) := by rw [if_pos rfl] at H; exact H
        clear H
        have H := H1
        clear H1
        have H' := Aside0.mk H
        clear H
        have p509 : 0 ≤ (x25_1 : Int) := of_decide_eq_true (as_)
        have q509 : x25_1 < (t506.length : Int) := of_decide_eq_true (as_)
        obtain ⟨ad509, e509, hx509_0⟩ := Kd.at_int (Kd.R_reads' HO_23.out).2.2 x25_1 p509 q509
        cases e509
        replace p509 := eq_true p509
        replace q509 := eq_true q509
        have hnb36 := NB502_501.out
        have hnc36 := NB501_502.out
        have hnb37 := NB502_503.out
        have hnc37 := NB503_502.out
        obtain ⟨hcz38_0, hcz38_1, hcz38_2⟩ := cz3_ BK502.out
        obtain ⟨hfz38_0, hfz38_1, hfz38_2⟩ := fz3_ BK502.out
        go_wp2_with (first | (refine gl_ 31 Tryd.func20 #[.agg #[.int .i64 a1_0, .int .i64 a1_1, .int .i64 a1_2], .int .i64 (rd t506 x25_1)] ?_; (with_reducible refine (impl_isOpen.calls a1_0 a1_1 a1_2 (rd t506 x25_1) true _ A34.out).mono ?_); rintro e w39 ⟨rfl, hb⟩; refine ⟨_, rfl, ?_⟩; replace HO_23 := HO_23.kb hb; replace BK501 := BK501.bb hb; replace BK502 := BK502.bb hb; replace BK503 := BK503.bb hb; replace HB := HB.s3 GE501 GE502 GE503 hb; (try clear hb)))
        go_roundg k1
        case measure => have := HK1.out; omega
        case rel => exact ⟨(wrap64 (x25_1 + 1)), (x504000_1), (x504001_1), (x504002_1), (by first | rfl | (simp; done) | (simp [*]; done)), H', ⟨by have := HK1.out; omega⟩, ⟨kr_ HO_23.out⟩, ⟨bk_ BK501.out⟩, ⟨bk_ BK502.out⟩, ⟨bk_ BK503.out⟩, ⟨hb3_ HB.out GE501.out GE502.out GE503.out⟩⟩
       ·replace c35 := Bool.eq_false_iff.mpr c35
        subst c35
        have H1 : ((impl_SwapGaps.f k1 a0_0 a0_1 a0_2 t505 (rd t506 x25_1)).bind fun bt511 => (some (bt511.1, bt511.2.1, bt511.2.2.1, bt511.2.2.2))) = some (r1, r2, r3, r4) := by rw [if_neg (show ¬ (false = true) by decide)] at H; exact H
        clear H
        have H := H1
        clear H1
        replace H := Option.bind_eq_some_iff.mp H
        obtain ⟨⟨t511, t512, t513, t514⟩, A400, H⟩ := H
        replace H : (some (t511, t512, t513, t514)) = some (r1, r2, r3, r4) := H
        have A40 := Aside0.mk A400
        clear A400
        simp only [Option.some.injEq, Prod.mk.injEq] at H
        obtain ⟨rfl, rfl, rfl, rfl⟩ := H
        have p509 : 0 ≤ (x25_1 : Int) := of_decide_eq_true (as_)
        have q509 : x25_1 < (t506.length : Int) := of_decide_eq_true (as_)
        obtain ⟨ad509, e509, hx509_0⟩ := Kd.at_int (Kd.R_reads' HO_23.out).2.2 x25_1 p509 q509
        cases e509
        replace p509 := eq_true p509
        replace q509 := eq_true q509
        have hnb41 := NB502_501.out
        have hnc41 := NB501_502.out
        have hnb42 := NB502_503.out
        have hnc42 := NB503_502.out
        obtain ⟨hcz43_0, hcz43_1, hcz43_2⟩ := cz3_ BK502.out
        obtain ⟨hfz43_0, hfz43_1, hfz43_2⟩ := fz3_ BK502.out
        go_wp2_with (first | (refine gl_ 31 Tryd.func20 #[.agg #[.int .i64 a1_0, .int .i64 a1_1, .int .i64 a1_2], .int .i64 (rd t506 x25_1)] ?_; (with_reducible refine (impl_isOpen.calls a1_0 a1_1 a1_2 (rd t506 x25_1) false _ A34.out).mono ?_); rintro e w44 ⟨rfl, hb⟩; refine ⟨_, rfl, ?_⟩; replace HO_23 := HO_23.kb hb; replace BK501 := BK501.bb hb; replace BK502 := BK502.bb hb; replace BK503 := BK503.bb hb; replace HB := HB.s3 GE501 GE502 GE503 hb; (try clear hb); have hnb45 := NB501_503.out; have hnc45 := NB503_501.out; obtain ⟨hcz46_0, hcz46_1, hcz46_2⟩ := cz3_ BK501.out; obtain ⟨hfz46_0, hfz46_1, hfz46_2⟩ := fz3_ BK501.out) | (refine gl_ 36 Tryd.func21 #[.agg #[.int .i64 a0_0, .int .i64 a0_1, .int .i64 a0_2], .int .i64 t505, .int .i64 (rd t506 x25_1)] ?_; (with_reducible refine (impl_SwapGaps.calls k1 a0_0 a0_1 a0_2 t505 (rd t506 x25_1) t511 t512 t513 t514 _ A40.out).mono ?_); rintro e w47 ⟨rfl, hb⟩; refine ⟨_, rfl, ?_⟩; replace HO_23 := HO_23.kb hb; replace BK501 := BK501.bb hb; replace BK502 := BK502.bb hb; replace BK503 := BK503.bb hb; replace HB := HB.s3 GE501 GE502 GE503 hb; (try clear hb); obtain ⟨hcz48_0, hcz48_1, hcz48_2⟩ := cz3_ BK503.out; obtain ⟨hfz48_0, hfz48_1, hfz48_2⟩ := fz3_ BK503.out))
        refine bodyPost_ret (results_ct rfl _ _ gb503 28 #[.int .i64 t511, .int .i64 t512, .int .i64 t513] (0, 0) _ rfl (bq3_ BK503.out) Tryd.underlying28 rfl (by kernel_rfl)) rfl ?_
        exact ⟨ex_, hb3_ HB.out GE501.out GE502.out GE503.out⟩
      ·rw [if_neg c33] at H
       exact absurd H (by simp)
     ·rw [if_neg c32] at H
      exact absurd H (by simp)
    ·rw [if_neg c31] at H
     have c31b0 : decide (x25_1 < (t506.length : Int)) = false := decide_eq_false c31
     clear c31
     simp only [Option.some.injEq, Prod.mk.injEq] at H
     obtain ⟨rfl, rfl, rfl, rfl⟩ := H
     have hnb49 := NB501_502.out
     have hnc49 := NB502_501.out
     have hnb50 := NB501_503.out
     have hnc50 := NB503_501.out
     obtain ⟨hcz51_0, hcz51_1, hcz51_2⟩ := cz3_ BK501.out
     obtain ⟨hfz51_0, hfz51_1, hfz51_2⟩ := fz3_ BK501.out
     have hnb52 := NB503_502.out
     have hnc52 := NB502_503.out
     obtain ⟨hcz53_0, hcz53_1, hcz53_2⟩ := cz3_ BK503.out
     obtain ⟨hfz53_0, hfz53_1, hfz53_2⟩ := fz3_ BK503.out
     go_wp2
     refine bodyPost_ret (results_ct rfl _ _ gb503 28 #[.int .i64 a0_0, .int .i64 a0_1, .int .i64 a0_2] (0, 0) _ rfl (bq3_ BK503.out) Tryd.underlying28 rfl (by kernel_rfl)) rfl ?_
     exact ⟨ex_, hb3_ HB.out GE501.out GE502.out GE503.out⟩

end Go.Proofs.YtbdodiaedocmjaaDoor.X
