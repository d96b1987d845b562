-- Written by a program of this session (xprint.py), out of the translation and of hand-written contracts. Lean checks it.
import Derived.Test.YtjmbnlemfdjkfaaX0
import Derived.Test.YtjmbnlemfdjkfaaXcnbr
import Derived.Test.YtjmbnlemfdjkfaaXctrees
import Derived.Test.YtjmbnlemfdjkfaaXimplthread
import Derived.Test.YtjmbnlemfdjkfaaXimplwith
namespace Go.Proofs.Ytjmbnlemfdjkfaa.X
open Go.RowKit Go.Proofs.YtjmbnlemfdjkfaaW.PrintWords Go.Proofs.YtjmbnlemfdjkfaaW.PrintLast Go.Proofs.YtjmbnlemfdjkfaaW.PrintMore
attribute [local go_sem] max2_int min2_int max_two min_two max_three min_three max_four min_four   -- for this text's walks alone
set_option linter.unusedVariables false
set_option linter.unusedSimpArgs false

/-! ### impl_ThreadTree: function 12 (by hand) -/
mutual
def impl_ThreadTree.l0 : Nat → List Int → Int → Int → Int → Int → Int → Int → Int → Int → Option (Int × Int × Int × Bool)
 | 0, _, _, _, _, _, _, _, _, _ => none
 | k + 1, x23, x24, x25, x502000, x502001, x502002, x507000, x507001, x507002 => if x25 < x24 then (if 0 ≤ x25 then (if x25 < (x23.length : Int) then (impl_ThreadTree.l1 k x25 (rd x23 x25) 0 x23 x24 x25 x502000 x502001 x502002 x507000 x507001 x507002) else (none)) else (none)) else ((impl_IsPerfect.f k x507000 x507001 x507002).bind fun t507 => (some (x507000, x507001, x507002, t507)))
def impl_ThreadTree.l1 : Nat → Int → Int → Int → List Int → Int → Int → Int → Int → Int → Int → Int → Int → Option (Int × Int × Int × Bool)
 | 0, _, _, _, _, _, _, _, _, _, _, _, _ => none
 | k + 1, x8, x9, x10, x23, x24, x25, x502000, x502001, x502002, x507000, x507001, x507002 => if x10 ≤ 3 then (if x9 ≥ 0 then ((impl_Neighbor.f k x502000 x502001 x8 x10).bind fun t509 => (impl_ThreadTree.j2 k x8 x9 x10 x23 x24 x25 (t509 == x9) x502000 x502001 x502002 x507000 x507001 x507002)) else (impl_ThreadTree.j2 k x8 x9 x10 x23 x24 x25 false x502000 x502001 x502002 x507000 x507001 x507002)) else (impl_ThreadTree.l0 k x23 x24 (wrap64 (x25 + 1)) x502000 x502001 x502002 x507000 x507001 x507002)
def impl_ThreadTree.j2 : Nat → Int → Int → Int → List Int → Int → Int → Bool → Int → Int → Int → Int → Int → Int → Option (Int × Int × Int × Bool)
 | 0, _, _, _, _, _, _, _, _, _, _, _, _, _ => none
 | k + 1, x8, x9, x10, x23, x24, x25, x44, x502000, x502001, x502002, x507000, x507001, x507002 => if x44 = true then ((impl_GapAt.f k x502000 x502001 x8 x10).bind fun t510 => ((impl_with.f x507000 x507001 x507002 t510 true).bind fun bt511 => (impl_ThreadTree.l1 k x8 x9 (wrap64 (x10 + 1)) x23 x24 x25 x502000 x502001 x502002 bt511.1 bt511.2.1 bt511.2.2))) else (impl_ThreadTree.l1 k x8 x9 (wrap64 (x10 + 1)) x23 x24 x25 x502000 x502001 x502002 x507000 x507001 x507002)
end
def impl_ThreadTree.f (k : Nat) (a0_0 : Int) (a0_1 : Int) (a0_2 : Int) (a1 : Int) : Option (Int × Int × Int × Bool) := (impl_thread.f k a0_0 a0_1 a0_2 a1).bind fun r => (match r with | none => some (0, 0, 0, false) | some R => impl_ThreadTree.l0 k R.2.1 (R.2.1.length : Int) 0 a0_0 a0_1 a0_2 a0_0 a0_1 0)
theorem impl_ThreadTree.mono_l : ∀ k, (∀ y0 y1 y2 y3 y4 y5 y6 y7 y8, LeO (impl_ThreadTree.l0 k y0 y1 y2 y3 y4 y5 y6 y7 y8) (impl_ThreadTree.l0 (k + 1) y0 y1 y2 y3 y4 y5 y6 y7 y8)) ∧ (∀ y0 y1 y2 y3 y4 y5 y6 y7 y8 y9 y10 y11, LeO (impl_ThreadTree.l1 k y0 y1 y2 y3 y4 y5 y6 y7 y8 y9 y10 y11) (impl_ThreadTree.l1 (k + 1) y0 y1 y2 y3 y4 y5 y6 y7 y8 y9 y10 y11)) ∧ (∀ y0 y1 y2 y3 y4 y5 y6 y7 y8 y9 y10 y11 y12, LeO (impl_ThreadTree.j2 k y0 y1 y2 y3 y4 y5 y6 y7 y8 y9 y10 y11 y12) (impl_ThreadTree.j2 (k + 1) y0 y1 y2 y3 y4 y5 y6 y7 y8 y9 y10 y11 y12))
 | 0 => ⟨fun _ _ _ _ _ _ _ _ _ r h => by simp [impl_ThreadTree.l0] at h, fun _ _ _ _ _ _ _ _ _ _ _ _ r h => by simp [impl_ThreadTree.l1] at h, fun _ _ _ _ _ _ _ _ _ _ _ _ _ r h => by simp [impl_ThreadTree.j2] at h⟩
 | k + 1 => by
  obtain ⟨ih0, ih1, ih2⟩ := impl_ThreadTree.mono_l k
  refine ⟨?_, ?_, ?_⟩
  ·intro y0 y1 y2 y3 y4 y5 y6 y7 y8
   unfold impl_ThreadTree.l0
   repeat' first
   | (with_reducible exact ih0 ..)
   | (with_reducible exact ih1 ..)
   | (with_reducible exact ih2 ..)
   | (with_reducible exact impl_GapAt.mono ..)
   | (with_reducible exact impl_IsPerfect.mono ..)
   | (with_reducible exact impl_Neighbor.mono ..)
   | (with_reducible first | exact LeO.refl _ | exact LeO.none _ | refine LeO.ite ?_ ?_ | refine LeO.bind ?_ (fun _ => ?_))
   | exact ih0 ..
   | exact ih1 ..
   | exact ih2 ..
   | exact impl_GapAt.mono ..
   | exact impl_IsPerfect.mono ..
   | exact impl_Neighbor.mono ..
   | exact LeO.none _ | refine LeO.ite ?_ ?_ | refine LeO.bind ?_ (fun _ => ?_)
  ·intro y0 y1 y2 y3 y4 y5 y6 y7 y8 y9 y10 y11
   unfold impl_ThreadTree.l1
   repeat' first
   | (with_reducible exact ih0 ..)
   | (with_reducible exact ih1 ..)
   | (with_reducible exact ih2 ..)
   | (with_reducible exact impl_GapAt.mono ..)
   | (with_reducible exact impl_IsPerfect.mono ..)
   | (with_reducible exact impl_Neighbor.mono ..)
   | (with_reducible first | exact LeO.refl _ | exact LeO.none _ | refine LeO.ite ?_ ?_ | refine LeO.bind ?_ (fun _ => ?_))
   | exact ih0 ..
   | exact ih1 ..
   | exact ih2 ..
   | exact impl_GapAt.mono ..
   | exact impl_IsPerfect.mono ..
   | exact impl_Neighbor.mono ..
   | exact LeO.none _ | refine LeO.ite ?_ ?_ | refine LeO.bind ?_ (fun _ => ?_)
  ·intro y0 y1 y2 y3 y4 y5 y6 y7 y8 y9 y10 y11 y12
   unfold impl_ThreadTree.j2
   repeat' first
   | (with_reducible exact ih0 ..)
   | (with_reducible exact ih1 ..)
   | (with_reducible exact ih2 ..)
   | (with_reducible exact impl_GapAt.mono ..)
   | (with_reducible exact impl_IsPerfect.mono ..)
   | (with_reducible exact impl_Neighbor.mono ..)
   | (with_reducible first | exact LeO.refl _ | exact LeO.none _ | refine LeO.ite ?_ ?_ | refine LeO.bind ?_ (fun _ => ?_))
   | exact ih0 ..
   | exact ih1 ..
   | exact ih2 ..
   | exact impl_GapAt.mono ..
   | exact impl_IsPerfect.mono ..
   | exact impl_Neighbor.mono ..
   | exact LeO.none _ | refine LeO.ite ?_ ?_ | refine LeO.bind ?_ (fun _ => ?_)
theorem impl_ThreadTree.mono : ∀ a0 a1 a2 a3 k, LeO (impl_ThreadTree.f k a0 a1 a2 a3) (impl_ThreadTree.f (k + 1) a0 a1 a2 a3) := by
 intro a0 a1 a2 a3 k
 refine LeO.bind (impl_thread.mono _ _ _ _ _) (fun r => ?_)
 cases r with
 | none => exact LeO.refl _
 | some R => exact (impl_ThreadTree.mono_l k).1 _ _ _ _ _ _ _ _ _
def impl_ThreadTree.T12 : Bool × List (List Nat × List Nat) := (true, [([], []), ([], []), ([1], [1]), ([], []), ([], []), ([2, 3, 4], [2, 3, 4]), ([0, 5, 5], [0, 5]), ([6, 6, 0, 1, 2, 3, 4, 5, 6], [6])])
def impl_ThreadTree.B12 : List Nat := [0, 0, 2, 0, 0, 30, 63, 127]
theorem impl_ThreadTree.tab12 : rtab .any (opsOf Try.f12 12) = impl_ThreadTree.T12 := by kernel_rfl
theorem impl_ThreadTree.bits12 : waitsOk impl_ThreadTree.T12.2 impl_ThreadTree.B12 = true := by kernel_rfl
set_option maxHeartbeats 8000000 in
set_option maxRecDepth 100000 in
theorem impl_ThreadTree.calls (k : Nat) (a0_0 : Int) (a0_1 : Int) (a0_2 : Int) (a1 : Int) (r1 : Int) (r2 : Int) (r3 : Int) (r4 : Bool) (w : World) (h : impl_ThreadTree.f k a0_0 a0_1 a0_2 a1 = some (r1, r2, r3, r4)) :
  Calls Try.prog 12 #[.agg #[.int .i64 a0_0, .int .i64 a0_1, .int .i64 a0_2], .int .i64 a1] w fun e w' => e = .returned (.tuple #[.agg #[.int .i64 r1, .int .i64 r2, .int .i64 r3], .bool r4]) ∧ Below w.heap.size w w' := by
 have hu29 := Try.underlying28
 have hu27 := Try.underlying26
 have HB := Aside0.mk (Below.refl w.heap.size w)
 unfold impl_ThreadTree.f at h
 have hu82 := Try.underlying59
 obtain ⟨q, hq, H⟩ := Option.bind_eq_some_iff.mp h
 clear h
 have hs := thread_split hq
 clear hq
 rcases hs with ⟨hq0, hin⟩ | ⟨n, fr, R, hq0, hin, hn, hr, ht⟩
 ·subst hq0
  have A1 := Aside0.mk hin
  clear hin
  replace H : some (0, 0, 0, false) = some (r1, r2, r3, r4) := H
  simp only [Option.some.injEq, Prod.mk.injEq] at H
  obtain ⟨rfl, rfl, rfl, rfl⟩ := H
  go_enter Try.func12, Try.ntmps12
  go_wp2_with (first | (refine box_ (N := 2) (cs := #[.int .i64 a0_0, .int .i64 a0_1, .int .i64 a0_2]) (t := 28) ?_; intro gb501 hg w5 hbox hb; have BK501 := Aside0.mk (hbox); have GW501 := HB.g0 hg; have GE501 := HB.g0 hg; replace HB := HB.s0 hb; clear hb hbox hg) | (refine box_ (N := 4) (cs := #[.int .i64 0, .int .i64 0, .int .i64 0]) (t := 28) ?_; intro gb502 hg w6 hbox hb; have BK502 := Aside0.mk (hbox); have GW502 := HB.g1 GE501 hg; have GE502 := HB.g1 GE501 hg; replace HB := HB.s1 GE501 hb; have NB501_502 := BK501.nl hg; have NB502_501 := BK501.nr hg; replace BK501 := BK501.bb hb; clear hb hbox hg; have hnb7 := NB501_502.out; have hnc7 := NB502_501.out; obtain ⟨hcz8_0, hcz8_1, hcz8_2⟩ := cz3_ BK501.out; obtain ⟨hfz8_0, hfz8_1, hfz8_2⟩ := fz3_ BK501.out) | (go_at_call 26; refine (impl_thread.no a0_0 a0_1 a0_2 a1 _ A1.out).mono ?_; rintro e w9 ⟨rfl, hb⟩; replace BK501 := BK501.bb hb; replace BK502 := BK502.bb hb; replace HB := HB.s2 GE501 GE502 hb; (try clear hb); obtain ⟨hcz10_0, hcz10_1, hcz10_2⟩ := cz3_ BK502.out; obtain ⟨hfz10_0, hfz10_1, hfz10_2⟩ := fz3_ BK502.out))
  refine bodyPost_ret (results_ct rfl _ _ gb502 28 #[.int .i64 0, .int .i64 0, .int .i64 0] (0, 0) _ rfl (bq3_ BK502.out) Try.underlying28 rfl (by kernel_rfl)) rfl ?_
  exact ⟨ex_, hb2_ HB.out GE501.out GE502.out⟩
 ·subst hq0
  obtain ⟨cs, t503, mo⟩ := R
  replace H : impl_ThreadTree.l0 k t503 (t503.length : Int) 0 a0_0 a0_1 a0_2 a0_0 a0_1 0 = some (r1, r2, r3, r4) := H
  have A1 := Aside0.mk hin
  have A2 := Aside0.mk hn
  have A3 := Aside0.mk hr
  have A4 := Aside0.mk ht
  clear hin hn hr ht
  have H' := Aside0.mk H
  clear H
  go_enter Try.func12, Try.ntmps12
  go_wp2_with (first | (refine box_ (N := 2) (cs := #[.int .i64 a0_0, .int .i64 a0_1, .int .i64 a0_2]) (t := 28) ?_; intro gb501 hg w11 hbox hb; have BK501 := Aside0.mk (hbox); have GW501 := HB.g0 hg; have GE501 := HB.g0 hg; replace HB := HB.s0 hb; clear hb hbox hg) | (refine box_ (N := 4) (cs := #[.int .i64 0, .int .i64 0, .int .i64 0]) (t := 28) ?_; intro gb502 hg w12 hbox hb; have BK502 := Aside0.mk (hbox); have GW502 := HB.g1 GE501 hg; have GE502 := HB.g1 GE501 hg; replace HB := HB.s1 GE501 hb; have NB501_502 := BK501.nl hg; have NB502_501 := BK501.nr hg; replace BK501 := BK501.bb hb; clear hb hbox hg; have hnb13 := NB501_502.out; have hnc13 := NB502_501.out; obtain ⟨hcz14_0, hcz14_1, hcz14_2⟩ := cz3_ BK501.out; obtain ⟨hfz14_0, hfz14_1, hfz14_2⟩ := fz3_ BK501.out) | (go_at_call 26; refine (impl_thread.yes k a0_0 a0_1 a0_2 a1 n fr (cs, t503, mo) _ A1.out A2.out A3.out A4.out).mono ?_; rintro e w15 ⟨g, gf, cf, vc, rfl, hT⟩; dsimp only; have hb := hT.bel; have ho0 : Kd.R (Kd.int .i64) 3 w15 _ (fun _ => True) _ _ := Kd.R_mono hT.frm (fun _ _ => trivial); have hk0 := hT.blk; clear hT; generalize hv0 : Value.slice (some ⟨gf, 0, none⟩) ((cs, t503, mo) : List Int × List Int × Int).2.1.length cf = v504 at ho0 hk0; clear hv0; replace ho0 : Kd.R (Kd.int .i64) 3 w15 _ (fun _ => True) v504 t503 := ho0; have BKt := Aside0.mk hk0; clear hk0; have HO505 := Aside0.mk (Kd.R_lower ho0 (below_size (hb2_ HB.out GE501.out GE502.out))); replace BK501 := BK501.bb hb; replace BK502 := BK502.bb hb; replace HB := HB.s2 GE501 GE502 hb; obtain ⟨hcz16_0, hcz16_1, hcz16_2⟩ := cz3_ BK501.out; obtain ⟨hfz16_0, hfz16_1, hfz16_2⟩ := fz3_ BK501.out) | (refine box_ (N := 7) (cs := #[.int .i64 0, .int .i64 0, .int .i64 0]) (t := 28) ?_; intro gb506 hg w17 hbox hb; replace HO505 := HO505.kb hb; have BK506 := Aside0.mk (hbox); have GW506 := HB.g2 GE501 GE502 hg; have GE506 := HB.g2 GE501 GE502 hg; replace HB := HB.s2 GE501 GE502 hb; have NB501_506 := BK501.nl hg; have NB506_501 := BK501.nr hg; replace BK501 := BK501.bb hb; have NB502_506 := BK502.nl hg; have NB506_502 := BK502.nr hg; replace BK502 := BK502.bb hb; have NBt_506 := BKt.nl hg; have NB506_t := BKt.nr hg; replace BKt := BKt.bb hb; have hnbt := NB506_t.out; have hnct := NBt_506.out; clear hb hbox hg; have hnb18 := NB506_501.out; have hnc18 := NB501_506.out; have hnb19 := NB506_502.out; have hnc19 := NB502_506.out; obtain ⟨hcz20_0, hcz20_1, hcz20_2⟩ := cz3_ BK506.out; obtain ⟨hfz20_0, hfz20_1, hfz20_2⟩ := fz3_ BK506.out; obtain ⟨Ao21, co21, eo21⟩ := Kd.R_slice HO505.out; subst eo21; obtain ⟨t0, t1, t2⟩ := cz3_ BKt.out))
  go_loopg [25] k (fun kq v25 w' => ∃ (x25_1 : Int) (x507000_1 : Int) (x507001_1 : Int) (x507002_1 : Int), v25 = .int .i64 x25_1 ∧ Aside0 (impl_ThreadTree.l0 kq t503 (t503.length : Int) x25_1 a0_0 a0_1 a0_2 x507000_1 x507001_1 x507002_1 = some (r1, r2, r3, r4)) ∧ Aside0 (kq ≤ k) ∧ Aside0 (Kd.R (Kd.int .i64) 3 w' w.heap.size (fun _ => True) (.slice Ao21 t503.length co21) t503) ∧ Aside0 (w'.heap[gb501]? = some (.cells #[.int .i64 a0_0, .int .i64 a0_1, .int .i64 a0_2] 28 (0, 0))) ∧ Aside0 (w'.heap[gb502]? = some (.cells #[.int .i64 0, .int .i64 0, .int .i64 0] 28 (0, 0))) ∧ Aside0 (w'.heap[gb506]? = some (.cells #[.int .i64 x507000_1, .int .i64 x507001_1, .int .i64 x507002_1] 28 (0, 0))) ∧ Aside0 (Below w.heap.size w w'))
  case atStart => exact ⟨(0), (a0_0), (a0_1), (0), (by first | rfl | (simp; done) | (simp [*]; done)), H', ⟨Nat.le_refl _⟩, ⟨by (with_reducible repeat (first | apply Kd.R_alloc | apply Kd.R_drewN | apply Kd.R_drew)); exact Kd.R_mono (Kd.R_far (p := ⟨gb506, 2, none⟩) (Kd.R_far (p := ⟨gb506, 1, none⟩) (Kd.R_far (p := ⟨gb506, 0, none⟩) (Kd.R_types HO505.out BK506.out (by decide)) (fun _ hk => hk.2) (.int .i64 a0_0)) (fun _ hk => hk.2) (.int .i64 a0_1)) (fun _ hk => hk.2) (.int .i64 0)) (fun _ hk => trivial)⟩, ⟨by (with_reducible repeat (first | refine blk_drewN ?_ _ | refine blk_drew ?_ | refine blk_alloc ?_ _)); refine blk_far ?_ NB501_506.out _; (with_reducible repeat (first | refine blk_drewN ?_ _ | refine blk_drew ?_ | refine blk_alloc ?_ _)); refine blk_far ?_ NB501_506.out _; (with_reducible repeat (first | refine blk_drewN ?_ _ | refine blk_drew ?_ | refine blk_alloc ?_ _)); refine blk_far ?_ NB501_506.out _; (with_reducible repeat (first | refine blk_drewN ?_ _ | refine blk_drew ?_ | refine blk_alloc ?_ _)); exact BK501.out⟩, ⟨by (with_reducible repeat (first | refine blk_drewN ?_ _ | refine blk_drew ?_ | refine blk_alloc ?_ _)); refine blk_far ?_ NB502_506.out _; (with_reducible repeat (first | refine blk_drewN ?_ _ | refine blk_drew ?_ | refine blk_alloc ?_ _)); refine blk_far ?_ NB502_506.out _; (with_reducible repeat (first | refine blk_drewN ?_ _ | refine blk_drew ?_ | refine blk_alloc ?_ _)); refine blk_far ?_ NB502_506.out _; (with_reducible repeat (first | refine blk_drewN ?_ _ | refine blk_drew ?_ | refine blk_alloc ?_ _)); exact BK502.out⟩, ⟨bq3_ BK506.out⟩, ⟨hb3_ HB.out GE501.out GE502.out GE506.out⟩⟩
  case round =>
   clear H'
   try clear c1
   try clear c2
   try clear p2
   try clear c4
   try clear c4b0
   try clear c4b1
   try clear c7
   try clear c13
   try clear c18
   try clear c19
   try clear hcz10_0
   try clear hcz10_1
   try clear hcz10_2
   try clear hcz14_0
   try clear hcz14_1
   try clear hcz14_2
   try clear hcz16_0
   try clear hcz16_1
   try clear hcz16_2
   try clear hcz20_0
   try clear hcz20_1
   try clear hcz20_2
   try clear hcz8_0
   try clear hcz8_1
   try clear hcz8_2
   try clear hfz10_0
   try clear hfz10_1
   try clear hfz10_2
   try clear hfz14_0
   try clear hfz14_1
   try clear hfz14_2
   try clear hfz16_0
   try clear hfz16_1
   try clear hfz16_2
   try clear hfz20_0
   try clear hfz20_1
   try clear hfz20_2
   try clear hfz8_0
   try clear hfz8_1
   try clear hfz8_2
   obtain ⟨x25_1, x507000_1, x507001_1, x507002_1, rfl, HA, HK1, HO_23, BK501, BK502, BK506, HB⟩ := hrel
   cases gk with
   | zero => exact absurd HA.out (by simp [impl_ThreadTree.l0])
   | succ k1 =>
    have H := HA.out
    clear HA
    simp only [impl_ThreadTree.l0] at H
    by_cases c22 : x25_1 < (t503.length : Int)
    ·rw [if_pos c22] at H
     have c22b0 : decide (x25_1 < (t503.length : Int)) = true := decide_eq_true c22
     clear c22
     by_cases c23 : 0 ≤ x25_1
     ·rw [if_pos c23] at H
      have c23b0 : decide (0 ≤ x25_1) = true := decide_eq_true c23
      clear c23
      by_cases c24 : x25_1 < (t503.length : Int)
      ·rw [if_pos c24] at H
       have c24b0 : decide (x25_1 < (t503.length : Int)) = true := decide_eq_true c24
       clear c24
       have H' := Aside0.mk H
       clear H
       have p508 : 0 ≤ (x25_1 : Int) := of_decide_eq_true (as_)
       have q508 : x25_1 < (t503.length : Int) := of_decide_eq_true (as_)
       obtain ⟨ad508, e508, hx508_0⟩ := Kd.at_int (Kd.R_reads' HO_23.out).2.2 x25_1 p508 q508
       cases e508
       replace p508 := eq_true p508
       replace q508 := eq_true q508
       go_wp2
       go_loopg [10] k1 (fun kq v10 w' => ∃ (x10_2 : Int) (x507000_2 : Int) (x507001_2 : Int) (x507002_2 : Int), v10 = .int .i64 x10_2 ∧ Aside0 (impl_ThreadTree.l1 kq x25_1 (rd t503 x25_1) x10_2 t503 (t503.length : Int) x25_1 a0_0 a0_1 a0_2 x507000_2 x507001_2 x507002_2 = some (r1, r2, r3, r4)) ∧ Aside0 (kq ≤ k1) ∧ Aside0 (Kd.R (Kd.int .i64) 3 w' w.heap.size (fun _ => True) (.slice (some ad508) t503.length co21) t503) ∧ Aside0 (w'.heap[gb501]? = some (.cells #[.int .i64 a0_0, .int .i64 a0_1, .int .i64 a0_2] 28 (0, 0))) ∧ Aside0 (w'.heap[gb502]? = some (.cells #[.int .i64 0, .int .i64 0, .int .i64 0] 28 (0, 0))) ∧ Aside0 (w'.heap[gb506]? = some (.cells #[.int .i64 x507000_2, .int .i64 x507001_2, .int .i64 x507002_2] 28 (0, 0))) ∧ Aside0 (Below w.heap.size w w'))
       case atStart => exact ⟨(0), (x507000_1), (x507001_1), (x507002_1), (by first | rfl | (simp; done) | (simp [*]; done)), H', ⟨Nat.le_refl _⟩, ⟨kr_ HO_23.out⟩, ⟨bk_ BK501.out⟩, ⟨bk_ BK502.out⟩, ⟨bk_ BK506.out⟩, ⟨hb3_ HB.out GE501.out GE502.out GE506.out⟩⟩
       case round =>
        clear H'
        try clear c1
        try clear c2
        try clear p2
        try clear c4
        try clear c4b0
        try clear c4b1
        try clear p5
        try clear q5
        try clear hx5
        try clear c7
        try clear c13
        try clear c18
        try clear c19
        try clear c22
        try clear c22b0
        try clear c23
        try clear c23b0
        try clear c24
        try clear c24b0
        try clear hcz10_0
        try clear hcz10_1
        try clear hcz10_2
        try clear hcz14_0
        try clear hcz14_1
        try clear hcz14_2
        try clear hcz16_0
        try clear hcz16_1
        try clear hcz16_2
        try clear hcz20_0
        try clear hcz20_1
        try clear hcz20_2
        try clear hcz8_0
        try clear hcz8_1
        try clear hcz8_2
        try clear hfz10_0
        try clear hfz10_1
        try clear hfz10_2
        try clear hfz14_0
        try clear hfz14_1
        try clear hfz14_2
        try clear hfz16_0
        try clear hfz16_1
        try clear hfz16_2
        try clear hfz20_0
        try clear hfz20_1
        try clear hfz20_2
        try clear hfz8_0
        try clear hfz8_1
        try clear hfz8_2
        try clear hx508_0
        try clear p2
        try clear p508
        try clear q508
        obtain ⟨x10_2, x507000_2, x507001_2, x507002_2, rfl, HA, HK2, HO_23, BK501, BK502, BK506, HB⟩ := hrel
        cases gk with
        | zero => exact absurd HA.out (by simp [impl_ThreadTree.l1])
        | succ k2 =>
         have H := HA.out
         clear HA
         simp only [impl_ThreadTree.l1] at H
         by_cases c25 : x10_2 ≤ 3
         ·rw [if_pos c25] at H
          have c25b0 : decide (x10_2 ≤ 3) = true := decide_eq_true c25
          clear c25
          have HC26 := Aside0.mk H
          clear H
          go_upto_region 11 with (fail)
          go_cut [44] (fun v44 wc => ∃ (kq : Nat) (x44_25 : Bool), v44 = .bool x44_25 ∧ Aside0 (impl_ThreadTree.j2 kq x25_1 (rd t503 x25_1) x10_2 t503 (t503.length : Int) x25_1 x44_25 a0_0 a0_1 a0_2 x507000_2 x507001_2 x507002_2 = some (r1, r2, r3, r4)) ∧ Aside0 (kq ≤ k2) ∧ Aside0 (Kd.R (Kd.int .i64) 3 wc w.heap.size (fun _ => True) (.slice (some ad508) t503.length co21) t503) ∧ Aside0 (wc.heap[gb501]? = some (.cells #[.int .i64 a0_0, .int .i64 a0_1, .int .i64 a0_2] 28 (0, 0))) ∧ Aside0 (wc.heap[gb502]? = some (.cells #[.int .i64 0, .int .i64 0, .int .i64 0] 28 (0, 0))) ∧ Aside0 (wc.heap[gb506]? = some (.cells #[.int .i64 x507000_2, .int .i64 x507001_2, .int .i64 x507002_2] 28 (0, 0))) ∧ Aside0 (Below w.heap.size w wc))
          case first =>
           have H := HC26.out
           clear HC26
           by_cases c27 : (rd t503 x25_1) ≥ 0
           ·rw [if_pos c27] at H
            have c27b0 : decide (0 ≤ (rd t503 x25_1)) = true := decide_eq_true c27
            clear c27
            (first | rw [c27b0] | (simp only [i64_w, i32_w]; rw [c27b0]) | skip)
            replace H := Option.bind_eq_some_iff.mp H
            obtain ⟨t509, A280, H⟩ := H
            replace H : (impl_ThreadTree.j2 k2 x25_1 (rd t503 x25_1) x10_2 t503 (t503.length : Int) x25_1 (t509 == (rd t503 x25_1)) a0_0 a0_1 a0_2 x507000_2 x507001_2 x507002_2) = some (r1, r2, r3, r4) := H
            have A28 := Aside0.mk A280
            clear A280
            have H' := Aside0.mk H
            clear H
            have hnb29 := NB501_502.out
            have hnc29 := NB502_501.out
            have hnb30 := NB501_506.out
            have hnc30 := NB506_501.out
            obtain ⟨hcz31_0, hcz31_1, hcz31_2⟩ := cz3_ BK501.out
            obtain ⟨hfz31_0, hfz31_1, hfz31_2⟩ := fz3_ BK501.out
            go_wp2_with (first | (go_at_call 27; (with_reducible refine (impl_Neighbor.calls k2 a0_0 a0_1 x25_1 x10_2 t509 _ A28.out).mono ?_); rintro e w32 ⟨rfl, hb⟩; dsimp only; replace HO_23 := HO_23.kb hb; replace BK501 := BK501.bb hb; replace BK502 := BK502.bb hb; replace BK506 := BK506.bb hb; replace HB := HB.s3 GE501 GE502 GE506 hb; (try clear hb)))
            go_meet
            case rel => exact ⟨_, ((t509 == (rd t503 x25_1))), (by first | rfl | (simp; done) | (simp [*]; done)), H', ⟨by have := HK1.out; have := HK2.out; first | omega | exact Nat.le_refl _⟩, ⟨kr_ HO_23.out⟩, ⟨bk_ BK501.out⟩, ⟨bk_ BK502.out⟩, ⟨bk_ BK506.out⟩, ⟨hb3_ HB.out GE501.out GE502.out GE506.out⟩⟩
           ·rw [if_neg c27] at H
            have c27b0 : decide (0 ≤ (rd t503 x25_1)) = false := decide_eq_false c27
            clear c27
            (first | rw [c27b0] | (simp only [i64_w, i32_w]; rw [c27b0]) | skip)
            have H' := Aside0.mk H
            clear H
            go_wp2
            go_meet
            case rel => exact ⟨_, (false), (by first | rfl | (simp; done) | (simp [*]; done)), H', ⟨by have := HK1.out; have := HK2.out; first | omega | exact Nat.le_refl _⟩, ⟨kr_ HO_23.out⟩, ⟨bk_ BK501.out⟩, ⟨bk_ BK502.out⟩, ⟨bk_ BK506.out⟩, ⟨hb3_ HB.out GE501.out GE502.out GE506.out⟩⟩
          case rest =>
           clear HC26
           try clear c1
           try clear c2
           try clear p2
           try clear c3
           try clear c4
           try clear c4b0
           try clear c4b1
           try clear p5
           try clear q5
           try clear hx5
           try clear c7
           try clear c13
           try clear c18
           try clear c19
           try clear c22
           try clear c22b0
           try clear c23
           try clear c23b0
           try clear c24
           try clear c24b0
           try clear c25
           try clear c25b0
           try clear c26
           try clear c27
           try clear c27b0
           try clear c29
           try clear c30
           try clear hcz10_0
           try clear hcz10_1
           try clear hcz10_2
           try clear hcz14_0
           try clear hcz14_1
           try clear hcz14_2
           try clear hcz16_0
           try clear hcz16_1
           try clear hcz16_2
           try clear hcz20_0
           try clear hcz20_1
           try clear hcz20_2
           try clear hcz31_0
           try clear hcz31_1
           try clear hcz31_2
           try clear hcz8_0
           try clear hcz8_1
           try clear hcz8_2
           try clear hfz10_0
           try clear hfz10_1
           try clear hfz10_2
           try clear hfz14_0
           try clear hfz14_1
           try clear hfz14_2
           try clear hfz16_0
           try clear hfz16_1
           try clear hfz16_2
           try clear hfz20_0
           try clear hfz20_1
           try clear hfz20_2
           try clear hfz31_0
           try clear hfz31_1
           try clear hfz31_2
           try clear hfz8_0
           try clear hfz8_1
           try clear hfz8_2
           try clear hx508_0
           try clear p2
           try clear p5
           try clear p508
           try clear q5
           try clear q508
           obtain ⟨kq, x44_25, rfl, HA, HJ25, HO_23, BK501, BK502, BK506, HB⟩ := hcut
           cases kq with
           | zero => exact absurd HA.out (by simp [impl_ThreadTree.j2])
           | succ kj25 =>
            have H := HA.out
            clear HA
            simp only [impl_ThreadTree.j2] at H
            by_cases c33 : x44_25 = true
            ·subst c33
             have H1 : ((impl_GapAt.f kj25 a0_0 a0_1 x25_1 x10_2).bind fun t510 => ((impl_with.f x507000_2 x507001_2 x507002_2 t510 true).bind fun bt511 => (impl_ThreadTree.l1 kj25 x25_1 (rd t503 x25_1) (wrap64 (x10_2 + 1)) t503 (t503.length : Int) x25_1 a0_0 a0_1 a0_2 bt511.1 bt511.2.1 bt511.2.2))) = some (r1, r2, r3, r4) := by rw [if_pos rfl] at H; exact H
             clear H
             have H := H1
             clear H1
             replace H := Option.bind_eq_some_iff.mp H
             obtain ⟨t510, A340, H⟩ := H
             replace H : ((impl_with.f x507000_2 x507001_2 x507002_2 t510 true).bind fun bt511 => (impl_ThreadTree.l1 kj25 x25_1 (rd t503 x25_1) (wrap64 (x10_2 + 1)) t503 (t503.length : Int) x25_1 a0_0 a0_1 a0_2 bt511.1 bt511.2.1 bt511.2.2)) = some (r1, r2, r3, r4) := H
             have A34 := Aside0.mk A340
             clear A340
             replace H := Option.bind_eq_some_iff.mp H
             obtain ⟨⟨t511, t512, t513⟩, A350, H⟩ := H
             replace H : (impl_ThreadTree.l1 kj25 x25_1 (rd t503 x25_1) (wrap64 (x10_2 + 1)) t503 (t503.length : Int) x25_1 a0_0 a0_1 a0_2 t511 t512 t513) = some (r1, r2, r3, r4) := H
             have A35 := Aside0.mk A350
             clear A350
             have H' := Aside0.mk H
             clear H
             try go_wp2
             replace HO_23 := Aside0.mk (Kd.R_drew HO_23.out)
             replace BK501 := Aside0.mk (blk_drew BK501.out)
             replace BK502 := Aside0.mk (blk_drew BK502.out)
             replace BK506 := Aside0.mk (blk_drew BK506.out)
             replace HB := Aside0.mk (below_drew1 HB.out)
             refine start_ (n := 8) (S := fun w' => w'.cell? ⟨gb506, 0, none⟩ = some (.int .i64 x507000_2) ∧ w'.cell? ⟨gb506, 1, none⟩ = some (.int .i64 x507001_2) ∧ w'.cell? ⟨gb506, 2, none⟩ = some (.int .i64 x507002_2) ∧ w'.cell? ⟨gb501, 0, none⟩ = some (.int .i64 a0_0) ∧ w'.cell? ⟨gb501, 1, none⟩ = some (.int .i64 a0_1) ∧ w'.cell? ⟨gb501, 2, none⟩ = some (.int .i64 a0_2)) (ds := [7]) #[false, false, false, false, false, false, false, false] (by kernel_rfl) rfl rfl ⟨BK506.c 0, BK506.c 1, BK506.c 2, BK501.c 0, BK501.c 1, BK501.c 2⟩ (fun hHeld => ?_); refine with_tabW impl_ThreadTree.tab12 impl_ThreadTree.bits12 (fun HT_ HW_ => ?_)
             generalize wc.drew = w36 at HO_23 BK501 BK502 BK506 HB hHeld ⊢
             refine pv_ (i := 1) (N := some 46) HT_.out ?_
             refine pv_ (i := 3) (N := some 48) HT_.out ?_
             refine pv_ (i := 4) (N := some 49) HT_.out ?_
             refine tv6_ (i := 0) (N := some 45) HT_.out HW_.out hHeld ?_
             refine tv6_ (i := 2) (N := some 47) HT_.out HW_.out hHeld ?_
             refine ov_ (i := 5) (N := some 50) HT_.out (fun K hK => ?_)
             refine gq_ Try.func29 #[.agg #[.int .i64 a0_0, .int .i64 a0_1], .int .i64 x25_1, .int .i64 x10_2] ?_
             with_reducible refine (impl_GapAt.calls kj25 a0_0 a0_1 x25_1 x10_2 t510 _ A34.out).mono ?_
             rintro e w37 ⟨rfl, hb⟩
             refine ⟨_, rfl, ?_⟩
             replace HO_23 := HO_23.kb hb
             replace BK501 := BK501.bb hb
             replace BK502 := BK502.bb hb
             replace BK506 := BK506.bb hb
             replace HB := HB.s3 GE501 GE502 GE506 hb
             skip
             (try clear hb2)
             (try clear hk)
             (try clear hi)
             refine hK.out _ _ ⟨BK506.c 0, BK506.c 1, BK506.c 2, BK501.c 0, BK501.c 1, BK501.c 2⟩ (fun hHeld => ?_)
             clear hK K
             refine nm_ ?_
             refine ov_ (i := 6) (N := some 51) HT_.out (fun K hK => ?_)
             refine gq_ Try.func28 #[.agg #[.int .i64 x507000_2, .int .i64 x507001_2, .int .i64 x507002_2], .int .i64 t510, .bool true] ?_
             with_reducible refine (impl_with.calls x507000_2 x507001_2 x507002_2 t510 true t511 t512 t513 _ A35.out).mono ?_
             rintro e w38 ⟨rfl, hb⟩
             refine ⟨_, rfl, ?_⟩
             replace HO_23 := HO_23.kb hb
             replace BK501 := BK501.bb hb
             replace BK502 := BK502.bb hb
             replace BK506 := BK506.bb hb
             replace HB := HB.s3 GE501 GE502 GE506 hb
             skip
             (try clear hb2)
             (try clear hk)
             (try clear hi)
             refine hK.out _ _ ⟨BK506.c 0, BK506.c 1, BK506.c 2, BK501.c 0, BK501.c 1, BK501.c 2⟩ (fun hHeld => ?_)
             clear hK K
             refine nm_ ?_
             refine last_ (i := 7) (N := none) #[true, true, true, true, true, true, true, true] rfl rfl (one_of HT_.out (by kernel_rfl)) (by decide) (fun K hK => ?_)
             have hs39 : w38.cell? ⟨gb506, 0, none⟩ = some (.int .i64 x507000_2) := BK506.c 0
             have hfs39 := blk_frozen BK506.out 0
             have hns39_0 := NB501_506.out
             have hns39_1 := NB502_506.out
             have hms39_0 := NB506_501.out
             have hms39_1 := NB506_502.out
             have hs40 : w38.cell? ⟨gb506, 1, none⟩ = some (.int .i64 x507001_2) := BK506.c 1
             have hfs40 := blk_frozen BK506.out 1
             have hns40_0 := NB501_506.out
             have hns40_1 := NB502_506.out
             have hms40_0 := NB506_501.out
             have hms40_1 := NB506_502.out
             have hs41 : w38.cell? ⟨gb506, 2, none⟩ = some (.int .i64 x507002_2) := BK506.c 2
             have hfs41 := blk_frozen BK506.out 2
             have hns41_0 := NB501_506.out
             have hns41_1 := NB502_506.out
             have hms41_0 := NB506_501.out
             have hms41_1 := NB506_502.out
             refine skip_ (w1 := ?_) (by rfl) rfl ?_ ?_
             rotate_left
             ·go_simp
              rfl
             refine hK.out _ _ ?_
             clear hK K
             refine done_ (done_of HT_.out (by kernel_rfl)) ?_
             try go_wp2
             go_roundg kj25
             case measure => have := HK1.out; have := HK2.out; have := HJ25.out; omega
             case rel => exact ⟨(wrap64 (x10_2 + 1)), (t511), (t512), (t513), (by first | rfl | (simp; done) | (simp [*]; done)), H', ⟨by have := HK1.out; have := HK2.out; have := HJ25.out; omega⟩, ⟨by (with_reducible repeat (first | apply Kd.R_alloc | apply Kd.R_drewN | apply Kd.R_drew)); exact Kd.R_mono (Kd.R_far (p := ⟨gb506, 2, none⟩) (Kd.R_far (p := ⟨gb506, 1, none⟩) (Kd.R_far (p := ⟨gb506, 0, none⟩) (Kd.R_types HO_23.out BK506.out (by decide)) (fun _ hk => hk.2) (.int .i64 t511)) (fun _ hk => hk.2) (.int .i64 t512)) (fun _ hk => hk.2) (.int .i64 t513)) (fun _ hk => trivial)⟩, ⟨by (with_reducible repeat (first | refine blk_drewN ?_ _ | refine blk_drew ?_ | refine blk_alloc ?_ _)); refine blk_far ?_ NB501_506.out _; (with_reducible repeat (first | refine blk_drewN ?_ _ | refine blk_drew ?_ | refine blk_alloc ?_ _)); refine blk_far ?_ NB501_506.out _; (with_reducible repeat (first | refine blk_drewN ?_ _ | refine blk_drew ?_ | refine blk_alloc ?_ _)); refine blk_far ?_ NB501_506.out _; (with_reducible repeat (first | refine blk_drewN ?_ _ | refine blk_drew ?_ | refine blk_alloc ?_ _)); exact BK501.out⟩, ⟨by (with_reducible repeat (first | refine blk_drewN ?_ _ | refine blk_drew ?_ | refine blk_alloc ?_ _)); refine blk_far ?_ NB502_506.out _; (with_reducible repeat (first | refine blk_drewN ?_ _ | refine blk_drew ?_ | refine blk_alloc ?_ _)); refine blk_far ?_ NB502_506.out _; (with_reducible repeat (first | refine blk_drewN ?_ _ | refine blk_drew ?_ | refine blk_alloc ?_ _)); refine blk_far ?_ NB502_506.out _; (with_reducible repeat (first | refine blk_drewN ?_ _ | refine blk_drew ?_ | refine blk_alloc ?_ _)); exact BK502.out⟩, ⟨bq3_ BK506.out⟩, ⟨hb3_ HB.out GE501.out GE502.out GE506.out⟩⟩
            ·replace c33 := Bool.eq_false_iff.mpr c33
             subst c33
             have H1 : (impl_ThreadTree.l1 kj25 x25_1 (rd t503 x25_1) (wrap64 (x10_2 + 1)) t503 (t503.length : Int) x25_1 a0_0 a0_1 a0_2 x507000_2 x507001_2 x507002_2) = some (r1, r2, r3, r4) := by rw [if_neg (show ¬ (false = true) by decide)] at H; exact H
             clear H
             have H := H1
             clear H1
             have H' := Aside0.mk H
             clear H
             go_wp2
             go_roundg kj25
             case measure => have := HK1.out; have := HK2.out; have := HJ25.out; omega
             case rel => exact ⟨(wrap64 (x10_2 + 1)), (x507000_2), (x507001_2), (x507002_2), (by first | rfl | (simp; done) | (simp [*]; done)), H', ⟨by have := HK1.out; have := HK2.out; have := HJ25.out; omega⟩, ⟨kr_ HO_23.out⟩, ⟨bk_ BK501.out⟩, ⟨bk_ BK502.out⟩, ⟨bk_ BK506.out⟩, ⟨hb3_ HB.out GE501.out GE502.out GE506.out⟩⟩
         ·rw [if_neg c25] at H
          have c25b0 : decide (x10_2 ≤ 3) = false := decide_eq_false c25
          clear c25
          have H' := Aside0.mk H
          clear H
          go_wp2
          go_roundg k2
          case measure => have := HK1.out; have := HK2.out; omega
          case rel => exact ⟨(wrap64 (x25_1 + 1)), (x507000_2), (x507001_2), (x507002_2), (by first | rfl | (simp; done) | (simp [*]; done)), H', ⟨by have := HK1.out; have := HK2.out; omega⟩, ⟨kr_ HO_23.out⟩, ⟨bk_ BK501.out⟩, ⟨bk_ BK502.out⟩, ⟨bk_ BK506.out⟩, ⟨hb3_ HB.out GE501.out GE502.out GE506.out⟩⟩
      ·rw [if_neg c24] at H
       exact absurd H (by simp)
     ·rw [if_neg c23] at H
      exact absurd H (by simp)
    ·rw [if_neg c22] at H
     have c22b0 : decide (x25_1 < (t503.length : Int)) = false := decide_eq_false c22
     clear c22
     replace H := Option.bind_eq_some_iff.mp H
     obtain ⟨t507, A420, H⟩ := H
     replace H : (some (x507000_1, x507001_1, x507002_1, t507)) = some (r1, r2, r3, r4) := H
     have A42 := Aside0.mk A420
     clear A420
     simp only [Option.some.injEq, Prod.mk.injEq] at H
     obtain ⟨rfl, rfl, rfl, rfl⟩ := H
     try go_wp2
     replace HO_23 := Aside0.mk (Kd.R_drew HO_23.out)
     replace BK501 := Aside0.mk (blk_drew BK501.out)
     replace BK502 := Aside0.mk (blk_drew BK502.out)
     replace BK506 := Aside0.mk (blk_drew BK506.out)
     replace HB := Aside0.mk (below_drew1 HB.out)
     refine start_ (n := 5) (S := fun w' => w'.cell? ⟨gb506, 0, none⟩ = some (.int .i64 x507000_1) ∧ w'.cell? ⟨gb506, 1, none⟩ = some (.int .i64 x507001_1) ∧ w'.cell? ⟨gb506, 2, none⟩ = some (.int .i64 x507002_1)) (ds := []) #[false, false, false, false, false] (by kernel_rfl) rfl rfl ⟨BK506.c 0, BK506.c 1, BK506.c 2⟩ (fun hHeld => ?_)
     generalize wr.drew = w43 at HO_23 BK501 BK502 BK506 HB hHeld ⊢
     refine take_ (i := 0) (N := some 53) (v := ?_) (a' := ?_) #[true, false, false, false, false] rfl rfl (by kernel_rfl) (fun _ _ _ h => h) (Or.inl ⟨by rfl, ?_⟩) hHeld ?_ ?_
     rotate_left
     ·rintro w' ⟨s0, s1, s2⟩
      go_simp
      with_reducible rfl
     rotate_left
     ·simp only [Act.put, List.setIfInBounds_toArray, List.set_cons_zero, List.set_cons_succ, i64_w, i32_w]
      rfl
     refine take_ (i := 1) (N := some 54) (v := ?_) (a' := ?_) #[true, true, false, false, false] rfl rfl (by kernel_rfl) (fun _ _ _ h => h) (Or.inl ⟨by rfl, ?_⟩) hHeld ?_ ?_
     rotate_left
     ·rintro w' ⟨s0, s1, s2⟩
      go_simp
      with_reducible rfl
     rotate_left
     ·simp only [Act.put, List.setIfInBounds_toArray, List.set_cons_zero, List.set_cons_succ, i64_w, i32_w]
      rfl
     refine one_ (i := 2) (N := some 55) #[true, true, true, false, false] rfl rfl (by kernel_rfl) (by decide) (fun K hK => ?_)
     refine gq_ Try.func30 #[.agg #[.int .i64 x507000_1, .int .i64 x507001_1, .int .i64 x507002_1]] ?_
     with_reducible refine (impl_IsPerfect.calls k1 x507000_1 x507001_1 x507002_1 t507 _ A42.out).mono ?_
     rintro e w44 ⟨rfl, hb⟩
     refine ⟨_, rfl, ?_⟩
     replace HO_23 := HO_23.kb hb
     replace BK501 := BK501.bb hb
     replace BK502 := BK502.bb hb
     replace BK506 := BK506.bb hb
     replace HB := HB.s3 GE501 GE502 GE506 hb
     skip
     (try clear hb2)
     (try clear hk)
     (try clear hi)
     refine hK.out _ _ ⟨BK506.c 0, BK506.c 1, BK506.c 2⟩ (fun hHeld => ?_)
     clear hK K
     refine nm_ ?_
     refine one_ (i := 3) (N := none) #[true, true, true, true, false] rfl rfl (by kernel_rfl) (by decide) (fun K hK => ?_)
     have hs45 : w44.cell? ⟨gb502, 0, none⟩ = some (.int .i64 0) := BK502.c 0
     have hfs45 := blk_frozen BK502.out 0
     have hns45_0 := NB501_502.out
     have hns45_2 := NB506_502.out
     have hms45_0 := NB502_501.out
     have hms45_2 := NB502_506.out
     have hs46 : w44.cell? ⟨gb502, 1, none⟩ = some (.int .i64 0) := BK502.c 1
     have hfs46 := blk_frozen BK502.out 1
     have hns46_0 := NB501_502.out
     have hns46_2 := NB506_502.out
     have hms46_0 := NB502_501.out
     have hms46_2 := NB502_506.out
     have hs47 : w44.cell? ⟨gb502, 2, none⟩ = some (.int .i64 0) := BK502.c 2
     have hfs47 := blk_frozen BK502.out 2
     have hns47_0 := NB501_502.out
     have hns47_2 := NB506_502.out
     have hms47_0 := NB502_501.out
     have hms47_2 := NB502_506.out
     refine skip_ (w1 := ?_) (by rfl) rfl ?_ ?_
     rotate_left
     ·go_simp
      rfl
     refine hK.out _ _ ⟨((cell_far (p := ⟨gb502, _, none⟩) NB506_502.out _).trans (((cell_far (p := ⟨gb502, _, none⟩) NB506_502.out _).trans (((cell_far (p := ⟨gb502, _, none⟩) NB506_502.out _).trans (hHeld.1)))))), ((cell_far (p := ⟨gb502, _, none⟩) NB506_502.out _).trans (((cell_far (p := ⟨gb502, _, none⟩) NB506_502.out _).trans (((cell_far (p := ⟨gb502, _, none⟩) NB506_502.out _).trans (hHeld.2.1)))))), ((cell_far (p := ⟨gb502, _, none⟩) NB506_502.out _).trans (((cell_far (p := ⟨gb502, _, none⟩) NB506_502.out _).trans (((cell_far (p := ⟨gb502, _, none⟩) NB506_502.out _).trans (hHeld.2.2))))))⟩ (fun hHeld => ?_)
     clear hK K
     refine pure_ (i := 4) (N := some 5) (v := ?_) (a' := ?_) #[true, true, true, true, true] rfl rfl (by kernel_rfl) (fun _ _ _ h => h) (Or.inl ⟨by rfl, ?_⟩) ?_ ?_
     rotate_left
     ·intro w'
      go_simp
      with_reducible rfl
     rotate_left
     ·simp only [Act.put, List.setIfInBounds_toArray, List.set_cons_zero, List.set_cons_succ, i64_w, i32_w]
      rfl
     refine done_ (by kernel_rfl) ?_
     try go_wp2
     refine bodyPost_ret (results_ct rfl _ _ gb502 28 #[.int .i64 x507000_1, .int .i64 x507001_1, .int .i64 x507002_1] (0, 0) _ rfl (bq3_ BK502.out) Try.underlying28 rfl (by kernel_rfl)) rfl ?_
     exact ⟨ex_, hb3_ HB.out GE501.out GE502.out GE506.out⟩

end Go.Proofs.Ytjmbnlemfdjkfaa.X
