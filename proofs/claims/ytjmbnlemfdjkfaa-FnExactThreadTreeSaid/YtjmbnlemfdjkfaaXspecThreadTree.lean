-- Written by a program of this session (xprint.py), out of the translation and of hand-written contracts. Lean checks it.
import Derived.Test.YtjmbnlemfdjkfaaX0
import Derived.Test.YtjmbnlemfdjkfaaXcin
import Derived.Test.YtjmbnlemfdjkfaaXcnbr
import Derived.Test.YtjmbnlemfdjkfaaXcperfs
import Derived.Test.YtjmbnlemfdjkfaaXspecEnteredFrom
import Derived.Test.YtjmbnlemfdjkfaaXspecSetGap
import Derived.Test.YtjmbnlemfdjkfaaXspecl14Direction
namespace Go.Proofs.Ytjmbnlemfdjkfaa.X
open Go.RowKit Go.Proofs.YtjmbnlemfdjkfaaW.PrintWords Go.Proofs.YtjmbnlemfdjkfaaW.PrintLast Go.Proofs.YtjmbnlemfdjkfaaW.PrintMore
attribute [local go_sem] max2_int min2_int max_two min_two max_three min_three max_four min_four   -- for this text's walks alone
set_option linter.unusedVariables false
set_option linter.unusedSimpArgs false

/-! ### spec_ThreadTree: function 10 -/
def spec_ThreadTree.l0 : Nat → List Int → Int → Int → Int → Int → Int → Int → Int → Option (Int × Int × Int × Bool)
 | 0, _, _, _, _, _, _, _, _ => none
 | k + 1, x6, x8, x502000, x502001, x502002, x508000, x508001, x508002 => if x8 < (x6.length : Int) then (if 0 ≤ x8 then (if (rd x6 x8) ≥ 0 then ((spec_l14Direction.f k x502000 x502001 (rd x6 x8) x8).bind fun t512 => ((spec_GapAt.f k x502000 x502001 (rd x6 x8) t512).bind fun t513 => ((spec_SetGap.f k x508000 x508001 x508002 t513 true).bind fun bt514 => (spec_ThreadTree.l0 k x6 (wrap64 (x8 + 1)) x502000 x502001 x502002 bt514.1 bt514.2.1 bt514.2.2.1)))) else (spec_ThreadTree.l0 k x6 (wrap64 (x8 + 1)) x502000 x502001 x502002 x508000 x508001 x508002)) else (none)) else ((spec_IsPerfect.f k x508000 x508001 x508002).bind fun t508 => (some (x508000, x508001, x508002, t508)))
def spec_ThreadTree.f (k : Nat) (a0_0 : Int) (a0_1 : Int) (a0_2 : Int) (a1 : Int) : Option (Int × Int × Int × Bool) := (spec_l04Has.f a0_0 a0_1 a0_2 a1).bind fun t503 => (if t503 = true then ((spec_EnteredFrom.f k a0_0 a0_1 a0_2 a1).bind fun t504 => (spec_ThreadTree.l0 k t504 0 a0_0 a0_1 a0_2 a0_0 a0_1 0)) else (some (0, 0, 0, false)))
theorem spec_ThreadTree.mono_l : ∀ k, (∀ y0 y1 y2 y3 y4 y5 y6 y7, LeO (spec_ThreadTree.l0 k y0 y1 y2 y3 y4 y5 y6 y7) (spec_ThreadTree.l0 (k + 1) y0 y1 y2 y3 y4 y5 y6 y7))
 | 0 => fun _ _ _ _ _ _ _ _ r h => by simp [spec_ThreadTree.l0] at h
 | k + 1 => by
  have ih0 := spec_ThreadTree.mono_l k
  ·intro y0 y1 y2 y3 y4 y5 y6 y7
   unfold spec_ThreadTree.l0
   repeat' first
   | (with_reducible exact ih0 ..)
   | (with_reducible exact spec_EnteredFrom.mono ..)
   | (with_reducible exact spec_GapAt.mono ..)
   | (with_reducible exact spec_IsPerfect.mono ..)
   | (with_reducible exact spec_SetGap.mono ..)
   | (with_reducible exact spec_l14Direction.mono ..)
   | (with_reducible first | exact lr_ _ | exact ln_ _ | refine li_ ?_ ?_ | refine lb_ ?_ fun _ => ?_)
   | exact ih0 ..
   | exact spec_EnteredFrom.mono ..
   | exact spec_GapAt.mono ..
   | exact spec_IsPerfect.mono ..
   | exact spec_SetGap.mono ..
   | exact spec_l14Direction.mono ..
   | exact ln_ _ | refine li_ ?_ ?_ | refine lb_ ?_ fun _ => ?_
theorem spec_ThreadTree.mono : ∀ a0 a1 a2 a3 k, LeO (spec_ThreadTree.f k a0 a1 a2 a3) (spec_ThreadTree.f (k + 1) a0 a1 a2 a3) := by
 intro a0 a1 a2 a3 k
 have ih0 := spec_ThreadTree.mono_l k
 unfold spec_ThreadTree.f
 repeat' first
   | (with_reducible exact ih0 ..)
   | (with_reducible exact spec_EnteredFrom.mono ..)
   | (with_reducible exact spec_GapAt.mono ..)
   | (with_reducible exact spec_IsPerfect.mono ..)
   | (with_reducible exact spec_SetGap.mono ..)
   | (with_reducible exact spec_l14Direction.mono ..)
   | (with_reducible first | exact lr_ _ | exact ln_ _ | refine li_ ?_ ?_ | refine lb_ ?_ fun _ => ?_)
   | exact ih0 ..
   | exact spec_EnteredFrom.mono ..
   | exact spec_GapAt.mono ..
   | exact spec_IsPerfect.mono ..
   | exact spec_SetGap.mono ..
   | exact spec_l14Direction.mono ..
   | exact ln_ _ | refine li_ ?_ ?_ | refine lb_ ?_ fun _ => ?_
def spec_ThreadTree.T9 : Bool × List (List Nat × List Nat) := (true, [([], []), ([], []), ([1], [1]), ([], []), ([], []), ([3, 4], [3, 4]), ([5], [5]), ([], []), ([7], [7]), ([], []), ([], []), ([9, 10], [9, 10]), ([11], [11]), ([], []), ([8, 12, 13], [8, 12, 13]), ([2, 6, 14, 14], [2, 6, 14]), ([0, 15, 15], [0, 15]), ([16], [16]), ([17], [17]), ([17], [17]), ([18, 16, 0, 1, 2, 3, 4, 5, 6, 7, 8, 9, 10, 11, 12, 13, 14, 15, 16, 17, 18], [18])])
def spec_ThreadTree.B9 : List Nat := [0, 0, 2, 0, 0, 24, 56, 0, 128, 0, 0, 1536, 3584, 0, 16256, 32766, 65535, 131071, 262143, 262143, 524287]
theorem spec_ThreadTree.tab9 : rtab .any (opsOf Try.f10 9) = spec_ThreadTree.T9 := by kernel_rfl
theorem spec_ThreadTree.bits9 : waitsOk spec_ThreadTree.T9.2 spec_ThreadTree.B9 = true := by kernel_rfl
set_option maxHeartbeats 8000000 in
set_option maxRecDepth 100000 in
theorem spec_ThreadTree.calls (k : Nat) (a0_0 : Int) (a0_1 : Int) (a0_2 : Int) (a1 : Int) (r1 : Int) (r2 : Int) (r3 : Int) (r4 : Bool) (w : World) (h : spec_ThreadTree.f k a0_0 a0_1 a0_2 a1 = some (r1, r2, r3, r4)) :
  Calls Try.prog 10 #[.agg #[.int .i64 a0_0, .int .i64 a0_1, .int .i64 a0_2], .int .i64 a1] w fun e w' => e = .returned (.tuple #[.agg #[.int .i64 r1, .int .i64 r2, .int .i64 r3], .bool r4]) ∧ Below w.heap.size w w' := by
 have hu28 := Try.underlying28
 have hu26 := Try.underlying26
 have HB := Aside0.mk (Below.refl w.heap.size w)
 have H : ((spec_l04Has.f a0_0 a0_1 a0_2 a1).bind fun t503 => (if t503 = true then ((spec_EnteredFrom.f k a0_0 a0_1 a0_2 a1).bind fun t504 => (spec_ThreadTree.l0 k t504 0 a0_0 a0_1 a0_2 a0_0 a0_1 0)) else (some (0, 0, 0, false)))) = some (r1, r2, r3, r4) := h
 clear h
 replace H := Option.bind_eq_some_iff.mp H
 obtain ⟨t503, A30, H⟩ := H
 replace H : (if t503 = true then ((spec_EnteredFrom.f k a0_0 a0_1 a0_2 a1).bind fun t504 => (spec_ThreadTree.l0 k t504 0 a0_0 a0_1 a0_2 a0_0 a0_1 0)) else (some (0, 0, 0, false))) = some (r1, r2, r3, r4) := H
 have A3 := Aside0.mk A30
 clear A30
 by_cases c4 : t503 = true
 ·subst c4
  have H1 : ((spec_EnteredFrom.f k a0_0 a0_1 a0_2 a1).bind fun t504 => (spec_ThreadTree.l0 k t504 0 a0_0 a0_1 a0_2 a0_0 a0_1 0)) = some (r1, r2, r3, r4) := by rw [if_pos rfl] at H; exact H
  clear H
  have H := H1
  clear H1
  replace H := Option.bind_eq_some_iff.mp H
  obtain ⟨t504, A50, H⟩ := H
  replace H : (spec_ThreadTree.l0 k t504 0 a0_0 a0_1 a0_2 a0_0 a0_1 0) = some (r1, r2, r3, r4) := H
  have A5 := Aside0.mk A50
  clear A50
  have H' := Aside0.mk H
  clear H
  go_enter Try.func10, Try.ntmps10
  go_wp2_with (first | (refine box_ (N := 2) (cs := #[.int .i64 a0_0, .int .i64 a0_1, .int .i64 a0_2]) (t := 28) ?_; intro gb501 hg w6 hbox hb; have BK501 := Aside0.mk (hbox); have GW501 := HB.g0 hg; have GE501 := HB.g0 hg; replace HB := HB.s0 hb; clear hb hbox hg) | (refine box_ (N := 4) (cs := #[.int .i64 0, .int .i64 0, .int .i64 0]) (t := 28) ?_; intro gb502 hg w7 hbox hb; have BK502 := Aside0.mk (hbox); have GW502 := HB.g1 GE501 hg; have GE502 := HB.g1 GE501 hg; replace HB := HB.s1 GE501 hb; have NB501_502 := BK501.nl hg; have NB502_501 := BK501.nr hg; replace BK501 := BK501.bb hb; clear hb hbox hg; have hnb8 := NB501_502.out; have hnc8 := NB502_501.out; obtain ⟨hcz9_0, hcz9_1, hcz9_2⟩ := cz3_ BK501.out; obtain ⟨hfz9_0, hfz9_1, hfz9_2⟩ := fz3_ BK501.out) | (refine gl_ 11 Try.func20 #[.agg #[.int .i64 a0_0, .int .i64 a0_1, .int .i64 a0_2], .int .i64 a1] ?_; (with_reducible refine (spec_l04Has.calls a0_0 a0_1 a0_2 a1 true _ A3.out).mono ?_); rintro e w10 ⟨rfl, hb⟩; refine ⟨_, rfl, ?_⟩; replace BK501 := BK501.bb hb; replace BK502 := BK502.bb hb; replace HB := HB.s2 GE501 GE502 hb; (try clear hb); obtain ⟨hcz11_0, hcz11_1, hcz11_2⟩ := cz3_ BK501.out; obtain ⟨hfz11_0, hfz11_1, hfz11_2⟩ := fz3_ BK501.out) | (refine gl_ 16 Try.func21 #[.agg #[.int .i64 a0_0, .int .i64 a0_1, .int .i64 a0_2], .int .i64 a1] ?_; (with_reducible refine (spec_EnteredFrom.calls k a0_0 a0_1 a0_2 a1 t504 _ A5.out).mono ?_); rintro e w12 ⟨v505, rfl, ho0, hb⟩; refine ⟨_, rfl, ?_⟩; have HO506 := Aside0.mk (Kd.R_lower ho0 (below_size (hb2_ HB.out GE501.out GE502.out))); replace BK501 := BK501.bb hb; replace BK502 := BK502.bb hb; replace HB := HB.s2 GE501 GE502 hb; (try clear hb); (try clear ho0); obtain ⟨hcz13_0, hcz13_1, hcz13_2⟩ := cz3_ BK501.out; obtain ⟨hfz13_0, hfz13_1, hfz13_2⟩ := fz3_ BK501.out) | (refine box_ (N := 7) (cs := #[.int .i64 0, .int .i64 0, .int .i64 0]) (t := 28) ?_; intro gb507 hg w14 hbox hb; replace HO506 := HO506.kb hb; have BK507 := Aside0.mk (hbox); have GW507 := HB.g2 GE501 GE502 hg; have GE507 := HB.g2 GE501 GE502 hg; replace HB := HB.s2 GE501 GE502 hb; have NB501_507 := BK501.nl hg; have NB507_501 := BK501.nr hg; replace BK501 := BK501.bb hb; have NB502_507 := BK502.nl hg; have NB507_502 := BK502.nr hg; replace BK502 := BK502.bb hb; clear hb hbox hg; have hnb15 := NB507_501.out; have hnc15 := NB501_507.out; have hnb16 := NB507_502.out; have hnc16 := NB502_507.out; obtain ⟨hcz17_0, hcz17_1, hcz17_2⟩ := cz3_ BK507.out; obtain ⟨hfz17_0, hfz17_1, hfz17_2⟩ := fz3_ BK507.out))
  go_loopg [8] k (fun kq v8 w' => ∃ (x8_1 : Int) (x508000_1 : Int) (x508001_1 : Int) (x508002_1 : Int), v8 = .int .i64 x8_1 ∧ Aside0 (spec_ThreadTree.l0 kq t504 x8_1 a0_0 a0_1 a0_2 x508000_1 x508001_1 x508002_1 = some (r1, r2, r3, r4)) ∧ Aside0 (kq ≤ k) ∧ Aside0 (Kd.R (Kd.int .i64) 3 w' w.heap.size (fun _ => True) v505 t504) ∧ Aside0 (w'.heap[gb501]? = some (.cells #[.int .i64 a0_0, .int .i64 a0_1, .int .i64 a0_2] 28 (0, 0))) ∧ Aside0 (w'.heap[gb502]? = some (.cells #[.int .i64 0, .int .i64 0, .int .i64 0] 28 (0, 0))) ∧ Aside0 (w'.heap[gb507]? = some (.cells #[.int .i64 x508000_1, .int .i64 x508001_1, .int .i64 x508002_1] 28 (0, 0))) ∧ Aside0 (Below w.heap.size w w'))
  case atStart => exact ⟨(0), (a0_0), (a0_1), (0), (by first | rfl | (simp; done) | (simp [*]; done)), H', ⟨Nat.le_refl _⟩, ⟨by (with_reducible repeat (first | apply Kd.R_alloc | apply Kd.R_drewN | apply Kd.R_drew)); exact Kd.R_mono (Kd.R_far (p := ⟨gb507, 2, none⟩) (Kd.R_far (p := ⟨gb507, 1, none⟩) (Kd.R_far (p := ⟨gb507, 0, none⟩) (Kd.R_types HO506.out BK507.out (by decide)) (fun _ hk => hk.2) (.int .i64 a0_0)) (fun _ hk => hk.2) (.int .i64 a0_1)) (fun _ hk => hk.2) (.int .i64 0)) (fun _ hk => trivial)⟩, ⟨by (with_reducible repeat (first | refine blk_drewN ?_ _ | refine blk_drew ?_ | refine blk_alloc ?_ _)); refine blk_far ?_ NB501_507.out _; (with_reducible repeat (first | refine blk_drewN ?_ _ | refine blk_drew ?_ | refine blk_alloc ?_ _)); refine blk_far ?_ NB501_507.out _; (with_reducible repeat (first | refine blk_drewN ?_ _ | refine blk_drew ?_ | refine blk_alloc ?_ _)); refine blk_far ?_ NB501_507.out _; (with_reducible repeat (first | refine blk_drewN ?_ _ | refine blk_drew ?_ | refine blk_alloc ?_ _)); exact BK501.out⟩, ⟨by (with_reducible repeat (first | refine blk_drewN ?_ _ | refine blk_drew ?_ | refine blk_alloc ?_ _)); refine blk_far ?_ NB502_507.out _; (with_reducible repeat (first | refine blk_drewN ?_ _ | refine blk_drew ?_ | refine blk_alloc ?_ _)); refine blk_far ?_ NB502_507.out _; (with_reducible repeat (first | refine blk_drewN ?_ _ | refine blk_drew ?_ | refine blk_alloc ?_ _)); refine blk_far ?_ NB502_507.out _; (with_reducible repeat (first | refine blk_drewN ?_ _ | refine blk_drew ?_ | refine blk_alloc ?_ _)); exact BK502.out⟩, ⟨bq3_ BK507.out⟩, ⟨hb3_ HB.out GE501.out GE502.out GE507.out⟩⟩
  case round =>
   clear H'
   try clear c1
   try clear c2
   try clear p2
   try clear c4
   try clear c8
   try clear c10
   try clear c15
   try clear c16
   try clear hcz11_0
   try clear hcz11_1
   try clear hcz11_2
   try clear hcz13_0
   try clear hcz13_1
   try clear hcz13_2
   try clear hcz17_0
   try clear hcz17_1
   try clear hcz17_2
   try clear hcz9_0
   try clear hcz9_1
   try clear hcz9_2
   try clear hfz11_0
   try clear hfz11_1
   try clear hfz11_2
   try clear hfz13_0
   try clear hfz13_1
   try clear hfz13_2
   try clear hfz17_0
   try clear hfz17_1
   try clear hfz17_2
   try clear hfz9_0
   try clear hfz9_1
   try clear hfz9_2
   obtain ⟨x8_1, x508000_1, x508001_1, x508002_1, rfl, HA, HK1, HO_6, BK501, BK502, BK507, HB⟩ := hrel
   cases gk with
   | zero => exact absurd HA.out (by simp [spec_ThreadTree.l0])
   | succ k1 =>
    have H := HA.out
    clear HA
    simp only [spec_ThreadTree.l0] at H
    by_cases c18 : x8_1 < (t504.length : Int)
    ·rw [if_pos c18] at H
     have c18b0 : decide (x8_1 < (t504.length : Int)) = true := decide_eq_true c18
     clear c18
     by_cases c19 : 0 ≤ x8_1
     ·rw [if_pos c19] at H
      have c19b0 : decide (0 ≤ x8_1) = true := decide_eq_true c19
      clear c19
      by_cases c20 : (rd t504 x8_1) ≥ 0
      ·rw [if_pos c20] at H
       have c20b0 : decide (0 ≤ (rd t504 x8_1)) = true := decide_eq_true c20
       clear c20
       replace H := Option.bind_eq_some_iff.mp H
       obtain ⟨t512, A210, H⟩ := H
       replace H : ((spec_GapAt.f k1 a0_0 a0_1 (rd t504 x8_1) t512).bind fun t513 => ((spec_SetGap.f k1 x508000_1 x508001_1 x508002_1 t513 true).bind fun bt514 => (spec_ThreadTree.l0 k1 t504 (wrap64 (x8_1 + 1)) a0_0 a0_1 a0_2 bt514.1 bt514.2.1 bt514.2.2.1))) = some (r1, r2, r3, r4) := H
       have A21 := Aside0.mk A210
       clear A210
       replace H := Option.bind_eq_some_iff.mp H
       obtain ⟨t513, A220, H⟩ := H
       replace H : ((spec_SetGap.f k1 x508000_1 x508001_1 x508002_1 t513 true).bind fun bt514 => (spec_ThreadTree.l0 k1 t504 (wrap64 (x8_1 + 1)) a0_0 a0_1 a0_2 bt514.1 bt514.2.1 bt514.2.2.1)) = some (r1, r2, r3, r4) := H
       have A22 := Aside0.mk A220
       clear A220
       replace H := Option.bind_eq_some_iff.mp H
       obtain ⟨⟨t514, t515, t516, t517⟩, A230, H⟩ := H
       replace H : (spec_ThreadTree.l0 k1 t504 (wrap64 (x8_1 + 1)) a0_0 a0_1 a0_2 t514 t515 t516) = some (r1, r2, r3, r4) := H
       have A23 := Aside0.mk A230
       clear A230
       have H' := Aside0.mk H
       clear H
       obtain ⟨Ao24, co24, eo24⟩ := Kd.R_slice HO_6.out
       subst eo24
       have p509 : 0 ≤ (x8_1 : Int) := of_decide_eq_true (as_)
       have q509 : x8_1 < (t504.length : Int) := of_decide_eq_true (as_)
       obtain ⟨ad509, e509, hx509_0⟩ := Kd.at_int (Kd.R_reads' HO_6.out).2.2 x8_1 p509 q509
       cases e509
       replace p509 := eq_true p509
       replace q509 := eq_true q509
       try go_wp2
       replace HO_6 := Aside0.mk (Kd.R_drew HO_6.out)
       replace BK501 := Aside0.mk (blk_drew BK501.out)
       replace BK502 := Aside0.mk (blk_drew BK502.out)
       replace BK507 := Aside0.mk (blk_drew BK507.out)
       replace HB := Aside0.mk (below_drew1 HB.out)
       have p510 : 0 ≤ (x8_1 : Int) := of_decide_eq_true (as_)
       have q510 : x8_1 < (t504.length : Int) := of_decide_eq_true (as_)
       obtain ⟨ad510, e510, hx510_0⟩ := Kd.at_int (Kd.R_reads' HO_6.out).2.2 x8_1 p510 q510
       obtain rfl : ad509 = ad510 := (by injection e510)
       replace p510 := eq_true p510
       replace q510 := eq_true q510
       have p511 : 0 ≤ (x8_1 : Int) := of_decide_eq_true (as_)
       have q511 : x8_1 < (t504.length : Int) := of_decide_eq_true (as_)
       obtain ⟨ad511, e511, hx511_0⟩ := Kd.at_int (Kd.R_reads' HO_6.out).2.2 x8_1 p511 q511
       obtain rfl : ad509 = ad511 := (by injection e511)
       replace p511 := eq_true p511
       replace q511 := eq_true q511
       refine start_ (n := 21) (S := fun w' => w'.cell? ⟨gb507, 0, none⟩ = some (.int .i64 x508000_1) ∧ w'.cell? ⟨gb507, 1, none⟩ = some (.int .i64 x508001_1) ∧ w'.cell? ⟨gb507, 2, none⟩ = some (.int .i64 x508002_1) ∧ w'.cell? ⟨gb501, 0, none⟩ = some (.int .i64 a0_0) ∧ w'.cell? ⟨gb501, 1, none⟩ = some (.int .i64 a0_1) ∧ w'.cell? ⟨gb501, 2, none⟩ = some (.int .i64 a0_2) ∧ w'.cell? (ad509.add (x8_1).toNat) = some (.int .i64 (rd t504 x8_1)) ∧ w'.cell? (ad509.add (x8_1).toNat) = some (.int .i64 (rd t504 x8_1))) (ds := [20]) #[false, false, false, false, false, false, false, false, false, false, false, false, false, false, false, false, false, false, false, false, false] (by kernel_rfl) rfl rfl ⟨BK507.c 0, BK507.c 1, BK507.c 2, BK501.c 0, BK501.c 1, BK501.c 2, hx510_0, hx511_0⟩ (fun hHeld => ?_); refine with_tabW spec_ThreadTree.tab9 spec_ThreadTree.bits9 (fun HT_ HW_ => ?_)
       generalize wr.drew = w25 at HO_6 BK501 BK502 BK507 HB hx510_0 hx511_0 hHeld ⊢
       refine pv_ (i := 1) (N := some 33) HT_.out ?_
       refine pv_ (i := 3) (N := some 35) HT_.out ?_
       refine pv_ (i := 4) (N := some 36) HT_.out ?_
       refine pv_ (i := 5) (N := some 37) HT_.out ?_
       refine pv_ (i := 7) (N := some 39) HT_.out ?_
       refine pv_ (i := 9) (N := some 41) HT_.out ?_
       refine pv_ (i := 10) (N := some 42) HT_.out ?_
       refine pv_ (i := 11) (N := some 43) HT_.out ?_
       refine pv_ (i := 13) (N := some 45) HT_.out ?_
       refine tv8_ (i := 0) (N := some 32) HT_.out HW_.out hHeld ?_
       refine tv8_ (i := 2) (N := some 34) HT_.out HW_.out hHeld ?_
       refine tv8_ (i := 6) (N := some 38) HT_.out HW_.out hHeld ?_
       refine tv8_ (i := 8) (N := some 40) HT_.out HW_.out hHeld ?_
       refine tv8_ (i := 12) (N := some 44) HT_.out HW_.out hHeld ?_
       refine ov_ (i := 14) (N := some 46) HT_.out (fun K hK => ?_)
       refine gq_ Try.func24 #[.agg #[.int .i64 a0_0, .int .i64 a0_1], .int .i64 (rd t504 x8_1), .int .i64 x8_1] ?_
       with_reducible refine (spec_l14Direction.calls k1 a0_0 a0_1 (rd t504 x8_1) x8_1 t512 _ A21.out).mono ?_
       rintro e w26 ⟨rfl, hb⟩
       have HS6_ := (hb.cell (World.block_lt_of_cell? _ _ (hHeld.2.2.2.2.2.2.1))).trans (hHeld.2.2.2.2.2.2.1)
       have HS7_ := (hb.cell (World.block_lt_of_cell? _ _ (hHeld.2.2.2.2.2.2.2))).trans (hHeld.2.2.2.2.2.2.2)
       refine ⟨_, rfl, ?_⟩
       replace HO_6 := HO_6.kb hb
       replace BK501 := BK501.bb hb
       replace BK502 := BK502.bb hb
       replace BK507 := BK507.bb hb
       replace HB := HB.s3 GE501 GE502 GE507 hb
       skip
       (try clear hb2)
       (try clear hk)
       (try clear hi)
       refine hK.out _ _ ⟨BK507.c 0, BK507.c 1, BK507.c 2, BK501.c 0, BK501.c 1, BK501.c 2, HS6_, HS7_⟩ (fun hHeld => ?_)
       clear hK K
       refine nm_ ?_
       refine ov_ (i := 15) (N := some 47) HT_.out (fun K hK => ?_)
       refine gq_ Try.func23 #[.agg #[.int .i64 a0_0, .int .i64 a0_1], .int .i64 (rd t504 x8_1), .int .i64 t512] ?_
       with_reducible refine (spec_GapAt.calls k1 a0_0 a0_1 (rd t504 x8_1) t512 t513 _ A22.out).mono ?_
       rintro e w27 ⟨rfl, hb⟩
       have HS6_ := (hb.cell (World.block_lt_of_cell? _ _ (hHeld.2.2.2.2.2.2.1))).trans (hHeld.2.2.2.2.2.2.1)
       have HS7_ := (hb.cell (World.block_lt_of_cell? _ _ (hHeld.2.2.2.2.2.2.2))).trans (hHeld.2.2.2.2.2.2.2)
       refine ⟨_, rfl, ?_⟩
       replace HO_6 := HO_6.kb hb
       replace BK501 := BK501.bb hb
       replace BK502 := BK502.bb hb
       replace BK507 := BK507.bb hb
       replace HB := HB.s3 GE501 GE502 GE507 hb
       skip
       (try clear hb2)
       (try clear hk)
       (try clear hi)
       refine hK.out _ _ ⟨BK507.c 0, BK507.c 1, BK507.c 2, BK501.c 0, BK501.c 1, BK501.c 2, HS6_, HS7_⟩ (fun hHeld => ?_)
       clear hK K
       refine nm_ ?_
       refine ov_ (i := 16) (N := some 48) HT_.out (fun K hK => ?_)
       refine gq_ Try.func22 #[.agg #[.int .i64 x508000_1, .int .i64 x508001_1, .int .i64 x508002_1], .int .i64 t513, .bool true] ?_
       with_reducible refine (spec_SetGap.calls k1 x508000_1 x508001_1 x508002_1 t513 true t514 t515 t516 t517 _ A23.out).mono ?_
       rintro e w28 ⟨rfl, hb⟩
       have HS6_ := (hb.cell (World.block_lt_of_cell? _ _ (hHeld.2.2.2.2.2.2.1))).trans (hHeld.2.2.2.2.2.2.1)
       have HS7_ := (hb.cell (World.block_lt_of_cell? _ _ (hHeld.2.2.2.2.2.2.2))).trans (hHeld.2.2.2.2.2.2.2)
       refine ⟨_, rfl, ?_⟩
       replace HO_6 := HO_6.kb hb
       replace BK501 := BK501.bb hb
       replace BK502 := BK502.bb hb
       replace BK507 := BK507.bb hb
       replace HB := HB.s3 GE501 GE502 GE507 hb
       skip
       (try clear hb2)
       (try clear hk)
       (try clear hi)
       refine hK.out _ _ ⟨BK507.c 0, BK507.c 1, BK507.c 2, BK501.c 0, BK501.c 1, BK501.c 2, HS6_, HS7_⟩ (fun hHeld => ?_)
       clear hK K
       refine nm_ ?_
       refine pv_ (i := 17) (N := some 31) HT_.out ?_
       refine pv_ (i := 18) (N := some 49) HT_.out ?_
       refine pv_ (i := 19) (N := some 50) HT_.out ?_
       refine last_ (i := 20) (N := none) #[true, true, true, true, true, true, true, true, true, true, true, true, true, true, true, true, true, true, true, true, true] rfl rfl (one_of HT_.out (by kernel_rfl)) (by decide) (fun K hK => ?_)
       have hs29 : w28.cell? ⟨gb507, 0, none⟩ = some (.int .i64 x508000_1) := BK507.c 0
       have hfs29 := blk_frozen BK507.out 0
       have hns29_0 := NB501_507.out
       have hns29_1 := NB502_507.out
       have hms29_0 := NB507_501.out
       have hms29_1 := NB507_502.out
       have hs30 : w28.cell? ⟨gb507, 1, none⟩ = some (.int .i64 x508001_1) := BK507.c 1
       have hfs30 := blk_frozen BK507.out 1
       have hns30_0 := NB501_507.out
       have hns30_1 := NB502_507.out
       have hms30_0 := NB507_501.out
       have hms30_1 := NB507_502.out
       have hs31 : w28.cell? ⟨gb507, 2, none⟩ = some (.int .i64 x508002_1) := BK507.c 2
       have hfs31 := blk_frozen BK507.out 2
       have hns31_0 := NB501_507.out
       have hns31_1 := NB502_507.out
       have hms31_0 := NB507_501.out
       have hms31_1 := NB507_502.out
       refine skip_ (w1 := ?_) (by rfl) rfl ?_ ?_
       rotate_left
       ·go_simp
        rfl
       refine hK.out _ _ ?_
       clear hK K
       refine done_ (done_of HT_.out (by kernel_rfl)) ?_
       try go_wp2
       go_roundg k1
       case measure => have := HK1.out; omega
       case rel => exact ⟨(wrap64 (x8_1 + 1)), (t514), (t515), (t516), (by first | rfl | (simp; done) | (simp [*]; done)), H', ⟨by have := HK1.out; omega⟩, ⟨by (with_reducible repeat (first | apply Kd.R_alloc | apply Kd.R_drewN | apply Kd.R_drew)); exact Kd.R_mono (Kd.R_far (p := ⟨gb507, 2, none⟩) (Kd.R_far (p := ⟨gb507, 1, none⟩) (Kd.R_far (p := ⟨gb507, 0, none⟩) (Kd.R_types HO_6.out BK507.out (by decide)) (fun _ hk => hk.2) (.int .i64 t514)) (fun _ hk => hk.2) (.int .i64 t515)) (fun _ hk => hk.2) (.int .i64 t516)) (fun _ hk => trivial)⟩, ⟨by (with_reducible repeat (first | refine blk_drewN ?_ _ | refine blk_drew ?_ | refine blk_alloc ?_ _)); refine blk_far ?_ NB501_507.out _; (with_reducible repeat (first | refine blk_drewN ?_ _ | refine blk_drew ?_ | refine blk_alloc ?_ _)); refine blk_far ?_ NB501_507.out _; (with_reducible repeat (first | refine blk_drewN ?_ _ | refine blk_drew ?_ | refine blk_alloc ?_ _)); refine blk_far ?_ NB501_507.out _; (with_reducible repeat (first | refine blk_drewN ?_ _ | refine blk_drew ?_ | refine blk_alloc ?_ _)); exact BK501.out⟩, ⟨by (with_reducible repeat (first | refine blk_drewN ?_ _ | refine blk_drew ?_ | refine blk_alloc ?_ _)); refine blk_far ?_ NB502_507.out _; (with_reducible repeat (first | refine blk_drewN ?_ _ | refine blk_drew ?_ | refine blk_alloc ?_ _)); refine blk_far ?_ NB502_507.out _; (with_reducible repeat (first | refine blk_drewN ?_ _ | refine blk_drew ?_ | refine blk_alloc ?_ _)); refine blk_far ?_ NB502_507.out _; (with_reducible repeat (first | refine blk_drewN ?_ _ | refine blk_drew ?_ | refine blk_alloc ?_ _)); exact BK502.out⟩, ⟨bq3_ BK507.out⟩, ⟨hb3_ HB.out GE501.out GE502.out GE507.out⟩⟩
      ·rw [if_neg c20] at H
       have c20b0 : decide (0 ≤ (rd t504 x8_1)) = false := decide_eq_false c20
       clear c20
       have H' := Aside0.mk H
       clear H
       obtain ⟨Ao32, co32, eo32⟩ := Kd.R_slice HO_6.out
       subst eo32
       have p509 : 0 ≤ (x8_1 : Int) := of_decide_eq_true (as_)
       have q509 : x8_1 < (t504.length : Int) := of_decide_eq_true (as_)
       obtain ⟨ad509, e509, hx509_0⟩ := Kd.at_int (Kd.R_reads' HO_6.out).2.2 x8_1 p509 q509
       cases e509
       replace p509 := eq_true p509
       replace q509 := eq_true q509
       go_wp2
       go_roundg k1
       case measure => have := HK1.out; omega
       case rel => exact ⟨(wrap64 (x8_1 + 1)), (x508000_1), (x508001_1), (x508002_1), (by first | rfl | (simp; done) | (simp [*]; done)), H', ⟨by have := HK1.out; omega⟩, ⟨kr_ HO_6.out⟩, ⟨bk_ BK501.out⟩, ⟨bk_ BK502.out⟩, ⟨bk_ BK507.out⟩, ⟨hb3_ HB.out GE501.out GE502.out GE507.out⟩⟩
     ·rw [if_neg c19] at H
      exact absurd H (by simp)
    ·rw [if_neg c18] at H
     have c18b0 : decide (x8_1 < (t504.length : Int)) = false := decide_eq_false c18
     clear c18
     replace H := Option.bind_eq_some_iff.mp H
     obtain ⟨t508, A330, H⟩ := H
     replace H : (some (x508000_1, x508001_1, x508002_1, t508)) = some (r1, r2, r3, r4) := H
     have A33 := Aside0.mk A330
     clear A330
     simp only [Option.some.injEq, Prod.mk.injEq] at H
     obtain ⟨rfl, rfl, rfl, rfl⟩ := H
     obtain ⟨Ao34, co34, eo34⟩ := Kd.R_slice HO_6.out
     subst eo34
     try go_wp2
     replace HO_6 := Aside0.mk (Kd.R_drew HO_6.out)
     replace BK501 := Aside0.mk (blk_drew BK501.out)
     replace BK502 := Aside0.mk (blk_drew BK502.out)
     replace BK507 := Aside0.mk (blk_drew BK507.out)
     replace HB := Aside0.mk (below_drew1 HB.out)
     refine start_ (n := 5) (S := fun w' => w'.cell? ⟨gb507, 0, none⟩ = some (.int .i64 x508000_1) ∧ w'.cell? ⟨gb507, 1, none⟩ = some (.int .i64 x508001_1) ∧ w'.cell? ⟨gb507, 2, none⟩ = some (.int .i64 x508002_1)) (ds := []) #[false, false, false, false, false] (by kernel_rfl) rfl rfl ⟨BK507.c 0, BK507.c 1, BK507.c 2⟩ (fun hHeld => ?_)
     generalize wr.drew = w35 at HO_6 BK501 BK502 BK507 HB hHeld ⊢
     refine take_ (i := 0) (N := some 51) (v := ?_) (a' := ?_) #[true, false, false, false, false] rfl rfl (by kernel_rfl) (fun _ _ _ h => h) (Or.inl ⟨by rfl, ?_⟩) hHeld ?_ ?_
     rotate_left
     ·rintro w' ⟨s0, s1, s2⟩
      go_simp
      with_reducible rfl
     rotate_left
     ·simp only [Act.put, List.setIfInBounds_toArray, List.set_cons_zero, List.set_cons_succ, i64_w, i32_w]
      rfl
     refine take_ (i := 1) (N := some 52) (v := ?_) (a' := ?_) #[true, true, false, false, false] rfl rfl (by kernel_rfl) (fun _ _ _ h => h) (Or.inl ⟨by rfl, ?_⟩) hHeld ?_ ?_
     rotate_left
     ·rintro w' ⟨s0, s1, s2⟩
      go_simp
      with_reducible rfl
     rotate_left
     ·simp only [Act.put, List.setIfInBounds_toArray, List.set_cons_zero, List.set_cons_succ, i64_w, i32_w]
      rfl
     refine one_ (i := 2) (N := some 53) #[true, true, true, false, false] rfl rfl (by kernel_rfl) (by decide) (fun K hK => ?_)
     refine gq_ Try.func25 #[.agg #[.int .i64 x508000_1, .int .i64 x508001_1, .int .i64 x508002_1]] ?_
     with_reducible refine (spec_IsPerfect.calls k1 x508000_1 x508001_1 x508002_1 t508 _ A33.out).mono ?_
     rintro e w36 ⟨rfl, hb⟩
     refine ⟨_, rfl, ?_⟩
     replace HO_6 := HO_6.kb hb
     replace BK501 := BK501.bb hb
     replace BK502 := BK502.bb hb
     replace BK507 := BK507.bb hb
     replace HB := HB.s3 GE501 GE502 GE507 hb
     skip
     (try clear hb2)
     (try clear hk)
     (try clear hi)
     refine hK.out _ _ ⟨BK507.c 0, BK507.c 1, BK507.c 2⟩ (fun hHeld => ?_)
     clear hK K
     refine nm_ ?_
     refine one_ (i := 3) (N := none) #[true, true, true, true, false] rfl rfl (by kernel_rfl) (by decide) (fun K hK => ?_)
     have hs37 : w36.cell? ⟨gb502, 0, none⟩ = some (.int .i64 0) := BK502.c 0
     have hfs37 := blk_frozen BK502.out 0
     have hns37_0 := NB501_502.out
     have hns37_2 := NB507_502.out
     have hms37_0 := NB502_501.out
     have hms37_2 := NB502_507.out
     have hs38 : w36.cell? ⟨gb502, 1, none⟩ = some (.int .i64 0) := BK502.c 1
     have hfs38 := blk_frozen BK502.out 1
     have hns38_0 := NB501_502.out
     have hns38_2 := NB507_502.out
     have hms38_0 := NB502_501.out
     have hms38_2 := NB502_507.out
     have hs39 : w36.cell? ⟨gb502, 2, none⟩ = some (.int .i64 0) := BK502.c 2
     have hfs39 := blk_frozen BK502.out 2
     have hns39_0 := NB501_502.out
     have hns39_2 := NB507_502.out
     have hms39_0 := NB502_501.out
     have hms39_2 := NB502_507.out
     refine skip_ (w1 := ?_) (by rfl) rfl ?_ ?_
     rotate_left
     ·go_simp
      rfl
     refine hK.out _ _ ⟨((cell_far (p := ⟨gb502, _, none⟩) NB507_502.out _).trans (((cell_far (p := ⟨gb502, _, none⟩) NB507_502.out _).trans (((cell_far (p := ⟨gb502, _, none⟩) NB507_502.out _).trans (hHeld.1)))))), ((cell_far (p := ⟨gb502, _, none⟩) NB507_502.out _).trans (((cell_far (p := ⟨gb502, _, none⟩) NB507_502.out _).trans (((cell_far (p := ⟨gb502, _, none⟩) NB507_502.out _).trans (hHeld.2.1)))))), ((cell_far (p := ⟨gb502, _, none⟩) NB507_502.out _).trans (((cell_far (p := ⟨gb502, _, none⟩) NB507_502.out _).trans (((cell_far (p := ⟨gb502, _, none⟩) NB507_502.out _).trans (hHeld.2.2))))))⟩ (fun hHeld => ?_)
     clear hK K
     refine pure_ (i := 4) (N := some 5) (v := ?_) (a' := ?_) #[true, true, true, true, true] rfl rfl (by kernel_rfl) (fun _ _ _ h => h) (Or.inl ⟨by rfl, ?_⟩) ?_ ?_
     rotate_left
     ·intro w'
      go_simp
      with_reducible rfl
     rotate_left
     ·simp only [Act.put, List.setIfInBounds_toArray, List.set_cons_zero, List.set_cons_succ, i64_w, i32_w]
      rfl
     refine done_ (by kernel_rfl) ?_
     try go_wp2
     refine bodyPost_ret (results_ct rfl _ _ gb502 28 #[.int .i64 x508000_1, .int .i64 x508001_1, .int .i64 x508002_1] (0, 0) _ rfl (bq3_ BK502.out) Try.underlying28 rfl (by kernel_rfl)) rfl ?_
     exact ⟨ex_, hb3_ HB.out GE501.out GE502.out GE507.out⟩
 ·replace c4 := Bool.eq_false_iff.mpr c4
  subst c4
  have H1 : (some (0, 0, 0, false)) = some (r1, r2, r3, r4) := by rw [if_neg (show ¬ (false = true) by decide)] at H; exact H
  clear H
  have H := H1
  clear H1
  simp only [Option.some.injEq, Prod.mk.injEq] at H
  obtain ⟨rfl, rfl, rfl, rfl⟩ := H
  go_enter Try.func10, Try.ntmps10
  go_wp2_with (first | (refine box_ (N := 2) (cs := #[.int .i64 a0_0, .int .i64 a0_1, .int .i64 a0_2]) (t := 28) ?_; intro gb501 hg w40 hbox hb; have BK501 := Aside0.mk (hbox); have GW501 := HB.g0 hg; have GE501 := HB.g0 hg; replace HB := HB.s0 hb; clear hb hbox hg) | (refine box_ (N := 4) (cs := #[.int .i64 0, .int .i64 0, .int .i64 0]) (t := 28) ?_; intro gb502 hg w41 hbox hb; have BK502 := Aside0.mk (hbox); have GW502 := HB.g1 GE501 hg; have GE502 := HB.g1 GE501 hg; replace HB := HB.s1 GE501 hb; have NB501_502 := BK501.nl hg; have NB502_501 := BK501.nr hg; replace BK501 := BK501.bb hb; clear hb hbox hg; have hnb42 := NB501_502.out; have hnc42 := NB502_501.out; obtain ⟨hcz43_0, hcz43_1, hcz43_2⟩ := cz3_ BK501.out; obtain ⟨hfz43_0, hfz43_1, hfz43_2⟩ := fz3_ BK501.out) | (refine gl_ 11 Try.func20 #[.agg #[.int .i64 a0_0, .int .i64 a0_1, .int .i64 a0_2], .int .i64 a1] ?_; (with_reducible refine (spec_l04Has.calls a0_0 a0_1 a0_2 a1 false _ A3.out).mono ?_); rintro e w44 ⟨rfl, hb⟩; refine ⟨_, rfl, ?_⟩; replace BK501 := BK501.bb hb; replace BK502 := BK502.bb hb; replace HB := HB.s2 GE501 GE502 hb; (try clear hb); obtain ⟨hcz45_0, hcz45_1, hcz45_2⟩ := cz3_ BK502.out; obtain ⟨hfz45_0, hfz45_1, hfz45_2⟩ := fz3_ BK502.out))
  refine bodyPost_ret (results_ct rfl _ _ gb502 28 #[.int .i64 0, .int .i64 0, .int .i64 0] (0, 0) _ rfl (bq3_ BK502.out) Try.underlying28 rfl (by kernel_rfl)) rfl ?_
  exact ⟨ex_, hb2_ HB.out GE501.out GE502.out⟩

end Go.Proofs.Ytjmbnlemfdjkfaa.X
