-- Written by a program of this session (xprint.py), out of the translation and of hand-written contracts. Lean checks it.
import Derived.Test.YtgfhpjnofmbcoaaX0
import Derived.Test.YtgfhpjnofmbcoaaXcdraw
import Derived.Test.YtgfhpjnofmbcoaaXcfill
import Derived.Test.YtgfhpjnofmbcoaaXcgrid
namespace Go.Proofs.Ytgfhpjnofmbcoaa.X
open Go.RowKit Go.Proofs.YtgfhpjnofmbcoaaW.PrintWords Go.Proofs.YtgfhpjnofmbcoaaW.PrintLast Go.Proofs.YtgfhpjnofmbcoaaW.PrintMore
attribute [local go_sem] max2_int min2_int max_two min_two max_three min_three max_four min_four   -- for this text's walks alone
set_option linter.unusedVariables false
set_option linter.unusedSimpArgs false

/-! ### spec_l30Hedge: function 16 -/
def spec_l30Hedge.l0 : Nat → Int → List Int → Int → Int → Int → Int → Int → Int → Int → Int → List Int → Int → Option (Int × Int × Int × List Int × Int × Int × Int)
 | 0, _, _, _, _, _, _, _, _, _, _, _, _ => none
 | k + 1, x5, x1000, x1001, x1002, x508000, x508001, x508002, x512000, x512001, x512002, x512003, x512004 => (spec_CountGaps.f x508000 x508001).bind fun t512 => (if x5 < t512 then ((spec_l01Below.f x1000 x1001 x1002 12).bind fun bt513 => (if x512003.length < 17592186044416 then (spec_l30Hedge.l0 k (wrap64 (x5 + 1)) x1000 bt513.2.1 bt513.2.2 x508000 x508001 x508002 x512000 x512001 x512002 (x512003 ++ [bt513.1]) x512004) else (none))) else (some (x512000, x512001, x512002, x512003, x512004, x1001, x1002)))
def spec_l30Hedge.f (k : Nat) (s0_0 : List Int) (s0_1 : Int) (s0_2 : Int) : Option (Int × Int × Int × List Int × Int × Int × Int) := (spec_l12Maze.f k s0_0 s0_1 s0_2).bind fun bt502 => ((spec_l01Below.f s0_0 bt502.2.2.2.1 bt502.2.2.2.2 20).bind fun bt508 => (spec_l30Hedge.l0 k 0 s0_0 bt508.2.1 bt508.2.2 bt502.1 bt502.2.1 bt502.2.2.1 bt502.1 bt502.2.1 bt502.2.2.1 ([] : List Int) (wrap64 (1 + bt508.1))))
theorem spec_l30Hedge.mono_l : ∀ k, (∀ y0 y1 y2 y3 y4 y5 y6 y7 y8 y9 y10 y11, LeO (spec_l30Hedge.l0 k y0 y1 y2 y3 y4 y5 y6 y7 y8 y9 y10 y11) (spec_l30Hedge.l0 (k + 1) y0 y1 y2 y3 y4 y5 y6 y7 y8 y9 y10 y11))
 | 0 => fun _ _ _ _ _ _ _ _ _ _ _ _ r h => by simp [spec_l30Hedge.l0] at h
 | k + 1 => by
  have ih0 := spec_l30Hedge.mono_l k
  ·intro y0 y1 y2 y3 y4 y5 y6 y7 y8 y9 y10 y11
   unfold spec_l30Hedge.l0
   repeat' first
   | (with_reducible exact ih0 ..)
   | (with_reducible exact spec_l12Maze.mono ..)
   | (with_reducible first | exact LeO.refl _ | exact LeO.none _ | refine LeO.ite ?_ ?_ | refine LeO.bind ?_ (fun _ => ?_))
   | exact ih0 ..
   | exact spec_l12Maze.mono ..
   | exact LeO.none _ | refine LeO.ite ?_ ?_ | refine LeO.bind ?_ (fun _ => ?_)
theorem spec_l30Hedge.mono : ∀ a0 a1 a2 k, LeO (spec_l30Hedge.f k a0 a1 a2) (spec_l30Hedge.f (k + 1) a0 a1 a2) := by
 intro a0 a1 a2 k
 have ih0 := spec_l30Hedge.mono_l k
 unfold spec_l30Hedge.f
 repeat' first
   | (with_reducible exact ih0 ..)
   | (with_reducible exact spec_l12Maze.mono ..)
   | (with_reducible first | exact LeO.refl _ | exact LeO.none _ | refine LeO.ite ?_ ?_ | refine LeO.bind ?_ (fun _ => ?_))
   | exact ih0 ..
   | exact spec_l12Maze.mono ..
   | exact LeO.none _ | refine LeO.ite ?_ ?_ | refine LeO.bind ?_ (fun _ => ?_)
def spec_l30Hedge.T6 : Bool × List (List Nat × List Nat) := (true, [([], []), ([0], [0]), ([], []), ([2], [2]), ([3], [3]), ([1, 4, 3], [1, 4]), ([0, 1, 2, 3, 4, 5], []), ([6, 5, 5, 0, 1, 2, 3, 4, 5], [5, 6])])
def spec_l30Hedge.B6 : List Nat := [0, 1, 0, 4, 12, 31, 63, 127]
theorem spec_l30Hedge.tab6 : rtab .any (opsOf Try.f16 6) = spec_l30Hedge.T6 := by kernel_rfl
theorem spec_l30Hedge.bits6 : waitsOk spec_l30Hedge.T6.2 spec_l30Hedge.B6 = true := by kernel_rfl
set_option maxHeartbeats 8000000 in
set_option maxRecDepth 100000 in
theorem spec_l30Hedge.calls (k : Nat) (g : Nat) (s0_0 : List Int) (s0_1 : Int) (s0_2 : Int) (r1 : Int) (r2 : Int) (r3 : Int) (r4 : List Int) (r5 : Int) (r6 : Int) (r7 : Int) (w0 w : World) (hI : IsS55 w0 w g s0_0 s0_1 s0_2) (hB : Below w0.heap.size w0 w) (h : spec_l30Hedge.f k s0_0 s0_1 s0_2 = some (r1, r2, r3, r4, r5, r6, r7)) :
  Calls Try.prog 16 #[.pointer (some ⟨g, 0, none⟩)] w fun e w' => ∃ v3_ : Value, e = .returned (.agg #[.int .i64 r1, .int .i64 r2, .int .i64 r3, v3_, .int .i64 r5]) ∧ Kd.R (Kd.int .i64) 3 w' w.heap.size (fun _ => True) v3_ r4 ∧ IsS55 w0 w' g s0_0 r6 r7 ∧ Below w0.heap.size w0 w' ∧ KeepBut w w' g none := by
 have hu30 := Try.underlying30
 have hu27 := Try.underlying27
 have hu25 := Try.underlying25
 have HI0 := Aside0.mk hI
 have HK := Aside0.mk (KeepBut.refl w g none)
 have HL := Aside0.mk hB.size
 clear hI
 have HW0 := Aside0.mk hB.size
 have HB := Aside0.mk hB
 clear hB
 have H : ((spec_l12Maze.f k s0_0 s0_1 s0_2).bind fun bt502 => ((spec_l01Below.f s0_0 bt502.2.2.2.1 bt502.2.2.2.2 20).bind fun bt508 => (spec_l30Hedge.l0 k 0 s0_0 bt508.2.1 bt508.2.2 bt502.1 bt502.2.1 bt502.2.2.1 bt502.1 bt502.2.1 bt502.2.2.1 ([] : List Int) (wrap64 (1 + bt508.1))))) = some (r1, r2, r3, r4, r5, r6, r7) := h
 clear h
 replace H := Option.bind_eq_some_iff.mp H
 obtain ⟨⟨t502, t503, t504, t505, t506⟩, A20, H⟩ := H
 replace H : ((spec_l01Below.f s0_0 t505 t506 20).bind fun bt508 => (spec_l30Hedge.l0 k 0 s0_0 bt508.2.1 bt508.2.2 t502 t503 t504 t502 t503 t504 ([] : List Int) (wrap64 (1 + bt508.1)))) = some (r1, r2, r3, r4, r5, r6, r7) := H
 have A2 := Aside0.mk A20
 clear A20
 replace H := Option.bind_eq_some_iff.mp H
 obtain ⟨⟨t508, t509, t510⟩, A30, H⟩ := H
 replace H : (spec_l30Hedge.l0 k 0 s0_0 t509 t510 t502 t503 t504 t502 t503 t504 ([] : List Int) (wrap64 (1 + t508))) = some (r1, r2, r3, r4, r5, r6, r7) := H
 have A3 := Aside0.mk A30
 clear A30
 have H' := Aside0.mk H
 clear H
 go_enter Try.func16, Try.ntmps16
 try go_wp2_with ((with_reducible refine gw_ ?_); first | (refine box_ (N := 2) (cs := #[.int .i64 0, .int .i64 0, .int .i64 0, .slice none 0 0, .int .i64 0]) (t := 30) ?_; intro gb501 hg w4 hbox hb; have n0_ := Aside0.mk (IsS55.below (by repeat (first | (with_reducible first | exact HI0.out | apply IsS55.alloc | apply IsS55.drewN | apply IsS55.drew | apply IsS55.set_1 | apply IsS55.set_2) | exact HI0.out)) hb); have n1_ := Aside0.mk (KeepBut.trans (by repeat (first | (with_reducible first | exact HK.out | apply KeepBut.set_ | apply keep_drewN | apply keep_drew | apply keep_alloc) | exact HK.out)) (KeepBut.of_below hb g none) (.inl rfl)); have n2_ := Aside0.mk (below_step (by repeat (first | (with_reducible first | exact HB.out | apply below_alloc | apply pw_below_drewN | apply below_drew1 | refine below_set ?_ (IsS55.ge HI0.out)) | exact HB.out)) hb); have n3_ := Aside0.mk (hbox); have n4_ := Aside0.mk ((by rw [hg]; exact (keep_size (w := w) (g := g) (row := none) (by repeat (first | (with_reducible first | exact HK.out | apply KeepBut.set_ | apply keep_drewN | apply keep_drew | apply keep_alloc) | exact HK.out))) : w.heap.size ≤ gb501)); have n5_ := Aside0.mk ((Nat.le_trans HW0.out (by rw [hg]; exact (keep_size (w := w) (g := g) (row := none) (by repeat (first | (with_reducible first | exact HK.out | apply KeepBut.set_ | apply keep_drewN | apply keep_drew | apply keep_alloc) | exact HK.out))) : w.heap.size ≤ gb501) : w0.heap.size ≤ gb501)); have n6_ := Aside0.mk ((by rw [hg]; exact Nat.ne_of_lt (IsS55.lt (show IsS55 w0 _ g s0_0 s0_1 s0_2 from by repeat (first | (with_reducible first | exact HI0.out | apply IsS55.alloc | apply IsS55.drewN | apply IsS55.drew | apply IsS55.set_1 | apply IsS55.set_2) | exact HI0.out))) : g ≠ gb501)); have n7_ := Aside0.mk ((by rw [hg]; exact Nat.ne_of_gt (IsS55.lt (show IsS55 w0 _ g s0_0 s0_1 s0_2 from by repeat (first | (with_reducible first | exact HI0.out | apply IsS55.alloc | apply IsS55.drewN | apply IsS55.drew | apply IsS55.set_1 | apply IsS55.set_2) | exact HI0.out))) : gb501 ≠ g)); clear HI0; clear HK; clear HB; have HI0 := n0_; have HK := n1_; have HB := n2_; have BK501 := n3_; have GW501 := n4_; have GE501 := n5_; have NB0_501 := n6_; have NB501_0 := n7_; clear n0_ n1_ n2_ n3_ n4_ n5_ n6_ n7_; clear hb hbox hg) | (refine gl_ 7 Try.func30 #[.pointer (some ⟨g, 0, none⟩)] ?_; (with_reducible refine (spec_l12Maze.calls k g s0_0 s0_1 s0_2 t502 t503 t504 t505 t506 w0 _ ?side1 ?side2 A2.out).mono ?_); (case side1 => repeat (first | (with_reducible first | exact HI0.out | apply IsS55.alloc | apply IsS55.drewN | apply IsS55.drew | apply IsS55.set_1 | apply IsS55.set_2 | refine IsS55.far ?_ NB0_501.out _) | exact HI0.out)); (case side2 => repeat (first | (with_reducible first | exact HB.out | apply below_alloc | apply pw_below_drewN | apply below_drew1 | refine below_set ?_ (IsS55.ge HI0.out) | refine below_set ?_ GE501.out) | exact HB.out)); rintro e w5 ⟨rfl, hi, hb, hk⟩; refine ⟨_, rfl, ?_⟩; replace BK501 := Aside0.mk (KeepBut.blk hk (g' := gb501) (o := .cells #[.int .i64 0, .int .i64 0, .int .i64 0, .slice none 0 0, .int .i64 0] 30 (0, 0)) (bk_ BK501.out) NB501_0.out (by simp)); replace HK := Aside0.mk (KeepBut.trans (by repeat (first | (with_reducible first | exact HK.out | apply KeepBut.set_ | apply keep_drewN | apply keep_drew | apply keep_alloc | refine keep_far ?_ GW501.out _) | exact HK.out)) hk (.inl rfl)); replace HB := Aside0.mk (hb); replace HI0 := Aside0.mk (hi)) | (refine box_ (N := 3) (cs := #[.int .i64 0, .int .i64 0, .int .i64 0]) (t := 27) ?_; intro gb507 hg w6 hbox hb; have n0_ := Aside0.mk (IsS55.below (by repeat (first | (with_reducible first | exact HI0.out | apply IsS55.alloc | apply IsS55.drewN | apply IsS55.drew | apply IsS55.set_1 | apply IsS55.set_2 | refine IsS55.far ?_ NB0_501.out _) | exact HI0.out)) hb); have n1_ := BK501.bb hb; have n2_ := Aside0.mk (KeepBut.trans (by repeat (first | (with_reducible first | exact HK.out | apply KeepBut.set_ | apply keep_drewN | apply keep_drew | apply keep_alloc | refine keep_far ?_ GW501.out _) | exact HK.out)) (KeepBut.of_below hb g none) (.inl rfl)); have n3_ := Aside0.mk (below_step (by repeat (first | (with_reducible first | exact HB.out | apply below_alloc | apply pw_below_drewN | apply below_drew1 | refine below_set ?_ (IsS55.ge HI0.out) | refine below_set ?_ GE501.out) | exact HB.out)) hb); have n4_ := Aside0.mk (hbox); have n5_ := Aside0.mk ((by rw [hg]; exact (keep_size (w := w) (g := g) (row := none) (by repeat (first | (with_reducible first | exact HK.out | apply KeepBut.set_ | apply keep_drewN | apply keep_drew | apply keep_alloc | refine keep_far ?_ GW501.out _) | exact HK.out))) : w.heap.size ≤ gb507)); have n6_ := Aside0.mk ((Nat.le_trans HW0.out (by rw [hg]; exact (keep_size (w := w) (g := g) (row := none) (by repeat (first | (with_reducible first | exact HK.out | apply KeepBut.set_ | apply keep_drewN | apply keep_drew | apply keep_alloc | refine keep_far ?_ GW501.out _) | exact HK.out))) : w.heap.size ≤ gb507) : w0.heap.size ≤ gb507)); have n7_ := BK501.nl hg; have n8_ := BK501.nr hg; have n9_ := Aside0.mk ((by rw [hg]; exact Nat.ne_of_lt (IsS55.lt (show IsS55 w0 _ g s0_0 t505 t506 from by repeat (first | (with_reducible first | exact HI0.out | apply IsS55.alloc | apply IsS55.drewN | apply IsS55.drew | apply IsS55.set_1 | apply IsS55.set_2 | refine IsS55.far ?_ NB0_501.out _) | exact HI0.out))) : g ≠ gb507)); have n10_ := Aside0.mk ((by rw [hg]; exact Nat.ne_of_gt (IsS55.lt (show IsS55 w0 _ g s0_0 t505 t506 from by repeat (first | (with_reducible first | exact HI0.out | apply IsS55.alloc | apply IsS55.drewN | apply IsS55.drew | apply IsS55.set_1 | apply IsS55.set_2 | refine IsS55.far ?_ NB0_501.out _) | exact HI0.out))) : gb507 ≠ g)); clear HI0; clear BK501; clear HK; clear HB; have HI0 := n0_; have BK501 := n1_; have HK := n2_; have HB := n3_; have BK507 := n4_; have GW507 := n5_; have GE507 := n6_; have NB501_507 := n7_; have NB507_501 := n8_; have NB0_507 := n9_; have NB507_0 := n10_; clear n0_ n1_ n2_ n3_ n4_ n5_ n6_ n7_ n8_ n9_ n10_; clear hb hbox hg; have hnb7 := NB507_501.out; have hnc7 := NB501_507.out; have hnb8 := NB507_0.out; have hnc8 := NB0_507.out; obtain ⟨hcz9_0, hcz9_1, hcz9_2⟩ := cz3_ BK507.out; obtain ⟨hfz9_0, hfz9_1, hfz9_2⟩ := fz3_ BK507.out))
 have n0_ : Aside0 ((((w6.setCell ⟨gb507, 0, none⟩ (.int .i64 t502)).setCell ⟨gb507, 1, none⟩ (.int .i64 t503)).setCell ⟨gb507, 2, none⟩ (.int .i64 t504)).heap[gb501]? = some (.cells #[.int .i64 0, .int .i64 0, .int .i64 0, .slice none 0 0, .int .i64 0] 30 (0, 0))) := ⟨by (with_reducible repeat (first | refine blk_drewN ?_ _ | refine blk_drew ?_ | refine blk_alloc ?_ _)); refine blk_far ?_ NB501_507.out _; (with_reducible repeat (first | refine blk_drewN ?_ _ | refine blk_drew ?_ | refine blk_alloc ?_ _)); refine blk_far ?_ NB501_507.out _; (with_reducible repeat (first | refine blk_drewN ?_ _ | refine blk_drew ?_ | refine blk_alloc ?_ _)); refine blk_far ?_ NB501_507.out _; (with_reducible repeat (first | refine blk_drewN ?_ _ | refine blk_drew ?_ | refine blk_alloc ?_ _)); exact BK501.out⟩
 have n1_ : Aside0 ((((w6.setCell ⟨gb507, 0, none⟩ (.int .i64 t502)).setCell ⟨gb507, 1, none⟩ (.int .i64 t503)).setCell ⟨gb507, 2, none⟩ (.int .i64 t504)).heap[gb507]? = some (.cells #[.int .i64 t502, .int .i64 t503, .int .i64 t504] 27 (0, 0))) := ⟨bq3_ BK507.out⟩
 have n2_ : Aside0 (IsS55 w0 (((w6.setCell ⟨gb507, 0, none⟩ (.int .i64 t502)).setCell ⟨gb507, 1, none⟩ (.int .i64 t503)).setCell ⟨gb507, 2, none⟩ (.int .i64 t504)) g s0_0 t505 t506) := ⟨by repeat (first | (with_reducible first | exact HI0.out | apply IsS55.alloc | apply IsS55.drewN | apply IsS55.drew | apply IsS55.set_1 | apply IsS55.set_2 | refine IsS55.far ?_ NB0_501.out _ | refine IsS55.far ?_ NB0_507.out _) | exact HI0.out)⟩
 have n3_ : Aside0 (KeepBut w (((w6.setCell ⟨gb507, 0, none⟩ (.int .i64 t502)).setCell ⟨gb507, 1, none⟩ (.int .i64 t503)).setCell ⟨gb507, 2, none⟩ (.int .i64 t504)) g none) := ⟨by repeat (first | (with_reducible first | exact HK.out | apply KeepBut.set_ | apply keep_drewN | apply keep_drew | apply keep_alloc | refine keep_far ?_ GW501.out _ | refine keep_far ?_ GW507.out _) | exact HK.out)⟩
 have n4_ : Aside0 (Below w0.heap.size w0 (((w6.setCell ⟨gb507, 0, none⟩ (.int .i64 t502)).setCell ⟨gb507, 1, none⟩ (.int .i64 t503)).setCell ⟨gb507, 2, none⟩ (.int .i64 t504))) := ⟨by repeat (first | (with_reducible first | exact HB.out | apply below_alloc | apply pw_below_drewN | apply below_drew1 | refine below_set ?_ (IsS55.ge HI0.out) | refine below_set ?_ GE501.out | refine below_set ?_ GE507.out) | exact HB.out)⟩
 (try clear BK501)
 (try clear BK507)
 (try clear HI0)
 (try clear HK)
 (try clear HB)
 generalize (((w6.setCell ⟨gb507, 0, none⟩ (.int .i64 t502)).setCell ⟨gb507, 1, none⟩ (.int .i64 t503)).setCell ⟨gb507, 2, none⟩ (.int .i64 t504)) = w10 at n0_ n1_ n2_ n3_ n4_ ⊢
 have BK501 := n0_
 have BK507 := n1_
 have HI0 := n2_
 have HK := n3_
 have HB := n4_
 clear n0_ n1_ n2_ n3_ n4_
 replace BK501 := Aside0.mk (blk_drew BK501.out)
 replace BK507 := Aside0.mk (blk_drew BK507.out)
 replace HI0 := Aside0.mk (IsS55.drew HI0.out)
 replace HK := Aside0.mk (keep_drew HK.out)
 replace HB := Aside0.mk (below_drew1 HB.out)
 refine start_ (n := 7) (S := fun w' => w'.cell? ⟨gb507, 0, none⟩ = some (.int .i64 t502) ∧ w'.cell? ⟨gb507, 1, none⟩ = some (.int .i64 t503) ∧ w'.cell? ⟨gb507, 2, none⟩ = some (.int .i64 t504)) (ds := []) #[false, false, false, false, false, false, false] (by kernel_rfl) rfl rfl ⟨BK507.c 0, BK507.c 1, BK507.c 2⟩ (fun hHeld => ?_)
 generalize w10.drew = w11 at BK501 BK507 HI0 HK HB hHeld ⊢
 refine pure_ (i := 1) (N := some 9) (v := ?_) (a' := ?_) #[false, true, false, false, false, false, false] rfl rfl (by kernel_rfl) (fun _ _ _ h => h) (Or.inl ⟨by rfl, ?_⟩) ?_ ?_
 rotate_left
 ·intro w'
  go_simp
  with_reducible rfl
 rotate_left
 ·simp only [Act.put, List.setIfInBounds_toArray, List.set_cons_zero, List.set_cons_succ, i64_w, i32_w]
  rfl
 refine take_ (i := 0) (N := some 8) (v := ?_) (a' := ?_) #[true, true, false, false, false, false, false] rfl rfl (by kernel_rfl) (fun _ _ _ h => h) (Or.inl ⟨by rfl, ?_⟩) hHeld ?_ ?_
 rotate_left
 ·rintro w' ⟨s0, s1, s2⟩
  go_simp
  with_reducible rfl
 rotate_left
 ·simp only [Act.put, List.setIfInBounds_toArray, List.set_cons_zero, List.set_cons_succ, i64_w, i32_w]
  rfl
 refine join_ (σ := Nat) 1 #[true, true, true, true, true, true, false] (fun s_ => [(10, .int .i64 t508), (4, .pointer (some ⟨s_, 0, none⟩)), (11, .int .i64 (wrap64 (1 + t508))), (12, .agg #[.int .i64 t502, .int .i64 t503, .int .i64 t504, .slice none 0 0, .int .i64 (wrap64 (1 + t508))])]) (fun s_ w' => (w'.cell? ⟨gb507, 0, none⟩ = some (.int .i64 t502) ∧ w'.cell? ⟨gb507, 1, none⟩ = some (.int .i64 t503) ∧ w'.cell? ⟨gb507, 2, none⟩ = some (.int .i64 t504)) ∧ (w'.heap[gb501]? = some (.cells #[.int .i64 0, .int .i64 0, .int .i64 0, .slice none 0 0, .int .i64 0] 30 (0, 0))) ∧ (w'.heap[gb507]? = some (.cells #[.int .i64 t502, .int .i64 t503, .int .i64 t504] 27 (0, 0))) ∧ (w'.heap[s_]? = some (.cells #[.int .i64 0, .int .i64 0, .int .i64 0, .slice none 0 0, .int .i64 0] 30 (0, 0))) ∧ (w.heap.size ≤ s_) ∧ (w0.heap.size ≤ s_) ∧ (g ≠ s_) ∧ (s_ ≠ g) ∧ (gb501 ≠ s_) ∧ (s_ ≠ gb501) ∧ (gb507 ≠ s_) ∧ (s_ ≠ gb507) ∧ (IsS55 w0 w' g s0_0 t509 t510) ∧ (KeepBut w w' g none) ∧ (Below w0.heap.size w0 w')) ?_ ?_
 rotate_left
 ·intro hCont
  refine two_ (i := 2) (j := 5) (Ni := some 10) (Nj := some 4) #[true, true, true, false, false, false, false] #[true, true, false, false, false, true, false] rfl rfl rfl rfl (by kernel_rfl) (by decide) (by decide) (fun K hK => ?_) (fun K hK => ?_)
  ·skip
   refine gq_ Try.func31 #[.pointer (some ⟨g, 0, none⟩), .int .i64 20] ?_
   with_reducible refine (spec_l01Below.calls g s0_0 t505 t506 20 t508 t509 t510 w0 _ ?side1 ?side2 A3.out).mono ?_
   (case side1 => repeat (first | (with_reducible first | exact HI0.out | apply IsS55.alloc | apply IsS55.drewN | apply IsS55.drew | apply IsS55.set_1 | apply IsS55.set_2 | refine IsS55.far ?_ NB0_501.out _ | refine IsS55.far ?_ NB0_507.out _) | exact HI0.out))
   (case side2 => repeat (first | (with_reducible first | exact HB.out | apply below_alloc | apply pw_below_drewN | apply below_drew1 | refine below_set ?_ (IsS55.ge HI0.out) | refine below_set ?_ GE501.out | refine below_set ?_ GE507.out) | exact HB.out))
   rintro e w12 ⟨rfl, hi, hb, hk⟩
   refine ⟨_, rfl, ?_⟩
   replace BK501 := Aside0.mk (KeepBut.blk hk (g' := gb501) (o := .cells #[.int .i64 0, .int .i64 0, .int .i64 0, .slice none 0 0, .int .i64 0] 30 (0, 0)) (bk_ BK501.out) NB501_0.out (by simp))
   replace BK507 := Aside0.mk (KeepBut.blk hk (g' := gb507) (o := .cells #[.int .i64 t502, .int .i64 t503, .int .i64 t504] 27 (0, 0)) (bk_ BK507.out) NB507_0.out (by simp))
   replace HK := Aside0.mk (KeepBut.trans (by repeat (first | (with_reducible first | exact HK.out | apply KeepBut.set_ | apply keep_drewN | apply keep_drew | apply keep_alloc | refine keep_far ?_ GW501.out _ | refine keep_far ?_ GW507.out _) | exact HK.out)) hk (.inl rfl))
   replace HB := Aside0.mk (hb)
   replace HI0 := Aside0.mk (hi)
   skip
   (try clear hb2)
   (try clear hk)
   (try clear hi)
   refine hK.out _ _ ⟨BK507.c 0, BK507.c 1, BK507.c 2⟩ (fun hHeld => ?_)
   clear hK K
   refine nm_ ?_
   refine pure_ (i := 3) (N := some 11) (v := ?_) (a' := ?_) #[true, true, true, true, false, false, false] rfl rfl (by kernel_rfl) (fun _ _ _ h => h) (Or.inl ⟨by rfl, ?_⟩) ?_ ?_
   rotate_left
   ·intro w'
    go_simp
    with_reducible rfl
   rotate_left
   ·simp only [Act.put, List.setIfInBounds_toArray, List.set_cons_zero, List.set_cons_succ, i64_w, i32_w]
    rfl
   refine pure_ (i := 4) (N := some 12) (v := ?_) (a' := ?_) #[true, true, true, true, true, false, false] rfl rfl (by kernel_rfl) (fun _ _ _ h => h) (Or.inl ⟨by rfl, ?_⟩) ?_ ?_
   rotate_left
   ·intro w'
    go_simp
    with_reducible rfl
   rotate_left
   ·simp only [Act.put, List.setIfInBounds_toArray, List.set_cons_zero, List.set_cons_succ, i64_w, i32_w]
    rfl
   refine one_ (i := 5) (N := some 4) #[true, true, true, true, true, true, false] rfl rfl (by kernel_rfl) (by decide) (fun K hK => ?_)
   refine box_step ?hg (N := 4) ?hd (cs := #[.int .i64 0, .int .i64 0, .int .i64 0, .slice none 0 0, .int .i64 0]) (t := 30) ?hr ?_; (case hd => rfl); (case hg => rfl); (case hr => first | (go_simp; done) | (go_simp; rfl))
   intro gb511 hg w13 hbox hb
   have n0_ := Aside0.mk (IsS55.below (by repeat (first | (with_reducible first | exact HI0.out | apply IsS55.alloc | apply IsS55.drewN | apply IsS55.drew | apply IsS55.set_1 | apply IsS55.set_2 | refine IsS55.far ?_ NB0_501.out _ | refine IsS55.far ?_ NB0_507.out _) | exact HI0.out)) hb)
   have n1_ := BK501.bb hb
   have n2_ := BK507.bb hb
   have n3_ := Aside0.mk (KeepBut.trans (by repeat (first | (with_reducible first | exact HK.out | apply KeepBut.set_ | apply keep_drewN | apply keep_drew | apply keep_alloc | refine keep_far ?_ GW501.out _ | refine keep_far ?_ GW507.out _) | exact HK.out)) (KeepBut.of_below hb g none) (.inl rfl))
   have n4_ := Aside0.mk (below_step (by repeat (first | (with_reducible first | exact HB.out | apply below_alloc | apply pw_below_drewN | apply below_drew1 | refine below_set ?_ (IsS55.ge HI0.out) | refine below_set ?_ GE501.out | refine below_set ?_ GE507.out) | exact HB.out)) hb)
   have n5_ := Aside0.mk (hbox)
   have n6_ := Aside0.mk ((by rw [hg]; exact (keep_size (w := w) (g := g) (row := none) (by repeat (first | (with_reducible first | exact HK.out | apply KeepBut.set_ | apply keep_drewN | apply keep_drew | apply keep_alloc | refine keep_far ?_ GW501.out _ | refine keep_far ?_ GW507.out _) | exact HK.out))) : w.heap.size ≤ gb511))
   have n7_ := Aside0.mk ((Nat.le_trans HW0.out (by rw [hg]; exact (keep_size (w := w) (g := g) (row := none) (by repeat (first | (with_reducible first | exact HK.out | apply KeepBut.set_ | apply keep_drewN | apply keep_drew | apply keep_alloc | refine keep_far ?_ GW501.out _ | refine keep_far ?_ GW507.out _) | exact HK.out))) : w.heap.size ≤ gb511) : w0.heap.size ≤ gb511))
   have n8_ := BK501.nl hg
   have n9_ := BK501.nr hg
   have n10_ := BK507.nl hg
   have n11_ := BK507.nr hg
   have n12_ := Aside0.mk ((by rw [hg]; exact Nat.ne_of_lt (IsS55.lt (show IsS55 w0 _ g s0_0 t509 t510 from by repeat (first | (with_reducible first | exact HI0.out | apply IsS55.alloc | apply IsS55.drewN | apply IsS55.drew | apply IsS55.set_1 | apply IsS55.set_2 | refine IsS55.far ?_ NB0_501.out _ | refine IsS55.far ?_ NB0_507.out _) | exact HI0.out))) : g ≠ gb511))
   have n13_ := Aside0.mk ((by rw [hg]; exact Nat.ne_of_gt (IsS55.lt (show IsS55 w0 _ g s0_0 t509 t510 from by repeat (first | (with_reducible first | exact HI0.out | apply IsS55.alloc | apply IsS55.drewN | apply IsS55.drew | apply IsS55.set_1 | apply IsS55.set_2 | refine IsS55.far ?_ NB0_501.out _ | refine IsS55.far ?_ NB0_507.out _) | exact HI0.out))) : gb511 ≠ g))
   clear HI0
   clear BK501
   clear BK507
   clear HK
   clear HB
   have HI0 := n0_
   have BK501 := n1_
   have BK507 := n2_
   have HK := n3_
   have HB := n4_
   have BK511 := n5_
   have GW511 := n6_
   have GE511 := n7_
   have NB501_511 := n8_
   have NB511_501 := n9_
   have NB507_511 := n10_
   have NB511_507 := n11_
   have NB0_511 := n12_
   have NB511_0 := n13_
   clear n0_ n1_ n2_ n3_ n4_ n5_ n6_ n7_ n8_ n9_ n10_ n11_ n12_ n13_
   clear hb hbox hg
   refine hK.out _ _ ⟨BK507.c 0, BK507.c 1, BK507.c 2⟩ (fun hHeld => ?_)
   clear hK K
   refine norm_ (a' := ?_) ?_ ?_
   rotate_left
   ·show Act.put _ (some 4) _ = _
    simp only [Act.put, List.setIfInBounds_toArray, List.set_cons_zero, List.set_cons_succ, i64_w, i32_w]
    rfl
   exact norm_ (by simp only [putAll, Act.put, List.setIfInBounds_toArray, List.set_cons_zero, List.set_cons_succ]) (hCont (gb511) _ ⟨hHeld, (bk_ BK501.out), (bk_ BK507.out), (bk_ BK511.out), GW511.out, GE511.out, NB0_511.out, NB511_0.out, NB501_511.out, NB511_501.out, NB507_511.out, NB511_507.out, (by repeat (first | (with_reducible first | exact HI0.out | apply IsS55.alloc | apply IsS55.drewN | apply IsS55.drew | apply IsS55.set_1 | apply IsS55.set_2 | refine IsS55.far ?_ NB0_501.out _ | refine IsS55.far ?_ NB0_507.out _ | refine IsS55.far ?_ NB0_511.out _) | exact HI0.out)), (by repeat (first | (with_reducible first | exact HK.out | apply KeepBut.set_ | apply keep_drewN | apply keep_drew | apply keep_alloc | refine keep_far ?_ GW501.out _ | refine keep_far ?_ GW507.out _ | refine keep_far ?_ GW511.out _) | exact HK.out)), (by repeat (first | (with_reducible first | exact HB.out | apply below_alloc | apply pw_below_drewN | apply below_drew1 | refine below_set ?_ (IsS55.ge HI0.out) | refine below_set ?_ GE501.out | refine below_set ?_ GE507.out | refine below_set ?_ GE511.out) | exact HB.out))⟩)
  ·skip
   refine box_step ?hg (N := 4) ?hd (cs := #[.int .i64 0, .int .i64 0, .int .i64 0, .slice none 0 0, .int .i64 0]) (t := 30) ?hr ?_; (case hd => rfl); (case hg => rfl); (case hr => first | (go_simp; done) | (go_simp; rfl))
   intro gb511 hg w12 hbox hb
   have n0_ := Aside0.mk (IsS55.below (by repeat (first | (with_reducible first | exact HI0.out | apply IsS55.alloc | apply IsS55.drewN | apply IsS55.drew | apply IsS55.set_1 | apply IsS55.set_2 | refine IsS55.far ?_ NB0_501.out _ | refine IsS55.far ?_ NB0_507.out _) | exact HI0.out)) hb)
   have n1_ := BK501.bb hb
   have n2_ := BK507.bb hb
   have n3_ := Aside0.mk (KeepBut.trans (by repeat (first | (with_reducible first | exact HK.out | apply KeepBut.set_ | apply keep_drewN | apply keep_drew | apply keep_alloc | refine keep_far ?_ GW501.out _ | refine keep_far ?_ GW507.out _) | exact HK.out)) (KeepBut.of_below hb g none) (.inl rfl))
   have n4_ := Aside0.mk (below_step (by repeat (first | (with_reducible first | exact HB.out | apply below_alloc | apply pw_below_drewN | apply below_drew1 | refine below_set ?_ (IsS55.ge HI0.out) | refine below_set ?_ GE501.out | refine below_set ?_ GE507.out) | exact HB.out)) hb)
   have n5_ := Aside0.mk (hbox)
   have n6_ := Aside0.mk ((by rw [hg]; exact (keep_size (w := w) (g := g) (row := none) (by repeat (first | (with_reducible first | exact HK.out | apply KeepBut.set_ | apply keep_drewN | apply keep_drew | apply keep_alloc | refine keep_far ?_ GW501.out _ | refine keep_far ?_ GW507.out _) | exact HK.out))) : w.heap.size ≤ gb511))
   have n7_ := Aside0.mk ((Nat.le_trans HW0.out (by rw [hg]; exact (keep_size (w := w) (g := g) (row := none) (by repeat (first | (with_reducible first | exact HK.out | apply KeepBut.set_ | apply keep_drewN | apply keep_drew | apply keep_alloc | refine keep_far ?_ GW501.out _ | refine keep_far ?_ GW507.out _) | exact HK.out))) : w.heap.size ≤ gb511) : w0.heap.size ≤ gb511))
   have n8_ := BK501.nl hg
   have n9_ := BK501.nr hg
   have n10_ := BK507.nl hg
   have n11_ := BK507.nr hg
   have n12_ := Aside0.mk ((by rw [hg]; exact Nat.ne_of_lt (IsS55.lt (show IsS55 w0 _ g s0_0 t505 t506 from by repeat (first | (with_reducible first | exact HI0.out | apply IsS55.alloc | apply IsS55.drewN | apply IsS55.drew | apply IsS55.set_1 | apply IsS55.set_2 | refine IsS55.far ?_ NB0_501.out _ | refine IsS55.far ?_ NB0_507.out _) | exact HI0.out))) : g ≠ gb511))
   have n13_ := Aside0.mk ((by rw [hg]; exact Nat.ne_of_gt (IsS55.lt (show IsS55 w0 _ g s0_0 t505 t506 from by repeat (first | (with_reducible first | exact HI0.out | apply IsS55.alloc | apply IsS55.drewN | apply IsS55.drew | apply IsS55.set_1 | apply IsS55.set_2 | refine IsS55.far ?_ NB0_501.out _ | refine IsS55.far ?_ NB0_507.out _) | exact HI0.out))) : gb511 ≠ g))
   clear HI0
   clear BK501
   clear BK507
   clear HK
   clear HB
   have HI0 := n0_
   have BK501 := n1_
   have BK507 := n2_
   have HK := n3_
   have HB := n4_
   have BK511 := n5_
   have GW511 := n6_
   have GE511 := n7_
   have NB501_511 := n8_
   have NB511_501 := n9_
   have NB507_511 := n10_
   have NB511_507 := n11_
   have NB0_511 := n12_
   have NB511_0 := n13_
   clear n0_ n1_ n2_ n3_ n4_ n5_ n6_ n7_ n8_ n9_ n10_ n11_ n12_ n13_
   clear hb hbox hg
   refine hK.out _ _ ⟨BK507.c 0, BK507.c 1, BK507.c 2⟩ (fun hHeld => ?_)
   clear hK K
   refine norm_ (a' := ?_) ?_ ?_
   rotate_left
   ·show Act.put _ (some 4) _ = _
    simp only [Act.put, List.setIfInBounds_toArray, List.set_cons_zero, List.set_cons_succ, i64_w, i32_w]
    rfl
   refine one_ (i := 2) (N := some 10) #[true, true, true, false, false, true, false] rfl rfl (by kernel_rfl) (by decide) (fun K hK => ?_)
   refine gq_ Try.func31 #[.pointer (some ⟨g, 0, none⟩), .int .i64 20] ?_
   with_reducible refine (spec_l01Below.calls g s0_0 t505 t506 20 t508 t509 t510 w0 _ ?side1 ?side2 A3.out).mono ?_
   (case side1 => repeat (first | (with_reducible first | exact HI0.out | apply IsS55.alloc | apply IsS55.drewN | apply IsS55.drew | apply IsS55.set_1 | apply IsS55.set_2 | refine IsS55.far ?_ NB0_501.out _ | refine IsS55.far ?_ NB0_507.out _ | refine IsS55.far ?_ NB0_511.out _) | exact HI0.out))
   (case side2 => repeat (first | (with_reducible first | exact HB.out | apply below_alloc | apply pw_below_drewN | apply below_drew1 | refine below_set ?_ (IsS55.ge HI0.out) | refine below_set ?_ GE501.out | refine below_set ?_ GE507.out | refine below_set ?_ GE511.out) | exact HB.out))
   rintro e w13 ⟨rfl, hi, hb, hk⟩
   refine ⟨_, rfl, ?_⟩
   replace BK501 := Aside0.mk (KeepBut.blk hk (g' := gb501) (o := .cells #[.int .i64 0, .int .i64 0, .int .i64 0, .slice none 0 0, .int .i64 0] 30 (0, 0)) (bk_ BK501.out) NB501_0.out (by simp))
   replace BK507 := Aside0.mk (KeepBut.blk hk (g' := gb507) (o := .cells #[.int .i64 t502, .int .i64 t503, .int .i64 t504] 27 (0, 0)) (bk_ BK507.out) NB507_0.out (by simp))
   replace BK511 := Aside0.mk (KeepBut.blk hk (g' := gb511) (o := .cells #[.int .i64 0, .int .i64 0, .int .i64 0, .slice none 0 0, .int .i64 0] 30 (0, 0)) (bk_ BK511.out) NB511_0.out (by simp))
   replace HK := Aside0.mk (KeepBut.trans (by repeat (first | (with_reducible first | exact HK.out | apply KeepBut.set_ | apply keep_drewN | apply keep_drew | apply keep_alloc | refine keep_far ?_ GW501.out _ | refine keep_far ?_ GW507.out _ | refine keep_far ?_ GW511.out _) | exact HK.out)) hk (.inl rfl))
   replace HB := Aside0.mk (hb)
   replace HI0 := Aside0.mk (hi)
   skip
   (try clear hb2)
   (try clear hk)
   (try clear hi)
   refine hK.out _ _ ⟨BK507.c 0, BK507.c 1, BK507.c 2⟩ (fun hHeld => ?_)
   clear hK K
   refine nm_ ?_
   refine pure_ (i := 3) (N := some 11) (v := ?_) (a' := ?_) #[true, true, true, true, false, true, false] rfl rfl (by kernel_rfl) (fun _ _ _ h => h) (Or.inl ⟨by rfl, ?_⟩) ?_ ?_
   rotate_left
   ·intro w'
    go_simp
    with_reducible rfl
   rotate_left
   ·simp only [Act.put, List.setIfInBounds_toArray, List.set_cons_zero, List.set_cons_succ, i64_w, i32_w]
    rfl
   refine pure_ (i := 4) (N := some 12) (v := ?_) (a' := ?_) #[true, true, true, true, true, true, false] rfl rfl (by kernel_rfl) (fun _ _ _ h => h) (Or.inl ⟨by rfl, ?_⟩) ?_ ?_
   rotate_left
   ·intro w'
    go_simp
    with_reducible rfl
   rotate_left
   ·simp only [Act.put, List.setIfInBounds_toArray, List.set_cons_zero, List.set_cons_succ, i64_w, i32_w]
    rfl
   exact norm_ (by simp only [putAll, Act.put, List.setIfInBounds_toArray, List.set_cons_zero, List.set_cons_succ]) (hCont (gb511) _ ⟨hHeld, (bk_ BK501.out), (bk_ BK507.out), (bk_ BK511.out), GW511.out, GE511.out, NB0_511.out, NB511_0.out, NB501_511.out, NB511_501.out, NB507_511.out, NB511_507.out, (by repeat (first | (with_reducible first | exact HI0.out | apply IsS55.alloc | apply IsS55.drewN | apply IsS55.drew | apply IsS55.set_1 | apply IsS55.set_2 | refine IsS55.far ?_ NB0_501.out _ | refine IsS55.far ?_ NB0_507.out _ | refine IsS55.far ?_ NB0_511.out _) | exact HI0.out)), (by repeat (first | (with_reducible first | exact HK.out | apply KeepBut.set_ | apply keep_drewN | apply keep_drew | apply keep_alloc | refine keep_far ?_ GW501.out _ | refine keep_far ?_ GW507.out _ | refine keep_far ?_ GW511.out _) | exact HK.out)), (by repeat (first | (with_reducible first | exact HB.out | apply below_alloc | apply pw_below_drewN | apply below_drew1 | refine below_set ?_ (IsS55.ge HI0.out) | refine below_set ?_ GE501.out | refine below_set ?_ GE507.out | refine below_set ?_ GE511.out) | exact HB.out))⟩)
 rintro gb511 w14 ⟨hS_, h0_, h1_, h2_, h3_, h4_, h5_, h6_, h7_, h8_, h9_, h10_, h11_, h12_, h13_⟩
 have n0_ : Aside0 (w14.heap[gb501]? = some (.cells #[.int .i64 0, .int .i64 0, .int .i64 0, .slice none 0 0, .int .i64 0] 30 (0, 0))) := ⟨h0_⟩
 have n1_ : Aside0 (w14.heap[gb507]? = some (.cells #[.int .i64 t502, .int .i64 t503, .int .i64 t504] 27 (0, 0))) := ⟨h1_⟩
 have n2_ : Aside0 (w14.heap[gb511]? = some (.cells #[.int .i64 0, .int .i64 0, .int .i64 0, .slice none 0 0, .int .i64 0] 30 (0, 0))) := ⟨h2_⟩
 have n3_ : Aside0 (w.heap.size ≤ gb511) := ⟨h3_⟩
 have n4_ : Aside0 (w0.heap.size ≤ gb511) := ⟨h4_⟩
 have n5_ : Aside0 (g ≠ gb511) := ⟨h5_⟩
 have n6_ : Aside0 (gb511 ≠ g) := ⟨h6_⟩
 have n7_ : Aside0 (gb501 ≠ gb511) := ⟨h7_⟩
 have n8_ : Aside0 (gb511 ≠ gb501) := ⟨h8_⟩
 have n9_ : Aside0 (gb507 ≠ gb511) := ⟨h9_⟩
 have n10_ : Aside0 (gb511 ≠ gb507) := ⟨h10_⟩
 have n11_ : Aside0 (IsS55 w0 w14 g s0_0 t509 t510) := ⟨h11_⟩
 have n12_ : Aside0 (KeepBut w w14 g none) := ⟨h12_⟩
 have n13_ : Aside0 (Below w0.heap.size w0 w14) := ⟨h13_⟩
 clear BK501
 clear BK507
 clear HI0
 clear HK
 clear HB
 clear h0_ h1_ h2_ h3_ h4_ h5_ h6_ h7_ h8_ h9_ h10_ h11_ h12_ h13_
 have BK501 := n0_
 have BK507 := n1_
 have BK511 := n2_
 have GW511 := n3_
 have GE511 := n4_
 have NB0_511 := n5_
 have NB511_0 := n6_
 have NB501_511 := n7_
 have NB511_501 := n8_
 have NB507_511 := n9_
 have NB511_507 := n10_
 have HI0 := n11_
 have HK := n12_
 have HB := n13_
 clear n0_ n1_ n2_ n3_ n4_ n5_ n6_ n7_ n8_ n9_ n10_ n11_ n12_ n13_
 have hHeld : w14.cell? ⟨gb507, 0, none⟩ = some (.int .i64 t502) ∧ w14.cell? ⟨gb507, 1, none⟩ = some (.int .i64 t503) ∧ w14.cell? ⟨gb507, 2, none⟩ = some (.int .i64 t504) := hS_
 refine norm_ (a' := ?_) ?_ ?_
 rotate_left
 ·simp only [putAll, Act.put, List.setIfInBounds_toArray, List.set_cons_zero, List.set_cons_succ]
  rfl
 refine one_ (i := 6) (N := none) #[true, true, true, true, true, true, true] rfl rfl (by kernel_rfl) (by decide) (fun K hK => ?_)
 have hs15 : w14.cell? ⟨gb511, 0, none⟩ = some (.int .i64 0) := BK511.c 0
 have hfs15 := blk_frozen BK511.out 0
 have hns15_0 := NB501_511.out
 have hns15_1 := NB507_511.out
 have hms15_0 := NB511_501.out
 have hms15_1 := NB511_507.out
 have hs16 : w14.cell? ⟨gb511, 1, none⟩ = some (.int .i64 0) := BK511.c 1
 have hfs16 := blk_frozen BK511.out 1
 have hns16_0 := NB501_511.out
 have hns16_1 := NB507_511.out
 have hms16_0 := NB511_501.out
 have hms16_1 := NB511_507.out
 have hs17 : w14.cell? ⟨gb511, 2, none⟩ = some (.int .i64 0) := BK511.c 2
 have hfs17 := blk_frozen BK511.out 2
 have hns17_0 := NB501_511.out
 have hns17_1 := NB507_511.out
 have hms17_0 := NB511_501.out
 have hms17_1 := NB511_507.out
 have hs18 : w14.cell? ⟨gb511, 3, none⟩ = some (.slice none 0 0) := BK511.c 3
 have hfs18 := blk_frozen BK511.out 3
 have hns18_0 := NB501_511.out
 have hns18_1 := NB507_511.out
 have hms18_0 := NB511_501.out
 have hms18_1 := NB511_507.out
 have hs19 : w14.cell? ⟨gb511, 4, none⟩ = some (.int .i64 0) := BK511.c 4
 have hfs19 := blk_frozen BK511.out 4
 have hns19_0 := NB501_511.out
 have hns19_1 := NB507_511.out
 have hms19_0 := NB511_501.out
 have hms19_1 := NB511_507.out
 refine skip_ (w1 := ?_) (by rfl) rfl ?_ ?_
 rotate_left
 ·go_simp
  rfl
 refine hK.out _ _ ⟨((cell_far (p := ⟨gb511, _, none⟩) NB507_511.out _).trans (((cell_far (p := ⟨gb511, _, none⟩) NB507_511.out _).trans (((cell_far (p := ⟨gb511, _, none⟩) NB507_511.out _).trans (((cell_far (p := ⟨gb511, _, none⟩) NB507_511.out _).trans (((cell_far (p := ⟨gb511, _, none⟩) NB507_511.out _).trans (hHeld.1)))))))))), ((cell_far (p := ⟨gb511, _, none⟩) NB507_511.out _).trans (((cell_far (p := ⟨gb511, _, none⟩) NB507_511.out _).trans (((cell_far (p := ⟨gb511, _, none⟩) NB507_511.out _).trans (((cell_far (p := ⟨gb511, _, none⟩) NB507_511.out _).trans (((cell_far (p := ⟨gb511, _, none⟩) NB507_511.out _).trans (hHeld.2.1)))))))))), ((cell_far (p := ⟨gb511, _, none⟩) NB507_511.out _).trans (((cell_far (p := ⟨gb511, _, none⟩) NB507_511.out _).trans (((cell_far (p := ⟨gb511, _, none⟩) NB507_511.out _).trans (((cell_far (p := ⟨gb511, _, none⟩) NB507_511.out _).trans (((cell_far (p := ⟨gb511, _, none⟩) NB507_511.out _).trans (hHeld.2.2))))))))))⟩ (fun hHeld => ?_)
 clear hK K
 refine done_ (by kernel_rfl) ?_
 try go_wp2
 go_loopg [5] k (fun kq v5 w' => ∃ (x5_1 : Int) (x1001_1 : Int) (x1002_1 : Int) (x512003_1 : List Int) (u512003 : Value), v5 = .int .i64 x5_1 ∧ Aside0 (spec_l30Hedge.l0 kq x5_1 s0_0 x1001_1 x1002_1 t502 t503 t504 t502 t503 t504 x512003_1 (wrap64 (1 + t508)) = some (r1, r2, r3, r4, r5, r6, r7)) ∧ Aside0 (kq ≤ k) ∧ Aside0 (Kd.R (Kd.int .i64) 3 w' w.heap.size (fun _ => True) u512003 x512003_1) ∧ Aside0 (w'.heap[gb501]? = some (.cells #[.int .i64 0, .int .i64 0, .int .i64 0, (.slice none 0 0), .int .i64 0] 30 (0, 0))) ∧ Aside0 (w'.heap[gb507]? = some (.cells #[.int .i64 t502, .int .i64 t503, .int .i64 t504] 27 (0, 0))) ∧ Aside0 (w'.heap[gb511]? = some (.cells #[.int .i64 t502, .int .i64 t503, .int .i64 t504, u512003, .int .i64 (wrap64 (1 + t508))] 30 (0, 0))) ∧ Aside0 (IsS55 w0 w' g s0_0 x1001_1 x1002_1) ∧ Aside0 (KeepBut w w' g none) ∧ Aside0 (Below w0.heap.size w0 w'))
 case atStart => exact ⟨(0), (t509), (t510), (([] : List Int)), (.slice none 0 0), (by first | rfl | (simp; done) | (simp [*]; done)), H', ⟨Nat.le_refl _⟩, ⟨by first | exact Kd.R_nil _ _ _ _ _ | exact Kd.N_nil _ _ _ _ _ | exact Kd.V_nil _ _ _ _ _ | exact Kd.Q_nil _ _ _ _ _ | exact Kd.S_nil _ _ _ _ _⟩, ⟨by (with_reducible repeat (first | refine blk_drewN ?_ _ | refine blk_drew ?_ | refine blk_alloc ?_ _)); refine blk_far ?_ NB501_511.out _; (with_reducible repeat (first | refine blk_drewN ?_ _ | refine blk_drew ?_ | refine blk_alloc ?_ _)); refine blk_far ?_ NB501_511.out _; (with_reducible repeat (first | refine blk_drewN ?_ _ | refine blk_drew ?_ | refine blk_alloc ?_ _)); refine blk_far ?_ NB501_511.out _; (with_reducible repeat (first | refine blk_drewN ?_ _ | refine blk_drew ?_ | refine blk_alloc ?_ _)); refine blk_far ?_ NB501_511.out _; (with_reducible repeat (first | refine blk_drewN ?_ _ | refine blk_drew ?_ | refine blk_alloc ?_ _)); refine blk_far ?_ NB501_511.out _; (with_reducible repeat (first | refine blk_drewN ?_ _ | refine blk_drew ?_ | refine blk_alloc ?_ _)); exact BK501.out⟩, ⟨by (with_reducible repeat (first | refine blk_drewN ?_ _ | refine blk_drew ?_ | refine blk_alloc ?_ _)); refine blk_far ?_ NB507_511.out _; (with_reducible repeat (first | refine blk_drewN ?_ _ | refine blk_drew ?_ | refine blk_alloc ?_ _)); refine blk_far ?_ NB507_511.out _; (with_reducible repeat (first | refine blk_drewN ?_ _ | refine blk_drew ?_ | refine blk_alloc ?_ _)); refine blk_far ?_ NB507_511.out _; (with_reducible repeat (first | refine blk_drewN ?_ _ | refine blk_drew ?_ | refine blk_alloc ?_ _)); refine blk_far ?_ NB507_511.out _; (with_reducible repeat (first | refine blk_drewN ?_ _ | refine blk_drew ?_ | refine blk_alloc ?_ _)); refine blk_far ?_ NB507_511.out _; (with_reducible repeat (first | refine blk_drewN ?_ _ | refine blk_drew ?_ | refine blk_alloc ?_ _)); exact BK507.out⟩, ⟨bq5_ BK511.out⟩, ⟨by repeat (first | (with_reducible first | exact HI0.out | apply IsS55.alloc | apply IsS55.drewN | apply IsS55.drew | apply IsS55.set_1 | apply IsS55.set_2 | refine IsS55.far ?_ NB0_501.out _ | refine IsS55.far ?_ NB0_507.out _ | refine IsS55.far ?_ NB0_511.out _) | exact HI0.out)⟩, ⟨by repeat (first | (with_reducible first | exact HK.out | apply KeepBut.set_ | apply keep_drewN | apply keep_drew | apply keep_alloc | refine keep_far ?_ GW501.out _ | refine keep_far ?_ GW507.out _ | refine keep_far ?_ GW511.out _) | exact HK.out)⟩, ⟨by repeat (first | (with_reducible first | exact HB.out | apply below_alloc | apply pw_below_drewN | apply below_drew1 | refine below_set ?_ (IsS55.ge HI0.out) | refine below_set ?_ GE501.out | refine below_set ?_ GE507.out | refine below_set ?_ GE511.out) | exact HB.out)⟩⟩
 case round =>
  clear H'
  try clear c1
  try clear p2
  try clear c3
  try clear p6
  try clear c7
  try clear c8
  try clear c16
  try clear hcz9_0
  try clear hcz9_1
  try clear hcz9_2
  try clear hfz9_0
  try clear hfz9_1
  try clear hfz9_2
  obtain ⟨x5_1, x1001_1, x1002_1, x512003_1, u512003, rfl, HA, HK1, HO_512003, BK501, BK507, BK511, HI0, HK, HB⟩ := hrel
  cases gk with
  | zero => exact absurd HA.out (by simp [spec_l30Hedge.l0])
  | succ k1 =>
   have H := HA.out
   clear HA
   simp only [spec_l30Hedge.l0] at H
   replace H := Option.bind_eq_some_iff.mp H
   obtain ⟨t512, A200, H⟩ := H
   replace H : (if x5_1 < t512 then ((spec_l01Below.f s0_0 x1001_1 x1002_1 12).bind fun bt513 => (if x512003_1.length < 17592186044416 then (spec_l30Hedge.l0 k1 (wrap64 (x5_1 + 1)) s0_0 bt513.2.1 bt513.2.2 t502 t503 t504 t502 t503 t504 (x512003_1 ++ [bt513.1]) (wrap64 (1 + t508))) else (none))) else (some (t502, t503, t504, x512003_1, (wrap64 (1 + t508)), x1001_1, x1002_1))) = some (r1, r2, r3, r4, r5, r6, r7) := H
   have A20 := Aside0.mk A200
   clear A200
   by_cases c21 : x5_1 < t512
   ·rw [if_pos c21] at H
    have c21b0 : decide (x5_1 < t512) = true := decide_eq_true c21
    clear c21
    replace H := Option.bind_eq_some_iff.mp H
    obtain ⟨⟨t513, t514, t515⟩, A220, H⟩ := H
    replace H : (if x512003_1.length < 17592186044416 then (spec_l30Hedge.l0 k1 (wrap64 (x5_1 + 1)) s0_0 t514 t515 t502 t503 t504 t502 t503 t504 (x512003_1 ++ [t513]) (wrap64 (1 + t508))) else (none)) = some (r1, r2, r3, r4, r5, r6, r7) := H
    have A22 := Aside0.mk A220
    clear A220
    by_cases c23 : x512003_1.length < 17592186044416
    ·rw [if_pos c23] at H
     have LMc23 := Aside0.mk c23
     clear c23
     obtain ⟨y516, hy516⟩ : ∃ y_ : List Int, y_ = (x512003_1 ++ [t513]) := ⟨_, rfl⟩
     replace H : (spec_l30Hedge.l0 k1 (wrap64 (x5_1 + 1)) s0_0 t514 t515 t502 t503 t504 t502 t503 t504 y516 (wrap64 (1 + t508))) = some (r1, r2, r3, r4, r5, r6, r7) := by first | (rw [hy516]; with_reducible exact H) | (have H2_ := (Option.bind_some _ _).symm.trans H; rw [hy516]; with_reducible exact H2_) | (have H2_ := (Option.bind_some _ _).symm.trans H; with_reducible exact H2_) | with_reducible exact H | (rw [hy516]; exact H) | exact H
     have Ny516 := Aside0.mk hy516
     clear hy516
     have H' := Aside0.mk H
     clear H
     have hnb24 := NB507_501.out
     have hnc24 := NB501_507.out
     have hnb25 := NB507_511.out
     have hnc25 := NB511_507.out
     have hnb26 := NB507_0.out
     have hnc26 := NB0_507.out
     obtain ⟨hcz27_0, hcz27_1, hcz27_2⟩ := cz3_ BK507.out
     obtain ⟨hfz27_0, hfz27_1, hfz27_2⟩ := fz3_ BK507.out
     try go_wp2_with ((with_reducible refine gw_ ?_); first | (refine gl_ 16 Try.func23 #[.agg #[.int .i64 t502, .int .i64 t503]] ?_; (with_reducible refine (spec_CountGaps.calls t502 t503 t512 _ A20.out).mono ?_); rintro e w28 ⟨rfl, hb⟩; refine ⟨_, rfl, ?_⟩; replace HO_512003 := HO_512003.kb hb; replace BK501 := BK501.bb hb; replace BK507 := BK507.bb hb; replace BK511 := BK511.bb hb; replace HK := Aside0.mk (KeepBut.trans (by repeat (first | (with_reducible first | exact HK.out | apply KeepBut.set_ | apply keep_drewN | apply keep_drew | apply keep_alloc | refine keep_far ?_ GW501.out _ | refine keep_far ?_ GW507.out _ | refine keep_far ?_ GW511.out _) | exact HK.out)) (KeepBut.of_below hb g none) (.inl rfl)); replace HB := Aside0.mk (below_step (by repeat (first | (with_reducible first | exact HB.out | apply below_alloc | apply pw_below_drewN | apply below_drew1 | refine below_set ?_ (IsS55.ge HI0.out) | refine below_set ?_ GE501.out | refine below_set ?_ GE507.out | refine below_set ?_ GE511.out) | exact HB.out)) hb); replace HI0 := Aside0.mk (IsS55.below (by repeat (first | (with_reducible first | exact HI0.out | apply IsS55.alloc | apply IsS55.drewN | apply IsS55.drew | apply IsS55.set_1 | apply IsS55.set_2 | refine IsS55.far ?_ NB0_501.out _ | refine IsS55.far ?_ NB0_507.out _ | refine IsS55.far ?_ NB0_511.out _) | exact HI0.out)) hb)))
     replace HO_512003 := Aside0.mk (Kd.R_drew HO_512003.out)
     replace BK501 := Aside0.mk (blk_drew BK501.out)
     replace BK507 := Aside0.mk (blk_drew BK507.out)
     replace BK511 := Aside0.mk (blk_drew BK511.out)
     replace HI0 := Aside0.mk (IsS55.drew HI0.out)
     replace HK := Aside0.mk (keep_drew HK.out)
     replace HB := Aside0.mk (below_drew1 HB.out)
     refine start_ (n := 8) (S := fun w' => w'.cell? ⟨gb511, 0, none⟩ = some (.int .i64 t502) ∧ w'.cell? ⟨gb511, 1, none⟩ = some (.int .i64 t503) ∧ w'.cell? ⟨gb511, 2, none⟩ = some (.int .i64 t504) ∧ w'.cell? ⟨gb511, 3, none⟩ = some (u512003) ∧ w'.cell? ⟨gb511, 4, none⟩ = some (.int .i64 (wrap64 (1 + t508)))) (ds := [7]) #[false, false, false, false, false, false, false, false] (by kernel_rfl) rfl rfl ⟨BK511.c 0, BK511.c 1, BK511.c 2, BK511.c 3, BK511.c 4⟩ (fun hHeld => ?_); refine with_tabW spec_l30Hedge.tab6 spec_l30Hedge.bits6 (fun HT_ HW_ => ?_)
     generalize w28.drew = w29 at HO_512003 BK501 BK507 BK511 HI0 HK HB hHeld ⊢
     refine pv_ (i := 0) (N := some 20) HT_.out ?_
     refine pv_ (i := 2) (N := some 22) HT_.out ?_
     refine tv5_ (i := 1) (N := some 21) HT_.out HW_.out hHeld ?_
     refine ov_ (i := 3) (N := some 23) HT_.out (fun K hK => ?_)
     refine gq_ Try.func31 #[.pointer (some ⟨g, 0, none⟩), .int .i64 12] ?_
     with_reducible refine (spec_l01Below.calls g s0_0 x1001_1 x1002_1 12 t513 t514 t515 w0 _ ?side1 ?side2 A22.out).mono ?_
     (case side1 => repeat (first | (with_reducible first | exact HI0.out | apply IsS55.alloc | apply IsS55.drewN | apply IsS55.drew | apply IsS55.set_1 | apply IsS55.set_2 | refine IsS55.far ?_ NB0_501.out _ | refine IsS55.far ?_ NB0_507.out _ | refine IsS55.far ?_ NB0_511.out _) | exact HI0.out))
     (case side2 => repeat (first | (with_reducible first | exact HB.out | apply below_alloc | apply pw_below_drewN | apply below_drew1 | refine below_set ?_ (IsS55.ge HI0.out) | refine below_set ?_ GE501.out | refine below_set ?_ GE507.out | refine below_set ?_ GE511.out) | exact HB.out))
     rintro e w30 ⟨rfl, hi, hb, hk⟩
     refine ⟨_, rfl, ?_⟩
     replace HO_512003 := Aside0.mk (Kd.R_mono (Kd.R_keep (IsS55.apart (show IsS55 w0 _ g s0_0 x1001_1 x1002_1 from by repeat (first | (with_reducible first | exact HI0.out | apply IsS55.alloc | apply IsS55.drewN | apply IsS55.drew | apply IsS55.set_1 | apply IsS55.set_2 | refine IsS55.far ?_ NB0_501.out _ | refine IsS55.far ?_ NB0_507.out _ | refine IsS55.far ?_ NB0_511.out _) | exact HI0.out)) (kr_ HO_512003.out) (by decide)) hk (fun _ h => h.2)) (fun _ h => h.1))
     replace BK501 := Aside0.mk (KeepBut.blk hk (g' := gb501) (o := .cells #[.int .i64 0, .int .i64 0, .int .i64 0, .slice none 0 0, .int .i64 0] 30 (0, 0)) (bk_ BK501.out) NB501_0.out (by simp))
     replace BK507 := Aside0.mk (KeepBut.blk hk (g' := gb507) (o := .cells #[.int .i64 t502, .int .i64 t503, .int .i64 t504] 27 (0, 0)) (bk_ BK507.out) NB507_0.out (by simp))
     replace BK511 := Aside0.mk (KeepBut.blk hk (g' := gb511) (o := .cells #[.int .i64 t502, .int .i64 t503, .int .i64 t504, u512003, .int .i64 (wrap64 (1 + t508))] 30 (0, 0)) (bk_ BK511.out) NB511_0.out (by simp))
     replace HK := Aside0.mk (KeepBut.trans (by repeat (first | (with_reducible first | exact HK.out | apply KeepBut.set_ | apply keep_drewN | apply keep_drew | apply keep_alloc | refine keep_far ?_ GW501.out _ | refine keep_far ?_ GW507.out _ | refine keep_far ?_ GW511.out _) | exact HK.out)) hk (.inl rfl))
     replace HB := Aside0.mk (hb)
     replace HI0 := Aside0.mk (hi)
     skip
     (try clear hb2)
     (try clear hk)
     (try clear hi)
     refine hK.out _ _ ⟨BK511.c 0, BK511.c 1, BK511.c 2, BK511.c 3, BK511.c 4⟩ (fun hHeld => ?_)
     clear hK K
     refine nm_ ?_
     refine ov_ (i := 4) (N := some 24) HT_.out (fun K hK => ?_)
     refine value_ (w1 := ?_) (v := ?_) (by rfl) rfl ?_ ?_
     rotate_left 2
     ·go_simp
      constructor
      ·rfl
      ·rfl
     refine hK.out _ _ ⟨(blk_cell (blk_alloc BK511.out _) 0).trans rfl, (blk_cell (blk_alloc BK511.out _) 1).trans rfl, (blk_cell (blk_alloc BK511.out _) 2).trans rfl, (blk_cell (blk_alloc BK511.out _) 3).trans rfl, (blk_cell (blk_alloc BK511.out _) 4).trans rfl⟩ (fun hHeld => ?_)
     clear hK K
     refine nm_ ?_
     refine ov_ (i := 5) (N := some 25) HT_.out (fun K hK => ?_)
     refine Kd.R_append_step (Kd.int .i64) w.heap.size (by rfl) (.tmp 21) (.tmp 24) 28 3 (.int .i64 0) 8 rfl Try.underlying28 info3 rfl (by decide) (by omega) u512003 x512003_1 t513 [.int .i64 t513] (fun _ => True) (fun _ => False) rfl rfl ?aP (fun _ hk => hk.elim) ?aF ?aO (Below.refl _ _) ?aS ?aL ?_
     (case aP => exact rfl)
     (case aF => exact (fun _ _ => trivial))
     (case aO => exact (kr_ HO_512003.out))
     (case aS => exact (keep_size (w := w) (g := g) (row := none) (by repeat (first | (with_reducible first | exact HK.out | apply KeepBut.set_ | apply keep_drewN | apply keep_drew | apply keep_alloc | refine keep_far ?_ GW501.out _ | refine keep_far ?_ GW507.out _ | refine keep_far ?_ GW511.out _) | exact HK.out))))
     (case aL => have := LMc23.out; omega)
     intro v517 w31 ho hb hg hat
     rw [← Ny516.out] at ho
     have n0_ := Aside0.mk (blk_grown (g := gb501) (o := .cells #[.int .i64 0, .int .i64 0, .int .i64 0, .slice none 0 0, .int .i64 0] 30 (0, 0)) (bk_ BK501.out) hg (Kd.R_ne HO_512003.out BK501.out (by decide)))
     have n1_ := Aside0.mk (blk_grown (g := gb507) (o := .cells #[.int .i64 t502, .int .i64 t503, .int .i64 t504] 27 (0, 0)) (bk_ BK507.out) hg (Kd.R_ne HO_512003.out BK507.out (by decide)))
     have n2_ := Aside0.mk (blk_grown (g := gb511) (o := .cells #[.int .i64 t502, .int .i64 t503, .int .i64 t504, u512003, .int .i64 (wrap64 (1 + t508))] 30 (0, 0)) (bk_ BK511.out) hg (Kd.R_ne HO_512003.out BK511.out (by decide)))
     have n3_ := Aside0.mk (IsS55.grown (by repeat (first | (with_reducible first | exact HI0.out | apply IsS55.alloc | apply IsS55.drewN | apply IsS55.drew | apply IsS55.set_1 | apply IsS55.set_2 | refine IsS55.far ?_ NB0_501.out _ | refine IsS55.far ?_ NB0_507.out _ | refine IsS55.far ?_ NB0_511.out _) | exact HI0.out)) hg (IsS55.own_ne HI0.out HO_512003.out (by decide)))
     have n4_ := Aside0.mk (below_weaken (by repeat (first | (with_reducible first | exact HB.out | apply below_alloc | apply pw_below_drewN | apply below_drew1 | refine below_set ?_ (IsS55.ge HI0.out) | refine below_set ?_ GE501.out | refine below_set ?_ GE507.out | refine below_set ?_ GE511.out) | exact HB.out)) HL.out hb)
     have n5_ := Aside0.mk (KeepBut.trans (by repeat (first | (with_reducible first | exact HK.out | apply KeepBut.set_ | apply keep_drewN | apply keep_drew | apply keep_alloc | refine keep_far ?_ GW501.out _ | refine keep_far ?_ GW507.out _ | refine keep_far ?_ GW511.out _) | exact HK.out)) (KeepBut.of_grown hg g) (Kd.R_base2 HO_512003.out))
     have n6_ := Aside0.mk (ho)
     clear BK501
     clear BK507
     clear BK511
     clear HI0
     clear HB
     clear HK
     clear HO_512003
     have BK501 := n0_
     have BK507 := n1_
     have BK511 := n2_
     have HI0 := n3_
     have HB := n4_
     have HK := n5_
     have HO518 := n6_
     clear n0_ n1_ n2_ n3_ n4_ n5_ n6_
     clear ho hb hg hat
     obtain ⟨Ao32, co32, eo32⟩ := Kd.R_slice HO518.out
     (first | subst eo32 | (injection eo32 with f1_ f2_ f3_; have f4_ := f1_.symm; have f5_ := f3_.symm; clear f1_ f2_ f3_; subst f4_; subst f5_))
     refine hK.out _ _ ⟨BK511.c 0, BK511.c 1, BK511.c 2, BK511.c 3, BK511.c 4⟩ (fun hHeld => ?_)
     clear hK K
     refine nm_ ?_
     refine pv_ (i := 6) (N := some 26) HT_.out ?_
     refine last_ (i := 7) (N := none) #[true, true, true, true, true, true, true, true] rfl rfl (one_of HT_.out (by kernel_rfl)) (by decide) (fun K hK => ?_)
     have hs33 : w31.cell? ⟨gb511, 3, none⟩ = some (u512003) := BK511.c 3
     have hfs33 := blk_frozen BK511.out 3
     have hns33_0 := NB501_511.out
     have hns33_1 := NB507_511.out
     have hms33_0 := NB511_501.out
     have hms33_1 := NB511_507.out
     refine skip_ (w1 := ?_) (by rfl) rfl ?_ ?_
     rotate_left
     ·go_simp
      rfl
     refine hK.out _ _ ?_
     clear hK K
     refine done_ (done_of HT_.out (by kernel_rfl)) ?_
     try go_wp2
     go_roundg k1
     case measure => have := HK1.out; omega
     case rel => exact ⟨(wrap64 (x5_1 + 1)), (t514), (t515), (y516), (.slice Ao32 y516.length co32), (by first | rfl | (simp; done) | (simp [*]; done)), H', ⟨by have := HK1.out; omega⟩, ⟨by (with_reducible repeat (first | apply Kd.R_alloc | apply Kd.R_drewN | apply Kd.R_drew)); exact Kd.R_mono (Kd.R_far (p := ⟨gb511, 3, none⟩) (Kd.R_types HO518.out BK511.out (by decide)) (fun _ hk => hk.2) (.slice Ao32 y516.length co32)) (fun _ hk => trivial)⟩, ⟨by (with_reducible repeat (first | refine blk_drewN ?_ _ | refine blk_drew ?_ | refine blk_alloc ?_ _)); refine blk_far ?_ NB501_511.out _; (with_reducible repeat (first | refine blk_drewN ?_ _ | refine blk_drew ?_ | refine blk_alloc ?_ _)); exact BK501.out⟩, ⟨by (with_reducible repeat (first | refine blk_drewN ?_ _ | refine blk_drew ?_ | refine blk_alloc ?_ _)); refine blk_far ?_ NB507_511.out _; (with_reducible repeat (first | refine blk_drewN ?_ _ | refine blk_drew ?_ | refine blk_alloc ?_ _)); exact BK507.out⟩, ⟨by (with_reducible repeat (first | refine blk_drewN ?_ _ | refine blk_drew ?_ | refine blk_alloc ?_ _)); refine blk_put (cs := #[.int .i64 t502, .int .i64 t503, .int .i64 t504, u512003, .int .i64 (wrap64 (1 + t508))]) ?_ 3 _ rfl; (with_reducible repeat (first | refine blk_drewN ?_ _ | refine blk_drew ?_ | refine blk_alloc ?_ _)); exact BK511.out⟩, ⟨by repeat (first | (with_reducible first | exact HI0.out | apply IsS55.alloc | apply IsS55.drewN | apply IsS55.drew | apply IsS55.set_1 | apply IsS55.set_2 | refine IsS55.far ?_ NB0_501.out _ | refine IsS55.far ?_ NB0_507.out _ | refine IsS55.far ?_ NB0_511.out _) | exact HI0.out)⟩, ⟨by repeat (first | (with_reducible first | exact HK.out | apply KeepBut.set_ | apply keep_drewN | apply keep_drew | apply keep_alloc | refine keep_far ?_ GW501.out _ | refine keep_far ?_ GW507.out _ | refine keep_far ?_ GW511.out _) | exact HK.out)⟩, ⟨by repeat (first | (with_reducible first | exact HB.out | apply below_alloc | apply pw_below_drewN | apply below_drew1 | refine below_set ?_ (IsS55.ge HI0.out) | refine below_set ?_ GE501.out | refine below_set ?_ GE507.out | refine below_set ?_ GE511.out) | exact HB.out)⟩⟩
    ·rw [if_neg c23] at H
     exact absurd H (by simp)
   ·rw [if_neg c21] at H
    have c21b0 : decide (x5_1 < t512) = false := decide_eq_false c21
    clear c21
    simp only [Option.some.injEq, Prod.mk.injEq] at H
    obtain ⟨rfl, rfl, rfl, rfl, rfl, rfl, rfl⟩ := H
    have hnb34 := NB507_501.out
    have hnc34 := NB501_507.out
    have hnb35 := NB507_511.out
    have hnc35 := NB511_507.out
    have hnb36 := NB507_0.out
    have hnc36 := NB0_507.out
    obtain ⟨hcz37_0, hcz37_1, hcz37_2⟩ := cz3_ BK507.out
    obtain ⟨hfz37_0, hfz37_1, hfz37_2⟩ := fz3_ BK507.out
    go_wp2_with ((with_reducible refine gw_ ?_); first | (refine gl_ 16 Try.func23 #[.agg #[.int .i64 t502, .int .i64 t503]] ?_; (with_reducible refine (spec_CountGaps.calls t502 t503 t512 _ A20.out).mono ?_); rintro e w38 ⟨rfl, hb⟩; refine ⟨_, rfl, ?_⟩; replace HO_512003 := HO_512003.kb hb; replace BK501 := BK501.bb hb; replace BK507 := BK507.bb hb; replace BK511 := BK511.bb hb; replace HK := Aside0.mk (KeepBut.trans (by repeat (first | (with_reducible first | exact HK.out | apply KeepBut.set_ | apply keep_drewN | apply keep_drew | apply keep_alloc | refine keep_far ?_ GW501.out _ | refine keep_far ?_ GW507.out _ | refine keep_far ?_ GW511.out _) | exact HK.out)) (KeepBut.of_below hb g none) (.inl rfl)); replace HB := Aside0.mk (below_step (by repeat (first | (with_reducible first | exact HB.out | apply below_alloc | apply pw_below_drewN | apply below_drew1 | refine below_set ?_ (IsS55.ge HI0.out) | refine below_set ?_ GE501.out | refine below_set ?_ GE507.out | refine below_set ?_ GE511.out) | exact HB.out)) hb); replace HI0 := Aside0.mk (IsS55.below (by repeat (first | (with_reducible first | exact HI0.out | apply IsS55.alloc | apply IsS55.drewN | apply IsS55.drew | apply IsS55.set_1 | apply IsS55.set_2 | refine IsS55.far ?_ NB0_501.out _ | refine IsS55.far ?_ NB0_507.out _ | refine IsS55.far ?_ NB0_511.out _) | exact HI0.out)) hb); have hnb39 := NB511_501.out; have hnc39 := NB501_511.out; have hnb40 := NB511_0.out; have hnc40 := NB0_511.out; obtain ⟨hcz41_0, hcz41_1, hcz41_2, hcz41_3, hcz41_4⟩ := cz5_ BK511.out; obtain ⟨hfz41_0, hfz41_1, hfz41_2, hfz41_3, hfz41_4⟩ := fz5_ BK511.out; have hnb42 := NB501_0.out; have hnc42 := NB0_501.out; obtain ⟨hcz43_0, hcz43_1, hcz43_2, hcz43_3, hcz43_4⟩ := cz5_ BK501.out; obtain ⟨hfz43_0, hfz43_1, hfz43_2, hfz43_3, hfz43_4⟩ := fz5_ BK501.out; obtain ⟨Ao44, co44, eo44⟩ := Kd.R_slice HO_512003.out; subst eo44))
    refine bodyPost_ret (results_cell_row rfl _ _ gb501 30 #[.int .i64 t502, .int .i64 t503, .int .i64 t504, .slice Ao44 x512003_1.length co44, .int .i64 (wrap64 (1 + t508))] (0, 0) _ rfl (bq5_ BK501.out) Try.underlying30 rfl (by kernel_rfl)) rfl ?_
    exact ⟨_, ex_, by (with_reducible repeat (first | apply Kd.R_alloc | apply Kd.R_drewN | apply Kd.R_drew)); exact Kd.R_mono (Kd.R_far (p := ⟨gb501, 4, none⟩) (Kd.R_far (p := ⟨gb501, 3, none⟩) (Kd.R_far (p := ⟨gb501, 2, none⟩) (Kd.R_far (p := ⟨gb501, 1, none⟩) (Kd.R_far (p := ⟨gb501, 0, none⟩) (Kd.R_types HO_512003.out BK501.out (by decide)) (fun _ hk => hk.2) (.int .i64 t502)) (fun _ hk => hk.2) (.int .i64 t503)) (fun _ hk => hk.2) (.int .i64 t504)) (fun _ hk => hk.2) (.slice Ao44 x512003_1.length co44)) (fun _ hk => hk.2) (.int .i64 (wrap64 (1 + t508)))) (fun _ hk => trivial), by repeat (first | (with_reducible first | exact HI0.out | apply IsS55.alloc | apply IsS55.drewN | apply IsS55.drew | apply IsS55.set_1 | apply IsS55.set_2 | refine IsS55.far ?_ NB0_501.out _ | refine IsS55.far ?_ NB0_507.out _ | refine IsS55.far ?_ NB0_511.out _) | exact HI0.out), by repeat (first | (with_reducible first | exact HB.out | apply below_alloc | apply pw_below_drewN | apply below_drew1 | refine below_set ?_ (IsS55.ge HI0.out) | refine below_set ?_ GE501.out | refine below_set ?_ GE507.out | refine below_set ?_ GE511.out) | exact HB.out), by repeat (first | (with_reducible first | exact HK.out | apply KeepBut.set_ | apply keep_drewN | apply keep_drew | apply keep_alloc | refine keep_far ?_ GW501.out _ | refine keep_far ?_ GW507.out _ | refine keep_far ?_ GW511.out _) | exact HK.out)⟩

end Go.Proofs.Ytgfhpjnofmbcoaa.X
