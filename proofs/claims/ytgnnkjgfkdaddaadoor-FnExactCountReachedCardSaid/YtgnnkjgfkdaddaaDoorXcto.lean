-- Written by a program of this session (xprint.py), out of the translation and of hand-written contracts. Lean checks it.
import Derived.Test.YtgnnkjgfkdaddaaDoorX0
namespace Go.Proofs.YtgnnkjgfkdaddaaDoor.X
open Go.RowKit Go.Proofs.YtgnnkjgfkdaddaaDoorW.PrintWords Go.Proofs.YtgnnkjgfkdaddaaDoorW.PrintLast Go.Proofs.YtgnnkjgfkdaddaaDoorW.PrintMore
attribute [local go_sem] max2_int min2_int max_two min_two max_three min_three max_four min_four   -- for this text's walks alone
set_option linter.unusedVariables false
set_option linter.unusedSimpArgs false

/-! ### laws_toGrid: function 12 -/
def laws_toGrid.f (a0_0 : Int) (a0_1 : Int) : Option (Int × Int) := some (a0_0, a0_1)
set_option maxHeartbeats 8000000 in
set_option maxRecDepth 100000 in
theorem laws_toGrid.calls (a0_0 : Int) (a0_1 : Int) (r1 : Int) (r2 : Int) (w : World) (h : laws_toGrid.f a0_0 a0_1 = some (r1, r2)) :
  Calls Tryd.prog 12 #[.agg #[.int .i64 a0_0, .int .i64 a0_1]] w fun e w' => e = .returned (.agg #[.int .i64 r1, .int .i64 r2]) ∧ Below w.heap.size w w' := by
 have hu23 := Tryd.underlying23
 have hu28 := Tryd.underlying28
 have HB := Aside0.mk (Below.refl w.heap.size w)
 have H : (some (a0_0, a0_1)) = some (r1, r2) := h
 clear h
 simp only [Option.some.injEq, Prod.mk.injEq] at H
 obtain ⟨rfl, rfl⟩ := H
 go_enter Tryd.func12, Tryd.ntmps12
 go_wp2_with (first | (refine box_ (N := 1) (cs := #[.int .i64 a0_0, .int .i64 a0_1]) (t := 23) ?_; intro gb501 hg w2 hbox hb; have BK501 := Aside0.mk (hbox); have GW501 := HB.g0 hg; have GE501 := HB.g0 hg; replace HB := HB.s0 hb; clear hb hbox hg) | (refine box_ (N := 2) (cs := #[.int .i64 0, .int .i64 0]) (t := 28) ?_; intro gb502 hg w3 hbox hb; have BK502 := Aside0.mk (hbox); have GW502 := HB.g1 GE501 hg; have GE502 := HB.g1 GE501 hg; replace HB := HB.s1 GE501 hb; have NB501_502 := BK501.nl hg; have NB502_501 := BK501.nr hg; replace BK501 := BK501.bb hb; clear hb hbox hg) | (refine box_ (N := 3) (cs := #[.int .i64 0, .int .i64 0]) (t := 28) ?_; intro gb503 hg w4 hbox hb; have BK503 := Aside0.mk (hbox); have GW503 := HB.g2 GE501 GE502 hg; have GE503 := HB.g2 GE501 GE502 hg; replace HB := HB.s2 GE501 GE502 hb; have NB501_503 := BK501.nl hg; have NB503_501 := BK501.nr hg; replace BK501 := BK501.bb hb; have NB502_503 := BK502.nl hg; have NB503_502 := BK502.nr hg; replace BK502 := BK502.bb hb; clear hb hbox hg; have hnb5 := NB501_502.out; have hnc5 := NB502_501.out; have hnb6 := NB501_503.out; have hnc6 := NB503_501.out; obtain ⟨hcz7_0, hcz7_1⟩ := cz2_ BK501.out; obtain ⟨hfz7_0, hfz7_1⟩ := fz2_ BK501.out; have hnb8 := NB503_502.out; have hnc8 := NB502_503.out; obtain ⟨hcz9_0, hcz9_1⟩ := cz2_ BK503.out; obtain ⟨hfz9_0, hfz9_1⟩ := fz2_ BK503.out; obtain ⟨hcz10_0, hcz10_1⟩ := cz2_ BK502.out; obtain ⟨hfz10_0, hfz10_1⟩ := fz2_ BK502.out))
 refine bodyPost_ret (results_cell_row rfl _ _ gb502 28 #[.int .i64 a0_0, .int .i64 a0_1] (0, 0) _ rfl (by (with_reducible repeat (first | refine blk_drewN ?_ _ | refine blk_drew ?_ | refine blk_alloc ?_ _)); refine blk_put (cs := #[.int .i64 a0_0, .int .i64 0]) ?_ 1 _ rfl; (with_reducible repeat (first | refine blk_drewN ?_ _ | refine blk_drew ?_ | refine blk_alloc ?_ _)); refine blk_put (cs := #[.int .i64 0, .int .i64 0]) ?_ 0 _ rfl; (with_reducible repeat (first | refine blk_drewN ?_ _ | refine blk_drew ?_ | refine blk_alloc ?_ _)); refine blk_far ?_ NB502_503.out _; (with_reducible repeat (first | refine blk_drewN ?_ _ | refine blk_drew ?_ | refine blk_alloc ?_ _)); refine blk_far ?_ NB502_503.out _; (with_reducible repeat (first | refine blk_drewN ?_ _ | refine blk_drew ?_ | refine blk_alloc ?_ _)); exact BK502.out) Tryd.underlying28 rfl (by kernel_rfl)) rfl ?_
 exact ⟨ex_, hb3_ HB.out GE501.out GE502.out GE503.out⟩

/-! ### laws_toMaze: function 5 -/
def laws_toMaze.f (a0_0 : Int) (a0_1 : Int) (a0_2 : Int) : Option (Int × Int × Int) := (laws_toGrid.f a0_0 a0_1).bind fun bt504 => (some (bt504.1, bt504.2, a0_2))
set_option maxHeartbeats 8000000 in
set_option maxRecDepth 100000 in
theorem laws_toMaze.calls (a0_0 : Int) (a0_1 : Int) (a0_2 : Int) (r1 : Int) (r2 : Int) (r3 : Int) (w : World) (h : laws_toMaze.f a0_0 a0_1 a0_2 = some (r1, r2, r3)) :
  Calls Tryd.prog 5 #[.agg #[.int .i64 a0_0, .int .i64 a0_1, .int .i64 a0_2]] w fun e w' => e = .returned (.agg #[.int .i64 r1, .int .i64 r2, .int .i64 r3]) ∧ Below w.heap.size w w' := by
 have hu25 := Tryd.underlying25
 have hu30 := Tryd.underlying30
 have hu23 := Tryd.underlying23
 have hu28 := Tryd.underlying28
 have HB := Aside0.mk (Below.refl w.heap.size w)
 have H : ((laws_toGrid.f a0_0 a0_1).bind fun bt504 => (some (bt504.1, bt504.2, a0_2))) = some (r1, r2, r3) := h
 clear h
 replace H := Option.bind_eq_some_iff.mp H
 obtain ⟨⟨t504, t505⟩, A20, H⟩ := H
 replace H : (some (t504, t505, a0_2)) = some (r1, r2, r3) := H
 have A2 := Aside0.mk A20
 clear A20
 simp only [Option.some.injEq, Prod.mk.injEq] at H
 obtain ⟨rfl, rfl, rfl⟩ := H
 go_enter Tryd.func5, Tryd.ntmps5
 go_wp2_with (first | (refine box_ (N := 1) (cs := #[.int .i64 a0_0, .int .i64 a0_1, .int .i64 a0_2]) (t := 25) ?_; intro gb501 hg w3 hbox hb; have BK501 := Aside0.mk (hbox); have GW501 := HB.g0 hg; have GE501 := HB.g0 hg; replace HB := HB.s0 hb; clear hb hbox hg) | (refine box_ (N := 2) (cs := #[.int .i64 0, .int .i64 0, .int .i64 0]) (t := 30) ?_; intro gb502 hg w4 hbox hb; have BK502 := Aside0.mk (hbox); have GW502 := HB.g1 GE501 hg; have GE502 := HB.g1 GE501 hg; replace HB := HB.s1 GE501 hb; have NB501_502 := BK501.nl hg; have NB502_501 := BK501.nr hg; replace BK501 := BK501.bb hb; clear hb hbox hg) | (refine box_ (N := 3) (cs := #[.int .i64 0, .int .i64 0, .int .i64 0]) (t := 30) ?_; intro gb503 hg w5 hbox hb; have BK503 := Aside0.mk (hbox); have GW503 := HB.g2 GE501 GE502 hg; have GE503 := HB.g2 GE501 GE502 hg; replace HB := HB.s2 GE501 GE502 hb; have NB501_503 := BK501.nl hg; have NB503_501 := BK501.nr hg; replace BK501 := BK501.bb hb; have NB502_503 := BK502.nl hg; have NB503_502 := BK502.nr hg; replace BK502 := BK502.bb hb; clear hb hbox hg; have hnb6 := NB501_502.out; have hnc6 := NB502_501.out; have hnb7 := NB501_503.out; have hnc7 := NB503_501.out; obtain ⟨hcz8_0, hcz8_1, hcz8_2⟩ := cz3_ BK501.out; obtain ⟨hfz8_0, hfz8_1, hfz8_2⟩ := fz3_ BK501.out) | (refine gl_ 6 Tryd.func12 #[.agg #[.int .i64 a0_0, .int .i64 a0_1]] ?_; (with_reducible refine (laws_toGrid.calls a0_0 a0_1 t504 t505 _ A2.out).mono ?_); rintro e w9 ⟨rfl, hb⟩; refine ⟨_, rfl, ?_⟩; replace BK501 := BK501.bb hb; replace BK502 := BK502.bb hb; replace BK503 := BK503.bb hb; replace HB := HB.s3 GE501 GE502 GE503 hb; (try clear hb); have hnb10 := NB503_502.out; have hnc10 := NB502_503.out; obtain ⟨hcz11_0, hcz11_1, hcz11_2⟩ := cz3_ BK503.out; obtain ⟨hfz11_0, hfz11_1, hfz11_2⟩ := fz3_ BK503.out; obtain ⟨hcz12_0, hcz12_1, hcz12_2⟩ := cz3_ BK501.out; obtain ⟨hfz12_0, hfz12_1, hfz12_2⟩ := fz3_ BK501.out; obtain ⟨hcz13_0, hcz13_1, hcz13_2⟩ := cz3_ BK502.out; obtain ⟨hfz13_0, hfz13_1, hfz13_2⟩ := fz3_ BK502.out))
 refine bodyPost_ret (results_cell_row rfl _ _ gb502 30 #[.int .i64 t504, .int .i64 t505, .int .i64 a0_2] (0, 0) _ rfl (by (with_reducible repeat (first | refine blk_drewN ?_ _ | refine blk_drew ?_ | refine blk_alloc ?_ _)); refine blk_put (cs := #[.int .i64 t504, .int .i64 t505, .int .i64 0]) ?_ 2 _ rfl; (with_reducible repeat (first | refine blk_drewN ?_ _ | refine blk_drew ?_ | refine blk_alloc ?_ _)); refine blk_put (cs := #[.int .i64 t504, .int .i64 0, .int .i64 0]) ?_ 1 _ rfl; (with_reducible repeat (first | refine blk_drewN ?_ _ | refine blk_drew ?_ | refine blk_alloc ?_ _)); refine blk_put (cs := #[.int .i64 0, .int .i64 0, .int .i64 0]) ?_ 0 _ rfl; (with_reducible repeat (first | refine blk_drewN ?_ _ | refine blk_drew ?_ | refine blk_alloc ?_ _)); refine blk_far ?_ NB502_503.out _; (with_reducible repeat (first | refine blk_drewN ?_ _ | refine blk_drew ?_ | refine blk_alloc ?_ _)); refine blk_far ?_ NB502_503.out _; (with_reducible repeat (first | refine blk_drewN ?_ _ | refine blk_drew ?_ | refine blk_alloc ?_ _)); refine blk_far ?_ NB502_503.out _; (with_reducible repeat (first | refine blk_drewN ?_ _ | refine blk_drew ?_ | refine blk_alloc ?_ _)); exact BK502.out) Tryd.underlying30 rfl (by kernel_rfl)) rfl ?_
 exact ⟨ex_, hb3_ HB.out GE501.out GE502.out GE503.out⟩

end Go.Proofs.YtgnnkjgfkdaddaaDoor.X
