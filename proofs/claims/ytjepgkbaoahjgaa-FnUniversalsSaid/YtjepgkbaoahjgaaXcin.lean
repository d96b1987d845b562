-- Written by a program of this session (xprint.py), out of the translation and of hand-written contracts. Lean checks it.
import Derived.Test.YtjepgkbaoahjgaaX0
import Derived.Test.YtjepgkbaoahjgaaXcgrid
import Derived.Test.YtjepgkbaoahjgaaXchof
import Derived.Test.YtjepgkbaoahjgaaXcmaze
namespace Go.Proofs.Ytjepgkbaoahjgaa.X
open Go.RowKit Go.Proofs.YtjepgkbaoahjgaaW.PrintWords Go.Proofs.YtjepgkbaoahjgaaW.PrintLast Go.Proofs.YtjepgkbaoahjgaaW.PrintMore
attribute [local go_sem] max2_int min2_int max_two min_two max_three min_three max_four min_four   -- for this text's walks alone
set_option linter.unusedVariables false
set_option linter.unusedSimpArgs false

/-! ### impl_isIn_1: function 41 (by hand) -/
def isCellB (a0 a1 c : Int) : Bool := (impl_isCell.f a0 a1 c).getD false
theorem isCellB_eq (a0 a1 c : Int) : impl_isCell.f a0 a1 c = some (isCellB a0 a1 c) := by
 unfold isCellB
 cases e : impl_isCell.f a0 a1 c with
 | some b => rfl
 | none =>
  exfalso
  revert e
  unfold impl_isCell.f impl_CountCells.f impl_GridOk.f
  repeat' split
  all_goals simp
  all_goals (repeat' split)
  all_goals simp
set_option maxHeartbeats 1000000 in
theorem impl_isIn_1.calls (B : Nat) (a0 a1 a2 x : Int) (w : World) (h0 : w.cell? ⟨B, 0, none⟩ = some (.int .i64 a0)) (h1 : w.cell? ⟨B, 1, none⟩ = some (.int .i64 a1)) :
  Calls Try.prog 41 #[.int .i64 x, .pointer (some ⟨B, 0, none⟩)] w fun e w' => e = .returned (.bool (!isCellB a0 a1 x)) ∧ Below w.heap.size w w' := by
 have hu := Try.underlying30
 have hu2 := Try.underlying25
 have HE := Aside0.mk (isCellB_eq a0 a1 x)
 go_enter Try.func41, Try.ntmps41
 go_wp2_with (go_at_call 42; refine (impl_isCell.calls a0 a1 x _ _ HE.out).mono ?_; rintro e w' ⟨rfl, hb⟩)
 go_ret
 exact ⟨rfl, hb⟩

/-! ### impl_isIn: function 24 (by hand) -/
def impl_isIn.f (a0_0 : Int) (a0_1 : Int) (a0_2 : Int) (l1 : List Int) : Option Bool := (impl_MazeOk.f a0_0 a0_1 a0_2).bind fun t => if t = true then some (!(l1.any fun c => !isCellB a0_0 a0_1 c)) else some false
set_option maxHeartbeats 2000000 in
theorem impl_isIn.calls (a0_0 : Int) (a0_1 : Int) (a0_2 : Int) (A1 : Option Addr) (c1 : Nat) (l1 : List Int) (r : Bool) (w : World) (hr1 : Kd.C (Kd.int .i64) w A1 l1.length l1) (hc1 : l1.length ≤ c1) (h : impl_isIn.f a0_0 a0_1 a0_2 l1 = some r) :
  Calls Try.prog 24 #[.agg #[.int .i64 a0_0, .int .i64 a0_1, .int .i64 a0_2], .slice A1 l1.length c1] w fun e w' => e = .returned (.bool r) ∧ Below w.heap.size w w' := by
 have hu := Try.underlying30
 have HR := Aside0.mk hr1
 have HB := Aside0.mk (Below.refl w.heap.size w)
 have eg : ∀ args w, (callFunc 41 args).run Try.prog w = .ok (.enter 41 args) w := enters_of Try.func41 (by kernel_rfl) rfl
 clear hr1 hc1
 obtain ⟨t, ht, H⟩ := Option.bind_eq_some_iff.mp h
 have HT := Aside0.mk ht
 clear h ht
 cases t with
 | false =>
  obtain rfl := Option.some.inj H
  clear H
  go_enter Try.func24, Try.ntmps24
  go_wp2_with (go_at_call 37; refine (impl_MazeOk.calls a0_0 a0_1 a0_2 false _ HT.out).mono ?_; rintro e w1 ⟨rfl, hb⟩)
  go_ret
  exact ⟨rfl, below_step (below_alloc HB.out _) hb⟩
 | true =>
  obtain rfl := Option.some.inj H
  clear H
  go_enter Try.func24, Try.ntmps24
  go_wp2_with (first | (go_at_call 37; refine (impl_MazeOk.calls a0_0 a0_1 a0_2 true _ HT.out).mono ?_; rintro e w1 ⟨rfl, hb⟩; have HB1 := Aside0.mk hb; clear hb) | (go_at_call 40; refine (slices_ContainsFunc.gen (fun c => !isCellB a0_0 a0_1 c) 41 _ eg A1 c1 l1 _ ?c1 ?c2).mono ?c3))
  case c1 => exact Kd.C_below (Kd.C_alloc HR.out _) HB1.out
  case c2 =>
   intro W x hW hx
   have b0 := heap_alloc_new w (.cells #[.int .i64 a0_0, .int .i64 a0_1, .int .i64 a0_2] 30)
   have b1 := blk_below b0 HB1.out
   have b2 := blk_below b1 hW
   refine (impl_isIn_1.calls w.heap.size a0_0 a0_1 a0_2 x W ((blk_cell b2 0).trans rfl) ((blk_cell b2 1).trans rfl)).mono ?_
   rintro e w' ⟨rfl, hb⟩
   exact ⟨rfl, below_step hW hb⟩
  case c3 =>
   rintro e w2 ⟨rfl, hb2⟩
   go_wp2
   go_ret
   exact ⟨rfl, below_step (below_step (below_alloc HB.out _) HB1.out) hb2⟩

/-! ### impl_isDirection: function 25 -/
def impl_isDirection.f (a0 : Int) : Option (Bool) := if a0 ≥ 0 then (some (decide (a0 ≤ 3))) else (some false)
set_option maxHeartbeats 8000000 in
set_option maxRecDepth 100000 in
theorem impl_isDirection.calls (a0 : Int) (r : Bool) (w : World) (h : impl_isDirection.f a0 = some r) :
  Calls Try.prog 25 #[.int .i64 a0] w fun e w' => e = .returned (.bool r) ∧ Drawn0 w w' := by
 have H : (if a0 ≥ 0 then (some (decide (a0 ≤ 3))) else (some false)) = some r := h
 clear h
 by_cases c2 : a0 ≥ 0
 ·rw [if_pos c2] at H
  have c2b0 : decide (0 ≤ a0) = true := decide_eq_true c2
  clear c2
  obtain rfl := Option.some.inj H
  go_enter Try.func25, Try.ntmps25
  go_wp2
  go_ret
  exact ⟨by first | rfl | (simp; done) | (simp [*]; done), dr_⟩
 ·rw [if_neg c2] at H
  have c2b0 : decide (0 ≤ a0) = false := decide_eq_false c2
  clear c2
  obtain rfl := Option.some.inj H
  go_enter Try.func25, Try.ntmps25
  go_wp2
  go_ret
  exact ⟨by first | rfl | (simp; done) | (simp [*]; done), dr_⟩

/-! ### impl_WalkerOk: function 10 -/
def impl_WalkerOk.f (a0_0 : Int) (a0_1 : Int) (a0_2 : Int) (a1_0 : Int) (a1_1 : Int) : Option (Bool) := (impl_isIn.f a0_0 a0_1 a0_2 (([a1_0] : List Int))).bind fun t506 => (if t506 = true then ((impl_isDirection.f a1_1).bind fun t507 => (some t507)) else (some false))
set_option maxHeartbeats 8000000 in
set_option maxRecDepth 100000 in
theorem impl_WalkerOk.calls (a0_0 : Int) (a0_1 : Int) (a0_2 : Int) (a1_0 : Int) (a1_1 : Int) (r : Bool) (w : World) (h : impl_WalkerOk.f a0_0 a0_1 a0_2 a1_0 a1_1 = some r) :
  Calls Try.prog 10 #[.agg #[.int .i64 a0_0, .int .i64 a0_1, .int .i64 a0_2], .agg #[.int .i64 a1_0, .int .i64 a1_1]] w fun e w' => e = .returned (.bool r) ∧ Below w.heap.size w w' := by
 have hu30 := Try.underlying30
 have hu32 := Try.underlying32
 have HB := Aside0.mk (Below.refl w.heap.size w)
 have H : ((impl_isIn.f a0_0 a0_1 a0_2 (([a1_0] : List Int))).bind fun t506 => (if t506 = true then ((impl_isDirection.f a1_1).bind fun t507 => (some t507)) else (some false))) = some r := h
 clear h
 obtain ⟨y503, hy503⟩ : ∃ y_ : List Int, y_ = (([a1_0] : List Int)) := ⟨_, rfl⟩
 replace H : ((impl_isIn.f a0_0 a0_1 a0_2 y503).bind fun t506 => (if t506 = true then ((impl_isDirection.f a1_1).bind fun t507 => (some t507)) else (some false))) = some r := by first | (rw [hy503]; with_reducible exact H) | (have H2_ := (Option.bind_some _ _).symm.trans H; rw [hy503]; with_reducible exact H2_) | (have H2_ := (Option.bind_some _ _).symm.trans H; with_reducible exact H2_) | with_reducible exact H | (rw [hy503]; exact H) | exact H
 have Ny503 := Aside0.mk hy503
 clear hy503
 replace H := Option.bind_eq_some_iff.mp H
 obtain ⟨t506, A30, H⟩ := H
 replace H : (if t506 = true then ((impl_isDirection.f a1_1).bind fun t507 => (some t507)) else (some false)) = some r := H
 have A3 := Aside0.mk A30
 clear A30
 by_cases c4 : t506 = true
 ·subst c4
  have H1 : ((impl_isDirection.f a1_1).bind fun t507 => (some t507)) = some r := by rw [if_pos rfl] at H; exact H
  clear H
  have H := H1
  clear H1
  replace H := Option.bind_eq_some_iff.mp H
  obtain ⟨t507, A50, H⟩ := H
  replace H : (some t507) = some r := H
  have A5 := Aside0.mk A50
  clear A50
  obtain rfl := Option.some.inj H
  go_enter Try.func10, Try.ntmps10
  go_wp2_with (first | (refine box_ (N := 2) (cs := #[.int .i64 a0_0, .int .i64 a0_1, .int .i64 a0_2]) (t := 30) ?_; intro gb501 hg w6 hbox hb; have BK501 := Aside0.mk (hbox); have GW501 := HB.g0 hg; have GE501 := HB.g0 hg; replace HB := HB.s0 hb; clear hb hbox hg) | (refine box_ (N := 3) (cs := #[.int .i64 a1_0, .int .i64 a1_1]) (t := 32) ?_; intro gb502 hg w7 hbox hb; have BK502 := Aside0.mk (hbox); have GW502 := HB.g1 GE501 hg; have GE502 := HB.g1 GE501 hg; replace HB := HB.s1 GE501 hb; have NB501_502 := BK501.nl hg; have NB502_501 := BK501.nr hg; replace BK501 := BK501.bb hb; clear hb hbox hg; have hnb8 := NB501_502.out; have hnc8 := NB502_501.out; obtain ⟨hcz9_0, hcz9_1, hcz9_2⟩ := cz3_ BK501.out; obtain ⟨hfz9_0, hfz9_1, hfz9_2⟩ := fz3_ BK501.out; obtain ⟨hcz10_0, hcz10_1⟩ := cz2_ BK502.out; obtain ⟨hfz10_0, hfz10_1⟩ := fz2_ BK502.out) | ((with_reducible refine gate_dst (N := 8) rfl ?_); refine Kd.R_lit (Kd.int .i64) _ 3 ?hg (N := 8) ?hd (xs := ([a1_0] : List Int)) (inner := [.int .i64 a1_0]) (ok := fun _ => True) (okp := fun _ => True) ?hr ?hp (fun _ hk => hk) trivial (Below.refl _ _) (Nat.le_refl _) (by simp) ?_; (case hd => rfl); (case hg => rfl); (case hr => first | (go_simp; done) | (go_simp; rfl)); (case hp => exact (Reps.one (show Kd.M (Kd.int .i64) _ _ _ a1_0 [.int .i64 a1_0] from rfl) (Reps.none _ _))); intro v504 w11 ho12 hb hg_ hnew_; clear hg_ hnew_; (first | rw [← Ny503.out] at ho12 | (simp only [Int.reduceToNat] at ho12; rw [← Ny503.out] at ho12)); have HO505 := Aside0.mk (Kd.R_lower ho12 (below_size (hb2_ HB.out GE501.out GE502.out))); replace BK501 := BK501.bb hb; replace BK502 := BK502.bb hb; replace HB := HB.s2 GE501 GE502 hb; clear hb ho12; obtain ⟨Ao13, co13, eo13⟩ := Kd.R_slice HO505.out; subst eo13) | (refine gl_ 9 Try.func24 #[.agg #[.int .i64 a0_0, .int .i64 a0_1, .int .i64 a0_2], .slice Ao13 y503.length co13] ?_; (with_reducible refine (impl_isIn.calls a0_0 a0_1 a0_2 _ _ y503 true _ ?side1 ?side2 A3.out).mono ?_); (case side1 => repeat (first | exact (Kd.R_reads' HO505.out).2.2 | (with_reducible refine Kd.C_alloc ?_ _) | (with_reducible refine Kd.C_drewN ?_ _) | (with_reducible refine Kd.C_drew ?_))); (case side2 => exact (Kd.R_reads' HO505.out).2.1); rintro e w14 ⟨rfl, hb⟩; refine ⟨_, rfl, ?_⟩; replace HO505 := HO505.kb hb; replace BK501 := BK501.bb hb; replace BK502 := BK502.bb hb; replace HB := HB.s2 GE501 GE502 hb; (try clear hb); obtain ⟨hcz15_0, hcz15_1⟩ := cz2_ BK502.out; obtain ⟨hfz15_0, hfz15_1⟩ := fz2_ BK502.out) | (go_at_call 25; (with_reducible refine (impl_isDirection.calls a1_1 t507 _ A5.out).mono ?_); rintro e w' ⟨rfl, ⟨nd, rfl⟩⟩))
  go_ret
  exact ⟨ex_, hb2_ HB.out GE501.out GE502.out⟩
 ·replace c4 := Bool.eq_false_iff.mpr c4
  subst c4
  have H1 : (some false) = some r := by rw [if_neg (show ¬ (false = true) by decide)] at H; exact H
  clear H
  have H := H1
  clear H1
  obtain rfl := Option.some.inj H
  go_enter Try.func10, Try.ntmps10
  go_wp2_with (first | (refine box_ (N := 2) (cs := #[.int .i64 a0_0, .int .i64 a0_1, .int .i64 a0_2]) (t := 30) ?_; intro gb501 hg w16 hbox hb; have BK501 := Aside0.mk (hbox); have GW501 := HB.g0 hg; have GE501 := HB.g0 hg; replace HB := HB.s0 hb; clear hb hbox hg) | (refine box_ (N := 3) (cs := #[.int .i64 a1_0, .int .i64 a1_1]) (t := 32) ?_; intro gb502 hg w17 hbox hb; have BK502 := Aside0.mk (hbox); have GW502 := HB.g1 GE501 hg; have GE502 := HB.g1 GE501 hg; replace HB := HB.s1 GE501 hb; have NB501_502 := BK501.nl hg; have NB502_501 := BK501.nr hg; replace BK501 := BK501.bb hb; clear hb hbox hg; have hnb18 := NB501_502.out; have hnc18 := NB502_501.out; obtain ⟨hcz19_0, hcz19_1, hcz19_2⟩ := cz3_ BK501.out; obtain ⟨hfz19_0, hfz19_1, hfz19_2⟩ := fz3_ BK501.out; obtain ⟨hcz20_0, hcz20_1⟩ := cz2_ BK502.out; obtain ⟨hfz20_0, hfz20_1⟩ := fz2_ BK502.out) | ((with_reducible refine gate_dst (N := 8) rfl ?_); refine Kd.R_lit (Kd.int .i64) _ 3 ?hg (N := 8) ?hd (xs := ([a1_0] : List Int)) (inner := [.int .i64 a1_0]) (ok := fun _ => True) (okp := fun _ => True) ?hr ?hp (fun _ hk => hk) trivial (Below.refl _ _) (Nat.le_refl _) (by simp) ?_; (case hd => rfl); (case hg => rfl); (case hr => first | (go_simp; done) | (go_simp; rfl)); (case hp => exact (Reps.one (show Kd.M (Kd.int .i64) _ _ _ a1_0 [.int .i64 a1_0] from rfl) (Reps.none _ _))); intro v504 w21 ho22 hb hg_ hnew_; clear hg_ hnew_; (first | rw [← Ny503.out] at ho22 | (simp only [Int.reduceToNat] at ho22; rw [← Ny503.out] at ho22)); have HO505 := Aside0.mk (Kd.R_lower ho22 (below_size (hb2_ HB.out GE501.out GE502.out))); replace BK501 := BK501.bb hb; replace BK502 := BK502.bb hb; replace HB := HB.s2 GE501 GE502 hb; clear hb ho22; obtain ⟨Ao23, co23, eo23⟩ := Kd.R_slice HO505.out; subst eo23) | (refine gl_ 9 Try.func24 #[.agg #[.int .i64 a0_0, .int .i64 a0_1, .int .i64 a0_2], .slice Ao23 y503.length co23] ?_; (with_reducible refine (impl_isIn.calls a0_0 a0_1 a0_2 _ _ y503 false _ ?side1 ?side2 A3.out).mono ?_); (case side1 => repeat (first | exact (Kd.R_reads' HO505.out).2.2 | (with_reducible refine Kd.C_alloc ?_ _) | (with_reducible refine Kd.C_drewN ?_ _) | (with_reducible refine Kd.C_drew ?_))); (case side2 => exact (Kd.R_reads' HO505.out).2.1); rintro e w24 ⟨rfl, hb⟩; refine ⟨_, rfl, ?_⟩; replace HO505 := HO505.kb hb; replace BK501 := BK501.bb hb; replace BK502 := BK502.bb hb; replace HB := HB.s2 GE501 GE502 hb; (try clear hb)))
  go_ret
  exact ⟨ex_, hb2_ HB.out GE501.out GE502.out⟩

end Go.Proofs.Ytjepgkbaoahjgaa.X
