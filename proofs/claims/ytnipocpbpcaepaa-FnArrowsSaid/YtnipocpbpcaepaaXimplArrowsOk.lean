-- Written by a program of this session (xprint.py), out of the translation and of hand-written contracts. Lean checks it.
import Derived.Test.YtnipocpbpcaepaaX0
import Derived.Test.YtnipocpbpcaepaaXcgrid
import Derived.Test.YtnipocpbpcaepaaXchof
import Derived.Test.YtnipocpbpcaepaaXcnbr
namespace Go.Proofs.Ytnipocpbpcaepaa.X
open Go.RowKit Go.Proofs.YtnipocpbpcaepaaW.PrintWords Go.Proofs.YtnipocpbpcaepaaW.PrintLast Go.Proofs.YtnipocpbpcaepaaW.PrintMore
attribute [local go_sem] max2_int min2_int max_two min_two max_three min_three max_four min_four   -- for this text's walks alone
set_option linter.unusedVariables false
set_option linter.unusedSimpArgs false

/-! ### impl_ArrowsOk: function 20 (by hand) -/
set_option maxHeartbeats 1000000 in
theorem impl_ArrowsOk_1.calls (k gb cb : Nat) (g0 g1 c d r : Int) (w : World) (hn : impl_Neighbor.f k g0 g1 c d = some r) (hg : w.heap[gb]? = some (.cells #[.int .i64 g0, .int .i64 g1] 28 (0, 0))) (hc : w.heap[cb]? = some (.cells #[.int .i64 c] 3 (0, 0))) :
  Calls Try.prog 36 #[.int .i64 d, .pointer (some ⟨gb, 0, none⟩), .pointer (some ⟨cb, 0, none⟩)] w fun e w' => e = .returned (.bool (decide (r < 0))) ∧ Below w.heap.size w w' := by
 have hu := Try.underlying28
 obtain ⟨z0, z1⟩ := cz2_ hg
 have z2 := (blk_cell hc 0).trans rfl
 go_enter Try.func36, Try.ntmps36
 go_wp2_with (go_at_call 37; refine (impl_Neighbor.calls k g0 g1 c d r _ hn).mono ?_; rintro e w' ⟨rfl, hb⟩)
 go_ret
 exact ⟨rfl, hb⟩
def aok.all (k : Nat) (g0 g1 : Int) (c : Int) (l : List Int) : Bool := l.all fun d => (impl_Neighbor.f k g0 g1 c d).isSome
def aok.bad (k : Nat) (g0 g1 : Int) (c : Int) (l : List Int) : Bool := l.any fun d => decide ((impl_Neighbor.f k g0 g1 c d).getD 0 < 0)
def aok.l0 : Nat → Int → Int → List (List Int) → Int → Option Bool
 | 0, _, _, _, _ => none
 | k + 1, g0, g1, l, c => if c < (l.length : Int) then (if (60 : Int) < ((rd_L1 l c).length : Int) then some false else (if aok.all k g0 g1 c (rd_L1 l c) = true then (if aok.bad k g0 g1 c (rd_L1 l c) = true then some false else aok.l0 k g0 g1 l (wrap64 (c + 1))) else none)) else some true
def aok.head (g0 g1 : Int) (l : List (List Int)) : Option Bool := (impl_GridOk.f g0 g1).bind fun t => if t = true then ((impl_CountCells.f g0 g1).bind fun n => if (l.length : Int) = n then (if 0 < l.length then some (decide (((rd_L1 l 0).length : Int) > 0)) else none) else some true) else some true
def impl_ArrowsOk.f (k : Nat) (g0 g1 : Int) (l : List (List Int)) : Option Bool := (aok.head g0 g1 l).bind fun b => if b = true then some false else aok.l0 k g0 g1 l 0
theorem aok.more {k : Nat} {g0 g1 c d : Int} (z : (impl_Neighbor.f k g0 g1 c d).isSome = true) : impl_Neighbor.f (k + 1) g0 g1 c d = impl_Neighbor.f k g0 g1 c d := by
 obtain ⟨r, hr⟩ := Option.isSome_iff_exists.1 z
 rw [hr]
 exact impl_Neighbor.mono _ _ _ _ _ r hr
theorem aok.all_more {k : Nat} {g0 g1 c : Int} {l : List Int} (h : aok.all k g0 g1 c l = true) : aok.all (k + 1) g0 g1 c l = true ∧ aok.bad (k + 1) g0 g1 c l = aok.bad k g0 g1 c l := by
 unfold aok.all aok.bad at *
 rw [List.all_eq_true] at h ⊢
 refine ⟨fun x hx => ?_, ?_⟩
 ·rw [aok.more (h x hx)]
  exact h x hx
 ·induction l with
  | nil => rfl
  | cons y t ih =>
   rw [List.any_cons, List.any_cons, aok.more (h y (List.mem_cons_self ..)), ih (fun x hx => h x (List.mem_cons_of_mem _ hx))]
theorem aok.mono : ∀ (k : Nat) (g0 g1 : Int) (l : List (List Int)) (c : Int), LeO (aok.l0 k g0 g1 l c) (aok.l0 (k + 1) g0 g1 l c)
 | 0, _, _, _, _ => fun r h => by simp [aok.l0] at h
 | k + 1, g0, g1, l, c => by
  have ih := aok.mono k
  rw [aok.l0, aok.l0]
  refine LeO.ite (LeO.ite (LeO.refl _) ?_) (LeO.refl _)
  intro r h
  by_cases q : aok.all k g0 g1 c (rd_L1 l c) = true
  ·rw [if_pos q] at h
   obtain ⟨q1, q2⟩ := aok.all_more q
   rw [if_pos q1, q2]
   revert h
   exact (LeO.ite (LeO.refl _) (ih _ _ _ _)) r
  ·rw [if_neg q] at h
   cases h
theorem impl_ArrowsOk.mono : ∀ (g0 g1 : Int) (l : List (List Int)) (k : Nat), LeO (impl_ArrowsOk.f k g0 g1 l) (impl_ArrowsOk.f (k + 1) g0 g1 l) := fun g0 g1 l k => by
 unfold impl_ArrowsOk.f
 exact LeO.bind (LeO.refl _) (fun b => LeO.ite (LeO.refl _) (aok.mono _ _ _ _ _))
set_option maxHeartbeats 8000000 in
set_option maxRecDepth 100000 in
theorem impl_ArrowsOk.calls (k : Nat) (g0 g1 : Int) (A1 : Option Addr) (c1 : Nat) (l1 : List (List Int)) (r : Bool) (w : World) (hr1 : Kd.C (Kd.slice 3 (Kd.int .i64)) w A1 l1.length l1) (hc1 : l1.length ≤ c1) (h : impl_ArrowsOk.f k g0 g1 l1 = some r) :
  Calls Try.prog 20 #[.agg #[.int .i64 g0, .int .i64 g1], .slice A1 l1.length c1] w fun e w' => e = .returned (.bool r) ∧ Below w.heap.size w w' := by
 have hu1 := Try.underlying28
 have hu2 := Try.underlying24
 have hu3 := Try.underlying25
 have eg : ∀ args w, (callFunc 36 args).run Try.prog w = .ok (.enter 36 args) w := enters_of Try.func36 (by kernel_rfl) rfl
 have HR1 := Aside0.mk hr1
 have HC1 := Aside0.mk hc1
 have HB := Aside0.mk (Below.refl w.heap.size w)
 unfold impl_ArrowsOk.f at h
 obtain ⟨b, hh, h⟩ := Option.bind_eq_some_iff.mp h
 have HH := Aside0.mk hh
 have HE := Aside0.mk h
 clear hr1 hc1 h hh
 go_enter Try.func20, Try.ntmps20
 go_upto_region 1 with ((with_reducible refine gw_ ?_); first | (refine box_ (N := 2) (cs := #[.int .i64 g0, .int .i64 g1]) (t := 28) ?_; intro gb hg w4 hbox hb; have BK := Aside0.mk hbox; have GE := HB.g0 hg; replace HB := HB.s0 hb; clear hb hbox hg))
 (try simp only [Act.put, List.setIfInBounds_toArray, List.set_cons_zero, List.set_cons_succ])
 go_cut [23] (fun v23 wc => v23 = .bool b ∧ Aside0 (wc.heap[gb]? = some (.cells #[.int .i64 g0, .int .i64 g1] 28 (0, 0))) ∧ Aside0 (Below w.heap.size w wc))
 case first =>
  have H := HH.out
  clear HH
  unfold aok.head at H
  obtain ⟨t, ht, H⟩ := Option.bind_eq_some_iff.mp H
  have A5 := Aside0.mk ht
  clear ht
  obtain ⟨z0, z1⟩ := cz2_ BK.out
  obtain ⟨y0, y1⟩ := fz2_ BK.out
  cases t with
  | false =>
   rw [if_neg (by simp)] at H
   obtain rfl := Option.some.inj H
   clear H
   go_wp2_with ((with_reducible refine gw_ ?_); first | (refine gl_ 8 Try.func34 #[.agg #[.int .i64 g0, .int .i64 g1]] ?_; (with_reducible refine (impl_GridOk.calls g0 g1 false _ A5.out).mono ?_); rintro e w11 ⟨rfl, hb⟩; refine ⟨_, rfl, ?_⟩; replace BK := BK.bb hb; replace HB := HB.s1 GE hb; (try clear hb)))
   go_meet
   case rel => exact ⟨rfl, BK, HB⟩
  | true =>
   rw [if_pos rfl] at H
   obtain ⟨n, hn, H⟩ := Option.bind_eq_some_iff.mp H
   have A7 := Aside0.mk hn
   clear hn
   by_cases d1 : (l1.length : Int) = n
   ·rw [if_pos d1] at H
    have c8b0 : ((l1.length : Int) == n) = true := beq_iff_eq.mpr d1
    have c8b1 : ((l1.length : Int) != n) = false := bne_eq_false_iff_eq.mpr d1
    by_cases d2 : 0 < l1.length
    ·rw [if_pos d2] at H
     obtain rfl := Option.some.inj H
     have D2 := Aside0.mk d2
     clear d1 d2 H
     go_wp2_with (first | (refine gl_ 8 Try.func34 #[.agg #[.int .i64 g0, .int .i64 g1]] ?_; (with_reducible refine (impl_GridOk.calls g0 g1 true _ A5.out).mono ?_); rintro e w11 ⟨rfl, hb⟩; refine ⟨_, rfl, ?_⟩; replace BK := BK.bb hb; replace HB := HB.s1 GE hb; (try clear hb); obtain ⟨z2, z3⟩ := cz2_ BK.out; obtain ⟨y2, y3⟩ := fz2_ BK.out) | (go_at_call 33; (with_reducible refine (impl_CountCells.calls g0 g1 n _ A7.out).mono ?_); rintro e w13 ⟨rfl, hb⟩; replace BK := BK.bb hb; replace HB := HB.s1 GE hb; (try clear hb); have p504 : 0 ≤ (0 : Int) := (by omega); have q504 : 0 < (l1.length : Int) := (by have := D2.out; omega); obtain ⟨ad504, A504_0, c504_0, e504, hx504_0, hl504_0, hi504_0⟩ := at_L1 HR1.out 0 p504 q504; cases e504; have qi504 : (0 < l1.length) = True := eq_true D2.out; (try rw [show ((0 : Int)).toNat = 0 from rfl] at hx504_0); (try rw [Addr.add_zero'] at hx504_0); replace hx504_0 := (HB.out.cell (World.block_lt_of_cell? w _ hx504_0)).trans hx504_0; clear hi504_0 hl504_0; replace p504 := eq_true p504; replace q504 := eq_true q504))
     go_meet
     case rel => exact ⟨by first | rfl | (simp; done) | (simp [*]; done), BK, HB⟩
    ·rw [if_neg d2] at H
     cases H
   ·rw [if_neg d1] at H
    obtain rfl := Option.some.inj H
    have c8b0 : ((l1.length : Int) == n) = false := beq_eq_false_iff_ne.mpr d1
    have c8b1 : ((l1.length : Int) != n) = true := bne_iff_ne.mpr d1
    clear d1 H
    go_wp2_with (first | (refine gl_ 8 Try.func34 #[.agg #[.int .i64 g0, .int .i64 g1]] ?_; (with_reducible refine (impl_GridOk.calls g0 g1 true _ A5.out).mono ?_); rintro e w11 ⟨rfl, hb⟩; refine ⟨_, rfl, ?_⟩; replace BK := BK.bb hb; replace HB := HB.s1 GE hb; (try clear hb); obtain ⟨z2, z3⟩ := cz2_ BK.out; obtain ⟨y2, y3⟩ := fz2_ BK.out) | (go_at_call 33; (with_reducible refine (impl_CountCells.calls g0 g1 n _ A7.out).mono ?_); rintro e w13 ⟨rfl, hb⟩; replace BK := BK.bb hb; replace HB := HB.s1 GE hb; (try clear hb)))
    go_meet
    case rel => exact ⟨by first | rfl | (simp; done) | (simp [*]; done), BK, HB⟩
 case rest =>
  clear HH BK HB
  obtain ⟨rfl, BK, HB⟩ := hcut
  cases b with
  | true =>
   have H := HE.out
   rw [if_pos rfl] at H
   obtain rfl := Option.some.inj H
   clear H
   go_wp2
   go_ret
   exact ⟨rfl, HB.out⟩
  | false =>
   have H := HE.out
   rw [if_neg (by simp)] at H
   have H' := Aside0.mk H
   clear H HE
   go_wp2_with (fail)
   go_loopg [26] k (fun kq s26 w' => ∃ (c : Int), s26 = .int .i64 c ∧ Aside0 (aok.l0 kq g0 g1 l1 c = some r) ∧ Aside0 (kq ≤ k) ∧ Aside0 (0 ≤ c) ∧ Aside0 (w'.heap[gb]? = some (.cells #[.int .i64 g0, .int .i64 g1] 28 (0, 0))) ∧ Aside0 (Below w.heap.size w w'))
   case atStart => exact ⟨0, rfl, H', ⟨Nat.le_refl _⟩, ⟨Int.le_refl _⟩, BK, HB⟩
   case round =>
    clear H' BK HB
    obtain ⟨c, rfl, HA, HK, HJ, BK, HB⟩ := hrel
    cases gk with
    | zero => exact absurd HA.out (by simp [aok.l0])
    | succ k1 =>
     have H := HA.out
     clear HA
     simp only [aok.l0] at H
     by_cases d0 : c < (l1.length : Int)
     ·rw [if_pos d0] at H
      have d0b : decide (c < (l1.length : Int)) = true := decide_eq_true d0
      obtain ⟨ad, A2, c2, hA1, hr, hr2, hr3⟩ := at_L1 (Kd.C_below HR1.out HB.out) c HJ.out d0
      subst hA1
      have D0 := Aside0.mk d0
      have HR2 := Aside0.mk hr2
      have HR3 := Aside0.mk hr3
      have HX := Aside0.mk hr
      have p0 := eq_true HJ.out
      have p1 := eq_true d0
      clear d0 hr2 hr3
      by_cases d1 : (60 : Int) < ((rd_L1 l1 c).length : Int)
      ·rw [if_pos d1] at H
       obtain rfl := Option.some.inj H
       have d1b : decide (((rd_L1 l1 c).length : Int) > 60) = true := decide_eq_true d1
       clear d1 H
       go_wp2_with ((with_reducible refine gw_ ?_); first | (refine box_ (N := 5) (cs := #[.int .i64 0]) (t := 3) ?_; intro cb hg w5 hbox hb; have BC := Aside0.mk hbox; have GC := Aside0.mk (show w.heap.size ≤ cb from by rw [hg]; exact HB.out.size); replace BK := BK.bb hb; replace HB := Aside0.mk (below_step HB.out hb); clear hb hbox hg; have z2 : w5.cell? ⟨cb, 0, none⟩ = some (.int .i64 0) := BC.c 0; have y2 := blk_frozen BC.out 0))
       go_ret
       exact ⟨rfl, below_set HB.out GC.out⟩
      ·rw [if_neg d1] at H
       have d1b : decide (((rd_L1 l1 c).length : Int) > 60) = false := decide_eq_false d1
       clear d1
       by_cases d2 : aok.all k1 g0 g1 c (rd_L1 l1 c) = true
       ·rw [if_pos d2] at H
        have D2 := Aside0.mk d2
        have HE := Aside0.mk H
        clear d2 H
        go_wp2_with (first | (refine box_ (N := 5) (cs := #[.int .i64 0]) (t := 3) ?_; intro cb hg w5 hbox hb; have BC := Aside0.mk hbox; have GC := Aside0.mk (show w.heap.size ≤ cb from by rw [hg]; exact HB.out.size); have NE := Aside0.mk (show gb ≠ cb from by rw [hg]; exact Nat.ne_of_lt (blk_lt BK.out)); have HBB := Aside0.mk hb; have GCE := Aside0.mk hg; replace BK := BK.bb hb; replace HB := Aside0.mk (below_step HB.out hb); clear hb hbox hg; have z2 : w5.cell? ⟨cb, 0, none⟩ = some (.int .i64 0) := BC.c 0; have y2 := blk_frozen BC.out 0) | (go_at_call 35; refine (slices_ContainsFunc.gen (fun d => decide ((impl_Neighbor.f k1 g0 g1 c d).getD 0 < 0)) 36 _ eg A2 c2 (rd_L1 l1 c) _ ?c1 ?c2).mono ?c3))
        case c1 => exact Kd.C_below HR3.out (below_set HBB.out (by rw [GCE.out]; exact Nat.le_refl _))
        case c2 =>
         intro W d hW hd
         have b0 := blk_far (g := gb) BK.out NE.out (p := ⟨cb, 0, none⟩) (.int .i64 c)
         have b1 := blk_put BC.out 0 (.int .i64 c) rfl
         obtain ⟨v, hv⟩ := Option.isSome_iff_exists.1 (List.all_eq_true.1 D2.out d hd)
         refine (impl_ArrowsOk_1.calls k1 gb cb g0 g1 c d v W hv (blk_below b0 hW) (blk_below b1 hW)).mono ?_
         rintro e w' ⟨rfl, hb⟩
         exact ⟨by rw [hv]; rfl, below_step hW hb⟩
        case c3 =>
         rintro e w2 ⟨rfl, hb2⟩
         have HB2 := Aside0.mk (below_step (below_set HB.out GC.out (j := 0) (v := .int .i64 c)) hb2)
         have BK2 := Aside0.mk (blk_below (blk_far (g := gb) BK.out NE.out (p := ⟨cb, 0, none⟩) (.int .i64 c)) hb2)
         have H := HE.out
         clear HE HB BK BC HBB GCE hb2 hr
         by_cases d3 : aok.bad k1 g0 g1 c (rd_L1 l1 c) = true
         ·rw [if_pos d3] at H
          obtain rfl := Option.some.inj H
          have d3b : ((rd_L1 l1 c).any fun d => decide ((impl_Neighbor.f k1 g0 g1 c d).getD 0 < 0)) = true := d3
          clear H
          rw [d3b]
          go_wp2
          go_ret
          exact ⟨rfl, HB2.out⟩
         ·rw [if_neg d3] at H
          have d3b : ((rd_L1 l1 c).any fun d => decide ((impl_Neighbor.f k1 g0 g1 c d).getD 0 < 0)) = false := by
           have : aok.bad k1 g0 g1 c (rd_L1 l1 c) = false := by simpa using d3
           exact this
          have H2 := Aside0.mk H
          have hmx := Kd.C_max HR1.out
          have hj := HJ.out
          have hl := D0.out
          have HJ2 : Aside0 (0 ≤ wrap64 (c + 1)) := ⟨by unfold wrap64; omega⟩
          clear H d3 hmx hj hl
          rw [d3b]
          go_wp2
          go_roundg k1
          case measure => exact Nat.lt_succ_self _
          case rel => exact ⟨wrap64 (c + 1), rfl, H2, ⟨Nat.le_of_succ_le HK.out⟩, HJ2, BK2, HB2⟩
       ·rw [if_neg d2] at H
        cases H
     ·rw [if_neg d0] at H
      obtain rfl := Option.some.inj H
      have d0b : decide (c < (l1.length : Int)) = false := decide_eq_false d0
      clear d0 H
      go_wp2
      go_ret
      exact ⟨rfl, HB.out⟩

end Go.Proofs.Ytnipocpbpcaepaa.X
