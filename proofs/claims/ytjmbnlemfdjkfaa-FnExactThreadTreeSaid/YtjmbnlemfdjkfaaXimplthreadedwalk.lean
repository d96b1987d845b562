-- Written by a program of this session (xprint.py), out of the translation and of hand-written contracts. Lean checks it.
import Derived.Test.YtjmbnlemfdjkfaaX0
import Derived.Test.YtjmbnlemfdjkfaaXcstep
namespace Go.Proofs.Ytjmbnlemfdjkfaa.X
open Go.RowKit Go.Proofs.YtjmbnlemfdjkfaaW.PrintWords Go.Proofs.YtjmbnlemfdjkfaaW.PrintLast Go.Proofs.YtjmbnlemfdjkfaaW.PrintMore
attribute [local go_sem] max2_int min2_int max_two min_two max_three min_three max_four min_four   -- for this text's walks alone
set_option linter.unusedVariables false
set_option linter.unusedSimpArgs false

/-! ### impl_threaded_walk: function 50 (by hand) -/
/-- The state of a walk with a thread, in memory: a block with a row of its own, a row that is written in place, and a number. -/
structure TS (w0 W : World) (g gf cf : Nat) (vc : Value) (cs fr : List Int) (mo : Int) : Prop where
 blk : W.heap[g]? = some (.cells #[vc, .slice (some ⟨gf, 0, none⟩) fr.length cf, .int .i64 mo] 59 (0, 0))
 cel : Kd.R (Kd.int .i64) 3 W w0.heap.size (fun k => k ≠ g ∧ k ≠ gf) vc cs
 frm : Kd.R (Kd.int .i64) 3 W w0.heap.size (fun k => k = gf) (.slice (some ⟨gf, 0, none⟩) fr.length cf) fr
 ge : w0.heap.size ≤ g
 fge : w0.heap.size ≤ gf
 lt : gf < W.heap.size
 ne : g ≠ gf
 bel : Below w0.heap.size w0 W
theorem TS.below {w0 W W' : World} {g gf cf : Nat} {vc : Value} {cs fr : List Int} {mo : Int} (h : TS w0 W g gf cf vc cs fr mo) (hb : Below W.heap.size W W') : TS w0 W' g gf cf vc cs fr mo :=
 ⟨blk_below h.blk hb, Kd.R_below h.cel hb, Kd.R_below h.frm hb, h.ge, h.fge, Nat.lt_of_lt_of_le h.lt hb.size, h.ne, below_step h.bel hb⟩
theorem TS.most {w0 W : World} {g gf cf : Nat} {vc : Value} {cs fr : List Int} {mo : Int} (h : TS w0 W g gf cf vc cs fr mo) (m : Int) : TS w0 (W.setCell ⟨g, 2, none⟩ (.int .i64 m)) g gf cf vc cs fr m :=
 ⟨blk_put (cs := #[vc, .slice (some ⟨gf, 0, none⟩) fr.length cf, .int .i64 mo]) h.blk 2 _ rfl, Kd.R_far (p := ⟨g, 2, none⟩) h.cel (fun k hk => hk.1) _, Kd.R_far (p := ⟨g, 2, none⟩) h.frm (fun k hk => by rw [hk]; exact fun z => h.ne z.symm) _, h.ge, h.fge, by have := h.lt; simpa [World.setCell] using this, h.ne, below_set h.bel h.ge⟩
theorem TS.put {w0 W : World} {g gf cf : Nat} {vc : Value} {cs fr : List Int} {mo : Int} (h : TS w0 W g gf cf vc cs fr mo) (i v : Int) : TS w0 (W.setCell ⟨gf, i.toNat, none⟩ (.int .i64 v)) g gf cf vc cs (fr.set i.toNat v) mo := by
 refine ⟨?_, Kd.R_far (p := ⟨gf, i.toNat, none⟩) h.cel (fun k hk => hk.2) _, ?_, h.ge, h.fge, by have := h.lt; simpa [World.setCell] using this, h.ne, below_set h.bel h.fge⟩
 ·rw [List.length_set]
  exact blk_far h.blk h.ne _
 ·have := (Kd.R_putg h.frm i v).1
  rw [List.length_set]
  exact this
theorem TS.app {w0 W W1 : World} {g gf cf : Nat} {vc v1 : Value} {cs fr cs1 : List Int} {mo : Int} (h : TS w0 W g gf cf vc cs fr mo) (ho : Kd.R (Kd.int .i64) 3 W1 w0.heap.size (fun k => k ≠ g ∧ k ≠ gf) v1 cs1) (hb : Below w0.heap.size w0 W1) (hg : W.grownBy W1 vc.ownBlock) :
  TS w0 (W1.setCell ⟨g, 0, none⟩ v1) g gf cf v1 cs1 fr mo := by
 have n1 : some g ≠ vc.ownBlock := fun z => (h.cel.1 g z.symm).1 rfl
 have n2 : some gf ≠ vc.ownBlock := fun z => (h.cel.1 gf z.symm).2 rfl
 have b1 := (hg.block g (blk_lt h.blk) n1).trans h.blk
 refine ⟨blk_put (cs := #[vc, .slice (some ⟨gf, 0, none⟩) fr.length cf, .int .i64 mo]) b1 0 _ rfl, Kd.R_far (p := ⟨g, 0, none⟩) ho (fun k hk => hk.1) _, Kd.R_far (p := ⟨g, 0, none⟩) (Kd.R_step h.frm (fun k hk hl => by subst hk; exact hg.block _ hl n2)) (fun k hk => by rw [hk]; exact fun z => h.ne z.symm) _, h.ge, h.fge, ?_, h.ne, below_set hb h.ge⟩
 have := Nat.lt_of_lt_of_le h.lt hg.size
 simpa [World.setCell] using this
/-- What was there stays, but for the blocks of the state. -/
structure Keeps (w w' : World) (g gf : Nat) (vc vc' : Value) : Prop where
 old : ∀ j, j < w.heap.size → j ≠ g → j ≠ gf → some j ≠ vc.ownBlock → w'.heap[j]? = w.heap[j]?
 own : vc'.ownBlock = vc.ownBlock ∨ ∃ b, vc'.ownBlock = some b ∧ w.heap.size ≤ b
 size : w.heap.size ≤ w'.heap.size
theorem Keeps.refl (w : World) (g gf : Nat) (vc : Value) : Keeps w w g gf vc vc := ⟨fun _ _ _ _ _ => rfl, .inl rfl, Nat.le_refl _⟩
theorem Keeps.trans {w w1 w2 : World} {g gf : Nat} {v v1 v2 : Value} (h : Keeps w w1 g gf v v1) (k : Keeps w1 w2 g gf v1 v2) : Keeps w w2 g gf v v2 := by
 refine ⟨fun j hj a b c => ?_, ?_, Nat.le_trans h.size k.size⟩
 ·refine (k.old j (Nat.lt_of_lt_of_le hj h.size) a b fun z => ?_).trans (h.old j hj a b c)
  rcases h.own with e | ⟨q, e, hq⟩
  ·exact c (z.trans e)
  ·rw [e] at z
   injection z with z
   omega
 ·rcases k.own with e | ⟨q, e, hq⟩
  ·rw [e]; exact h.own
  ·exact .inr ⟨q, e, Nat.le_trans h.size hq⟩
theorem Keeps.below {w w1 w2 : World} {g gf : Nat} {v v1 : Value} (h : Keeps w w1 g gf v v1) (hb : Below w1.heap.size w1 w2) : Keeps w w2 g gf v v1 := h.trans ⟨fun j hj _ _ _ => hb.block j hj, .inl rfl, hb.size⟩
theorem Keeps.setg {w w1 : World} {g gf : Nat} {v v1 : Value} (h : Keeps w w1 g gf v v1) (i : Nat) (u : Value) : Keeps w (w1.setCell ⟨g, i, none⟩ u) g gf v v1 := h.trans ⟨fun j hj a _ _ => Below.heap_setCell w1 ⟨g, i, none⟩ u j a, .inl rfl, by simp [World.setCell]⟩
theorem Keeps.setf {w w1 : World} {g gf : Nat} {v v1 : Value} (h : Keeps w w1 g gf v v1) (i : Nat) (u : Value) : Keeps w (w1.setCell ⟨gf, i, none⟩ u) g gf v v1 := h.trans ⟨fun j hj _ b _ => Below.heap_setCell w1 ⟨gf, i, none⟩ u j b, .inl rfl, by simp [World.setCell]⟩
theorem Keeps.app {w w1 w2 : World} {g gf : Nat} {v v1 v2 : Value} (h : Keeps w w1 g gf v v1) (hg : w1.grownBy w2 v1.ownBlock) (hat : v2.ownBlock = v1.ownBlock ∨ ∃ b, v2.ownBlock = some b ∧ w1.heap.size ≤ b) : Keeps w w2 g gf v v2 := h.trans ⟨fun j hj _ _ c => hg.block j hj c, hat, hg.size⟩
def thr.l0 : Nat → Int → Int → Int → Int → Int → Int → Int → List Int → List Int → Int → Option (List Int × List Int × Int)
 | 0, _, _, _, _, _, _, _, _, _, _ => none
 | k + 1, m0, m1, m2, st, c, len, d, cs, fr, mo => if d ≤ 3 then ((impl_Step.f k m0 m1 m2 c d).bind fun n => if n < 0 then thr.l0 k m0 m1 m2 st c len (wrap64 (d + 1)) cs fr mo else (if n = st then thr.l0 k m0 m1 m2 st c len (wrap64 (d + 1)) cs fr mo else (if n < (fr.length : Int) then (if rd fr n ≥ 0 then thr.l0 k m0 m1 m2 st c len (wrap64 (d + 1)) cs fr mo else (if cs.length < 17592186044415 then ((thr.l0 k m0 m1 m2 st n (wrap64 (len + 1)) 0 (cs ++ [n]) (fr.set n.toNat c) (mx mo (wrap64 (len + 1)))).bind fun R => if R.1.length < 17592186044415 then thr.l0 k m0 m1 m2 st c len (wrap64 (d + 1)) (R.1 ++ [c]) R.2.1 R.2.2 else none) else none)) else none))) else some (cs, fr, mo)
theorem thr.mono : ∀ (k : Nat) (m0 m1 m2 st c len d : Int) (cs fr : List Int) (mo : Int), LeO (thr.l0 k m0 m1 m2 st c len d cs fr mo) (thr.l0 (k + 1) m0 m1 m2 st c len d cs fr mo)
 | 0, _, _, _, _, _, _, _, _, _, _ => fun r h => by simp [thr.l0] at h
 | k + 1, m0, m1, m2, st, c, len, d, cs, fr, mo => by
  have ih := thr.mono k
  unfold thr.l0
  refine LeO.ite (LeO.bind (impl_Step.mono _ _ _ _ _ _) (fun n => LeO.ite (ih _ _ _ _ _ _ _ _ _ _) (LeO.ite (ih _ _ _ _ _ _ _ _ _ _) (LeO.ite (LeO.ite (ih _ _ _ _ _ _ _ _ _ _) (LeO.ite (LeO.bind (ih _ _ _ _ _ _ _ _ _ _) (fun R => LeO.ite (ih _ _ _ _ _ _ _ _ _ _) (LeO.refl _))) (LeO.refl _))) (LeO.refl _))))) (LeO.refl _)
set_option maxHeartbeats 8000000 in
set_option maxRecDepth 100000 in
theorem threaded_walk.calls (k : Nat) : ∀ (g gf cf : Nat) (m0 m1 m2 st c len : Int) (vc : Value) (cs fr : List Int) (mo : Int) (R : List Int × List Int × Int) (w0 w : World) (hS : TS w0 w g gf cf vc cs fr mo) (h : thr.l0 k m0 m1 m2 st c len 0 cs fr (mx mo len) = some R),
  Calls Try.prog 50 #[.pointer (some ⟨g, 0, none⟩), .agg #[.int .i64 m0, .int .i64 m1, .int .i64 m2], .int .i64 st, .int .i64 c, .int .i64 len] w fun e w' => ∃ v vc', e = .returned v ∧ TS w0 w' g gf cf vc' R.1 R.2.1 R.2.2 ∧ Keeps w w' g gf vc vc' := by
 induction k using Nat.strongRecOn with
 | _ k ih =>
 intro g gf cf m0 m1 m2 st c len vc cs fr mo R w0 w hS h
 have HTS := Aside0.mk hS
 obtain ⟨mm, hmm⟩ : ∃ j : Int, mx mo len = j := ⟨_, rfl⟩
 rw [hmm] at h
 have hmm_ : (if mo < len then len else mo) = mm := hmm
 have H' := Aside0.mk h
 clear hS h hmm
 have hu1 := Try.underlying28
 have hu2 := Try.underlying59
 have IH := Aside0.mk ih
 clear ih
 have KP := Aside0.mk (Keeps.refl w g gf vc)
 go_enter Try.func50, Try.ntmps50
 go_upto_region 1 with (refine box_ (N := 6) (cs := #[.int .i64 m0, .int .i64 m1, .int .i64 m2]) (t := 28) ?_; intro gb hg w5 hbox hb; have BKm := Aside0.mk hbox; have NEg : gb ≠ g := (by rw [hg]; exact Nat.ne_of_gt (blk_lt HTS.out.blk)); have NEf : gb ≠ gf := (by rw [hg]; exact Nat.ne_of_gt HTS.out.lt); have NG := Aside0.mk NEg; have NF := Aside0.mk NEf; replace HTS := Aside0.mk (HTS.out.below hb); replace KP := Aside0.mk (KP.out.below hb); clear hb hbox hg NEg NEf)
 obtain ⟨z0, z1, z2⟩ := cz3_ HTS.out.blk
 obtain ⟨f0, f1, f2⟩ := fz3_ HTS.out.blk
 go_upto_region 2 with ((with_reducible refine gate_store (t := 3) (p := 20) rfl ?_); refine store_event (t := 3) (p := 20) (v := ?vo1) (w1 := (w5.setCell ⟨g, 2, none⟩ (.int .i64 mm))) ?hg ?ho ?hn ?hr ?_; (case ho => rfl); (case hg => rfl); (case hn => rfl); (case hr => first | (go_simp; done) | (go_simp; rfl)); intro w6 hw; replace HTS := Aside0.mk (by rw [hw]; exact HTS.out.most mm : TS w0 w6 g gf cf vc cs fr mm); replace BKm := Aside0.mk (by rw [hw]; exact blk_far BKm.out NG.out _ : w6.heap[gb]? = some (.cells #[.int .i64 m0, .int .i64 m1, .int .i64 m2] 28 (0, 0))); replace KP := Aside0.mk (by rw [hw]; exact KP.out.setg 2 _ : Keeps w w6 g gf vc vc); clear hw)
 clear z0 z1 z2 f0 f1 f2 hmm_
 go_wp2
 go_loopg [10] k (fun kq v10 w' => ∃ (d : Int) (vc' : Value) (cs' fr' : List Int) (mo' : Int), v10 = .int .i64 d ∧ Aside0 (thr.l0 kq m0 m1 m2 st c len d cs' fr' mo' = some R) ∧ Aside0 (kq ≤ k) ∧ Aside0 (TS w0 w' g gf cf vc' cs' fr' mo') ∧ Aside0 (w'.heap[gb]? = some (.cells #[.int .i64 m0, .int .i64 m1, .int .i64 m2] 28 (0, 0))) ∧ Aside0 (Keeps w w' g gf vc vc'))
 case atStart => exact ⟨0, vc, cs, fr, mm, (by first | rfl | (simp; done) | (simp [*]; done)), H', ⟨Nat.le_refl _⟩, HTS, BKm, KP⟩
 case round =>
  clear H' HTS BKm KP
  obtain ⟨d, vc', cs', fr', mo', rfl, HA, HK, HTS, BKm, KP⟩ := hrel
  cases gk with
  | zero => exact absurd HA.out (by simp [thr.l0])
  | succ k1 =>
   have H := HA.out
   clear HA
   simp only [thr.l0] at H
   by_cases c1 : d ≤ 3
   ·rw [if_pos c1] at H
    have c1b : decide (d ≤ 3) = true := decide_eq_true c1
    clear c1
    obtain ⟨n, hn, H⟩ := Option.bind_eq_some_iff.mp H
    have AN := Aside0.mk hn
    clear hn
    obtain ⟨m_0, m_1, m_2⟩ := cz3_ BKm.out
    by_cases c2 : n < 0
    ·rw [if_pos c2] at H
     have c2b : decide (n < 0) = true := decide_eq_true c2
     have H' := Aside0.mk H
     clear c2 H
     go_wp2_with (go_at_call 70; refine (impl_Step.calls k1 m0 m1 m2 c d n _ AN.out).mono ?_; rintro e w7 ⟨rfl, hb⟩; replace BKm := BKm.bb hb; replace HTS := Aside0.mk (HTS.out.below hb); replace KP := Aside0.mk (KP.out.below hb); clear hb)
     go_roundg k1
     case measure => have := HK.out; omega
     case rel => exact ⟨wrap64 (d + 1), vc', cs', fr', mo', (by first | rfl | (simp; done) | (simp [*]; done)), H', ⟨by have := HK.out; omega⟩, HTS, BKm, KP⟩
    ·rw [if_neg c2] at H
     have c2b : decide (n < 0) = false := decide_eq_false c2
     by_cases c3 : n = st
     ·rw [if_pos c3] at H
      have c3b : (n == st) = true := beq_iff_eq.mpr c3
      have H' := Aside0.mk H
      clear c2 c3 H
      go_wp2_with (go_at_call 70; refine (impl_Step.calls k1 m0 m1 m2 c d n _ AN.out).mono ?_; rintro e w7 ⟨rfl, hb⟩; replace BKm := BKm.bb hb; replace HTS := Aside0.mk (HTS.out.below hb); replace KP := Aside0.mk (KP.out.below hb); clear hb)
      go_roundg k1
      case measure => have := HK.out; omega
      case rel => exact ⟨wrap64 (d + 1), vc', cs', fr', mo', (by first | rfl | (simp; done) | (simp [*]; done)), H', ⟨by have := HK.out; omega⟩, HTS, BKm, KP⟩
     ·rw [if_neg c3] at H
      have c3b : (n == st) = false := beq_eq_false_iff_ne.mpr c3
      have n0 : 0 ≤ n := Int.not_lt.mp c2
      clear c2 c3
      by_cases c4 : n < (fr'.length : Int)
      ·rw [if_pos c4] at H
       have RG := Aside0.mk (And.intro n0 c4)
       clear n0 c4
       by_cases c5 : rd fr' n ≥ 0
       ·rw [if_pos c5] at H
        have c5b : decide (0 ≤ rd fr' n) = true := decide_eq_true c5
        have H' := Aside0.mk H
        clear c5 H
        go_wp2_with (go_at_call 70; refine (impl_Step.calls k1 m0 m1 m2 c d n _ AN.out).mono ?_; rintro e w7 ⟨rfl, hb⟩; replace BKm := BKm.bb hb; replace HTS := Aside0.mk (HTS.out.below hb); replace KP := Aside0.mk (KP.out.below hb); clear hb; obtain ⟨t0, t1, t2⟩ := cz3_ HTS.out.blk; obtain ⟨hx0, hf⟩ := Kd.R_celln 0 HTS.out.frm n RG.out.1 RG.out.2; have hx : w7.cell? ⟨gf, n.toNat, none⟩ = some (.int .i64 (rd fr' n)) := hx0; clear hx0; have p0 := eq_true RG.out.1; have p1 := eq_true RG.out.2)
        go_roundg k1
        case measure => have := HK.out; omega
        case rel => exact ⟨wrap64 (d + 1), vc', cs', fr', mo', (by first | rfl | (simp; done) | (simp [*]; done)), H', ⟨by have := HK.out; omega⟩, HTS, BKm, KP⟩
       ·rw [if_neg c5] at H
        have c5b : decide (0 ≤ rd fr' n) = false := decide_eq_false c5
        clear c5
        by_cases c6 : cs'.length < 17592186044415
        ·rw [if_pos c6] at H
         obtain ⟨R1, hR1, H⟩ := Option.bind_eq_some_iff.mp H
         by_cases c7 : R1.1.length < 17592186044415
         ·rw [if_pos c7] at H
          have H' := Aside0.mk H
          have AR := Aside0.mk hR1
          have L6 := Aside0.mk c6
          have L7 := Aside0.mk c7
          clear H hR1 c6 c7
          go_upto_region 7 with (go_at_call 70; refine (impl_Step.calls k1 m0 m1 m2 c d n _ AN.out).mono ?_; rintro e w7 ⟨rfl, hb⟩; replace BKm := BKm.bb hb; replace HTS := Aside0.mk (HTS.out.below hb); replace KP := Aside0.mk (KP.out.below hb); clear hb; obtain ⟨t0, t1, t2⟩ := cz3_ HTS.out.blk; obtain ⟨hx0, hf⟩ := Kd.R_celln 0 HTS.out.frm n RG.out.1 RG.out.2; have hx : w7.cell? ⟨gf, n.toNat, none⟩ = some (.int .i64 (rd fr' n)) := hx0; clear hx0; have p0 := eq_true RG.out.1; have p1 := eq_true RG.out.2)
          go_wp2_with (first | ((with_reducible refine gate_store (t := 3) (p := 52) rfl ?_); refine store_event (t := 3) (p := 52) (v := ?vo2) (w1 := (w7.setCell ⟨gf, n.toNat, none⟩ (.int .i64 c))) ?hg ?ho ?hn ?hr ?_; (case ho => rfl); (case hg => rfl); (case hn => rfl); (case hr => first | (go_simp; done) | (go_simp; rfl)); intro w8 hw; replace HTS := Aside0.mk (by rw [hw]; exact HTS.out.put n c : TS w0 w8 g gf cf vc' cs' (fr'.set n.toNat c) mo'); replace BKm := Aside0.mk (by rw [hw]; exact blk_far BKm.out NF.out _ : w8.heap[gb]? = some (.cells #[.int .i64 m0, .int .i64 m1, .int .i64 m2] 28 (0, 0))); replace KP := Aside0.mk (by rw [hw]; exact KP.out.setf _ _ : Keeps w w8 g gf vc vc'); clear hw; obtain ⟨ta0, ta1, ta2⟩ := cz3_ HTS.out.blk; obtain ⟨fa0, fa1, fa2⟩ := fz3_ HTS.out.blk) | ((with_reducible refine gate_builtin (b := .append) (xs := #[.tmp 57, .tmp 59]) rfl ?_); at_builtin; refine Kd.R_append (Kd.int .i64) (w0 := w0) w0.heap.size rfl (.tmp 57) (.tmp 59) 51 3 (.int .i64 0) 8 rfl Try.underlying51 info3 rfl (by decide) (by omega) vc' cs' n [.int .i64 n] (fun k => k ≠ g ∧ k ≠ gf) (fun _ => False) rfl rfl ?aP (fun _ hk => hk.elim) ?aF ?aO ?aB ?aS ?aL ?_; (case aP => exact rfl); (case aB => exact HTS.out.bel); (case aF => exact (fun k hk => ⟨fun z => by have := blk_lt HTS.out.blk; omega, fun z => by have := HTS.out.lt; omega⟩)); (case aO => exact HTS.out.cel); (case aS => exact HTS.out.bel.size); (case aL => have := L6.out; omega); intro v9 w9 ho hb hg hat; obtain ⟨Ab, cb, eb⟩ := Kd.R_slice ho; subst eb; have APP := Aside0.mk (HTS.out.app ho hb hg); have B9 := Aside0.mk ((hg.block g (blk_lt HTS.out.blk) (fun z => (HTS.out.cel.1 g z.symm).1 rfl)).trans HTS.out.blk); replace BKm := Aside0.mk (blk_grown BKm.out hg (Kd.R_ne HTS.out.cel BKm.out (by decide))); replace KP := Aside0.mk (KP.out.app hg hat); clear ho hb hg hat; obtain ⟨tb0, tb1, tb2⟩ := cz3_ B9.out; obtain ⟨fb0, fb1, fb2⟩ := fz3_ B9.out) | ((with_reducible refine gate_store (t := 51) (p := 62) rfl ?_); refine store_event (t := 51) (p := 62) (v := ?vo3) (w1 := (w9.setCell ⟨g, 0, none⟩ (.slice Ab (cs' ++ [n]).length cb))) ?hg ?ho ?hn ?hr ?_; (case ho => rfl); (case hg => rfl); (case hn => rfl); (case hr => first | (go_simp; done) | (go_simp; rfl)); intro w10 hw; replace HTS := Aside0.mk (by rw [hw]; exact APP.out : TS w0 w10 g gf cf (.slice Ab (cs' ++ [n]).length cb) (cs' ++ [n]) (fr'.set n.toNat c) mo'); replace BKm := Aside0.mk (by rw [hw]; exact blk_far BKm.out NG.out _ : w10.heap[gb]? = some (.cells #[.int .i64 m0, .int .i64 m1, .int .i64 m2] 28 (0, 0))); replace KP := Aside0.mk (by rw [hw]; exact KP.out.setg _ _ : Keeps w w10 g gf vc (.slice Ab (cs' ++ [n]).length cb)); clear hw; clear APP B9; obtain ⟨mm0, mm1, mm2⟩ := cz3_ BKm.out) | (go_at_call 50; refine (IH.out k1 (by have := HK.out; omega) g gf cf m0 m1 m2 st n (wrap64 (len + 1)) (.slice Ab (cs' ++ [n]).length cb) (cs' ++ [n]) (fr'.set n.toNat c) mo' R1 w0 _ HTS.out AR.out).mono ?_; rintro e w11 ⟨vr, vc2, rfl, hT, hK⟩; replace BKm := Aside0.mk ((hK.old gb (blk_lt BKm.out) NG.out NF.out (Kd.R_ne HTS.out.cel BKm.out (by decide))).trans BKm.out); replace HTS := Aside0.mk hT; replace KP := Aside0.mk (KP.out.trans hK); clear hT hK; obtain ⟨tc0, tc1, tc2⟩ := cz3_ HTS.out.blk; obtain ⟨fc0, fc1, fc2⟩ := fz3_ HTS.out.blk) | ((with_reducible refine gate_builtin (b := .append) (xs := #[.tmp 74, .tmp 76]) rfl ?_); at_builtin; refine Kd.R_append (Kd.int .i64) (w0 := w0) w0.heap.size rfl (.tmp 74) (.tmp 76) 51 3 (.int .i64 0) 8 rfl Try.underlying51 info3 rfl (by decide) (by omega) vc2 R1.1 c [.int .i64 c] (fun k => k ≠ g ∧ k ≠ gf) (fun _ => False) rfl rfl ?aP (fun _ hk => hk.elim) ?aF ?aO ?aB ?aS ?aL ?_; (case aP => exact rfl); (case aB => exact HTS.out.bel); (case aF => exact (fun k hk => ⟨fun z => by have := blk_lt HTS.out.blk; omega, fun z => by have := HTS.out.lt; omega⟩)); (case aO => exact HTS.out.cel); (case aS => exact HTS.out.bel.size); (case aL => have := L7.out; omega); intro v12 w12 ho hb hg hat; obtain ⟨Ad, cd, ed⟩ := Kd.R_slice ho; subst ed; have APP := Aside0.mk (HTS.out.app ho hb hg); have B9 := Aside0.mk ((hg.block g (blk_lt HTS.out.blk) (fun z => (HTS.out.cel.1 g z.symm).1 rfl)).trans HTS.out.blk); replace BKm := Aside0.mk (blk_grown BKm.out hg (Kd.R_ne HTS.out.cel BKm.out (by decide))); replace KP := Aside0.mk (KP.out.app hg hat); clear ho hb hg hat; obtain ⟨td0, td1, td2⟩ := cz3_ B9.out; obtain ⟨fd0, fd1, fd2⟩ := fz3_ B9.out) | ((with_reducible refine gate_store (t := 51) (p := 79) rfl ?_); refine store_event (t := 51) (p := 79) (v := ?vo4) (w1 := (w12.setCell ⟨g, 0, none⟩ (.slice Ad (R1.1 ++ [c]).length cd))) ?hg ?ho ?hn ?hr ?_; (case ho => rfl); (case hg => rfl); (case hn => rfl); (case hr => first | (go_simp; done) | (go_simp; rfl)); intro w13 hw; replace HTS := Aside0.mk (by rw [hw]; exact APP.out : TS w0 w13 g gf cf (.slice Ad (R1.1 ++ [c]).length cd) (R1.1 ++ [c]) R1.2.1 R1.2.2); replace BKm := Aside0.mk (by rw [hw]; exact blk_far BKm.out NG.out _ : w13.heap[gb]? = some (.cells #[.int .i64 m0, .int .i64 m1, .int .i64 m2] 28 (0, 0))); replace KP := Aside0.mk (by rw [hw]; exact KP.out.setg _ _ : Keeps w w13 g gf vc (.slice Ad (R1.1 ++ [c]).length cd)); clear hw; clear APP B9))
          go_roundg k1
          case measure => have := HK.out; omega
          case rel => exact ⟨wrap64 (d + 1), _, R1.1 ++ [c], R1.2.1, R1.2.2, (by first | rfl | (simp; done) | (simp [*]; done)), H', ⟨by have := HK.out; omega⟩, HTS, BKm, KP⟩
         ·rw [if_neg c7] at H
          cases H
        ·rw [if_neg c6] at H
         cases H
      ·rw [if_neg c4] at H
       cases H
   ·rw [if_neg c1] at H
    have c1b : decide (d ≤ 3) = false := decide_eq_false c1
    clear c1
    obtain rfl := Option.some.inj H
    go_wp2
    exact ⟨rfl, _, results_none rfl _ _ _, (by first | exact ⟨_, rfl⟩ | trivial | simp), vc', HTS.out, KP.out⟩

end Go.Proofs.Ytjmbnlemfdjkfaa.X
