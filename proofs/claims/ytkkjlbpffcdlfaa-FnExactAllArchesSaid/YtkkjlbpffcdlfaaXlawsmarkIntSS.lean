-- Written by a program of this session (xprint.py), out of the translation and of hand-written contracts. Lean checks it.
import Derived.Test.YtkkjlbpffcdlfaaX0
import Derived.Test.YtkkjlbpffcdlfaaXcints
namespace Go.Proofs.Ytkkjlbpffcdlfaa.X
open Go.RowKit Go.Proofs.YtkkjlbpffcdlfaaW.PrintWords Go.Proofs.YtkkjlbpffcdlfaaW.PrintLast Go.Proofs.YtkkjlbpffcdlfaaW.PrintMore
attribute [local go_sem] max2_int min2_int max_two min_two max_three min_three max_four min_four   -- for this text's walks alone
set_option linter.unusedVariables false
set_option linter.unusedSimpArgs false

/-! ### laws_markIntSS: function 13 (by hand) -/
def laws_markIntSS.l0 : Nat → List (List Int) → Int → Int → Option (Int × List (List Int))
 | 0, _, _, _ => none
 | k + 1, x0, x1, x5 => if x5 < (x0.length : Int) then (if 0 ≤ x5 then ((laws_markIntS.f k (rdOf ([] : List Int) x0 x5) x1).bind fun p => laws_markIntSS.l0 k (x0.set x5.toNat p.2) p.1 (wrap64 (x5 + 1))) else none) else some (x1, x0)
def laws_markIntSS.f (k : Nat) (l0 : List (List Int)) (a1 : Int) : Option (Int × List (List Int)) := laws_markIntSS.l0 k l0 a1 0
theorem laws_markIntSS.mono_l : ∀ (k : Nat) (x0 : List (List Int)) (x1 x5 : Int), LeO (laws_markIntSS.l0 k x0 x1 x5) (laws_markIntSS.l0 (k + 1) x0 x1 x5)
 | 0, _, _, _ => fun r h => by simp [laws_markIntSS.l0] at h
 | k + 1, x0, x1, x5 => by
  have ih := laws_markIntSS.mono_l k
  unfold laws_markIntSS.l0
  exact LeO.ite (LeO.ite (LeO.bind (laws_markIntS.mono _ _ _) (fun p => ih _ _ _)) (LeO.refl _)) (LeO.refl _)
theorem laws_markIntSS.mono : ∀ a0 a1 k, LeO (laws_markIntSS.f k a0 a1) (laws_markIntSS.f (k + 1) a0 a1) := fun a0 a1 k => laws_markIntSS.mono_l k a0 a1 0
/-- One row of a row of rows that lie apart, lent to what writes it. -/
theorem laws_markIntSS.lend {base : Nat} {w W : World} {P0 : Nat → Prop} {A : Option Addr} {n c : Nat} {xs : List (List Int)} (hs : w.heap.size ≤ W.heap.size)
  (h : Kd.S (Kd.slice 3 (Kd.int .i64)) 22 W base (fun k => P0 k ∨ w.heap.size ≤ k) (.slice A n c) xs) (i : Int) (h0 : 0 ≤ i) (h1 : i < (xs.length : Int)) :
  ∃ (ad : Addr) (A' : Option Addr) (c' : Nat) (oki : Nat → Prop), A = some ad ∧ W.cell? (ad.add i.toNat) = some (.slice A' (rdOf ([] : List Int) xs i).length c') ∧ Kd.R (Kd.int .i64) 3 W base oki (.slice A' (rdOf ([] : List Int) xs i).length c') (rdOf ([] : List Int) xs i) ∧
   ∀ (w' : World) (ys : List Int), Kd.R (Kd.int .i64) 3 w' base (fun k => oki k ∨ W.heap.size ≤ k) (.slice A' (rdOf ([] : List Int) xs i).length c') ys → Kept W w' (fun k => oki k) →
    Kd.S (Kd.slice 3 (Kd.int .i64)) 22 w' base (fun k => P0 k ∨ w.heap.size ≤ k) (.slice A n c) (xs.set i.toNat ys) ∧ (Kept w W (fun k => P0 k) → Kept w w' (fun k => P0 k)) := by
 have hn := (Kd.S_reads' h).1
 obtain ⟨g, cap, hv, _, _, _⟩ := Kd.S_form h (by omega)
 injection hv with e1 e2 e3
 subst e1
 obtain ⟨oki, cs, hcl, ⟨u, rfl, hR⟩, hcell, hoki, hH⟩ := Kd.S_lend h ([] : List Int) i h0 (by omega)
 obtain ⟨A', c', rfl⟩ := Kd.R_slice hR
 have e0 : xs.getD i.toNat [] = rdOf ([] : List Int) xs i := rfl
 rw [e0] at hR hcell hcl
 have hc0 := hcell 0 _ rfl
 refine ⟨⟨g, 0, none⟩, A', c', oki, rfl, ?_, hR, fun w' ys hR' hk => ⟨?_, fun hK => hK.then_ hk (fun k hk' => (hoki k hk').1)⟩⟩
 ·rw [add_plain]
  have : i.toNat * (Kd.slice 3 (Kd.int .i64)).sz + 0 = i.toNat := by show i.toNat * 1 + 0 = i.toNat; omega
  rw [this] at hc0
  exact hc0
 ·have hH2 := Kd.H_kept (Kd.H_widen hH) hk (fun k _ hn hk' => hn (.inl hk'))
  exact Kd.H_back hH2 (okp := fun k => oki k ∨ W.heap.size ≤ k) ⟨_, rfl, hR'⟩ (fun k hk' => hk'.imp id (fun z => ⟨.inr (by omega), z⟩))
set_option maxHeartbeats 8000000 in
set_option maxRecDepth 100000 in
theorem laws_markIntSS.calls (k : Nat) (P0_ : Nat → Prop) (u9000_ : Value) (l0 : List (List Int)) (a1 : Int) (r1 : Int) (r2 : List (List Int)) (w0 w : World) (hB : Below w0.heap.size w0 w) (ho0 : Kd.S (Kd.slice 3 (Kd.int .i64)) 22 w w0.heap.size P0_ u9000_ l0) (h : laws_markIntSS.f k l0 a1 = some (r1, r2)) :
  Calls Try.prog 13 #[u9000_, .int .i64 a1] w fun e w' => e = .returned (.int .i64 r1) ∧ Kd.S (Kd.slice 3 (Kd.int .i64)) 22 w' w0.heap.size (fun k_ => (P0_ k_ ∨ w.heap.size ≤ k_)) u9000_ r2 ∧ Below w0.heap.size w0 w' ∧ Kept w w' (fun k_ => P0_ k_) := by
 have HO0 := Aside0.mk (show Kd.S (Kd.slice 3 (Kd.int .i64)) 22 w w0.heap.size (fun k_ => (P0_ k_ ∨ w.heap.size ≤ k_)) u9000_ l0 from Kd.S_mono ho0 (fun k_ hk => (.inl hk)))
 have HK := Aside0.mk (Kept.refl w (fun k_ => P0_ k_))
 have HB := Aside0.mk hB
 clear hB
 have H' := Aside0.mk (show laws_markIntSS.l0 k l0 a1 0 = some (r1, r2) from h)
 clear h
 go_enter Try.func13, Try.ntmps13
 go_wp2
 go_loopg [1, 5] k (fun kq v1 v5 w' => ∃ (x0_1 : List (List Int)) (x1_1 : Int) (x5_1 : Int), v1 = .int .i64 x1_1 ∧ v5 = .int .i64 x5_1 ∧ Aside0 (laws_markIntSS.l0 kq x0_1 x1_1 x5_1 = some (r1, r2)) ∧ Aside0 (kq ≤ k) ∧ Aside0 (Kd.S (Kd.slice 3 (Kd.int .i64)) 22 w' w0.heap.size (fun k_ => (P0_ k_ ∨ w.heap.size ≤ k_)) u9000_ x0_1) ∧ Aside0 (Kept w w' (fun k_ => P0_ k_)) ∧ Aside0 (Below w0.heap.size w0 w'))
 case atStart => exact ⟨(l0), (a1), (0), (by first | rfl | (simp; done) | (simp [*]; done)), (by first | rfl | (simp; done) | (simp [*]; done)), H', ⟨Nat.le_refl _⟩, ⟨HO0.out⟩, ⟨HK.out⟩, ⟨HB.out⟩⟩
 case round =>
  clear H'
  obtain ⟨x0_1, x1_1, x5_1, rfl, rfl, HA, HK1, HO_0, HK, HB⟩ := hrel
  cases gk with
  | zero => exact absurd HA.out (by simp [laws_markIntSS.l0])
  | succ k1 =>
   have H := HA.out
   clear HA
   simp only [laws_markIntSS.l0] at H
   obtain ⟨Ao6, co6, eo6⟩ := Kd.S_slice HO_0.out
   subst eo6
   by_cases c3 : x5_1 < (x0_1.length : Int)
   ·rw [if_pos c3] at H
    have c3b0 : decide (x5_1 < (x0_1.length : Int)) = true := decide_eq_true c3
    by_cases c4 : 0 ≤ x5_1
    ·rw [if_pos c4] at H
     replace H := Option.bind_eq_some_iff.mp H
     obtain ⟨⟨t502, t503⟩, A50, H⟩ := H
     have H' := Aside0.mk (show laws_markIntSS.l0 k1 (x0_1.set x5_1.toNat t503) t502 (wrap64 (x5_1 + 1)) = some (r1, r2) from H)
     clear H
     have A5 := Aside0.mk A50
     clear A50
     obtain ⟨ad501, A501_0, c501_0, oki, e501, hx501_0, hR501, hback⟩ := laws_markIntSS.lend HK.out.1 HO_0.out x5_1 c4 c3
     cases e501
     have HR501 := Aside0.mk hR501
     have HBK := Aside0.mk hback
     clear hR501 hback
     have p501 := eq_true c4
     have q501 := eq_true c3
     clear c3 c4
     go_wp2_with (first | (refine gl_ 17 Try.func12 #[.slice A501_0 (rdOf ([] : List Int) x0_1 x5_1).length c501_0, .int .i64 x1_1] ?_; (with_reducible refine (laws_markIntS.calls k1 oki _ (rdOf ([] : List Int) x0_1 x5_1) x1_1 t502 t503 w0 _ ?side1 ?side2 A5.out).mono ?_); (case side1 => exact HB.out); (case side2 => exact HR501.out); rintro e w' ⟨rfl, hR', hb, hkp⟩; refine ⟨_, rfl, ?_⟩; replace HO_0 := Aside0.mk (HBK.out _ _ hR' hkp).1; replace HK := Aside0.mk ((HBK.out _ _ hR' hkp).2 HK.out); replace HB := Aside0.mk hb; clear hR' hkp hb))
     go_roundg k1
     case measure => have := HK1.out; omega
     case rel => exact ⟨_, (t502), (wrap64 (x5_1 + 1)), (by first | rfl | (simp; done) | (simp [*]; done)), (by first | rfl | (simp; done) | (simp [*]; done)), H', ⟨by have := HK1.out; omega⟩, ⟨HO_0.out⟩, ⟨HK.out⟩, ⟨HB.out⟩⟩
    ·rw [if_neg c4] at H
     exact absurd H (by simp)
   ·rw [if_neg c3] at H
    have c3b0 : decide (x5_1 < (x0_1.length : Int)) = false := decide_eq_false c3
    clear c3
    simp only [Option.some.injEq, Prod.mk.injEq] at H
    obtain ⟨rfl, rfl⟩ := H
    go_wp2
    go_ret
    exact ⟨ex_, HO_0.out, HB.out, HK.out⟩

end Go.Proofs.Ytkkjlbpffcdlfaa.X
