-- Written by a program of this session (xprint.py), out of the translation and of hand-written contracts. Lean checks it.
import Derived.Test.YtcpoaindibjecaaX0
import Derived.Test.YtcpoaindibjecaaXimplCrossPairs1
import Derived.Test.YtcpoaindibjecaaXimplCrossPairs2
namespace Go.Proofs.Ytcpoaindibjecaa.X
open Go.RowKit Go.Proofs.YtcpoaindibjecaaW.PrintWords Go.Proofs.YtcpoaindibjecaaW.PrintLast Go.Proofs.YtcpoaindibjecaaW.PrintMore
attribute [local go_sem] max2_int min2_int max_two min_two max_three min_three max_four min_four   -- for this text's walks alone
set_option linter.unusedVariables false
set_option linter.unusedSimpArgs false

/-! ### impl_CrossPairs: function 21 (by hand) -/
theorem cell_two (w : World) (a b : Value) (t : TypeId) : ((w.alloc (.cells #[a] t)).alloc (.cells #[b] t)).drew.cell? ⟨w.heap.size, 0, none⟩ = some a ∧ ((w.alloc (.cells #[a] t)).alloc (.cells #[b] t)).drew.cell? ⟨w.heap.size + 1, 0, none⟩ = some b := by
 refine ⟨(blk_cell (blk_drew (blk_alloc (heap_alloc_new w _) _)) 0).trans rfl, ?_⟩
 have h := (blk_cell (blk_drew (heap_alloc_new (w.alloc (.cells #[a] t)) (.cells #[b] t))) 0).trans rfl
 have e : (w.alloc (.cells #[a] t)).heap.size = w.heap.size + 1 := by simp
 rw [e] at h
 exact h
theorem cell_old (w : World) (a b : Value) (t : TypeId) (ad : Addr) (v : Value) (h : w.cell? ad = some v) : ((w.alloc (.cells #[a] t)).alloc (.cells #[b] t)).cell? ad = some v :=
 pw_cell_below (below_alloc (below_alloc (Below.refl _ _) _) _) h
def crossB (lo hi x y : Int) : Bool := ((decide (x > lo) && decide (x < hi)) && (decide (y < lo) || decide (y > hi))) || ((decide (y > lo) && decide (y < hi)) && (decide (x < lo) || decide (x > hi)))
def impl_CrossPairs.f (l0 l1 : List Int) : Option Bool := if l0.length = 2 ∧ l1.length = 2 then some (crossB (mn (rd l0 0) (rd l0 1)) (mx (rd l0 0) (rd l0 1)) (rd l1 0) (rd l1 1)) else some false
set_option maxHeartbeats 4000000 in
set_option maxRecDepth 100000 in
theorem impl_CrossPairs.calls (A0 : Option Addr) (c0 : Nat) (l0 : List Int) (A1 : Option Addr) (c1 : Nat) (l1 : List Int) (r : Bool) (w : World) (hr0 : Kd.C (Kd.int .i64) w A0 l0.length l0) (hc0 : l0.length ≤ c0) (hr1 : Kd.C (Kd.int .i64) w A1 l1.length l1) (hc1 : l1.length ≤ c1) (h : impl_CrossPairs.f l0 l1 = some r) :
  Calls Try.prog 21 #[.slice A0 l0.length c0, .slice A1 l1.length c1] w fun e w' => e = .returned (.bool r) ∧ Below w.heap.size w w' := by
 have HB := Aside0.mk (Below.refl w.heap.size w)
 by_cases h0 : l0.length = 2
 ·by_cases h1 : l1.length = 2
  ·unfold impl_CrossPairs.f at h
   rw [if_pos ⟨h0, h1⟩] at h
   obtain ⟨ad0, e0, hx0⟩ := Kd.at_int hr0 0 (by omega) (by omega)
   obtain ⟨ad0', e0', hx1⟩ := Kd.at_int hr0 1 (by omega) (by omega)
   obtain ⟨ad1, e1, hy0⟩ := Kd.at_int hr1 0 (by omega) (by omega)
   obtain ⟨ad1', e1', hy1⟩ := Kd.at_int hr1 1 (by omega) (by omega)
   cases e0; cases e1; cases e0'; cases e1'
   clear hr0 hc0 hr1 hc1
   generalize rd l0 0 = p at *
   generalize rd l0 1 = q at *
   generalize rd l1 0 = x at *
   generalize rd l1 1 = y at *
   rw [h0, h1]
   clear h0 h1
   replace hx0 : w.cell? ad0 = some (.int .i64 p) := by simpa [Addr.add] using hx0
   replace hx1 : w.cell? ⟨ad0.block, ad0.off + 1, none⟩ = some (.int .i64 q) := by simpa [Addr.add] using hx1
   replace hy0 : w.cell? ad1 = some (.int .i64 x) := by simpa [Addr.add] using hy0
   replace hy1 : w.cell? ⟨ad1.block, ad1.off + 1, none⟩ = some (.int .i64 y) := by simpa [Addr.add] using hy1
   have hl0 : ad0.block < w.heap.size := World.block_lt_of_cell? w _ hx0
   have hl1 : ad1.block < w.heap.size := World.block_lt_of_cell? w _ hy0
   obtain ⟨lo, hlo⟩ : ∃ lo, lo = mn p q := ⟨_, rfl⟩
   obtain ⟨hi, hhi⟩ : ∃ hi, hi = mx p q := ⟨_, rfl⟩
   rw [← hlo, ← hhi] at h
   unfold mn at hlo
   unfold mx at hhi
   have HLO := Aside0.mk hlo
   have HHI := Aside0.mk hhi
   have HR := Aside0.mk h
   have HY0 := Aside0.mk hy0
   have HY1 := Aside0.mk hy1
   have eg1 : ∀ args w, (callFunc 67 args).run Try.prog w = .ok (.enter 67 args) w := enters_of Try.func67 (by kernel_rfl) rfl
   have eg2 : ∀ args w, (callFunc 68 args).run Try.prog w = .ok (.enter 68 args) w := enters_of Try.func68 (by kernel_rfl) rfl
   have EG1 := Aside0.mk eg1
   have EG2 := Aside0.mk eg2
   clear h hlo hhi eg1 eg2
   go_enter Try.func21, Try.ntmps21
   go_upto_region 3 with (fail)
   go_cut [5, 6] (fun v5 v6 wc => ∃ B C : Nat, v5 = .pointer (some ⟨B, 0, none⟩) ∧ v6 = .pointer (some ⟨C, 0, none⟩) ∧ Aside0 (wc.cell? ⟨B, 0, none⟩ = some (.int .i64 lo)) ∧ Aside0 (wc.cell? ⟨C, 0, none⟩ = some (.int .i64 hi)) ∧ Aside0 (wc.cell? ad1 = some (.int .i64 x)) ∧ Aside0 (wc.cell? ⟨ad1.block, ad1.off + 1, none⟩ = some (.int .i64 y)) ∧ Aside0 (Below w.heap.size w wc))
   case first =>
    go_region
    all_goals (go_wp2_with fail)
    all_goals
     go_meet
     case rel => exact ⟨_, _, rfl, rfl, ⟨by rw [HLO.out]; first | exact (cell_two w _ _ _).1 | exact (cell_two w _ _ _).2 | (split <;> first | exact (cell_two w _ _ _).1 | exact (cell_two w _ _ _).2 | (exfalso; omega))⟩, ⟨by rw [HHI.out]; first | exact (cell_two w _ _ _).1 | exact (cell_two w _ _ _).2 | (split <;> first | exact (cell_two w _ _ _).1 | exact (cell_two w _ _ _).2 | (exfalso; omega))⟩, ⟨cell_old w _ _ _ _ _ HY0.out⟩, ⟨cell_old w _ _ _ _ _ HY1.out⟩, ⟨below_drew (below_alloc (below_alloc HB.out _) _)⟩⟩
   case rest =>
    clear hx0 hx1 hy0 hy1 hl0 hl1 HY0 HY1 HLO HHI
    obtain ⟨B, C, rfl, rfl, H0, H1, Y0, Y1, HW⟩ := hcut
    have y0 := Y0.out
    have y1 := Y1.out
    have eg1 := EG1.out
    have eg2 := EG2.out
    replace HR := HR.out
    unfold crossB at HR
    clear Y0 Y1 EG1 EG2
    cases hb1 : (decide (x > lo) && decide (x < hi)) with
    | true =>
     cases hb4 : (decide (y < lo) || decide (y > hi)) with
     | true =>
      rw [hb1, hb4] at HR
      have HB1 := Aside0.mk hb1
      have HB4 := Aside0.mk hb4
      have HR2 := Aside0.mk HR
      clear HR hb1 hb4
      go_wp2_with (first | (go_at_call 67; (with_reducible refine (impl_CrossPairs_1.callsb _ _ lo hi x _ _ HB1 H0.out H1.out).mono ?_); rintro e w' ⟨rfl, rfl⟩) | (go_at_call 68; (with_reducible refine (impl_CrossPairs_2.callsb _ _ lo hi y _ _ HB4 H0.out H1.out).mono ?_); rintro e w' ⟨rfl, rfl⟩))
      go_ret
      exact ⟨by have z := Option.some.inj HR2.out; simp at z; rw [← z]; rfl, HW.out⟩
     | false =>
      cases hb2 : (decide (y > lo) && decide (y < hi)) with
      | true =>
       cases hb3 : (decide (x < lo) || decide (x > hi)) with
       | true =>
        rw [hb1, hb4, hb2, hb3] at HR
        have HB1 := Aside0.mk hb1
        have HB4 := Aside0.mk hb4
        have HB2 := Aside0.mk hb2
        have HB3 := Aside0.mk hb3
        have HR2 := Aside0.mk HR
        clear HR hb1 hb4 hb2 hb3
        go_wp2_with (first | (go_at_call 67; (with_reducible refine (impl_CrossPairs_1.callsb _ _ lo hi x _ _ HB1 H0.out H1.out).mono ?_); rintro e w' ⟨rfl, rfl⟩) | (go_at_call 67; (with_reducible refine (impl_CrossPairs_1.callsb _ _ lo hi y _ _ HB2 H0.out H1.out).mono ?_); rintro e w' ⟨rfl, rfl⟩) | (go_at_call 68; (with_reducible refine (impl_CrossPairs_2.callsb _ _ lo hi x _ _ HB3 H0.out H1.out).mono ?_); rintro e w' ⟨rfl, rfl⟩) | (go_at_call 68; (with_reducible refine (impl_CrossPairs_2.callsb _ _ lo hi y _ _ HB4 H0.out H1.out).mono ?_); rintro e w' ⟨rfl, rfl⟩))
        go_ret
        exact ⟨by have z := Option.some.inj HR2.out; simp at z; rw [← z]; rfl, HW.out⟩
       | false =>
        rw [hb1, hb4, hb2, hb3] at HR
        have HB1 := Aside0.mk hb1
        have HB4 := Aside0.mk hb4
        have HB2 := Aside0.mk hb2
        have HB3 := Aside0.mk hb3
        have HR2 := Aside0.mk HR
        clear HR hb1 hb4 hb2 hb3
        go_wp2_with (first | (go_at_call 67; (with_reducible refine (impl_CrossPairs_1.callsb _ _ lo hi x _ _ HB1 H0.out H1.out).mono ?_); rintro e w' ⟨rfl, rfl⟩) | (go_at_call 67; (with_reducible refine (impl_CrossPairs_1.callsb _ _ lo hi y _ _ HB2 H0.out H1.out).mono ?_); rintro e w' ⟨rfl, rfl⟩) | (go_at_call 68; (with_reducible refine (impl_CrossPairs_2.callsb _ _ lo hi x _ _ HB3 H0.out H1.out).mono ?_); rintro e w' ⟨rfl, rfl⟩) | (go_at_call 68; (with_reducible refine (impl_CrossPairs_2.callsb _ _ lo hi y _ _ HB4 H0.out H1.out).mono ?_); rintro e w' ⟨rfl, rfl⟩))
        go_ret
        exact ⟨by have z := Option.some.inj HR2.out; simp at z; rw [← z]; rfl, HW.out⟩
      | false =>
       rw [hb1, hb4, hb2] at HR
       have HB1 := Aside0.mk hb1
       have HB4 := Aside0.mk hb4
       have HB2 := Aside0.mk hb2
       have HR2 := Aside0.mk HR
       clear HR hb1 hb4 hb2
       go_wp2_with (first | (go_at_call 67; (with_reducible refine (impl_CrossPairs_1.callsb _ _ lo hi x _ _ HB1 H0.out H1.out).mono ?_); rintro e w' ⟨rfl, rfl⟩) | (go_at_call 67; (with_reducible refine (impl_CrossPairs_1.callsb _ _ lo hi y _ _ HB2 H0.out H1.out).mono ?_); rintro e w' ⟨rfl, rfl⟩) | (go_at_call 68; (with_reducible refine (impl_CrossPairs_2.callsb _ _ lo hi y _ _ HB4 H0.out H1.out).mono ?_); rintro e w' ⟨rfl, rfl⟩))
       go_ret
       exact ⟨by have z := Option.some.inj HR2.out; simp at z; rw [← z]; rfl, HW.out⟩
    | false =>
     cases hb2 : (decide (y > lo) && decide (y < hi)) with
     | true =>
      cases hb3 : (decide (x < lo) || decide (x > hi)) with
      | true =>
       rw [hb1, hb2, hb3] at HR
       have HB1 := Aside0.mk hb1
       have HB2 := Aside0.mk hb2
       have HB3 := Aside0.mk hb3
       have HR2 := Aside0.mk HR
       clear HR hb1 hb2 hb3
       go_wp2_with (first | (go_at_call 67; (with_reducible refine (impl_CrossPairs_1.callsb _ _ lo hi x _ _ HB1 H0.out H1.out).mono ?_); rintro e w' ⟨rfl, rfl⟩) | (go_at_call 67; (with_reducible refine (impl_CrossPairs_1.callsb _ _ lo hi y _ _ HB2 H0.out H1.out).mono ?_); rintro e w' ⟨rfl, rfl⟩) | (go_at_call 68; (with_reducible refine (impl_CrossPairs_2.callsb _ _ lo hi x _ _ HB3 H0.out H1.out).mono ?_); rintro e w' ⟨rfl, rfl⟩))
       go_ret
       exact ⟨by have z := Option.some.inj HR2.out; simp at z; rw [← z]; rfl, HW.out⟩
      | false =>
       rw [hb1, hb2, hb3] at HR
       have HB1 := Aside0.mk hb1
       have HB2 := Aside0.mk hb2
       have HB3 := Aside0.mk hb3
       have HR2 := Aside0.mk HR
       clear HR hb1 hb2 hb3
       go_wp2_with (first | (go_at_call 67; (with_reducible refine (impl_CrossPairs_1.callsb _ _ lo hi x _ _ HB1 H0.out H1.out).mono ?_); rintro e w' ⟨rfl, rfl⟩) | (go_at_call 67; (with_reducible refine (impl_CrossPairs_1.callsb _ _ lo hi y _ _ HB2 H0.out H1.out).mono ?_); rintro e w' ⟨rfl, rfl⟩) | (go_at_call 68; (with_reducible refine (impl_CrossPairs_2.callsb _ _ lo hi x _ _ HB3 H0.out H1.out).mono ?_); rintro e w' ⟨rfl, rfl⟩))
       go_ret
       exact ⟨by have z := Option.some.inj HR2.out; simp at z; rw [← z]; rfl, HW.out⟩
     | false =>
      rw [hb1, hb2] at HR
      have HB1 := Aside0.mk hb1
      have HB2 := Aside0.mk hb2
      have HR2 := Aside0.mk HR
      clear HR hb1 hb2
      go_wp2_with (first | (go_at_call 67; (with_reducible refine (impl_CrossPairs_1.callsb _ _ lo hi x _ _ HB1 H0.out H1.out).mono ?_); rintro e w' ⟨rfl, rfl⟩) | (go_at_call 67; (with_reducible refine (impl_CrossPairs_1.callsb _ _ lo hi y _ _ HB2 H0.out H1.out).mono ?_); rintro e w' ⟨rfl, rfl⟩))
      go_ret
      exact ⟨by have z := Option.some.inj HR2.out; simp at z; rw [← z]; rfl, HW.out⟩
  ·unfold impl_CrossPairs.f at h
   rw [if_neg (fun z => h1 z.2)] at h
   obtain rfl := Option.some.inj h
   clear h hr0 hc0 hr1 hc1
   have c1 : ((l1.length : Int) != 2) = true := by simp; omega
   have c2 : ((l0.length : Int) != 2) = false := by simp; omega
   go_enter Try.func21, Try.ntmps21
   go_wp2
   go_ret
   exact ⟨rfl, HB.out⟩
 ·unfold impl_CrossPairs.f at h
  rw [if_neg (fun z => h0 z.1)] at h
  obtain rfl := Option.some.inj h
  clear h hr0 hc0 hr1 hc1
  have c1 : ((l0.length : Int) != 2) = true := by simp; omega
  go_enter Try.func21, Try.ntmps21
  go_wp2
  go_ret
  exact ⟨rfl, HB.out⟩

end Go.Proofs.Ytcpoaindibjecaa.X
