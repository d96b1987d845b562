/- Who leaves later is not there earlier, the timetable repeats, and without gates the time is the distance. No conditions beyond the given bounds on the size of what comes in. -/
import Derived.Test.YtlfomjhjeknnmaaXcdist
import Derived.Test.YtlfomjhjeknnmaaXimplMazeAtTime
import Derived.Test.YtlfomjhjeknnmaaXlawsFnGates
import Derived.Test.YtlfomjhjeknnmaaXlawsat
import Derived.Test.YtlfomjhjeknnmaaXlawsbig
import Derived.Test.YtlfomjhjeknnmaaLTime
import Derived.Test.YtlfomjhjeknnmaaLDrawTimed
namespace Go.Proofs.Ytlfomjhjeknnmaa.Pure
open Go.RowKit Go.Proofs.Ytlfomjhjeknnmaa.X Go.Proofs.Ytlfomjhjeknnmaa.L Go.Proofs.YtlfomjhjeknnmaaW.PrintWords Go.Proofs.YtlfomjhjeknnmaaW.PrintLast
set_option linter.unusedSimpArgs false
set_option linter.unusedVariables false

theorem at_ok (l : List Int) (hl : l.length ≤ 2000000) (hx : ∀ x ∈ l, (Lit.int .u8 x).wf = true) (j : Int) (hj : 0 ≤ j ∧ j ≤ 1) : ∃ v, laws_at.f l j = some v ∧ 0 ≤ v := by
  unfold laws_at.f
  by_cases c : (l.length : Int) = 0
  · rw [if_pos c]
    exact ⟨_, rfl, Int.le_refl _⟩
  · rw [if_neg c, w64 (x := j * 5) (by omega) (by omega), w64 (x := j * 5 + 1) (by omega) (by omega)]
    have e : Int.tmod (j * 5 + 1) (l.length : Int) = (j * 5 + 1) % (l.length : Int) := by
      rw [Int.tmod_eq_emod_of_nonneg (by omega)]
    have h0 : 0 ≤ (j * 5 + 1) % (l.length : Int) := Int.emod_nonneg _ c
    have h1 : (j * 5 + 1) % (l.length : Int) < (l.length : Int) := Int.emod_lt_of_pos _ (by omega)
    rw [e, if_pos h0, if_pos h1]
    have hb := hx _ (rd_memL h0 h1)
    have hb1 : IntKind.u8.min ≤ rd l ((j * 5 + 1) % (l.length : Int)) ∧ rd l ((j * 5 + 1) % (l.length : Int)) ≤ IntKind.u8.max := by simpa [Lit.wf] using hb
    have e0 : IntKind.u8.min = 0 := by decide
    have e1 : IntKind.u8.max = 255 := by decide
    rw [e0, e1] at hb1
    have hb2 : 0 ≤ rd l ((j * 5 + 1) % (l.length : Int)) ∧ rd l ((j * 5 + 1) % (l.length : Int)) ≤ 255 := hb1
    refine ⟨_, rfl, ?_⟩
    rw [w64 (by omega) (by omega)]
    exact hb2.1
theorem andNot_zero {x y : Int} (hx : 0 ≤ x ∧ x < 16777216) (hy : 0 ≤ y ∧ y < 16777216) (h : ∀ j, 0 ≤ j → bit x j = true → bit y j = true) : Go.bits .andNot .i64 x y = 0 := by
  obtain ⟨a, rfl⟩ := Int.eq_ofNat_of_zero_le hx.1
  obtain ⟨b, rfl⟩ := Int.eq_ofNat_of_zero_le hy.1
  have e : (BitVec.ofInt 64 (a : Int) &&& ~~~(BitVec.ofInt 64 (b : Int))).toNat = 0 := by
    apply Nat.eq_of_testBit_eq
    intro i
    rw [← BitVec.getLsbD, BitVec.getLsbD_and, BitVec.getLsbD_not, getLsbD_ofInt_nat, getLsbD_ofInt_nat, Nat.zero_testBit]
    have := h (i : Int) (by omega)
    unfold bit at this
    simp only [Int.toNat_natCast] at this
    cases ea : a.testBit i
    · simp
    · rw [this ea]
      by_cases hi : i < 64 <;> simp [hi]
  show IntKind.i64.wrap ((BitVec.ofInt 64 (a : Int) &&& ~~~(BitVec.ofInt 64 (b : Int))).toNat : Int) = _
  rw [e]
  decide
section
variable {w h o p : Int} {l : List Gt} {a b q : Int}
open Classical in
theorem timed_free (z : timedOk w h o p l = true) : timedOk w h o 1 [] = true := by
  unfold timedOk
  exact decide_eq_true ⟨(timedOk_parts z).1, by omega, by simp, fun i h0 h1 => by simp at h1; omega⟩
/-- Leaving a moment later, a period later. -/
theorem laws_time (z : timedOk w h o p l = true) (ha : isCell w h a = true) (hb : isCell w h b = true) (q0 : 0 ≤ q) (q1 : q ≤ 39) :
    ((earliest w h o p l a q b < 0) ↔ (earliest w h o p l a (q + 1) b < 0)) ∧ ((earliest w h o p l a q b < 0) ↔ (earliest w h o p l a (q + p) b < 0)) ∧
      (0 ≤ earliest w h o p l a (q + 1) b → earliest w h o p l a q b ≤ earliest w h o p l a (q + 1) b) ∧ (0 ≤ earliest w h o p l a q b → earliest w h o p l a (q + p) b = earliest w h o p l a q b + p) := by
  have hp := (timedOk_parts z).2.1
  rcases earliest_tells z ha hb q0 (show q ≤ 500 by omega) with ⟨j, _, hj, mj, e⟩ | ⟨f, e⟩
  · have hz : Rs w h o p l a (q + p) j b := (rs_per b j b).2 hj
    have hy : Rs w h o p l a (q + 1) (j + (p - 1).toNat) b := rs_waits (p - 1).toNat j b (by rw [show q + 1 + (((p - 1).toNat : Nat) : Int) = q + p by omega]; exact hz)
    rcases earliest_tells (q := q + 1) z ha hb (by omega) (by omega) with ⟨i, _, hi, mi, e1⟩ | ⟨f1, e1⟩
    · rcases earliest_tells (q := q + p) z ha hb (by omega) (by omega) with ⟨n, _, hn, mn, e2⟩ | ⟨f2, e2⟩
      · have n1 : ¬ j < n := fun c => mn j c hz
        have n2 : ¬ n < j := fun c => mj n c ((rs_per b n b).1 hn)
        have n3 : ¬ i + 1 < j := fun c => mj (i + 1) c (rs_wait i b hi)
        rw [e, e1, e2]
        exact ⟨by omega, by omega, fun _ => by omega, fun _ => by omega⟩
      · exact absurd hz (f2 j)
    · exact absurd hy (f1 _)
  · rcases earliest_tells (q := q + 1) z ha hb (by omega) (by omega) with ⟨i, _, hi, mi, e1⟩ | ⟨f1, e1⟩
    · exact absurd (rs_wait i b hi) (f _)
    · rcases earliest_tells (q := q + p) z ha hb (by omega) (by omega) with ⟨n, _, hn, mn, e2⟩ | ⟨f2, e2⟩
      · exact absurd ((rs_per b n b).1 hn) (f n)
      · rw [e, e1, e2]
        exact ⟨by omega, by omega, fun _ => by omega, fun _ => by omega⟩
/-- Without gates: the distance; and no gate makes it shorter. -/
theorem laws_free (z : timedOk w h o p l = true) (ha : isCell w h a = true) (hb : isCell w h b = true) (q0 : 0 ≤ q) (q1 : q ≤ 39) :
    (distOf w h o a b < 0 ∧ earliest w h o 1 [] a q b < 0) ∨ (0 ≤ distOf w h o a b ∧ earliest w h o 1 [] a q b = q + distOf w h o a b ∧ distOf w h o a b < 16 ∧ (earliest w h o p l a q b < 0 ∨ earliest w h o p l a q b ≥ q + distOf w h o a b)) := by
  have hm := (timedOk_parts z).1
  have zf := timed_free z
  have hd := dist_tells (o := o) ha
  have ed : distOf w h o a b = rd (dist w h o a) b := by
    unfold distOf
    rw [if_pos ⟨has_of hm ha, hb⟩]
  rw [ed]
  by_cases r : 0 ≤ rd (dist w h o a) b
  · right
    have hr := (hd.2.1 b hb).1 r
    obtain ⟨n, hn⟩ := rch_walk hr
    have hw := (dist_short ha hn).2
    have hfree : Rs w h o 1 [] a q (rd (dist w h o a) b).toNat b := rs_free hm _ b _ hw (by omega)
    refine ⟨r, ?_, hd.2.2 b hb, ?_⟩
    · rcases earliest_tells (q := q) zf ha hb q0 (by omega) with ⟨j, _, hj, mj, e⟩ | ⟨f, _⟩
      · have n1 : ¬ (rd (dist w h o a) b).toNat < j := fun c => mj _ c hfree
        obtain ⟨m, hm1, hm2⟩ := rs_walk zf j b hj
        have := (dist_short ha hm1).1
        rw [e]
        omega
      · exact absurd hfree (f _)
    · rcases earliest_tells (q := q) z ha hb q0 (by omega) with ⟨j, _, hj, mj, e⟩ | ⟨f, e⟩
      · obtain ⟨m, hm1, hm2⟩ := rs_walk z j b hj
        have := (dist_short ha hm1).1
        rw [e]
        right
        omega
      · left
        omega
  · left
    refine ⟨by omega, ?_⟩
    rcases earliest_tells (q := q) zf ha hb q0 (by omega) with ⟨j, _, hj, mj, e⟩ | ⟨f, e⟩
    · obtain ⟨m, hm1, hm2⟩ := rs_walk zf j b hj
      exact absurd ((hd.2.1 b hb).2 hm1.rch) r
    · omega
theorem j0_ok (k : Nat) (hk : 1 ≤ k) (x d e : Int) (q0 : 0 ≤ q) (q1 : q ≤ 39) (hl : (d < 0 ∧ e < 0) ∨ (0 ≤ d ∧ e = q + d ∧ d < 16 ∧ (x < 0 ∨ x ≥ q + d))) : laws_FnGates.j0 k q x d e false = some true := by
  obtain ⟨k, rfl⟩ : ∃ m, k = m + 1 := ⟨k - 1, by omega⟩
  rw [laws_FnGates.j0, if_neg (by simp)]
  rcases hl with ⟨h1, h2⟩ | ⟨h1, h2, h3, h4⟩
  · rw [if_pos h1, if_pos h2]
  · rw [if_neg (by omega), w64 (x := q + d) (by omega) (by omega), if_pos h2]
    by_cases hx : x < 0
    · rw [if_pos hx]
    · rw [if_neg hx, decide_eq_true (by omega)]
end
theorem main (s : List Int) (hx : ∀ x ∈ s, (Lit.int .u8 x).wf = true) (k : Nat) (hk : 5000 ≤ k) : laws_FnGates.f k s = some true := by
  unfold laws_FnGates.f laws_big.f
  simp only [Option.bind_some]
  by_cases hbig : (s.length : Int) > 1048576
  · rw [decide_eq_true hbig, if_pos rfl]
  · rw [decide_eq_false hbig, if_neg (by simp)]
    obtain ⟨w, h, o, p, l, a, b, e, z, ha, hb⟩ := draw_times s (by omega) k (by omega)
    obtain ⟨v, ev, hv⟩ := at_ok s (by omega) hx 0 (by omega)
    have hp := (timedOk_parts z).2.1
    have hQ : 0 ≤ Int.tmod v 40 ∧ Int.tmod v 40 ≤ 39 := by
      rw [tmod_nn hv]
      omega
    rw [e]
    simp only [Option.bind_some]
    rw [ev]
    simp only [Option.bind_some]
    generalize Int.tmod v 40 = q at hQ
    obtain ⟨t1, t2, t3, t4⟩ := laws_time z ha hb hQ.1 hQ.2
    have fr := laws_free z ha hb hQ.1 hQ.2
    rw [w64 (x := q + 1) (by omega) (by omega), w64 (x := q + p) (by omega) (by omega), iEarliestAt k (by omega), iEarliestAt k (by omega), iEarliestAt k (by omega), iEarliestAt k (by omega), iDistanceOf k w h o a b (by omega), iMazeAtTime k w h o p q l (by omega)]
    simp only [Option.bind_some]
    have em : mazeAtTime w h o p l q = (w, h, shutGo (q % p) l o, true) := by
      unfold mazeAtTime
      rw [if_pos ⟨z, by omega, by omega⟩]
    have n0 := mazeOk_ok (timedOk_parts z).1
    have n1 := mazeOk_ok (shut_ok z (q % p))
    have hand : Go.bits .andNot .i64 (shutGo (q % p) l o) o = 0 := andNot_zero ⟨n1.2.1, n1.2.2.2⟩ ⟨n0.2.1, n0.2.2.2⟩ fun j hj y => ((bit_shut (q % p) l o j hj fun x hx => (gap_lt (gates_gap z x hx).1).1).1 y).1
    have hb201 : earliest w h o p l a q b ≤ 2000 := by
      rcases earliest_tells (q := q) z ha hb hQ.1 (by omega) with ⟨j, _, _, _, e⟩ | ⟨_, e⟩ <;> omega
    have hj := j0_ok k (by omega) (earliest w h o p l a q b) (distOf w h o a b) (earliest w h o 1 [] a q b) hQ.1 hQ.2 fr
    rw [em]
    simp only []
    rw [hand]
    generalize earliest w h o p l a q b = x at *
    generalize earliest w h o p l a (q + 1) b = y at *
    generalize earliest w h o p l a (q + p) b = zz at *
    generalize distOf w h o a b = d at *
    generalize earliest w h o 1 [] a q b = e at *
    have g1 : (decide (x < 0) != decide (y < 0)) = false := by
      rw [bne_eq_false_iff_eq, decide_eq_decide]
      exact t1
    have g2 : (decide (x < 0) != decide (zz < 0)) = false := by
      rw [bne_eq_false_iff_eq, decide_eq_decide]
      exact t2
    have rest : (if (decide (x < 0) != decide (zz < 0)) = true then laws_FnGates.j0 k q x d e true else if x ≥ 0 then (if zz = wrap64 (x + p) then (if (true : Bool) = true then laws_FnGates.j0 k q x d e ((0 : Int) != 0) else laws_FnGates.j0 k q x d e true) else laws_FnGates.j0 k q x d e true) else (if (true : Bool) = true then laws_FnGates.j0 k q x d e ((0 : Int) != 0) else laws_FnGates.j0 k q x d e true)) = some true := by
      rw [g2, if_neg (by simp)]
      by_cases x0 : x ≥ 0
      · have := t4 x0
        rw [if_pos x0, w64 (x := x + p) (by omega) (by omega), if_pos this, if_pos rfl]
        exact hj
      · rw [if_neg x0, if_pos rfl]
        exact hj
    rw [g1, if_neg (by simp)]
    by_cases xy : x > y
    · rw [if_pos xy, if_neg (fun y0 => by have := t3 y0; omega)]
      exact rest
    · rw [if_neg xy]
      exact rest
theorem FnGates : laws_FnGates.Pure := fun s _ _ hx => ⟨5000, main s hx 5000 (Nat.le_refl _)⟩
end Go.Proofs.Ytlfomjhjeknnmaa.Pure
