/- Whatever cells begin, the arrows make the same perfect maze. -/
import Derived.Test.YtnipocpbpcaepaaXctrees
import Derived.Test.YtnipocpbpcaepaaLConfl
import Derived.Test.YtnipocpbpcaepaaLSpan
namespace Go.Proofs.Ytnipocpbpcaepaa.L
open Go.RowKit Go.Proofs.Ytnipocpbpcaepaa.X Go.Proofs.YtnipocpbpcaepaaW.PrintWords Go.Proofs.YtnipocpbpcaepaaW.PrintLast Go.Proofs.YtnipocpbpcaepaaW.PrintMore
set_option linter.unusedSimpArgs false
set_option linter.unusedVariables false

section
variable {w h : Int} {A : List (List Int)}
theorem ins0_iff (a : AOk w h A) {x : Int} (hx : isCell w h x = true) : rdOf false (ins0 A) x = true ↔ x = 0 := by
  have hla := a.len
  have hcp := cells_pos a.grid
  have hxl := cellD_lt hx
  have e := rdOf_set (l := List.replicate A.length false) (i := 0) (j := x) (Int.le_refl _) (by rw [List.length_replicate]; omega) hxl.1
  have e2 : rdOf false (List.replicate A.length false) x = false := by
    unfold rdOf
    rw [List.getD_eq_getElem?_getD, List.getElem?_replicate]
    split <;> rfl
  rw [e2] at e
  unfold ins0
  rw [show (0 : Nat) = (0 : Int).toNat from rfl, e]
  simp
theorem mid0 (a : AOk w h A) : Mid w h A (u0 A) (ins0 A) 0 := by
  have m := M0.zero a
  refine ⟨m.ulen, m.ilen, m.unn, (ins0_iff a a.zero).2 rfl, ⟨fun _ => 0, fun c hc hi h0 => absurd ((ins0_iff a hc).1 hi) h0⟩, m.okm, fun g hg => ?_⟩
  constructor
  · intro e
    unfold bit at e
    simp at e
  · rintro ⟨c, hc, hi, h0, _⟩
    exact absurd ((ins0_iff a hc).1 hi) h0
theorem rd_ext {u v : List Int} (hl : u.length = v.length) (e : rd u = rd v) : u = v := by
  refine List.ext_getElem hl fun n h1 h2 => ?_
  have := congrFun e (n : Int)
  rw [rd_nat h1, rd_nat h2] at this
  exact this
theorem maze_same {o1 o2 : Int} (m1 : mazeOk w h o1 = true) (m2 : mazeOk w h o2 = true) (hb : ∀ g, isGap w h g = true → (bit o1 g = true ↔ bit o2 g = true)) : o1 = o2 := by
  have h1 := mazeOk_ok m1
  have h2 := mazeOk_ok m2
  have hg := gaps_range w h
  have k1 : o1.toNat < 2 ^ (gaps w h).toNat := by
    have := h1.2.2.1
    rw [pow_cast] at this
    omega
  have k2 : o2.toNat < 2 ^ (gaps w h).toNat := by
    have := h2.2.2.1
    rw [pow_cast] at this
    omega
  have : o1.toNat = o2.toNat := by
    refine Nat.eq_of_testBit_eq fun i => ?_
    by_cases z : i < (gaps w h).toNat
    · have := hb (i : Int) (by unfold isGap; exact decide_eq_true ⟨by omega, by omega⟩)
      unfold bit at this
      rw [Int.toNat_natCast] at this
      exact Bool.eq_iff_iff.2 this
    · rw [bit_ge k1 (by omega), bit_ge k2 (by omega)]
  omega
theorem order_all (a : AOk w h A) (l : List Int) : ∀ x, isCell w h x = true → x ∈ ordAll A l := fun x hx => by
  have hxl := cellD_lt hx
  have hla := a.len
  unfold ordAll
  refine List.mem_append.2 (Or.inr (List.mem_map.2 ⟨x.toNat, List.mem_range.2 (by omega), by omega⟩))
theorem never_none (a : AOk w h A) {l1 l2 : List Int} (h1 : ∀ x ∈ l1, isCell w h x = true) (h2 : ∀ x ∈ l2, isCell w h x = true) {u1 : List Int} {i1 : List Bool} {o1 : Int} (e1 : runA w h A (ordAll A l1) (u0 A) (ins0 A) 0 = some (u1, i1, o1)) : runA w h A (ordAll A l2) (u0 A) (ins0 A) 0 ≠ none := fun e2 => by
  obtain ⟨k1, p1, m1, q1, _⟩ := (run_pops a (ordAll A l1) (u0 A) (ins0 A) 0 (ord_cells a h1) (mid0 a)).2 _ _ _ e1
  obtain ⟨k2, u2, x, p2, x1, x2, x3⟩ := (run_pops a (ordAll A l2) (u0 A) (ins0 A) 0 (ord_cells a h2) (mid0 a)).1 e2
  have hn := mid_noloop a m1 (fun y hy => q1 y (order_all a l1 y hy))
  obtain ⟨j, p3⟩ := Pops.reach p1 hn p2
  have hle := Pops.le p3 x
  obtain ⟨dep, hd⟩ := m1.up
  have := (hd x x1 (q1 x (order_all a l1 x x1)) x2).1
  omega
theorem same_end (a : AOk w h A) {l1 l2 : List Int} (h1 : ∀ x ∈ l1, isCell w h x = true) (h2 : ∀ x ∈ l2, isCell w h x = true) {u1 u2 : List Int} {i1 i2 : List Bool} {o1 o2 : Int} (e1 : runA w h A (ordAll A l1) (u0 A) (ins0 A) 0 = some (u1, i1, o1)) (e2 : runA w h A (ordAll A l2) (u0 A) (ins0 A) 0 = some (u2, i2, o2)) : u1 = u2 ∧ o1 = o2 := by
  obtain ⟨k1, p1, m1, q1, _⟩ := (run_pops a (ordAll A l1) (u0 A) (ins0 A) 0 (ord_cells a h1) (mid0 a)).2 _ _ _ e1
  obtain ⟨k2, p2, m2, q2, _⟩ := (run_pops a (ordAll A l2) (u0 A) (ins0 A) 0 (ord_cells a h2) (mid0 a)).2 _ _ _ e2
  have r1 := fun y hy => q1 y (order_all a l1 y hy)
  have r2 := fun y hy => q2 y (order_all a l2 y hy)
  have he := Pops.one p1 (mid_noloop a m1 r1) p2 (mid_noloop a m2 r2)
  have hu : u1 = u2 := rd_ext (by have := m1.ulen; have := m2.ulen; omega) he
  subst hu
  refine ⟨rfl, maze_same m1.okm m2.okm fun g hg => ?_⟩
  rw [m1.bits g hg, m2.bits g hg]
  constructor
  · rintro ⟨c, c1, _, c3, c4⟩
    exact ⟨c, c1, r2 c c1, c3, c4⟩
  · rintro ⟨c, c1, _, c3, c4⟩
    exact ⟨c, c1, r1 c c1, c3, c4⟩
theorem count_rest : ∀ n : Nat, ((List.range (n + 1)).filter fun j : Nat => (fun _ : Int => true) (j : Int) && decide ((j : Int) ≠ 0)).length = n := fun n => by
  rw [List.range_succ_eq_map, List.filter_cons_of_neg (by simp), List.filter_eq_self.2 (fun x hx => by
    obtain ⟨y, _, rfl⟩ := List.mem_map.1 hx
    simp
    omega), List.length_map, List.length_range]
theorem end_perfect (a : AOk w h A) {u : List Int} {ins : List Bool} {o : Int} (m : Mid w h A u ins o) (hall : ∀ x, isCell w h x = true → rdOf false ins x = true) : perfect w h o = true := by
  obtain ⟨dep, hd⟩ := m.up
  have hP : Par w h 0 (fun _ => true) (nxt w h A u) (fun c => gapAt w h c (arrow A u c)) dep := by
    refine ⟨fun c hc _ h0 => ?_, fun c hc _ h0 => ?_⟩
    · obtain ⟨d1, d2, d3⟩ := hd c hc (hall c hc) h0
      exact ⟨(nxt_cell a hc (m.unn c hc).1 d1).1, rfl, d3⟩
    · obtain ⟨d1, d2, d3⟩ := hd c hc (hall c hc) h0
      have hn := nxt_cell a hc (m.unn c hc).1 d1
      have hdir := nb_dir hn.2
      have ht := nb_tells hc hdir.1 hdir.2 hn.2
      exact ⟨ht.1, ht.2.2.1⟩
  have hbits : ∀ g, isGap w h g = true → (bit o g = true ↔ ∃ c, isCell w h c = true ∧ (fun _ : Int => true) c = true ∧ c ≠ 0 ∧ gapAt w h c (arrow A u c) = g) := fun g hg => by
    rw [m.bits g hg]
    constructor
    · rintro ⟨c, c1, _, c3, c4⟩
      exact ⟨c, c1, rfl, c3, c4⟩
    · rintro ⟨c, c1, _, c3, c4⟩
      exact ⟨c, c1, hall c c1, c3, c4⟩
  have hcount := hP.count m.okm hbits
  have hcp := cells_pos a.grid
  have hconn : conn w h o = true := (conn_iff m.okm a.zero).2 fun c hc => hP.rch m.okm (fun x hx _ h0 => by
    have hg := (hP.gap x hx rfl h0).1
    exact (hbits _ hg).2 ⟨x, hx, rfl, h0, rfl⟩) (dep c) c rfl hc rfl
  obtain ⟨n, hn⟩ : ∃ n : Nat, (cells w h).toNat = n + 1 := ⟨(cells w h).toNat - 1, by omega⟩
  rw [hn, count_rest n] at hcount
  unfold perfect passages
  rw [hconn, if_pos m.okm, hcount, Bool.true_and]
  simp only [beq_iff_eq]
  omega
end
end Go.Proofs.Ytnipocpbpcaepaa.L
