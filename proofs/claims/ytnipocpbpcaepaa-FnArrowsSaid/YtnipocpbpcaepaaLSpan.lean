/- A tree told by parents: as many passages as cells but one, every cell come to; and what it is to be connected. -/

import Derived.Test.YtnipocpbpcaepaaLTrees
import Derived.Test.YtnipocpbpcaepaaLConn
namespace Go.Proofs.Ytnipocpbpcaepaa.L
open Go.RowKit Go.Proofs.Ytnipocpbpcaepaa.X Go.Proofs.YtnipocpbpcaepaaW.PrintWords Go.Proofs.YtnipocpbpcaepaaW.PrintLast Go.Proofs.YtnipocpbpcaepaaW.PrintMore
set_option linter.unusedSimpArgs false
set_option linter.unusedVariables false

/-- Parents: a cell that isn't the root has one, nearer to it, behind a gap. -/
structure Par (w h st : Int) (S : Int → Bool) (par gp : Int → Int) (dep : Int → Nat) : Prop where
  up : ∀ c, isCell w h c = true → S c = true → c ≠ st → isCell w h (par c) = true ∧ S (par c) = true ∧ dep (par c) < dep c
  gap : ∀ c, isCell w h c = true → S c = true → c ≠ st → isGap w h (gp c) = true ∧ ((c = endA w h (gp c) ∧ par c = endB w h (gp c)) ∨ (c = endB w h (gp c) ∧ par c = endA w h (gp c)))
theorem Par.inj {w h st : Int} {S : Int → Bool} {par gp : Int → Int} {dep : Int → Nat} (P : Par w h st S par gp dep) {c e : Int} (hc : isCell w h c = true) (hS : S c = true) (hn : c ≠ st) (he : isCell w h e = true) (hT : S e = true) (hm : e ≠ st) (hg : gp c = gp e) : c = e := by
  have g1 := (P.gap c hc hS hn).2
  have g2 := (P.gap e he hT hm).2
  have u1 := (P.up c hc hS hn).2.2
  have u2 := (P.up e he hT hm).2.2
  rw [hg] at g1
  rcases g1 with ⟨a, b⟩ | ⟨a, b⟩ <;> rcases g2 with ⟨a', b'⟩ | ⟨a', b'⟩
  · exact a.trans a'.symm
  · rw [b, ← a'] at u1
    rw [b', ← a] at u2
    omega
  · rw [b, ← a'] at u1
    rw [b', ← a] at u2
    omega
  · exact a.trans a'.symm
theorem Par.rch {w h o st : Int} {S : Int → Bool} {par gp : Int → Int} {dep : Int → Nat} (P : Par w h st S par gp dep) (hm : mazeOk w h o = true) (hb : ∀ c, isCell w h c = true → S c = true → c ≠ st → bit o (gp c) = true) :
    ∀ (n : Nat) (c : Int), dep c = n → isCell w h c = true → S c = true → Rch w h o st c := by
  intro n
  induction n using Nat.strongRecOn with
  | ind n ih =>
    intro c hd hc hS
    by_cases e : c = st
    · rw [e]; exact .refl
    · obtain ⟨u1, u2, u3⟩ := P.up c hc hS e
      obtain ⟨g1, g2⟩ := P.gap c hc hS e
      have r := ih (dep (par c)) (by omega) (par c) rfl u1 u2
      refine (rch_path hm).2 (((rch_path hm).1 r).step ⟨gp c, g1, hb c hc hS e, ?_⟩)
      rcases g2 with ⟨a, b⟩ | ⟨a, b⟩
      · exact .inr ⟨b, a⟩
      · exact .inl ⟨b, a⟩
theorem nodup_filter_range (p : Nat → Bool) (n : Nat) : ((List.range n).filter p).Nodup := List.Pairwise.filter p List.nodup_range
theorem nodup_map_on {α β : Type} (f : α → β) : ∀ (l : List α), l.Nodup → (∀ x ∈ l, ∀ y ∈ l, f x = f y → x = y) → (l.map f).Nodup
  | [], _, _ => by simp
  | x :: l, hn, hi => by
    rw [List.nodup_cons] at hn
    rw [List.map_cons, List.nodup_cons]
    refine ⟨fun z => ?_, nodup_map_on f l hn.2 fun a ha b hb => hi a (List.mem_cons_of_mem _ ha) b (List.mem_cons_of_mem _ hb)⟩
    obtain ⟨y, hy, e⟩ := List.mem_map.1 z
    have := hi x List.mem_cons_self y (List.mem_cons_of_mem _ hy) e.symm
    exact hn.1 (this ▸ hy)
/-- As many passages as cells of the tree but the root. -/
theorem Par.count {w h o st : Int} {S : Int → Bool} {par gp : Int → Int} {dep : Int → Nat} (P : Par w h st S par gp dep) (hm : mazeOk w h o = true)
    (hb : ∀ g, isGap w h g = true → (bit o g = true ↔ ∃ c, isCell w h c = true ∧ S c = true ∧ c ≠ st ∧ gp c = g)) :
    popN 24 o.toNat = ((List.range (cells w h).toNat).filter fun j : Nat => S (j : Int) && decide ((j : Int) ≠ st)).length := by
  have hmo := mazeOk_ok hm
  have cell : ∀ j : Nat, j ∈ (List.range (cells w h).toNat).filter (fun j : Nat => S (j : Int) && decide ((j : Int) ≠ st)) ↔ isCell w h (j : Int) = true ∧ S (j : Int) = true ∧ (j : Int) ≠ st := by
    intro j
    rw [List.mem_filter, List.mem_range, Bool.and_eq_true, decide_eq_true_eq]
    constructor
    · rintro ⟨a, b, c⟩; exact ⟨cell_nat a, b, c⟩
    · rintro ⟨a, b, c⟩; exact ⟨by have := cellD_lt a; omega, b, c⟩
  have key : (((List.range (cells w h).toNat).filter fun j : Nat => S (j : Int) && decide ((j : Int) ≠ st)).map fun j : Nat => (gp (j : Int)).toNat).Perm ((List.range 24).filter fun i => o.toNat.testBit i) := by
    refine (List.perm_ext_iff_of_nodup (nodup_map_on _ _ (nodup_filter_range _ _) fun x hx y hy e => ?_) (nodup_filter_range _ _)).2 fun g => ?_
    · obtain ⟨a, b, c⟩ := (cell x).1 hx
      obtain ⟨a', b', c'⟩ := (cell y).1 hy
      have g1 := gap_lt (P.gap _ a b c).1
      have g2 := gap_lt (P.gap _ a' b' c').1
      have := P.inj a b c a' b' c' (by omega)
      omega
    · rw [List.mem_map, List.mem_filter, List.mem_range]
      constructor
      · rintro ⟨j, hj, rfl⟩
        obtain ⟨a, b, c⟩ := (cell j).1 hj
        have g0 := (P.gap _ a b c).1
        have g1 := gap24 g0
        refine ⟨g1.2, ?_⟩
        exact (hb _ g0).2 ⟨(j : Int), a, b, c, rfl⟩
      · rintro ⟨hg, ht⟩
        have hgg : isGap w h (g : Int) = true := by
          refine Classical.byContradiction fun z => ?_
          have hlt := mazeOk_lt hm
          have := bit_ge hlt (i := g) (by
            refine Classical.byContradiction fun q => z ?_
            exact gap_nat (by omega))
          rw [this] at ht
          cases ht
        have hbit : bit o (g : Int) = true := by unfold bit; rw [Int.toNat_natCast]; exact ht
        obtain ⟨c, hc, hS, hn, e⟩ := (hb _ hgg).1 hbit
        have hcl := cellD_lt hc
        refine ⟨c.toNat, (cell _).2 ?_, ?_⟩
        · rw [show ((c.toNat : Nat) : Int) = c by omega]; exact ⟨hc, hS, hn⟩
        · rw [show ((c.toNat : Nat) : Int) = c by omega, e]
          simp
  have := key.length_eq
  rw [List.length_map] at this
  unfold popN
  exact this.symm
end Go.Proofs.Ytnipocpbpcaepaa.L
