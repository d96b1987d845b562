/- What it is to be connected: every cell is come to. -/

import Derived.Test.YtnipocpbpcaepaaLParts
namespace Go.Proofs.Ytnipocpbpcaepaa.L
open Go.RowKit Go.Proofs.Ytnipocpbpcaepaa.X Go.Proofs.YtnipocpbpcaepaaW.PrintWords Go.Proofs.YtnipocpbpcaepaaW.PrintLast Go.Proofs.YtnipocpbpcaepaaW.PrintMore
set_option linter.unusedSimpArgs false
set_option linter.unusedVariables false

theorem conn_iff {w h o st : Int} (hm : mazeOk w h o = true) (hs : isCell w h st = true) : conn w h o = true ↔ ∀ c, isCell w h c = true → Rch w h o st c := by
  have hr := cells_range w h
  have hsl := cellD_lt hs
  have h0c : isCell w h 0 = true := cell_of (by omega) (by omega)
  have rep0 : isRep w h o ((0 : Nat) : Int) = true := (rep_iff (has_of hm h0c)).2 fun y hy => (cellD_lt (rch_cell h0c hy)).1
  have e1 : conn w h o = true ↔ parts w h o = 1 := by
    unfold conn countParts
    rw [if_pos hm, beq_iff_eq]
    omega
  rw [e1]
  constructor
  · intro hp
    have zero : ∀ c, isCell w h c = true → Rch w h o c 0 := by
      intro c hc
      have hd := reached_head (has_of hm hc)
      have hdc := rch_cell hc hd.1
      have hdl := cellD_lt hdc
      have hrep : isRep w h o (rd (reached w h o c) 0) = true := (rep_iff (has_of hm hdc)).2 fun y hy => hd.2 y (hd.1.trans hy)
      by_cases e : rd (reached w h o c) 0 = 0
      · rw [← e]; exact hd.1
      · exfalso
        have f := filter_minus (fun j : Nat => isRep w h o (j : Int)) (fun j : Nat => isRep w h o (j : Int) && decide (j ≠ (rd (reached w h o c) 0).toNat)) (rd (reached w h o c) 0).toNat (by show isRep w h o (((rd (reached w h o c) 0).toNat : Nat) : Int) = true; rw [show (((rd (reached w h o c) 0).toNat : Nat) : Int) = rd (reached w h o c) 0 by omega]; exact hrep) (fun _ => rfl) (cells w h).toNat (by omega)
        have g : 0 ∈ (List.range (cells w h).toNat).filter fun j : Nat => isRep w h o (j : Int) && decide (j ≠ (rd (reached w h o c) 0).toNat) := by
          refine List.mem_filter.2 ⟨List.mem_range.2 (by omega), ?_⟩
          rw [rep0, decide_eq_true (show (0 : Nat) ≠ (rd (reached w h o c) 0).toNat by omega)]
          rfl
        have := List.length_pos_of_mem g
        unfold parts at hp
        omega
    exact fun c hc => (zero st hs).trans ((zero c hc).symm hm)
  · intro ha
    have e2 : ((List.range (cells w h).toNat).filter fun j : Nat => isRep w h o (j : Int)) = (List.range (cells w h).toNat).filter fun j : Nat => decide (j = 0) := by
      refine filter_range_congr fun c hc => ?_
      have hcc := cell_nat hc
      rw [Bool.eq_iff_iff, rep_iff (has_of hm hcc), decide_eq_true_eq]
      constructor
      · intro z
        have := z 0 (((ha _ hcc).symm hm).trans (ha 0 h0c))
        omega
      · intro z y hy
        have := (cellD_lt (rch_cell hcc hy)).1
        omega
    unfold parts
    rw [e2]
    obtain ⟨n, hn⟩ : ∃ n, (cells w h).toNat = n + 1 := ⟨(cells w h).toNat - 1, by omega⟩
    rw [hn, List.range_succ_eq_map, List.filter_cons, if_pos (by simp), List.length_cons, List.length_eq_zero_iff.2]
    rw [List.filter_eq_nil_iff]
    intro x hx
    obtain ⟨y, _, rfl⟩ := List.mem_map.1 hx
    simp
end Go.Proofs.Ytnipocpbpcaepaa.L
