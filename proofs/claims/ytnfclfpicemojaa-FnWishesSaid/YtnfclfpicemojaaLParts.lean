/- Parts of a maze: how many there are, and that opening a gap between two parts makes one of the two. -/
import Derived.Test.YtnfclfpicemojaaXcreach
import Derived.Test.YtnfclfpicemojaaLGraph
namespace Go.Proofs.Ytnfclfpicemojaa.L
open Go.RowKit Go.Proofs.Ytnfclfpicemojaa.X Go.Proofs.YtnfclfpicemojaaW.PrintWords Go.Proofs.YtnfclfpicemojaaW.PrintLast Go.Proofs.YtnfclfpicemojaaW.PrintMore
set_option linter.unusedSimpArgs false
set_option linter.unusedVariables false

theorem places_head : ∀ (l : List Int) (i x : Int), x ∈ places l i → rd (places l i) 0 ≤ x ∧ rd (places l i) 0 ∈ places l i
  | [], _, _, hx => by simp [places] at hx
  | y :: l, i, x, hx => by
    have hm := (mem_places (y :: l) i x).1 hx
    rw [places] at hx ⊢
    by_cases z : 0 ≤ y
    · rw [if_pos z]
      exact ⟨hm.1, List.mem_cons_self⟩
    · rw [if_neg z] at hx ⊢
      exact places_head l (i + 1) x hx
def isRep (w h o c : Int) : Bool := decide (rd (reached w h o c) 0 = c)
def parts (w h o : Int) : Nat := ((List.range (cells w h).toNat).filter fun (c : Nat) => isRep w h o (c : Int)).length
def countParts (w h o : Int) : Int := if mazeOk w h o = true then (parts w h o : Int) else 0
theorem reached_head {w h o c : Int} (z : has w h o c = true) : Rch w h o c (rd (reached w h o c) 0) ∧ ∀ y, Rch w h o c y → rd (reached w h o c) 0 ≤ y := by
  have key : ∀ y, Rch w h o c y → rd (reached w h o c) 0 ≤ y ∧ rd (reached w h o c) 0 ∈ reached w h o c := fun y r => by
    have := (mem_reached z).2 r
    unfold reached at this ⊢
    rw [if_pos z] at this ⊢
    exact places_head _ _ _ this
  exact ⟨(mem_reached z).1 (key c .refl).2, fun y r => (key y r).1⟩
theorem rep_iff {w h o c : Int} (z : has w h o c = true) : isRep w h o c = true ↔ ∀ y, Rch w h o c y → c ≤ y := by
  have hh := reached_head z
  unfold isRep
  rw [decide_eq_true_eq]
  constructor
  · intro e y r
    have := hh.2 y r
    omega
  · intro a
    have h1 := hh.2 c .refl
    have h2 := a _ hh.1
    omega
theorem has_of {w h o c : Int} (hm : mazeOk w h o = true) (hc : isCell w h c = true) : has w h o c = true := by unfold has; rw [hm, hc]; rfl
theorem filter_minus (p q : Nat → Bool) (m : Nat) (hp : p m = true) (hq : ∀ c, q c = (p c && decide (c ≠ m))) : ∀ n, m < n → ((List.range n).filter q).length + 1 = ((List.range n).filter p).length := by
  have low : ∀ n, n ≤ m → ((List.range n).filter q) = ((List.range n).filter p) := fun n hn => List.filter_congr fun x hx => by
    have := List.mem_range.1 hx
    rw [hq x, decide_eq_true (show x ≠ m by omega), Bool.and_true]
  intro n
  induction n with
  | zero => intro h; omega
  | succ n ih =>
    intro hn
    rw [List.range_succ, List.filter_append, List.filter_append, List.length_append, List.length_append]
    by_cases e : n = m
    · subst e
      rw [low n (Nat.le_refl _)]
      simp [hq, hp]
    · have h1 := ih (by omega)
      have h2 : q n = p n := by rw [hq n, decide_eq_true e, Bool.and_true]
      simp only [List.filter_cons, List.filter_nil, h2]
      omega
theorem filter_range_congr {p q : Nat → Bool} {n : Nat} (h : ∀ c, c < n → p c = q c) : (List.range n).filter p = (List.range n).filter q := List.filter_congr fun x hx => h x (List.mem_range.1 hx)
theorem cell_nat {w h : Int} {c : Nat} (hc : c < (cells w h).toNat) : isCell w h (c : Int) = true := cell_of (by omega) (by omega)
/-- Opening a gap between two parts. -/
theorem parts_join {w h o g : Int} (hm : mazeOk w h o = true) (hg : isGap w h g = true) (hx : ¬ Rch w h o (endA w h g) (endB w h g)) : parts w h (withO o g true) + 1 = parts w h o := by
  have hm' := mazeOk_with true hm hg
  obtain ⟨ca, cb, _, _⟩ := end_tells hg
  obtain ⟨pa, la⟩ := reached_head (has_of hm ca)
  obtain ⟨pb, lb⟩ := reached_head (has_of hm cb)
  have ra := rch_cell ca pa
  have rb := rch_cell cb pb
  have rw' := rch_with hm hg
  generalize endA w h g = a at *
  generalize endB w h g = b at *
  generalize rd (reached w h o a) 0 = u at *
  generalize rd (reached w h o b) 0 = v at *
  have hne : u ≠ v := fun e => hx (pa.trans (Rch.symm hm (e ▸ pb)))
  have lu : ∀ y, Rch w h o u y → u ≤ y := fun y r => la y (pa.trans r)
  have lv : ∀ y, Rch w h o v y → v ≤ y := fun y r => lb y (pb.trans r)
  have hu := cellD_lt ra
  have hv := cellD_lt rb
  obtain ⟨m, hmm⟩ : ∃ m : Nat, (m : Int) = (if u < v then v else u) := ⟨(if u < v then v else u).toNat, by split <;> omega⟩
  have hmlt : m < (cells w h).toNat := by split at hmm <;> omega
  have main : ∀ c : Nat, c < (cells w h).toNat → (isRep w h (withO o g true) (c : Int) = (isRep w h o (c : Int) && decide (c ≠ m))) := by
    intro c hc
    have hcc := cell_nat hc
    rw [Bool.eq_iff_iff, Bool.and_eq_true, decide_eq_true_eq, rep_iff (has_of hm' hcc), rep_iff (has_of hm hcc)]
    constructor
    · intro A
      refine ⟨fun y r => A y ((rw' _ _).2 (.inl r)), fun e => ?_⟩
      subst e
      split at hmm
      · rename_i z
        have := A u ((rw' _ _).2 (.inr (.inr ⟨by rw [hmm]; exact Rch.symm hm pb, pa⟩)))
        omega
      · rename_i z
        have := A v ((rw' _ _).2 (.inr (.inl ⟨by rw [hmm]; exact Rch.symm hm pa, pb⟩)))
        omega
    · rintro ⟨A, ne⟩ y r
      rcases (rw' _ _).1 r with r | ⟨r, s⟩ | ⟨r, s⟩
      · exact A y r
      · have h1 := A u (r.trans pa)
        have h2 := lu c (Rch.symm hm (r.trans pa))
        have h3 := lb y s
        split at hmm <;> omega
      · have h1 := A v (r.trans pb)
        have h2 := lv c (Rch.symm hm (r.trans pb))
        have h3 := la y s
        split at hmm <;> omega
  have hrep : isRep w h o (m : Int) = true := by
    rw [rep_iff (has_of hm (cell_nat hmlt))]
    split at hmm
    · rw [hmm]; exact lv
    · rw [hmm]; exact lu
  unfold parts
  rw [filter_range_congr main]
  exact filter_minus (fun c => isRep w h o (c : Int)) _ m hrep (fun c => rfl) _ hmlt
theorem parts_same {w h o g : Int} (hm : mazeOk w h o = true) (hg : isGap w h g = true) (hx : Rch w h o (endA w h g) (endB w h g)) : parts w h (withO o g true) = parts w h o := by
  have hm' := mazeOk_with true hm hg
  have key : ∀ x y, Rch w h (withO o g true) x y ↔ Rch w h o x y := fun x y => by
    rw [rch_with hm hg]
    exact ⟨fun z => z.elim id (fun z => z.elim (fun z => z.1.trans (hx.trans z.2)) (fun z => z.1.trans ((Rch.symm hm hx).trans z.2))), .inl⟩
  unfold parts
  rw [filter_range_congr (q := fun c => isRep w h o (c : Int)) fun c hc => ?_]
  have hcc := cell_nat hc
  rw [Bool.eq_iff_iff, rep_iff (has_of hm' hcc), rep_iff (has_of hm hcc)]
  simp only [key]
theorem parts_no {w h o : Int} (hm : ¬ mazeOk w h o = true) : countParts w h o = 0 := by unfold countParts; rw [if_neg hm]
theorem reached_first {w h o c : Int} (z : has w h o c = true) : 0 < ((reached w h o c).length : Int) := by
  have := (mem_reached z).2 (.refl)
  have : (reached w h o c).length ≠ 0 := fun e => by rw [List.eq_nil_of_length_eq_zero e] at this; cases this
  omega
theorem iCountParts_go (w h o : Int) (hm : mazeOk w h o = true) : ∀ (d k : Nat) (c : Nat), c ≤ (cells w h).toNat → (cells w h).toNat - c = d → 2 * d + 150 ≤ k →
    impl_CountParts.l0 k (((List.range c).filter fun (c : Nat) => isRep w h o (c : Int)).length : Int) (c : Int) w h o = some (parts w h o : Int) := by
  have hr := cells_range w h
  intro d
  induction d with
  | zero =>
    intro k c h1 hd hk
    obtain ⟨k, rfl⟩ : ∃ m, k = m + 1 := ⟨k - 1, by omega⟩
    rw [impl_CountParts.l0, iisIn1]
    simp only [Option.bind_some]
    rw [if_neg (fun q => by have := cellD_lt (has_parts q).2; omega), show c = (cells w h).toNat by omega]
    rfl
  | succ d ih =>
    intro k c h1 hd hk
    obtain ⟨k, rfl⟩ : ∃ m, k = m + 1 := ⟨k - 1, by omega⟩
    have hc : has w h o (c : Int) = true := has_of hm (cell_of (by omega) (by omega))
    have hl := List.length_filter_le (fun (c : Nat) => isRep w h o (c : Int)) (List.range c)
    rw [List.length_range] at hl
    rw [impl_CountParts.l0, iisIn1]
    simp only [Option.bind_some]
    rw [if_pos hc, iReached k w h o _ (by omega)]
    simp only [Option.bind_some]
    have r := ih k (c + 1) (by omega) (by omega) (by omega)
    rw [List.range_succ, List.filter_append, List.length_append, List.filter_cons] at r
    rw [if_pos (reached_first hc), w64 (by omega) (by omega), w64 (by omega) (by omega)]
    by_cases z : rd (reached w h o (c : Int)) 0 = (c : Int)
    · rw [if_pos (show isRep w h o (c : Int) = true from decide_eq_true z)] at r
      rw [if_pos z]
      exact r
    · rw [if_neg (show ¬ isRep w h o (c : Int) = true from fun q => z (of_decide_eq_true q))] at r
      rw [if_neg z]
      exact r
theorem iCountParts (k : Nat) (w h o : Int) (hk : 200 ≤ k) : impl_CountParts.f k w h o = some (countParts w h o) := by
  have hr := cells_range w h
  unfold impl_CountParts.f countParts
  by_cases hm : mazeOk w h o = true
  · rw [if_pos hm]
    exact iCountParts_go w h o hm (cells w h).toNat k 0 (by omega) (by omega) (by omega)
  · rw [if_neg hm]
    obtain ⟨k, rfl⟩ : ∃ m, k = m + 1 := ⟨k - 1, by omega⟩
    rw [impl_CountParts.l0, iisIn1]
    simp only [Option.bind_some]
    rw [if_neg (fun q => hm (has_parts q).1)]
def conn (w h o : Int) : Bool := countParts w h o == 1
theorem iConn (k : Nat) (w h o : Int) (hk : 200 ≤ k) : impl_IsConnected.f k w h o = some (conn w h o) := by
  unfold impl_IsConnected.f conn
  rw [iCountParts k w h o hk]
  rfl
end Go.Proofs.Ytnfclfpicemojaa.L
