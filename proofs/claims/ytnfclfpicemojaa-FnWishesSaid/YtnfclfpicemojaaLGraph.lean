/- Passages as pairs of cells: the ends of a gap, paths, and what opening one gap does to them. -/
import Derived.Test.YtnfclfpicemojaaXimplEndsOf
import Derived.Test.YtnfclfpicemojaaLDist
import Derived.Test.YtnfclfpicemojaaLBits
namespace Go.Proofs.Ytnfclfpicemojaa.L
open Go.RowKit Go.Proofs.Ytnfclfpicemojaa.X Go.Proofs.YtnfclfpicemojaaW.PrintWords Go.Proofs.YtnfclfpicemojaaW.PrintLast Go.Proofs.YtnfclfpicemojaaW.PrintMore
set_option linter.unusedSimpArgs false
set_option linter.unusedVariables false

def endA (w h g : Int) : Int := if g < (w - 1) * h then g / (w - 1) * w + g % (w - 1) else g - (w - 1) * h
def endB (w h g : Int) : Int := if g < (w - 1) * h then g / (w - 1) * w + g % (w - 1) + 1 else g - (w - 1) * h + w
theorem fin_int {n : Nat} {x : Int} (h0 : 0 ≤ x) (h1 : x < (n : Int)) : ∃ y : Fin n, x = ((y.val : Nat) : Int) := ⟨⟨x.toNat, by omega⟩, by simp; omega⟩
def nbFacts (w h c t : Int) : Bool := !(isCell w h c && decide (0 ≤ nb w h c t)) ||
  (isGap w h (gapAt w h c t) && (isCell w h (nb w h c t) && (((decide (c = endA w h (gapAt w h c t)) && decide (nb w h c t = endB w h (gapAt w h c t))) || (decide (c = endB w h (gapAt w h c t)) && decide (nb w h c t = endA w h (gapAt w h c t)))) &&
    (decide (nb w h (nb w h c t) ((t + 2) % 4) = c) && decide (gapAt w h (nb w h c t) ((t + 2) % 4) = gapAt w h c t)))))
theorem nb_facts : ∀ (w h : Fin 5) (c : Fin 16) (t : Fin 4), nbFacts (w.val : Int) (h.val : Int) (c.val : Int) (t.val : Int) = true := by decide +kernel
def endFacts (w h g : Int) : Bool := !(isGap w h g) ||
  (isCell w h (endA w h g) && (isCell w h (endB w h g) && (decide (endA w h g < endB w h g) && ([0, 1, 2, 3] : List Int).any fun t => decide (nb w h (endA w h g) t = endB w h g) && (decide (gapAt w h (endA w h g) t = g) && (decide (nb w h (endB w h g) ((t + 2) % 4) = endA w h g) && decide (gapAt w h (endB w h g) ((t + 2) % 4) = g))))))
theorem end_facts : ∀ (w h : Fin 5) (g : Fin 24), endFacts (w.val : Int) (h.val : Int) (g.val : Int) = true := by decide +kernel
theorem nb_tells {w h c t : Int} (hc : isCell w h c = true) (t0 : 0 ≤ t) (t3 : t ≤ 3) (hn : 0 ≤ nb w h c t) :
    isGap w h (gapAt w h c t) = true ∧ isCell w h (nb w h c t) = true ∧ ((c = endA w h (gapAt w h c t) ∧ nb w h c t = endB w h (gapAt w h c t)) ∨ (c = endB w h (gapAt w h c t) ∧ nb w h c t = endA w h (gapAt w h c t))) ∧
      nb w h (nb w h c t) ((t + 2) % 4) = c ∧ gapAt w h (nb w h c t) ((t + 2) % 4) = gapAt w h c t := by
  obtain ⟨hg, h0, _, h15⟩ := isCell_ok hc
  have hg' := gridOk_iff.1 hg
  obtain ⟨W, rfl⟩ := fin_int (n := 5) (x := w) (by omega) (by omega)
  obtain ⟨H, rfl⟩ := fin_int (n := 5) (x := h) (by omega) (by omega)
  obtain ⟨C, rfl⟩ := fin_int (n := 16) h0 (by omega)
  obtain ⟨T, rfl⟩ := fin_int (n := 4) t0 (by omega)
  have f := nb_facts W H C T
  unfold nbFacts at f
  simp only [hc, hn, decide_true, Bool.and_true, Bool.not_true, Bool.false_or, Bool.and_eq_true, Bool.or_eq_true, decide_eq_true_eq] at f
  exact ⟨f.1, f.2.1, f.2.2.1, f.2.2.2.1, f.2.2.2.2⟩
theorem end_tells {w h g : Int} (hg : isGap w h g = true) : isCell w h (endA w h g) = true ∧ isCell w h (endB w h g) = true ∧ endA w h g < endB w h g ∧
    ∃ t, 0 ≤ t ∧ t ≤ 3 ∧ nb w h (endA w h g) t = endB w h g ∧ gapAt w h (endA w h g) t = g ∧ nb w h (endB w h g) ((t + 2) % 4) = endA w h g ∧ gapAt w h (endB w h g) ((t + 2) % 4) = g := by
  have hr := gaps_range w h
  have h1 : 0 ≤ g ∧ g < gaps w h := by unfold isGap at hg; exact of_decide_eq_true hg
  have hgr : gridOk w h = true := by
    cases z : gridOk w h with
    | true => rfl
    | false => rw [gaps_no z] at h1; omega
  have hg' := gridOk_iff.1 hgr
  obtain ⟨W, rfl⟩ := fin_int (n := 5) (x := w) (by omega) (by omega)
  obtain ⟨H, rfl⟩ := fin_int (n := 5) (x := h) (by omega) (by omega)
  obtain ⟨G, rfl⟩ := fin_int (n := 24) h1.1 (by omega)
  have f := end_facts W H G
  unfold endFacts at f
  simp only [hg, Bool.not_true, Bool.false_or, Bool.and_eq_true, decide_eq_true_eq, List.any_eq_true] at f
  obtain ⟨a, b, c, t, ht, d⟩ := f
  refine ⟨a, b, c, t, ?_, ?_, d⟩
  · simp only [List.mem_cons, List.not_mem_nil, or_false] at ht; omega
  · simp only [List.mem_cons, List.not_mem_nil, or_false] at ht; omega
theorem gap_lt {w h g : Int} (hg : isGap w h g = true) : 0 ≤ g ∧ g < gaps w h := by unfold isGap at hg; exact of_decide_eq_true hg
/-- An open passage between two cells. -/
def Adj (w h o x y : Int) : Prop := ∃ g, isGap w h g = true ∧ bit o g = true ∧ ((x = endA w h g ∧ y = endB w h g) ∨ (x = endB w h g ∧ y = endA w h g))
theorem Adj.symm {w h o x y : Int} (a : Adj w h o x y) : Adj w h o y x := by
  obtain ⟨g, a, b, c⟩ := a
  exact ⟨g, a, b, c.symm.imp (fun z => ⟨z.2, z.1⟩) (fun z => ⟨z.2, z.1⟩)⟩
theorem step_adj {w h o x t : Int} (t0 : 0 ≤ t) (t3 : t ≤ 3) (hs : 0 ≤ step w h o x t) : Adj w h o x (step w h o x t) := by
  rcases step_range w h o x t with e | ⟨hm, hc, hc', hn, hg, hb⟩
  · omega
  · have := nb_tells hc t0 t3 (by omega)
    rw [hn] at this
    exact ⟨gapAt w h x t, this.1, hb, this.2.2.1⟩
theorem step_of {w h o c t : Int} (hm : mazeOk w h o = true) (hg : isGap w h (gapAt w h c t) = true) (hb : bit o (gapAt w h c t) = true) : step w h o c t = nb w h c t := by
  rw [step_eq _ _ _ _ _ hm, if_pos ⟨(gap_lt hg).1, hb⟩]
theorem adj_step {w h o x y : Int} (hm : mazeOk w h o = true) (a : Adj w h o x y) : ∃ t, 0 ≤ t ∧ t ≤ 3 ∧ 0 ≤ step w h o x t ∧ step w h o x t = y := by
  obtain ⟨g, hg, hb, c⟩ := a
  obtain ⟨ha, hb', hlt, t, t0, t3, n1, g1, n2, g2⟩ := end_tells hg
  have la := cellD_lt ha
  have lb := cellD_lt hb'
  rcases c with ⟨rfl, rfl⟩ | ⟨rfl, rfl⟩
  · have e := step_of (c := endA w h g) (t := t) hm (by rw [g1]; exact hg) (by rw [g1]; exact hb)
    exact ⟨t, t0, t3, by rw [e, n1]; omega, by rw [e, n1]⟩
  · have e := step_of (c := endB w h g) (t := (t + 2) % 4) hm (by rw [g2]; exact hg) (by rw [g2]; exact hb)
    exact ⟨(t + 2) % 4, by omega, by omega, by rw [e, n2]; omega, by rw [e, n2]⟩
inductive Path (E : Int → Int → Prop) (a : Int) : Int → Prop
  | refl : Path E a a
  | step {x y : Int} : Path E a x → E x y → Path E a y
theorem Path.trans {E : Int → Int → Prop} {a b c : Int} (p : Path E a b) (q : Path E b c) : Path E a c := by
  induction q with
  | refl => exact p
  | step _ e ih => exact ih.step e
theorem Path.one {E : Int → Int → Prop} {a b : Int} (e : E a b) : Path E a b := Path.refl.step e
theorem Path.symm {E : Int → Int → Prop} (hs : ∀ x y, E x y → E y x) {a b : Int} (p : Path E a b) : Path E b a := by
  induction p with
  | refl => exact .refl
  | step _ e ih => exact (Path.one (hs _ _ e)).trans ih
theorem Path.mono {E E' : Int → Int → Prop} (hs : ∀ x y, E x y → E' x y) {a b : Int} (p : Path E a b) : Path E' a b := by
  induction p with
  | refl => exact .refl
  | step _ e ih => exact ih.step (hs _ _ e)
theorem rch_path {w h o a x : Int} (hm : mazeOk w h o = true) : Rch w h o a x ↔ Path (Adj w h o) a x := by
  constructor
  · intro r
    induction r with
    | refl => exact .refl
    | step _ t0 t3 hs ih => exact ih.step (step_adj t0 t3 hs)
  · intro p
    induction p with
    | refl => exact .refl
    | step _ e ih =>
      obtain ⟨t, t0, t3, hs, rfl⟩ := adj_step hm e
      exact ih.step t0 t3 hs
theorem Rch.symm {w h o a x : Int} (hm : mazeOk w h o = true) (r : Rch w h o a x) : Rch w h o x a := (rch_path hm).2 (((rch_path hm).1 r).symm fun _ _ e => e.symm)
theorem Rch.trans {w h o a x y : Int} (r : Rch w h o a x) (s : Rch w h o x y) : Rch w h o a y := by
  induction s with
  | refl => exact r
  | step _ t0 t3 hs ih => exact ih.step t0 t3 hs
/-- One more passage, between a and b. -/
theorem path_join {E E' : Int → Int → Prop} {a b : Int} (hs : ∀ x y, E x y → E y x) (hE : ∀ x y, E' x y ↔ E x y ∨ (x = a ∧ y = b) ∨ (x = b ∧ y = a)) (x y : Int) :
    Path E' x y ↔ Path E x y ∨ (Path E x a ∧ Path E b y) ∨ (Path E x b ∧ Path E a y) := by
  have up : ∀ {u v : Int}, Path E u v → Path E' u v := fun p => p.mono fun _ _ e => (hE _ _).2 (.inl e)
  constructor
  · intro p
    induction p with
    | refl => exact .inl .refl
    | step _ e ih =>
      rcases (hE _ _).1 e with e | ⟨rfl, rfl⟩ | ⟨rfl, rfl⟩
      · rcases ih with i | ⟨i, j⟩ | ⟨i, j⟩
        · exact .inl (i.step e)
        · exact .inr (.inl ⟨i, j.step e⟩)
        · exact .inr (.inr ⟨i, j.step e⟩)
      · rcases ih with i | ⟨i, j⟩ | ⟨i, j⟩
        · exact .inr (.inl ⟨i, .refl⟩)
        · exact .inr (.inl ⟨i, .refl⟩)
        · exact .inl i
      · rcases ih with i | ⟨i, j⟩ | ⟨i, j⟩
        · exact .inr (.inr ⟨i, .refl⟩)
        · exact .inl i
        · exact .inr (.inr ⟨i, .refl⟩)
  · rintro (p | ⟨p, q⟩ | ⟨p, q⟩)
    · exact up p
    · exact ((up p).step ((hE _ _).2 (.inr (.inl ⟨rfl, rfl⟩)))).trans (up q)
    · exact ((up p).step ((hE _ _).2 (.inr (.inr ⟨rfl, rfl⟩)))).trans (up q)
theorem bit_with {o g i : Int} (hg : 0 ≤ g) (hi : 0 ≤ i) : bit (withO o g true) i = true ↔ bit o i = true ∨ i = g := by
  rw [bit_withO o g i true hg hi]
  by_cases e : g = i
  · simp [e]
  · rw [if_neg e]
    exact ⟨.inl, fun z => z.resolve_right fun q => e q.symm⟩
theorem adj_with {w h o g x y : Int} (hg : isGap w h g = true) : Adj w h (withO o g true) x y ↔ Adj w h o x y ∨ (x = endA w h g ∧ y = endB w h g) ∨ (x = endB w h g ∧ y = endA w h g) := by
  have hg0 := (gap_lt hg).1
  constructor
  · rintro ⟨i, hi, hb, c⟩
    rcases (bit_with hg0 (gap_lt hi).1).1 hb with hb | rfl
    · exact .inl ⟨i, hi, hb, c⟩
    · exact .inr c
  · rintro (⟨i, hi, hb, c⟩ | c)
    · exact ⟨i, hi, (bit_with hg0 (gap_lt hi).1).2 (.inl hb), c⟩
    · exact ⟨g, hg, (bit_with hg0 hg0).2 (.inr rfl), c⟩
/-- Opening a gap: what can be come to then. -/
theorem rch_with {w h o g : Int} (hm : mazeOk w h o = true) (hg : isGap w h g = true) (x y : Int) :
    Rch w h (withO o g true) x y ↔ Rch w h o x y ∨ (Rch w h o x (endA w h g) ∧ Rch w h o (endB w h g) y) ∨ (Rch w h o x (endB w h g) ∧ Rch w h o (endA w h g) y) := by
  simp only [rch_path hm, rch_path (mazeOk_with true hm hg)]
  exact path_join (fun _ _ e => e.symm) (fun x y => adj_with hg) x y
theorem ends_parts {w h g : Int} (hg : isGap w h g = true) : gridOk w h = true ∧ 0 ≤ g ∧ g < 24 ∧ 0 ≤ (w - 1) * h ∧ (w - 1) * h ≤ 12 ∧ (g < (w - 1) * h → w ≠ 1 ∧ 0 ≤ g / (w - 1) ∧ g / (w - 1) ≤ 23 ∧ 0 ≤ g / (w - 1) * w ∧ g / (w - 1) * w ≤ 92 ∧ 0 ≤ g % (w - 1) ∧ g % (w - 1) ≤ 2) := by
  have h1 := gap_lt hg
  have hr := gaps_range w h
  have hgr : gridOk w h = true := by
    cases z : gridOk w h with
    | true => rfl
    | false => rw [gaps_no z] at h1; omega
  refine ⟨hgr, h1.1, by omega, ?_⟩
  have h24 : g < 24 := by omega
  obtain ⟨hw, hh⟩ := grid_cases hgr
  rcases hw with rfl | rfl | rfl | rfl <;> rcases hh with rfl | rfl | rfl | rfl <;> omega
theorem endsOf_calc {w h g : Int} (hg : isGap w h g = true) : (if g < wrap64 ((wrap64 (w - 1)) * h) then (if (wrap64 (w - 1)) = 0 then none else some (wrap64 ((wrap64 ((wrap64 (Int.tdiv g (wrap64 (w - 1)))) * w)) + (Int.tmod g (wrap64 (w - 1)))), wrap64 ((wrap64 ((wrap64 ((wrap64 (Int.tdiv g (wrap64 (w - 1)))) * w)) + (Int.tmod g (wrap64 (w - 1))))) + 1)))
    else some (wrap64 (g - (wrap64 ((wrap64 (w - 1)) * h))), wrap64 ((wrap64 (g - (wrap64 ((wrap64 (w - 1)) * h)))) + w))) = some (endA w h g, endB w h g) := by
  obtain ⟨hgr, g0, g24, m0, m1, f⟩ := ends_parts hg
  have hg' := gridOk_iff.1 hgr
  unfold endA endB
  rw [w64 (x := w - 1) (by omega) (by omega), w64 (x := (w - 1) * h) (by omega) (by omega), tmod_nn g0, tdiv_nn g0]
  by_cases z : g < (w - 1) * h
  · obtain ⟨a, b, c, d, e, p, q⟩ := f z
    rw [if_pos z, if_pos z, if_pos z, if_neg (by omega), w64 (x := g / (w - 1)) (by omega) (by omega), w64 (x := g / (w - 1) * w) (by omega) (by omega), w64 (x := g / (w - 1) * w + g % (w - 1)) (by omega) (by omega), w64 (by omega) (by omega)]
  · rw [if_neg z, if_neg z, if_neg z, w64 (x := g - (w - 1) * h) (by omega) (by omega), w64 (by omega) (by omega)]
theorem iEndsOf (w h g : Int) (hg : isGap w h g = true) : impl_EndsOf.f w h g = some (endA w h g, endB w h g) := by
  rw [← endsOf_calc hg]
  unfold impl_EndsOf.f
  rw [iisGap]
  simp only [Option.bind_some, hg, if_true]
  by_cases z : g < wrap64 ((wrap64 (w - 1)) * h)
  · rw [if_pos z, if_neg (by omega)]
  · rw [if_neg z, if_pos (by omega)]
end Go.Proofs.Ytnfclfpicemojaa.L
