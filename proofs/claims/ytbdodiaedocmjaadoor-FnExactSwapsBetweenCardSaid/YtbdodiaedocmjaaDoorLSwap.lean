/- A way through a forest, gap by gap: it uses just the passages without which its ends are apart. And what a swap does to a perfect maze. -/

import Derived.Test.YtbdodiaedocmjaaDoorLTrees
import Derived.Test.YtbdodiaedocmjaaDoorLShort
import Derived.Test.YtbdodiaedocmjaaDoorLSort
namespace Go.Proofs.YtbdodiaedocmjaaDoor.L
open Go.RowKit Go.Proofs.YtbdodiaedocmjaaDoor.X Go.Proofs.YtbdodiaedocmjaaDoorW.PrintWords Go.Proofs.YtbdodiaedocmjaaDoorW.PrintLast Go.Proofs.YtbdodiaedocmjaaDoorW.PrintMore
set_option linter.unusedSimpArgs false
set_option linter.unusedVariables false

/-- A way that comes nearer with each step: directions, gaps. -/
inductive Wy (w h o : Int) (f : Int → Int) (b : Int) : Int → List Int → List Int → Prop
  | stop : Wy w h o f b b [] []
  | go {c t : Int} {ds gs : List Int} : 0 ≤ t → t ≤ 3 → 0 ≤ step w h o c t → f (step w h o c t) < f c → Wy w h o f b (step w h o c t) ds gs → Wy w h o f b c (t :: ds) (gapAt w h c t :: gs)
section
variable {w h o b : Int} {f : Int → Int}
theorem step_gap {c t : Int} (t0 : 0 ≤ t) (t3 : t ≤ 3) (hs : 0 ≤ step w h o c t) : isGap w h (gapAt w h c t) = true ∧ bit o (gapAt w h c t) = true ∧ ((c = endA w h (gapAt w h c t) ∧ step w h o c t = endB w h (gapAt w h c t)) ∨ (c = endB w h (gapAt w h c t) ∧ step w h o c t = endA w h (gapAt w h c t))) := by
  rcases step_range w h o c t with e | ⟨hm, hc, _, hn, hg, hb⟩
  · omega
  · have := nb_tells hc t0 t3 (by omega)
    rw [hn] at this
    exact ⟨this.1, hb, this.2.2.1⟩
theorem step_without {c t g : Int} (hm : mazeOk w h o = true) (hg : isGap w h g = true) (t0 : 0 ≤ t) (t3 : t ≤ 3) (hs : 0 ≤ step w h o c t) (hne : gapAt w h c t ≠ g) : step w h (withO o g false) c t = step w h o c t := by
  have hq := step_gap t0 t3 hs
  have hm' := mazeOk_with false hm hg
  rw [step_of hm' hq.1 (by rw [bit_withO o g _ false (gap_lt hg).1 (gap_lt hq.1).1, if_neg (fun e => hne e.symm)]; exact hq.2.1), step_of hm hq.1 hq.2.1]
theorem Wy.gaps {c : Int} {ds gs : List Int} (p : Wy w h o f b c ds gs) : ∀ g ∈ gs, isGap w h g = true ∧ bit o g = true := by
  induction p with
  | stop => intro g hg; cases hg
  | go t0 t3 hs hf _ ih =>
    intro g hg
    rcases List.mem_cons.1 hg with rfl | hg
    · have := step_gap t0 t3 hs
      exact ⟨this.1, this.2.1⟩
    · exact ih g hg
theorem Wy.without {c : Int} {ds gs : List Int} {g : Int} (hm : mazeOk w h o = true) (hg : isGap w h g = true) (p : Wy w h o f b c ds gs) : g ∉ gs → Rch w h (withO o g false) c b := by
  induction p with
  | stop => intro _; exact .refl
  | @go c t ds gs t0 t3 hs hf _ ih =>
    intro hn
    rw [List.mem_cons, not_or] at hn
    have e := step_without hm hg t0 t3 hs (fun q => hn.1 q.symm)
    have r : Rch w h (withO o g false) c (step w h (withO o g false) c t) := Rch.step .refl t0 t3 (by rw [e]; exact hs)
    rw [e] at r
    exact r.trans (ih hn.2)
theorem Wy.ends {c : Int} {ds gs : List Int} (p : Wy w h o f b c ds gs) : ∀ g ∈ gs, ∃ u v, f u ≤ f c ∧ f v < f u ∧ ((u = endA w h g ∧ v = endB w h g) ∨ (u = endB w h g ∧ v = endA w h g)) := by
  induction p with
  | stop => intro g hg; cases hg
  | @go c t ds gs t0 t3 hs hf _ ih =>
    intro g hg
    rcases List.mem_cons.1 hg with rfl | hg
    · exact ⟨c, step w h o c t, Int.le_refl _, hf, (step_gap t0 t3 hs).2.2⟩
    · obtain ⟨u, v, h1, h2, h3⟩ := ih g hg
      exact ⟨u, v, by omega, h2, h3⟩
/-- In a forest: without a passage of the way its ends are apart. -/
theorem Wy.apart {c : Int} {ds gs : List Int} {g : Int} (hm : mazeOk w h o = true) (hf : forest w h o = true) (p : Wy w h o f b c ds gs) : g ∈ gs → ¬ Rch w h (withO o g false) c b := by
  induction p with
  | stop => intro hg; cases hg
  | @go c t ds gs t0 t3 hs hlt p ih =>
    intro hg r
    have hgap : isGap w h g = true ∧ bit o g = true := (Wy.go t0 t3 hs hlt p).gaps g hg
    have hm' := mazeOk_with false hm hgap.1
    have hbk := with_back (o := o) (g := g) (mazeOk_ok hm).2.1 (gap_lt hgap.1).1 hgap.2
    have hbf : bit (withO o g false) g = false := by
      have := bit_withO o g g false (gap_lt hgap.1).1 (gap_lt hgap.1).1
      rw [if_pos rfl] at this
      exact this
    by_cases e : g = gapAt w h c t
    · have hn : g ∉ gs := fun hg' => by
        obtain ⟨u, v, h1, h2, h3⟩ := p.ends g hg'
        have h4 := (step_gap t0 t3 hs).2.2
        rw [← e] at h4
        rcases h3 with ⟨a1, a2⟩ | ⟨a1, a2⟩ <;> rcases h4 with ⟨b1, b2⟩ | ⟨b1, b2⟩
        · rw [a1, ← b1] at h1; omega
        · rw [a1, ← b2] at h2; rw [a2, ← b1] at h2; omega
        · rw [a1, ← b2] at h2; rw [a2, ← b1] at h2; omega
        · rw [a1, ← b1] at h1; omega
      have r2 := p.without hm hgap.1 hn
      have hd := forest_down hm' hgap.1 hbf (by rw [hbk]; exact hf)
      have hw := (wouldJoin_iff hm' hgap.1 hbf).1 hd.2
      have r3 : Rch w h (withO o g false) c (step w h o c t) := r.trans (r2.symm hm')
      have h4 := (step_gap t0 t3 hs).2.2
      rw [← e] at h4
      rcases h4 with ⟨b1, b2⟩ | ⟨b1, b2⟩
      · rw [b2, b1] at r3; exact hw r3
      · rw [b2, b1] at r3; exact hw (r3.symm hm')
    · have e2 := step_without hm hgap.1 t0 t3 hs (fun q => e q.symm)
      have r1 : Rch w h (withO o g false) c (step w h (withO o g false) c t) := Rch.step .refl t0 t3 (by rw [e2]; exact hs)
      rw [e2] at r1
      rcases List.mem_cons.1 hg with q | hg
      · exact e q
      · exact ih hg ((r1.symm hm').trans r)
theorem Wy.iff {c : Int} {ds gs : List Int} {g : Int} (hm : mazeOk w h o = true) (hf : forest w h o = true) (p : Wy w h o f b c ds gs) : g ∈ gs ↔ isGap w h g = true ∧ bit o g = true ∧ ¬ Rch w h (withO o g false) c b := by
  constructor
  · exact fun hg => ⟨(p.gaps g hg).1, (p.gaps g hg).2, p.apart hm hf hg⟩
  · rintro ⟨h1, h2, h3⟩
    exact Classical.byContradiction fun hn => h3 (p.without hm h1 hn)
end
theorem perfect_parts {w h o : Int} (hp : perfect w h o = true) : mazeOk w h o = true ∧ conn w h o = true ∧ (popN 24 o.toNat : Int) = cells w h - 1 ∧ forest w h o = true := by
  have hp' := hp
  unfold perfect at hp'
  simp only [Bool.and_eq_true, beq_iff_eq] at hp'
  have hm : mazeOk w h o = true := Classical.byContradiction fun z => by
    have := hp'.1
    unfold conn at this
    rw [parts_no z] at this
    cases this
  have hpop : (popN 24 o.toNat : Int) = cells w h - 1 := by
    have := hp'.2
    unfold passages at this
    rwa [if_pos hm] at this
  exact ⟨hm, hp'.1, hpop, by rw [← perfect_forest hm hpop]; exact hp⟩
theorem perfect_mk {w h o : Int} (hm : mazeOk w h o = true) (hpop : (popN 24 o.toNat : Int) = cells w h - 1) (hf : forest w h o = true) : perfect w h o = true := by rw [perfect_forest hm hpop]; exact hf
theorem pop_less {w h o g : Int} (hm : mazeOk w h o = true) (hg : isGap w h g = true) (hb : bit o g = true) : popN 24 (withO o g false).toNat + 1 = popN 24 o.toNat := by
  have hbf : bit (withO o g false) g = false := by
    have := bit_withO o g g false (gap_lt hg).1 (gap_lt hg).1
    rw [if_pos rfl] at this
    exact this
  have := pop_with (o := withO o g false) hg hbf
  rwa [with_back (mazeOk_ok hm).2.1 (gap_lt hg).1 hb] at this
/-- A number of open gaps is known by its bits. -/
theorem open_ext {w h o o' : Int} (hm : mazeOk w h o = true) (hm' : mazeOk w h o' = true) (e : ∀ g, isGap w h g = true → bit o g = bit o' g) : o = o' := by
  have a := mazeOk_ok hm
  have b := mazeOk_ok hm'
  have hlt := mazeOk_lt hm
  have hlt' := mazeOk_lt hm'
  have : o.toNat = o'.toNat := by
    apply Nat.eq_of_testBit_eq
    intro i
    by_cases hi : i < (gaps w h).toNat
    · have := e (i : Int) (gap_nat hi)
      unfold bit at this
      rwa [Int.toNat_natCast] at this
    · rw [Nat.testBit_lt_two_pow (Nat.lt_of_lt_of_le hlt (Nat.pow_le_pow_right (by decide) (by omega))), Nat.testBit_lt_two_pow (Nat.lt_of_lt_of_le hlt' (Nat.pow_le_pow_right (by decide) (by omega)))]
  omega
/-- The gaps, in their order, whose closing parts two cells. -/
def lgP (w h o a b k : Int) : Bool := bit o k && decide (distOf w h (withO o k false) a b < 0)
def gapL (w h : Int) : List Int := (List.range (gaps w h).toNat).map fun j : Nat => (j : Int)
theorem mem_gapL {w h g : Int} : g ∈ gapL w h ↔ isGap w h g = true := by
  unfold gapL
  rw [List.mem_map]
  constructor
  · rintro ⟨j, hj, rfl⟩; exact gap_nat (List.mem_range.1 hj)
  · intro hg
    have := gap_lt hg
    exact ⟨g.toNat, List.mem_range.2 (by omega), by omega⟩
open Classical in
noncomputable def loopG (w h o g : Int) : List Int := if perfect w h o = true ∧ isGap w h g = true ∧ bit o g = false then (gapL w h).filter (lgP w h o (endA w h g) (endB w h g)) else []
theorem dist_neg {w h o a b : Int} (hm : mazeOk w h o = true) (ha : isCell w h a = true) (hb : isCell w h b = true) : distOf w h o a b < 0 ↔ ¬ Rch w h o a b := by
  have hd := (dist_tells (o := o) ha).2.1 b hb
  unfold distOf
  rw [if_pos ⟨has_of hm ha, hb⟩, ← hd]
  omega
theorem mem_loopG {w h o g k : Int} (hp : perfect w h o = true) (hg : isGap w h g = true) (hb : bit o g = false) : k ∈ loopG w h o g ↔ isGap w h k = true ∧ bit o k = true ∧ ¬ Rch w h (withO o k false) (endA w h g) (endB w h g) := by
  have hm := (perfect_parts hp).1
  have he := end_tells hg
  unfold loopG
  rw [if_pos ⟨hp, hg, hb⟩, List.mem_filter, mem_gapL]
  unfold lgP
  rw [Bool.and_eq_true, decide_eq_true_eq]
  constructor
  · rintro ⟨a, b, c⟩
    exact ⟨a, b, (dist_neg (mazeOk_with false hm a) he.1 he.2.1).1 c⟩
  · rintro ⟨a, b, c⟩
    exact ⟨a, b, (dist_neg (mazeOk_with false hm a) he.1 he.2.1).2 c⟩
/-- What the program lists: the gaps of the way, sorted. -/
theorem loopG_way {w h o g : Int} {f : Int → Int} (hp : perfect w h o = true) (hg : isGap w h g = true) (hb : bit o g = false) {ds gs : List Int} (p : Wy w h o f (endB w h g) (endA w h g) ds gs) : ord gs = loopG w h o g := by
  have hm := perfect_parts hp
  rw [ord_range (gaps w h).toNat gs fun x hx => by have := gap_lt (p.gaps x hx).1; omega]
  unfold loopG gapL
  rw [if_pos ⟨hp, hg, hb⟩, List.filter_map]
  congr 1
  apply List.filter_congr
  intro j hj
  rw [Bool.eq_iff_iff, decide_eq_true_eq, p.iff hm.1 hm.2.2.2]
  have hgj := gap_nat (List.mem_range.1 hj)
  have he := end_tells hg
  show _ ↔ lgP w h o (endA w h g) (endB w h g) (j : Int) = true
  unfold lgP
  rw [Bool.and_eq_true, decide_eq_true_eq, dist_neg (mazeOk_with false hm.1 hgj) he.1 he.2.1]
  exact ⟨fun z => z.2, fun z => ⟨hgj, z⟩⟩
/-- The swap: a gap opened, a passage of its loop closed. -/
theorem swap_perfect {w h o g k : Int} (hp : perfect w h o = true) (hg : isGap w h g = true) (hb : bit o g = false) (hk : k ∈ loopG w h o g) : perfect w h (withO (withO o g true) k false) = true ∧ ∀ x, 0 ≤ x → bit (withO (withO o g true) k false) x = if x = k then false else if x = g then true else bit o x := by
  obtain ⟨hm, hc, hpop, hf⟩ := perfect_parts hp
  obtain ⟨hkg, hkb, hkr⟩ := (mem_loopG hp hg hb).1 hk
  have hg0 := (gap_lt hg).1
  have hk0 := (gap_lt hkg).1
  have hne : k ≠ g := fun e => by rw [e, hb] at hkb; cases hkb
  have m1 := mazeOk_with false hm hkg
  have m2 := mazeOk_with true hm hg
  have m3 := mazeOk_with false m2 hkg
  have m4 := mazeOk_with true m1 hg
  have b3 : ∀ x, 0 ≤ x → bit (withO (withO o g true) k false) x = if x = k then false else if x = g then true else bit o x := fun x hx => by
    rw [bit_withO _ _ _ _ hk0 hx, bit_withO _ _ _ _ hg0 hx]
    by_cases e : k = x
    · rw [if_pos e, if_pos (show x = k from e.symm)]
    · rw [if_neg e, if_neg (show ¬ x = k from fun q => e q.symm)]
      by_cases e2 : g = x
      · rw [if_pos e2, if_pos (show x = g from e2.symm)]
      · rw [if_neg e2, if_neg (show ¬ x = g from fun q => e2 q.symm)]
  have e34 : withO (withO o g true) k false = withO (withO o k false) g true := open_ext m3 m4 fun x hx => by
    have hx0 := (gap_lt hx).1
    rw [b3 x hx0, bit_withO _ _ _ _ hg0 hx0, bit_withO _ _ _ _ hk0 hx0]
    by_cases e : x = k
    · rw [if_pos e, if_neg (show ¬ g = x from fun q => hne (by rw [← e, ← q])), if_pos (show k = x from e.symm)]
    · rw [if_neg e]
      by_cases e2 : x = g
      · rw [if_pos e2, if_pos (show g = x from e2.symm)]
      · rw [if_neg e2, if_neg (show ¬ g = x from fun q => e2 q.symm), if_neg (show ¬ k = x from fun q => e q.symm)]
  have bkf : bit (withO o k false) k = false := by
    have := bit_withO o k k false hk0 hk0
    rw [if_pos rfl] at this
    exact this
  have f1 := (forest_down m1 hkg bkf (by rw [with_back (mazeOk_ok hm).2.1 hk0 hkb]; exact hf)).1
  have bgf : bit (withO o k false) g = false := by
    rw [bit_withO o k g false hk0 hg0, if_neg hne]
    exact hb
  have f2 := forest_up m1 hg bgf f1 ((wouldJoin_iff m1 hg bgf).2 hkr)
  have p1 := pop_less hm hkg hkb
  have p2 := pop_with (o := withO o k false) hg bgf
  rw [e34] at b3 ⊢
  exact ⟨perfect_mk m4 (by omega) f2, b3⟩
/-- A gap of the other maze closes a loop that has a gap the other lacks. -/
theorem loop_other {w h a b g : Int} (ha : perfect w h a = true) (hb : perfect w h b = true) (hg : isGap w h g = true) (hga : bit a g = false) (hgb : bit b g = true) {f : Int → Int} {ds gs : List Int} (p : Wy w h a f (endB w h g) (endA w h g) ds gs) : ∃ k ∈ gs, bit b k = false := by
  apply Classical.byContradiction
  intro z
  have all : ∀ k ∈ gs, bit b k = true := fun k hk => by
    cases e : bit b k with
    | true => rfl
    | false => exact absurd ⟨k, hk, e⟩ z
  obtain ⟨am, _, _, _⟩ := perfect_parts ha
  obtain ⟨bm, _, _, bf⟩ := perfect_parts hb
  have m1 := mazeOk_with false bm hg
  have hg0 := (gap_lt hg).1
  have key : ∀ {c : Int} {ds gs : List Int}, Wy w h a f (endB w h g) c ds gs → (∀ k ∈ gs, bit b k = true) → Rch w h (withO b g false) c (endB w h g) := by
    intro c ds gs q
    induction q with
    | stop => intro _; exact .refl
    | @go c t ds gs t0 t3 hs hf _ ih =>
      intro hall
      have hq := step_gap t0 t3 hs
      have hne : gapAt w h c t ≠ g := fun e => by rw [e, hga] at hq; cases hq.2.1
      have hbt : bit (withO b g false) (gapAt w h c t) = true := by
        rw [bit_withO b g _ false hg0 (gap_lt hq.1).1, if_neg (fun e => hne e.symm)]
        exact hall _ List.mem_cons_self
      have e1 : step w h (withO b g false) c t = step w h a c t := by rw [step_of m1 hq.1 hbt, step_of am hq.1 hq.2.1]
      have r : Rch w h (withO b g false) c (step w h (withO b g false) c t) := Rch.step .refl t0 t3 (by rw [e1]; exact hs)
      rw [e1] at r
      exact r.trans (ih fun k hk => hall k (List.mem_cons_of_mem _ hk))
  have hbf : bit (withO b g false) g = false := by
    have := bit_withO b g g false hg0 hg0
    rw [if_pos rfl] at this
    exact this
  have hd := forest_down m1 hg hbf (by rw [with_back (mazeOk_ok bm).2.1 hg0 hgb]; exact bf)
  exact (wouldJoin_iff m1 hg hbf).1 hd.2 (key p all)
/-- From every cell of a connected maze there is a step nearer. -/
theorem nearer {w h o b c : Int} (hm : mazeOk w h o = true) (hb : isCell w h b = true) (hc : isCell w h c = true) (hr : Rch w h o b c) (hne : c ≠ b) : ∃ t, 0 ≤ t ∧ t ≤ 3 ∧ 0 ≤ step w h o c t ∧ rd (dist w h o b) (step w h o c t) < rd (dist w h o b) c := by
  obtain ⟨n, hn⟩ := rch_walk hr
  have hw := (dist_short hb hn).2
  generalize hk : rd (dist w h o b) c = k at hw
  cases hw with
  | refl => exact absurd rfl hne
  | @step x n t hx t0 t3 hs =>
    obtain ⟨t', a0, a3, hs, ae⟩ := adj_step hm (step_adj t0 t3 hs).symm
    refine ⟨t', a0, a3, hs, ?_⟩
    rw [ae]
    have := (dist_short hb hx).1
    omega
end Go.Proofs.YtbdodiaedocmjaaDoor.L
