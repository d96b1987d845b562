/- What a walk with a thread leaves: whatever can be come to has been seen, and where each cell was entered from is a tree. -/
import Derived.Test.YtceikdeladdbpaaXimplEnteredFrom
import Derived.Test.YtceikdeladdbpaaXimplThreadLength
import Derived.Test.YtceikdeladdbpaaXimplThreadWalk
import Derived.Test.YtceikdeladdbpaaLThread
import Derived.Test.YtceikdeladdbpaaLSpan
import Derived.Test.YtceikdeladdbpaaLShort
namespace Go.Proofs.Ytceikdeladdbpaa.L
open Go.RowKit Go.Proofs.Ytceikdeladdbpaa.X Go.Proofs.YtceikdeladdbpaaW.PrintWords Go.Proofs.YtceikdeladdbpaaW.PrintLast Go.Proofs.YtceikdeladdbpaaW.PrintMore
set_option linter.unusedSimpArgs false
set_option linter.unusedVariables false

structure FI (w h o st : Int) (fr : List Int) : Prop where
  len : (fr.length : Int) = cells w h
  par : ∀ n, isCell w h n = true → 0 ≤ rd fr n → isCell w h (rd fr n) = true ∧ ∃ t, 0 ≤ t ∧ t ≤ 3 ∧ step w h o (rd fr n) t = n
def Shut (w h o st : Int) (fr : List Int) (x : Int) : Prop := ∀ t, 0 ≤ t → t ≤ 3 → 0 ≤ step w h o x t → seenF st fr (step w h o x t) = true
structure More (w h o st c : Int) (cs fr : List Int) (R : List Int × List Int × Int) : Prop where
  inv : DI w h st R.2.1 R.2.2
  top : R.2.2 + 1 + (cntU w h st R.2.1 : Int) ≤ cells w h
  fi : FI w h o st R.2.1
  ext : Ext w h st fr R.2.1
  own : Shut w h o st R.2.1 c
  new : ∀ x, isCell w h x = true → seenF st R.2.1 x = true → seenF st fr x = false → Shut w h o st R.2.1 x
  siz : R.1.length + 2 * cntU w h st R.2.1 = cs.length + 2 * cntU w h st fr
  lst : ∃ m, R.1 = cs ++ m ∧ (∀ x, isCell w h x = true → seenF st R.2.1 x = true → seenF st fr x = false → x ∈ m) ∧ (m = [] ∨ ∃ m', m = m' ++ [c])
theorem Shut.ext {w h o st : Int} {fr fr' : List Int} {x : Int} (e : Ext w h st fr fr') (s : Shut w h o st fr x) : Shut w h o st fr' x := fun t a b z => e.seen (step_cell z) (s t a b z)
theorem step_at {k : Nat} {w h o c d n : Int} (hn : impl_Step.f k w h o c d = some n) : n = step w h o c d := by
  have := at_rounds (g := fun k => impl_Step.f k w h o c d) (fun j => impl_Step.mono w h o c d j) (show k ≤ k + 4 by omega) hn
  rw [iStep (k + 4) w h o c d (by omega)] at this
  exact (Option.some.inj this).symm
theorem thr_more (w h o st : Int) (hs : isCell w h st = true) : ∀ (k : Nat) (c len d : Int) (cs fr : List Int) (mo : Int) (R : List Int × List Int × Int), thr.l0 k w h o st c len d cs fr mo = some R → DI w h st fr mo → FI w h o st fr → isCell w h c = true → seenF st fr c = true → Ch st fr c len → 0 ≤ len → mo + 1 + (cntU w h st fr : Int) ≤ cells w h → 0 ≤ d → d ≤ 4 →
    (∀ t, 0 ≤ t → t < d → 0 ≤ step w h o c t → seenF st fr (step w h o c t) = true) → More w h o st c cs fr R
  | 0, c, len, d, cs, fr, mo, R, e, _, _, _, _, _, _, _, _, _, _ => by simp [thr.l0] at e
  | k + 1, c, len, d, cs, fr, mo, R, e, I, F, hc, hsc, hch, hl0, htop, d0, d4, hall => by
    rw [thr.l0] at e
    have hlen := F.len
    by_cases c0 : d ≤ 3
    · rw [if_pos c0] at e
      obtain ⟨n, hn, e⟩ := Option.bind_eq_some_iff.mp e
      have hn := step_at hn
      have hw1 : wrap64 (d + 1) = d + 1 := w64 (by omega) (by omega)
      rw [hw1] at e
      have hskip : thr.l0 k w h o st c len (d + 1) cs fr mo = some R → (0 ≤ n → seenF st fr n = true) → More w h o st c cs fr R := fun e q =>
        thr_more w h o st hs k c len (d + 1) cs fr mo R e I F hc hsc hch hl0 htop (by omega) (by omega) fun t t0 t1 ts => by
          by_cases z : t = d
          · rw [z, ← hn] at ts ⊢; exact q ts
          · exact hall t t0 (by omega) ts
      by_cases c1 : n < 0
      · rw [if_pos c1] at e
        exact hskip e fun z => by omega
      · rw [if_neg c1] at e
        have hnc : isCell w h n = true := by rw [hn]; exact step_cell (by omega)
        have hnl := cellD_lt hnc
        by_cases c2 : n = st
        · rw [if_pos c2] at e
          exact hskip e fun _ => seenF_iff.2 (.inl c2)
        · rw [if_neg c2, if_pos (by omega)] at e
          by_cases c3 : rd fr n ≥ 0
          · rw [if_pos c3] at e
            exact hskip e fun _ => seenF_iff.2 (.inr c3)
          · rw [if_neg c3] at e
            have hun : seenF st fr n = false := by
              cases z : seenF st fr n with
              | false => rfl
              | true => rcases seenF_iff.1 z with q | q <;> omega
            by_cases c4 : cs.length < 17592186044415
            · rw [if_pos c4] at e
              obtain ⟨R1, e1, e⟩ := Option.bind_eq_some_iff.mp e
              by_cases c5 : R1.1.length < 17592186044415
              · rw [if_pos c5] at e
                have rs : ∀ x, isCell w h x = true → rd (fr.set n.toNat c) x = if x = n then c else rd fr x := fun x hx => rdl_set hlen hnc hx
                have hcl := cellD_lt hc
                have hcr := cells_range w h
                obtain ⟨kk, hkk, _, hkm⟩ := I.dep c hc hsc
                have hlm : len ≤ mo := by rw [Ch.det I.st0 hch hkk]; exact hkm
                obtain ⟨I1, X1, ch1, cnt1, rn1⟩ := I.go hnc hc hs hun hsc hch hl0
                have hw2 : wrap64 (len + 1) = len + 1 := w64 (by omega) (by omega)
                have hmx : mx mo (len + 1) ≤ mo + 1 := by unfold mx; split <;> omega
                rw [hw2] at e1
                have F1 : FI w h o st (fr.set n.toNat c) := ⟨by rw [List.length_set]; exact hlen, fun x hx h0 => by
                  rw [rs x hx] at h0 ⊢
                  by_cases z : x = n
                  · rw [if_pos z]
                    exact ⟨hc, d, d0, c0, by rw [z, hn]⟩
                  · rw [if_neg z] at h0 ⊢
                    exact F.par x hx h0⟩
                have hsn : seenF st (fr.set n.toNat c) n = true := seenF_iff.2 (.inr (by rw [rs n hnc, if_pos rfl]; exact hcl.1))
                have M1 := thr_more w h o st hs k n _ 0 _ _ _ R1 e1 I1 F1 hnc hsn ch1 (by omega) (by omega) (by omega) (by omega) (fun t t0 t1 => by omega)
                have X2 := X1.trans M1.ext
                have M2 := thr_more w h o st hs k c len (d + 1) _ _ _ R e M1.inv M1.fi hc (X2.seen hc hsc) (Ch.ext I.rng X2 hc hch) hl0 M1.top (by omega) (by omega) fun t t0 t1 ts => by
                  by_cases z : t = d
                  · rw [z, ← hn]
                    exact M1.ext.seen hnc hsn
                  · exact X2.seen (step_cell ts) (hall t t0 (by omega) ts)
                have unseen : ∀ x, isCell w h x = true → x ≠ n → seenF st fr x = false → seenF st (fr.set n.toNat c) x = false := fun x hx z s => by
                  unfold seenF at s ⊢
                  rw [rs x hx, if_neg z]
                  exact s
                obtain ⟨m1, l1, a1, _⟩ := M1.lst
                obtain ⟨m2, l2, a2, b2⟩ := M2.lst
                refine ⟨M2.inv, M2.top, M2.fi, X2.trans M2.ext, M2.own, fun x hx s u => ?_, ?_, n :: m1 ++ (c :: m2), by rw [l2, l1]; simp, fun x hx s u => ?_, .inr ?_⟩
                · cases z : seenF st R1.2.1 x with
                  | false => exact M2.new x hx s z
                  | true =>
                    by_cases y : x = n
                    · rw [y]; exact Shut.ext M2.ext M1.own
                    · exact Shut.ext M2.ext (M1.new x hx z (unseen x hx y u))
                · have s1 := M1.siz
                  have s2 := M2.siz
                  simp only [List.length_append, List.length_singleton] at s1 s2
                  omega
                · cases z : seenF st R1.2.1 x with
                  | false => exact List.mem_append_right _ (List.mem_cons_of_mem _ (a2 x hx s z))
                  | true =>
                    by_cases y : x = n
                    · rw [y]; simp
                    · exact List.mem_append_left _ (List.mem_cons_of_mem _ (a1 x hx z (unseen x hx y u)))
                · rcases b2 with b2 | ⟨m', b2⟩
                  · exact ⟨n :: m1, by rw [b2]⟩
                  · exact ⟨n :: m1 ++ (c :: m'), by rw [b2]; simp⟩
              · rw [if_neg c5] at e; cases e
            · rw [if_neg c4] at e; cases e
    · rw [if_neg c0] at e
      obtain rfl := (Option.some.inj e).symm
      exact ⟨I, htop, F, Ext.refl _ _ _ _, fun t t0 t3 => hall t t0 (by omega), fun x _ s u => (by rw [u] at s; cases s), rfl, [], by simp, fun x _ s u => (by rw [u] at s; cases s), .inl rfl⟩
/-- A direction is told by where it leads. -/
theorem dirs_apart0 : ∀ (x y : Fin 4) (c : Fin 16) (d e : Fin 4), isCell ((x.val : Int) + 1) ((y.val : Int) + 1) (c.val : Int) = true → 0 ≤ nb ((x.val : Int) + 1) ((y.val : Int) + 1) (c.val : Int) (d.val : Int) → nb ((x.val : Int) + 1) ((y.val : Int) + 1) (c.val : Int) (d.val : Int) = nb ((x.val : Int) + 1) ((y.val : Int) + 1) (c.val : Int) (e.val : Int) → d = e := by
  decide +kernel
theorem dirs_apart {w h c d e : Int} (hc : isCell w h c = true) (d0 : 0 ≤ d) (d3 : d ≤ 3) (e0 : 0 ≤ e) (e3 : e ≤ 3) (hn : 0 ≤ nb w h c d) (he : nb w h c d = nb w h c e) : d = e := by
  obtain ⟨hg, c0, c1, c2⟩ := isCell_ok hc
  have hg' := gridOk_iff.1 hg
  have := dirs_apart0 ⟨(w - 1).toNat, by omega⟩ ⟨(h - 1).toNat, by omega⟩ ⟨c.toNat, by omega⟩ ⟨d.toNat, by omega⟩ ⟨e.toNat, by omega⟩
  simp only [] at this
  rw [show (((w - 1).toNat : Nat) : Int) + 1 = w by omega, show (((h - 1).toNat : Nat) : Int) + 1 = h by omega, show ((c.toNat : Nat) : Int) = c by omega, show ((d.toNat : Nat) : Int) = d by omega, show ((e.toNat : Nat) : Int) = e by omega] at this
  have := congrArg (fun f : Fin 4 => f.val) (this hc hn he)
  simp only [] at this
  omega
/-- The whole of a walk with a thread. -/
structure Whole (w h o st : Int) (R : List Int × List Int × Int) : Prop where
  inv : DI w h st R.2.1 R.2.2
  fi : FI w h o st R.2.1
  see : ∀ x, isCell w h x = true → (seenF st R.2.1 x = true ↔ Rch w h o st x)
  all : ∀ x, Rch w h o st x → x ∈ R.1
  lst : ∃ m, R.1 = m ++ [st]
  siz : R.1.length + 2 * cntU w h st R.2.1 = 1 + 2 * cntU w h st (noneF w h)
  top : R.2.2 + (cntU w h st R.2.1 : Int) + 1 ≤ cells w h
theorem Ch.rch {w h o st : Int} {fr : List Int} (F : FI w h o st fr) (hs : isCell w h st = true) {n k : Int} (c : Ch st fr n k) : isCell w h n = true → Rch w h o st n := by
  induction c with
  | base => exact fun _ => .refl
  | step ne h0 c ih =>
    intro hn
    obtain ⟨p, t, t0, t3, e⟩ := F.par _ hn h0
    have r := ih p
    have := Rch.step r t0 t3 (by rw [e]; exact (cellD_lt hn).1)
    rw [e] at this
    exact this
theorem Ch.walk {w h o st : Int} {fr : List Int} (F : FI w h o st fr) (hs : isCell w h st = true) {n k : Int} (c : Ch st fr n k) : isCell w h n = true → Wk w h o st n k := by
  induction c with
  | base => exact fun _ => .refl
  | step ne h0 c ih =>
    intro hn
    obtain ⟨p, t, t0, t3, e⟩ := F.par _ hn h0
    have r := ih p
    have := Wk.step r t0 t3 (by rw [e]; exact (cellD_lt hn).1)
    rw [e] at this
    exact this
theorem thr_ends (w h o st : Int) (hs : isCell w h st = true) : ∀ (u n k : Nat) (c len d : Int) (cs fr : List Int) (mo : Int), DI w h st fr mo → FI w h o st fr → isCell w h c = true → seenF st fr c = true → Ch st fr c len → 0 ≤ len → mo + 1 + (cntU w h st fr : Int) ≤ cells w h → cntU w h st fr = u → 0 ≤ d → 4 - d = n → cs.length + 2 * u ≤ 500 → 6 * u + n + 10 ≤ k →
    (∀ t, 0 ≤ t → t < d → 0 ≤ step w h o c t → seenF st fr (step w h o c t) = true) → ∃ R, thr.l0 k w h o st c len d cs fr mo = some R := by
  intro u
  induction u using Nat.strongRecOn with
  | ind u ihu =>
  intro n
  induction n with
  | zero =>
    intro k c len d cs fr mo I F hc hsc hch hl0 htop hu d0 hn hcs hk hall
    obtain ⟨k, rfl⟩ : ∃ m, k = m + 1 := ⟨k - 1, by omega⟩
    rw [thr.l0, if_neg (by omega)]
    exact ⟨_, rfl⟩
  | succ n ihn =>
    intro k c len d cs fr mo I F hc hsc hch hl0 htop hu d0 hn hcs hk hall
    obtain ⟨k, rfl⟩ : ∃ m, k = m + 1 := ⟨k - 1, by omega⟩
    have hIl := I.len
    have hcr := cells_range w h
    rw [thr.l0, if_pos (by omega), iStep k w h o c d (by omega)]
    simp only [Option.bind_some]
    rw [w64 (x := d + 1) (by omega) (by omega)]
    have hskip : (0 ≤ step w h o c d → seenF st fr (step w h o c d) = true) → ∃ R, thr.l0 k w h o st c len (d + 1) cs fr mo = some R := fun q =>
      ihn k c len (d + 1) cs fr mo I F hc hsc hch hl0 htop hu (by omega) (by omega) hcs (by omega) fun t t0 t1 ts => by
        by_cases e : t = d
        · rw [e] at ts ⊢; exact q ts
        · exact hall t t0 (by omega) ts
    by_cases c1 : step w h o c d < 0
    · rw [if_pos c1]
      exact hskip fun z => by omega
    · rw [if_neg c1]
      have hsd : 0 ≤ step w h o c d := by omega
      have hnc := step_cell hsd
      have hnl := cellD_lt hnc
      by_cases c2 : step w h o c d = st
      · rw [if_pos c2]
        exact hskip fun _ => seenF_iff.2 (.inl c2)
      · rw [if_neg c2, if_pos (by omega)]
        by_cases c3 : rd fr (step w h o c d) ≥ 0
        · rw [if_pos c3]
          exact hskip fun _ => seenF_iff.2 (.inr c3)
        · rw [if_neg c3]
          have hun : seenF st fr (step w h o c d) = false := by
            cases z : seenF st fr (step w h o c d) with
            | false => rfl
            | true => rcases seenF_iff.1 z with e | e <;> omega
          generalize hgn : step w h o c d = nn at *
          obtain ⟨kk, hkk, _, hkm⟩ := I.dep c hc hsc
          have hlm : len ≤ mo := by rw [Ch.det I.st0 hch hkk]; exact hkm
          obtain ⟨I1, X1, ch1, cnt1, rn1⟩ := I.go hnc hc hs hun hsc hch hl0
          have hmx : mx mo (len + 1) ≤ mo + 1 := by unfold mx; split <;> omega
          have F1 : FI w h o st (fr.set nn.toNat c) := ⟨by rw [List.length_set]; exact hIl, fun x hx h0 => by
            rw [rdl_set hIl hnc hx] at h0 ⊢
            by_cases z : x = nn
            · rw [if_pos z]
              exact ⟨hc, d, d0, by omega, by rw [z, hgn]⟩
            · rw [if_neg z] at h0 ⊢
              exact F.par x hx h0⟩
          have hsn : seenF st (fr.set nn.toNat c) nn = true := seenF_iff.2 (.inr (by rw [rn1]; exact (cellD_lt hc).1))
          have hA : cs.length < 17592186044415 := by omega
          obtain ⟨R1, e1⟩ := ihu (cntU w h st (fr.set nn.toNat c)) (by omega) 4 k nn (len + 1) 0 (cs ++ [nn]) (fr.set nn.toNat c) (mx mo (len + 1)) I1 F1 hnc hsn ch1 (by omega) (by omega) rfl (by omega) (by omega) (by simp only [List.length_append, List.length_singleton]; omega) (by omega) (fun t t0 t1 => by omega)
          have M1 := thr_more w h o st hs k nn _ 0 _ _ _ R1 e1 I1 F1 hnc hsn ch1 (by omega) (by omega) (by omega) (by omega) (fun t t0 t1 => by omega)
          have X2 := X1.trans M1.ext
          have s1 := M1.siz
          simp only [List.length_append, List.length_singleton] at s1
          have hR1 : R1.1.length < 17592186044415 := by omega
          have hc1 := M1.ext.cnt
          obtain ⟨R2, e2⟩ := ihu (cntU w h st R1.2.1) (by omega) n k c len (d + 1) (R1.1 ++ [c]) R1.2.1 R1.2.2 M1.inv M1.fi hc (X2.seen hc hsc) (Ch.ext I.rng X2 hc hch) hl0 M1.top rfl (by omega) (by omega) (by simp only [List.length_append, List.length_singleton]; omega) (by omega) (fun t t0 t1 ts => by
            by_cases e : t = d
            · rw [e, hgn]
              exact M1.ext.seen hnc hsn
            · exact X2.seen (step_cell ts) (hall t t0 (by omega) ts))
          refine ⟨R2, ?_⟩
          rw [if_pos hA, w64 (x := len + 1) (by omega) (by omega), e1]
          simp only [Option.bind_some]
          rw [if_pos hR1]
          exact e2
theorem thread_whole {w h o st : Int} (ha : has w h o st = true) : ∃ R : List Int × List Int × Int, (∀ k, 300 ≤ k → impl_thread.f k w h o st = some (some R)) ∧ Whole w h o st R := by
  have hr := cells_range w h
  have hs := (has_parts ha).2
  have hl0 := cellD_lt hs
  have hcn := start_cnt hs
  have F0 : FI w h o st (noneF w h) := ⟨(start_D hs).len, fun n hn h0 => by rw [rd_none hn] at h0; omega⟩
  have hsn : seenF st (noneF w h) st = true := seenF_iff.2 (.inl rfl)
  obtain ⟨R, e⟩ := thr_ends w h o st hs (cntU w h st (noneF w h)) 4 200 st 0 0 [st] (noneF w h) 0 (start_D hs) F0 hs hsn .base (by omega) (by omega) rfl (by omega) (by omega) (by simp; omega) (by omega) (fun t t0 t1 => by omega)
  have M := thr_more w h o st hs 200 st 0 0 [st] (noneF w h) 0 R e (start_D hs) F0 hs hsn .base (by omega) (by omega) (by omega) (by omega) (fun t t0 t1 => by omega)
  have hm : ∀ m, thr.l0 (200 + m) w h o st st 0 0 [st] (noneF w h) 0 = some R := by
    intro m
    induction m with
    | zero => exact e
    | succ m ih => exact thr.mono _ _ _ _ _ _ _ _ _ _ _ _ ih
  have sees : ∀ x, Rch w h o st x → seenF st R.2.1 x = true := by
    intro x hx
    induction hx with
    | refl => exact seenF_iff.2 (.inl rfl)
    | step hy t0 t3 hs' ih =>
      rename_i x t
      by_cases z : x = st
      · rw [z] at hs' ⊢
        exact M.own t t0 t3 hs'
      · have hxc := rch_cell hs hy
        exact M.new x hxc ih (by rw [seen_none hxc]; exact decide_eq_false z) t t0 t3 hs'
  have see : ∀ x, isCell w h x = true → (seenF st R.2.1 x = true ↔ Rch w h o st x) := fun x hx => ⟨fun s => by
    obtain ⟨k, hk, _⟩ := M.inv.dep x hx s
    exact hk.rch M.fi hs hx, sees x⟩
  obtain ⟨m, lm, am, bm⟩ := M.lst
  have siz := M.siz
  simp only [List.length_singleton] at siz
  refine ⟨R, fun k hk => ?_, M.inv, M.fi, see, fun x hx => ?_, ?_, siz, ?_⟩
  · unfold impl_thread.f slices_Repeat_int_int.f
    rw [iisIn1]
    simp only [Option.bind_some]
    rw [if_pos ha, iCountCells]
    simp only [Option.bind_some]
    rw [if_pos ⟨rfl, by omega, hr.2⟩]
    simp only [Option.bind_some]
    have e0 : mx 0 0 = 0 := by decide
    rw [e0]
    have e2 : List.replicate (cells w h).toNat (rd [-1] 0) = noneF w h := rfl
    have := hm (k - 200)
    rw [show 200 + (k - 200) = k by omega] at this
    rw [e2, this]
    rfl
  · rw [lm]
    have hxc := rch_cell hs hx
    by_cases z : x = st
    · rw [z]; simp
    · exact List.mem_append_right _ (am x hxc (sees x hx) (by rw [seen_none hxc]; exact decide_eq_false z))
  · rw [lm]
    rcases bm with rfl | ⟨m', rfl⟩
    · exact ⟨[], rfl⟩
    · exact ⟨st :: m', by simp⟩
  · have := M.top
    omega
end Go.Proofs.Ytceikdeladdbpaa.L
