/- A walk with a thread: the program goes by recursion, the reference step by step; both leave the same. -/
import Derived.Test.YtceikdeladdbpaaXimplEnteredFrom
import Derived.Test.YtceikdeladdbpaaXimplThreadLength
import Derived.Test.YtceikdeladdbpaaXimplThreadWalk
import Derived.Test.YtceikdeladdbpaaLDist
namespace Go.Proofs.Ytceikdeladdbpaa.L
open Go.RowKit Go.Proofs.Ytceikdeladdbpaa.X Go.Proofs.YtceikdeladdbpaaW.PrintWords Go.Proofs.YtceikdeladdbpaaW.PrintLast Go.Proofs.YtceikdeladdbpaaW.PrintMore
set_option linter.unusedSimpArgs false
set_option linter.unusedVariables false

theorem filterT_minus (p q : Nat → Bool) (m : Nat) (hp : p m = true) (hq : ∀ c, q c = (p c && decide (c ≠ m))) : ∀ n, m < n → ((List.range n).filter q).length + 1 = ((List.range n).filter p).length := by
  have low : ∀ n, n ≤ m → ((List.range n).filter q) = ((List.range n).filter p) := fun n hn => List.filter_congr fun x hx => by
    have := List.mem_range.1 hx
    rw [hq x, decide_eq_true (show x ≠ m by omega), Bool.and_true]
  intro n
  induction n with
  | zero => intro h; omega
  | succ n ih =>
    intro hn
    rw [List.range_succ, List.filter_append, List.filter_append, List.length_append, List.length_append]
    by_cases e : n = m
    · subst e
      rw [low n (Nat.le_refl _)]
      simp [hq, hp]
    · have h1 := ih (by omega)
      have h2 : q n = p n := by rw [hq n, decide_eq_true e, Bool.and_true]
      simp only [List.filter_cons, List.filter_nil, h2]
      omega
theorem filterT_le {p q : Nat → Bool} {n : Nat} (h : ∀ c, c < n → q c = true → p c = true) : ((List.range n).filter q).length ≤ ((List.range n).filter p).length := by
  induction n with
  | zero => simp
  | succ n ih =>
    have h1 := ih fun c hc => h c (by omega)
    rw [List.range_succ, List.filter_append, List.filter_append, List.length_append, List.length_append]
    simp only [List.filter_cons, List.filter_nil]
    have h2 := h n (by omega)
    cases hq : q n with
    | false => cases hp : p n <;> simp <;> omega
    | true => rw [h2 hq]; simp; omega
/-- Seen: the start, or entered from somewhere. -/
def seenF (st : Int) (fr : List Int) (n : Int) : Bool := decide (n = st) || decide (0 ≤ rd fr n)
theorem seenF_iff {st : Int} {fr : List Int} {n : Int} : seenF st fr n = true ↔ n = st ∨ 0 ≤ rd fr n := by
  unfold seenF
  rw [Bool.or_eq_true, decide_eq_true_eq, decide_eq_true_eq]
def cntU (w h st : Int) (fr : List Int) : Nat := ((List.range (cells w h).toNat).filter fun j : Nat => !seenF st fr (j : Int)).length
/-- A chain of entrances back to the start. -/
inductive Ch (st : Int) (fr : List Int) : Int → Int → Prop
  | base : Ch st fr st 0
  | step {n k : Int} : n ≠ st → 0 ≤ rd fr n → Ch st fr (rd fr n) k → Ch st fr n (k + 1)
structure DI (w h st : Int) (fr : List Int) (mo : Int) : Prop where
  len : (fr.length : Int) = cells w h
  rng : ∀ n, isCell w h n = true → -1 ≤ rd fr n ∧ (0 ≤ rd fr n → isCell w h (rd fr n) = true)
  st0 : rd fr st = -1
  dep : ∀ n, isCell w h n = true → seenF st fr n = true → ∃ k, Ch st fr n k ∧ 0 ≤ k ∧ k ≤ mo
  top : ∃ n, isCell w h n = true ∧ seenF st fr n = true ∧ Ch st fr n mo
  mo0 : 0 ≤ mo
/-- More has been seen; what was seen is as it was. -/
def Ext (w h st : Int) (fr fr' : List Int) : Prop := ∀ n, isCell w h n = true → seenF st fr n = true → rd fr' n = rd fr n
theorem Ext.refl (w h st : Int) (fr : List Int) : Ext w h st fr fr := fun _ _ _ => rfl
theorem Ext.seen {w h st : Int} {fr fr' : List Int} (e : Ext w h st fr fr') {n : Int} (hn : isCell w h n = true) (s : seenF st fr n = true) : seenF st fr' n = true := by
  rw [seenF_iff] at s ⊢
  have h1 := e n hn (seenF_iff.2 s)
  rw [h1]
  exact s
theorem Ext.trans {w h st : Int} {a b c : List Int} (e : Ext w h st a b) (f : Ext w h st b c) : Ext w h st a c := fun n hn s => (f n hn (e.seen hn s)).trans (e n hn s)
theorem Ext.cnt {w h st : Int} {a b : List Int} (e : Ext w h st a b) : cntU w h st b ≤ cntU w h st a := by
  refine filterT_le fun j hj hq => ?_
  have hc := cell_of (w := w) (h := h) (x := (j : Int)) (by omega) (by omega)
  cases z : seenF st a (j : Int) with
  | false => rfl
  | true => rw [e.seen hc z] at hq; cases hq
theorem Ch.ext {w h st : Int} {fr fr' : List Int} (I : ∀ n, isCell w h n = true → -1 ≤ rd fr n ∧ (0 ≤ rd fr n → isCell w h (rd fr n) = true)) (e : Ext w h st fr fr') {n k : Int} (hn : isCell w h n = true) (c : Ch st fr n k) : Ch st fr' n k := by
  induction c with
  | base => exact .base
  | step ne h0 c ih =>
    have h1 := e _ hn (seenF_iff.2 (.inr h0))
    have := ih ((I _ hn).2 h0)
    rw [← h1] at this
    exact .step ne (by rw [h1]; exact h0) this
theorem rdl_set {w h : Int} {fr : List Int} (hl : (fr.length : Int) = cells w h) {n v x : Int} (hn : isCell w h n = true) (hx : isCell w h x = true) : rd (fr.set n.toNat v) x = if x = n then v else rd fr x := by
  have h1 := cellD_lt hn
  exact rd_set h1.1 (by omega) (cellD_lt hx).1
theorem DI.go {w h st : Int} {fr : List Int} {mo n c len : Int} (I : DI w h st fr mo) (hn : isCell w h n = true) (hc : isCell w h c = true) (hs : isCell w h st = true) (hu : seenF st fr n = false) (hcs : seenF st fr c = true) (hch : Ch st fr c len) (hl0 : 0 ≤ len) :
    DI w h st (fr.set n.toNat c) (mx mo (len + 1)) ∧ Ext w h st fr (fr.set n.toNat c) ∧ Ch st (fr.set n.toNat c) n (len + 1) ∧ cntU w h st (fr.set n.toNat c) + 1 = cntU w h st fr ∧ rd (fr.set n.toNat c) n = c := by
  have hnu : n ≠ st ∧ ¬ 0 ≤ rd fr n := by
    constructor
    · intro z
      rw [seenF_iff.2 (.inl z)] at hu
      cases hu
    · intro z
      rw [seenF_iff.2 (.inr z)] at hu
      cases hu
  have hcl := cellD_lt hc
  have rs : ∀ x, isCell w h x = true → rd (fr.set n.toNat c) x = if x = n then c else rd fr x := fun x hx => rdl_set I.len hn hx
  have ex : Ext w h st fr (fr.set n.toNat c) := fun x hx s => by
    rw [rs x hx, if_neg]
    intro z
    rw [z, hu] at s
    cases s
  have hrn : rd (fr.set n.toNat c) n = c := by rw [rs n hn, if_pos rfl]
  have hchn : Ch st (fr.set n.toNat c) n (len + 1) := by
    refine .step hnu.1 (by rw [hrn]; exact hcl.1) ?_
    rw [hrn]
    exact Ch.ext I.rng ex hc hch
  have mxl : mo ≤ mx mo (len + 1) ∧ len + 1 ≤ mx mo (len + 1) := by unfold mx; split <;> omega
  refine ⟨⟨by rw [List.length_set]; exact I.len, fun x hx => ?_, ?_, fun x hx s => ?_, ?_, by have := I.mo0; omega⟩, ex, hchn, ?_, hrn⟩
  · rw [rs x hx]
    split
    · exact ⟨by omega, fun _ => hc⟩
    · exact I.rng x hx
  · rw [rs st hs, if_neg (fun z => hnu.1 z.symm)]
    exact I.st0
  · by_cases e : x = n
    · subst e
      exact ⟨len + 1, hchn, by omega, by omega⟩
    · have s' : seenF st fr x = true := by
        rw [seenF_iff] at s ⊢
        rw [rs x hx, if_neg e] at s
        exact s
      obtain ⟨k, hk, k0, k1⟩ := I.dep x hx s'
      exact ⟨k, Ch.ext I.rng ex hx hk, k0, by omega⟩
  · by_cases e : mo < len + 1
    · refine ⟨n, hn, seenF_iff.2 (.inr (by rw [hrn]; exact hcl.1)), ?_⟩
      have : mx mo (len + 1) = len + 1 := by unfold mx; rw [if_pos e]
      rw [this]
      exact hchn
    · obtain ⟨x, hx, s, hk⟩ := I.top
      have : mx mo (len + 1) = mo := by unfold mx; rw [if_neg e]
      rw [this]
      exact ⟨x, hx, ex.seen hx s, Ch.ext I.rng ex hx hk⟩
  · have hnl := cellD_lt hn
    refine filterT_minus _ _ n.toNat ?_ (fun j => ?_) _ (by omega)
    · rw [show ((n.toNat : Nat) : Int) = n by omega, hu]
      rfl
    · by_cases hj : isCell w h (j : Int) = true
      · unfold seenF
        rw [rs _ hj]
        by_cases e : (j : Int) = n
        · have e' : j = n.toNat := by omega
          rw [if_pos e, decide_eq_false (show ¬ j ≠ n.toNat from fun z => z e'), decide_eq_true hcl.1]
          simp
        · have e' : j ≠ n.toNat := fun z => e (by omega)
          rw [if_neg e, decide_eq_true e', Bool.and_true]
      · have e' : j ≠ n.toNat := fun z => hj (by rw [z, show ((n.toNat : Nat) : Int) = n by omega]; exact hn)
        have hbig : ¬ (j : Int) < cells w h := fun z => hj (cell_of (by omega) z)
        have hlen := I.len
        have r1 : rd (fr.set n.toNat c) (j : Int) = rd fr (j : Int) := by
          unfold rd
          rw [List.getD_eq_getElem?_getD, List.getD_eq_getElem?_getD, List.getElem?_set_ne (by omega)]
        unfold seenF
        rw [r1, decide_eq_true e', Bool.and_true]
/-! ### the reference's steps -/
def firstU (w h o st : Int) (fr : List Int) (c : Int) : List Int → Int
  | [] => -1
  | t :: ts => if 0 ≤ step w h o c t ∧ seenF st fr (step w h o c t) = false then step w h o c t else firstU w h o st fr c ts
structure Cons (w h st : Int) (fr : List Int) (s : List Bool) : Prop where
  len : (s.length : Int) = cells w h
  eq : ∀ n, isCell w h n = true → rdOf false s n = seenF st fr n
theorem firstU_all {w h o st : Int} {fr : List Int} {c : Int} : ∀ ts : List Int, (∀ t ∈ ts, 0 ≤ step w h o c t → seenF st fr (step w h o c t) = true) → firstU w h o st fr c ts = -1
  | [], _ => rfl
  | t :: ts, a => by
    rw [firstU, if_neg]
    · exact firstU_all ts fun x hx => a x (List.mem_cons_of_mem _ hx)
    · rintro ⟨y, z⟩
      rw [a t List.mem_cons_self y] at z
      cases z
theorem firstU_at {w h o st : Int} {fr : List Int} {c d : Int} (h0 : 0 ≤ d) (h3 : d ≤ 3) (hs : 0 ≤ step w h o c d) (hu : seenF st fr (step w h o c d) = false) (hb : ∀ t, 0 ≤ t → t < d → 0 ≤ step w h o c t → seenF st fr (step w h o c t) = true) : firstU w h o st fr c [0, 1, 2, 3] = step w h o c d := by
  have go : ∀ (ts : List Int) (r : List Int), (∀ t ∈ ts, 0 ≤ step w h o c t → seenF st fr (step w h o c t) = true) → firstU w h o st fr c (ts ++ d :: r) = step w h o c d := by
    intro ts r a
    induction ts with
    | nil => rw [List.nil_append, firstU, if_pos ⟨hs, hu⟩]
    | cons t ts ih =>
      rw [List.cons_append, firstU, if_neg]
      · exact ih fun x hx => a x (List.mem_cons_of_mem _ hx)
      · rintro ⟨y, z⟩
        rw [a t List.mem_cons_self y] at z
        cases z
  have : d = 0 ∨ d = 1 ∨ d = 2 ∨ d = 3 := by omega
  rcases this with rfl | rfl | rfl | rfl
  · exact go [] [1, 2, 3] (by simp)
  · exact go [0] [2, 3] (by intro t ht; simp only [List.mem_cons, List.not_mem_nil, or_false] at ht; exact hb t (by omega) (by omega))
  · exact go [0, 1] [3] (by intro t ht; simp only [List.mem_cons, List.not_mem_nil, or_false] at ht; exact hb t (by omega) (by omega))
  · exact go [0, 1, 2] [] (by intro t ht; simp only [List.mem_cons, List.not_mem_nil, or_false] at ht; exact hb t (by omega) (by omega))
theorem Cons.go {w h st : Int} {fr : List Int} {s : List Bool} {n c : Int} (C : Cons w h st fr s) (hl : (fr.length : Int) = cells w h) (hn : isCell w h n = true) (hc : isCell w h c = true) : Cons w h st (fr.set n.toNat c) (s.set n.toNat true) := by
  have hnl := cellD_lt hn
  have hcl := cellD_lt hc
  have hlen := C.len
  refine ⟨by rw [List.length_set]; exact C.len, fun x hx => ?_⟩
  have hxl := cellD_lt hx
  have h1 : rdOf false (s.set n.toNat true) x = if x = n then true else rdOf false s x := by
    unfold rdOf
    rw [List.getD_eq_getElem?_getD, List.getD_eq_getElem?_getD]
    by_cases e : x = n
    · subst e
      rw [if_pos rfl, List.getElem?_set_self (by omega)]
      rfl
    · rw [if_neg e, List.getElem?_set_ne (by omega)]
  rw [h1]
  unfold seenF
  rw [rdl_set hl hn hx]
  by_cases e : x = n
  · rw [if_pos e, if_pos e, decide_eq_true hcl.1]
    simp
  · rw [if_neg e, if_neg e]
    exact C.eq x hx
/-- What the recursion leaves at a cell, from a direction on. -/
structure Left (w h o st c len : Int) (cs fr : List Int) (mo : Int) (R : List Int × List Int × Int) : Prop where
  inv : DI w h st R.2.1 R.2.2
  ext : Ext w h st fr R.2.1
  all : ∀ t, 0 ≤ t → t ≤ 3 → 0 ≤ step w h o c t → seenF st R.2.1 (step w h o c t) = true
  siz : R.1.length + 2 * cntU w h st R.2.1 = cs.length + 2 * cntU w h st fr
  mol : R.2.2 ≤ mo ∨ R.2.2 ≤ len + (cntU w h st fr : Int)
def noneF (w h : Int) : List Int := List.replicate (cells w h).toNat (-1)
theorem rd_none {w h x : Int} (hx : isCell w h x = true) : rd (noneF w h) x = -1 := by
  have hl := cellD_lt hx
  unfold noneF
  exact List.eq_of_mem_replicate (rd_memL (l := List.replicate (cells w h).toNat (-1)) hl.1 (by simp; omega))
theorem seen_none {w h st x : Int} (hx : isCell w h x = true) : seenF st (noneF w h) x = decide (x = st) := by
  unfold seenF
  rw [rd_none hx]
  simp
theorem start_D {w h st : Int} (hs : isCell w h st = true) : DI w h st (noneF w h) 0 := by
  have hr := cells_range w h
  refine ⟨by unfold noneF; simp; omega, fun n hn => ?_, rd_none hs, fun n hn s => ?_, ⟨st, hs, seenF_iff.2 (.inl rfl), .base⟩, Int.le_refl _⟩
  · rw [rd_none hn]
    exact ⟨by omega, fun z => by omega⟩
  · rw [seen_none hn] at s
    rw [of_decide_eq_true s]
    exact ⟨0, .base, by omega, by omega⟩
theorem start_cnt {w h st : Int} (hs : isCell w h st = true) : cntU w h st (noneF w h) + 1 = (cells w h).toNat := by
  have hl := cellD_lt hs
  unfold cntU
  have e := filterT_minus (fun _ => true) (fun j => decide (j ≠ st.toNat)) st.toNat rfl (fun c => by simp) (cells w h).toNat (by omega)
  rw [List.filter_eq_self.2 (fun _ _ => rfl), List.length_range] at e
  have e2 : ((List.range (cells w h).toNat).filter fun j : Nat => !seenF st (noneF w h) (j : Int)) = (List.range (cells w h).toNat).filter fun j => decide (j ≠ st.toNat) := by
    apply List.filter_congr
    intro j hj
    have hc := cell_of (w := w) (h := h) (x := (j : Int)) (by omega) (by have := List.mem_range.1 hj; omega)
    rw [seen_none hc, Bool.eq_iff_iff]
    simp
    omega
  rw [e2]
  exact e
theorem Ch.nn {st : Int} {fr : List Int} {n k : Int} (c : Ch st fr n k) : 0 ≤ k := by
  induction c with
  | base => omega
  | step _ _ _ ih => omega
theorem Ch.det {st : Int} {fr : List Int} (h0 : rd fr st = -1) {n k l : Int} (a : Ch st fr n k) (b : Ch st fr n l) : k = l := by
  induction a generalizing l with
  | base =>
    cases b with
    | base => rfl
    | step ne _ _ => exact absurd rfl ne
  | step ne hp _ ih =>
    cases b with
    | base => exact absurd rfl ne
    | step _ _ c => rw [ih c]
end Go.Proofs.Ytceikdeladdbpaa.L
