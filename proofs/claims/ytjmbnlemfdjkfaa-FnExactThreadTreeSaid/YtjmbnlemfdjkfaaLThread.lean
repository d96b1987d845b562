/- A walk with a thread: the program goes by recursion, the reference step by step; both leave the same. -/
import Derived.Test.YtjmbnlemfdjkfaaXimplthread
import Derived.Test.YtjmbnlemfdjkfaaXspecEnteredFrom
import Derived.Test.YtjmbnlemfdjkfaaXspecl24Walk
import Derived.Test.YtjmbnlemfdjkfaaLDist
namespace Go.Proofs.Ytjmbnlemfdjkfaa.L
open Go.RowKit Go.Proofs.Ytjmbnlemfdjkfaa.X Go.Proofs.YtjmbnlemfdjkfaaW.PrintWords Go.Proofs.YtjmbnlemfdjkfaaW.PrintLast Go.Proofs.YtjmbnlemfdjkfaaW.PrintMore
set_option linter.unusedSimpArgs false
set_option linter.unusedVariables false

theorem filterT_minus (p q : Nat → Bool) (m : Nat) (hp : p m = true) (hq : ∀ c, q c = (p c && decide (c ≠ m))) : ∀ n, m < n → ((List.range n).filter q).length + 1 = ((List.range n).filter p).length := by
  have low : ∀ n, n ≤ m → ((List.range n).filter q) = ((List.range n).filter p) := fun n hn => List.filter_congr fun x hx => by
    have := List.mem_range.1 hx
    rw [hq x, decide_eq_true (show x ≠ m by omega), Bool.and_true]
  intro n
  induction n with
  | zero => intro h; omega
  | succ n ih =>
    intro hn
    rw [List.range_succ, List.filter_append, List.filter_append, List.length_append, List.length_append]
    by_cases e : n = m
    · subst e
      rw [low n (Nat.le_refl _)]
      simp [hq, hp]
    · have h1 := ih (by omega)
      have h2 : q n = p n := by rw [hq n, decide_eq_true e, Bool.and_true]
      simp only [List.filter_cons, List.filter_nil, h2]
      omega
theorem filterT_le {p q : Nat → Bool} {n : Nat} (h : ∀ c, c < n → q c = true → p c = true) : ((List.range n).filter q).length ≤ ((List.range n).filter p).length := by
  induction n with
  | zero => simp
  | succ n ih =>
    have h1 := ih fun c hc => h c (by omega)
    rw [List.range_succ, List.filter_append, List.filter_append, List.length_append, List.length_append]
    simp only [List.filter_cons, List.filter_nil]
    have h2 := h n (by omega)
    cases hq : q n with
    | false => cases hp : p n <;> simp <;> omega
    | true => rw [h2 hq]; simp; omega
/-- Seen: the start, or entered from somewhere. -/
def seenF (st : Int) (fr : List Int) (n : Int) : Bool := decide (n = st) || decide (0 ≤ rd fr n)
theorem seenF_iff {st : Int} {fr : List Int} {n : Int} : seenF st fr n = true ↔ n = st ∨ 0 ≤ rd fr n := by
  unfold seenF
  rw [Bool.or_eq_true, decide_eq_true_eq, decide_eq_true_eq]
def cntU (w h st : Int) (fr : List Int) : Nat := ((List.range (cells w h).toNat).filter fun j : Nat => !seenF st fr (j : Int)).length
/-- A chain of entrances back to the start. -/
inductive Ch (st : Int) (fr : List Int) : Int → Int → Prop
  | base : Ch st fr st 0
  | step {n k : Int} : n ≠ st → 0 ≤ rd fr n → Ch st fr (rd fr n) k → Ch st fr n (k + 1)
structure DI (w h st : Int) (fr : List Int) (mo : Int) : Prop where
  len : (fr.length : Int) = cells w h
  rng : ∀ n, isCell w h n = true → -1 ≤ rd fr n ∧ (0 ≤ rd fr n → isCell w h (rd fr n) = true)
  st0 : rd fr st = -1
  dep : ∀ n, isCell w h n = true → seenF st fr n = true → ∃ k, Ch st fr n k ∧ 0 ≤ k ∧ k ≤ mo
  top : ∃ n, isCell w h n = true ∧ seenF st fr n = true ∧ Ch st fr n mo
  mo0 : 0 ≤ mo
/-- More has been seen; what was seen is as it was. -/
def Ext (w h st : Int) (fr fr' : List Int) : Prop := ∀ n, isCell w h n = true → seenF st fr n = true → rd fr' n = rd fr n
theorem Ext.refl (w h st : Int) (fr : List Int) : Ext w h st fr fr := fun _ _ _ => rfl
theorem Ext.seen {w h st : Int} {fr fr' : List Int} (e : Ext w h st fr fr') {n : Int} (hn : isCell w h n = true) (s : seenF st fr n = true) : seenF st fr' n = true := by
  rw [seenF_iff] at s ⊢
  have h1 := e n hn (seenF_iff.2 s)
  rw [h1]
  exact s
theorem Ext.trans {w h st : Int} {a b c : List Int} (e : Ext w h st a b) (f : Ext w h st b c) : Ext w h st a c := fun n hn s => (f n hn (e.seen hn s)).trans (e n hn s)
theorem Ext.cnt {w h st : Int} {a b : List Int} (e : Ext w h st a b) : cntU w h st b ≤ cntU w h st a := by
  refine filterT_le fun j hj hq => ?_
  have hc := cell_of (w := w) (h := h) (x := (j : Int)) (by omega) (by omega)
  cases z : seenF st a (j : Int) with
  | false => rfl
  | true => rw [e.seen hc z] at hq; cases hq
theorem Ch.ext {w h st : Int} {fr fr' : List Int} (I : ∀ n, isCell w h n = true → -1 ≤ rd fr n ∧ (0 ≤ rd fr n → isCell w h (rd fr n) = true)) (e : Ext w h st fr fr') {n k : Int} (hn : isCell w h n = true) (c : Ch st fr n k) : Ch st fr' n k := by
  induction c with
  | base => exact .base
  | step ne h0 c ih =>
    have h1 := e _ hn (seenF_iff.2 (.inr h0))
    have := ih ((I _ hn).2 h0)
    rw [← h1] at this
    exact .step ne (by rw [h1]; exact h0) this
theorem rdl_set {w h : Int} {fr : List Int} (hl : (fr.length : Int) = cells w h) {n v x : Int} (hn : isCell w h n = true) (hx : isCell w h x = true) : rd (fr.set n.toNat v) x = if x = n then v else rd fr x := by
  have h1 := cellD_lt hn
  exact rd_set h1.1 (by omega) (cellD_lt hx).1
theorem DI.go {w h st : Int} {fr : List Int} {mo n c len : Int} (I : DI w h st fr mo) (hn : isCell w h n = true) (hc : isCell w h c = true) (hs : isCell w h st = true) (hu : seenF st fr n = false) (hcs : seenF st fr c = true) (hch : Ch st fr c len) (hl0 : 0 ≤ len) :
    DI w h st (fr.set n.toNat c) (mx mo (len + 1)) ∧ Ext w h st fr (fr.set n.toNat c) ∧ Ch st (fr.set n.toNat c) n (len + 1) ∧ cntU w h st (fr.set n.toNat c) + 1 = cntU w h st fr ∧ rd (fr.set n.toNat c) n = c := by
  have hnu : n ≠ st ∧ ¬ 0 ≤ rd fr n := by
    constructor
    · intro z
      rw [seenF_iff.2 (.inl z)] at hu
      cases hu
    · intro z
      rw [seenF_iff.2 (.inr z)] at hu
      cases hu
  have hcl := cellD_lt hc
  have rs : ∀ x, isCell w h x = true → rd (fr.set n.toNat c) x = if x = n then c else rd fr x := fun x hx => rdl_set I.len hn hx
  have ex : Ext w h st fr (fr.set n.toNat c) := fun x hx s => by
    rw [rs x hx, if_neg]
    intro z
    rw [z, hu] at s
    cases s
  have hrn : rd (fr.set n.toNat c) n = c := by rw [rs n hn, if_pos rfl]
  have hchn : Ch st (fr.set n.toNat c) n (len + 1) := by
    refine .step hnu.1 (by rw [hrn]; exact hcl.1) ?_
    rw [hrn]
    exact Ch.ext I.rng ex hc hch
  have mxl : mo ≤ mx mo (len + 1) ∧ len + 1 ≤ mx mo (len + 1) := by unfold mx; split <;> omega
  refine ⟨⟨by rw [List.length_set]; exact I.len, fun x hx => ?_, ?_, fun x hx s => ?_, ?_, by have := I.mo0; omega⟩, ex, hchn, ?_, hrn⟩
  · rw [rs x hx]
    split
    · exact ⟨by omega, fun _ => hc⟩
    · exact I.rng x hx
  · rw [rs st hs, if_neg (fun z => hnu.1 z.symm)]
    exact I.st0
  · by_cases e : x = n
    · subst e
      exact ⟨len + 1, hchn, by omega, by omega⟩
    · have s' : seenF st fr x = true := by
        rw [seenF_iff] at s ⊢
        rw [rs x hx, if_neg e] at s
        exact s
      obtain ⟨k, hk, k0, k1⟩ := I.dep x hx s'
      exact ⟨k, Ch.ext I.rng ex hx hk, k0, by omega⟩
  · by_cases e : mo < len + 1
    · refine ⟨n, hn, seenF_iff.2 (.inr (by rw [hrn]; exact hcl.1)), ?_⟩
      have : mx mo (len + 1) = len + 1 := by unfold mx; rw [if_pos e]
      rw [this]
      exact hchn
    · obtain ⟨x, hx, s, hk⟩ := I.top
      have : mx mo (len + 1) = mo := by unfold mx; rw [if_neg e]
      rw [this]
      exact ⟨x, hx, ex.seen hx s, Ch.ext I.rng ex hx hk⟩
  · have hnl := cellD_lt hn
    refine filterT_minus _ _ n.toNat ?_ (fun j => ?_) _ (by omega)
    · rw [show ((n.toNat : Nat) : Int) = n by omega, hu]
      rfl
    · by_cases hj : isCell w h (j : Int) = true
      · unfold seenF
        rw [rs _ hj]
        by_cases e : (j : Int) = n
        · have e' : j = n.toNat := by omega
          rw [if_pos e, decide_eq_false (show ¬ j ≠ n.toNat from fun z => z e'), decide_eq_true hcl.1]
          simp
        · have e' : j ≠ n.toNat := fun z => e (by omega)
          rw [if_neg e, decide_eq_true e', Bool.and_true]
      · have e' : j ≠ n.toNat := fun z => hj (by rw [z, show ((n.toNat : Nat) : Int) = n by omega]; exact hn)
        have hbig : ¬ (j : Int) < cells w h := fun z => hj (cell_of (by omega) z)
        have hlen := I.len
        have r1 : rd (fr.set n.toNat c) (j : Int) = rd fr (j : Int) := by
          unfold rd
          rw [List.getD_eq_getElem?_getD, List.getD_eq_getElem?_getD, List.getElem?_set_ne (by omega)]
        unfold seenF
        rw [r1, decide_eq_true e', Bool.and_true]
/-! ### the reference's steps -/
def firstU (w h o st : Int) (fr : List Int) (c : Int) : List Int → Int
  | [] => -1
  | t :: ts => if 0 ≤ step w h o c t ∧ seenF st fr (step w h o c t) = false then step w h o c t else firstU w h o st fr c ts
structure Cons (w h st : Int) (fr : List Int) (s : List Bool) : Prop where
  len : (s.length : Int) = cells w h
  eq : ∀ n, isCell w h n = true → rdOf false s n = seenF st fr n
theorem s24_l2 (w h o st : Int) (fr cs : List Int) (s : List Bool) (c : Int) (C : Cons w h st fr s) : ∀ (m K : Nat) (x d : Int), d + 1 = m → -1 ≤ d → d ≤ 3 → 4 ≤ K →
    spec_l24Walk.l2 (K + m) st fr cs s c x d w h o = spec_l24Walk.l2 K st fr cs s c (if firstU w h o st fr c (([0, 1, 2, 3] : List Int).take m) = -1 then x else firstU w h o st fr c (([0, 1, 2, 3] : List Int).take m)) (-1) w h o := by
  have hlen := C.len
  intro m
  induction m with
  | zero =>
    intro K x d hd h0 h1 hK
    rw [show d = -1 by omega]
    simp [firstU]
  | succ m ih =>
    intro K x d hd h0 h1 hK
    have key : ∀ ts : List Int, firstU w h o st fr c (ts ++ [d]) = if firstU w h o st fr c ts = -1 then (if 0 ≤ step w h o c d ∧ seenF st fr (step w h o c d) = false then step w h o c d else -1) else firstU w h o st fr c ts := by
      intro ts
      induction ts with
      | nil => simp [firstU]
      | cons t ts iht =>
        rw [List.cons_append, firstU, firstU]
        split
        · rename_i q
          rw [if_neg (by omega)]
        · exact iht
    have htk : ([0, 1, 2, 3] : List Int).take (m + 1) = ([0, 1, 2, 3] : List Int).take m ++ [d] := by
      have : m = 0 ∨ m = 1 ∨ m = 2 ∨ m = 3 := by omega
      rcases this with rfl | rfl | rfl | rfl
      · rw [show d = 0 by omega]; rfl
      · rw [show d = 1 by omega]; rfl
      · rw [show d = 2 by omega]; rfl
      · rw [show d = 3 by omega]; rfl
    rw [show K + (m + 1) = (K + m) + 1 by omega, spec_l24Walk.l2, if_pos (by omega), sStep _ w h o c d (by omega)]
    simp only [Option.bind_some]
    rw [w64 (x := d - 1) (by omega) (by omega), htk, key]
    by_cases z : 0 ≤ step w h o c d
    · have hn := step_cell z
      have hnl := cellD_lt hn
      rw [if_pos z, if_pos z, if_pos (by omega), C.eq _ hn]
      by_cases q : seenF st fr (step w h o c d) = true
      · rw [if_pos q, ih K x (d - 1) (by omega) (by omega) (by omega) hK]
        by_cases f : firstU w h o st fr c (([0, 1, 2, 3] : List Int).take m) = -1
        · rw [if_pos f, if_pos f, if_neg (show ¬ (0 ≤ step w h o c d ∧ seenF st fr (step w h o c d) = false) from fun y => by have := y.2; rw [q] at this; cases this), if_pos rfl]
        · rw [if_neg f, if_neg f, if_neg f]
      · have q' : seenF st fr (step w h o c d) = false := by simpa using q
        rw [if_neg q, ih K _ (d - 1) (by omega) (by omega) (by omega) hK]
        by_cases f : firstU w h o st fr c (([0, 1, 2, 3] : List Int).take m) = -1
        · simp only [f, reduceIte, z, q', and_self]
          rw [if_neg (by omega)]
        · rw [if_neg f, if_neg f, if_neg f]
    · rw [if_neg z, ih K x (d - 1) (by omega) (by omega) (by omega) hK]
      by_cases f : firstU w h o st fr c (([0, 1, 2, 3] : List Int).take m) = -1
      · rw [if_pos f, if_pos f, if_neg (show ¬ (0 ≤ step w h o c d ∧ seenF st fr (step w h o c d) = false) from fun y => z y.1), if_pos rfl]
      · rw [if_neg f, if_neg f, if_neg f]
theorem s24_round (w h o st : Int) (fr cs : List Int) (s : List Bool) (c : Int) (C : Cons w h st fr s) (hl : (fr.length : Int) = cells w h) (hc : isCell w h c = true) (hcs : cs.length < 1000) (K : Nat) (hK : 5 ≤ K) :
    spec_l24Walk.l1 (K + 6) st fr cs s c w h o = if 0 ≤ firstU w h o st fr c [0, 1, 2, 3] then spec_l24Walk.l1 K st (fr.set (firstU w h o st fr c [0, 1, 2, 3]).toNat c) (cs ++ [firstU w h o st fr c [0, 1, 2, 3]]) (s.set (firstU w h o st fr c [0, 1, 2, 3]).toNat true) (firstU w h o st fr c [0, 1, 2, 3]) w h o
      else if c = st then some (cs, fr) else spec_l24Walk.l1 K st fr (cs ++ [rd fr c]) s (rd fr c) w h o := by
  have hcl := cellD_lt hc
  have hlen := C.len
  have hA : cs.length < 17592186044416 := by omega
  have fU : ∀ ts : List Int, firstU w h o st fr c ts = -1 ∨ (0 ≤ firstU w h o st fr c ts ∧ isCell w h (firstU w h o st fr c ts) = true) := by
    intro ts
    induction ts with
    | nil => exact .inl rfl
    | cons t ts ih =>
      unfold firstU
      split
      · rename_i q
        exact .inr ⟨q.1, step_cell q.1⟩
      · exact ih
  have r := s24_l2 w h o st fr cs s c C 4 (K + 1) (-1) 3 (by omega) (by omega) (by omega) (by omega)
  rw [show K + 6 = (K + 1 + 4) + 1 by omega, spec_l24Walk.l1, r]
  have e4 : ([0, 1, 2, 3] : List Int).take 4 = [0, 1, 2, 3] := rfl
  rw [e4]
  rcases fU [0, 1, 2, 3] with f | ⟨f, fc⟩
  · rw [f, if_pos rfl, if_neg (show ¬ (0 : Int) ≤ -1 by omega), spec_l24Walk.l2, if_neg (show ¬ (-1 : Int) ≥ 0 by omega), if_neg (show ¬ (-1 : Int) ≥ 0 by omega)]
    by_cases e : c = st
    · rw [if_pos e, if_pos e]
    · rw [if_neg e, if_neg e, if_pos hcl.1, if_pos (by omega), if_pos hA]
  · have fl := cellD_lt fc
    rw [if_neg (by omega), if_pos f, spec_l24Walk.l2, if_neg (by omega), if_pos f, if_pos f, if_pos (by omega), if_pos (by omega), if_pos hA]
theorem firstU_all {w h o st : Int} {fr : List Int} {c : Int} : ∀ ts : List Int, (∀ t ∈ ts, 0 ≤ step w h o c t → seenF st fr (step w h o c t) = true) → firstU w h o st fr c ts = -1
  | [], _ => rfl
  | t :: ts, a => by
    rw [firstU, if_neg]
    · exact firstU_all ts fun x hx => a x (List.mem_cons_of_mem _ hx)
    · rintro ⟨y, z⟩
      rw [a t List.mem_cons_self y] at z
      cases z
theorem firstU_at {w h o st : Int} {fr : List Int} {c d : Int} (h0 : 0 ≤ d) (h3 : d ≤ 3) (hs : 0 ≤ step w h o c d) (hu : seenF st fr (step w h o c d) = false) (hb : ∀ t, 0 ≤ t → t < d → 0 ≤ step w h o c t → seenF st fr (step w h o c t) = true) : firstU w h o st fr c [0, 1, 2, 3] = step w h o c d := by
  have go : ∀ (ts : List Int) (r : List Int), (∀ t ∈ ts, 0 ≤ step w h o c t → seenF st fr (step w h o c t) = true) → firstU w h o st fr c (ts ++ d :: r) = step w h o c d := by
    intro ts r a
    induction ts with
    | nil => rw [List.nil_append, firstU, if_pos ⟨hs, hu⟩]
    | cons t ts ih =>
      rw [List.cons_append, firstU, if_neg]
      · exact ih fun x hx => a x (List.mem_cons_of_mem _ hx)
      · rintro ⟨y, z⟩
        rw [a t List.mem_cons_self y] at z
        cases z
  have : d = 0 ∨ d = 1 ∨ d = 2 ∨ d = 3 := by omega
  rcases this with rfl | rfl | rfl | rfl
  · exact go [] [1, 2, 3] (by simp)
  · exact go [0] [2, 3] (by intro t ht; simp only [List.mem_cons, List.not_mem_nil, or_false] at ht; exact hb t (by omega) (by omega))
  · exact go [0, 1] [3] (by intro t ht; simp only [List.mem_cons, List.not_mem_nil, or_false] at ht; exact hb t (by omega) (by omega))
  · exact go [0, 1, 2] [] (by intro t ht; simp only [List.mem_cons, List.not_mem_nil, or_false] at ht; exact hb t (by omega) (by omega))
theorem Cons.go {w h st : Int} {fr : List Int} {s : List Bool} {n c : Int} (C : Cons w h st fr s) (hl : (fr.length : Int) = cells w h) (hn : isCell w h n = true) (hc : isCell w h c = true) : Cons w h st (fr.set n.toNat c) (s.set n.toNat true) := by
  have hnl := cellD_lt hn
  have hcl := cellD_lt hc
  have hlen := C.len
  refine ⟨by rw [List.length_set]; exact C.len, fun x hx => ?_⟩
  have hxl := cellD_lt hx
  have h1 : rdOf false (s.set n.toNat true) x = if x = n then true else rdOf false s x := by
    unfold rdOf
    rw [List.getD_eq_getElem?_getD, List.getD_eq_getElem?_getD]
    by_cases e : x = n
    · subst e
      rw [if_pos rfl, List.getElem?_set_self (by omega)]
      rfl
    · rw [if_neg e, List.getElem?_set_ne (by omega)]
  rw [h1]
  unfold seenF
  rw [rdl_set hl hn hx]
  by_cases e : x = n
  · rw [if_pos e, if_pos e, decide_eq_true hcl.1]
    simp
  · rw [if_neg e, if_neg e]
    exact C.eq x hx
/-- What the recursion leaves at a cell, from a direction on. -/
structure Left (w h o st c len : Int) (cs fr : List Int) (mo : Int) (R : List Int × List Int × Int) : Prop where
  inv : DI w h st R.2.1 R.2.2
  ext : Ext w h st fr R.2.1
  all : ∀ t, 0 ≤ t → t ≤ 3 → 0 ≤ step w h o c t → seenF st R.2.1 (step w h o c t) = true
  siz : R.1.length + 2 * cntU w h st R.2.1 = cs.length + 2 * cntU w h st fr
  mol : R.2.2 ≤ mo ∨ R.2.2 ≤ len + (cntU w h st fr : Int)
theorem thr_main (w h o st : Int) (hs : isCell w h st = true) : ∀ (u n k : Nat) (c len d : Int) (cs fr : List Int) (mo : Int), DI w h st fr mo → isCell w h c = true → seenF st fr c = true → Ch st fr c len → 0 ≤ len → len ≤ 100 → cntU w h st fr = u → 0 ≤ d → 4 - d = n → (len : Int) + u ≤ 100 → cs.length + 2 * u ≤ 500 → 6 * u + n + 10 ≤ k →
    (∀ t, 0 ≤ t → t < d → 0 ≤ step w h o c t → seenF st fr (step w h o c t) = true) →
    ∃ R, thr.l0 k w h o st c len d cs fr mo = some R ∧ Left w h o st c len cs fr mo R ∧
      ∃ j : Nat, j ≤ 12 * (u - cntU w h st R.2.1) ∧ ∀ (K : Nat) (s : List Bool), 5 ≤ K → Cons w h st fr s → ∃ s', Cons w h st R.2.1 s' ∧ spec_l24Walk.l1 (K + j) st fr cs s c w h o = spec_l24Walk.l1 K st R.2.1 R.1 s' c w h o := by
  intro u
  induction u using Nat.strongRecOn with
  | ind u ihu =>
  intro n
  induction n with
  | zero =>
    intro k c len d cs fr mo I hc hsc hch hl0 hl1 hu hd hn hlu hcs hk hall
    obtain ⟨k, rfl⟩ : ∃ m, k = m + 1 := ⟨k - 1, by omega⟩
    refine ⟨(cs, fr, mo), ?_, ⟨I, Ext.refl _ _ _ _, fun t t0 t3 => hall t t0 (by omega), rfl, .inl (Int.le_refl _)⟩, 0, by omega, fun K s hK C => ⟨s, C, rfl⟩⟩
    rw [thr.l0, if_neg (by omega)]
  | succ n ihn =>
    intro k c len d cs fr mo I hc hsc hch hl0 hl1 hu hd hn hlu hcs hk hall
    obtain ⟨k, rfl⟩ : ∃ m, k = m + 1 := ⟨k - 1, by omega⟩
    have hIl := I.len
    have hskip : (0 ≤ step w h o c d → seenF st fr (step w h o c d) = true) → ∃ R, thr.l0 k w h o st c len (wrap64 (d + 1)) cs fr mo = some R ∧ Left w h o st c len cs fr mo R ∧
        ∃ j : Nat, j ≤ 12 * (u - cntU w h st R.2.1) ∧ ∀ (K : Nat) (s : List Bool), 5 ≤ K → Cons w h st fr s → ∃ s', Cons w h st R.2.1 s' ∧ spec_l24Walk.l1 (K + j) st fr cs s c w h o = spec_l24Walk.l1 K st R.2.1 R.1 s' c w h o := fun q => by
      rw [w64 (by omega) (by omega)]
      exact ihn k c len (d + 1) cs fr mo I hc hsc hch hl0 hl1 hu (by omega) (by omega) hlu hcs (by omega) fun t t0 t1 ts => by
        by_cases e : t = d
        · rw [e] at ts ⊢; exact q ts
        · exact hall t t0 (by omega) ts
    rw [thr.l0, if_pos (by omega), iStep k w h o c d (by omega)]
    simp only [Option.bind_some]
    by_cases c1 : step w h o c d < 0
    · rw [if_pos c1]
      exact hskip fun z => by omega
    · rw [if_neg c1]
      have hsd : 0 ≤ step w h o c d := by omega
      have hnc := step_cell hsd
      have hnl := cellD_lt hnc
      by_cases c2 : step w h o c d = st
      · rw [if_pos c2]
        exact hskip fun _ => seenF_iff.2 (.inl c2)
      · rw [if_neg c2, if_pos (by omega)]
        by_cases c3 : rd fr (step w h o c d) ≥ 0
        · rw [if_pos c3]
          exact hskip fun _ => seenF_iff.2 (.inr c3)
        · rw [if_neg c3]
          have hun : seenF st fr (step w h o c d) = false := by
            cases z : seenF st fr (step w h o c d) with
            | false => rfl
            | true => rcases seenF_iff.1 z with e | e <;> omega
          have hfirst := firstU_at (by omega) (by omega) hsd hun hall
          generalize hgn : step w h o c d = nn at *
          obtain ⟨I1, X1, ch1, cnt1, rn1⟩ := I.go hnc hc hs hun hsc hch hl0
          have hA : cs.length < 17592186044415 := by omega
          have hw1 : wrap64 (len + 1) = len + 1 := w64 (by omega) (by omega)
          have hsn : seenF st (fr.set nn.toNat c) nn = true := seenF_iff.2 (.inr (by rw [rn1]; exact (cellD_lt hc).1))
          obtain ⟨R1, e1, L1, j1, hj1, sim1⟩ := ihu (cntU w h st (fr.set nn.toNat c)) (by omega) 4 k nn (len + 1) 0 (cs ++ [nn]) (fr.set nn.toNat c) (mx mo (len + 1)) I1 hnc hsn ch1 (by omega) (by omega) rfl (by omega) (by omega) (by omega) (by simp only [List.length_append, List.length_singleton]; omega) (by omega) (fun t t0 t1 => by omega)
          have hlenA := L1.siz
          simp only [List.length_append, List.length_singleton] at hlenA
          have hcl1 := L1.ext.cnt
          have hX := X1.trans L1.ext
          have hR1 : R1.1.length < 17592186044415 := by omega
          have hu2 : cntU w h st R1.2.1 < u := by omega
          have hs2 : seenF st R1.2.1 c = true := hX.seen hc hsc
          have hc2 := Ch.ext I.rng hX hc hch
          obtain ⟨R2, e2, L2, j2, hj2, sim2⟩ := ihu (cntU w h st R1.2.1) hu2 n k c len (d + 1) (R1.1 ++ [c]) R1.2.1 R1.2.2 L1.inv hc hs2 hc2 hl0 hl1 rfl (by omega) (by omega) (by omega) (by simp only [List.length_append, List.length_singleton]; omega) (by omega) (fun t t0 t1 ts => by
            by_cases e : t = d
            · rw [e, hgn]
              exact L1.ext.seen hnc hsn
            · exact hX.seen (step_cell ts) (hall t t0 (by omega) ts))
          have hcl2 := L2.ext.cnt
          have hlenB := L2.siz
          simp only [List.length_append, List.length_singleton] at hlenB
          refine ⟨R2, ?_, ⟨L2.inv, hX.trans L2.ext, L2.all, by omega, by have m1 := L1.mol; have m2 := L2.mol; unfold mx at m1; split at m1 <;> omega⟩, j2 + 6 + j1 + 6, by omega, fun K s hK C => ?_⟩
          · rw [if_pos hA, hw1, e1]
            simp only [Option.bind_some]
            rw [if_pos hR1, w64 (x := d + 1) (by omega) (by omega)]
            exact e2
          · obtain ⟨s1, C1, q1⟩ := sim1 (K + j2 + 6) (s.set nn.toNat true) (by omega) (C.go hIl hnc hc)
            obtain ⟨s2, C2, q2⟩ := sim2 K s1 hK C1
            refine ⟨s2, C2, ?_⟩
            have r1 := s24_round w h o st fr cs s c C hIl hc (by omega) (K + j2 + 6 + j1) (by omega)
            rw [hfirst, if_pos (by omega)] at r1
            have hn1 : firstU w h o st R1.2.1 nn [0, 1, 2, 3] = -1 := firstU_all _ fun t ht hst => L1.all t (by simp only [List.mem_cons, List.not_mem_nil, or_false] at ht; omega) (by simp only [List.mem_cons, List.not_mem_nil, or_false] at ht; omega) hst
            have r2 := s24_round w h o st R1.2.1 R1.1 s1 nn C1 L1.inv.len hnc (by omega) (K + j2) (by omega)
            rw [hn1, if_neg (by omega), if_neg c2, L1.ext nn hnc hsn, rn1] at r2
            rw [show K + (j2 + 6 + j1 + 6) = K + j2 + 6 + j1 + 6 by omega, r1, q1, r2, q2]
def noneF (w h : Int) : List Int := List.replicate (cells w h).toNat (-1)
theorem rd_none {w h x : Int} (hx : isCell w h x = true) : rd (noneF w h) x = -1 := by
  have hl := cellD_lt hx
  unfold noneF
  exact List.eq_of_mem_replicate (rd_memL (l := List.replicate (cells w h).toNat (-1)) hl.1 (by simp; omega))
theorem seen_none {w h st x : Int} (hx : isCell w h x = true) : seenF st (noneF w h) x = decide (x = st) := by
  unfold seenF
  rw [rd_none hx]
  simp
theorem start_D {w h st : Int} (hs : isCell w h st = true) : DI w h st (noneF w h) 0 := by
  have hr := cells_range w h
  refine ⟨by unfold noneF; simp; omega, fun n hn => ?_, rd_none hs, fun n hn s => ?_, ⟨st, hs, seenF_iff.2 (.inl rfl), .base⟩, Int.le_refl _⟩
  · rw [rd_none hn]
    exact ⟨by omega, fun z => by omega⟩
  · rw [seen_none hn] at s
    rw [of_decide_eq_true s]
    exact ⟨0, .base, by omega, by omega⟩
theorem start_cnt {w h st : Int} (hs : isCell w h st = true) : cntU w h st (noneF w h) + 1 = (cells w h).toNat := by
  have hl := cellD_lt hs
  unfold cntU
  have e := filterT_minus (fun _ => true) (fun j => decide (j ≠ st.toNat)) st.toNat rfl (fun c => by simp) (cells w h).toNat (by omega)
  rw [List.filter_eq_self.2 (fun _ _ => rfl), List.length_range] at e
  have e2 : ((List.range (cells w h).toNat).filter fun j : Nat => !seenF st (noneF w h) (j : Int)) = (List.range (cells w h).toNat).filter fun j => decide (j ≠ st.toNat) := by
    apply List.filter_congr
    intro j hj
    have hc := cell_of (w := w) (h := h) (x := (j : Int)) (by omega) (by have := List.mem_range.1 hj; omega)
    rw [seen_none hc, Bool.eq_iff_iff]
    simp
    omega
  rw [e2]
  exact e
theorem Ch.nn {st : Int} {fr : List Int} {n k : Int} (c : Ch st fr n k) : 0 ≤ k := by
  induction c with
  | base => omega
  | step _ _ _ ih => omega
theorem Ch.det {st : Int} {fr : List Int} (h0 : rd fr st = -1) {n k l : Int} (a : Ch st fr n k) (b : Ch st fr n l) : k = l := by
  induction a generalizing l with
  | base =>
    cases b with
    | base => rfl
    | step ne _ _ => exact absurd rfl ne
  | step ne hp _ ih =>
    cases b with
    | base => exact absurd rfl ne
    | step _ _ c => rw [ih c]
theorem s24_l0 (w h o st : Int) (hs : isCell w h st = true) : ∀ (n k : Nat) (d : List Int) (i : Int) (R : List Int × List Int) (K : Nat), (d.length : Int) = cells w h → 0 ≤ i → cells w h - i = n → K + n + 1 ≤ k → d.take i.toNat = List.replicate i.toNat (-1) →
    (∀ k', K ≤ k' → spec_l24Walk.l1 k' st (noneF w h) [st] ((List.replicate (cells w h).toNat false).set st.toNat true) st w h o = some R) → spec_l24Walk.l0 k st d i w h o = some R := by
  have hl := cellD_lt hs
  have hr := cells_range w h
  intro n
  induction n with
  | zero =>
    intro k d i R K hd h0 hn hk ht H
    obtain ⟨k, rfl⟩ : ∃ m, k = m + 1 := ⟨k - 1, by omega⟩
    have e : d = noneF w h := by
      rw [List.take_of_length_le (by omega)] at ht
      unfold noneF
      rw [ht, show i.toNat = (cells w h).toNat by omega]
    have hA : ((d.length : Int)).toNat ≤ 281474976710656 := by omega
    rw [spec_l24Walk.l0, if_neg (by omega), if_pos (by omega), if_pos hA]
    simp only [Option.bind_some]
    rw [if_pos hl.1, if_pos (by rw [List.length_replicate]; omega), show ((d.length : Int)).toNat = (cells w h).toNat by omega, e]
    exact H k (by omega)
  | succ n ih =>
    intro k d i R K hd h0 hn hk ht H
    obtain ⟨k, rfl⟩ : ∃ m, k = m + 1 := ⟨k - 1, by omega⟩
    rw [spec_l24Walk.l0, if_pos (by omega), if_pos h0, w64 (by omega) (by omega)]
    refine ih k _ (i + 1) R K (by simpa using hd) (by omega) (by omega) (by omega) ?_ H
    rw [show (i + 1).toNat = i.toNat + 1 by omega, List.take_add_one, List.take_set_of_le (by omega), ht, List.getElem?_set_self (by omega), List.replicate_succ']
    rfl
theorem thread_fin {w h o st : Int} (ha : has w h o st = true) : ∃ R : List Int × List Int × Int, (∀ k, 300 ≤ k → impl_thread.f k w h o st = some (some R)) ∧ (∀ k, 400 ≤ k → spec_l24Walk.f k w h o st = some (R.1, R.2.1)) ∧ Left w h o st st 0 [st] (noneF w h) 0 R ∧ R.1.length ≤ 31 := by
  have hr := cells_range w h
  have hs := (has_parts ha).2
  have hl := cellD_lt hs
  have hcn := start_cnt hs
  have C0 : Cons w h st (noneF w h) ((List.replicate (cells w h).toNat false).set st.toNat true) := by
    refine ⟨by simp; omega, fun n hn => ?_⟩
    have hnl := cellD_lt hn
    rw [seen_none hn]
    unfold rdOf
    rw [List.getD_eq_getElem?_getD]
    by_cases e : n = st
    · subst e
      rw [List.getElem?_set_self (by simp; omega)]
      simp
    · rw [List.getElem?_set_ne (by omega), List.getElem?_replicate, decide_eq_false e]
      split <;> rfl
  have main := fun k hk => thr_main w h o st hs (cntU w h st (noneF w h)) 4 k st 0 0 [st] (noneF w h) 0 (start_D hs) hs (seenF_iff.2 (.inl rfl)) .base (by omega) (by omega) rfl (by omega) (by omega) (by omega) (by simp; omega) hk (fun t t0 t1 => by omega)
  obtain ⟨R, e, L, j, hj, sim⟩ := main 200 (by omega)
  have hlen := L.siz
  simp only [List.length_singleton] at hlen
  have hcR := L.ext.cnt
  refine ⟨R, fun k hk => ?_, fun k hk => ?_, L, by omega⟩
  · obtain ⟨R', e', _, _⟩ := main k (by omega)
    have hm : ∀ m, thr.l0 (200 + m) w h o st st 0 0 [st] (noneF w h) 0 = some R := by
      intro m
      induction m with
      | zero => exact e
      | succ m ih => exact thr.mono _ _ _ _ _ _ _ _ _ _ _ _ ih
    have hR : R' = R := by
      have := hm (k - 200)
      rw [show 200 + (k - 200) = k by omega, e'] at this
      exact Option.some.inj this
    unfold impl_thread.f slices_Repeat_int_int.f
    rw [iisIn1]
    simp only [Option.bind_some]
    rw [if_pos ha, iCountCells]
    simp only [Option.bind_some]
    rw [if_pos ⟨rfl, by omega, hr.2⟩]
    simp only [Option.bind_some]
    have e0 : mx 0 0 = 0 := by decide
    rw [e0]
    have e2 : List.replicate (cells w h).toNat (rd [-1] 0) = noneF w h := rfl
    rw [e2, e', hR]
    rfl
  · unfold spec_l24Walk.f
    rw [sCountCells]
    simp only [Option.bind_some]
    have hA : (cells w h).toNat ≤ 35184372088832 := by omega
    rw [if_pos hr.1, if_pos hA]
    refine s24_l0 w h o st hs (cells w h).toNat k _ 0 (R.1, R.2.1) 300 (by simp; omega) (by omega) (by omega) (by omega) (by simp) fun k' hk' => ?_
    obtain ⟨s', C', q⟩ := sim (k' - j) _ (by omega) C0
    rw [show k' - j + j = k' by omega] at q
    rw [q, show k' - j = (k' - j - 6) + 6 by omega, s24_round w h o st R.2.1 R.1 s' st C' L.inv.len hs (by omega) (k' - j - 6) (by omega), firstU_all _ (fun t ht hst => L.all t (by simp only [List.mem_cons, List.not_mem_nil, or_false] at ht; omega) (by simp only [List.mem_cons, List.not_mem_nil, or_false] at ht; omega) hst), if_neg (by omega), if_pos rfl]
end Go.Proofs.Ytjmbnlemfdjkfaa.L
