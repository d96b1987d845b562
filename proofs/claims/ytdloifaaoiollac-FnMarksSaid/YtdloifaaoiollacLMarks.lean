/- Tremaux's walk comes to every cell that can be come to, goes through each passage once in each direction, and ends where it began. -/
import Derived.Test.YtdloifaaoiollacLTWalk
import Derived.Test.YtdloifaaoiollacLGraph
namespace Go.Proofs.Ytdloifaaoiollac.L
open Go.RowKit Go.Proofs.Ytdloifaaoiollac.X Go.Proofs.YtdloifaaoiollacW.PrintWords Go.Proofs.YtdloifaaoiollacW.PrintLast Go.Proofs.YtdloifaaoiollacW.PrintMore
set_option linter.unusedSimpArgs false
set_option linter.unusedVariables false

def endsFacts (w h g e : Int) : Bool := !(isGap w h g && (isGap w h e && (decide (endA w h g = endA w h e) && decide (endB w h g = endB w h e)))) || decide (g = e)
theorem ends_facts : ∀ (w h : Fin 5) (g e : Fin 24), endsFacts (w.val : Int) (h.val : Int) (g.val : Int) (e.val : Int) = true := by decide +kernel
def injFacts (w h c t s : Int) : Bool := !(isCell w h c && (decide (0 ≤ nb w h c t) && decide (nb w h c t = nb w h c s))) || decide (t = s)
theorem inj_facts : ∀ (w h : Fin 5) (c : Fin 16) (t s : Fin 4), injFacts (w.val : Int) (h.val : Int) (c.val : Int) (t.val : Int) (s.val : Int) = true := by decide +kernel
theorem gap_grid {w h g : Int} (hg : isGap w h g = true) : gridOk w h = true ∧ 0 ≤ g ∧ g < 24 := by
  have h1 := gap_lt hg
  have hr := gaps_range w h
  cases z : gridOk w h with
  | true => exact ⟨rfl, h1.1, by omega⟩
  | false => rw [gaps_no z] at h1; omega
theorem ends_one {w h g e : Int} (hg : isGap w h g = true) (he : isGap w h e = true) (h1 : endA w h g = endA w h e) (h2 : endB w h g = endB w h e) : g = e := by
  obtain ⟨hgr, g0, g1⟩ := gap_grid hg
  obtain ⟨_, e0, e1⟩ := gap_grid he
  have hg' := gridOk_iff.1 hgr
  obtain ⟨W, rfl⟩ := fin_int (n := 5) (x := w) (by omega) (by omega)
  obtain ⟨H, rfl⟩ := fin_int (n := 5) (x := h) (by omega) (by omega)
  obtain ⟨G, rfl⟩ := fin_int (n := 24) g0 g1
  obtain ⟨E, rfl⟩ := fin_int (n := 24) e0 e1
  have f := ends_facts W H G E
  unfold endsFacts at f
  simp only [hg, he, h1, h2, decide_true, Bool.and_true, Bool.not_true, Bool.false_or, decide_eq_true_eq] at f
  exact f
theorem nb_inj {w h c t s : Int} (hc : isCell w h c = true) (t0 : 0 ≤ t) (t3 : t ≤ 3) (s0 : 0 ≤ s) (s3 : s ≤ 3) (hn : 0 ≤ nb w h c t) (e : nb w h c t = nb w h c s) : t = s := by
  obtain ⟨hg, h0, _, h15⟩ := isCell_ok hc
  have hg' := gridOk_iff.1 hg
  obtain ⟨W, rfl⟩ := fin_int (n := 5) (x := w) (by omega) (by omega)
  obtain ⟨H, rfl⟩ := fin_int (n := 5) (x := h) (by omega) (by omega)
  obtain ⟨C, rfl⟩ := fin_int (n := 16) h0 (by omega)
  obtain ⟨T, rfl⟩ := fin_int (n := 4) t0 (by omega)
  obtain ⟨S, rfl⟩ := fin_int (n := 4) s0 (by omega)
  have f := inj_facts W H C T S
  unfold injFacts at f
  rw [hc, decide_eq_true hn, decide_eq_true e] at f
  simpa using f
/-- An open gap at a cell. -/
def At (w h o x g : Int) : Prop := isGap w h g = true ∧ bit o g = true ∧ (x = endA w h g ∨ x = endB w h g)
def Joins (w h g x y : Int) : Prop := (x = endA w h g ∧ y = endB w h g) ∨ (x = endB w h g ∧ y = endA w h g)
theorem Joins.symm {w h g x y : Int} (j : Joins w h g x y) : Joins w h g y x := (Or.symm j).imp (fun z => ⟨z.2, z.1⟩) (fun z => ⟨z.2, z.1⟩)
theorem Joins.ne {w h g x y : Int} (hg : isGap w h g = true) (j : Joins w h g x y) : x ≠ y := by
  have := (end_tells hg).2.2.1
  rcases j with ⟨rfl, rfl⟩ | ⟨rfl, rfl⟩ <;> omega
theorem Joins.one {w h g e x y : Int} (hg : isGap w h g = true) (he : isGap w h e = true) (j : Joins w h g x y) (k : Joins w h e x y) : g = e := by
  have h1 := (end_tells hg).2.2.1
  have h2 := (end_tells he).2.2.1
  rcases j with ⟨a, b⟩ | ⟨a, b⟩ <;> rcases k with ⟨c, d⟩ | ⟨c, d⟩
  · exact ends_one hg he (by omega) (by omega)
  · omega
  · omega
  · exact ends_one hg he (by omega) (by omega)
theorem Joins.other {w h g x y z : Int} (hg : isGap w h g = true) (j : Joins w h g x y) (k : Joins w h g x z) : y = z := by
  have h1 := (end_tells hg).2.2.1
  rcases j with ⟨a, b⟩ | ⟨a, b⟩ <;> rcases k with ⟨c, d⟩ | ⟨c, d⟩ <;> omega
theorem Joins.mem {w h g x y : Int} (j : Joins w h g x y) : (x = endA w h g ∨ x = endB w h g) ∧ (y = endA w h g ∨ y = endB w h g) := by
  rcases j with ⟨a, b⟩ | ⟨a, b⟩
  · exact ⟨.inl a, .inr b⟩
  · exact ⟨.inr a, .inl b⟩
theorem dir_tells {w h o c d : Int} (d0 : 0 ≤ d) (d3 : d ≤ 3) (hs : 0 ≤ step w h o c d) : isGap w h (gapAt w h c d) = true ∧ bit o (gapAt w h c d) = true ∧ Joins w h (gapAt w h c d) c (step w h o c d) ∧
    step w h o (step w h o c d) ((d + 2) % 4) = c ∧ gapAt w h (step w h o c d) ((d + 2) % 4) = gapAt w h c d ∧ isCell w h c = true ∧ isCell w h (step w h o c d) = true ∧ nb w h c d = step w h o c d := by
  rcases step_range w h o c d with e | ⟨hm, hc, hc', hn, hg, hb⟩
  · omega
  · have t := nb_tells hc d0 d3 (by omega)
    rw [hn] at t
    refine ⟨t.1, hb, t.2.2.1, ?_, t.2.2.2.2, hc, hc', hn⟩
    rw [step_of hm (by rw [t.2.2.2.2]; exact t.1) (by rw [t.2.2.2.2]; exact hb)]
    exact t.2.2.2.1
theorem at_dir {w h o x g : Int} (hm : mazeOk w h o = true) (a : At w h o x g) : ∃ d, 0 ≤ d ∧ d ≤ 3 ∧ 0 ≤ step w h o x d ∧ gapAt w h x d = g := by
  obtain ⟨hg, hb, c⟩ := a
  obtain ⟨ha, hb', hlt, t, t0, t3, n1, g1, n2, g2⟩ := end_tells hg
  have la := cellD_lt ha
  have lb := cellD_lt hb'
  rcases c with rfl | rfl
  · have e := step_of (c := endA w h g) (t := t) hm (by rw [g1]; exact hg) (by rw [g1]; exact hb)
    exact ⟨t, t0, t3, by rw [e, n1]; omega, g1⟩
  · have e := step_of (c := endB w h g) (t := (t + 2) % 4) hm (by rw [g2]; exact hg) (by rw [g2]; exact hb)
    exact ⟨(t + 2) % 4, by omega, by omega, by rw [e, n2]; omega, g2⟩
theorem has_of' {w h o c : Int} (hm : mazeOk w h o = true) (hc : isCell w h c = true) : has w h o c = true := by unfold has; rw [hm, hc]; rfl
def Chn (w h o : Int) (marks : List Int) : List Int → Prop
  | x :: y :: r => (∃ g, isGap w h g = true ∧ bit o g = true ∧ Joins w h g x y ∧ rd marks g = 1) ∧ Chn w h o marks (y :: r)
  | _ => True
def InCh (w h g : Int) : List Int → Prop
  | x :: y :: r => Joins w h g x y ∨ InCh w h g (y :: r)
  | _ => False
theorem inCh_mem {w h g : Int} : ∀ l : List Int, InCh w h g l → ∀ x, (x = endA w h g ∨ x = endB w h g) → x ∈ l
  | [], i, _, _ => i.elim
  | [_], i, _, _ => i.elim
  | x :: y :: r, i, z, hz => by
    rcases i with j | i
    · rcases j with ⟨a, b⟩ | ⟨a, b⟩ <;> rcases hz with c | c <;> simp [← a, ← b, c]
    · exact List.mem_cons_of_mem _ (inCh_mem (y :: r) i z hz)
theorem chn_set {w h o e v : Int} {marks : List Int} (h0 : 0 ≤ e) (h1 : e < (marks.length : Int)) : ∀ l : List Int, Chn w h o marks l → ¬ InCh w h e l → Chn w h o (marks.set e.toNat v) l
  | [], _, _ => trivial
  | [_], _, _ => trivial
  | x :: y :: r, c, n => by
    obtain ⟨⟨g, hg, hb, j, hm⟩, c⟩ := c
    refine ⟨⟨g, hg, hb, j, ?_⟩, chn_set h0 h1 (y :: r) c fun z => n (.inr z)⟩
    rw [rd_set h0 h1 (gap_lt hg).1, if_neg (fun z => n (.inl (by rw [← z]; exact j)))]
    exact hm
theorem chn_mem {w h o : Int} {marks : List Int} : ∀ l : List Int, Chn w h o marks l → 2 ≤ l.length → ∀ x ∈ l, ∃ g, At w h o x g ∧ rd marks g = 1
  | [], _, hl, _, _ => by simp at hl
  | [_], _, hl, _, _ => by simp at hl
  | x :: y :: r, c, _, z, hz => by
    obtain ⟨⟨g, hg, hb, j, hm⟩, c⟩ := c
    rcases List.mem_cons.1 hz with rfl | hz
    · exact ⟨g, ⟨hg, hb, j.mem.1⟩, hm⟩
    · cases r with
      | nil =>
        simp only [List.mem_singleton] at hz
        subst hz
        exact ⟨g, ⟨hg, hb, j.mem.2⟩, hm⟩
      | cons u r => exact chn_mem (y :: u :: r) c (by simp) z hz
structure TInv (w h o a : Int) (stk marks : List Int) : Prop where
  len : (marks.length : Int) = gaps w h
  rng : ∀ n ∈ marks, 0 ≤ n ∧ n ≤ 2
  shut : ∀ g, isGap w h g = true → bit o g = false → rd marks g = 0
  nod : stk.Nodup
  chn : Chn w h o marks stk
  ones : ∀ g, isGap w h g = true → rd marks g = 1 → InCh w h g stk
  off : ∀ x, isCell w h x = true → x ∉ stk → (∀ g, At w h o x g → rd marks g = 0) ∨ (∀ g, At w h o x g → rd marks g = 2)
  rch : ∀ g, isGap w h g = true → 0 < rd marks g → Rch w h o a (endA w h g)
  srch : ∀ x ∈ stk, Rch w h o a x
  last : ∃ s, stk = s ++ [a]
def tot : List Int → Int
  | [] => 0
  | x :: l => x + tot l
theorem tot_set : ∀ (l : List Int) (i : Int) (v : Int), 0 ≤ i → i < (l.length : Int) → tot (l.set i.toNat v) = tot l - rd l i + v
  | [], i, v, h0, h1 => by simp at h1; omega
  | x :: l, i, v, h0, h1 => by
    by_cases e : i = 0
    · subst e
      simp [tot, rd]
      omega
    · have h2 := tot_set l (i - 1) v (by omega) (by simp at h1; omega)
      have e1 : i.toNat = (i - 1).toNat + 1 := by omega
      have e2 : rd (x :: l) i = rd l (i - 1) := by unfold rd; rw [e1]; rfl
      rw [e1, e2, List.set_cons_succ, tot, tot, h2]
      omega
theorem tot_le : ∀ l : List Int, (∀ n ∈ l, 0 ≤ n ∧ n ≤ 2) → 0 ≤ tot l ∧ tot l ≤ 2 * (l.length : Int)
  | [], _ => by simp [tot]
  | x :: l, h => by
    have h1 := h x List.mem_cons_self
    have h2 := tot_le l fun n hn => h n (List.mem_cons_of_mem _ hn)
    simp only [tot, List.length_cons]
    omega
structure Cel (w h a : Int) (cells : List Int) (c : Int) (marks : List Int) : Prop where
  len : (cells.length : Int) = tot marks + 1
  fst : rd cells 0 = a
  lst : rd cells ((cells.length : Int) - 1) = c
  pos : 1 ≤ cells.length
  mem : ∀ g, isGap w h g = true → 0 < rd marks g → endA w h g ∈ cells ∧ endB w h g ∈ cells
theorem Cel.step {w h a c y g v : Int} {cells marks : List Int} (C : Cel w h a cells c marks) (hg : isGap w h g = true) (j : Joins w h g c y) (hl : (marks.length : Int) = gaps w h) (hv : v = rd marks g + 1) : Cel w h a (cells ++ [y]) y (marks.set g.toNat v) := by
  have hgl := gap_lt hg
  have hp := C.pos
  have hc : c ∈ cells := by rw [← C.lst]; exact rd_memL (by omega) (by omega)
  refine ⟨?_, ?_, ?_, by simp, fun e he hp => ?_⟩
  · rw [tot_set _ _ _ hgl.1 (by omega), List.length_append, List.length_singleton]
    have := C.len
    omega
  · rw [rd_append_left (by omega) (by omega)]; exact C.fst
  · rw [List.length_append, List.length_singleton, rd_get (by omega) (by rw [List.length_append, List.length_singleton]; omega), List.getElem_append_right (by omega)]
    simp
  · rw [rd_set hgl.1 (by omega) (gap_lt he).1] at hp
    by_cases z : e = g
    · subst z
      have : y ∈ cells ++ [y] := by simp
      have hc' : c ∈ cells ++ [y] := by simp [hc]
      rcases j with ⟨p, q⟩ | ⟨p, q⟩
      · exact ⟨p ▸ hc', q ▸ this⟩
      · exact ⟨q ▸ this, p ▸ hc'⟩
    · rw [if_neg z] at hp
      have := C.mem e he hp
      exact ⟨List.mem_append_left _ this.1, List.mem_append_left _ this.2⟩
theorem firstT_all {w h o c f : Int} {l : List Int} {v : Int} : ∀ ts : List Int, (∀ t ∈ ts, mk w h o c l ((f + t) % 4) ≠ v) → firstT w h o c f l v ts = -1
  | [], _ => rfl
  | t :: ts, z => by
    rw [firstT_miss (z t List.mem_cons_self)]
    exact firstT_all ts fun t ht => z t (List.mem_cons_of_mem _ ht)
theorem firstT_any {w h o c f : Int} {l : List Int} {v : Int} : ∀ (ts : List Int) (t : Int), t ∈ ts → mk w h o c l ((f + t) % 4) = v → 0 ≤ firstT w h o c f l v ts
  | [], t, ht, _ => by cases ht
  | s :: ts, t, ht, hv => by
    unfold firstT
    split
    · omega
    · rename_i z
      rcases List.mem_cons.1 ht with rfl | ht
      · exact absurd hv z
      · exact firstT_any ts t ht hv
theorem mk_eq {w h o c d : Int} {l : List Int} (hs : 0 ≤ step w h o c d) : mk w h o c l d = rd l (gapAt w h c d) := by unfold mk; rw [if_neg (by omega)]
theorem mk_pass {w h o c d v : Int} {l : List Int} (e : mk w h o c l d = v) (hv : 0 ≤ v) : 0 ≤ step w h o c d ∧ rd l (gapAt w h c d) = v := by
  unfold mk at e
  split at e
  · omega
  · exact ⟨by omega, e⟩
theorem oldB_iff {w h o c f : Int} {l : List Int} : oldB w h o c f l = true ↔ ∃ d, 0 ≤ d ∧ d ≤ 3 ∧ d ≠ (f + 2) % 4 ∧ 0 < mk w h o c l d := by
  unfold oldB
  simp only [Bool.or_eq_true, Bool.and_eq_true, decide_eq_true_eq]
  constructor
  · rintro (((⟨a, b⟩ | ⟨a, b⟩) | ⟨a, b⟩) | ⟨a, b⟩)
    · exact ⟨0, by omega, by omega, a, b⟩
    · exact ⟨1, by omega, by omega, a, b⟩
    · exact ⟨2, by omega, by omega, a, b⟩
    · exact ⟨3, by omega, by omega, a, b⟩
  · rintro ⟨d, d0, d3, a, b⟩
    obtain rfl | rfl | rfl | rfl : d = 0 ∨ d = 1 ∨ d = 2 ∨ d = 3 := by omega
    · exact .inl (.inl (.inl ⟨a, b⟩))
    · exact .inl (.inl (.inr ⟨a, b⟩))
    · exact .inl (.inr ⟨a, b⟩)
    · exact .inr ⟨a, b⟩
theorem TInv.marksOk {w h o a : Int} {stk marks : List Int} (I : TInv w h o a stk marks) : marksOk w h marks = true := by
  unfold L.marksOk isMark
  simp only [Bool.and_eq_true, decide_eq_true_eq, List.all_eq_true]
  exact ⟨I.len, I.rng⟩
theorem set_rng {l : List Int} {i : Nat} {v : Int} (h : ∀ n ∈ l, 0 ≤ n ∧ n ≤ 2) (h0 : 0 ≤ v) (h2 : v ≤ 2) : ∀ n ∈ l.set i v, 0 ≤ n ∧ n ≤ 2 := fun n hn => by
  rcases List.mem_or_eq_of_mem_set hn with hn | rfl
  · exact h n hn
  · exact ⟨h0, h2⟩
theorem tstep_go {w h o c f : Int} {l : List Int} {d : Int} (hw : walkerOk w h o c f = true) (hm : marksOk w h l = true) (hd : dirT w h o c f l = d) (h0 : 0 ≤ d) : tstep w h o c f l = (step w h o c d, d, true) := by
  unfold tstep
  rw [if_pos ⟨hw, hm⟩, hd, if_neg (by omega)]
theorem twalk_go {w h o c f : Int} {l cells : List Int} {n : Nat} {y d : Int} (e : tstep w h o c f l = (y, d, true)) : twalk w h o (n + 1) cells l c f = twalk w h o n (cells ++ [y]) (l.set (gapAt w h c d).toNat (rd l (gapAt w h c d) + 1)) y d := by
  rw [twalk, e, if_pos rfl]
theorem TInv.go {w h o a c e y : Int} {stk marks : List Int} (I : TInv w h o a (c :: stk) marks) (hm : mazeOk w h o = true) (he : isGap w h e = true) (hb : bit o e = true) (j : Joins w h e c y) (hz : rd marks e = 0)
    (hn : y ∉ c :: stk) (hry : Rch w h o a y) (hfr : ∀ g, At w h o y g → rd marks g = 0) : TInv w h o a (y :: c :: stk) (marks.set e.toNat 1) := by
  have hel := gap_lt he
  have hlen := I.len
  have rs : ∀ g, isGap w h g = true → rd (marks.set e.toNat 1) g = if g = e then 1 else rd marks g := fun g hg => rd_set hel.1 (by omega) (gap_lt hg).1
  refine ⟨by simpa using hlen, set_rng I.rng (by omega) (by omega), fun g hg hs => ?_, List.nodup_cons.2 ⟨hn, I.nod⟩, ⟨⟨e, he, hb, j.symm, by rw [rs e he, if_pos rfl]⟩, ?_⟩, fun g hg h1 => ?_, fun x hx hx' => ?_, fun g hg hp => ?_, fun x hx => ?_, ?_⟩
  · rw [rs g hg, if_neg (fun z => by rw [z, hb] at hs; cases hs)]
    exact I.shut g hg hs
  · exact chn_set hel.1 (by omega) _ I.chn fun z => hn (inCh_mem _ z y j.mem.2)
  · rw [rs g hg] at h1
    by_cases z : g = e
    · subst z; exact .inl j.symm
    · rw [if_neg z] at h1
      exact .inr (I.ones g hg h1)
  · have h2 : ∀ g, At w h o x g → g ≠ e := fun g hg z => by
      subst z
      have h3 := hg.2.2
      rcases j with ⟨p, q⟩ | ⟨p, q⟩ <;> rcases h3 with r | r <;> simp_all
    rcases I.off x hx (fun z => hx' (List.mem_cons_of_mem _ z)) with o1 | o1
    · exact .inl fun g hg => by rw [rs g hg.1, if_neg (h2 g hg)]; exact o1 g hg
    · exact .inr fun g hg => by rw [rs g hg.1, if_neg (h2 g hg)]; exact o1 g hg
  · rw [rs g hg] at hp
    by_cases z : g = e
    · subst z
      rcases j with ⟨p, q⟩ | ⟨p, q⟩
      · rw [← p]; exact I.srch c List.mem_cons_self
      · rw [← q]; exact hry
    · rw [if_neg z] at hp
      exact I.rch g hg hp
  · rcases List.mem_cons.1 hx with rfl | hx
    · exact hry
    · exact I.srch x hx
  · obtain ⟨s, hs⟩ := I.last
    exact ⟨y :: s, by rw [hs]; rfl⟩
theorem TInv.same {w h o a c e y : Int} {stk marks : List Int} (I : TInv w h o a (c :: stk) marks) (he : isGap w h e = true) (hb : bit o e = true) (j : Joins w h e c y) (hz : rd marks e = 0)
    (hn : y ∈ c :: stk) : TInv w h o a (c :: stk) (marks.set e.toNat 2) := by
  have hel := gap_lt he
  have hlen := I.len
  have rs : ∀ g, isGap w h g = true → rd (marks.set e.toNat 2) g = if g = e then 2 else rd marks g := fun g hg => rd_set hel.1 (by omega) (gap_lt hg).1
  have hch : ∀ l : List Int, Chn w h o marks l → Chn w h o (marks.set e.toNat 2) l := by
    intro l
    induction l with
    | nil => exact fun _ => trivial
    | cons x l ih =>
      cases l with
      | nil => exact fun _ => trivial
      | cons z r =>
        rintro ⟨⟨g, hg, hb', j', h1⟩, c'⟩
        exact ⟨⟨g, hg, hb', j', by rw [rs g hg, if_neg (fun q => by rw [q, hz] at h1; cases h1)]; exact h1⟩, ih c'⟩
  refine ⟨by simpa using hlen, set_rng I.rng (by omega) (by omega), fun g hg hs => ?_, I.nod, hch _ I.chn, fun g hg h1 => ?_, fun x hx hx' => ?_, fun g hg hp => ?_, I.srch, I.last⟩
  · rw [rs g hg, if_neg (fun z => by rw [z, hb] at hs; cases hs)]
    exact I.shut g hg hs
  · rw [rs g hg] at h1
    by_cases z : g = e
    · rw [if_pos z] at h1; omega
    · rw [if_neg z] at h1
      exact I.ones g hg h1
  · have h2 : ∀ g, At w h o x g → g ≠ e := fun g hg z => by
      subst z
      have h3 := hg.2.2
      have hc : c ∈ c :: stk := List.mem_cons_self
      rcases j with ⟨p, q⟩ | ⟨p, q⟩ <;> rcases h3 with r | r
      · exact hx' (by rw [r, ← p]; exact hc)
      · exact hx' (by rw [r, ← q]; exact hn)
      · exact hx' (by rw [r, ← q]; exact hn)
      · exact hx' (by rw [r, ← p]; exact hc)
    rcases I.off x hx hx' with o1 | o1
    · exact .inl fun g hg => by rw [rs g hg.1, if_neg (h2 g hg)]; exact o1 g hg
    · exact .inr fun g hg => by rw [rs g hg.1, if_neg (h2 g hg)]; exact o1 g hg
  · rw [rs g hg] at hp
    by_cases z : g = e
    · subst z
      rcases j with ⟨p, q⟩ | ⟨p, q⟩
      · rw [← p]; exact I.srch c List.mem_cons_self
      · rw [← q]; exact I.srch y hn
    · rw [if_neg z] at hp
      exact I.rch g hg hp
theorem TInv.back {w h o a c e p : Int} {stk marks : List Int} (I : TInv w h o a (c :: p :: stk) marks) (he : isGap w h e = true) (hb : bit o e = true) (j : Joins w h e c p) (h1e : rd marks e = 1)
    (hall : ∀ g, At w h o c g → rd marks g ≠ 0) : TInv w h o a (p :: stk) (marks.set e.toNat 2) := by
  have hel := gap_lt he
  have hlen := I.len
  have rs : ∀ g, isGap w h g = true → rd (marks.set e.toNat 2) g = if g = e then 2 else rd marks g := fun g hg => rd_set hel.1 (by omega) (gap_lt hg).1
  have hnod := List.nodup_cons.1 I.nod
  have hnot : ¬ InCh w h e (p :: stk) := fun z => hnod.1 (inCh_mem _ z c j.mem.1)
  refine ⟨by simpa using hlen, set_rng I.rng (by omega) (by omega), fun g hg hs => ?_, hnod.2, chn_set hel.1 (by omega) _ I.chn.2 hnot, fun g hg h1 => ?_, fun x hx hx' => ?_, fun g hg hp => ?_, fun x hx => I.srch x (List.mem_cons_of_mem _ hx), ?_⟩
  · rw [rs g hg, if_neg (fun z => by rw [z, hb] at hs; cases hs)]
    exact I.shut g hg hs
  · rw [rs g hg] at h1
    by_cases z : g = e
    · rw [if_pos z] at h1; omega
    · rw [if_neg z] at h1
      rcases I.ones g hg h1 with k | k
      · exact absurd (Joins.one hg he k j) z
      · exact k
  · by_cases q : x = c
    · subst q
      refine .inr fun g hg => ?_
      rw [rs g hg.1]
      by_cases z : g = e
      · rw [if_pos z]
      · rw [if_neg z]
        have h2 := I.rng (rd marks g) (rd_memL (gap_lt hg.1).1 (by have := (gap_lt hg.1).2; omega))
        have h3 := hall g hg
        by_cases h4 : rd marks g = 1
        · rcases I.ones g hg.1 h4 with k | k
          · exact absurd (Joins.one hg.1 he k j) z
          · exact absurd (inCh_mem _ k x hg.2.2) hnod.1
        · omega
    · have h2 : ∀ g, At w h o x g → g ≠ e := fun g hg z => by
        subst z
        have h3 := hg.2.2
        have hp : p ∈ p :: stk := List.mem_cons_self
        rcases j with ⟨u, v⟩ | ⟨u, v⟩ <;> rcases h3 with r | r
        · exact q (by rw [r, u])
        · exact hx' (by rw [r, ← v]; exact hp)
        · exact hx' (by rw [r, ← v]; exact hp)
        · exact q (by rw [r, u])
      rcases I.off x hx (fun z => (List.mem_cons.1 z).elim q hx') with o1 | o1
      · exact .inl fun g hg => by rw [rs g hg.1, if_neg (h2 g hg)]; exact o1 g hg
      · exact .inr fun g hg => by rw [rs g hg.1, if_neg (h2 g hg)]; exact o1 g hg
  · rw [rs g hg] at hp
    by_cases z : g = e
    · subst z
      exact I.rch g hg (by omega)
    · rw [if_neg z] at hp
      exact I.rch g hg hp
  · obtain ⟨s, hs⟩ := I.last
    cases s with
    | nil => simp at hs
    | cons u s => exact ⟨s, (List.cons.inj hs).2⟩
theorem gapAt_at {w h o c d : Int} (d0 : 0 ≤ d) (d3 : d ≤ 3) (hs : 0 ≤ step w h o c d) : At w h o c (gapAt w h c d) := by
  have t := dir_tells d0 d3 hs
  exact ⟨t.1, t.2.1, t.2.2.1.mem.1⟩
theorem turn_any {f d : Int} (f0 : 0 ≤ f) (f3 : f ≤ 3) (d0 : 0 ≤ d) (d3 : d ≤ 3) : ∃ t, t ∈ ([1, 0, 3, 2] : List Int) ∧ (f + t) % 4 = d ∧ (d ≠ (f + 2) % 4 → t ∈ ([1, 0, 3] : List Int)) := by
  refine ⟨(d - f) % 4, ?_, by omega, fun z => ?_⟩
  · simp only [List.mem_cons, List.not_mem_nil, or_false]; omega
  · simp only [List.mem_cons, List.not_mem_nil, or_false]; omega
theorem twalk_fin {w h o a : Int} (ha : has w h o a = true) : ∀ (n : Nat) (cells marks : List Int) (stk : List Int) (c f : Int), TInv w h o a (c :: stk) marks → Cel w h a cells c marks → 0 ≤ f → f ≤ 3 →
    mk w h o c marks ((f + 2) % 4) ≠ 0 → ¬ (mk w h o c marks ((f + 2) % 4) = 1 ∧ oldB w h o c f marks = true) → 49 ≤ (n : Int) + tot marks →
    ∃ cs ms, twalk w h o n cells marks c f = (cs, ms) ∧ TInv w h o a [a] ms ∧ Cel w h a cs a ms ∧ ∀ g, At w h o a g → rd ms g = 2 := by
  have hm := (has_parts ha).1
  have hca := (has_parts ha).2
  intro n
  induction n using Nat.strongRecOn with
  | ind n ih =>
  intro cells marks stk c f I C f0 f3 hb1 hb2 hn
  have hgr := gaps_range w h
  have hlen := I.len
  have htot := tot_le marks I.rng
  have hrc := I.srch c List.mem_cons_self
  have hcc := rch_cell hca hrc
  have hwk : walkerOk w h o c f = true := by
    unfold walkerOk
    rw [has_of' hm hcc, decide_eq_true (⟨f0, f3⟩ : 0 ≤ f ∧ f ≤ 3)]
    rfl
  have hmo := I.marksOk
  obtain ⟨n, rfl⟩ : ∃ m, n = m + 1 := ⟨n - 1, by omega⟩
  have hdir : dirT w h o c f marks = if 0 ≤ firstT w h o c f marks 0 [1, 0, 3] then firstT w h o c f marks 0 [1, 0, 3] else firstT w h o c f marks 1 [1, 0, 3, 2] := by
    unfold dirT
    rw [if_neg hb2]
  by_cases zero : ∃ d, 0 ≤ d ∧ d ≤ 3 ∧ mk w h o c marks d = 0
  · obtain ⟨d', d0', d3', hd'⟩ := zero
    obtain ⟨t, _, ht, ht3⟩ := turn_any f0 f3 d0' d3'
    have hin := ht3 fun z => hb1 (z ▸ hd')
    have hpos : 0 ≤ firstT w h o c f marks 0 [1, 0, 3] := firstT_any _ t hin (by rw [ht]; exact hd')
    rw [if_pos hpos] at hdir
    obtain ⟨d0, d3, hd⟩ := (firstT_some w h o c f marks 0 [1, 0, 3]).resolve_left (by omega)
    generalize firstT w h o c f marks 0 [1, 0, 3] = d at *
    obtain ⟨hs, he0⟩ := mk_pass hd (by omega)
    obtain ⟨hg, hbit, hj, hsb, hgb, _, hcy, hnb⟩ := dir_tells d0 d3 hs
    rw [twalk_go (tstep_go hwk hmo hdir d0), he0]
    generalize hy : step w h o c d = y at *
    generalize he : gapAt w h c d = e at *
    have hel := gap_lt hg
    have hry : Rch w h o a y := by rw [← hy]; exact hrc.step d0 d3 (by omega)
    have C1 : Cel w h a (cells ++ [y]) y (marks.set e.toNat (0 + 1)) := C.step hg hj hlen (by omega)
    have r1 : ∀ g, isGap w h g = true → rd (marks.set e.toNat (0 + 1)) g = if g = e then 1 else rd marks g := fun g hg => rd_set hel.1 (by omega) (gap_lt hg).1
    have t1 : tot (marks.set e.toNat (0 + 1)) = tot marks + 1 := by rw [tot_set _ _ _ hel.1 (by omega), he0]; omega
    have hl1 : ((marks.set e.toNat (0 + 1)).length : Int) = gaps w h := by rw [List.length_set]; exact hlen
    have rng1 := set_rng (i := e.toNat) (v := 0 + 1) I.rng (by omega) (by omega)
    have tl1 := tot_le _ rng1
    have hsb' : 0 ≤ step w h o y ((d + 2) % 4) := by rw [hsb]; exact (cellD_lt hcc).1
    have mkb : mk w h o y (marks.set e.toNat (0 + 1)) ((d + 2) % 4) = 1 := by rw [mk_eq hsb', hgb, r1 e hg, if_pos rfl]
    by_cases vis : ∃ g, At w h o y g ∧ 0 < rd marks g
    · obtain ⟨g, hgy, hgp⟩ := vis
      have hyin : y ∈ c :: stk := by
        refine Classical.byContradiction fun z => ?_
        rcases I.off y hcy z with o1 | o1
        · have := o1 g hgy; omega
        · have := o1 e ⟨hg, hbit, hj.mem.2⟩; omega
      obtain ⟨d2, d20, d23, hs2, hg2⟩ := at_dir hm hgy
      have hold : oldB w h o y d (marks.set e.toNat (0 + 1)) = true := by
        refine oldB_iff.2 ⟨d2, d20, d23, fun z => ?_, ?_⟩
        · have : g = e := by rw [← hg2, z]; exact hgb
          subst this
          omega
        · rw [mk_eq hs2, hg2, r1 g hgy.1]
          split <;> omega
      have hdir2 : dirT w h o y d (marks.set e.toNat (0 + 1)) = (d + 2) % 4 := by
        unfold dirT
        rw [if_pos ⟨mkb, hold⟩]
      have hwk2 : walkerOk w h o y d = true := by
        unfold walkerOk
        rw [has_of' hm hcy, decide_eq_true (⟨d0, d3⟩ : 0 ≤ d ∧ d ≤ 3)]
        rfl
      have hmo2 : marksOk w h (marks.set e.toNat (0 + 1)) = true := by
        unfold marksOk isMark
        simp only [Bool.and_eq_true, decide_eq_true_eq, List.all_eq_true]
        exact ⟨hl1, rng1⟩
      have hl1' : ((marks.set e.toNat (0 + 1)).length : Int) = (marks.length : Int) := by simp
      obtain ⟨n, rfl⟩ : ∃ m, n = m + 1 := ⟨n - 1, by omega⟩
      rw [twalk_go (tstep_go hwk2 hmo2 hdir2 (by omega)), hsb, hgb, r1 e hg, if_pos rfl, List.set_set]
      have I2 := I.same hg hbit hj he0 hyin
      have C2 := C1.step (v := 1 + 1) hg hj.symm hl1 (by rw [r1 e hg, if_pos rfl])
      rw [List.set_set] at C2
      have hel2 : e < (marks.length : Int) := by omega
      have mk2 : mk w h o c (marks.set e.toNat (1 + 1)) (((d + 2) % 4 + 2) % 4) = 2 := by
        have ed : ((d + 2) % 4 + 2) % 4 = d := by omega
        rw [ed, mk_eq (by omega), he, rd_set hel.1 hel2 hel.1, if_pos rfl]
        rfl
      refine ih n (by omega) _ _ stk c ((d + 2) % 4) I2 C2 (by omega) (by omega) (by rw [mk2]; omega) (fun z => by rw [mk2] at z; omega) ?_
      rw [tot_set _ _ _ hel.1 hel2, he0]
      omega
    · have fresh : ∀ g, At w h o y g → rd marks g = 0 := fun g hgy => by
        have h1 := I.rng (rd marks g) (rd_memL (gap_lt hgy.1).1 (by have := (gap_lt hgy.1).2; omega))
        refine Classical.byContradiction fun z => vis ⟨g, hgy, by omega⟩
      have hnin : y ∉ c :: stk := fun z => by
        cases stk with
        | nil =>
          simp only [List.mem_singleton] at z
          exact (hj.ne hg) z.symm
        | cons p s =>
          obtain ⟨g, hgy, h1⟩ := chn_mem _ I.chn (by simp) y z
          have := fresh g hgy
          omega
      have I2 := I.go hm hg hbit hj he0 hnin hry fresh
      refine ih n (by omega) _ _ (c :: stk) y d I2 C1 d0 d3 (by rw [mkb]; omega) (fun z => ?_) (by omega)
      obtain ⟨d2, d20, d23, hne, hp⟩ := oldB_iff.1 z.2
      have hs2 : 0 ≤ step w h o y d2 := by
        unfold mk at hp
        split at hp <;> omega
      rw [mk_eq hs2] at hp
      have ht2 := dir_tells d20 d23 hs2
      rw [r1 _ ht2.1, fresh _ (gapAt_at d20 d23 hs2)] at hp
      split at hp
      · rename_i q
        rw [q] at ht2
        have e1 := Joins.other hg ht2.2.2.1 hj.symm
        have tb := dir_tells (by omega) (by omega) hsb'
        refine hne (nb_inj hcy d20 d23 (by omega) (by omega) (by omega) ?_)
        rw [ht2.2.2.2.2.2.2.2, tb.2.2.2.2.2.2.2, hsb, e1]
      · omega
  · have nz : ∀ d, 0 ≤ d → d ≤ 3 → mk w h o c marks d ≠ 0 := fun d d0 d3 z => zero ⟨d, d0, d3, z⟩
    have hno : firstT w h o c f marks 0 [1, 0, 3] = -1 := firstT_all _ fun t ht => nz _ (by omega) (by omega)
    rw [hno, if_neg (by omega)] at hdir
    have hall : ∀ g, At w h o c g → rd marks g ≠ 0 := fun g hg => by
      obtain ⟨d, d0, d3, hs, he⟩ := at_dir hm hg
      have := nz d d0 d3
      rw [mk_eq hs, he] at this
      exact this
    cases stk with
    | nil =>
      have hnone : ∀ g, At w h o c g → rd marks g ≠ 1 := fun g hg z => I.ones g hg.1 z
      have hno1 : firstT w h o c f marks 1 [1, 0, 3, 2] = -1 := firstT_all _ fun t ht z => by
        obtain ⟨hs, he⟩ := mk_pass z (by omega)
        exact hnone _ (gapAt_at (by omega) (by omega) hs) he
      have hca' : c = a := by
        obtain ⟨s, hs⟩ := I.last
        cases s with
        | nil => exact (List.cons.inj hs).1
        | cons u s => simp at hs
      have hst : ¬ (tstep w h o c f marks).2.2 = true := by
        unfold tstep
        rw [if_pos ⟨hwk, hmo⟩, hdir, hno1, if_pos (by omega)]
        simp
      subst hca'
      refine ⟨cells, marks, twalk_stop hst _ _, I, C, fun g hg => ?_⟩
      have h1 := I.rng (rd marks g) (rd_memL (gap_lt hg.1).1 (by have := (gap_lt hg.1).2; omega))
      have h2 := hall g hg
      have h3 := hnone g hg
      omega
    | cons p s =>
      obtain ⟨g, hgc, h1⟩ := chn_mem _ I.chn (by simp) c List.mem_cons_self
      obtain ⟨d1, d10, d13, hs1, hg1⟩ := at_dir hm hgc
      obtain ⟨t, htm, ht, _⟩ := turn_any f0 f3 d10 d13
      have hpos : 0 ≤ firstT w h o c f marks 1 [1, 0, 3, 2] := firstT_any _ t htm (by rw [ht, mk_eq hs1, hg1]; exact h1)
      obtain ⟨d0, d3, hd⟩ := (firstT_some w h o c f marks 1 [1, 0, 3, 2]).resolve_left (by omega)
      generalize firstT w h o c f marks 1 [1, 0, 3, 2] = d at *
      obtain ⟨hs, he1⟩ := mk_pass hd (by omega)
      obtain ⟨hg, hbit, hj, hsb, hgb, _, hcy, hnb⟩ := dir_tells d0 d3 hs
      rw [twalk_go (tstep_go hwk hmo hdir d0), he1]
      have hjp : Joins w h (gapAt w h c d) c p := by
        rcases I.ones _ hg he1 with k | k
        · exact k.symm.symm
        · exact absurd (inCh_mem _ k c hj.mem.1) (List.nodup_cons.1 I.nod).1
      have hyp := Joins.other hg hj hjp
      rw [hyp] at hsb hgb hj ⊢
      have I2 := I.back hg hbit hj he1 hall
      have C2 := C.step (v := 1 + 1) hg hj hlen (by omega)
      have hel := gap_lt hg
      have mk2 : mk w h o p (marks.set (gapAt w h c d).toNat (1 + 1)) ((d + 2) % 4) = 2 := by
        rw [mk_eq (by rw [hsb]; exact (cellD_lt hcc).1), hgb, rd_set hel.1 (by omega) hel.1, if_pos rfl]
        rfl
      refine ih n (by omega) _ _ s p d I2 C2 d0 d3 (by rw [mk2]; omega) (fun z => by rw [mk2] at z; omega) ?_
      rw [tot_set _ _ _ hel.1 (by omega), he1]
      omega
end Go.Proofs.Ytdloifaaoiollac.L
