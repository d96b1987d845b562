/- The perfect mazes among the passages of a maze: the program tries every number, the reference grows forests; both list the same, in the same order. -/
import Derived.Test.YtnfclfpicemojaaXctrees
import Derived.Test.YtnfclfpicemojaaXimplFullMaze
import Derived.Test.YtnfclfpicemojaaLParts
import Derived.Test.YtnfclfpicemojaaLPop
namespace Go.Proofs.Ytnfclfpicemojaa.L
open Go.RowKit Go.Proofs.Ytnfclfpicemojaa.X Go.Proofs.YtnfclfpicemojaaW.PrintWords Go.Proofs.YtnfclfpicemojaaW.PrintLast Go.Proofs.YtnfclfpicemojaaW.PrintMore
set_option linter.unusedSimpArgs false
set_option linter.unusedVariables false

def perfect (w h o : Int) : Bool := conn w h o && (passages w h o == cells w h - 1)
theorem iPerfect (k : Nat) (w h o : Int) (hk : 200 ≤ k) : impl_IsPerfect.f k w h o = some (perfect w h o) := by
  have hr := cells_range w h
  unfold impl_IsPerfect.f perfect
  rw [iConn k w h o hk, iPassages, iCountCells]
  simp only [Option.bind_some]
  rw [w64 (by omega) (by omega)]
  cases conn w h o <;> simp
def wouldJoin (w h o g : Int) : Bool := mazeOk w h o && (isGap w h g && (!bit o g && decide (rd (dist w h o (endA w h g)) (endB w h g) < 0)))
theorem wouldJoin_iff {w h o g : Int} (hm : mazeOk w h o = true) (hg : isGap w h g = true) (hb : bit o g = false) : wouldJoin w h o g = true ↔ ¬ Rch w h o (endA w h g) (endB w h g) := by
  have he := end_tells hg
  have hd := (dist_tells (o := o) he.1).2.1 _ he.2.1
  unfold wouldJoin
  rw [hm, hg, hb, ← hd]
  simp
/-! ### forests -/
def forest (w h o : Int) : Bool := decide (parts w h o + popN 24 o.toNat = (cells w h).toNat)
theorem gap24 {w h g : Int} (hg : isGap w h g = true) : 0 ≤ g ∧ g.toNat < 24 := by
  have h1 := gap_lt hg
  have h2 := gaps_range w h
  omega
theorem pop_with {w h o g : Int} (hg : isGap w h g = true) (hb : bit o g = false) : popN 24 o.toNat + 1 = popN 24 (withO o g true).toNat := by
  have h1 := gap24 hg
  unfold popN
  have tb : ∀ i : Nat, (withO o g true).toNat.testBit i = (o.toNat.testBit i || decide (g.toNat = i)) := fun i => by
    unfold withO
    rw [if_pos rfl, Int.toNat_natCast, testBit_setN]
  refine filter_minus _ _ g.toNat ?_ (fun c => ?_) 24 h1.2
  · rw [tb]
    simp
  · rw [tb]
    by_cases e : g.toNat = c
    · subst e
      unfold bit at hb
      simp [hb]
    · have : c ≠ g.toNat := fun z => e z.symm
      simp [e, this]
theorem rch_none {w h o : Int} (hb : ∀ g, isGap w h g = true → bit o g = false) {x y : Int} (r : Rch w h o x y) : y = x := by
  induction r with
  | refl => rfl
  | step _ t0 t3 hs _ =>
    obtain ⟨g, hg, hbit, _⟩ := step_adj t0 t3 hs
    rw [hb g hg] at hbit
    cases hbit
theorem parts_none {w h o : Int} (hm : mazeOk w h o = true) (hb : ∀ g, isGap w h g = true → bit o g = false) : parts w h o = (cells w h).toNat := by
  unfold parts
  rw [List.filter_eq_self.2 fun c hc => ?_, List.length_range]
  rw [rep_iff (has_of hm (cell_nat (List.mem_range.1 hc)))]
  intro y r
  rw [rch_none hb r]
  omega
theorem with_back {o g : Int} (h0 : 0 ≤ o) (hg : 0 ≤ g) (hb : bit o g = true) : withO (withO o g false) g true = o := by
  unfold withO
  rw [if_pos rfl, if_neg (by simp), Int.toNat_natCast]
  have : setN (clrN o.toNat g.toNat) g.toNat = o.toNat := by
    apply Nat.eq_of_testBit_eq
    intro i
    rw [testBit_setN, testBit_clrN]
    by_cases e : g.toNat = i
    · subst e
      unfold bit at hb
      simp [hb]
    · simp [e]
  omega
theorem forest_ge {w h : Int} (n : Nat) : ∀ (o : Int), mazeOk w h o = true → popN 24 o.toNat ≤ n → (cells w h).toNat ≤ parts w h o + popN 24 o.toNat := by
  induction n with
  | zero =>
    intro o hm hn
    rw [parts_none hm fun g hg => ?_]
    · omega
    · refine Classical.byContradiction fun hb => ?_
      have hb' : bit o g = true := by simpa using hb
      have e := with_back (mazeOk_ok hm).2.1 (gap_lt hg).1 hb'
      have hp := pop_with (o := withO o g false) hg (by rw [bit_withO o g g false (gap_lt hg).1 (gap_lt hg).1, if_pos rfl])
      rw [e] at hp
      omega
  | succ n ih =>
    intro o hm hn
    by_cases none : ∀ g, isGap w h g = true → bit o g = false
    · rw [parts_none hm none]
      omega
    · obtain ⟨g, hg⟩ := Classical.not_forall.1 none
      obtain ⟨hg, hb⟩ := Classical.not_imp.1 hg
      have hb' : bit o g = true := by simpa using hb
      have e := with_back (mazeOk_ok hm).2.1 (gap_lt hg).1 hb'
      have hm1 := mazeOk_with false hm hg
      have hb1 : bit (withO o g false) g = false := by rw [bit_withO o g g false (gap_lt hg).1 (gap_lt hg).1, if_pos rfl]
      have hp := pop_with hg hb1
      rw [e] at hp
      have ih := ih _ hm1 (by omega)
      by_cases r : Rch w h (withO o g false) (endA w h g) (endB w h g)
      · have := parts_same hm1 hg r
        rw [e] at this
        omega
      · have := parts_join hm1 hg r
        rw [e] at this
        omega
theorem forest_down {w h o g : Int} (hm : mazeOk w h o = true) (hg : isGap w h g = true) (hb : bit o g = false) (hf : forest w h (withO o g true) = true) : forest w h o = true ∧ wouldJoin w h o g = true := by
  unfold forest at hf ⊢
  rw [decide_eq_true_eq] at hf ⊢
  have hp := pop_with hg hb
  have hge := forest_ge _ o hm (Nat.le_refl _)
  rw [wouldJoin_iff hm hg hb]
  by_cases r : Rch w h o (endA w h g) (endB w h g)
  · have := parts_same hm hg r
    omega
  · have := parts_join hm hg r
    exact ⟨by omega, r⟩
theorem forest_up {w h o g : Int} (hm : mazeOk w h o = true) (hg : isGap w h g = true) (hb : bit o g = false) (hf : forest w h o = true) (hj : wouldJoin w h o g = true) : forest w h (withO o g true) = true := by
  unfold forest at hf ⊢
  rw [decide_eq_true_eq] at hf ⊢
  have hp := pop_with hg hb
  have := parts_join hm hg ((wouldJoin_iff hm hg hb).1 hj)
  omega
theorem perfect_forest {w h o : Int} (hm : mazeOk w h o = true) (hp : (popN 24 o.toNat : Int) = cells w h - 1) : perfect w h o = forest w h o := by
  have hc := cells_pos (mazeOk_ok hm).1
  unfold perfect forest conn countParts passages
  rw [if_pos hm, if_pos hm, Bool.eq_iff_iff]
  simp only [Bool.and_eq_true, beq_iff_eq, decide_eq_true_eq]
  omega
/-! ### the two enumerations -/
def aS : Nat → Nat → List Nat
  | 0, x => [x]
  | n + 1, x => aS n x ++ aS n (setN x n)
theorem aS_length : ∀ n x, (aS n x).length = 2 ^ n
  | 0, _ => rfl
  | n + 1, x => by rw [aS, List.length_append, aS_length n, aS_length n, Nat.pow_succ]; omega
theorem setN_add {x n q : Nat} (hx : x = 2 ^ (n + 1) * q) : setN x n = x + 2 ^ n := by
  have hb : ∀ i, i < n + 1 → x.testBit i = false := fun i hi => by
    have := Nat.testBit_two_pow_mul_add (i := n + 1) q (b := 0) (Nat.two_pow_pos _) i
    rw [Nat.add_zero, ← hx] at this
    rw [this, if_pos hi, Nat.zero_testBit]
  apply Nat.eq_of_testBit_eq
  intro i
  have h2 : 2 ^ n < 2 ^ (n + 1) := by rw [Nat.pow_succ]; have := Nat.two_pow_pos n; omega
  have := Nat.testBit_two_pow_mul_add (i := n + 1) q (b := 2 ^ n) h2 i
  rw [← hx] at this
  rw [testBit_setN, this, Nat.testBit_two_pow]
  by_cases hi : i < n + 1
  · rw [if_pos hi, hb i hi]; rfl
  · rw [if_neg hi]
    have h3 := Nat.testBit_two_pow_mul_add (i := n + 1) q (b := 0) (Nat.two_pow_pos _) i
    rw [Nat.add_zero, ← hx, if_neg hi] at h3
    rw [h3]
    simp [show ¬ n = i by omega]
theorem aS_range : ∀ n q, aS n (2 ^ n * q) = (List.range (2 ^ n)).map (2 ^ n * q + ·)
  | 0, q => by simp [aS]
  | n + 1, q => by
    have h1 := aS_range n (2 * q)
    have h2 := aS_range n (2 * q + 1)
    have e1 : 2 ^ (n + 1) * q = 2 ^ n * (2 * q) := by rw [Nat.pow_succ, Nat.mul_assoc]
    have e2 : setN (2 ^ (n + 1) * q) n = 2 ^ n * (2 * q + 1) := by rw [setN_add rfl, e1, Nat.mul_add, Nat.mul_one]
    rw [aS, e2, h2, e1, h1, show 2 ^ (n + 1) = 2 ^ n + 2 ^ n by rw [Nat.pow_succ]; omega, List.range_add, List.map_append, List.map_map]
    congr 1
    apply List.map_congr_left
    intro j _
    simp only [Function.comp]
    rw [Nat.mul_add, Nat.mul_one]
    omega
def low0 (n x : Nat) : Prop := ∀ i, i < n → x.testBit i = false
theorem low0_set {n x : Nat} (h : low0 (n + 1) x) : low0 n (setN x n) := fun i hi => by
  rw [testBit_setN, h i (by omega)]
  simp [show ¬ n = i by omega]
theorem low0_less {n x : Nat} (h : low0 (n + 1) x) : low0 n x := fun i hi => h i (by omega)
theorem aS_keeps : ∀ n x, ∀ o ∈ aS n x, ∀ i, x.testBit i = true → o.testBit i = true
  | 0, x, o, ho, i, hi => by
    rw [aS, List.mem_singleton] at ho
    rw [ho]; exact hi
  | n + 1, x, o, ho, i, hi => by
    rw [aS, List.mem_append] at ho
    rcases ho with ho | ho
    · exact aS_keeps n x o ho i hi
    · exact aS_keeps n _ o ho i (by rw [testBit_setN, hi]; rfl)
theorem withO_nat (x n : Nat) : withO (x : Int) (n : Int) true = (setN x n : Int) := by
  unfold withO
  rw [if_pos rfl, Int.toNat_natCast, Int.toNat_natCast]
theorem bit_nat (x n : Nat) : bit (x : Int) (n : Int) = x.testBit n := by unfold bit; rw [Int.toNat_natCast, Int.toNat_natCast]
theorem gap_nat {w h : Int} {n : Nat} (hn : n < (gaps w h).toNat) : isGap w h (n : Int) = true := by unfold isGap; exact decide_eq_true ⟨by omega, by omega⟩
theorem pop_set {w h : Int} {x n : Nat} (hn : n < (gaps w h).toNat) (hb : x.testBit n = false) : popN 24 (setN x n) = popN 24 x + 1 := by
  have := pop_with (w := w) (h := h) (o := (x : Int)) (gap_nat hn) (by rw [bit_nat]; exact hb)
  rw [withO_nat, Int.toNat_natCast, Int.toNat_natCast] at this
  omega
theorem aS_pop {w h : Int} : ∀ n x, n ≤ (gaps w h).toNat → low0 n x → ∀ o ∈ aS n x, popN 24 x ≤ popN 24 o ∧ popN 24 o ≤ popN 24 x + n
  | 0, x, _, _, o, ho => by
    rw [aS, List.mem_singleton] at ho
    rw [ho]; omega
  | n + 1, x, hn, hl, o, ho => by
    rw [aS, List.mem_append] at ho
    rcases ho with ho | ho
    · have := aS_pop (w := w) (h := h) n x (by omega) (low0_less hl) o ho
      omega
    · have h1 := aS_pop (w := w) (h := h) n _ (by omega) (low0_set hl) o ho
      have h2 := pop_set (w := w) (h := h) (show n < (gaps w h).toNat by omega) (hl n (by omega))
      omega
theorem mazeOk_set {w h : Int} {x n : Nat} (hm : mazeOk w h (x : Int) = true) (hn : n < (gaps w h).toNat) : mazeOk w h ((setN x n : Nat) : Int) = true := by
  have := mazeOk_with true hm (gap_nat hn)
  rwa [withO_nat] at this
theorem aS_forest {w h : Int} : ∀ n x, n ≤ (gaps w h).toNat → low0 n x → mazeOk w h (x : Int) = true → ∀ o ∈ aS n x, forest w h (o : Int) = true → forest w h (x : Int) = true
  | 0, x, _, _, _, o, ho, hf => by
    rw [aS, List.mem_singleton] at ho
    rw [← ho]; exact hf
  | n + 1, x, hn, hl, hm, o, ho, hf => by
    rw [aS, List.mem_append] at ho
    rcases ho with ho | ho
    · exact aS_forest n x (by omega) (low0_less hl) hm o ho hf
    · have h1 := aS_forest n _ (by omega) (low0_set hl) (mazeOk_set hm (by omega)) o ho hf
      rw [← withO_nat] at h1
      exact (forest_down hm (gap_nat (by omega)) (by rw [bit_nat]; exact hl n (by omega)) h1).1
def subB (o M : Nat) : Bool := o &&& M == o
theorem subB_iff {o M : Nat} : subB o M = true ↔ ∀ i, o.testBit i = true → M.testBit i = true := by
  unfold subB
  rw [beq_iff_eq]
  constructor
  · intro e i hi
    rw [← e, Nat.testBit_and, Bool.and_eq_true] at hi
    exact hi.2
  · intro a
    apply Nat.eq_of_testBit_eq
    intro i
    rw [Nat.testBit_and]
    cases z : o.testBit i with
    | false => rfl
    | true => rw [a i z]; rfl
def treeP (w h : Int) (M p : Nat) (o : Nat) : Bool := subB o M && (decide (popN 24 o = p) && forest w h (o : Int))
def l12 (w h : Int) (M : Nat) : Nat → Nat → Nat → List Nat
  | _, x, 0 => [x]
  | 0, _, _ + 1 => []
  | n + 1, x, r + 1 => if r + 1 > n + 1 then [] else l12 w h M n x (r + 1) ++ (if (M.testBit n && wouldJoin w h (x : Int) (n : Int)) = true then l12 w h M n (setN x n) r else [])
theorem filter_one {w h : Int} {M : Nat} : ∀ n x, n ≤ (gaps w h).toNat → low0 n x → subB x M = true → forest w h (x : Int) = true → (aS n x).filter (treeP w h M (popN 24 x)) = [x]
  | 0, x, _, _, hs, hf => by
    rw [aS, List.filter_cons, if_pos]
    · rfl
    · unfold treeP
      rw [hs, hf]
      simp
  | n + 1, x, hn, hl, hs, hf => by
    rw [aS, List.filter_append, filter_one n x (by omega) (low0_less hl) hs hf]
    have : (aS n (setN x n)).filter (treeP w h M (popN 24 x)) = [] := by
      rw [List.filter_eq_nil_iff]
      intro o ho
      have h1 := aS_pop (w := w) (h := h) n _ (by omega) (low0_set hl) o ho
      have h2 := pop_set (w := w) (h := h) (show n < (gaps w h).toNat by omega) (hl n (by omega))
      unfold treeP
      rw [decide_eq_false (by omega)]
      simp
    rw [this]
    rfl
theorem l12_eq {w h : Int} {M : Nat} : ∀ n x r, n ≤ (gaps w h).toNat → low0 n x → subB x M = true → mazeOk w h (x : Int) = true → forest w h (x : Int) = true → l12 w h M n x r = (aS n x).filter (treeP w h M (popN 24 x + r))
  | n, x, 0, hn, hl, hs, hm, hf => by
    rw [l12, Nat.add_zero, filter_one n x hn hl hs hf]
  | 0, x, r + 1, hn, hl, hs, hm, hf => by
    rw [l12, aS, List.filter_cons, if_neg]
    · rfl
    · unfold treeP
      rw [decide_eq_false (by omega)]
      simp
  | n + 1, x, r + 1, hn, hl, hs, hm, hf => by
    rw [l12]
    by_cases big : r + 1 > n + 1
    · rw [if_pos big]
      symm
      rw [List.filter_eq_nil_iff]
      intro o ho
      have h1 := aS_pop (w := w) (h := h) (n + 1) x hn hl o ho
      unfold treeP
      rw [decide_eq_false (by omega)]
      simp
    · rw [if_neg big, aS, List.filter_append, l12_eq n x (r + 1) (by omega) (low0_less hl) hs hm hf]
      congr 1
      have hgn := gap_nat (w := w) (h := h) (n := n) (by omega)
      have hbn : bit (x : Int) (n : Int) = false := by rw [bit_nat]; exact hl n (by omega)
      have hpn := pop_set (w := w) (h := h) (show n < (gaps w h).toNat by omega) (hl n (by omega))
      by_cases c : (M.testBit n && wouldJoin w h (x : Int) (n : Int)) = true
      · rw [if_pos c]
        rw [Bool.and_eq_true] at c
        have hf' := forest_up hm hgn hbn hf c.2
        rw [withO_nat] at hf'
        rw [l12_eq n (setN x n) r (by omega) (low0_set hl) ?_ (mazeOk_set hm (by omega)) hf', hpn, show popN 24 x + 1 + r = popN 24 x + (r + 1) by omega]
        rw [subB_iff] at hs ⊢
        intro i hi
        rw [testBit_setN, Bool.or_eq_true, decide_eq_true_eq] at hi
        rcases hi with hi | rfl
        · exact hs i hi
        · exact c.1
      · rw [if_neg c]
        symm
        rw [List.filter_eq_nil_iff]
        intro o ho q
        unfold treeP at q
        simp only [Bool.and_eq_true] at q
        refine c ?_
        rw [Bool.and_eq_true]
        refine ⟨subB_iff.1 q.1 n (aS_keeps n _ o ho n (by rw [testBit_setN]; simp)), ?_⟩
        have h1 := aS_forest n _ (by omega) (low0_set hl) (mazeOk_set hm (by omega)) o ho q.2.2
        rw [← withO_nat] at h1
        exact (forest_down hm hgn hbn h1).2
/-- The perfect mazes among the passages of a maze. -/
def trees (w h M : Int) : List Nat := (List.range (M.toNat + 1)).filter (treeP w h M.toNat (cells w h - 1).toNat)
theorem subB_le {o M : Nat} (h : subB o M = true) : o ≤ M := by
  unfold subB at h
  rw [beq_iff_eq] at h
  rw [← h]
  exact Nat.and_le_right
theorem forest_zero {w h : Int} (hg : gridOk w h = true) : mazeOk w h 0 = true ∧ forest w h 0 = true := by
  have hm : mazeOk w h 0 = true := by
    unfold mazeOk
    rw [hg, Bool.true_and]
    exact decide_eq_true ⟨by omega, by rw [pow_cast]; have := Nat.two_pow_pos (gaps w h).toNat; omega⟩
  refine ⟨hm, ?_⟩
  unfold forest
  rw [decide_eq_true_eq, parts_none hm fun g _ => by unfold bit; simp]
  have : popN 24 (0 : Int).toNat = 0 := by decide
  omega
theorem trees_eq {w h M : Int} (hm : mazeOk w h M = true) : l12 w h M.toNat (gaps w h).toNat 0 (cells w h - 1).toNat = trees w h M := by
  have hg := (mazeOk_ok hm).1
  have hz := forest_zero hg
  have hlt := mazeOk_lt hm
  rw [l12_eq (w := w) (h := h) _ 0 _ (Nat.le_refl _) (fun i _ => Nat.zero_testBit i) (subB_iff.2 fun i hi => by rw [Nat.zero_testBit] at hi; cases hi) hz.1 hz.2]
  have e := aS_range (gaps w h).toNat 0
  rw [Nat.mul_zero] at e
  have e0 : popN 24 0 = 0 := by decide
  rw [e, e0, Nat.zero_add]
  have em : (List.range (2 ^ (gaps w h).toNat)).map (fun x => 0 + x) = List.range (2 ^ (gaps w h).toNat) := by simp
  rw [em]
  unfold trees
  obtain ⟨j, hj⟩ : ∃ j, 2 ^ (gaps w h).toNat = (M.toNat + 1) + j := ⟨2 ^ (gaps w h).toNat - (M.toNat + 1), by omega⟩
  rw [hj, List.range_add, List.filter_append]
  have : ((List.range j).map (M.toNat + 1 + ·)).filter (treeP w h M.toNat (cells w h - 1).toNat) = [] := by
    rw [List.filter_eq_nil_iff]
    intro o ho q
    obtain ⟨x, _, rfl⟩ := List.mem_map.1 ho
    unfold treeP at q
    rw [Bool.and_eq_true] at q
    have := subB_le q.1
    omega
  rw [this, List.append_nil]
/-! ### the program's and the reference's lists -/
abbrev SM := S32
def mkM (w h : Int) (o : Nat) : SM := ⟨⟨w, h⟩, (o : Int)⟩
def treeList (w h M : Int) : List SM := if mazeOk w h M = true ∧ passages w h M ≤ 12 then (trees w h M).map (mkM w h) else []
theorem l12_length (w h : Int) (M : Nat) : ∀ n x r, (l12 w h M n x r).length ≤ 2 ^ n
  | n, x, 0 => by rw [l12]; exact Nat.two_pow_pos n
  | 0, x, r + 1 => by rw [l12]; simp
  | n + 1, x, r + 1 => by
    have h1 := l12_length w h M n x (r + 1)
    have h2 := l12_length w h M n (setN x n) r
    rw [l12, Nat.pow_succ]
    split
    · simp
    · rw [List.length_append]
      split
      · omega
      · simp only [List.length_nil]; omega
theorem andNot_zero (o M : Nat) (ho : o < 2 ^ 63) (hM : M < 2 ^ 63) : (Go.bits .andNot .i64 (o : Int) (M : Int) = 0) ↔ subB o M = true := by
  obtain ⟨t, ht⟩ : ∃ t : Nat, t = (BitVec.ofInt 64 (o : Int) &&& ~~~(BitVec.ofInt 64 (M : Int))).toNat := ⟨_, rfl⟩
  have tb : ∀ i, t.testBit i = (o.testBit i && !M.testBit i) := by
    intro i
    rw [ht, ← BitVec.getLsbD, BitVec.getLsbD_and, BitVec.getLsbD_not, getLsbD_ofInt_nat, getLsbD_ofInt_nat]
    by_cases hi : i < 64
    · simp [hi]
    · simp [hi, bit_ge ho (show 63 ≤ i by omega)]
  have hlt : t < 2 ^ 63 := lt_of_bits fun i hi => by rw [tb, bit_ge ho hi]; rfl
  have hv : Go.bits .andNot .i64 (o : Int) (M : Int) = (t : Int) := by
    show IntKind.i64.wrap ((BitVec.ofInt 64 (o : Int) &&& ~~~(BitVec.ofInt 64 (M : Int))).toNat : Int) = _
    rw [← ht]
    exact wrap_nat (by omega)
  rw [hv, subB_iff]
  constructor
  · intro e i hi
    have e0 : t = 0 := by omega
    have := tb i
    rw [e0, Nat.zero_testBit, hi, Bool.true_and] at this
    simpa using this.symm
  · intro a
    have : t = 0 := by
      apply Nat.eq_of_testBit_eq
      intro i
      rw [tb, Nat.zero_testBit]
      cases z : o.testBit i with
      | false => rfl
      | true => rw [a i z]; rfl
    omega
theorem sub_maze {w h M : Int} {o : Nat} (hm : mazeOk w h M = true) (hs : subB o M.toNat = true) : mazeOk w h (o : Int) = true := by
  have hmm := mazeOk_ok hm
  have := subB_le hs
  unfold mazeOk
  rw [hmm.1, Bool.true_and]
  exact decide_eq_true ⟨by omega, by have := hmm.2.2.1; omega⟩
theorem iTrees_go (w h M : Int) (hm : mazeOk w h M = true) : ∀ (d k : Nat) (c : Nat), c ≤ M.toNat + 1 → M.toNat + 1 - c = d → 2 * d + 300 ≤ k →
    impl_ListTrees.l0 k (((List.range c).filter (treeP w h M.toNat (cells w h - 1).toNat)).map (mkM w h)) (c : Int) w h M = some ((trees w h M).map (mkM w h)) := by
  have hmm := mazeOk_ok hm
  have hcr := cells_range w h
  have hcp := cells_pos hmm.1
  intro d
  induction d with
  | zero =>
    intro k c h1 hd hk
    obtain ⟨k, rfl⟩ : ∃ m, k = m + 1 := ⟨k - 1, by omega⟩
    rw [impl_ListTrees.l0, if_neg (by omega), show c = M.toNat + 1 by omega]
    rfl
  | succ d ih =>
    intro k c h1 hd hk
    obtain ⟨k, rfl⟩ : ∃ m, k = m + 2 := ⟨k - 2, by omega⟩
    have hl := List.length_filter_le (treeP w h M.toNat (cells w h - 1).toNat) (List.range c)
    rw [List.length_range] at hl
    have r := ih k (c + 1) (by omega) (by omega) (by omega)
    rw [List.range_succ, List.filter_append, List.map_append, List.filter_cons, List.filter_nil] at r
    have e1 : wrap64 ((c : Int) + 1) = ((c + 1 : Nat) : Int) := by rw [w64 (by omega) (by omega)]; omega
    have hA : (((List.range c).filter (treeP w h M.toNat (cells w h - 1).toNat)).map (mkM w h)).length < 5864062014805 := by
      rw [List.length_map]
      omega
    rw [impl_ListTrees.l0, if_pos (by omega)]
    have hM : M = ((M.toNat : Nat) : Int) := by omega
    have hand := andNot_zero c M.toNat (by omega) (by omega)
    rw [← hM] at hand
    by_cases hs : subB c M.toNat = true
    · have hmc := sub_maze hm hs
      rw [if_pos (hand.2 hs), onesCount (c : Int) (by omega) (by omega), iCountCells, Int.toNat_natCast]
      simp only [Option.bind_some]
      rw [w64 (x := cells w h - 1) (by omega) (by omega)]
      by_cases hp : (popN 24 c : Int) = cells w h - 1
      · have hpt : (decide (popN 24 c = (cells w h - 1).toNat)) = true := decide_eq_true (by omega)
        have hpf := perfect_forest hmc (by rw [Int.toNat_natCast]; exact hp)
        have ht : treeP w h M.toNat (cells w h - 1).toNat c = perfect w h (c : Int) := by
          unfold treeP
          rw [hs, hpt, hpf]
          simp
        have hne : ((popN 24 c : Int) != cells w h - 1) = false := by rw [hp]; simp
        rw [hne, impl_ListTrees.j2, if_neg (by simp), iPerfect k w h c (by omega)]
        simp only [Option.bind_some]
        rw [ht] at r
        by_cases hpe : perfect w h (c : Int) = true
        · rw [if_pos hpe] at r ⊢
          rw [if_pos hA, e1]
          exact r
        · rw [if_neg hpe] at r ⊢
          rw [List.map_nil, List.append_nil] at r
          rw [e1]
          exact r
      · have hpt : (decide (popN 24 c = (cells w h - 1).toNat)) = false := decide_eq_false (by omega)
        have ht : treeP w h M.toNat (cells w h - 1).toNat c = false := by
          unfold treeP
          rw [hpt]
          simp
        have hne : ((popN 24 c : Int) != cells w h - 1) = true := by simpa using hp
        rw [hne, impl_ListTrees.j2, if_pos rfl, e1]
        rw [ht, if_neg (by simp), List.map_nil, List.append_nil] at r
        exact r
    · have ht : treeP w h M.toNat (cells w h - 1).toNat c = false := by
        unfold treeP
        have : subB c M.toNat = false := by simpa using hs
        rw [this]
        rfl
      rw [if_neg (fun z => hs (hand.1 z)), impl_ListTrees.j2, if_pos rfl, e1]
      rw [ht, if_neg (by simp), List.map_nil, List.append_nil] at r
      exact r
theorem iListTrees (k : Nat) (w h M : Int) (hk : 2 * M.toNat + 400 ≤ k) : impl_ListTrees.f k w h M = some (treeList w h M) := by
  obtain ⟨k, rfl⟩ : ∃ m, k = m + 1 := ⟨k - 1, by omega⟩
  unfold impl_ListTrees.f treeList
  rw [iMazeOk]
  simp only [Option.bind_some]
  by_cases hm : mazeOk w h M = true
  · rw [if_pos hm, iPassages]
    simp only [Option.bind_some]
    by_cases hp : passages w h M > 12
    · rw [decide_eq_true hp, if_neg (by omega), impl_ListTrees.j0, if_pos rfl]
    · rw [decide_eq_false hp, if_pos ⟨hm, by omega⟩, impl_ListTrees.j0, if_neg (by simp)]
      exact iTrees_go w h M hm (M.toNat + 1) k 0 (by omega) (by omega) (by omega)
  · rw [if_neg hm, if_neg (fun z => hm z.1), impl_ListTrees.j0, if_pos rfl]
def fullO (w h : Int) : Int := ((2 ^ (gaps w h).toNat - 1 : Nat) : Int)
theorem full_ok {w h : Int} (hg : gridOk w h = true) : mazeOk w h (fullO w h) = true ∧ passages w h (fullO w h) = gaps w h ∧ (fullO w h).toNat = 2 ^ (gaps w h).toNat - 1 := by
  have hgr := gaps_range w h
  have hp := Nat.two_pow_pos (gaps w h).toNat
  have hm : mazeOk w h (fullO w h) = true := by
    unfold mazeOk fullO
    rw [hg, Bool.true_and]
    exact decide_eq_true ⟨by omega, by rw [pow_cast]; omega⟩
  have he : (fullO w h).toNat = 2 ^ (gaps w h).toNat - 1 := by unfold fullO; rw [Int.toNat_natCast]
  refine ⟨hm, ?_, he⟩
  unfold passages
  rw [if_pos hm, popN_gaps hm, he]
  have : ∀ n, popN n (2 ^ n - 1) = n := fun n => by
    unfold popN
    rw [List.filter_eq_self.2 fun i hi => ?_, List.length_range]
    rw [Nat.testBit_two_pow_sub_one]
    exact decide_eq_true (List.mem_range.1 hi)
  rw [this]
  omega
theorem full_calc {w h : Int} (hg : gridOk w h = true) : wrap64 ((shl .i64 1 (gaps w h)) - 1) = fullO w h := by
  have hgr := gaps_range w h
  have hp := Nat.two_pow_pos (gaps w h).toNat
  have h2 := pow_le_24 hgr.1 hgr.2
  rw [shl_one hgr.1 hgr.2, w64 (by omega) (by omega), pow_cast]
  unfold fullO
  omega
theorem iFullMaze (w h : Int) : impl_FullMaze.f w h = some (if gridOk w h = true then (w, h, fullO w h) else (0, 0, 0)) := by
  unfold impl_FullMaze.f
  rw [iGridOk]
  simp only [Option.bind_some]
  by_cases hg : gridOk w h = true
  · rw [if_pos hg, if_pos hg, iCountGaps]
    simp only [Option.bind_some]
    rw [if_pos (gaps_range w h).1, full_calc hg]
  · rw [if_neg hg, if_neg hg]
end Go.Proofs.Ytnfclfpicemojaa.L
