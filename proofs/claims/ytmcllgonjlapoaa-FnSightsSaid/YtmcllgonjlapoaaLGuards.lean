/- The fewest guards: the search is the same on both sides, and it ends. -/
import Derived.Test.YtmcllgonjlapoaaXimplFewestGuards
import Derived.Test.YtmcllgonjlapoaaXimplguards
import Derived.Test.YtmcllgonjlapoaaXspecFewestGuards
import Derived.Test.YtmcllgonjlapoaaXspecl25Guards
import Derived.Test.YtmcllgonjlapoaaLSee
namespace Go.Proofs.Ytmcllgonjlapoaa.L
open Go.RowKit Go.Proofs.Ytmcllgonjlapoaa.X Go.Proofs.YtmcllgonjlapoaaW.PrintWords Go.Proofs.YtmcllgonjlapoaaW.PrintLast Go.Proofs.YtmcllgonjlapoaaW.PrintMore
set_option linter.unusedSimpArgs false
set_option linter.unusedVariables false

theorem guards_same : ∀ k : Nat, (∀ w h o l a b c, spec_l25Guards.f k w h o l a b c = impl_guards.f k l a b c) ∧ (∀ w h o l n m i, spec_l25Guards.l0 k l n m i w h o = impl_guards.l0 k l n m i)
  | 0 => ⟨fun _ _ _ _ _ _ _ => by simp [spec_l25Guards.f, impl_guards.f], fun _ _ _ _ _ _ _ => by simp [spec_l25Guards.l0, impl_guards.l0]⟩
  | k + 1 => by
    obtain ⟨h1, h2⟩ := guards_same k
    refine ⟨fun w h o l a b c => ?_, fun w h o l n m i => ?_⟩
    · simp only [spec_l25Guards.f, impl_guards.f, h2]
    · simp only [spec_l25Guards.l0, impl_guards.l0, h1, h2]
/-- n of the sets from one on that have all that is missing: the first such list. -/
def gd (from_ : Int) : List Int → Nat → Int → List Int × Bool
  | _, 0, left => ([], left == 0)
  | [], _ + 1, _ => ([], false)
  | x :: suf, n + 1, left => if (gd (from_ + 1) suf n (Go.bits .andNot .i64 left x)).2 = true then (from_ :: (gd (from_ + 1) suf n (Go.bits .andNot .i64 left x)).1, true) else gd (from_ + 1) suf (n + 1) left
theorem gd_length : ∀ (suf : List Int) (from_ : Int) (n : Nat) (left : Int), (gd from_ suf n left).1.length ≤ suf.length
  | [], _, 0, _ => by simp [gd]
  | [], _, n + 1, _ => by simp [gd]
  | x :: suf, f, 0, _ => by simp [gd]
  | x :: suf, f, n + 1, left => by
    have h1 := gd_length suf (f + 1) n (Go.bits .andNot .i64 left x)
    have h2 := gd_length suf (f + 1) (n + 1) left
    simp only [gd]
    split <;> simp <;> omega
theorem iguards_go (l : List Int) (hl : l.length ≤ 1000) : ∀ (suf : List Int) (k n : Nat) (i left : Int), 0 ≤ i → i ≤ (l.length : Int) → l.drop i.toNat = suf → n ≤ 1000 →
    (2 * suf.length + 2 ≤ k → impl_guards.f k l i n left = some (gd i suf n left)) ∧ (2 * suf.length + 1 ≤ k → 1 ≤ n → impl_guards.l0 k l n left i = some (gd i suf n left)) := by
  intro suf
  induction suf with
  | nil =>
    intro k n i left h0 h1 hd hn
    have hi : i = l.length := by
      have := List.drop_eq_nil_iff.1 hd
      omega
    have hL : ∀ k, 1 ≤ k → 1 ≤ n → impl_guards.l0 k l n left i = some (gd i [] n left) := by
      intro k hk h1
      obtain ⟨k, rfl⟩ : ∃ m, k = m + 1 := ⟨k - 1, by omega⟩
      obtain ⟨n, rfl⟩ : ∃ m, n = m + 1 := ⟨n - 1, by omega⟩
      unfold impl_guards.l0
      rw [if_neg (by omega)]
      rfl
    refine ⟨fun hk => ?_, fun hk h1 => hL k (by omega) h1⟩
    obtain ⟨k, rfl⟩ : ∃ m, k = m + 1 := ⟨k - 1, by omega⟩
    unfold impl_guards.f
    by_cases e : n = 0
    · subst e
      rw [if_pos (show ((0 : Nat) : Int) = 0 from rfl)]
      simp [gd]
    · rw [if_neg (by omega), hL k (by simp at hk; omega) (by omega)]
  | cons x suf ih =>
    intro k n i left h0 h1 hd hn
    have hlt : i < (l.length : Int) := by
      have := congrArg List.length hd
      simp at this
      omega
    have hc := drop_cons h0 hlt
    rw [hd] at hc
    obtain ⟨hx, hs⟩ := List.cons.inj hc
    have hL : ∀ k, 2 * (x :: suf).length + 1 ≤ k → 1 ≤ n → impl_guards.l0 k l n left i = some (gd i (x :: suf) n left) := by
      intro k hk h1
      rw [List.length_cons] at hk
      obtain ⟨k, rfl⟩ : ∃ m, k = m + 1 := ⟨k - 1, by omega⟩
      obtain ⟨n, rfl⟩ : ∃ m, n = m + 1 := ⟨n - 1, by omega⟩
      have hA := (ih k n (i + 1) (Go.bits .andNot .i64 left x) (by omega) (by omega) hs.symm (by omega)).1 (by omega)
      have hB := (ih k (n + 1) (i + 1) left (by omega) (by omega) hs.symm hn).2 (by omega) (by omega)
      have hlen := gd_length suf (i + 1) n (Go.bits .andNot .i64 left x)
      have hsl : suf.length ≤ l.length := by rw [hs]; simp
      unfold impl_guards.l0
      rw [if_pos hlt, if_pos h0, ← hx, w64 (by omega) (by omega), w64 (by omega) (by omega), show (((n + 1 : Nat) : Int) - 1) = (n : Int) by omega, hA]
      simp only [Option.bind_some]
      simp only [gd]
      by_cases c : (gd (i + 1) suf n (Go.bits .andNot .i64 left x)).2 = true
      · rw [if_pos c, if_pos c, if_pos (by simp; omega)]
        rfl
      · rw [if_neg c, if_neg c, hB]
    refine ⟨fun hk => ?_, fun hk h1 => hL k hk h1⟩
    obtain ⟨k, rfl⟩ : ∃ m, k = m + 1 := ⟨k - 1, by omega⟩
    unfold impl_guards.f
    by_cases e : n = 0
    · subst e
      rw [if_pos (show ((0 : Nat) : Int) = 0 from rfl)]
      simp [gd]
    · rw [if_neg (by omega), hL k (by rw [List.length_cons] at hk ⊢; omega) (by omega)]
theorem iguards (k : Nat) (l : List Int) (n : Nat) (left : Int) (hl : l.length ≤ 1000) (hn : n ≤ 1000) (hk : 2 * l.length + 2 ≤ k) : impl_guards.f k l 0 n left = some (gd 0 l n left) :=
  (iguards_go l hl l k n 0 left (by omega) (by omega) (by simp) hn).1 hk
/-- What is left of a's bits without b's. -/
theorem bits_andNotN (a b : Nat) (ha : a < 2 ^ 63) (hb : b < 2 ^ 63) : Go.bits .andNot .i64 (a : Int) (b : Int) = ((a ^^^ (a &&& b) : Nat) : Int) := by
  have e : (BitVec.ofInt 64 (a : Int) &&& ~~~(BitVec.ofInt 64 (b : Int))).toNat = a ^^^ (a &&& b) := by
    apply Nat.eq_of_testBit_eq
    intro i
    rw [← BitVec.getLsbD, BitVec.getLsbD_and, BitVec.getLsbD_not, getLsbD_ofInt_nat, getLsbD_ofInt_nat, Nat.testBit_xor, Nat.testBit_and]
    by_cases hi : i < 64
    · cases a.testBit i <;> cases b.testBit i <;> simp [hi]
    · simp [hi, bit_ge ha (show 63 ≤ i by omega)]
  show IntKind.i64.wrap ((BitVec.ofInt 64 (a : Int) &&& ~~~(BitVec.ofInt 64 (b : Int))).toNat : Int) = _
  rw [e]
  exact wrap_nat (Nat.lt_of_lt_of_le (Nat.xor_lt_two_pow ha (Nat.lt_of_le_of_lt Nat.and_le_left ha)) (by decide))
/-- All the sets together: if they have what is missing, all of them do. -/
theorem gd_all : ∀ (suf : List Nat) (from_ : Int) (left : Nat), left < 2 ^ 16 → (∀ x ∈ suf, x < 2 ^ 16) → (∀ i, left.testBit i = true → ∃ x ∈ suf, x.testBit i = true) → (gd from_ (suf.map fun x : Nat => (x : Int)) suf.length (left : Int)).2 = true
  | [], f, left, _, _, h => by
    have : left = 0 := by
      apply Nat.eq_of_testBit_eq
      intro i
      rw [Nat.zero_testBit]
      cases e : left.testBit i with
      | false => rfl
      | true => obtain ⟨x, hx, _⟩ := h i e; simp at hx
    subst this
    rfl
  | x :: suf, f, left, hl, hs, h => by
    have hx := hs x List.mem_cons_self
    have e := bits_andNotN left x (by omega) (by omega)
    have hr := gd_all suf (f + 1) (left ^^^ (left &&& x)) (Nat.xor_lt_two_pow hl (Nat.lt_of_le_of_lt Nat.and_le_left hl)) (fun y hy => hs y (List.mem_cons_of_mem _ hy)) (fun i hi => by
      rw [Nat.testBit_xor, Nat.testBit_and] at hi
      have h1 : left.testBit i = true := by cases z : left.testBit i <;> simp [z] at hi; rfl
      have h2 : x.testBit i = false := by cases z : x.testBit i <;> simp [z, h1] at hi; rfl
      obtain ⟨y, hy, hb⟩ := h i h1
      rcases List.mem_cons.1 hy with z | z
      · subst z; rw [h2] at hb; exact absurd hb (by simp)
      · exact ⟨y, z, hb⟩)
    simp only [List.map_cons, List.length_cons, gd]
    rw [e, if_pos hr]
def sets (w h o : Int) : List Nat := (List.range (cells w h).toNat).map fun k : Nat => seenBits w h o (k : Int)
def setsI (w h o : Int) : List Int := (sets w h o).map fun x : Nat => (x : Int)
theorem sets_length (w h o : Int) : (sets w h o).length = (cells w h).toNat := by simp [sets]
theorem setsI_length (w h o : Int) : (setsI w h o).length = (cells w h).toNat := by simp [setsI, sets]
theorem nat_cell {w h : Int} {k : Nat} (hk : k < (cells w h).toNat) : isCell w h (k : Int) = true := by
  unfold isCell
  exact decide_eq_true ⟨by omega, by omega⟩
theorem full_nat (w h : Int) : ∃ m : Nat, full w h = (m : Int) ∧ m < 2 ^ 16 + 1 ∧ ∀ i, m.testBit i = decide (i < (cells w h).toNat) := by
  have hr := cells_range w h
  have h2 := pow_le_24 hr.1 (by omega)
  have h1 : 1 ≤ 2 ^ (cells w h).toNat := Nat.one_le_two_pow
  refine ⟨2 ^ (cells w h).toNat - 1, ?_, ?_, fun i => Nat.testBit_two_pow_sub_one _ _⟩
  · unfold full
    rw [shl_one hr.1 (by omega), w64 (by omega) (by omega), pow_cast]
    omega
  · have : 2 ^ (cells w h).toNat ≤ 2 ^ 16 := Nat.pow_le_pow_right (by decide) (by omega)
    omega
theorem gd_full (w h o : Int) : (gd 0 (setsI w h o) (setsI w h o).length (full w h)).2 = true := by
  obtain ⟨m, e, hm, hb⟩ := full_nat w h
  have hr := cells_range w h
  have hm2 : m < 2 ^ 16 := lt_of_bits fun i hi => by rw [hb]; exact decide_eq_false (by omega)
  rw [e, setsI_length, ← sets_length w h o]
  refine gd_all (sets w h o) 0 m hm2 ?_ ?_
  · intro x hx
    obtain ⟨k, hk, rfl⟩ := List.mem_map.1 hx
    exact seenBits_lt (nat_cell (List.mem_range.1 hk))
  · intro i hi
    rw [hb] at hi
    have hi := of_decide_eq_true hi
    refine ⟨seenBits w h o (i : Int), List.mem_map.2 ⟨i, List.mem_range.2 hi, rfl⟩, ?_⟩
    rw [testBit_seen (nat_cell hi), decide_eq_true]
    exact List.mem_cons_self
/-- Both searches, from n on. -/
theorem fewest_go (w h o : Int) (hc : 1 ≤ cells w h) : ∀ (d k : Nat) (n : Nat), 1 ≤ n → n ≤ (cells w h).toNat → (cells w h).toNat - n = d → d + 40 ≤ k →
    ∃ r : List Int, r.length ≤ 16 ∧ impl_FewestGuards.l1 k (setsI w h o) n = some r ∧ spec_FewestGuards.l1 k (setsI w h o) n w h o = some r := by
  have hr := cells_range w h
  have hlen := setsI_length w h o
  have hfull : wrap64 ((shl .i64 1 ((setsI w h o).length : Int)) - 1) = full w h := by
    unfold full
    rw [hlen, ← cells_cast]
  intro d
  induction d with
  | zero =>
    intro k n h1 hn hd hk
    obtain ⟨k, rfl⟩ : ∃ m, k = m + 1 := ⟨k - 1, by omega⟩
    have e : n = (setsI w h o).length := by omega
    have hg := iguards k (setsI w h o) n (full w h) (by omega) (by omega) (by omega)
    have hf := gd_full w h o
    rw [← e] at hf
    refine ⟨(gd 0 (setsI w h o) n (full w h)).1, by have := gd_length (setsI w h o) 0 n (full w h); omega, ?_, ?_⟩
    · unfold impl_FewestGuards.l1
      rw [hfull, hg]
      simp only [Option.bind_some]
      rw [if_pos hf]
    · unfold spec_FewestGuards.l1
      rw [if_neg (by omega), hfull, (guards_same k).1, ← e, hg]
      rfl
  | succ d ih =>
    intro k n h1 hn hd hk
    obtain ⟨k, rfl⟩ : ∃ m, k = m + 1 := ⟨k - 1, by omega⟩
    have hg := iguards k (setsI w h o) n (full w h) (by omega) (by omega) (by omega)
    by_cases c : (gd 0 (setsI w h o) n (full w h)).2 = true
    · refine ⟨(gd 0 (setsI w h o) n (full w h)).1, by have := gd_length (setsI w h o) 0 n (full w h); omega, ?_, ?_⟩
      · unfold impl_FewestGuards.l1
        rw [hfull, hg]
        simp only [Option.bind_some]
        rw [if_pos c]
      · unfold spec_FewestGuards.l1
        rw [if_pos (by omega), hfull, (guards_same k).1, hg]
        simp only [Option.bind_some]
        rw [if_pos c]
    · obtain ⟨r, h2, h3, h4⟩ := ih k (n + 1) (by omega) (by omega) (by omega) (by omega)
      refine ⟨r, h2, ?_, ?_⟩
      · unfold impl_FewestGuards.l1
        rw [hfull, hg]
        simp only [Option.bind_some]
        rw [if_neg c, w64 (by omega) (by omega)]
        exact h3
      · unfold spec_FewestGuards.l1
        rw [if_pos (by omega), hfull, (guards_same k).1, hg]
        simp only [Option.bind_some]
        rw [if_neg c, w64 (by omega) (by omega)]
        exact h4
theorem sets_take (w h o : Int) {i : Nat} (hi : i < (cells w h).toNat) : (setsI w h o).take (i + 1) = (setsI w h o).take i ++ [(seenBits w h o (i : Int) : Int)] := by
  rw [List.take_succ_eq_append_getElem (by rw [setsI_length]; exact hi)]
  simp [setsI, sets]
theorem iFew_go (w h o : Int) (hm : mazeOk w h o = true) : ∀ (d k i : Nat), i ≤ (cells w h).toNat → (cells w h).toNat - i = d → d + 200 ≤ k →
    impl_FewestGuards.l0 k ((setsI w h o).take i) i w h o = impl_FewestGuards.l1 (k - d - 1) (setsI w h o) 1 := by
  have hr := cells_range w h
  intro d
  induction d with
  | zero =>
    intro k i hi hd hk
    obtain ⟨k, rfl⟩ : ∃ m, k = m + 1 := ⟨k - 1, by omega⟩
    unfold impl_FewestGuards.l0
    rw [iCountCells]
    simp only [Option.bind_some]
    rw [if_neg (by omega), List.take_of_length_le (by rw [setsI_length]; omega)]
    rfl
  | succ d ih =>
    intro k i hi hd hk
    obtain ⟨k, rfl⟩ : ∃ m, k = m + 1 := ⟨k - 1, by omega⟩
    unfold impl_FewestGuards.l0
    rw [iCountCells]
    simp only [Option.bind_some]
    rw [if_pos (by omega), iseen k w h o (i : Int) (by unfold has; rw [hm, nat_cell (by omega)]; rfl) (by omega)]
    simp only [Option.bind_some]
    rw [if_pos (by rw [List.length_take]; omega), ← sets_take w h o (by omega), w64 (by omega) (by omega), show ((i : Int) + 1) = ((i + 1 : Nat) : Int) by omega, ih k (i + 1) (by omega) (by omega) (by omega)]
    congr 1
    omega
theorem sFew_go (w h o : Int) (hm : mazeOk w h o = true) : ∀ (d k i : Nat), i ≤ (cells w h).toNat → (cells w h).toNat - i = d → d + 200 ≤ k →
    spec_FewestGuards.l0 k ((setsI w h o).take i) i w h o = spec_FewestGuards.l1 (k - d - 1) (setsI w h o) 1 w h o := by
  have hr := cells_range w h
  intro d
  induction d with
  | zero =>
    intro k i hi hd hk
    obtain ⟨k, rfl⟩ : ∃ m, k = m + 1 := ⟨k - 1, by omega⟩
    unfold spec_FewestGuards.l0
    rw [sCountCells]
    simp only [Option.bind_some]
    rw [if_neg (by omega), List.take_of_length_le (by rw [setsI_length]; omega)]
    rfl
  | succ d ih =>
    intro k i hi hd hk
    obtain ⟨k, rfl⟩ : ∃ m, k = m + 1 := ⟨k - 1, by omega⟩
    unfold spec_FewestGuards.l0
    rw [sCountCells]
    simp only [Option.bind_some]
    rw [if_pos (by omega), sSeenBits k w h o (i : Int) (nat_cell (by omega)) (by omega)]
    simp only [Option.bind_some]
    rw [if_pos (by rw [List.length_take]; omega), ← sets_take w h o (by omega), w64 (by omega) (by omega), show ((i : Int) + 1) = ((i + 1 : Nat) : Int) by omega, ih k (i + 1) (by omega) (by omega) (by omega)]
    congr 1
    omega
theorem few (w h o : Int) : ∃ r : List Int, r.length ≤ 16 ∧ impl_FewestGuards.f 400 w h o = some r ∧ spec_FewestGuards.f 400 w h o = some r := by
  have hr := cells_range w h
  by_cases hm : mazeOk w h o = true
  · have hg := (mazeOk_ok hm).1
    have hc := cells_pos hg
    obtain ⟨r, h1, h2, h3⟩ := fewest_go w h o hc ((cells w h).toNat - 1) (400 - (cells w h).toNat - 1) 1 (by omega) (by omega) rfl (by omega)
    have hI := iFew_go w h o hm (cells w h).toNat 400 0 (by omega) (by omega) (by omega)
    have hS := sFew_go w h o hm (cells w h).toNat 400 0 (by omega) (by omega) (by omega)
    rw [List.take_zero, show ((0 : Nat) : Int) = 0 from rfl] at hI hS
    rw [show ((1 : Nat) : Int) = 1 from rfl] at h2 h3
    refine ⟨r, h1, ?_, ?_⟩
    · unfold impl_FewestGuards.f
      rw [iMazeOk]
      simp only [Option.bind_some]
      rw [if_pos hm, hI, h2]
    · unfold spec_FewestGuards.f
      rw [sMazeOk]
      simp only [Option.bind_some]
      rw [if_pos hm, hS, h3]
  · refine ⟨[], by simp, ?_, ?_⟩
    · unfold impl_FewestGuards.f
      rw [iMazeOk]
      simp only [Option.bind_some]
      rw [if_neg hm]
    · unfold spec_FewestGuards.f
      rw [sMazeOk]
      simp only [Option.bind_some]
      rw [if_neg hm]
end Go.Proofs.Ytmcllgonjlapoaa.L
