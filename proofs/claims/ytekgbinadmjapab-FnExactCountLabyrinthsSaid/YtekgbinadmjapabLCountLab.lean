/- How many labyrinths begin with some circuits: the same count on both sides. -/
import Derived.Test.YtekgbinadmjapabXimplCountLabyrinths
import Derived.Test.YtekgbinadmjapabXimpllabyrinths
import Derived.Test.YtekgbinadmjapabXslicesCloneintint
import Derived.Test.YtekgbinadmjapabXspecCountLabyrinths
import Derived.Test.YtekgbinadmjapabXspecl27Count
import Derived.Test.YtekgbinadmjapabLLab
namespace Go.Proofs.Ytekgbinadmjapab.L
open Go.RowKit Go.Proofs.Ytekgbinadmjapab.X Go.Proofs.YtekgbinadmjapabW.PrintWords Go.Proofs.YtekgbinadmjapabW.PrintLast Go.Proofs.YtekgbinadmjapabW.PrintMore
set_option linter.unusedSimpArgs false
set_option linter.unusedVariables false

theorem cloneL (l : List Int) (h : l.length < 17592186044416) : slices_Clone_int_int.f l = some l := by
  unfold slices_Clone_int_int.f
  rw [if_pos h]
/-- The last circuit, or 0. -/
def lastOf (l : List Int) : Int := if (l.length : Int) > 0 then rd l ((l.length : Int) - 1) else 0
def nextOk (l : List Int) (k : Int) : Bool := decide (k ∉ l) && decide ((k + lastOf l) % 2 = 1)
/-- The sum, from circuit i on, of m circuits: f of those that may come next. -/
def sumFrom (f : Int → Int) (l : List Int) : Nat → Int → Int
  | 0, _ => 0
  | m + 1, i => (if nextOk l i = true then f i else 0) + sumFrom f l m (i + 1)
noncomputable def lab (n : Nat) : Nat → List Int → Int
  | 0, l => if labOk l = true then 1 else 0
  | d + 1, l => sumFrom (fun k => lab n d (l ++ [k])) l n 1
theorem sumFrom_range (f : Int → Int) (l : List Int) (B : Int) (hB : 0 ≤ B) (hf : ∀ k, 0 ≤ f k ∧ f k ≤ B) : ∀ (m : Nat) (i : Int), 0 ≤ sumFrom f l m i ∧ sumFrom f l m i ≤ m * B
  | 0, i => by simp [sumFrom]
  | m + 1, i => by
    have h1 := sumFrom_range f l B hB hf m (i + 1)
    have h2 := hf i
    have e : ((m + 1 : Nat) : Int) * B = m * B + B := by
      rw [show ((m + 1 : Nat) : Int) = (m : Int) + 1 by omega, Int.add_mul, Int.one_mul]
    simp only [sumFrom]
    rw [e]
    split <;> omega
theorem lab_range (n : Nat) (hn : n ≤ 8) : ∀ (d : Nat) (l : List Int), 0 ≤ lab n d l ∧ lab n d l ≤ ((8 ^ d : Nat) : Int)
  | 0, l => by
    unfold lab
    split <;> simp
  | d + 1, l => by
    have ih := lab_range n hn d
    have h := sumFrom_range (fun k => lab n d (l ++ [k])) l ((8 ^ d : Nat) : Int) (Int.natCast_nonneg _) (fun k => ih _) n 1
    unfold lab
    refine ⟨h.1, Int.le_trans h.2 ?_⟩
    rw [Nat.pow_succ, Nat.mul_comm, Int.natCast_mul]
    exact Int.mul_le_mul_of_nonneg_right (by omega) (Int.natCast_nonneg _)
theorem lab_small (n : Nat) (hn : n ≤ 8) (d : Nat) (hd : d ≤ 8) (l : List Int) : 0 ≤ lab n d l ∧ lab n d l ≤ 16777216 := by
  have h := lab_range n hn d l
  have : 8 ^ d ≤ 8 ^ 8 := Nat.pow_le_pow_right (by decide) hd
  omega
/-- All circuits of a list lie between 1 and 8. -/
def small (l : List Int) : Prop := ∀ x ∈ l, 1 ≤ x ∧ x ≤ 8
theorem lastOf_range {l : List Int} (h : small l) : 0 ≤ lastOf l ∧ lastOf l ≤ 8 := by
  unfold lastOf
  split
  · have := h _ (mem_rd' (w := l) (i := (l.length : Int) - 1) (by omega) (by omega))
    omega
  · omega
theorem small_snoc {l : List Int} (h : small l) {k : Int} (h1 : 1 ≤ k) (h8 : k ≤ 8) : small (l ++ [k]) := by
  intro x hx
  rcases List.mem_append.1 hx with e | e
  · exact h x e
  · rw [List.mem_singleton] at e
    omega
theorem tmod_pos {a : Int} (h : 0 ≤ a) : Int.tmod a 2 = a % 2 := Int.tmod_eq_emod_of_nonneg h
theorem iLab_go (n : Nat) (hn : n ≤ 8) (d : Nat) (hd : d ≤ 8) (B : Nat) (l : List Int) (hl : l.length ≤ 8) (hs : small l)
    (hf : ∀ (K : Nat) (k : Int), B ≤ K → 1 ≤ k → k ≤ 8 → impl_labyrinths.f K n (l ++ [k]) = some (lab n d (l ++ [k]))) :
    ∀ (m K : Nat) (i s : Int), 1 ≤ i → i + m = n + 1 → 0 ≤ s → s + m * 16777216 ≤ 1000000000 → B + 2 * m + 20 ≤ K →
    impl_labyrinths.l0 K n l (lastOf l) s i = some (s + sumFrom (fun k => lab n d (l ++ [k])) l m i) := by
  have hr := lastOf_range hs
  intro m
  induction m with
  | zero =>
    intro K i s h1 hm h0 hb hK
    obtain ⟨K, rfl⟩ : ∃ z, K = z + 1 := ⟨K - 1, by omega⟩
    rw [impl_labyrinths.l0, if_neg (by omega)]
    simp [sumFrom]
  | succ m ih =>
    intro K i s h1 hm h0 hb hK
    obtain ⟨K, rfl⟩ : ∃ z, K = (z + 1) + 1 := ⟨K - 2, by omega⟩
    have hq := lab_small n hn d hd (l ++ [i])
    have hj : impl_labyrinths.j2 (K + 1) n l (lastOf l) s i (nextOk l i) = some (s + sumFrom (fun k => lab n d (l ++ [k])) l (m + 1) i) := by
      rw [impl_labyrinths.j2]
      simp only [sumFrom]
      by_cases c : nextOk l i = true
      · rw [if_pos c, if_pos c, cloneL l (by omega)]
        simp only [Option.bind_some]
        rw [if_pos (by omega), hf K i (by omega) h1 (by omega)]
        simp only [Option.bind_some]
        rw [w64 (x := i + 1) (by omega) (by omega), w64 (by omega) (by omega), ih K (i + 1) _ (by omega) (by omega) (by omega) (by omega) (by omega), Int.add_assoc]
      · rw [if_neg c, if_neg c, w64 (x := i + 1) (by omega) (by omega), ih K (i + 1) _ (by omega) (by omega) (by omega) (by omega) (by omega), Int.zero_add]
    rw [impl_labyrinths.l0, if_pos (by omega), w64 (x := i + lastOf l) (by omega) (by omega), tmod_pos (by omega)]
    by_cases c : (i + lastOf l) % 2 = 1
    · rw [if_pos c, Contains (K + 1) l i (by omega) (by omega)]
      simp only [Option.bind_some]
      rw [← hj]
      unfold nextOk
      rw [decide_eq_true c, Bool.and_true]
      congr 1
      by_cases e : i ∈ l <;> simp [e]
    · rw [if_neg c, ← hj]
      unfold nextOk
      rw [decide_eq_false c, Bool.and_false]
theorem iLab (n : Nat) (hn : n ≤ 8) : ∀ (d K : Nat) (l : List Int), l.length + d = n → small l → 40 * d + 1600 ≤ K → impl_labyrinths.f K n l = some (lab n d l)
  | 0, K, l, hd, hs, hK => by
    obtain ⟨K, rfl⟩ : ∃ z, K = z + 1 := ⟨K - 1, by omega⟩
    rw [impl_labyrinths.f, if_pos (by omega), iIsLab K l (by omega) (by omega)]
    simp only [Option.bind_some, lab]
    split <;> rfl
  | d + 1, K, l, hd, hs, hK => by
    obtain ⟨K, rfl⟩ : ∃ z, K = (z + 1) + 1 := ⟨K - 2, by omega⟩
    have hj : impl_labyrinths.j0 (K + 1) n l (lastOf l) 0 = some (lab n (d + 1) l) := by
      rw [impl_labyrinths.j0]
      have := iLab_go n hn d (by omega) (40 * d + 1600) l (by omega) hs (fun K' k hK' h1 h8 => iLab n hn d K' (l ++ [k]) (by simp; omega) (small_snoc hs h1 h8) hK') n K 1 0 (by omega) (by omega) (by omega) (by omega) (by omega)
      rw [this, Int.zero_add, lab]
    rw [impl_labyrinths.f, if_neg (by omega)]
    by_cases c : (l.length : Int) > 0
    · rw [if_pos c, w64 (by omega) (by omega), if_pos (by omega), if_pos (by omega)]
      rw [← hj]
      unfold lastOf
      rw [if_pos c]
    · rw [if_neg c, ← hj]
      unfold lastOf
      rw [if_neg c]
theorem sLab_go (n : Nat) (hn : n ≤ 8) (d : Nat) (hd : d ≤ 8) (B : Nat) (l : List Int) (hl : l.length ≤ 8) (hs : small l)
    (hf : ∀ (K : Nat) (k : Int), B ≤ K → 1 ≤ k → k ≤ 8 → spec_l27Count.f K n (l ++ [k]) = some (lab n d (l ++ [k]))) :
    ∀ (m K : Nat) (i s : Int), 1 ≤ i → i + m = n + 1 → 0 ≤ s → s + m * 16777216 ≤ 1000000000 → B + 2 * m + 20 ≤ K →
    spec_l27Count.l0 K n l s i = some (s + sumFrom (fun k => lab n d (l ++ [k])) l m i) := by
  have hr := lastOf_range hs
  intro m
  induction m with
  | zero =>
    intro K i s h1 hm h0 hb hK
    obtain ⟨K, rfl⟩ : ∃ z, K = z + 1 := ⟨K - 1, by omega⟩
    rw [spec_l27Count.l0, if_neg (by omega)]
    simp [sumFrom]
  | succ m ih =>
    intro K i s h1 hm h0 hb hK
    obtain ⟨K, rfl⟩ : ∃ z, K = (z + 1) + 1 := ⟨K - 2, by omega⟩
    have hq := lab_small n hn d hd (l ++ [i])
    have hj : spec_l27Count.j1 (K + 1) n l s i (lastOf l) = some (s + sumFrom (fun k => lab n d (l ++ [k])) l (m + 1) i) := by
      rw [spec_l27Count.j1, l07In K l i (by omega) (by omega)]
      simp only [Option.bind_some, sumFrom]
      by_cases e : i ∈ l
      · rw [decide_eq_true e, if_pos rfl, w64 (x := i + 1) (by omega) (by omega), ih K (i + 1) _ (by omega) (by omega) (by omega) (by omega) (by omega), if_neg (by simp [nextOk, e]), Int.zero_add]
      · rw [decide_eq_false e, if_neg (by simp), w64 (x := i - lastOf l) (by omega) (by omega)]
        have t2 := tmod2 (i - lastOf l)
        by_cases c : Int.tmod (i - lastOf l) 2 = 0
        · have c2 := t2.1 c
          rw [if_pos c, w64 (x := i + 1) (by omega) (by omega), ih K (i + 1) _ (by omega) (by omega) (by omega) (by omega) (by omega), if_neg (by simp [nextOk, e]; omega), Int.zero_add]
        · have c2 := fun z => c (t2.2 z)
          rw [if_neg c, if_pos (by simp; omega), if_pos (by simp; omega), List.nil_append, hf K i (by omega) h1 (by omega)]
          simp only [Option.bind_some]
          rw [w64 (x := i + 1) (by omega) (by omega), w64 (by omega) (by omega), ih K (i + 1) _ (by omega) (by omega) (by omega) (by omega) (by omega), if_pos (by simp [nextOk, e]; omega), Int.add_assoc]
    rw [spec_l27Count.l0, if_pos (by omega)]
    by_cases c : (l.length : Int) > 0
    · rw [if_pos c, w64 (by omega) (by omega), if_pos (by omega), if_pos (by omega)]
      rw [← hj]
      unfold lastOf
      rw [if_pos c]
    · rw [if_neg c, ← hj]
      unfold lastOf
      rw [if_neg c]
theorem sLab (n : Nat) (hn : n ≤ 8) : ∀ (d K : Nat) (l : List Int), l.length + d = n → small l → 40 * d + 4200 ≤ K → spec_l27Count.f K n l = some (lab n d l)
  | 0, K, l, hd, hs, hK => by
    obtain ⟨K, rfl⟩ : ∃ z, K = z + 1 := ⟨K - 1, by omega⟩
    rw [spec_l27Count.f, if_pos (by omega), sIsLab K l (by omega) (by omega)]
    simp only [Option.bind_some, lab]
    split <;> rfl
  | d + 1, K, l, hd, hs, hK => by
    obtain ⟨K, rfl⟩ : ∃ z, K = z + 1 := ⟨K - 1, by omega⟩
    rw [spec_l27Count.f, if_neg (by omega)]
    have := sLab_go n hn d (by omega) (40 * d + 4200) l (by omega) hs (fun K' k hK' h1 h8 => sLab n hn d K' (l ++ [k]) (by simp; omega) (small_snoc hs h1 h8) hK') n K 1 0 (by omega) (by omega) (by omega) (by omega) (by omega)
    rw [this, Int.zero_add, lab]
noncomputable def countLab (n : Int) : Int := if 1 ≤ n ∧ n ≤ 8 then lab n.toNat n.toNat [] else 0
theorem small_nil : small [] := fun x hx => by simp at hx
theorem iCount (n : Int) : impl_CountLabyrinths.f 5000 n = some (countLab n) := by
  unfold impl_CountLabyrinths.f countLab
  by_cases c : n < 1
  · rw [if_pos c, if_neg (by omega)]
  · rw [if_neg c]
    by_cases c2 : n > 8
    · rw [if_pos c2, if_neg (by omega)]
    · rw [if_neg c2, if_pos (by omega)]
      have := iLab n.toNat (by omega) n.toNat 5000 [] (by simp) small_nil (by omega)
      rw [Int.toNat_of_nonneg (by omega)] at this
      rw [this]
      rfl
theorem sCount (n : Int) : spec_CountLabyrinths.f 5000 n = some (countLab n) := by
  unfold spec_CountLabyrinths.f countLab
  rw [sIn' n 1 8]
  simp only [Option.bind_some]
  by_cases c : 1 ≤ n ∧ n ≤ 8
  · rw [decide_eq_true c, if_pos rfl, if_pos c]
    have := sLab n.toNat (by omega) n.toNat 5000 [] (by simp) small_nil (by omega)
    rw [Int.toNat_of_nonneg (by omega)] at this
    rw [this]
    rfl
  · rw [decide_eq_false c, if_neg (by simp), if_neg c]
end Go.Proofs.Ytekgbinadmjapab.L
