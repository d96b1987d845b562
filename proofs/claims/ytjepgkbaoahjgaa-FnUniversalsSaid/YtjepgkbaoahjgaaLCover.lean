/- Whether a walker comes to every cell. -/
import Derived.Test.YtjepgkbaoahjgaaXcfollow
import Derived.Test.YtjepgkbaoahjgaaLOrs
import Derived.Test.YtjepgkbaoahjgaaLFollow
namespace Go.Proofs.Ytjepgkbaoahjgaa.L
open Go.RowKit Go.Proofs.Ytjepgkbaoahjgaa.X Go.Proofs.YtjepgkbaoahjgaaW.PrintWords Go.Proofs.YtjepgkbaoahjgaaW.PrintLast Go.Proofs.YtjepgkbaoahjgaaW.PrintMore
set_option linter.unusedSimpArgs false
set_option linter.unusedVariables false

theorem follow_cell (w h o : Int) : ∀ (l : List Int) (c f : Int), isCell w h c = true → ∀ x ∈ follow w h o l c f, isCell w h x = true := by
  intro l
  induction l with
  | nil => intro c f _ x hx; simp [follow] at hx
  | cons n l ih =>
    intro c f hc x hx
    simp only [follow] at hx
    split at hx
    · rename_i h0
      have hn : isCell w h (step w h o c ((f + n) % 4)) = true := by
        rcases step_range w h o c ((f + n) % 4) with e2 | ⟨_, _, e2, _⟩
        · omega
        · exact e2
      rcases List.mem_cons.1 hx with e | e
      · rw [e]; exact hn
      · exact ih _ _ hn x e
    · rcases List.mem_cons.1 hx with e | e
      · rw [e]; exact hc
      · exact ih _ _ hc x e
theorem followTurns_cell (w h o c f : Int) (l : List Int) : ∀ x ∈ followTurns w h o c f l, isCell w h x = true := by
  intro x hx
  unfold followTurns at hx
  split at hx
  · rename_i h1
    have hc := (has_parts (walkerOk_parts h1.1).1).2
    rcases List.mem_cons.1 hx with e | e
    · rw [e]; exact hc
    · exact follow_cell w h o l c f hc x e
  · simp at hx
def covers (w h o c f : Int) (l : List Int) : Bool := decide (0 < (followTurns w h o c f l).length) && decide ((ord (followTurns w h o c f l)).length = (cells w h).toNat)
theorem iCovers (k : Nat) (w h o c f : Int) (l : List Int) (hl : l.length ≤ 2000000) (hk : l.length + 10 ≤ k) : impl_CoversAll.f k w h o c f l = some (covers w h o c f l) := by
  have hn := followTurns_length w h o c f l
  have hr := cells_range w h
  unfold impl_CoversAll.f covers
  rw [iFollow k w h o c f l hk]
  simp only [Option.bind_some]
  by_cases e : 0 < (followTurns w h o c f l).length
  · rw [if_pos (by omega), iOrdered _ (by omega), iCountCells, decide_eq_true e]
    simp only [Option.bind_some, Bool.true_and]
    congr 1
    by_cases e2 : (ord (followTurns w h o c f l)).length = (cells w h).toNat
    · rw [decide_eq_true e2, beq_iff_eq]; omega
    · rw [decide_eq_false e2, beq_eq_false_iff_ne]; omega
  · rw [if_neg (by omega), decide_eq_false e]
    rfl
theorem full_is (w h : Int) : full w h = ((2 ^ (cells w h).toNat - 1 : Nat) : Int) := by
  have hr := cells_range w h
  have h2 := pow_le_24 hr.1 (by omega)
  have h1 : 1 ≤ 2 ^ (cells w h).toNat := Nat.one_le_two_pow
  unfold full
  rw [shl_one hr.1 (by omega), w64 (by omega) (by omega), pow_cast]
  omega
/-- All bits, just if the list has as many cells as there are. -/
theorem bits_all (w h : Int) (l : List Int) (hc : ∀ x ∈ l, isCell w h x = true) : (((orL 0 l : Nat) : Int) == full w h) = decide ((ord l).length = (cells w h).toNat) := by
  have hr := cells_range w h
  have h1 := ord_range (cells w h).toNat l (fun x hx => by have := cell_lt (hc x hx); omega)
  have h2 : (ord l).length = (cells w h).toNat ↔ ∀ k, k < (cells w h).toNat → ((k : Nat) : Int) ∈ l := by
    rw [h1, List.length_map]
    constructor
    · intro e k hk
      have e2 : ((List.range (cells w h).toNat).filter fun k => decide (((k : Nat) : Int) ∈ l)).length = (List.range (cells w h).toNat).length := by rw [e, List.length_range]
      have := List.length_filter_eq_length_iff.1 e2 k (List.mem_range.2 hk)
      simpa using this
    · intro e
      have e2 := List.length_filter_eq_length_iff.2 (show ∀ a ∈ List.range (cells w h).toNat, (fun k => decide (((k : Nat) : Int) ∈ l)) a = true from fun a ha => by simpa using e a (List.mem_range.1 ha))
      rw [e2, List.length_range]
  have h3 : orL 0 l = 2 ^ (cells w h).toNat - 1 ↔ ∀ k, k < (cells w h).toNat → ((k : Nat) : Int) ∈ l := by
    have hb : ∀ i, (orL 0 l).testBit i = decide ((i : Int) ∈ l) := fun i => by rw [testBit_orL _ _ _ (fun x hx => (cell_lt (hc x hx)).1)]; simp
    constructor
    · intro e k hk
      have := hb k
      rw [e, Nat.testBit_two_pow_sub_one, decide_eq_true hk] at this
      simpa using this.symm
    · intro e
      apply Nat.eq_of_testBit_eq
      intro i
      rw [hb, Nat.testBit_two_pow_sub_one]
      by_cases hi : i < (cells w h).toNat
      · rw [decide_eq_true hi, decide_eq_true (e i hi)]
      · rw [decide_eq_false hi, decide_eq_false (fun z => by have := cell_lt (hc _ z); omega)]
  rw [full_is]
  by_cases e : (ord l).length = (cells w h).toNat
  · rw [decide_eq_true e, h3.2 (h2.1 e)]
    simp
  · rw [decide_eq_false e, beq_eq_false_iff_ne]
    intro z
    exact e (h2.2 (h3.1 (by omega)))
end Go.Proofs.Ytjepgkbaoahjgaa.L
