/- Rows of rows: comparing them, marking all their numbers, finding the marks again. -/
import Derived.Test.YtkkjlbpffcdlfaaXlawseqIntSS
import Derived.Test.YtkkjlbpffcdlfaaXlawsheldIntSS
import Derived.Test.YtkkjlbpffcdlfaaXlawsmarkIntSS
import Derived.Test.YtkkjlbpffcdlfaaLBase
namespace Go.Proofs.Ytkkjlbpffcdlfaa.L
open Go.RowKit Go.Proofs.Ytkkjlbpffcdlfaa.X Go.Proofs.YtkkjlbpffcdlfaaW.PrintWords Go.Proofs.YtkkjlbpffcdlfaaW.PrintLast Go.Proofs.YtkkjlbpffcdlfaaW.PrintMore
set_option linter.unusedSimpArgs false
set_option linter.unusedVariables false

theorem rl_get {l : List (List Int)} {i : Int} (h0 : 0 ≤ i) (h1 : i < (l.length : Int)) : rd_L1 l i = l[i.toNat]'(by omega) := by
  unfold rd_L1
  rw [List.getD_eq_getElem?_getD, List.getElem?_eq_getElem (show i.toNat < l.length by omega)]
  rfl
theorem rl_drop {l : List (List Int)} {i : Int} (h0 : 0 ≤ i) (h1 : i < (l.length : Int)) : l.drop i.toNat = rd_L1 l i :: l.drop (i + 1).toNat := by
  rw [rl_get h0 h1, List.drop_eq_getElem_cons (by omega), show (i + 1).toNat = i.toNat + 1 by omega]
theorem rl_mem {l : List (List Int)} {i : Int} (h0 : 0 ≤ i) (h1 : i < (l.length : Int)) : rd_L1 l i ∈ l := by
  rw [rl_get h0 h1]
  exact List.getElem_mem _
theorem eqIntSS_go (a : List (List Int)) (B : Nat) (ha : a.length ≤ 1000000) (hB : ∀ r ∈ a, r.length ≤ B) (hB2 : B ≤ 1000000) : ∀ (d k : Nat) (i : Int), 0 ≤ i → i ≤ (a.length : Int) → (a.length : Int) - i = d → d + B + 1 ≤ k → laws_eqIntSS.l0 k a a i = some true := by
  intro d
  induction d with
  | zero =>
    intro k i h0 h1 hd hk
    obtain ⟨k, rfl⟩ : ∃ m, k = m + 1 := ⟨k - 1, by omega⟩
    rw [laws_eqIntSS.l0, if_neg (by omega)]
  | succ d ih =>
    intro k i h0 h1 hd hk
    obtain ⟨k, rfl⟩ : ∃ m, k = m + 1 := ⟨k - 1, by omega⟩
    have hr := hB _ (rl_mem (l := a) h0 (by omega))
    rw [laws_eqIntSS.l0, if_pos (by omega), if_pos h0, if_pos (by omega), eqIntS k _ _ (by omega) (by omega), Option.bind_some, decide_eq_true rfl, if_pos rfl, w64 (by omega) (by omega)]
    exact ih k (i + 1) (by omega) (by omega) (by omega) (by omega)
/-- A row of rows is itself. -/
theorem eqIntSS (k : Nat) (a : List (List Int)) (B : Nat) (ha : a.length ≤ 1000000) (hB : ∀ r ∈ a, r.length ≤ B) (hB2 : B ≤ 1000000) (hk : a.length + B + 1 ≤ k) : laws_eqIntSS.f k a a = some true := by
  unfold laws_eqIntSS.f
  rw [if_pos rfl]
  exact eqIntSS_go a B ha hB hB2 a.length k 0 (by omega) (by omega) (by omega) hk
/-- All numbers, in a row. -/
def runSS : Int → List (List Int) → List (List Int)
  | _, [] => []
  | m, r :: rs => run m r.length :: runSS (m + r.length) rs
def totSS : List (List Int) → Nat
  | [] => 0
  | r :: rs => r.length + totSS rs
theorem runSS_length : ∀ (m : Int) (l : List (List Int)), (runSS m l).length = l.length
  | _, [] => rfl
  | m, r :: rs => by rw [runSS, List.length_cons, List.length_cons, runSS_length]
theorem totSS_le (B : Nat) : ∀ (l : List (List Int)), (∀ r ∈ l, r.length ≤ B) → totSS l ≤ l.length * B
  | [], _ => by simp [totSS]
  | r :: rs, h => by
    have h1 := h r List.mem_cons_self
    have h2 := totSS_le B rs fun x hx => h x (List.mem_cons_of_mem _ hx)
    rw [totSS, List.length_cons, Nat.add_mul]
    omega
theorem markSS_go (B : Nat) (hB2 : B ≤ 1000000) : ∀ (rs done : List (List Int)) (k : Nat) (m : Int), (∀ r ∈ rs, r.length ≤ B) → done.length + rs.length ≤ 1000000 → 0 ≤ m → m + (totSS rs : Int) ≤ 100000000000 → rs.length + B + 1 ≤ k →
    laws_markIntSS.l0 k (done ++ rs) m (done.length : Int) = some (m + (totSS rs : Int), done ++ runSS m rs)
  | [], done, k, m, _, _, _, _, hk => by
    obtain ⟨k, rfl⟩ : ∃ z, k = z + 1 := ⟨k - 1, by omega⟩
    rw [laws_markIntSS.l0, if_neg (by simp)]
    simp [totSS, runSS]
  | r :: rs, done, k, m, hB, hl, h0, h1, hk => by
    obtain ⟨k, rfl⟩ : ∃ z, k = z + 1 := ⟨k - 1, by omega⟩
    simp only [List.length_cons] at hl hk
    have hr := hB r List.mem_cons_self
    have e0 : rdOf ([] : List Int) (done ++ r :: rs) (done.length : Int) = r := by
      unfold rdOf
      rw [Int.toNat_natCast, List.getD_eq_getElem?_getD, List.getElem?_append_right (Nat.le_refl _)]
      simp
    rw [totSS] at h1
    rw [laws_markIntSS.l0, if_pos (by rw [List.length_append, List.length_cons]; omega), if_pos (by omega), e0, markIntS k r m (by omega) h0 (by omega) (by omega), Option.bind_some, w64 (by omega) (by omega)]
    have e1 : (done ++ r :: rs).set ((done.length : Int)).toNat (run m r.length) = (done ++ [run m r.length]) ++ rs := by
      rw [Int.toNat_natCast, List.set_append_right _ _ (Nat.le_refl _), Nat.sub_self]
      simp
    simp only []
    rw [e1]
    have := markSS_go B hB2 rs (done ++ [run m r.length]) k (m + r.length) (fun x hx => hB x (List.mem_cons_of_mem _ hx)) (by simp only [List.length_append, List.length_singleton]; omega) (by omega) (by omega) (by omega)
    rw [List.length_append, List.length_singleton, show ((done.length + 1 : Nat) : Int) = (done.length : Int) + 1 by omega] at this
    rw [this, totSS, runSS]
    simp only [List.append_assoc, List.singleton_append, Option.some.injEq, Prod.mk.injEq, and_true]
    omega
theorem markSS (k : Nat) (l : List (List Int)) (B : Nat) (hB : ∀ r ∈ l, r.length ≤ B) (hB2 : B ≤ 1000) (hl : l.length ≤ 1000) (hk : l.length + B + 1 ≤ k) : laws_markIntSS.f k l 1 = some (1 + (totSS l : Int), runSS 1 l) := by
  have ht := totSS_le B l hB
  have := Nat.mul_le_mul hl hB2
  exact markSS_go B (by omega) l [] k 1 hB (by simpa using (by omega : l.length ≤ 1000000)) (by omega) (by omega) hk
theorem heldSS_go (B : Nat) (hB2 : B ≤ 1000000) : ∀ (rs done : List (List Int)) (k : Nat) (m : Int), (∀ r ∈ rs, r.length ≤ B) → done.length + rs.length ≤ 1000000 → 0 ≤ m → m + (totSS rs : Int) ≤ 100000000000 → rs.length + B + 1 ≤ k →
    laws_heldIntSS.l0 k (done ++ runSS m rs) m (done.length : Int) = some (m + (totSS rs : Int))
  | [], done, k, m, _, _, _, _, hk => by
    obtain ⟨k, rfl⟩ : ∃ z, k = z + 1 := ⟨k - 1, by omega⟩
    rw [laws_heldIntSS.l0, if_neg (by simp [runSS])]
    simp [totSS]
  | r :: rs, done, k, m, hB, hl, h0, h1, hk => by
    obtain ⟨k, rfl⟩ : ∃ z, k = z + 1 := ⟨k - 1, by omega⟩
    simp only [List.length_cons] at hl hk
    have hr := hB r List.mem_cons_self
    have e0 : rd_L1 (done ++ runSS m (r :: rs)) (done.length : Int) = run m r.length := by
      unfold rd_L1
      rw [Int.toNat_natCast, List.getD_eq_getElem?_getD, List.getElem?_append_right (Nat.le_refl _)]
      simp [runSS]
    rw [totSS] at h1
    rw [laws_heldIntSS.l0, if_pos (by rw [List.length_append, runSS_length, List.length_cons]; omega), if_pos (by omega), e0, heldIntS k r.length m (by omega) h0 (by omega) (by omega), Option.bind_some, if_neg (by omega), w64 (by omega) (by omega)]
    have := heldSS_go B hB2 rs (done ++ [run m r.length]) k (m + r.length) (fun x hx => hB x (List.mem_cons_of_mem _ hx)) (by simp only [List.length_append, List.length_singleton]; omega) (by omega) (by omega) (by omega)
    rw [List.length_append, List.length_singleton, show ((done.length + 1 : Nat) : Int) = (done.length : Int) + 1 by omega, List.append_assoc, List.singleton_append] at this
    rw [runSS, this, totSS, Option.some.injEq]
    omega
theorem heldSS (k : Nat) (l : List (List Int)) (B : Nat) (hB : ∀ r ∈ l, r.length ≤ B) (hB2 : B ≤ 1000) (hl : l.length ≤ 1000) (hk : l.length + B + 1 ≤ k) : laws_heldIntSS.f k (runSS 1 l) 1 = some (1 + (totSS l : Int)) := by
  have ht := totSS_le B l hB
  have := Nat.mul_le_mul hl hB2
  exact heldSS_go B (by omega) l [] k 1 hB (by simpa using (by omega : l.length ≤ 1000000)) (by omega) (by omega) hk
end Go.Proofs.Ytkkjlbpffcdlfaa.L
