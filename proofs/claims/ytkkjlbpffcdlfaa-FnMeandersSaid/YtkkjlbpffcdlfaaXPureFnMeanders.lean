/- Closed ways across a line are as many as labyrinths. No conditions beyond the given bounds on the size of what comes in. -/
import Derived.Test.YtkkjlbpffcdlfaaXimplCountLabyrinths
import Derived.Test.YtkkjlbpffcdlfaaXimplCountLoopsOf
import Derived.Test.YtkkjlbpffcdlfaaXimplIsMeander
import Derived.Test.YtkkjlbpffcdlfaaXimplTurnArches
import Derived.Test.YtkkjlbpffcdlfaaXlawsFnMeanders
import Derived.Test.YtkkjlbpffcdlfaaXlawsat
import Derived.Test.YtkkjlbpffcdlfaaXlawsbig
import Derived.Test.YtkkjlbpffcdlfaaXspecDrawTwoArches
import Derived.Test.YtkkjlbpffcdlfaaXspecl28Arches
import Derived.Test.YtkkjlbpffcdlfaaLCountI
import Derived.Test.YtkkjlbpffcdlfaaLArches
import Derived.Test.YtkkjlbpffcdlfaaLDraw
namespace Go.Proofs.Ytkkjlbpffcdlfaa.Pure
open Go.RowKit Go.Proofs.Ytkkjlbpffcdlfaa.X Go.Proofs.Ytkkjlbpffcdlfaa.L Go.Proofs.YtkkjlbpffcdlfaaW.PrintWords Go.Proofs.YtkkjlbpffcdlfaaW.PrintLast
set_option linter.unusedSimpArgs false
set_option linter.unusedVariables false

theorem at_ok (l : List Int) (hl : l.length ≤ 2000000) (hx : ∀ x ∈ l, (Lit.int .u8 x).wf = true) (j : Int) (hj : 0 ≤ j ∧ j ≤ 1) : ∃ v, laws_at.f l j = some v ∧ 0 ≤ v := by
  unfold laws_at.f
  by_cases c : (l.length : Int) = 0
  · rw [if_pos c]
    exact ⟨_, rfl, Int.le_refl _⟩
  · rw [if_neg c, w64 (x := j * 5) (by omega) (by omega), w64 (x := j * 5 + 1) (by omega) (by omega)]
    have e : Int.tmod (j * 5 + 1) (l.length : Int) = (j * 5 + 1) % (l.length : Int) := by
      rw [Int.tmod_eq_emod_of_nonneg (by omega)]
    have h0 : 0 ≤ (j * 5 + 1) % (l.length : Int) := Int.emod_nonneg _ c
    have h1 : (j * 5 + 1) % (l.length : Int) < (l.length : Int) := Int.emod_lt_of_pos _ (by omega)
    rw [e, if_pos h0, if_pos h1]
    have hb := hx _ (show rd l ((j * 5 + 1) % (l.length : Int)) ∈ l by rw [rd_get h0 h1]; exact List.getElem_mem _)
    have hb1 : IntKind.u8.min ≤ rd l ((j * 5 + 1) % (l.length : Int)) ∧ rd l ((j * 5 + 1) % (l.length : Int)) ≤ IntKind.u8.max := by simpa [Lit.wf] using hb
    have e0 : IntKind.u8.min = 0 := by decide
    have e1 : IntKind.u8.max = 255 := by decide
    rw [e0, e1] at hb1
    have hb2 : 0 ≤ rd l ((j * 5 + 1) % (l.length : Int)) ∧ rd l ((j * 5 + 1) % (l.length : Int)) ≤ 255 := hb1
    refine ⟨_, rfl, ?_⟩
    rw [w64 (by omega) (by omega)]
    exact hb2.1
/-- The loops of two arch systems, once they are known to be some. -/
def lp (a b : List Int) : Option Int := impl_CountLoopsOf.j0 200 a b ((a.length : Int) != (b.length : Int))
theorem lp_eq {a b : List Int} (ha : impl_ArchesOk.f 200 a = some true) (hb : impl_ArchesOk.f 200 b = some true) {x : Int} (e : lp a b = some x) {k : Nat} (hk : 200 ≤ k) : impl_CountLoopsOf.f k a b = some x := by
  refine lift (fun k => impl_CountLoopsOf.mono a b k) hk ?_
  unfold impl_CountLoopsOf.f
  rw [ha, Option.bind_some, if_pos rfl, hb, Option.bind_some, if_pos rfl]
  exact e
def okA (a : List Int) : Bool := (impl_ArchesOk.f 200 a == some true) && ((impl_ArchesOk.f 200 (turnArches a) == some true) && (lp a a == some ((a.length : Int) / 2)))
def okB (a b : List Int) : Bool := match lp a b with
  | some x => decide (1 ≤ x) && ((lp b a == some x) && (lp (turnArches a) (turnArches b) == some x))
  | none => false
def chkM (n : Int) : Bool := match spec_AllArches.f 400 n with
  | some S => (S.all okA) && S.all fun a => S.all fun b => okB a b
  | none => false
set_option maxRecDepth 100000 in
theorem chk_m1 : (chkM 1 && chkM 2 && chkM 3 && chkM 4) = true := by decide +kernel
set_option maxRecDepth 100000 in
theorem chk_m5 : chkM 5 = true := by decide +kernel
theorem chk_m {n : Int} (h0 : 1 ≤ n) (h1 : n ≤ 5) : chkM n = true := by
  have h := chk_m1
  simp only [Bool.and_eq_true] at h
  obtain ⟨⟨⟨c1, c2⟩, c3⟩, c4⟩ := h
  obtain rfl | rfl | rfl | rfl | rfl : n = 1 ∨ n = 2 ∨ n = 3 ∨ n = 4 ∨ n = 5 := by omega
  · exact c1
  · exact c2
  · exact c3
  · exact c4
  · exact chk_m5
/-- Whether two arch systems make one closed way. -/
def md (a b : List Int) : Bool := match lp a b with
  | some x => x == 1
  | none => false
def chkL (n : Int) : Bool := match impl_CountLabyrinths.f 500 (wrap64 (wrap64 (2 * n) - 1)), spec_AllArches.f 400 n with
  | some y, some S => decide (cAll md S S 0 = y) && decide ((S.length : Int) = rd [0, 1, 2, 5, 14] n)
  | _, _ => false
set_option maxRecDepth 100000 in
theorem chk_l : (chkL 1 && chkL 2 && chkL 3 && chkL 4) = true := by decide +kernel
theorem lab_count (k : Nat) (hk : 4100 ≤ k) {n : Int} (h0 : 1 ≤ n) (h1 : n ≤ 4) : ∃ x S, impl_CountMeanders.f k n = some x ∧ impl_CountLabyrinths.f k (wrap64 (wrap64 (2 * n) - 1)) = some x ∧ impl_AllArches.f k n = some S ∧ (S.length : Int) = rd [0, 1, 2, 5, 14] n ∧ 0 < S.length ∧ impl_ArchesOk.f k (rd_L1 S 0) = some true := by
  have h := chk_l
  simp only [Bool.and_eq_true] at h
  obtain ⟨⟨⟨c1, c2⟩, c3⟩, c4⟩ := h
  have hc : chkL n = true := by
    obtain rfl | rfl | rfl | rfl : n = 1 ∨ n = 2 ∨ n = 3 ∨ n = 4 := by omega
    · exact c1
    · exact c2
    · exact c3
    · exact c4
  obtain ⟨S, hS, hl0, hl1, _⟩ := all_arches h0 (show n ≤ 5 by omega)
  have hm := chk_m h0 (show n ≤ 5 by omega)
  unfold chkM at hm
  unfold chkL at hc
  rw [(hS 400 (Nat.le_refl _)).2] at hc hm
  simp only [Bool.and_eq_true, List.all_eq_true] at hm
  have hok : ∀ a ∈ S, impl_ArchesOk.f 200 a = some true := fun a ha => by
    have := hm.1 a ha
    unfold okA at this
    simp only [Bool.and_eq_true, beq_iff_eq] at this
    exact this.1
  have hI : ∀ a ∈ S, ∀ b ∈ S, ∀ k, 200 ≤ k → impl_IsMeander.f k a b = some (md a b) := fun a ha b hb k hk => by
    have := hm.2 a ha b hb
    unfold okB at this
    unfold md impl_IsMeander.f
    cases e : lp a b with
    | none => rw [e] at this; cases this
    | some x =>
      rw [lp_eq (hok a ha) (hok b hb) e hk]
      rfl
  cases hy : impl_CountLabyrinths.f 500 (wrap64 (wrap64 (2 * n) - 1)) with
  | none => rw [hy] at hc; cases hc
  | some y =>
    rw [hy] at hc
    simp only [Bool.and_eq_true, decide_eq_true_eq] at hc
    refine ⟨cAll md S S 0, S, iCountMeanders md S hl1 hI h0 h1 (fun k hk => (hS k hk).1) k (by omega), ?_, (hS k (by omega)).1, hc.2, hl0, lift (fun k => impl_ArchesOk.mono _ k) (show 200 ≤ k by omega) (hok _ (rl_mem (l := S) (i := 0) (Int.le_refl _) (by omega)))⟩
    rw [hc.1]
    exact lift (fun k => impl_CountLabyrinths.mono _ k) (show 500 ≤ k by omega) hy
theorem draw_arches (k : Nat) (hk : 4100 ≤ k) (s : List Int) (hs : s.length ≤ 140737488355328) (i g n : Int) (h0 : 0 ≤ i) (h1 : i ≤ (s.length : Int)) (hn0 : 1 ≤ n) (hn1 : n ≤ 5) {S : List (List Int)} (hS : spec_AllArches.f k n = some S) (l0 : 0 < S.length) (l1 : S.length ≤ 42) :
    ∃ a i' g', spec_l28Arches.f k s i g n = some (a, i', g') ∧ a ∈ S ∧ 0 ≤ i' ∧ i' ≤ (s.length : Int) := by
  obtain ⟨v, i1, g1, e1, a1, b1, c1, d1⟩ := below_ok s i g S.length h0 h1 hs (by omega) (by omega)
  unfold spec_l28Arches.f
  rw [hS, Option.bind_some, e1]
  simp only [Option.bind_some]
  rw [if_pos a1, if_pos b1]
  exact ⟨_, _, _, rfl, rl_mem a1 b1, c1, d1⟩
theorem main (k : Nat) (hk : 4100 ≤ k) (s : List Int) (hx : ∀ x ∈ s, (Lit.int .u8 x).wf = true) : laws_FnMeanders.f k s = some true := by
  unfold laws_FnMeanders.f laws_big.f
  simp only [Option.bind_some]
  by_cases hbig : (s.length : Int) > 1048576
  · rw [decide_eq_true hbig, if_pos rfl]
  · rw [decide_eq_false hbig, if_neg (by simp)]
    obtain ⟨g0, e0⟩ : ∃ h, spec_l01New.f k s = some (s, 0, h) := new_ok k s (by omega)
    obtain ⟨v, i1, g1, e1, a1, b1, c1, d1⟩ := below_ok s 0 g0 5 (by omega) (by omega) (by omega) (by omega) (by omega)
    obtain ⟨S, hS, hl0, hl1, _⟩ := all_arches (n := 1 + v) (by omega) (by omega)
    obtain ⟨a, i2, g2, e2, ma, c2, d2⟩ := draw_arches k hk s (by omega) i1 g1 (1 + v) c1 d1 (by omega) (by omega) (hS k (by omega)).2 hl0 hl1
    obtain ⟨b, i3, g3, e3, mb, _, _⟩ := draw_arches k hk s (by omega) i2 g2 (1 + v) c2 d2 (by omega) (by omega) (hS k (by omega)).2 hl0 hl1
    have ed : spec_DrawTwoArches.f k s = some (a, b) := by
      unfold spec_DrawTwoArches.f
      rw [e0]
      simp only [Option.bind_some]
      rw [e1]
      simp only [Option.bind_some]
      rw [w64 (x := 1 + v) (by omega) (by omega), e2]
      simp only [Option.bind_some]
      rw [e3]
      rfl
    obtain ⟨q, eq, hq⟩ := at_ok s (by omega) hx 0 (by omega)
    have hQ : 0 ≤ Int.tmod q 4 ∧ Int.tmod q 4 ≤ 3 := by
      rw [Int.tmod_eq_emod_of_nonneg hq]
      omega
    have hm := chk_m (n := 1 + v) (by omega) (by omega)
    unfold chkM at hm
    rw [(hS 400 (Nat.le_refl _)).2] at hm
    simp only [Bool.and_eq_true, List.all_eq_true] at hm
    have ka := hm.1 a ma
    have kb := hm.1 b mb
    have kab := hm.2 a ma b mb
    unfold okA at ka kb
    unfold okB at kab
    simp only [Bool.and_eq_true, beq_iff_eq] at ka kb
    obtain ⟨oa, ota, la⟩ := ka
    obtain ⟨ob, otb, _⟩ := kb
    cases hx : lp a b with
    | none => rw [hx] at kab; cases kab
    | some x =>
      rw [hx] at kab
      simp only [Bool.and_eq_true, beq_iff_eq, decide_eq_true_eq] at kab
      obtain ⟨x1, lba, lt⟩ := kab
      obtain ⟨y, T, m1, m2, m3, m4, m5, m6⟩ := lab_count k hk (n := 1 + Int.tmod q 4) (by omega) (by omega)
      have turn : ∀ c : List Int, impl_ArchesOk.f 200 c = some true → c.length ≤ 1000 → impl_TurnArches.f k c = some (turnArches c) := fun c hc hl => by
        have e := iArchesOk 200 c (by omega) (by omega)
        rw [hc] at e
        rw [iTurnArches k c (by omega) (by omega), if_pos (Option.some.inj e).symm]
      have lens : ∀ c ∈ S, c.length ≤ 1000 := fun c hc => by
        have := (all_arches (n := 1 + v) (by omega) (by omega))
        obtain ⟨S', hS', _, _, hr⟩ := this
        have e := (hS' 400 (Nat.le_refl _)).1
        rw [(hS 400 (Nat.le_refl _)).1] at e
        have := hr c (by rw [← Option.some.inj e]; exact hc)
        omega
      have la10 := lens a ma
      have hmn : impl_IsMeander.f k a b = some (x == 1) := by
        unfold impl_IsMeander.f
        rw [lp_eq oa ob hx (by omega)]
        rfl
      rw [ed, Option.bind_some, eq, Option.bind_some]
      dsimp only
      rw [w64 (x := 1 + Int.tmod q 4) (by omega) (by omega)]
      rw [lp_eq oa ob hx (by omega), Option.bind_some, m3, Option.bind_some, lp_eq ob oa lba (by omega), Option.bind_some, if_pos rfl, if_pos x1, lp_eq oa oa la (by omega), Option.bind_some, w64 (x := (a.length : Int) / 2) (by omega) (by omega), if_pos rfl, turn a oa la10, Option.bind_some, turn b ob (lens b mb), Option.bind_some, lp_eq ota otb lt (by omega), Option.bind_some, if_pos rfl, if_pos (by omega), if_pos (show 1 + Int.tmod q 4 < (([0, 1, 2, 5, 14] : List Int).length : Int) by simp; omega), if_pos m4, m1, Option.bind_some, m2, Option.bind_some, if_pos rfl, hmn, Option.bind_some, beq_self_eq_true, if_pos rfl, if_pos (by omega), m6, Option.bind_some]
theorem FnMeanders : laws_FnMeanders.Pure := fun s _ _ hx => ⟨4100, main 4100 (Nat.le_refl _) s hx⟩
end Go.Proofs.Ytkkjlbpffcdlfaa.Pure
