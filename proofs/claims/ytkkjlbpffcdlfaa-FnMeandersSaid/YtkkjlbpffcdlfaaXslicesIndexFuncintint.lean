-- Written by a program of this session (xprint.py), out of the translation and of hand-written contracts. Lean checks it.
import Derived.Test.YtkkjlbpffcdlfaaX0
namespace Go.Proofs.Ytkkjlbpffcdlfaa.X
open Go.RowKit Go.Proofs.YtkkjlbpffcdlfaaW.PrintWords Go.Proofs.YtkkjlbpffcdlfaaW.PrintLast Go.Proofs.YtkkjlbpffcdlfaaW.PrintMore
attribute [local go_sem] max2_int min2_int max_two min_two max_three min_three max_four min_four   -- for this text's walks alone
set_option linter.unusedVariables false
set_option linter.unusedSimpArgs false

/-! ### slices_IndexFunc_int_int: function 75 (by hand) -/
def rdS (xs : List (List Int)) (i : Int) : List Int := xs.getD i.toNat []
theorem rdS_get (l : List (List Int)) (i : Int) (h0 : 0 ≤ i) (h1 : i < (l.length : Int)) : l[i.toNat]? = some (rdS l i) := by
 unfold rdS
 rw [List.getD_eq_getElem?_getD, List.getElem?_eq_getElem (show i.toNat < l.length by omega)]
 rfl
theorem rdS_mem (l : List (List Int)) (i : Int) (h0 : 0 ≤ i) (h1 : i < (l.length : Int)) : rdS l i ∈ l := List.mem_of_getElem? (rdS_get l i h0 h1)
def idxS (p : List Int → Bool) (l : List (List Int)) : Int := match l.findIdx? p with | some i => (i : Int) | none => -1
theorem idxS_hit (p : List Int → Bool) (l : List (List Int)) (i : Int) (h0 : 0 ≤ i) (h1 : i < (l.length : Int)) (hp : p (rdS l i) = true) (hn : ∀ j : Int, 0 ≤ j → j < i → p (rdS l j) = false) : idxS p l = i := by
 obtain ⟨n, rfl⟩ := Int.eq_ofNat_of_zero_le h0
 have hn' : n < l.length := by omega
 have e : l.findIdx? p = some n := by
  rw [List.findIdx?_eq_some_iff_getElem]
  refine ⟨hn', ?_, fun j hj => ?_⟩
  ·have : rdS l (n : Int) = l[n] := by simp [rdS, List.getD_eq_getElem?_getD, hn']
   rw [← this]; exact hp
  ·have := hn j (by omega) (by omega)
   have e2 : rdS l (j : Int) = l[j] := by simp [rdS, List.getD_eq_getElem?_getD, show j < l.length by omega]
   rw [e2] at this
   simp [this]
 unfold idxS
 rw [e]
theorem idxS_miss (p : List Int → Bool) (l : List (List Int)) (hn : ∀ j : Int, 0 ≤ j → j < (l.length : Int) → p (rdS l j) = false) : idxS p l = -1 := by
 have e : l.findIdx? p = none := by
  rw [List.findIdx?_eq_none_iff]
  intro x hx
  obtain ⟨j, hj, rfl⟩ := List.getElem_of_mem hx
  have := hn j (by omega) (by omega)
  have e2 : rdS l (j : Int) = l[j] := by simp [rdS, List.getD_eq_getElem?_getD, hj]
  rw [e2] at this
  exact this
 unfold idxS
 rw [e]
theorem idxS_nonneg (p : List Int → Bool) (l : List (List Int)) : decide (0 ≤ idxS p l) = l.any p := by
 unfold idxS
 cases e : l.findIdx? p with
 | none =>
  rw [List.findIdx?_eq_none_iff] at e
  have : l.any p = false := by rw [List.any_eq_false]; intro x hx; rw [e x hx]; simp
  rw [this]; rfl
 | some i =>
  rw [List.findIdx?_eq_some_iff_getElem] at e
  obtain ⟨h, hp, _⟩ := e
  have : l.any p = true := by rw [List.any_eq_true]; exact ⟨_, List.getElem_mem h, hp⟩
  rw [this]; simp
theorem at_rowS {e : Nat} {w : World} {A : Option Addr} {l : List (List Int)} (h : Kd.C (Kd.slice e (Kd.int .i64)) w A l.length l) (i : Int) (h0 : 0 ≤ i) (h1 : i < (l.length : Int)) :
  ∃ ad A1 c1, A = some ad ∧ w.cell? (ad.add i.toNat) = some (.slice A1 (rdS l i).length c1) ∧ (rdS l i).length ≤ c1 ∧ Kd.C (Kd.int .i64) w A1 (rdS l i).length (rdS l i) := by
 obtain ⟨ad, he, hcell⟩ := h.2.2 (by omega)
 obtain ⟨c, hcl, hp, hcc⟩ := hcell i.toNat _ (rdS_get l i h0 h1)
 obtain ⟨A1, c1, rfl, hl, hC⟩ := hp
 refine ⟨ad, A1, c1, he, ?_, hl, hC⟩
 have := hcc 0 _ rfl
 rwa [Nat.add_zero, show (Kd.slice e (Kd.int .i64)).sz = 1 from rfl, Nat.mul_one] at this
set_option maxHeartbeats 2000000 in
theorem slices_IndexFuncS.gen (p : List Int → Bool) (g : Nat) (lb : Array Value) (eg : ∀ args w, (callFunc g args).run Try.prog w = .ok (.enter g args) w)
  (A0 : Option Addr) (c0 : Nat) (l0 : List (List Int)) (w : World) (hr0 : Kd.C (Kd.slice 3 (Kd.int .i64)) w A0 l0.length l0)
  (hp : ∀ (W : World) (x : List Int) (A1 : Option Addr) (c1 : Nat), Below w.heap.size w W → x ∈ l0 → x.length ≤ c1 → Kd.C (Kd.int .i64) W A1 x.length x → Calls Try.prog g (#[.slice A1 x.length c1] ++ lb) W fun e w' => e = .returned (.bool (p x)) ∧ Below w.heap.size w w') :
  Calls Try.prog 75 #[.slice A0 l0.length c0, .func (.func g) #[] lb] w fun e w' => e = .returned (.int .i64 (idxS p l0)) ∧ Below w.heap.size w w' := by
 have HR := Aside0.mk hr0
 have HP := Aside0.mk hp
 have HB0 := Aside0.mk (Below.refl w.heap.size w)
 have hmx := Kd.C_max hr0
 clear hr0 hp
 go_enter Try.func75, Try.ntmps75
 go_wp2
 go_loopg [5, 8] l0.length (fun gg _ s8 wr => ∃ i : Int, s8 = .int .i64 i ∧ Aside0 (0 ≤ i) ∧ Aside0 (i ≤ (l0.length : Int)) ∧ Aside0 ((l0.length : Int) - i ≤ gg) ∧ Aside0 (Below w.heap.size w wr) ∧ Aside0 (∀ j : Int, 0 ≤ j → j < i → p (rdS l0 j) = false))
 case atStart => exact ⟨0, rfl, ⟨by omega⟩, ⟨by omega⟩, ⟨by omega⟩, HB0, ⟨fun j h0 h1 => by omega⟩⟩
 case round =>
  obtain ⟨i, rfl, ⟨h0⟩, ⟨h1⟩, ⟨hg⟩, HB, HN⟩ := hrel
  by_cases hlt : i < (l0.length : Int)
  ·have c1 : decide (i < (l0.length : Int)) = true := decide_eq_true hlt
   obtain ⟨ad, A1, cc, e, hx, hle, hC⟩ := at_rowS HR.out i h0 hlt
   cases e
   replace hx := (HB.out.cell (World.block_lt_of_cell? w _ hx)).trans hx
   have hcall := HP.out wr (rdS l0 i) A1 cc HB.out (rdS_mem l0 i h0 hlt) hle (Kd.C_below hC HB.out)
   clear hle hC
   have hw : wrap64 (i + 1) = i + 1 := by unfold wrap64; omega
   have HW := Aside0.mk hw
   have H0 := Aside0.mk h0
   have HLT := Aside0.mk hlt
   have HG := Aside0.mk hg
   have p0 := eq_true h0
   have p1 := eq_true hlt
   clear hw h0 hlt h1 hg
   cases hq : p (rdS l0 i) with
   | true =>
    have HQ := Aside0.mk hq
    rw [hq] at hcall
    clear hq
    go_wp2_with (go_at_fn g; refine hcall.mono ?_; rintro e w' ⟨rfl, hb'⟩)
    go_ret
    exact ⟨by rw [idxS_hit p l0 i H0.out HLT.out HQ.out HN.out]; rfl, hb'⟩
   | false =>
    have HQ := Aside0.mk hq
    rw [hq] at hcall
    clear hq
    go_wp2_with (go_at_fn g; refine hcall.mono ?_; rintro e w' ⟨rfl, hb'⟩)
    go_roundg ((l0.length : Int) - (i + 1)).toNat
    case measure => have := HG.out; have := HLT.out; omega
    case rel =>
     have h0 := H0.out
     have h1 := HLT.out
     refine ⟨i + 1, by rw [HW.out], ⟨by omega⟩, ⟨by omega⟩, ⟨by omega⟩, ⟨hb'⟩, ⟨fun j hj0 hj1 => ?_⟩⟩
     by_cases e : j = i
     ·subst e; exact HQ.out
     ·exact HN.out j hj0 (by omega)
  ·have c1 : decide (i < (l0.length : Int)) = false := decide_eq_false hlt
   have HE : Aside0 (i = (l0.length : Int)) := ⟨by omega⟩
   clear hlt h1 hg h0
   go_wp2
   go_ret
   exact ⟨by rw [idxS_miss p l0 (fun j h0 h1 => HN.out j h0 (by rw [HE.out]; exact h1))]; rfl, HB.out⟩

end Go.Proofs.Ytkkjlbpffcdlfaa.X
