-- Written by a program of this session (xprint.py), out of the translation and of hand-written contracts. Lean checks it.
import Derived.Test.YtgnnkjgfkdaddaaDoorX0
namespace Go.Proofs.YtgnnkjgfkdaddaaDoor.X
open Go.RowKit Go.Proofs.YtgnnkjgfkdaddaaDoorW.PrintWords Go.Proofs.YtgnnkjgfkdaddaaDoorW.PrintLast Go.Proofs.YtgnnkjgfkdaddaaDoorW.PrintMore
attribute [local go_sem] max2_int min2_int max_two min_two max_three min_three max_four min_four   -- for this text's walks alone
set_option linter.unusedVariables false
set_option linter.unusedSimpArgs false

/-! ### slices_IndexFunc_int_int: function 51 (by hand) -/
def idxF (p : Int → Bool) (l : List Int) : Int := match l.findIdx? p with | some i => (i : Int) | none => -1
theorem idxF_hit (p : Int → Bool) (l : List Int) (i : Int) (h0 : 0 ≤ i) (h1 : i < (l.length : Int)) (hp : p (rd l i) = true) (hn : ∀ j : Int, 0 ≤ j → j < i → p (rd l j) = false) : idxF p l = i := by
 obtain ⟨n, rfl⟩ := Int.eq_ofNat_of_zero_le h0
 have hn' : n < l.length := by omega
 have e : l.findIdx? p = some n := by
  rw [List.findIdx?_eq_some_iff_getElem]
  refine ⟨hn', ?_, fun j hj => ?_⟩
  ·have : rd l (n : Int) = l[n] := by simp [rd, List.getD_eq_getElem?_getD, hn']
   rw [← this]; exact hp
  ·have := hn j (by omega) (by omega)
   have e2 : rd l (j : Int) = l[j] := by simp [rd, List.getD_eq_getElem?_getD, show j < l.length by omega]
   rw [e2] at this
   simp [this]
 unfold idxF
 rw [e]
theorem idxF_miss (p : Int → Bool) (l : List Int) (hn : ∀ j : Int, 0 ≤ j → j < (l.length : Int) → p (rd l j) = false) : idxF p l = -1 := by
 have e : l.findIdx? p = none := by
  rw [List.findIdx?_eq_none_iff]
  intro x hx
  obtain ⟨j, hj, rfl⟩ := List.getElem_of_mem hx
  have := hn j (by omega) (by omega)
  have e2 : rd l (j : Int) = l[j] := by simp [rd, List.getD_eq_getElem?_getD, hj]
  rw [e2] at this
  exact this
 unfold idxF
 rw [e]
theorem idxF_nonneg (p : Int → Bool) (l : List Int) : decide (0 ≤ idxF p l) = l.any p := by
 unfold idxF
 cases e : l.findIdx? p with
 | none =>
  rw [List.findIdx?_eq_none_iff] at e
  have : l.any p = false := by rw [List.any_eq_false]; intro x hx; rw [e x hx]; simp
  rw [this]; rfl
 | some i =>
  rw [List.findIdx?_eq_some_iff_getElem] at e
  obtain ⟨h, hp, _⟩ := e
  have : l.any p = true := by rw [List.any_eq_true]; exact ⟨_, List.getElem_mem h, hp⟩
  rw [this]; simp
theorem rd_mem (l : List Int) (i : Int) (h0 : 0 ≤ i) (h1 : i < (l.length : Int)) : rd l i ∈ l := by
 unfold rd
 rw [List.getD_eq_getElem?_getD, List.getElem?_eq_getElem (show i.toNat < l.length by omega)]
 exact List.getElem_mem _
set_option maxHeartbeats 2000000 in
theorem slices_IndexFunc.gen (p : Int → Bool) (g : Nat) (lb : Array Value) (eg : ∀ args w, (callFunc g args).run Tryd.prog w = .ok (.enter g args) w)
  (A0 : Option Addr) (c0 : Nat) (l0 : List Int) (w : World) (hr0 : Kd.C (Kd.int .i64) w A0 l0.length l0)
  (hp : ∀ (W : World) (x : Int), Below w.heap.size w W → x ∈ l0 → Calls Tryd.prog g (#[.int .i64 x] ++ lb) W fun e w' => e = .returned (.bool (p x)) ∧ Below w.heap.size w w') :
  Calls Tryd.prog 51 #[.slice A0 l0.length c0, .func (.func g) #[] lb] w fun e w' => e = .returned (.int .i64 (idxF p l0)) ∧ Below w.heap.size w w' := by
 have HR := Aside0.mk hr0
 have HP := Aside0.mk hp
 have HB0 := Aside0.mk (Below.refl w.heap.size w)
 have hmx := Kd.C_max hr0
 clear hr0 hp
 go_enter Tryd.func51, Tryd.ntmps51
 go_wp2
 go_loopg [5, 8] l0.length (fun gg _ s8 wr => ∃ i : Int, s8 = .int .i64 i ∧ Aside0 (0 ≤ i) ∧ Aside0 (i ≤ (l0.length : Int)) ∧ Aside0 ((l0.length : Int) - i ≤ gg) ∧ Aside0 (Below w.heap.size w wr) ∧ Aside0 (∀ j : Int, 0 ≤ j → j < i → p (rd l0 j) = false))
 case atStart => exact ⟨0, rfl, ⟨by omega⟩, ⟨by omega⟩, ⟨by omega⟩, HB0, ⟨fun j h0 h1 => by omega⟩⟩
 case round =>
  obtain ⟨i, rfl, ⟨h0⟩, ⟨h1⟩, ⟨hg⟩, HB, HN⟩ := hrel
  by_cases hlt : i < (l0.length : Int)
  ·have c1 : decide (i < (l0.length : Int)) = true := decide_eq_true hlt
   obtain ⟨ad, e, hx⟩ := Kd.at_int HR.out i h0 hlt
   cases e
   replace hx := (HB.out.cell (World.block_lt_of_cell? w _ hx)).trans hx
   have hcall := HP.out wr (rd l0 i) HB.out (rd_mem l0 i h0 hlt)
   have hw : wrap64 (i + 1) = i + 1 := by unfold wrap64; omega
   have HW := Aside0.mk hw
   have H0 := Aside0.mk h0
   have HLT := Aside0.mk hlt
   have HG := Aside0.mk hg
   have p0 := eq_true h0
   have p1 := eq_true hlt
   clear hw h0 hlt h1 hg
   cases hq : p (rd l0 i) with
   | true =>
    have HQ := Aside0.mk hq
    rw [hq] at hcall
    clear hq
    go_wp2_with (go_at_fn g; refine hcall.mono ?_; rintro e w' ⟨rfl, hb'⟩)
    go_ret
    exact ⟨by rw [idxF_hit p l0 i H0.out HLT.out HQ.out HN.out]; rfl, hb'⟩
   | false =>
    have HQ := Aside0.mk hq
    rw [hq] at hcall
    clear hq
    go_wp2_with (go_at_fn g; refine hcall.mono ?_; rintro e w' ⟨rfl, hb'⟩)
    go_roundg ((l0.length : Int) - (i + 1)).toNat
    case measure => have := HG.out; have := HLT.out; omega
    case rel =>
     have h0 := H0.out
     have h1 := HLT.out
     refine ⟨i + 1, by rw [HW.out], ⟨by omega⟩, ⟨by omega⟩, ⟨by omega⟩, ⟨hb'⟩, ⟨fun j hj0 hj1 => ?_⟩⟩
     by_cases e : j = i
     ·subst e; exact HQ.out
     ·exact HN.out j hj0 (by omega)
  ·have c1 : decide (i < (l0.length : Int)) = false := decide_eq_false hlt
   have HE : Aside0 (i = (l0.length : Int)) := ⟨by omega⟩
   clear hlt h1 hg h0
   go_wp2
   go_ret
   exact ⟨by rw [idxF_miss p l0 (fun j h0 h1 => HN.out j h0 (by rw [HE.out]; exact h1))]; rfl, HB.out⟩

/-! ### slices_ContainsFunc_int_int: function 40 (by hand) -/
set_option maxHeartbeats 1000000 in
theorem slices_ContainsFunc.gen (p : Int → Bool) (g : Nat) (lb : Array Value) (eg : ∀ args w, (callFunc g args).run Tryd.prog w = .ok (.enter g args) w)
  (A0 : Option Addr) (c0 : Nat) (l0 : List Int) (w : World) (hr0 : Kd.C (Kd.int .i64) w A0 l0.length l0)
  (hp : ∀ (W : World) (x : Int), Below w.heap.size w W → x ∈ l0 → Calls Tryd.prog g (#[.int .i64 x] ++ lb) W fun e w' => e = .returned (.bool (p x)) ∧ Below w.heap.size w w') :
  Calls Tryd.prog 40 #[.slice A0 l0.length c0, .func (.func g) #[] lb] w fun e w' => e = .returned (.bool (l0.any p)) ∧ Below w.heap.size w w' := by
 have HR := Aside0.mk hr0
 have HP := Aside0.mk hp
 clear hr0 hp
 rw [show l0.any p = decide (0 ≤ idxF p l0) from (idxF_nonneg p l0).symm]
 go_enter Tryd.func40, Tryd.ntmps40
 go_wp2_with (go_at_call 51; refine (slices_IndexFunc.gen p g lb eg A0 c0 l0 _ HR.out HP.out).mono ?_; rintro e w' ⟨rfl, hb⟩)
 go_ret
 exact ⟨rfl, hb⟩

end Go.Proofs.YtgnnkjgfkdaddaaDoor.X
