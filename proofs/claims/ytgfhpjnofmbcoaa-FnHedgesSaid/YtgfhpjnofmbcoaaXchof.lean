-- Written by a program of this session (xprint.py), out of the translation and of hand-written contracts. Lean checks it.
import Derived.Test.YtgfhpjnofmbcoaaX0
namespace Go.Proofs.Ytgfhpjnofmbcoaa.X
open Go.RowKit Go.Proofs.YtgfhpjnofmbcoaaW.PrintWords Go.Proofs.YtgfhpjnofmbcoaaW.PrintLast Go.Proofs.YtgfhpjnofmbcoaaW.PrintMore
attribute [local go_sem] max2_int min2_int max_two min_two max_three min_three max_four min_four   -- for this text's walks alone
set_option linter.unusedVariables false
set_option linter.unusedSimpArgs false

/-! ### slices_Clone_int_int: function 32 (by hand) -/
def slices_Clone_int_int.f (l0 : List Int) : Option (List Int) := if l0.length < 17592186044416 then some l0 else none
set_option maxHeartbeats 8000000 in
set_option maxRecDepth 100000 in
theorem slices_Clone_int_int.calls (A0 : Option Addr) (c0 : Nat) (l0 : List Int) (r : List Int) (w : World) (hr0 : Kd.C (Kd.int .i64) w A0 l0.length l0) (hc0 : l0.length ≤ c0) (h : slices_Clone_int_int.f l0 = some r) :
  Calls Try.prog 32 #[.slice A0 l0.length c0] w fun e w' => ∃ v0_ : Value, e = .returned (v0_) ∧ Kd.R (Kd.int .i64) 3 w' w.heap.size (fun _ => True) v0_ r ∧ Below w.heap.size w w' := by
 have HR0 := Aside0.mk hr0
 have HB := Aside0.mk (Below.refl w.heap.size w)
 unfold slices_Clone_int_int.f at h
 by_cases c2 : l0.length < 17592186044416
 ·rw [if_pos c2] at h
  have LMc2 := Aside0.mk c2
  obtain rfl := Option.some.inj h
  clear c2 h
  cases A0 with
  | none =>
   have e0 : l0 = [] := by
    rcases Nat.eq_zero_or_pos l0.length with z | z
    ·exact List.length_eq_zero_iff.mp z
    ·obtain ⟨ad, e, _⟩ := hr0.2.2 z
     cases e
   have E0 := Aside0.mk e0
   clear hr0 hc0 e0
   have hn : ∀ (w : World) (n c : Nat), (binOp .eql 28 (.slice none n c) (.slice none 0 0)).run Try.prog w = .ok (.bool true) w := fun w n c => Go.run_eql_slice_nil w 28 3 none n c Try.underlying28
   go_enter Try.func32, Try.ntmps32
   go_wp2
   go_ret
   exact ⟨_, rfl, by rw [E0.out]; exact Kd.R_nil _ _ _ _ _, HB.out⟩
  | some ad =>
   clear hr0 hc0
   have hn : ∀ (w : World) (a : Addr) (n c : Nat), (binOp .eql 28 (.slice (some a) n c) (.slice none 0 0)).run Try.prog w = .ok (.bool false) w := fun w a n c => Go.run_eql_slice_nil w 28 3 (some a) n c Try.underlying28
   obtain ⟨y735, hy735⟩ : ∃ y_ : List Int, y_ = (([] : List Int)) := ⟨_, rfl⟩
   have Ny735 := Aside0.mk hy735
   obtain ⟨y738, hy738⟩ : ∃ y_ : List Int, y_ = (y735 ++ l0) := ⟨_, rfl⟩
   have Ny738 := Aside0.mk hy738
   have EQ := Aside0.mk (show y738 = l0 by rw [hy738, hy735]; rfl)
   have LZ := Aside0.mk (show y735.length = 0 by rw [hy735]; rfl)
   clear hy735 hy738
   go_enter Try.func32, Try.ntmps32
   go_wp2_with ((with_reducible refine gw_ ?_); first | ((with_reducible refine gate_dst (N := 5) rfl ?_); refine Kd.R_lit (Kd.int .i64) _ 3 ?hg (N := 5) ?hd (xs := ([] : List Int)) (inner := []) (ok := fun _ => True) (okp := fun _ => True) ?hr ?hp (fun _ hk => hk) trivial (Below.refl _ _) (Nat.le_refl _) (by simp) ?_; (case hd => rfl); (case hg => rfl); (case hr => first | (go_simp; done) | (go_simp; rfl)); (case hp => exact (Reps.none _ _)); intro v736 w3 ho4 hb hg_ hnew_; clear hg_ hnew_; (first | rw [← Ny735.out] at ho4 | (simp only [Int.reduceToNat] at ho4; rw [← Ny735.out] at ho4)); have HO737 := Aside0.mk (Kd.R_lower ho4 (below_size (hb0_ HB.out))); replace HB := HB.s0 hb; clear hb ho4) | ((with_reducible refine gate_builtin (b := .append) (xs := #[.tmp 5, .tmp 6]) rfl ?_); at_builtin; refine Kd.R_append_rows (Kd.int .i64) (w0 := w) w.heap.size rfl (.tmp 5) (.tmp 6) 28 3 (.int .i64 0) 8 rfl Try.underlying28 info3 rfl (by decide) (by omega) v736 y735 l0 _ _ _ (fun _ => True) (fun _ => False) rfl rfl ?aO ?aR (fun _ _ h => h) (fun _ h => h.elim) ?aF ?aB ?aS ?aL ?_; (case aR => repeat (first | exact (Kd.C_below HR0.out HB.out) | (with_reducible refine Kd.C_alloc ?_ _) | (with_reducible refine Kd.C_drewN ?_ _) | (with_reducible refine Kd.C_drew ?_))); (case aB => exact (hb0_ HB.out)); (case aF => exact (fun _ _ => trivial)); (case aO => exact (kr_ HO737.out)); (case aS => exact (below_size (hb0_ HB.out))); (case aL => have := LMc2.out; have := LZ.out; omega); intro v739 w5 ho hb hg hat; rw [← Ny738.out] at ho; replace HB := Aside0.mk (hb); have HO740 := Aside0.mk (ho); clear HO737; clear ho hb hg hat))
   go_ret
   exact ⟨_, rfl, by rw [← EQ.out]; (with_reducible repeat (first | apply Kd.R_alloc | apply Kd.R_drewN | apply Kd.R_drew)); exact HO740.out, HB.out⟩
 ·rw [if_neg c2] at h
  exact absurd h (by simp)

/-! ### slices_IndexFunc_int_int: function 47 (by hand) -/
def idxF (p : Int → Bool) (l : List Int) : Int := match l.findIdx? p with | some i => (i : Int) | none => -1
theorem idxF_hit (p : Int → Bool) (l : List Int) (i : Int) (h0 : 0 ≤ i) (h1 : i < (l.length : Int)) (hp : p (rd l i) = true) (hn : ∀ j : Int, 0 ≤ j → j < i → p (rd l j) = false) : idxF p l = i := by
 obtain ⟨n, rfl⟩ := Int.eq_ofNat_of_zero_le h0
 have hn' : n < l.length := by omega
 have e : l.findIdx? p = some n := by
  rw [List.findIdx?_eq_some_iff_getElem]
  refine ⟨hn', ?_, fun j hj => ?_⟩
  ·have : rd l (n : Int) = l[n] := by simp [rd, List.getD_eq_getElem?_getD, hn']
   rw [← this]; exact hp
  ·have := hn j (by omega) (by omega)
   have e2 : rd l (j : Int) = l[j] := by simp [rd, List.getD_eq_getElem?_getD, show j < l.length by omega]
   rw [e2] at this
   simp [this]
 unfold idxF
 rw [e]
theorem idxF_miss (p : Int → Bool) (l : List Int) (hn : ∀ j : Int, 0 ≤ j → j < (l.length : Int) → p (rd l j) = false) : idxF p l = -1 := by
 have e : l.findIdx? p = none := by
  rw [List.findIdx?_eq_none_iff]
  intro x hx
  obtain ⟨j, hj, rfl⟩ := List.getElem_of_mem hx
  have := hn j (by omega) (by omega)
  have e2 : rd l (j : Int) = l[j] := by simp [rd, List.getD_eq_getElem?_getD, hj]
  rw [e2] at this
  exact this
 unfold idxF
 rw [e]
theorem idxF_nonneg (p : Int → Bool) (l : List Int) : decide (0 ≤ idxF p l) = l.any p := by
 unfold idxF
 cases e : l.findIdx? p with
 | none =>
  rw [List.findIdx?_eq_none_iff] at e
  have : l.any p = false := by rw [List.any_eq_false]; intro x hx; rw [e x hx]; simp
  rw [this]; rfl
 | some i =>
  rw [List.findIdx?_eq_some_iff_getElem] at e
  obtain ⟨h, hp, _⟩ := e
  have : l.any p = true := by rw [List.any_eq_true]; exact ⟨_, List.getElem_mem h, hp⟩
  rw [this]; simp
theorem rd_mem (l : List Int) (i : Int) (h0 : 0 ≤ i) (h1 : i < (l.length : Int)) : rd l i ∈ l := by
 unfold rd
 rw [List.getD_eq_getElem?_getD, List.getElem?_eq_getElem (show i.toNat < l.length by omega)]
 exact List.getElem_mem _
set_option maxHeartbeats 2000000 in
theorem slices_IndexFunc.gen (p : Int → Bool) (g : Nat) (lb : Array Value) (eg : ∀ args w, (callFunc g args).run Try.prog w = .ok (.enter g args) w)
  (A0 : Option Addr) (c0 : Nat) (l0 : List Int) (w : World) (hr0 : Kd.C (Kd.int .i64) w A0 l0.length l0)
  (hp : ∀ (W : World) (x : Int), Below w.heap.size w W → x ∈ l0 → Calls Try.prog g (#[.int .i64 x] ++ lb) W fun e w' => e = .returned (.bool (p x)) ∧ Below w.heap.size w w') :
  Calls Try.prog 47 #[.slice A0 l0.length c0, .func (.func g) #[] lb] w fun e w' => e = .returned (.int .i64 (idxF p l0)) ∧ Below w.heap.size w w' := by
 have HR := Aside0.mk hr0
 have HP := Aside0.mk hp
 have HB0 := Aside0.mk (Below.refl w.heap.size w)
 have hmx := Kd.C_max hr0
 clear hr0 hp
 go_enter Try.func47, Try.ntmps47
 go_wp2
 go_loopg [5, 8] l0.length (fun gg _ s8 wr => ∃ i : Int, s8 = .int .i64 i ∧ Aside0 (0 ≤ i) ∧ Aside0 (i ≤ (l0.length : Int)) ∧ Aside0 ((l0.length : Int) - i ≤ gg) ∧ Aside0 (Below w.heap.size w wr) ∧ Aside0 (∀ j : Int, 0 ≤ j → j < i → p (rd l0 j) = false))
 case atStart => exact ⟨0, rfl, ⟨by omega⟩, ⟨by omega⟩, ⟨by omega⟩, HB0, ⟨fun j h0 h1 => by omega⟩⟩
 case round =>
  obtain ⟨i, rfl, ⟨h0⟩, ⟨h1⟩, ⟨hg⟩, HB, HN⟩ := hrel
  by_cases hlt : i < (l0.length : Int)
  ·have c1 : decide (i < (l0.length : Int)) = true := decide_eq_true hlt
   obtain ⟨ad, e, hx⟩ := Kd.at_int HR.out i h0 hlt
   cases e
   replace hx := (HB.out.cell (World.block_lt_of_cell? w _ hx)).trans hx
   have hcall := HP.out wr (rd l0 i) HB.out (rd_mem l0 i h0 hlt)
   have hw : wrap64 (i + 1) = i + 1 := by unfold wrap64; omega
   have HW := Aside0.mk hw
   have H0 := Aside0.mk h0
   have HLT := Aside0.mk hlt
   have HG := Aside0.mk hg
   have p0 := eq_true h0
   have p1 := eq_true hlt
   clear hw h0 hlt h1 hg
   cases hq : p (rd l0 i) with
   | true =>
    have HQ := Aside0.mk hq
    rw [hq] at hcall
    clear hq
    go_wp2_with (go_at_fn g; refine hcall.mono ?_; rintro e w' ⟨rfl, hb'⟩)
    go_ret
    exact ⟨by rw [idxF_hit p l0 i H0.out HLT.out HQ.out HN.out]; rfl, hb'⟩
   | false =>
    have HQ := Aside0.mk hq
    rw [hq] at hcall
    clear hq
    go_wp2_with (go_at_fn g; refine hcall.mono ?_; rintro e w' ⟨rfl, hb'⟩)
    go_roundg ((l0.length : Int) - (i + 1)).toNat
    case measure => have := HG.out; have := HLT.out; omega
    case rel =>
     have h0 := H0.out
     have h1 := HLT.out
     refine ⟨i + 1, by rw [HW.out], ⟨by omega⟩, ⟨by omega⟩, ⟨by omega⟩, ⟨hb'⟩, ⟨fun j hj0 hj1 => ?_⟩⟩
     by_cases e : j = i
     ·subst e; exact HQ.out
     ·exact HN.out j hj0 (by omega)
  ·have c1 : decide (i < (l0.length : Int)) = false := decide_eq_false hlt
   have HE : Aside0 (i = (l0.length : Int)) := ⟨by omega⟩
   clear hlt h1 hg h0
   go_wp2
   go_ret
   exact ⟨by rw [idxF_miss p l0 (fun j h0 h1 => HN.out j h0 (by rw [HE.out]; exact h1))]; rfl, HB.out⟩

/-! ### slices_ContainsFunc_int_int: function 34 (by hand) -/
set_option maxHeartbeats 1000000 in
theorem slices_ContainsFunc.gen (p : Int → Bool) (g : Nat) (lb : Array Value) (eg : ∀ args w, (callFunc g args).run Try.prog w = .ok (.enter g args) w)
  (A0 : Option Addr) (c0 : Nat) (l0 : List Int) (w : World) (hr0 : Kd.C (Kd.int .i64) w A0 l0.length l0)
  (hp : ∀ (W : World) (x : Int), Below w.heap.size w W → x ∈ l0 → Calls Try.prog g (#[.int .i64 x] ++ lb) W fun e w' => e = .returned (.bool (p x)) ∧ Below w.heap.size w w') :
  Calls Try.prog 34 #[.slice A0 l0.length c0, .func (.func g) #[] lb] w fun e w' => e = .returned (.bool (l0.any p)) ∧ Below w.heap.size w w' := by
 have HR := Aside0.mk hr0
 have HP := Aside0.mk hp
 clear hr0 hp
 rw [show l0.any p = decide (0 ≤ idxF p l0) from (idxF_nonneg p l0).symm]
 go_enter Try.func34, Try.ntmps34
 go_wp2_with (go_at_call 47; refine (slices_IndexFunc.gen p g lb eg A0 c0 l0 _ HR.out HP.out).mono ?_; rintro e w' ⟨rfl, hb⟩)
 go_ret
 exact ⟨rfl, hb⟩

/-! ### bits_Mul64: function 71 -/
def bits_Mul64.f (a0 : Int) (a1 : Int) : Option (Int × Int) := some (IntKind.u64.wrap ((IntKind.u64.wrap ((IntKind.u64.wrap ((a0 / 4294967296) * (a1 / 4294967296))) + ((IntKind.u64.wrap ((IntKind.u64.wrap ((a0 / 4294967296) * (Go.bits .and .u64 a1 4294967295))) + ((IntKind.u64.wrap ((Go.bits .and .u64 a0 4294967295) * (Go.bits .and .u64 a1 4294967295))) / 4294967296))) / 4294967296))) + ((IntKind.u64.wrap ((Go.bits .and .u64 (IntKind.u64.wrap ((IntKind.u64.wrap ((a0 / 4294967296) * (Go.bits .and .u64 a1 4294967295))) + ((IntKind.u64.wrap ((Go.bits .and .u64 a0 4294967295) * (Go.bits .and .u64 a1 4294967295))) / 4294967296))) 4294967295) + (IntKind.u64.wrap ((Go.bits .and .u64 a0 4294967295) * (a1 / 4294967296))))) / 4294967296)), IntKind.u64.wrap (a0 * a1))
set_option maxHeartbeats 8000000 in
set_option maxRecDepth 100000 in
theorem bits_Mul64.calls (a0 : Int) (a1 : Int) (r1 : Int) (r2 : Int) (w : World) (h : bits_Mul64.f a0 a1 = some (r1, r2)) :
  Calls Try.prog 71 #[.int .u64 a0, .int .u64 a1] w fun e w' => e = .returned (.tuple #[.int .u64 r1, .int .u64 r2]) ∧ Drawn0 w w' := by
 have H : (some (IntKind.u64.wrap ((IntKind.u64.wrap ((IntKind.u64.wrap ((a0 / 4294967296) * (a1 / 4294967296))) + ((IntKind.u64.wrap ((IntKind.u64.wrap ((a0 / 4294967296) * (Go.bits .and .u64 a1 4294967295))) + ((IntKind.u64.wrap ((Go.bits .and .u64 a0 4294967295) * (Go.bits .and .u64 a1 4294967295))) / 4294967296))) / 4294967296))) + ((IntKind.u64.wrap ((Go.bits .and .u64 (IntKind.u64.wrap ((IntKind.u64.wrap ((a0 / 4294967296) * (Go.bits .and .u64 a1 4294967295))) + ((IntKind.u64.wrap ((Go.bits .and .u64 a0 4294967295) * (Go.bits .and .u64 a1 4294967295))) / 4294967296))) 4294967295) + (IntKind.u64.wrap ((Go.bits .and .u64 a0 4294967295) * (a1 / 4294967296))))) / 4294967296)), IntKind.u64.wrap (a0 * a1))) = some (r1, r2) := h
 clear h
 simp only [Option.some.injEq, Prod.mk.injEq] at H
 obtain ⟨rfl, rfl⟩ := H
 go_enter Try.func71, Try.ntmps71
 go_wp2
 go_ret2
 exact ⟨by first | rfl | (simp; done) | (simp [*]; done), dr_⟩

/-! ### bits_Mul: function 67 -/
def bits_Mul.f (a0 : Int) (a1 : Int) : Option (Int × Int) := (bits_Mul64.f a0 a1).bind fun bt501 => (some (bt501.1, bt501.2))
set_option maxHeartbeats 8000000 in
set_option maxRecDepth 100000 in
theorem bits_Mul.calls (a0 : Int) (a1 : Int) (r1 : Int) (r2 : Int) (w : World) (h : bits_Mul.f a0 a1 = some (r1, r2)) :
  Calls Try.prog 67 #[.int .u64 a0, .int .u64 a1] w fun e w' => e = .returned (.tuple #[.int .u64 r1, .int .u64 r2]) ∧ Drawn0 w w' := by
 have H : ((bits_Mul64.f a0 a1).bind fun bt501 => (some (bt501.1, bt501.2))) = some (r1, r2) := h
 clear h
 replace H := Option.bind_eq_some_iff.mp H
 obtain ⟨⟨t501, t502⟩, A30, H⟩ := H
 replace H : (some (t501, t502)) = some (r1, r2) := H
 have A3 := Aside0.mk A30
 clear A30
 simp only [Option.some.injEq, Prod.mk.injEq] at H
 obtain ⟨rfl, rfl⟩ := H
 go_enter Try.func67, Try.ntmps67
 go_wp2_with ((with_reducible refine gw_ ?_); first | (refine gl_ 25 Try.func71 #[.int .u64 a0, .int .u64 a1] ?_; (with_reducible refine (bits_Mul64.calls a0 a1 t501 t502 _ A3.out).mono ?_); rintro e w' ⟨rfl, ⟨nd, rfl⟩⟩; refine ⟨_, rfl, ?_⟩))
 go_ret2
 exact ⟨by first | rfl | (simp; done) | (simp [*]; done), dr_⟩

end Go.Proofs.Ytgfhpjnofmbcoaa.X
