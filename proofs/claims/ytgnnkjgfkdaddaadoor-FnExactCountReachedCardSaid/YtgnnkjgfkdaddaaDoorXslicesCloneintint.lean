-- Written by a program of this session (xprint.py), out of the translation and of hand-written contracts. Lean checks it.
import Derived.Test.YtgnnkjgfkdaddaaDoorX0
namespace Go.Proofs.YtgnnkjgfkdaddaaDoor.X
open Go.RowKit Go.Proofs.YtgnnkjgfkdaddaaDoorW.PrintWords Go.Proofs.YtgnnkjgfkdaddaaDoorW.PrintLast Go.Proofs.YtgnnkjgfkdaddaaDoorW.PrintMore
attribute [local go_sem] max2_int min2_int max_two min_two max_three min_three max_four min_four   -- for this text's walks alone
set_option linter.unusedVariables false
set_option linter.unusedSimpArgs false

/-! ### slices_Clone_int_int: function 32 (by hand) -/
def slices_Clone_int_int.f (l0 : List Int) : Option (List Int) := if l0.length < 17592186044416 then some l0 else none
set_option maxHeartbeats 8000000 in
set_option maxRecDepth 100000 in
theorem slices_Clone_int_int.calls (A0 : Option Addr) (c0 : Nat) (l0 : List Int) (r : List Int) (w : World) (hr0 : Kd.C (Kd.int .i64) w A0 l0.length l0) (hc0 : l0.length ≤ c0) (h : slices_Clone_int_int.f l0 = some r) :
  Calls Tryd.prog 32 #[.slice A0 l0.length c0] w fun e w' => ∃ v0_ : Value, e = .returned (v0_) ∧ Kd.R (Kd.int .i64) 3 w' w.heap.size (fun _ => True) v0_ r ∧ Below w.heap.size w w' := by
 have HR0 := Aside0.mk hr0
 have HB := Aside0.mk (Below.refl w.heap.size w)
 unfold slices_Clone_int_int.f at h
 by_cases c2 : l0.length < 17592186044416
 ·rw [if_pos c2] at h
  have LMc2 := Aside0.mk c2
  obtain rfl := Option.some.inj h
  clear c2 h
  cases A0 with
  | none =>
   have e0 : l0 = [] := by
    rcases Nat.eq_zero_or_pos l0.length with z | z
    ·exact List.length_eq_zero_iff.mp z
    ·obtain ⟨ad, e, _⟩ := hr0.2.2 z
     cases e
   have E0 := Aside0.mk e0
   clear hr0 hc0 e0
   have hn : ∀ (w : World) (n c : Nat), (binOp .eql 26 (.slice none n c) (.slice none 0 0)).run Tryd.prog w = .ok (.bool true) w := fun w n c => Go.run_eql_slice_nil w 26 3 none n c Tryd.underlying26
   go_enter Tryd.func32, Tryd.ntmps32
   go_wp2
   go_ret
   exact ⟨_, rfl, by rw [E0.out]; exact Kd.R_nil _ _ _ _ _, HB.out⟩
  | some ad =>
   clear hr0 hc0
   have hn : ∀ (w : World) (a : Addr) (n c : Nat), (binOp .eql 26 (.slice (some a) n c) (.slice none 0 0)).run Tryd.prog w = .ok (.bool false) w := fun w a n c => Go.run_eql_slice_nil w 26 3 (some a) n c Tryd.underlying26
   obtain ⟨y735, hy735⟩ : ∃ y_ : List Int, y_ = (([] : List Int)) := ⟨_, rfl⟩
   have Ny735 := Aside0.mk hy735
   obtain ⟨y738, hy738⟩ : ∃ y_ : List Int, y_ = (y735 ++ l0) := ⟨_, rfl⟩
   have Ny738 := Aside0.mk hy738
   have EQ := Aside0.mk (show y738 = l0 by rw [hy738, hy735]; rfl)
   have LZ := Aside0.mk (show y735.length = 0 by rw [hy735]; rfl)
   clear hy735 hy738
   go_enter Tryd.func32, Tryd.ntmps32
   go_wp2_with (first | ((with_reducible refine gate_dst (N := 5) rfl ?_); refine Kd.R_lit (Kd.int .i64) _ 3 ?hg (N := 5) ?hd (xs := ([] : List Int)) (inner := []) (ok := fun _ => True) (okp := fun _ => True) ?hr ?hp (fun _ hk => hk) trivial (Below.refl _ _) (Nat.le_refl _) (by simp) ?_; (case hd => rfl); (case hg => rfl); (case hr => first | (go_simp; done) | (go_simp; rfl)); (case hp => exact (Reps.none _ _)); intro v736 w3 ho4 hb hg_ hnew_; clear hg_ hnew_; (first | rw [← Ny735.out] at ho4 | (simp only [Int.reduceToNat] at ho4; rw [← Ny735.out] at ho4)); have HO737 := Aside0.mk (Kd.R_lower ho4 (below_size (hb0_ HB.out))); replace HB := HB.s0 hb; clear hb ho4) | ((with_reducible refine gate_builtin (b := .append) (xs := #[.tmp 5, .tmp 6]) rfl ?_); at_builtin; refine Kd.R_append_rows (Kd.int .i64) (w0 := w) w.heap.size rfl (.tmp 5) (.tmp 6) 26 3 (.int .i64 0) 8 rfl Tryd.underlying26 info3 rfl (by decide) (by omega) v736 y735 l0 _ _ _ (fun _ => True) (fun _ => False) rfl rfl ?aO ?aR (fun _ _ h => h) (fun _ h => h.elim) ?aF ?aB ?aS ?aL ?_; (case aR => repeat (first | exact (Kd.C_below HR0.out HB.out) | (with_reducible refine Kd.C_alloc ?_ _) | (with_reducible refine Kd.C_drewN ?_ _) | (with_reducible refine Kd.C_drew ?_))); (case aB => exact (hb0_ HB.out)); (case aF => exact (fun _ _ => trivial)); (case aO => exact (kr_ HO737.out)); (case aS => exact (below_size (hb0_ HB.out))); (case aL => have := LMc2.out; have := LZ.out; omega); intro v739 w5 ho hb hg hat; rw [← Ny738.out] at ho; replace HB := Aside0.mk (hb); have HO740 := Aside0.mk (ho); clear HO737; clear ho hb hg hat))
   go_ret
   exact ⟨_, rfl, by rw [← EQ.out]; (with_reducible repeat (first | apply Kd.R_alloc | apply Kd.R_drewN | apply Kd.R_drew)); exact HO740.out, HB.out⟩
 ·rw [if_neg c2] at h
  exact absurd h (by simp)

end Go.Proofs.YtgnnkjgfkdaddaaDoor.X
