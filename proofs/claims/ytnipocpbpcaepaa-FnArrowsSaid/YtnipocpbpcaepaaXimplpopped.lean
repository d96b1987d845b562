-- Written by a program of this session (xprint.py), out of the translation and of hand-written contracts. Lean checks it.
import Derived.Test.YtnipocpbpcaepaaX0
import Derived.Test.YtnipocpbpcaepaaXcgrid
import Derived.Test.YtnipocpbpcaepaaXchof
import Derived.Test.YtnipocpbpcaepaaXcreach
import Derived.Test.YtnipocpbpcaepaaXimplArrowsOk
import Derived.Test.YtnipocpbpcaepaaXimplpopperwalk
import Derived.Test.YtnipocpbpcaepaaXslicesCloneintint
namespace Go.Proofs.Ytnipocpbpcaepaa.X
open Go.RowKit Go.Proofs.YtnipocpbpcaepaaW.PrintWords Go.Proofs.YtnipocpbpcaepaaW.PrintLast Go.Proofs.YtnipocpbpcaepaaW.PrintMore
attribute [local go_sem] max2_int min2_int max_two min_two max_three min_three max_four min_four   -- for this text's walks alone
set_option linter.unusedVariables false
set_option linter.unusedSimpArgs false

/-! ### impl_popped: function 25 (by hand) -/
def popd.cell (a0 a1 c : Int) : Bool := (impl_isCell.f a0 a1 c).getD false
theorem popd.cell_eq (a0 a1 c : Int) : impl_isCell.f a0 a1 c = some (popd.cell a0 a1 c) := by
 unfold popd.cell
 cases e : impl_isCell.f a0 a1 c with
 | some b => rfl
 | none =>
  exfalso
  revert e
  unfold impl_isCell.f impl_CountCells.f impl_GridOk.f
  repeat' split
  all_goals simp
  all_goals (repeat' split)
  all_goals simp
set_option maxHeartbeats 1000000 in
theorem impl_popped_1.calls (gb : Nat) (g0 g1 x : Int) (w : World) (hg : w.heap[gb]? = some (.cells #[.int .i64 g0, .int .i64 g1] 28 (0, 0))) :
  Calls Try.prog 44 #[.int .i64 x, .pointer (some ⟨gb, 0, none⟩)] w fun e w' => e = .returned (.bool (!popd.cell g0 g1 x)) ∧ Below w.heap.size w w' := by
 have hu := Try.underlying28
 obtain ⟨z0, z1⟩ := cz2_ hg
 go_enter Try.func44, Try.ntmps44
 go_wp2_with (go_at_call 45; refine (impl_isCell.calls g0 g1 x _ _ (popd.cell_eq g0 g1 x)).mono ?_; rintro e w' ⟨rfl, hb⟩)
 go_ret
 exact ⟨rfl, hb⟩
/-- make([]T, n) within a region that draws. -/
theorem popd.make {P : Program} {ops : Array Oper} {Q : Exit → Act → World → Prop} {o : Oper} {a : Act} {Kc : Act → World → Prop} {α : Type} (d : Kd α) {w0 W : World} (base e : Nat) (hw : Region.wanted o (yielded ops a.tmps) = true) {N : Tmp} (hd : o.dst = some N) (t : TypeId) (x y : Operand) (ho : o.op = .makeSlice t x y) (n : Int) (hx : a.eval x = .int .i64 n) (hy : a.eval y = .int .i64 n)
  (ht : P.underlying t = some (.slice e)) (z : Value) (bytes : Nat) (hinfo : (P.info? e).map (fun i => (i.zero, i.size, i.bytes)) = some (some z, d.sz, bytes)) (hz : z.cells.size = d.sz) (hs0 : 0 < d.sz) (hb0 : 0 < bytes)
  (z0 : α) {ok okp : Nat → Prop} (hzero : d.M W base okp z0 z.cells.toList) (hok : ∀ k, okp k → ok k) (hfresh : ok W.heap.size) (h0 : 0 ≤ n) (hl : n.toNat * bytes ≤ 281474976710656) (HB : Below base w0 W) (hbase : base ≤ W.heap.size)
  (h : ∀ v1 w1, d.R e w1 base ok v1 (List.replicate n.toNat z0) → Below base w0 w1 → W.grownBy w1 none → (∃ b, v1.ownBlock = some b ∧ W.heap.size ≤ b) → Kc (a.put o.dst v1) w1) : if Region.wanted o (yielded ops a.tmps) = true then Oper.wp P o a W Kc Q else Kc (a.put o.dst undef) W := by
 obtain ⟨m, rfl⟩ := Int.eq_ofNat_of_zero_le h0
 simp only [Int.toNat_natCast] at hl h
 obtain ⟨i0, hi, hzz⟩ := Option.map_eq_some_iff.1 hinfo
 simp only [Prod.mk.injEq] at hzz
 obtain ⟨hz0, hz1, hz2⟩ := hzz
 have hm : m ≤ 281474976710656 := Nat.le_trans (Nat.le_mul_of_pos_right _ hb0) hl
 have hr := run_make (P := P) W t e i0 z ht hi hz0 .i64 .i64 (m : Int) (m : Int) (by omega) (by omega)
  (by
   have h3 : ((i0.bytes * m : Nat) : Int) ≤ 281474976710656 := by rw [hz2, Nat.mul_comm]; omega
   rwa [Int.natCast_mul] at h3) (by omega)
 simp only [Int.toNat_natCast] at hr
 rw [hz1] at hr
 refine Kd.R_lit_step d base e hw hd (xs := List.replicate m z0) (inner := (madeCells z.cells (m * d.sz)).toList) (okp := okp) (ok := ok) ?_ (Kd.reps_made hz hs0 hzero m) hok hfresh HB hbase (by simp; omega) h
 simp [execOp, ho, hx, hy, hr]
theorem popd.okI {e base : Nat} {w : World} {ok ok' : Nat → Prop} {v : Value} {xs : List Int} (h : Kd.R (Kd.int .i64) e w base ok v xs) (hk : ∀ k, v.ownBlock = some k → ok' k) : Kd.R (Kd.int .i64) e w base ok' v xs := by
 obtain ⟨_, inner, h1, h2⟩ := h
 exact ⟨hk, inner, h1, h2⟩
theorem popd.okB {e base : Nat} {w : World} {ok ok' : Nat → Prop} {v : Value} {xs : List Bool} (h : Kd.R Kd.bool e w base ok v xs) (hk : ∀ k, v.ownBlock = some k → ok' k) : Kd.R Kd.bool e w base ok' v xs := by
 obtain ⟨_, inner, h1, h2⟩ := h
 exact ⟨hk, inner, h1, h2⟩
def popd.head (k : Nat) (g0 g1 : Int) (l1 : List (List Int)) (l2 : List Int) : Option Bool := (impl_ArrowsOk.f k g0 g1 l1).bind fun t => if t = true then (if (100 : Int) < (l2.length : Int) then some true else some (l2.any fun c => !popd.cell g0 g1 c)) else some true
def popd.walks : Nat → List (List Int) → List Int → Int → List Int → List Bool → Int → Int → Int → Option (Bool × List Int × List Bool × Int × Int × Int)
 | 0, _, _, _, _, _, _, _, _ => none
 | k + 1, A, q, j, u, ins, m0, m1, o => if j < (q.length : Int) then (if 0 ≤ rd q j then (if rd q j < (ins.length : Int) then (if rdOf false ins (rd q j) = true then popd.walks k A q (wrap64 (j + 1)) u ins m0 m1 o else ((pop.l0 k A [rd q j] u ins m0 m1 o).bind fun R => if R.1 = true then popd.walks k A q (wrap64 (j + 1)) R.2.1 R.2.2.1 R.2.2.2.1 R.2.2.2.2.1 R.2.2.2.2.2 else some R)) else none) else none) else some (true, u, ins, m0, m1, o)
def popd.sum : Nat → List Int → Int → Int → Option Int
 | 0, _, _, _ => none
 | k + 1, u, j, s => if j < (u.length : Int) then popd.sum k u (wrap64 (j + 1)) (wrap64 (s + rd u j)) else some s
def popd.tail (k : Nat) (g0 g1 n : Int) (l1 : List (List Int)) (q : List Int) : Option (Int × Int × Int × Int × Bool) := (popd.walks k l1 q 0 (List.replicate n.toNat 0) ((List.replicate n.toNat false).set 0 true) g0 g1 0).bind fun R => if R.1 = true then ((popd.sum k R.2.1 0 0).bind fun s => some (R.2.2.2.1, R.2.2.2.2.1, R.2.2.2.2.2, s, true)) else some (0, 0, 0, -1, false)
def impl_popped.f (k : Nat) (g0 g1 : Int) (l1 : List (List Int)) (l2 : List Int) : Option (Int × Int × Int × Int × Bool) := (popd.head k g0 g1 l1 l2).bind fun b => if b = true then some (0, 0, 0, -1, false) else ((impl_CountCells.f g0 g1).bind fun n => if 0 < n then (if n ≤ 1000000 then ((slices_Clone_int_int.f l2).bind fun q1 => (impl_upTo.f k n).bind fun q2 => if q1.length + q2.length ≤ 1000000 then popd.tail k g0 g1 n l1 (q1 ++ q2) else none) else none) else none)
theorem popd.mono_w : ∀ (k : Nat) (A : List (List Int)) (q : List Int) (j : Int) (u : List Int) (ins : List Bool) (m0 m1 o : Int), LeO (popd.walks k A q j u ins m0 m1 o) (popd.walks (k + 1) A q j u ins m0 m1 o)
 | 0, _, _, _, _, _, _, _, _ => fun r h => by simp [popd.walks] at h
 | k + 1, A, q, j, u, ins, m0, m1, o => by
  have ih := popd.mono_w k
  unfold popd.walks
  exact LeO.ite (LeO.ite (LeO.ite (LeO.ite (ih _ _ _ _ _ _ _ _) (LeO.bind (pop.mono _ _ _ _ _ _ _ _) (fun R => LeO.ite (ih _ _ _ _ _ _ _ _) (LeO.refl _)))) (LeO.refl _)) (LeO.refl _)) (LeO.refl _)
theorem popd.mono_s : ∀ (k : Nat) (u : List Int) (j s : Int), LeO (popd.sum k u j s) (popd.sum (k + 1) u j s)
 | 0, _, _, _ => fun r h => by simp [popd.sum] at h
 | k + 1, u, j, s => by
  have ih := popd.mono_s k
  unfold popd.sum
  exact LeO.ite (ih _ _ _) (LeO.refl _)
theorem impl_popped.mono : ∀ (g0 g1 : Int) (l1 : List (List Int)) (l2 : List Int) (k : Nat), LeO (impl_popped.f k g0 g1 l1 l2) (impl_popped.f (k + 1) g0 g1 l1 l2) := fun g0 g1 l1 l2 k => by
 unfold impl_popped.f popd.head popd.tail
 exact LeO.bind (LeO.bind (impl_ArrowsOk.mono _ _ _ _) (fun t => LeO.refl _)) (fun b => LeO.ite (LeO.refl _) (LeO.bind (LeO.refl _) (fun n => LeO.ite (LeO.ite (LeO.bind (LeO.refl _) (fun q1 => LeO.bind (impl_upTo.mono _ _) (fun q2 => LeO.ite (LeO.bind (popd.mono_w _ _ _ _ _ _ _ _ _) (fun R => LeO.ite (LeO.bind (popd.mono_s _ _ _ _) (fun s => LeO.refl _)) (LeO.refl _))) (LeO.refl _)))) (LeO.refl _)) (LeO.refl _))))
def popd.T4 : Bool × List (List Nat × List Nat) := (true, [([], []), ([], []), ([1, 1], [1]), ([], []), ([3, 3], [3]), ([], []), ([5], [5]), ([0, 2, 4, 6], [0, 2, 4, 6]), ([7], [7]), ([8, 0, 1, 2, 3, 4, 5, 6, 7, 8], [8])])
def popd.B4 : List Nat := [0, 0, 2, 0, 8, 0, 32, 127, 255, 511]
theorem popd.tab4 : rtab .any (opsOf Try.f25 4) = popd.T4 := by kernel_rfl
theorem popd.bits4 : waitsOk popd.T4.2 popd.B4 = true := by kernel_rfl
set_option maxHeartbeats 8000000 in
set_option maxRecDepth 100000 in
theorem impl_popped.calls (k : Nat) (g0 g1 : Int) (A1 : Option Addr) (c1 : Nat) (l1 : List (List Int)) (A2 : Option Addr) (c2 : Nat) (l2 : List Int) (r1 r2 r3 r4 : Int) (r5 : Bool) (w : World) (hr1 : Kd.C (Kd.slice 3 (Kd.int .i64)) w A1 l1.length l1) (hc1 : l1.length ≤ c1) (hr2 : Kd.C (Kd.int .i64) w A2 l2.length l2) (hc2 : l2.length ≤ c2) (h : impl_popped.f k g0 g1 l1 l2 = some (r1, r2, r3, r4, r5)) :
  Calls Try.prog 25 #[.agg #[.int .i64 g0, .int .i64 g1], .slice A1 l1.length c1, .slice A2 l2.length c2] w fun e w' => e = .returned (.tuple #[.agg #[.int .i64 r1, .int .i64 r2, .int .i64 r3], .int .i64 r4, .bool r5]) ∧ Below w.heap.size w w' := by
 have hu1 := Try.underlying28
 have hu2 := Try.underlying24
 have hu3 := Try.underlying25
 have hu4 := Try.underlying36
 have hu5 := Try.underlying68
 have hu6 := Try.underlying63
 have eg : ∀ args w, (callFunc 44 args).run Try.prog w = .ok (.enter 44 args) w := enters_of Try.func44 (by kernel_rfl) rfl
 have HR1 := Aside0.mk hr1
 have HC1 := Aside0.mk hc1
 have HR2 := Aside0.mk hr2
 have HC2 := Aside0.mk hc2
 have HB := Aside0.mk (Below.refl w.heap.size w)
 unfold impl_popped.f at h
 obtain ⟨b, hh, h⟩ := Option.bind_eq_some_iff.mp h
 have HH := Aside0.mk hh
 have HE := Aside0.mk h
 clear hr1 hc1 hr2 hc2 h hh
 go_enter Try.func25, Try.ntmps25
 go_upto_region 1 with ((with_reducible refine gw_ ?_); first | (refine box_ (N := 3) (cs := #[.int .i64 g0, .int .i64 g1]) (t := 28) ?_; intro gb hg w4 hbox hb; have BK := Aside0.mk hbox; have GE := HB.g0 hg; replace HB := HB.s0 hb; clear hb hbox hg) | (refine box_ (N := 6) (cs := #[.int .i64 0, .int .i64 0, .int .i64 0]) (t := 36) ?_; intro rb hg w6 hbox hb; have BR := Aside0.mk hbox; have GR := HB.g1 GE hg; replace HB := HB.s1 GE hb; have NB := BK.nl hg; replace BK := BK.bb hb; clear hb hbox hg))
 (try simp only [Act.put, List.setIfInBounds_toArray, List.set_cons_zero, List.set_cons_succ])
 go_cut [29] (fun v29 wc => v29 = .bool b ∧ Aside0 (wc.heap[gb]? = some (.cells #[.int .i64 g0, .int .i64 g1] 28 (0, 0))) ∧ Aside0 (wc.heap[rb]? = some (.cells #[.int .i64 0, .int .i64 0, .int .i64 0] 36 (0, 0))) ∧ Aside0 (Below w.heap.size w wc))
 case first =>
  have H := HH.out
  clear HH
  unfold popd.head at H
  obtain ⟨t, ht, H⟩ := Option.bind_eq_some_iff.mp H
  have A5 := Aside0.mk ht
  clear ht
  obtain ⟨z0, z1⟩ := cz2_ BK.out
  obtain ⟨y0, y1⟩ := fz2_ BK.out
  cases t with
  | false =>
   rw [if_neg (by simp)] at H
   obtain rfl := Option.some.inj H
   clear H
   go_wp2_with (first | (refine gl_ 18 Try.func20 #[.agg #[.int .i64 g0, .int .i64 g1], .slice A1 l1.length c1] ?_; (with_reducible refine (impl_ArrowsOk.calls k g0 g1 A1 c1 l1 false _ (Kd.C_below HR1.out HB.out) HC1.out A5.out).mono ?_); rintro e w11 ⟨rfl, hb⟩; refine ⟨_, rfl, ?_⟩; replace BK := BK.bb hb; replace BR := BR.bb hb; replace HB := HB.s2 GE GR hb; (try clear hb)))
   go_meet
   case rel => exact ⟨rfl, BK, BR, HB⟩
  | true =>
   rw [if_pos rfl] at H
   by_cases d1 : (100 : Int) < (l2.length : Int)
   ·rw [if_pos d1] at H
    obtain rfl := Option.some.inj H
    have d1b : decide ((l2.length : Int) > 100) = true := decide_eq_true d1
    clear d1 H
    go_wp2_with (first | (refine gl_ 18 Try.func20 #[.agg #[.int .i64 g0, .int .i64 g1], .slice A1 l1.length c1] ?_; (with_reducible refine (impl_ArrowsOk.calls k g0 g1 A1 c1 l1 true _ (Kd.C_below HR1.out HB.out) HC1.out A5.out).mono ?_); rintro e w11 ⟨rfl, hb⟩; refine ⟨_, rfl, ?_⟩; replace BK := BK.bb hb; replace BR := BR.bb hb; replace HB := HB.s2 GE GR hb; (try clear hb)))
    go_meet
    case rel => exact ⟨rfl, BK, BR, HB⟩
   ·rw [if_neg d1] at H
    obtain rfl := Option.some.inj H
    have d1b : decide ((l2.length : Int) > 100) = false := decide_eq_false d1
    clear d1 H
    go_wp2_with (first | (refine gl_ 18 Try.func20 #[.agg #[.int .i64 g0, .int .i64 g1], .slice A1 l1.length c1] ?_; (with_reducible refine (impl_ArrowsOk.calls k g0 g1 A1 c1 l1 true _ (Kd.C_below HR1.out HB.out) HC1.out A5.out).mono ?_); rintro e w11 ⟨rfl, hb⟩; refine ⟨_, rfl, ?_⟩; replace BK := BK.bb hb; replace BR := BR.bb hb; replace HB := HB.s2 GE GR hb; (try clear hb)) | (go_at_call 35; refine (slices_ContainsFunc.gen (fun c => !popd.cell g0 g1 c) 44 _ eg A2 c2 l2 _ ?k1 ?k2).mono ?k3))
    case k1 => exact Kd.C_below HR2.out HB.out
    case k2 =>
     intro W d hW hd
     refine (impl_popped_1.calls gb g0 g1 d W (blk_below BK.out hW)).mono ?_
     rintro e w' ⟨rfl, hb⟩
     exact ⟨rfl, below_step hW hb⟩
    case k3 =>
     rintro e w2 ⟨rfl, hb2⟩
     replace BK := BK.bb hb2
     replace BR := BR.bb hb2
     replace HB := HB.s2 GE GR hb2
     clear hb2
     go_wp2
     go_meet
     case rel => exact ⟨rfl, BK, BR, HB⟩
 case rest =>
  clear HH BK BR HB
  obtain ⟨rfl, BK, BR, HB⟩ := hcut
  cases b with
  | true =>
   have H := HE.out
   rw [if_pos rfl] at H
   have hE := Option.some.inj H
   simp only [Prod.mk.injEq] at hE
   obtain ⟨rfl, rfl, rfl, rfl, rfl⟩ := hE
   clear H HE
   obtain ⟨z0, z1, z2⟩ := cz3_ BR.out
   obtain ⟨y0, y1, y2⟩ := fz3_ BR.out
   go_wp2
   refine bodyPost_ret (results_ctt rfl _ _ rb 36 #[.int .i64 0, .int .i64 0, .int .i64 0] (0, 0) _ rfl (bq3_ BR.out) Try.underlying36 rfl (by kernel_rfl)) rfl ?_
   exact ⟨ex_, hb2_ HB.out GE.out GR.out⟩
  | false =>
   have H := HE.out
   rw [if_neg (by simp)] at H
   have H' := Aside0.mk H
   clear H HE
   have H := H'.out
   clear H'
   obtain ⟨n, hn, H⟩ := Option.bind_eq_some_iff.mp H
   by_cases d1 : 0 < n
   ·rw [if_pos d1] at H
    by_cases d2 : n ≤ 1000000
    ·rw [if_pos d2] at H
     obtain ⟨q1, hq1, H⟩ := Option.bind_eq_some_iff.mp H
     obtain ⟨q2, hq2, H⟩ := Option.bind_eq_some_iff.mp H
     by_cases d3 : q1.length + q2.length ≤ 1000000
     ·rw [if_pos d3] at H
      have HN := Aside0.mk hn
      have HQ1 := Aside0.mk hq1
      have HQ2 := Aside0.mk hq2
      have D1 := Aside0.mk d1
      have D2 := Aside0.mk d2
      have D3 := Aside0.mk d3
      have HT := Aside0.mk H
      clear hn hq1 hq2 d1 d2 d3 H
      obtain ⟨z0, z1⟩ := cz2_ BK.out
      obtain ⟨y0, y1⟩ := fz2_ BK.out
      go_upto_region 4 with (first | (refine gl_ 32 Try.func33 #[.agg #[.int .i64 g0, .int .i64 g1]] ?_; (with_reducible refine (impl_CountCells.calls g0 g1 n _ HN.out).mono ?_); rintro e w11 ⟨rfl, hb⟩; refine ⟨_, rfl, ?_⟩; replace BK := BK.bb hb; replace BR := BR.bb hb; replace HB := HB.s2 GE GR hb; (try clear hb)))
      clear z0 z1 y0 y1
      have hd0 : 0 ≤ n := Int.le_of_lt D1.out
      refine start_ (n := 10) (S := fun w' => w'.cell? ⟨gb, 0, none⟩ = some (.int .i64 g0) ∧ w'.cell? ⟨gb, 1, none⟩ = some (.int .i64 g1)) (ds := []) #[false, false, false, false, false, false, false, false, false, false] (by kernel_rfl) rfl rfl ⟨BK.c 0, BK.c 1⟩ (fun hHeld => ?_); refine with_tabW popd.tab4 popd.bits4 (fun HT_ HW_ => ?_)
      replace BK := Aside0.mk (blk_drew BK.out)
      replace BR := Aside0.mk (blk_drew BR.out)
      replace HB := Aside0.mk (below_drew1 HB.out)
      generalize w11.drew = wd at BK BR HB hHeld ⊢
      refine pv_ (i := 0) (N := some 33) HT_.out ?_
      refine pv_ (i := 1) (N := some 34) HT_.out ?_
      refine pv_ (i := 3) (N := some 36) HT_.out ?_
      refine tv2_ (i := 5) (N := some 38) HT_.out HW_.out hHeld ?_
      refine pv_ (i := 6) (N := some 39) HT_.out ?_
      refine join_ (σ := Value × Value) 3 #[true, true, true, true, true, true, true, false, false, false] (fun s_ => [(35, s_.1), (37, s_.2)]) (fun s_ w' => (w'.cell? ⟨gb, 0, none⟩ = some (.int .i64 g0) ∧ w'.cell? ⟨gb, 1, none⟩ = some (.int .i64 g1)) ∧ Kd.R (Kd.int .i64) 3 w' wd.heap.size (fun _ => True) s_.1 (List.replicate n.toNat 0) ∧ Kd.R Kd.bool 4 w' wd.heap.size (fun _ => True) s_.2 (List.replicate n.toNat false) ∧ s_.1.ownBlock ≠ s_.2.ownBlock ∧ Below wd.heap.size wd w') ?_ ?_
      rotate_left
      ·intro hCont
       refine two_ (i := 2) (j := 4) (Ni := some 35) (Nj := some 37) #[true, true, true, true, false, true, true, false, false, false] #[true, true, false, true, true, true, true, false, false, false] rfl rfl rfl rfl (two_of HT_.out (by kernel_rfl)) (by decide) (by decide) (fun K hK => ?_) (fun K hK => ?_)
       ·skip
        refine popd.make (Kd.int .i64) (w0 := wd) wd.heap.size 3 (by rfl) (N := 35) rfl 25 (.tmp 34) (.tmp 34) rfl n rfl rfl hu3 (.int .i64 0) 8 info3 rfl (by decide) (by decide) (0 : Int) (okp := fun _ => False) (ok := fun _ => True) ?hz (fun _ h => h.elim) trivial hd0 ?hl (Below.refl _ _) (Nat.le_refl _) ?_
        (case hz => rfl)
        (case hl => have := D2.out; omega)
        intro v1 w1 ho hb hg hat
        refine hK.out _ _ ⟨at_keep hb hHeld.1, at_keep hb hHeld.2⟩ (fun hHeld => ?_)
        clear hK K
        refine norm_ (a' := ?_) ?_ ?_
        rotate_left
        ·show Act.put _ (some 35) _ = _
         simp only [Act.put, List.setIfInBounds_toArray, List.set_cons_zero, List.set_cons_succ, i64_w, i32_w]
         rfl
        refine ov_ (i := 4) (N := some 37) HT_.out (fun K hK => ?_)
        refine popd.make Kd.bool (w0 := wd) wd.heap.size 4 (by rfl) (N := 37) rfl 63 (.tmp 36) (.tmp 36) rfl n rfl rfl hu6 (.bool false) 1 info4 rfl (by decide) (by decide) false (okp := fun _ => False) (ok := fun _ => True) ?hz (fun _ h => h.elim) trivial hd0 ?hl hb hb.size ?_
        (case hz => rfl)
        (case hl => have := D2.out; omega)
        intro v2 w2 ho2 hb2 hg2 hat2
        have hk1 : ∀ j, j < w1.heap.size → w2.heap[j]? = w1.heap[j]? := fun j hj => hg2.block j hj (fun e => by cases e)
        have h1 := Kd.R_step ho (fun q _ hq => hk1 q hq)
        obtain ⟨b2, hb21, hb22⟩ := hat2
        have hne : v1.ownBlock ≠ v2.ownBlock := fun e => Kd.fresh' (Kd.R_lt ho) b2 hb22 (hb21.symm.trans e.symm)
        have hs0 : w2.cell? ⟨gb, 0, none⟩ = some (.int .i64 g0) := (blk_cell (blk_below BK.out hb2) 0).trans rfl
        have hs1 : w2.cell? ⟨gb, 1, none⟩ = some (.int .i64 g1) := (blk_cell (blk_below BK.out hb2) 1).trans rfl
        refine hK.out _ _ ⟨hs0, hs1⟩ (fun hHeld => ?_)
        clear hK K
        refine norm_ (a' := ?_) ?_ ?_
        rotate_left
        ·show Act.put _ (some 37) _ = _
         simp only [Act.put, List.setIfInBounds_toArray, List.set_cons_zero, List.set_cons_succ, i64_w, i32_w]
         rfl
        exact norm_ (by simp only [putAll, Act.put, List.setIfInBounds_toArray, List.set_cons_zero, List.set_cons_succ]) (hCont (v1, v2) _ ⟨hHeld, h1, ho2, hne, hb2⟩)
       ·skip
        refine popd.make Kd.bool (w0 := wd) wd.heap.size 4 (by rfl) (N := 37) rfl 63 (.tmp 36) (.tmp 36) rfl n rfl rfl hu6 (.bool false) 1 info4 rfl (by decide) (by decide) false (okp := fun _ => False) (ok := fun _ => True) ?hz (fun _ h => h.elim) trivial hd0 ?hl (Below.refl _ _) (Nat.le_refl _) ?_
        (case hz => rfl)
        (case hl => have := D2.out; omega)
        intro v1 w1 ho hb hg hat
        refine hK.out _ _ ⟨at_keep hb hHeld.1, at_keep hb hHeld.2⟩ (fun hHeld => ?_)
        clear hK K
        refine norm_ (a' := ?_) ?_ ?_
        rotate_left
        ·show Act.put _ (some 37) _ = _
         simp only [Act.put, List.setIfInBounds_toArray, List.set_cons_zero, List.set_cons_succ, i64_w, i32_w]
         rfl
        refine ov_ (i := 2) (N := some 35) HT_.out (fun K hK => ?_)
        refine popd.make (Kd.int .i64) (w0 := wd) wd.heap.size 3 (by rfl) (N := 35) rfl 25 (.tmp 34) (.tmp 34) rfl n rfl rfl hu3 (.int .i64 0) 8 info3 rfl (by decide) (by decide) (0 : Int) (okp := fun _ => False) (ok := fun _ => True) ?hz (fun _ h => h.elim) trivial hd0 ?hl hb hb.size ?_
        (case hz => rfl)
        (case hl => have := D2.out; omega)
        intro v2 w2 ho2 hb2 hg2 hat2
        have hk1 : ∀ j, j < w1.heap.size → w2.heap[j]? = w1.heap[j]? := fun j hj => hg2.block j hj (fun e => by cases e)
        have h1 := Kd.R_step ho (fun q _ hq => hk1 q hq)
        obtain ⟨b2, hb21, hb22⟩ := hat2
        have hne : v1.ownBlock ≠ v2.ownBlock := fun e => Kd.fresh' (Kd.R_lt ho) b2 hb22 (hb21.symm.trans e.symm)
        have hs0 : w2.cell? ⟨gb, 0, none⟩ = some (.int .i64 g0) := (blk_cell (blk_below BK.out hb2) 0).trans rfl
        have hs1 : w2.cell? ⟨gb, 1, none⟩ = some (.int .i64 g1) := (blk_cell (blk_below BK.out hb2) 1).trans rfl
        refine hK.out _ _ ⟨hs0, hs1⟩ (fun hHeld => ?_)
        clear hK K
        refine norm_ (a' := ?_) ?_ ?_
        rotate_left
        ·show Act.put _ (some 35) _ = _
         simp only [Act.put, List.setIfInBounds_toArray, List.set_cons_zero, List.set_cons_succ, i64_w, i32_w]
         rfl
        exact norm_ (by simp only [putAll, Act.put, List.setIfInBounds_toArray, List.set_cons_zero, List.set_cons_succ]) (hCont (v2, v1) _ ⟨hHeld, ho2, h1, hne.symm, hb2⟩)
      rintro ⟨v1, v2⟩ w2 ⟨hHeld, hu, hi, hne, hbb⟩
      simp only at hu hi hne
      obtain ⟨gu, cu, eu, gub, gul, _⟩ := Kd.R_form hu (by rw [List.length_replicate]; have := D1.out; omega)
      obtain ⟨gi, ci, ei, gib, gil, _⟩ := Kd.R_form hi (by rw [List.length_replicate]; have := D1.out; omega)
      rw [List.length_replicate] at eu ei
      subst eu
      subst ei
      have hwd := HB.out.size
      have hgbl := blk_lt BK.out
      have hrbl := blk_lt BR.out
      have hne2 : gu ≠ gi := fun e => by
       refine hne ?_
       obtain ⟨k1, hk1, _⟩ : ∃ k, (Value.slice (some ⟨gu, 0, none⟩) n.toNat cu).ownBlock = some k ∧ True := ⟨gu, by simp [Value.ownBlock], trivial⟩
       have h2 : (Value.slice (some ⟨gi, 0, none⟩) n.toNat ci).ownBlock = some gi := by simp [Value.ownBlock]
       have h1 : (Value.slice (some ⟨gu, 0, none⟩) n.toNat cu).ownBlock = some gu := by simp [Value.ownBlock]
       rw [h1, h2, e]
      replace BK := Aside0.mk (blk_below BK.out hbb)
      replace BR := Aside0.mk (blk_below BR.out hbb)
      replace HB := Aside0.mk (below_step HB.out hbb)
      have HU := Aside0.mk (popd.okI (ok' := fun k => k = gu) (Kd.R_lower hu hwd) (fun k hk => by simpa [Value.ownBlock] using hk.symm))
      have HI := Aside0.mk (popd.okB (ok' := fun k => k = gi) (Kd.R_lower hi hwd) (fun k hk => by simpa [Value.ownBlock] using hk.symm))
      have GUB := Aside0.mk (Nat.le_trans hwd gub)
      have GIB := Aside0.mk (Nat.le_trans hwd gib)
      have GUL := Aside0.mk gul
      have GIL := Aside0.mk gil
      have NE := Aside0.mk hne2
      have NRU : Aside0 (rb ≠ gu) := ⟨fun e => by omega⟩
      have NRI : Aside0 (rb ≠ gi) := ⟨fun e => by omega⟩
      clear hu hi hne hbb gub gib gul gil hne2 hwd hgbl hrbl
      refine norm_ (a' := ?_) ?_ ?_
      rotate_left
      ·simp only [putAll, Act.put, List.setIfInBounds_toArray, List.set_cons_zero, List.set_cons_succ]
       rfl
      refine pv_ (i := 7) (N := some 40) HT_.out ?_
      refine ov_ (i := 8) (N := some 41) HT_.out (fun K hK => ?_)
      refine box_step ?hg (N := 41) ?hd (cs := #[.slice A1 l1.length c1, .slice (some ⟨gu, 0, none⟩) n.toNat cu, .slice (some ⟨gi, 0, none⟩) n.toNat ci, .int .i64 g0, .int .i64 g1, .int .i64 0]) (t := 68) ?hr ?_
      case hd => rfl
      case hg => rfl
      case hr => first | (go_simp; done) | (go_simp; rfl)
      intro g hg w3 hbox hb
      have BG := Aside0.mk hbox
      have LU : Aside0 (gu < g) := ⟨by rw [hg]; exact GUL.out⟩
      have LI : Aside0 (gi < g) := ⟨by rw [hg]; exact GIL.out⟩
      have LR : Aside0 (rb < g) := ⟨by rw [hg]; exact blk_lt BR.out⟩
      have HG : Aside0 (w.heap.size ≤ g) := ⟨by rw [hg]; exact HB.out.size⟩
      replace BK := Aside0.mk (blk_below BK.out hb)
      replace BR := Aside0.mk (blk_below BR.out hb)
      replace HB := Aside0.mk (below_step HB.out hb)
      replace HU := Aside0.mk (Kd.R_below HU.out hb)
      replace HI := Aside0.mk (Kd.R_below HI.out hb)
      replace GUL := Aside0.mk (Nat.lt_of_lt_of_le GUL.out hb.size)
      replace GIL := Aside0.mk (Nat.lt_of_lt_of_le GIL.out hb.size)
      have s0 := BK.c 0
      have s1 := BK.c 1
      clear hbox hb hg hHeld
      refine hK.out _ _ ⟨s0, s1⟩ (fun hHeld => ?_)
      clear hK K s0 s1
      refine norm_ (a' := ?_) ?_ ?_
      rotate_left
      ·show Act.put _ (some 41) _ = _
       simp only [Act.put, List.setIfInBounds_toArray, List.set_cons_zero, List.set_cons_succ, i64_w, i32_w]
       rfl
      refine pv_ (i := 9) (N := some 10) HT_.out ?_
      refine done_ (done_of HT_.out (by kernel_rfl)) ?_
      clear hHeld HT_ HW_
      have HS0 : Aside0 (PS w w3 g gu gi cu ci A1 c1 l1 (List.replicate n.toNat 0) (List.replicate n.toNat false) g0 g1 0) := ⟨⟨by rw [List.length_replicate, List.length_replicate]; exact BG.out, by rw [List.length_replicate]; exact HU.out, by rw [List.length_replicate]; exact HI.out, HR1.out, HC1.out, HG.out, GUB.out, GIB.out, GUL.out, GIL.out, by have := LU.out; omega, by have := LI.out; omega, NE.out, HB.out⟩⟩
      obtain ⟨hci, hcf⟩ := HS0.out.ic 0 (Int.le_refl _) (by rw [List.length_replicate]; have := D1.out; omega)
      rw [show rdOf false (List.replicate n.toNat false) 0 = false from by unfold rdOf; simp [List.getD_eq_getElem?_getD, List.getElem?_replicate]; split <;> rfl] at hci
      replace hci : w3.cell? ⟨gi, 0, none⟩ = some (.bool false) := hci
      replace hcf : w3.frozen? ⟨gi, 0, none⟩ = false := hcf
      have h2 := HS0.out.c2
      rw [List.length_replicate] at h2
      have p0 : ((0 : Int) < ((n.toNat : Nat) : Int)) = True := eq_true (by have := D1.out; omega)
      have p1 : (0 < n.toNat) = True := eq_true (by have := D1.out; omega)
      have p2 : (0 < n) = True := eq_true D1.out
      have p3 : (max n 0 ≤ 0) = False := eq_false (by have := D1.out; omega)
      have p4 : (0 < max n 0) = True := eq_true (by have := D1.out; omega)
      clear HU HI BG
      go_upto_region 6 with (fail)
      have HS : Aside0 (PS w (w3.setCell ⟨gi, 0, none⟩ (.bool true)) g gu gi cu ci A1 c1 l1 (List.replicate n.toNat 0) ((List.replicate n.toNat false).set 0 true) g0 g1 0) := ⟨HS0.out.puti 0 true⟩
      replace BR := Aside0.mk (blk_far BR.out NRI.out (p := ⟨gi, 0, none⟩) (.bool true))
      have HLR := Aside0.mk HR1.out
      clear HS0 hci hcf h2 p0 p1 p2 p3 p4 BK GUL GIL GUB GIB
      generalize (w3.setCell ⟨gi, 0, none⟩ (.bool true)) = w5 at HS BR ⊢
      obtain ⟨q, hq⟩ : ∃ q, q1 ++ q2 = q := ⟨_, rfl⟩
      go_upto_block 0 with ((with_reducible refine gw_ ?_); first | (refine gl_ 48 Try.func46 #[.slice A2 l2.length c2] ?_; (with_reducible refine (slices_Clone_int_int.calls A2 c2 l2 q1 _ (Kd.C_below HR2.out HS.out.bel) HC2.out HQ1.out).mono ?_); rintro e w7 ⟨v1, rfl, ho, hb⟩; refine ⟨_, rfl, ?_⟩; have HV1 := Aside0.mk (popd.okI (ok' := fun k => g < k) (Kd.R_lower ho HS.out.bel.size) (fun k hk => Nat.lt_of_lt_of_le (blk_lt HS.out.blk) (Kd.R_base ho k hk))); replace HS := Aside0.mk (HS.out.below hb); replace BR := BR.bb hb; clear ho hb) |
       (refine gl_ 50 Try.func47 #[.int .i64 n] ?_; (with_reducible refine (impl_upTo.calls k n q2 _ HQ2.out).mono ?_); rintro e w8 ⟨v2, rfl, ho, hb⟩; refine ⟨_, rfl, ?_⟩; have HV2 := Aside0.mk (popd.okI (ok' := fun k => g < k) (Kd.R_lower ho HS.out.bel.size) (fun k hk => Nat.lt_of_lt_of_le (blk_lt HS.out.blk) (Kd.R_base ho k hk))); replace HV1 := Aside0.mk (Kd.R_below HV1.out hb); replace HS := Aside0.mk (HS.out.below hb); replace BR := BR.bb hb; clear ho hb; obtain ⟨Ax, cx, ex⟩ := Kd.R_slice HV2.out; subst ex) |
       ((with_reducible refine gate_builtin (b := .append) (xs := #[.tmp 48, .tmp 50]) rfl ?_); at_builtin; refine Kd.R_append_rows (Kd.int .i64) (w0 := ?w0x) w.heap.size rfl (.tmp 48) (.tmp 50) 25 3 (.int .i64 0) 8 rfl Try.underlying25 info3 rfl (by decide) (by omega) v1 q1 q2 _ _ _ (fun k => g < k) (fun _ => False) rfl rfl ?aO ?aR (fun _ _ h => h) (fun _ h => h.elim) ?aF ?aB ?aS ?aL ?_; (case aB => exact Below.refl _ _); (case aR => exact (Kd.R_reads' HV2.out).2.2); (case aO => exact HV1.out); (case aF => exact (fun k hk => Nat.lt_of_lt_of_le (blk_lt HS.out.blk) hk)); (case aS => exact HS.out.bel.size); (case aL => have := D3.out; omega); intro v51 w9 ho hb hg hat; rw [hq] at ho; have HQ := Aside0.mk ho; replace HS := Aside0.mk (HS.out.grown hg (pop.bel HS.out.bel hg (fun k hk => Nat.le_trans HG.out (Nat.le_of_lt (HV1.out.1 k hk)))) (fun e => by have : g < g := HV1.out.1 g e.symm; omega) (fun e => by have : g < gu := HV1.out.1 gu e.symm; have := LU.out; omega) (fun e => by have : g < gi := HV1.out.1 gi e.symm; have := LI.out; omega)); replace BR := Aside0.mk (blk_grown BR.out hg (fun e => by have : g < rb := HV1.out.1 rb e.symm; have := LR.out; omega)); clear ho hb hg hat; obtain ⟨Aq, cq, eq⟩ := Kd.R_slice HQ.out; subst eq))
      clear HV1 HV2
      have HT2 : Aside0 (popd.tail k g0 g1 n l1 q = some (r1, r2, r3, r4, r5)) := ⟨by have := HT.out; rw [hq] at this; exact this⟩
      clear HT hq
      have H := HT2.out
      clear HT2
      unfold popd.tail at H
      obtain ⟨⟨bb, u', ins', m0', m1', o'⟩, hw, H⟩ := Option.bind_eq_some_iff.mp H
      have HW := Aside0.mk hw
      have HF := Aside0.mk H
      have HMX := Aside0.mk (Kd.C_max (Kd.R_reads' HQ.out).2.2)
      clear hw H
      go_wp2_with (fail)
      go_loopg [53] k (fun kq s53 w' => ∃ (j a0 a1 a2 : Int) (u2 : List Int) (ins2 : List Bool), s53 = .int .i64 j ∧ Aside0 (popd.walks kq l1 q j u2 ins2 a0 a1 a2 = some (bb, u', ins', m0', m1', o')) ∧ Aside0 (kq ≤ k) ∧ Aside0 (0 ≤ j) ∧ Aside0 (PS w w' g gu gi cu ci A1 c1 l1 u2 ins2 a0 a1 a2) ∧ Aside0 (w'.heap[rb]? = some (.cells #[.int .i64 0, .int .i64 0, .int .i64 0] 36 (0, 0))) ∧ Aside0 (Kd.R (Kd.int .i64) 3 w' w.heap.size (fun k => g < k) (.slice Aq q.length cq) q))
      case atStart => exact ⟨0, g0, g1, 0, _, _, rfl, HW, ⟨Nat.le_refl _⟩, ⟨Int.le_refl _⟩, HS, BR, HQ⟩
      case round =>
       clear HW HS BR HQ
       obtain ⟨j, a0, a1, a2, u2, ins2, rfl, HA, HK, HJ, HS, BR, HQ⟩ := hrel
       cases gk with
       | zero => exact absurd HA.out (by simp [popd.walks])
       | succ k1 =>
        have H := HA.out
        clear HA
        simp only [popd.walks] at H
        by_cases d0 : j < (q.length : Int)
        ·rw [if_pos d0] at H
         have d0b : decide (j < (q.length : Int)) = true := decide_eq_true d0
         obtain ⟨ad, hae, hx⟩ := Kd.at_int (Kd.R_reads' HQ.out).2.2 j HJ.out d0
         subst hae
         obtain ⟨c, hc⟩ : ∃ c, rd q j = c := ⟨_, rfl⟩
         rw [hc] at H hx
         have D0 := Aside0.mk d0
         have pj := eq_true HJ.out
         have pl := eq_true d0
         have hmx := HMX.out
         have hj := HJ.out
         have HJ2 : Aside0 (0 ≤ wrap64 (j + 1)) := ⟨by unfold wrap64; omega⟩
         clear hmx hj d0
         by_cases d1 : 0 ≤ c
         ·rw [if_pos d1] at H
          by_cases d2 : c < (ins2.length : Int)
          ·rw [if_pos d2] at H
           obtain ⟨hci, _⟩ := HS.out.ic c d1 d2
           have h2 := HS.out.c2
           have p1 := eq_true d1
           have p2 := eq_true d2
           clear d1 d2
           by_cases d3 : rdOf false ins2 c = true
           ·rw [if_pos d3] at H
            have H2 := Aside0.mk H
            rw [d3] at hci
            clear d3 H
            go_wp2_with (fail)
            go_roundg k1
            case measure => exact Nat.lt_succ_self _
            case rel => exact ⟨wrap64 (j + 1), a0, a1, a2, u2, ins2, rfl, H2, ⟨Nat.le_of_succ_le HK.out⟩, HJ2, HS, BR, HQ⟩
           ·rw [if_neg d3] at H
            have d3b : rdOf false ins2 c = false := by simpa using d3
            rw [d3b] at hci
            obtain ⟨⟨b3, u3, ins3, b0, b1, b2⟩, hpop, H⟩ := Option.bind_eq_some_iff.mp H
            have HPOP := Aside0.mk hpop
            clear d3 d3b hpop
            cases b3 with
            | true =>
             replace H : popd.walks k1 l1 q (wrap64 (j + 1)) u3 ins3 b0 b1 b2 = some (bb, u', ins', m0', m1', o') := by
              rw [if_pos rfl] at H
              exact H
             have H2 := Aside0.mk H
             clear H
             go_wp2_with (go_at_call 48; refine (pop_walk k1 w _ g gu gi cu ci c1 A1 l1 u2 ins2 a0 a1 a2 c true u3 ins3 b0 b1 b2 HS.out HPOP.out).mono ?_; rintro e w8 ⟨rfl, hS, hK⟩; replace HQ := Aside0.mk (Kd.R_step HQ.out (fun k hk hl => hK.old k hl (by have : g < k := hk; omega) (by have : g < k := hk; have := LU.out; omega) (by have : g < k := hk; have := LI.out; omega))); replace BR := Aside0.mk ((hK.old rb (blk_lt BR.out) (by have := LR.out; omega) NRU.out NRI.out).trans BR.out); replace HS := Aside0.mk hS; clear hS hK)
             go_roundg k1
             case measure => exact Nat.lt_succ_self _
             case rel => exact ⟨wrap64 (j + 1), b0, b1, b2, u3, ins3, rfl, H2, ⟨Nat.le_of_succ_le HK.out⟩, HJ2, HS, BR, HQ⟩
            | false =>
             rw [if_neg (by simp)] at H
             have hE := Option.some.inj H
             simp only [Prod.mk.injEq] at hE
             obtain ⟨rfl, rfl, rfl, rfl, rfl, rfl⟩ := hE
             have hF := HF.out
             rw [if_neg (by simp)] at hF
             have hF2 := Option.some.inj hF
             simp only [Prod.mk.injEq] at hF2
             obtain ⟨rfl, rfl, rfl, rfl, rfl⟩ := hF2
             clear hF H HF
             go_wp2_with (go_at_call 48; refine (pop_walk k1 w _ g gu gi cu ci c1 A1 l1 u2 ins2 a0 a1 a2 c false u3 ins3 b0 b1 b2 HS.out HPOP.out).mono ?_; rintro e w8 ⟨rfl, hS, hK⟩; replace BR := Aside0.mk ((hK.old rb (blk_lt BR.out) (by have := LR.out; omega) NRU.out NRI.out).trans BR.out); replace HS := Aside0.mk hS; clear hS hK; obtain ⟨z0, z1, z2⟩ := cz3_ BR.out; obtain ⟨y0, y1, y2⟩ := fz3_ BR.out)
             refine bodyPost_ret (results_ctt rfl _ _ rb 36 #[.int .i64 0, .int .i64 0, .int .i64 0] (0, 0) _ rfl (bq3_ BR.out) Try.underlying36 rfl (by kernel_rfl)) rfl ?_
             exact ⟨ex_, below_set (below_set (below_set HS.out.bel GR.out) GR.out) GR.out⟩
          ·rw [if_neg d2] at H
           cases H
         ·rw [if_neg d1] at H
          cases H
        ·rw [if_neg d0] at H
         have hE := Option.some.inj H
         simp only [Prod.mk.injEq] at hE
         obtain ⟨rfl, rfl, rfl, rfl, rfl, rfl⟩ := hE
         have d0b : decide (j < (q.length : Int)) = false := decide_eq_false d0
         have hF := HF.out
         rw [if_pos rfl] at hF
         obtain ⟨sm, hsm, hF⟩ := Option.bind_eq_some_iff.mp hF
         have HSM : Aside0 (popd.sum k u2 0 0 = some sm) := ⟨hsm⟩
         have hF2 := Option.some.inj hF
         simp only [Prod.mk.injEq] at hF2
         obtain ⟨rfl, rfl, rfl, rfl, rfl⟩ := hF2
         clear d0 H hF hsm HF HQ
         have h1 := HS.out.c1
         go_wp2_with (fail)
         clear h1
         have HMU := Aside0.mk (Kd.C_max (Kd.R_reads' HS.out.use).2.2)
         go_loopg [13, 78] k (fun kq s13 s78 w' => ∃ (j s : Int), s13 = .int .i64 s ∧ s78 = .int .i64 j ∧ Aside0 (popd.sum kq u2 j s = some sm) ∧ Aside0 (0 ≤ j) ∧ Aside0 (PS w w' g gu gi cu ci A1 c1 l1 u2 ins2 a0 a1 a2) ∧ Aside0 (w'.heap[rb]? = some (.cells #[.int .i64 0, .int .i64 0, .int .i64 0] 36 (0, 0))))
         case atStart => exact ⟨0, 0, rfl, rfl, HSM, ⟨Int.le_refl _⟩, HS, BR⟩
         case round =>
          clear HSM HS BR
          obtain ⟨j, s, rfl, rfl, HA, HJ, HS, BR⟩ := hrel
          cases gk with
          | zero => exact absurd HA.out (by simp [popd.sum])
          | succ k2 =>
           have H := HA.out
           clear HA
           simp only [popd.sum] at H
           by_cases f0 : j < (u2.length : Int)
           ·rw [if_pos f0] at H
            have H2 := Aside0.mk H
            have f0b : decide (j < (u2.length : Int)) = true := decide_eq_true f0
            have hx := HS.out.uc j HJ.out f0
            have pj := eq_true HJ.out
            have pl := eq_true f0
            have hmx := HMU.out
            have hj := HJ.out
            have HJ2 : Aside0 (0 ≤ wrap64 (j + 1)) := ⟨by unfold wrap64; omega⟩
            clear f0 H hmx hj
            go_wp2_with (fail)
            go_roundg k2
            case measure => exact Nat.lt_succ_self _
            case rel => exact ⟨wrap64 (j + 1), _, rfl, rfl, H2, HJ2, HS, BR⟩
           ·rw [if_neg f0] at H
            have f0b : decide (j < (u2.length : Int)) = false := decide_eq_false f0
            obtain rfl := Option.some.inj H
            have x3 := HS.out.c3
            have x4 := HS.out.c4
            have x5 := HS.out.c5
            obtain ⟨z0, z1, z2⟩ := cz3_ BR.out
            obtain ⟨y0, y1, y2⟩ := fz3_ BR.out
            clear f0 H
            go_wp2_with (fail)
            refine bodyPost_ret (results_ctt rfl _ _ rb 36 #[.int .i64 a0, .int .i64 a1, .int .i64 a2] (0, 0) _ rfl (bq3_ BR.out) Try.underlying36 rfl (by kernel_rfl)) rfl ?_
            exact ⟨ex_, below_set (below_set (below_set HS.out.bel GR.out) GR.out) GR.out⟩
     ·rw [if_neg d3] at H
      cases H
    ·rw [if_neg d2] at H
     cases H
   ·rw [if_neg d1] at H
    cases H

end Go.Proofs.Ytnipocpbpcaepaa.X
