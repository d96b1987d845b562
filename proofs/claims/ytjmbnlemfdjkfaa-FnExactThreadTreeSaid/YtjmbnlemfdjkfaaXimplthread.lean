-- Written by a program of this session (xprint.py), out of the translation and of hand-written contracts. Lean checks it.
import Derived.Test.YtjmbnlemfdjkfaaX0
import Derived.Test.YtjmbnlemfdjkfaaXcgrid
import Derived.Test.YtjmbnlemfdjkfaaXcin
import Derived.Test.YtjmbnlemfdjkfaaXcreach
import Derived.Test.YtjmbnlemfdjkfaaXimplthreadedwalk
namespace Go.Proofs.Ytjmbnlemfdjkfaa.X
open Go.RowKit Go.Proofs.YtjmbnlemfdjkfaaW.PrintWords Go.Proofs.YtjmbnlemfdjkfaaW.PrintLast Go.Proofs.YtjmbnlemfdjkfaaW.PrintMore
attribute [local go_sem] max2_int min2_int max_two min_two max_three min_three max_four min_four   -- for this text's walks alone
set_option linter.unusedVariables false
set_option linter.unusedSimpArgs false

/-! ### impl_thread: function 26 (by hand) -/
theorem TS.made {w w17 w19 : World} {g gf cf cc : Nat} {Ac : Option Addr} {y1 fr : List Int} (hC : Kd.R (Kd.int .i64) 3 w17 w.heap.size (fun k => True ∧ some k ≠ (Value.slice (some ⟨gf, 0, none⟩) fr.length cf).ownBlock) (.slice Ac y1.length cc) y1) (hE : Kd.R (Kd.int .i64) 3 w17 w.heap.size (fun _ => True) (.slice (some ⟨gf, 0, none⟩) fr.length cf) fr)
  (hf : w.heap.size ≤ gf) (hl : gf < w17.heap.size) (hg : g = w17.heap.size) (hbox : w19.heap[g]? = some (.cells #[.slice Ac y1.length cc, .slice (some ⟨gf, 0, none⟩) fr.length cf, .int .i64 0] 59 (0, 0))) (hb : Below w17.heap.size w17 w19) (hB : Below w.heap.size w w17) :
  TS w w19 g gf cf (.slice Ac y1.length cc) y1 fr 0 := by
 refine ⟨hbox, Kd.R_below (Kd.R_mono (Kd.R_bound hC) fun k hk => ⟨by rw [hg]; exact Nat.ne_of_lt hk.2.2.1, fun z => hk.1.2 (by rw [z]; simp [Value.ownBlock])⟩) hb, Kd.R_below (by obtain ⟨h0, inner, ho, hr⟩ := hE; exact ⟨fun k hk => by simpa [Value.ownBlock] using hk.symm, inner, ho, hr⟩) hb, by rw [hg]; exact hB.size, hf, Nat.lt_of_lt_of_le hl hb.size, by rw [hg]; exact Nat.ne_of_gt hl, below_step hB hb⟩
def impl_thread.f (k : Nat) (m0 m1 m2 st : Int) : Option (Option (List Int × List Int × Int)) := (impl_isIn.f m0 m1 m2 [st]).bind fun t => if t = true then ((impl_CountCells.f m0 m1).bind fun n => ((slices_Repeat_int_int.f [-1] n).bind fun fr => ((thr.l0 k m0 m1 m2 st st 0 0 [st] fr (mx 0 0)).bind fun R => some (some R)))) else some none
theorem impl_thread.mono (m0 m1 m2 st : Int) (k : Nat) : LeO (impl_thread.f k m0 m1 m2 st) (impl_thread.f (k + 1) m0 m1 m2 st) := by
 unfold impl_thread.f
 exact LeO.bind (LeO.refl _) (fun t => LeO.ite (LeO.bind (LeO.refl _) (fun n => LeO.bind (LeO.refl _) (fun fr => LeO.bind (thr.mono _ _ _ _ _ _ _ _ _ _ _) (fun R => LeO.refl _)))) (LeO.refl _))
set_option maxHeartbeats 8000000 in
set_option maxRecDepth 100000 in
theorem impl_thread.no (m0 m1 m2 st : Int) (w : World) (hin : impl_isIn.f m0 m1 m2 [st] = some false) :
  Calls Try.prog 26 #[.agg #[.int .i64 m0, .int .i64 m1, .int .i64 m2], .int .i64 st] w fun e w' => e = .returned (.pointer none) ∧ Below w.heap.size w w' := by
 have HB := Aside0.mk (Below.refl w.heap.size w)
 have A3 := Aside0.mk hin
 clear hin
 have hu29 := Try.underlying28
 obtain ⟨y502, hy502⟩ : ∃ y_ : List Int, y_ = (([st] : List Int)) := ⟨_, rfl⟩
 rw [← hy502] at A3
 have Ny502 := Aside0.mk hy502
 clear hy502
 go_enter Try.func26, Try.ntmps26
 go_wp2_with (first | (refine box_ (N := 2) (cs := #[.int .i64 m0, .int .i64 m1, .int .i64 m2]) (t := 28) ?_; intro gb501 hg w5 hbox hb; have BK501 := Aside0.mk hbox; have GE501 := HB.g0 hg; replace HB := HB.s0 hb; clear hb hbox hg; obtain ⟨hcz6_0, hcz6_1, hcz6_2⟩ := cz3_ BK501.out) | ((with_reducible refine gate_dst (N := 8) rfl ?_); refine Kd.R_lit (Kd.int .i64) _ 3 ?hg (N := 8) ?hd (xs := ([st] : List Int)) (inner := [.int .i64 st]) (ok := fun _ => True) (okp := fun _ => True) ?hr ?hp (fun _ hk => hk) trivial (Below.refl _ _) (Nat.le_refl _) (by simp) ?_; (case hd => rfl); (case hg => rfl); (case hr => first | (go_simp; done) | (go_simp; rfl)); (case hp => exact (Reps.one (show Kd.M (Kd.int .i64) _ _ _ st [.int .i64 st] from rfl) (Reps.none _ _))); intro v503 w7 ho8 hb hg_ hnew_; clear hg_ hnew_; (first | rw [← Ny502.out] at ho8 | (simp only [Int.reduceToNat] at ho8; rw [← Ny502.out] at ho8)); have HO504 := Aside0.mk (Kd.R_lower ho8 (below_size (hb1_ HB.out GE501.out))); replace BK501 := BK501.bb hb; replace HB := HB.s1 GE501 hb; clear hb ho8; obtain ⟨Ao9, co9, eo9⟩ := Kd.R_slice HO504.out; subst eo9) | (refine gl_ 9 Try.func47 #[.agg #[.int .i64 m0, .int .i64 m1, .int .i64 m2], .slice Ao9 y502.length co9] ?_; (with_reducible refine (impl_isIn.calls m0 m1 m2 _ _ y502 false _ ?side1 ?side2 A3.out).mono ?_); (case side1 => exact kc_ (Kd.R_reads' HO504.out).2.2); (case side2 => exact (Kd.R_reads' HO504.out).2.1); rintro e w10 ⟨rfl, hb⟩; refine ⟨_, rfl, ?_⟩; clear HO504; replace BK501 := BK501.bb hb; replace HB := HB.s1 GE501 hb; clear hb))
 go_ret
 exact ⟨rfl, hb1_ HB.out GE501.out⟩
set_option maxHeartbeats 8000000 in
set_option maxRecDepth 100000 in
theorem impl_thread.yes (k : Nat) (m0 m1 m2 st n : Int) (fr : List Int) (R : List Int × List Int × Int) (w : World) (hin : impl_isIn.f m0 m1 m2 [st] = some true) (hn : impl_CountCells.f m0 m1 = some n) (hr : slices_Repeat_int_int.f [-1] n = some fr) (ht : thr.l0 k m0 m1 m2 st st 0 0 [st] fr (mx 0 0) = some R) :
  Calls Try.prog 26 #[.agg #[.int .i64 m0, .int .i64 m1, .int .i64 m2], .int .i64 st] w fun e w' => ∃ (g gf cf : Nat) (vc : Value), e = .returned (.pointer (some ⟨g, 0, none⟩)) ∧ TS w w' g gf cf vc R.1 R.2.1 R.2.2 := by
 have HB := Aside0.mk (Below.refl w.heap.size w)
 have A3 := Aside0.mk hin
 have AN := Aside0.mk hn
 have AR0 := Aside0.mk hr
 have AT0 := Aside0.mk ht
 have hlen : 1 ≤ fr.length := by
  unfold slices_Repeat_int_int.f at hr
  split at hr
  ·rename_i q
   rw [← Option.some.inj hr, List.length_replicate]
   omega
  ·cases hr
 have HL := Aside0.mk hlen
 clear hin hn hr ht hlen
 have hu29 := Try.underlying28
 have hu82 := Try.underlying59
 obtain ⟨y502, hy502⟩ : ∃ y_ : List Int, y_ = (([st] : List Int)) := ⟨_, rfl⟩
 rw [← hy502] at A3
 have Ny502 := Aside0.mk hy502
 clear hy502
 obtain ⟨y1, hy1⟩ : ∃ y_ : List Int, y_ = (([st] : List Int)) := ⟨_, rfl⟩
 have AT := Aside0.mk (by rw [hy1]; exact AT0.out : thr.l0 k m0 m1 m2 st st 0 0 y1 fr (mx 0 0) = some R)
 have Ny1 := Aside0.mk hy1
 obtain ⟨y2, hy2⟩ : ∃ y_ : List Int, y_ = (([-1] : List Int)) := ⟨_, rfl⟩
 have AR := Aside0.mk (by rw [hy2]; exact AR0.out : slices_Repeat_int_int.f y2 n = some fr)
 have Ny2 := Aside0.mk hy2
 clear hy1 hy2 AT0 AR0
 go_enter Try.func26, Try.ntmps26
 go_upto_region 3 with (first | (refine box_ (N := 2) (cs := #[.int .i64 m0, .int .i64 m1, .int .i64 m2]) (t := 28) ?_; intro gb501 hg w5 hbox hb; have BK501 := Aside0.mk hbox; have GE501 := HB.g0 hg; replace HB := HB.s0 hb; clear hb hbox hg; obtain ⟨hcz6_0, hcz6_1, hcz6_2⟩ := cz3_ BK501.out) | ((with_reducible refine gate_dst (N := 8) rfl ?_); refine Kd.R_lit (Kd.int .i64) _ 3 ?hg (N := 8) ?hd (xs := ([st] : List Int)) (inner := [.int .i64 st]) (ok := fun _ => True) (okp := fun _ => True) ?hr ?hp (fun _ hk => hk) trivial (Below.refl _ _) (Nat.le_refl _) (by simp) ?_; (case hd => rfl); (case hg => rfl); (case hr => first | (go_simp; done) | (go_simp; rfl)); (case hp => exact (Reps.one (show Kd.M (Kd.int .i64) _ _ _ st [.int .i64 st] from rfl) (Reps.none _ _))); intro v503 w7 ho8 hb hg_ hnew_; clear hg_ hnew_; (first | rw [← Ny502.out] at ho8 | (simp only [Int.reduceToNat] at ho8; rw [← Ny502.out] at ho8)); have HO504 := Aside0.mk (Kd.R_lower ho8 (below_size (hb1_ HB.out GE501.out))); replace BK501 := BK501.bb hb; replace HB := HB.s1 GE501 hb; clear hb ho8; obtain ⟨Ao9, co9, eo9⟩ := Kd.R_slice HO504.out; subst eo9) | (refine gl_ 9 Try.func47 #[.agg #[.int .i64 m0, .int .i64 m1, .int .i64 m2], .slice Ao9 y502.length co9] ?_; (with_reducible refine (impl_isIn.calls m0 m1 m2 _ _ y502 true _ ?side1 ?side2 A3.out).mono ?_); (case side1 => exact kc_ (Kd.R_reads' HO504.out).2.2); (case side2 => exact (Kd.R_reads' HO504.out).2.1); rintro e w10 ⟨rfl, hb⟩; refine ⟨_, rfl, ?_⟩; clear HO504; replace BK501 := BK501.bb hb; replace HB := HB.s1 GE501 hb; clear hb))
 clear hcz6_0 hcz6_1 hcz6_2
 obtain ⟨z0, z1, z2⟩ := cz3_ BK501.out
 go_wp2_with (first | ((with_reducible refine gate_dst (N := 12) rfl ?_); refine Kd.R_lit (Kd.int .i64) _ 3 ?hg (N := 12) ?hd (xs := ([st] : List Int)) (inner := [.int .i64 st]) (ok := fun _ => True) (okp := fun _ => True) ?hr ?hp (fun _ hk => hk) trivial (Below.refl _ _) (Nat.le_refl _) (by simp) ?_; (case hd => rfl); (case hg => rfl); (case hr => first | (go_simp; done) | (go_simp; rfl)); (case hp => exact (Reps.one (show Kd.M (Kd.int .i64) _ _ _ st [.int .i64 st] from rfl) (Reps.none _ _))); intro v12 w12 ho hb hg_ hnew_; clear hg_ hnew_; (first | rw [← Ny1.out] at ho | (simp only [Int.reduceToNat] at ho; rw [← Ny1.out] at ho)); have HC := Aside0.mk (Kd.R_lower ho (below_size (hb1_ HB.out GE501.out))); replace BK501 := BK501.bb hb; replace HB := HB.s1 GE501 hb; clear hb ho; obtain ⟨Ac, cc, ec⟩ := Kd.R_slice HC.out; subst ec) | ((with_reducible refine gate_dst (N := 13) rfl ?_); refine Kd.R_lit (Kd.int .i64) _ 3 ?hg (N := 13) ?hd (xs := ([(-1)] : List Int)) (inner := [.int .i64 (-1)]) (ok := fun _ => True) (okp := fun _ => True) ?hr ?hp (fun _ hk => hk) trivial (Below.refl _ _) (Nat.le_refl _) (by simp) ?_; (case hd => rfl); (case hg => rfl); (case hr => first | (go_simp; done) | (go_simp; rfl)); (case hp => exact (Reps.one (show Kd.M (Kd.int .i64) _ _ _ (-1) [.int .i64 (-1)] from rfl) (Reps.none _ _))); intro v13 w13 ho hb hg_ hnew_; clear hg_ hnew_; (first | rw [← Ny2.out] at ho | (simp only [Int.reduceToNat] at ho; rw [← Ny2.out] at ho)); have HD := Aside0.mk (Kd.R_lower ho (below_size (hb1_ HB.out GE501.out))); replace HC := HC.kb hb; replace BK501 := BK501.bb hb; replace HB := HB.s1 GE501 hb; clear hb ho; obtain ⟨Ad, cd, ed⟩ := Kd.R_slice HD.out; subst ed; obtain ⟨q0, q1, q2⟩ := cz3_ BK501.out) | (refine gl_ 16 Try.func49 #[.agg #[.int .i64 m0, .int .i64 m1]] ?_; (with_reducible refine (impl_CountCells.calls m0 m1 n _ AN.out).mono ?_); rintro e w16 ⟨rfl, hb⟩; refine ⟨_, rfl, ?_⟩; replace HC := HC.kb hb; replace HD := HD.kb hb; replace BK501 := BK501.bb hb; replace HB := HB.s1 GE501 hb; clear hb) | (refine gl_ 17 Try.func48 #[.slice Ad y2.length cd, .int .i64 n] ?_; (with_reducible refine (slices_Repeat_int_int.calls _ _ y2 n fr _ ?side1 ?side2 AR.out).mono ?_); (case side1 => exact kc_ (Kd.R_reads' HD.out).2.2); (case side2 => exact (Kd.R_reads' HD.out).2.1); rintro e w17 ⟨v17, rfl, ho, hb⟩; refine ⟨_, rfl, ?_⟩; have HE := Aside0.mk (Kd.R_lower ho (below_size (hb1_ HB.out GE501.out))); replace HC := Aside0.mk (Kd.R_elder' (kr_ HC.out) (Kd.R_base ho) hb); replace BK501 := BK501.bb hb; replace HB := HB.s1 GE501 hb; clear hb ho HD; obtain ⟨gf, cf, ef, gfb, gfl, _⟩ := Kd.R_form HE.out (by have := HL.out; omega); subst ef; have GFB := Aside0.mk gfb; have GFL := Aside0.mk gfl; clear gfb gfl) | (refine box_ (N := 19) (cs := #[.slice Ac y1.length cc, .slice (some ⟨gf, 0, none⟩) fr.length cf, .int .i64 0]) (t := 59) ?_; intro g hg w19 hbox hb; have HTS := Aside0.mk (TS.made HC.out HE.out GFB.out GFL.out hg hbox hb HB.out); replace BK501 := BK501.bb hb; clear hb hg hbox HC HE; obtain ⟨r0, r1, r2⟩ := cz3_ BK501.out) | (go_at_call 50; refine (threaded_walk.calls k g gf cf m0 m1 m2 st st 0 (.slice Ac y1.length cc) y1 fr 0 R w w19 HTS.out AT.out).mono ?_; rintro e w20 ⟨vr, vc2, rfl, hT, hK⟩; replace HTS := Aside0.mk hT; clear hT hK))
 go_ret
 exact ⟨g, gf, cf, vc2, rfl, HTS.out⟩
theorem thread_split {k : Nat} {m0 m1 m2 st : Int} {r : Option (List Int × List Int × Int)} (h : impl_thread.f k m0 m1 m2 st = some r) : (r = none ∧ impl_isIn.f m0 m1 m2 [st] = some false) ∨ ∃ n fr R, r = some R ∧ impl_isIn.f m0 m1 m2 [st] = some true ∧ impl_CountCells.f m0 m1 = some n ∧ slices_Repeat_int_int.f [-1] n = some fr ∧ thr.l0 k m0 m1 m2 st st 0 0 [st] fr (mx 0 0) = some R := by
 unfold impl_thread.f at h
 obtain ⟨t, ht, h⟩ := Option.bind_eq_some_iff.mp h
 by_cases c : t = true
 ·subst c
  rw [if_pos rfl] at h
  obtain ⟨n, hn, h⟩ := Option.bind_eq_some_iff.mp h
  obtain ⟨fr, hf, h⟩ := Option.bind_eq_some_iff.mp h
  obtain ⟨R, hR, h⟩ := Option.bind_eq_some_iff.mp h
  exact .inr ⟨n, fr, R, (Option.some.inj h).symm, ht, hn, hf, hR⟩
 ·rw [if_neg c] at h
  have c' : t = false := by simpa using c
  subst c'
  exact .inl ⟨(Option.some.inj h).symm, ht⟩

end Go.Proofs.Ytjmbnlemfdjkfaa.X
