/- Popping circles: in whatever order circles are popped, the end is the same. -/

import Derived.Test.YtnipocpbpcaepaaX0
namespace Go.Proofs.Ytnipocpbpcaepaa.L
set_option linter.unusedSimpArgs false
set_option linter.unusedVariables false

def It (f : Int → Int) : Nat → Int → Int
  | 0, x => x
  | n + 1, x => It f n (f x)
theorem It_add (f : Int → Int) : ∀ (m n : Nat) (x : Int), It f n (It f m x) = It f (m + n) x
  | 0, n, x => by rw [Nat.zero_add]; rfl
  | m + 1, n, x => by rw [show m + 1 + n = (m + n) + 1 by omega]; exact It_add f m n (f x)
def On (f : Int → Int) (x y : Int) : Prop := ∃ n, It f n x = y
def Cyc (f : Int → Int) (x : Int) : Prop := ∃ n, It f (n + 1) x = x
theorem On.refl (f : Int → Int) (x : Int) : On f x x := ⟨0, rfl⟩
theorem On.trans {f : Int → Int} {x y z : Int} (a : On f x y) (b : On f y z) : On f x z := by
  obtain ⟨m, rfl⟩ := a
  obtain ⟨n, rfl⟩ := b
  exact ⟨m + n, (It_add f m n x).symm⟩
theorem It_period {f : Int → Int} {x : Int} {p : Nat} (h : It f p x = x) : ∀ k : Nat, It f (p * k) x = x
  | 0 => rfl
  | k + 1 => by rw [show p * (k + 1) = p + p * k by rw [Nat.mul_succ, Nat.add_comm], ← It_add, h]; exact It_period h k
theorem Cyc.back {f : Int → Int} {x y : Int} (c : Cyc f x) (o : On f x y) : On f y x := by
  obtain ⟨p, hp⟩ := c
  obtain ⟨n, rfl⟩ := o
  refine ⟨(p + 1) * (n + 1) - n, ?_⟩
  have hge : n ≤ (p + 1) * (n + 1) := by
    have := Nat.le_mul_of_pos_left (n + 1) (show 0 < p + 1 by omega)
    omega
  rw [It_add, show n + ((p + 1) * (n + 1) - n) = (p + 1) * (n + 1) by omega]
  exact It_period hp (n + 1)
theorem Cyc.same {f : Int → Int} {x z y : Int} (cx : Cyc f x) (cz : Cyc f z) (a : On f x y) (b : On f z y) (t : Int) : On f x t ↔ On f z t := by
  have xz : On f x z := a.trans (cz.back b)
  have zx : On f z x := b.trans (cx.back a)
  exact ⟨fun h => zx.trans h, fun h => xz.trans h⟩
section
variable (nx : Int → Int → Int) (ok : Int → Int → Prop)
/-- Where the arrows on top lead. -/
def top (u : Int → Int) (x : Int) : Int := nx x (u x)
/-- A circle that can be popped. -/
structure Loop (u : Int → Int) (x : Int) : Prop where
  cyc : Cyc (top nx u) x
  all : ∀ y, On (top nx u) x y → ok y (u y)
open Classical in
noncomputable def popC (u : Int → Int) (x : Int) : Int → Int := fun y => if On (top nx u) x y then u y + 1 else u y
inductive Pops : Nat → (Int → Int) → (Int → Int) → Prop
  | done (u : Int → Int) : Pops 0 u u
  | pop {n : Nat} {u v : Int → Int} {x : Int} : Loop nx ok u x → Pops n (popC nx u x) v → Pops (n + 1) u v
end
variable {nx : Int → Int → Int} {ok : Int → Int → Prop}
theorem popC_on {u : Int → Int} {x y : Int} (h : On (top nx u) x y) : popC nx u x y = u y + 1 := by unfold popC; exact if_pos h
theorem popC_off {u : Int → Int} {x y : Int} (h : ¬ On (top nx u) x y) : popC nx u x y = u y := by unfold popC; exact if_neg h
theorem It_same {f g : Int → Int} {x : Int} (h : ∀ y, On f x y → g y = f y) : ∀ n, It g n x = It f n x := by
  intro n
  have key : ∀ m, ∀ j, It g m (It f j x) = It f (j + m) x := by
    intro m
    induction m with
    | zero => intro j; rfl
    | succ m ih =>
      intro j
      show It g m (g (It f j x)) = _
      rw [h _ ⟨j, rfl⟩, show f (It f j x) = It f (j + 1) x from (It_add f j 1 x), ih (j + 1)]
      congr 1
      omega
  have := key n 0
  rw [Nat.zero_add] at this
  exact this
theorem On_same {f g : Int → Int} {x : Int} (h : ∀ y, On f x y → g y = f y) (y : Int) : On g x y ↔ On f x y := by
  constructor
  · rintro ⟨n, e⟩; exact ⟨n, by rw [← It_same h n]; exact e⟩
  · rintro ⟨n, e⟩; exact ⟨n, by rw [It_same h n]; exact e⟩
/-- A circle beside the one that was popped is still there. -/
theorem Loop.beside {u : Int → Int} {x z : Int} (lx : Loop nx ok u x) (hd : ∀ y, On (top nx u) x y → ¬ On (top nx u) z y) :
    Loop nx ok (popC nx u z) x ∧ ∀ y, On (top nx (popC nx u z)) x y ↔ On (top nx u) x y := by
  have e : ∀ y, On (top nx u) x y → top nx (popC nx u z) y = top nx u y := fun y hy => by unfold top; rw [popC_off (hd y hy)]
  have eo := On_same e
  obtain ⟨n, hn⟩ := lx.cyc
  refine ⟨⟨⟨n, by rw [It_same e]; exact hn⟩, fun y hy => ?_⟩, eo⟩
  have hy' := (eo y).1 hy
  rw [popC_off (hd y hy')]
  exact lx.all y hy'
theorem Pops.first {n : Nat} : ∀ {u v : Int → Int} {x : Int}, Pops nx ok n u v → (∀ y, ¬ Loop nx ok v y) → Loop nx ok u x → ∃ m, n = m + 1 ∧ Pops nx ok m (popC nx u x) v := by
  induction n with
  | zero =>
    intro u v x p hv lx
    cases p
    exact absurd lx (hv x)
  | succ n ih =>
    intro u v x p hv lx
    cases p with
    | pop lz q =>
      rename_i z
      refine ⟨n, rfl, ?_⟩
      by_cases hm : ∃ y, On (top nx u) x y ∧ On (top nx u) z y
      · obtain ⟨y, a, b⟩ := hm
        have e : popC nx u x = popC nx u z := by
          funext t
          have := lx.cyc.same lz.cyc a b t
          by_cases h : On (top nx u) x t
          · rw [popC_on h, popC_on (this.1 h)]
          · rw [popC_off h, popC_off fun k => h (this.2 k)]
        rw [e]
        exact q
      · have hd : ∀ y, On (top nx u) x y → ¬ On (top nx u) z y := fun y a b => hm ⟨y, a, b⟩
        have hd' : ∀ y, On (top nx u) z y → ¬ On (top nx u) x y := fun y a b => hm ⟨y, b, a⟩
        obtain ⟨lx', ox⟩ := lx.beside hd
        obtain ⟨lz', oz⟩ := lz.beside hd'
        obtain ⟨m, rfl, q'⟩ := ih q hv lx'
        refine .pop lz' ?_
        have e : popC nx (popC nx u x) z = popC nx (popC nx u z) x := by
          funext t
          by_cases h : On (top nx u) x t
          · rw [popC_off (fun k => hd t h ((oz t).1 k)), popC_on h, popC_on ((ox t).2 h), popC_off (hd t h)]
          · by_cases k : On (top nx u) z t
            · rw [popC_on ((oz t).2 k), popC_off h, popC_off (fun j => h ((ox t).1 j)), popC_on k]
            · rw [popC_off (fun j => k ((oz t).1 j)), popC_off h, popC_off (fun j => h ((ox t).1 j)), popC_off k]
        rw [e]
        exact q'
theorem Pops.reach {m : Nat} : ∀ {n : Nat} {u v u' : Int → Int}, Pops nx ok n u v → (∀ y, ¬ Loop nx ok v y) → Pops nx ok m u u' → ∃ j, Pops nx ok j u' v := by
  induction m with
  | zero => intro n u v u' p hv q; cases q; exact ⟨n, p⟩
  | succ m ih =>
    intro n u v u' p hv q
    cases q with
    | pop lx q =>
      obtain ⟨k, rfl, p'⟩ := p.first hv lx
      exact ih p' hv q
theorem Pops.snoc {n : Nat} : ∀ {u v : Int → Int} {x : Int}, Pops nx ok n u v → Loop nx ok v x → Pops nx ok (n + 1) u (popC nx v x) := by
  induction n with
  | zero => intro u v x p l; cases p; exact .pop l (.done _)
  | succ n ih =>
    intro u v x p l
    cases p with
    | pop lz q => exact .pop lz (ih q l)
theorem Pops.le {n : Nat} : ∀ {u v : Int → Int}, Pops nx ok n u v → ∀ y, u y ≤ v y := by
  induction n with
  | zero => intro u v p y; cases p; exact Int.le_refl _
  | succ n ih =>
    intro u v p y
    cases p with
    | pop lz q =>
      rename_i z
      have := ih q y
      by_cases h : On (top nx u) z y
      · rw [popC_on h] at this; omega
      · rw [popC_off h] at this; exact this
/-- Two ends are one. -/
theorem Pops.one {m n : Nat} {u v v' : Int → Int} (p : Pops nx ok n u v) (hv : ∀ y, ¬ Loop nx ok v y) (q : Pops nx ok m u v') (hv' : ∀ y, ¬ Loop nx ok v' y) : v = v' := by
  obtain ⟨j, r⟩ := p.reach hv q
  cases r with
  | done => rfl
  | pop l _ => exact absurd l (hv' _)
end Go.Proofs.Ytnipocpbpcaepaa.L
