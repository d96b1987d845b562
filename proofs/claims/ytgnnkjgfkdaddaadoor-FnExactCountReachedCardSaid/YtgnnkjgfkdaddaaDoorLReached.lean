/- The lists of cells that visitors can reach: the program's search (a set of texts, a queue) and the reference's (marks, a list) go through the same lists in the same order. -/
import Derived.Test.YtgnnkjgfkdaddaaDoorXimplCountReached
import Derived.Test.YtgnnkjgfkdaddaaDoorXimplCrowdOk
import Derived.Test.YtgnnkjgfkdaddaaDoorXimplFormatInt
import Derived.Test.YtgnnkjgfkdaddaaDoorXimplMoveOne
import Derived.Test.YtgnnkjgfkdaddaaDoorXimplkeyOf
import Derived.Test.YtgnnkjgfkdaddaaDoorXspecCountReached
import Derived.Test.YtgnnkjgfkdaddaaDoorXspecCrowdOk
import Derived.Test.YtgnnkjgfkdaddaaDoorXspecMoveOne
import Derived.Test.YtgnnkjgfkdaddaaDoorXspecl31Key
import Derived.Test.YtgnnkjgfkdaddaaDoorXspecl31Search
import Derived.Test.YtgnnkjgfkdaddaaDoorLCrowd
namespace Go.Proofs.YtgnnkjgfkdaddaaDoor.L
open Go.RowKit Go.Proofs.YtgnnkjgfkdaddaaDoor.X Go.Proofs.YtgnnkjgfkdaddaaDoorW.PrintWords Go.Proofs.YtgnnkjgfkdaddaaDoorW.PrintLast Go.Proofs.YtgnnkjgfkdaddaaDoorW.PrintMore
set_option linter.unusedSimpArgs false
set_option linter.unusedVariables false

theorem nodupI_le : ∀ (n : Nat) (l : List Int), l.Nodup → (∀ x ∈ l, 0 ≤ x ∧ x < (n : Int)) → l.length ≤ n
  | 0, l, _, h => by
    cases l with
    | nil => simp
    | cons x l => have := h x List.mem_cons_self; omega
  | n + 1, l, hn, h => by
    by_cases e : ((n : Nat) : Int) ∈ l
    · have h1 := nodupI_le n (l.erase (n : Int)) (hn.erase _) (fun x hx => by
        have h2 := (hn.mem_erase_iff).1 hx
        have h3 := h x h2.2
        have h4 := h2.1
        omega)
      rw [List.length_erase_of_mem e] at h1
      omega
    · have := nodupI_le n l hn (fun x hx => by
        have h3 := h x hx
        have h4 : x ≠ (n : Int) := fun z => e (z ▸ hx)
        omega)
      omega
/-- A list of m cells of a small maze. -/
def gd (w h : Int) (m : Nat) (x : List Int) : Prop := x.length = m ∧ ∀ c ∈ x, 0 ≤ c ∧ c < 9
/-- Its text, byte by byte. -/
def keyI : List Int → List UInt8
  | [] => []
  | c :: l => UInt8.ofNat (48 + c.toNat) :: 32 :: keyI l
theorem dig_inj : ∀ a b : Fin 9, UInt8.ofNat (48 + a.val) = UInt8.ofNat (48 + b.val) → a = b := by decide
theorem keyI_inj : ∀ (x y : List Int), (∀ c ∈ x, 0 ≤ c ∧ c < 9) → (∀ c ∈ y, 0 ≤ c ∧ c < 9) → keyI x = keyI y → x = y
  | [], [], _, _, _ => rfl
  | [], _ :: _, _, _, e => by cases e
  | _ :: _, [], _, _, e => by cases e
  | a :: x, b :: y, hx, hy, e => by
    have ha := hx a List.mem_cons_self
    have hb := hy b List.mem_cons_self
    rw [keyI, keyI] at e
    injection e with e1 e2
    injection e2 with _ e3
    have h1 := dig_inj ⟨a.toNat, by omega⟩ ⟨b.toNat, by omega⟩ e1
    have h2 := congrArg Fin.val h1
    have h3 : a = b := by
      have : a.toNat = b.toNat := h2
      omega
    rw [h3, keyI_inj x y (fun c hc => hx c (List.mem_cons_of_mem _ hc)) (fun c hc => hy c (List.mem_cons_of_mem _ hc)) e3]
theorem iFormat {c : Int} (h0 : 0 ≤ c) (h1 : c < 9) : impl_FormatInt.f c = some (itoa_digit c) := by
  unfold impl_FormatInt.f strconv_Itoa.f
  rw [if_pos h0, if_pos (show c < 10 by omega)]
  rfl
theorem drop_rdI {l : List Int} {i : Int} (h0 : 0 ≤ i) (h1 : i < (l.length : Int)) : l.drop i.toNat = rd l i :: l.drop (i + 1).toNat := by
  have e : rd l i = l[i.toNat]'(by omega) := by
    unfold rd
    rw [List.getD_eq_getElem?_getD, List.getElem?_eq_getElem (show i.toNat < l.length by omega)]
    rfl
  rw [e, List.drop_eq_getElem_cons (by omega), show (i + 1).toNat = i.toNat + 1 by omega]
theorem rd_memI {l : List Int} {i : Int} (h0 : 0 ≤ i) (h1 : i < (l.length : Int)) : rd l i ∈ l := by
  have e : rd l i = l[i.toNat]'(by omega) := by
    unfold rd
    rw [List.getD_eq_getElem?_getD, List.getElem?_eq_getElem (show i.toNat < l.length by omega)]
    rfl
  rw [e]
  exact List.getElem_mem _
theorem keyOf_go (l : List Int) (hc : ∀ c ∈ l, 0 ≤ c ∧ c < 9) (hl : l.length ≤ 100) : ∀ (d k : Nat) (i : Int) (acc : ByteArray), 0 ≤ i → i ≤ (l.length : Int) → (l.length : Int) - i = d → d < k → acc.size + 2 * d ≤ 1000 →
    ∃ r, impl_keyOf.l0 k acc l (l.length : Int) i = some r ∧ r.data.toList = acc.data.toList ++ keyI (l.drop i.toNat) ∧ r.size = acc.size + 2 * d := by
  intro d
  induction d with
  | zero =>
    intro k i acc h0 h1 hd hk ha
    obtain ⟨k, rfl⟩ : ∃ m, k = m + 1 := ⟨k - 1, by omega⟩
    rw [impl_keyOf.l0, if_neg (by omega)]
    exact ⟨acc, rfl, by rw [List.drop_of_length_le (by omega)]; simp [keyI], by omega⟩
  | succ d ih =>
    intro k i acc h0 h1 hd hk ha
    obtain ⟨k, rfl⟩ : ∃ m, k = m + 1 := ⟨k - 1, by omega⟩
    have hm := hc _ (rd_memI h0 (show i < (l.length : Int) by omega))
    have hw : wrap64 (i + 1) = i + 1 := w64 (by omega) (by omega)
    have hds : (itoa_digit (rd l i)).size = 1 := rfl
    have hap : (itoa_digit (rd l i) ++ (⟨#[32]⟩ : ByteArray)).size = 2 := by rw [ByteArray.size_append, hds]; rfl
    rw [impl_keyOf.l0, if_pos (by omega), if_pos h0, if_pos (by omega), iFormat hm.1 hm.2, Option.bind_some, if_pos (by rw [hds]; omega), if_pos (by rw [hap]; omega), hw]
    obtain ⟨r, e1, e2, e3⟩ := ih k (i + 1) (acc ++ (itoa_digit (rd l i) ++ (⟨#[32]⟩ : ByteArray))) (by omega) (by omega) (by omega) (by omega) (by rw [ByteArray.size_append, hap]; omega)
    refine ⟨r, e1, ?_, by rw [e3, ByteArray.size_append, hap]; omega⟩
    rw [e2, drop_rdI h0 (by omega), keyI, ByteArray.data_append, ByteArray.data_append, Array.toList_append, Array.toList_append]
    simp [itoa_digit]
theorem iKeyOf (k : Nat) (l : List Int) (hc : ∀ c ∈ l, 0 ≤ c ∧ c < 9) (hl : l.length ≤ 100) (hk : 101 ≤ k) : ∃ r, impl_keyOf.f k l = some r ∧ r.data.toList = keyI l ∧ r.size ≤ maxLen := by
  obtain ⟨r, e1, e2, e3⟩ := keyOf_go l hc hl l.length k 0 ⟨#[]⟩ (by omega) (by omega) (by omega) (by omega) (by show 0 + 2 * l.length ≤ 1000; omega)
  refine ⟨r, e1, by simpa using e2, ?_⟩
  have : r.size = 0 + 2 * l.length := e3
  have hmx : 1000 ≤ maxLen := by decide
  omega
/-- The reference's number of a list. -/
def keyN (l : List Int) : Int := l.foldl (fun n c => n * 16 + c) 1
theorem sKey (k m : Nat) (l : List Int) (hm : m ≤ 3) (hg : l.length = m ∧ ∀ c ∈ l, 0 ≤ c ∧ c < 9) (hk : 5 ≤ k) : spec_l31Key.f k l = some (keyN l) := by
  obtain ⟨k, rfl⟩ : ∃ z, k = z + 5 := ⟨k - 5, by omega⟩
  obtain ⟨hl, hc⟩ := hg
  match l, hl, hc with
  | [], _, _ => rfl
  | [a], _, hc =>
    have ha := hc a (by simp)
    have e1 : wrap64 (wrap64 (1 * 16) + a) = 16 + a := by rw [show wrap64 (1 * 16) = 16 from w64 (by omega) (by omega)]; exact w64 (by omega) (by omega)
    unfold spec_l31Key.f
    rw [spec_l31Key.l0, if_pos (by simp), if_pos (by omega), show rd [a] 0 = a from rfl, e1, show wrap64 (0 + 1) = 1 from w64 (by omega) (by omega), spec_l31Key.l0, if_neg (by simp)]
    simp [keyN]
  | [a, b], _, hc =>
    have ha := hc a (by simp)
    have hb := hc b (by simp)
    have e1 : wrap64 (wrap64 (1 * 16) + a) = 16 + a := by rw [show wrap64 (1 * 16) = 16 from w64 (by omega) (by omega)]; exact w64 (by omega) (by omega)
    have e2 : wrap64 (wrap64 ((16 + a) * 16) + b) = (16 + a) * 16 + b := by rw [w64 (x := (16 + a) * 16) (by omega) (by omega)]; exact w64 (by omega) (by omega)
    unfold spec_l31Key.f
    rw [spec_l31Key.l0, if_pos (by simp), if_pos (by omega), show rd [a, b] 0 = a from rfl, e1, show wrap64 (0 + 1) = 1 from w64 (by omega) (by omega), spec_l31Key.l0, if_pos (by simp), if_pos (by omega), show rd [a, b] 1 = b from rfl, e2, show wrap64 (1 + 1) = 2 from w64 (by omega) (by omega), spec_l31Key.l0, if_neg (by simp)]
    simp [keyN]
  | [a, b, c], _, hc =>
    have ha := hc a (by simp)
    have hb := hc b (by simp)
    have hcc := hc c (by simp)
    have e1 : wrap64 (wrap64 (1 * 16) + a) = 16 + a := by rw [show wrap64 (1 * 16) = 16 from w64 (by omega) (by omega)]; exact w64 (by omega) (by omega)
    have e2 : wrap64 (wrap64 ((16 + a) * 16) + b) = (16 + a) * 16 + b := by rw [w64 (x := (16 + a) * 16) (by omega) (by omega)]; exact w64 (by omega) (by omega)
    have e3 : wrap64 (wrap64 (((16 + a) * 16 + b) * 16) + c) = ((16 + a) * 16 + b) * 16 + c := by rw [w64 (x := ((16 + a) * 16 + b) * 16) (by omega) (by omega)]; exact w64 (by omega) (by omega)
    unfold spec_l31Key.f
    rw [spec_l31Key.l0, if_pos (by simp), if_pos (by omega), show rd [a, b, c] 0 = a from rfl, e1, show wrap64 (0 + 1) = 1 from w64 (by omega) (by omega), spec_l31Key.l0, if_pos (by simp), if_pos (by omega), show rd [a, b, c] 1 = b from rfl, e2, show wrap64 (1 + 1) = 2 from w64 (by omega) (by omega), spec_l31Key.l0, if_pos (by simp), if_pos (by omega), show rd [a, b, c] 2 = c from rfl, e3, show wrap64 (2 + 1) = 3 from w64 (by omega) (by omega), spec_l31Key.l0, if_neg (by simp)]
    simp [keyN]
  | a :: b :: c :: d :: r, hl, _ => simp at hl; omega
theorem keyN_range (m : Nat) (l : List Int) (hm : m ≤ 3) (hg : l.length = m ∧ ∀ c ∈ l, 0 ≤ c ∧ c < 9) : 0 ≤ keyN l ∧ keyN l < 2 ^ (4 * m + 1) := by
  obtain ⟨hl, hc⟩ := hg
  match l, hl, hc with
  | [], hl, _ => simp at hl; subst hl; decide
  | [a], hl, hc =>
    have ha := hc a (by simp)
    simp at hl; subst hl
    simp [keyN]; omega
  | [a, b], hl, hc =>
    have ha := hc a (by simp)
    have hb := hc b (by simp)
    simp at hl; subst hl
    simp [keyN]; omega
  | [a, b, c], hl, hc =>
    have ha := hc a (by simp)
    have hb := hc b (by simp)
    have hcc := hc c (by simp)
    simp at hl; subst hl
    simp [keyN]; omega
  | a :: b :: c :: d :: r, hl, _ => simp at hl; omega
theorem keyN_inj (m : Nat) (x y : List Int) (hm : m ≤ 3) (hx : x.length = m ∧ ∀ c ∈ x, 0 ≤ c ∧ c < 9) (hy : y.length = m ∧ ∀ c ∈ y, 0 ≤ c ∧ c < 9) (e : keyN x = keyN y) : x = y := by
  obtain ⟨lx, cx⟩ := hx
  obtain ⟨ly, cy⟩ := hy
  match x, y, lx, ly, cx, cy, e with
  | [], [], _, _, _, _, _ => rfl
  | [a], [a'], _, _, cx, cy, e =>
    simp [keyN] at e
    rw [e]
  | [a, b], [a', b'], _, _, cx, cy, e =>
    have h1 := cx a (by simp); have h2 := cx b (by simp); have h3 := cy a' (by simp); have h4 := cy b' (by simp)
    simp [keyN] at e
    obtain rfl : a = a' := by omega
    obtain rfl : b = b' := by omega
    rfl
  | [a, b, c], [a', b', c'], _, _, cx, cy, e =>
    have h1 := cx a (by simp); have h2 := cx b (by simp); have h3 := cy a' (by simp); have h4 := cy b' (by simp); have h5 := cx c (by simp); have h6 := cy c' (by simp)
    simp [keyN] at e
    obtain rfl : a = a' := by omega
    obtain rfl : b = b' := by omega
    obtain rfl : c = c' := by omega
    rfl
  | [], _ :: _, lx, ly, _, _, _ => simp at lx ly; omega
  | _ :: _, [], lx, ly, _, _, _ => simp at lx ly; omega
  | [_], _ :: _ :: _, lx, ly, _, _, _ => simp at lx ly; omega
  | _ :: _ :: _, [_], lx, ly, _, _, _ => simp at lx ly; omega
  | [_, _], _ :: _ :: _ :: _, lx, ly, _, _, _ => simp at lx ly; omega
  | _ :: _ :: _ :: _, [_, _], lx, ly, _, _, _ => simp at lx ly; omega
  | _ :: _ :: _ :: _ :: _, _, lx, _, _, _, _ => simp at lx; omega
  | _, _ :: _ :: _ :: _ :: _, _, ly, _, _, _ => simp at ly; omega
/-- One step tried: what it comes to is added, if it is new. -/
def tryAdd (w h o : Int) (S : List (List Int)) (x : List Int) (who d : Int) : List (List Int) := if (moveOne w h o x who d).2 = true then (if (moveOne w h o x who d).1 ∈ S then S else S ++ [(moveOne w h o x who d).1]) else S
def adds (w h o : Int) (x : List Int) : Nat → Nat → List (List Int) → List (List Int)
  | 0, _, S => S
  | n + 1, i, S => adds w h o x n (i + 1) (tryAdd w h o S x ((i / 4 : Nat) : Int) ((i % 4 : Nat) : Int))
def srchN (w h o : Int) (m : Nat) : Nat → List (List Int) → Nat → List (List Int)
  | 0, S, _ => S
  | n + 1, S, k => if k < S.length then srchN w h o m n (adds w h o (S.getD k []) (4 * m) 0 S) (k + 1) else S
structure SI (w h : Int) (m : Nat) (S : List (List Int)) : Prop where
  good : ∀ y ∈ S, gd w h m y
  nod : S.Nodup
theorem adds_add (w h o : Int) (x : List Int) : ∀ (a b i : Nat) (S : List (List Int)), adds w h o x (a + b) i S = adds w h o x b (i + a) (adds w h o x a i S)
  | 0, b, i, S => by rw [Nat.zero_add, adds, Nat.add_zero]
  | a + 1, b, i, S => by
    rw [show a + 1 + b = (a + b) + 1 by omega, adds, adds, adds_add w h o x a b (i + 1), show i + 1 + a = i + (a + 1) by omega]
theorem moved_gd {w h o : Int} {m : Nat} {x : List Int} {who d : Int} (hc9 : cells w h ≤ 9) (hx : gd w h m x) (hm : (moveOne w h o x who d).2 = true) : gd w h m (moveOne w h o x who d).1 := by
  unfold moveOne at hm ⊢
  split
  · rename_i c
    refine ⟨by simpa using hx.1, fun e he => ?_⟩
    rcases List.mem_or_eq_of_mem_set he with e1 | e1
    · exact hx.2 e e1
    · subst e1
      rcases step_range w h o (rd x who) d with e2 | ⟨_, _, e2, _⟩
      · omega
      · unfold isCell at e2
        have := of_decide_eq_true e2
        omega
  · rename_i c
    rw [if_neg c] at hm
    cases hm
theorem SI.add {w h : Int} {m : Nat} {S : List (List Int)} (s : SI w h m S) {y : List Int} (hy : gd w h m y) (hn : y ∉ S) : SI w h m (S ++ [y]) := by
  refine ⟨fun z hz => ?_, ?_⟩
  · rcases List.mem_append.1 hz with e | e
    · exact s.good z e
    · rw [List.mem_singleton.1 e]; exact hy
  · rw [List.nodup_append]
    refine ⟨s.nod, by simp, fun a ha b hb e => ?_⟩
    rw [List.mem_singleton.1 hb] at e
    exact hn (e ▸ ha)
theorem SI.len {w h : Int} {m : Nat} {S : List (List Int)} (s : SI w h m S) (hm : m ≤ 3) : S.length ≤ 8192 := by
  have h1 : (S.map keyN).Nodup := by
    rw [List.Nodup, List.pairwise_map]
    exact (s.nod.imp_of_mem (fun {a b} ha hb hab => fun e => hab (keyN_inj m a b hm (s.good a ha) (s.good b hb) e)))
  have h2 := nodupI_le 8192 (S.map keyN) h1 (fun z hz => by
    obtain ⟨y, hy, rfl⟩ := List.mem_map.1 hz
    have := keyN_range m y hm (s.good y hy)
    have h3 : (2 : Int) ^ (4 * m + 1) ≤ 8192 := by
      rcases (show m = 0 ∨ m = 1 ∨ m = 2 ∨ m = 3 by omega) with rfl | rfl | rfl | rfl <;> decide
    omega)
  rwa [List.length_map] at h2
/-- The set of texts holds what the list holds. -/
def InL (w h : Int) (m : Nat) (L : List (List UInt8)) (S : List (List Int)) : Prop := L.length = S.length ∧ ∀ y, gd w h m y → (keyI y ∈ L ↔ y ∈ S)
theorem InL.add {w h : Int} {m : Nat} {L : List (List UInt8)} {S : List (List Int)} (i : InL w h m L S) {y : List Int} (hy : gd w h m y) : InL w h m (keyI y :: L) (S ++ [y]) := by
  refine ⟨by rw [List.length_cons, List.length_append, i.1]; rfl, fun z hz => ?_⟩
  rw [List.mem_cons, List.mem_append, List.mem_singleton, i.2 z hz]
  constructor
  · rintro (e | e)
    · exact .inr (keyI_inj z y hz.2 hy.2 e)
    · exact .inl e
  · rintro (e | e)
    · exact .inr e
    · exact .inl (by rw [e])
theorem iAdds (w h o : Int) (m : Nat) (hm : m ≤ 3) (hc9 : cells w h ≤ 9) (x : List Int) (hx : gd w h m x) : ∀ (n kf i : Nat) (P q : List (List Int)) (L : List (List UInt8)), i + n = 4 * m → n + 120 ≤ kf → SI w h m (P ++ x :: q) → InL w h m L (P ++ x :: q) →
    ∃ L' T, lst.l1 kf w h o (m : Int) L (P ++ x :: q).length (x :: q) (i : Int) = some (L', (P ++ x :: (q ++ T)).length, x :: (q ++ T)) ∧ adds w h o x n i (P ++ x :: q) = P ++ x :: (q ++ T) ∧ InL w h m L' (P ++ x :: (q ++ T)) ∧ SI w h m (P ++ x :: (q ++ T)) := by
  intro n
  induction n with
  | zero =>
    intro kf i P q L hi hk hs hl
    obtain ⟨kf, rfl⟩ : ∃ z, kf = z + 1 := ⟨kf - 1, by omega⟩
    have hw : wrap64 (4 * (m : Int)) = 4 * (m : Int) := w64 (by omega) (by omega)
    refine ⟨L, [], ?_, by rw [List.append_nil]; rfl, by rw [List.append_nil]; exact hl, by rw [List.append_nil]; exact hs⟩
    rw [lst.l1, hw, if_neg (by omega), List.append_nil]
  | succ n ih =>
    intro kf i P q L hi hk hs hl
    obtain ⟨kf, rfl⟩ : ∃ z, kf = z + 1 := ⟨kf - 1, by omega⟩
    have hw : wrap64 (4 * (m : Int)) = 4 * (m : Int) := w64 (by omega) (by omega)
    have hw1 : wrap64 ((i : Int) + 1) = ((i + 1 : Nat) : Int) := by rw [w64 (by omega) (by omega)]; omega
    have ht : wrap64 (Int.tdiv (i : Int) 4) = ((i / 4 : Nat) : Int) := by
      rw [Int.tdiv_eq_ediv_of_nonneg (by omega)]
      rw [w64 (by omega) (by omega)]
      omega
    have hd : Int.tmod (i : Int) 4 = ((i % 4 : Nat) : Int) := by
      rw [Int.tmod_eq_emod_of_nonneg (by omega)]
      omega
    have hlen := hs.len hm
    rw [List.length_append, List.length_cons] at hlen
    rw [lst.l1, hw, if_pos (by omega), if_pos (by simp), List.headD_cons, ht, hd, iMoveOne kf w h o x _ _ (by have := hx.1; omega) (by have := hx.1; omega), Option.bind_some, hw1]
    have hg := fun hz => moved_gd (w := w) (h := h) (o := o) (m := m) (x := x) (who := ((i / 4 : Nat) : Int)) (d := ((i % 4 : Nat) : Int)) hc9 hx hz
    rw [adds, tryAdd]
    generalize moveOne w h o x ((i / 4 : Nat) : Int) ((i % 4 : Nat) : Int) = R at hg
    obtain ⟨y, ok⟩ := R
    cases ok with
    | false =>
      rw [if_neg (by simp), if_neg (by simp)]
      exact ih kf (i + 1) P q L (by omega) (by omega) hs hl
    | true =>
      have hy : gd w h m y := hg rfl
      obtain ⟨key, e1, e2, e3⟩ := iKeyOf kf y hy.2 (by have := hy.1; omega) (by omega)
      rw [if_pos rfl, if_pos rfl]
      show ∃ L' T, ((impl_keyOf.f kf y).bind _) = _ ∧ _
      rw [e1, Option.bind_some, if_pos e3, e2]
      by_cases hyS : y ∈ P ++ x :: q
      · rw [if_pos ((hl.2 y hy).2 hyS), if_pos hyS]
        exact ih kf (i + 1) P q L (by omega) (by omega) hs hl
      · rw [if_neg (fun z => hyS ((hl.2 y hy).1 z)), if_neg hyS, if_pos (by rw [List.length_append, List.length_cons]; omega), if_pos (by rw [List.length_cons]; omega)]
        have ea : (P ++ x :: q) ++ [y] = P ++ x :: (q ++ [y]) := by simp
        have el : (P ++ x :: q).length + 1 = (P ++ x :: (q ++ [y])).length := by simp; omega
        obtain ⟨L', T, r1, r2, r3, r4⟩ := ih kf (i + 1) P (q ++ [y]) (keyI y :: L) (by omega) (by omega) (by rw [← ea]; exact hs.add hy hyS) (by rw [← ea]; exact hl.add hy)
        refine ⟨L', y :: T, ?_, ?_, ?_, ?_⟩
        · rw [el]
          show lst.l1 kf w h o (m : Int) (keyI y :: L) _ (x :: (q ++ [y])) _ = _
          rw [r1]
          simp
        · rw [ea, r2]; simp
        · rw [show q ++ y :: T = q ++ [y] ++ T by simp]; exact r3
        · rw [show q ++ y :: T = q ++ [y] ++ T by simp]; exact r4
theorem iSearch (w h o : Int) (m : Nat) (hm : m ≤ 3) (hc9 : cells w h ≤ 9) : ∀ (n kf : Nat) (P q : List (List Int)) (L : List (List UInt8)), SI w h m (P ++ q) → InL w h m L (P ++ q) → P.length + n = 8192 → n + 160 ≤ kf →
    ∃ L' c, lst.l0 kf w h o (m : Int) L (P ++ q).length q = some (L', c) ∧ L'.length = (srchN w h o m n (P ++ q) P.length).length := by
  intro n
  induction n with
  | zero =>
    intro kf P q L hs hl hn hk
    obtain ⟨kf, rfl⟩ : ∃ z, kf = z + 1 := ⟨kf - 1, by omega⟩
    have := hs.len hm
    rw [List.length_append] at this
    rw [lst.l0, if_neg (by omega)]
    exact ⟨L, _, rfl, hl.1⟩
  | succ n ih =>
    intro kf P q L hs hl hn hk
    obtain ⟨kf, rfl⟩ : ∃ z, kf = z + 1 := ⟨kf - 1, by omega⟩
    rw [lst.l0, srchN]
    cases q with
    | nil =>
      rw [if_neg (by simp), if_neg (by simp)]
      exact ⟨L, _, rfl, hl.1⟩
    | cons x q =>
      have hx : gd w h m x := hs.good x (by simp)
      rw [if_pos (by simp), if_pos (by simp)]
      have hgx : (P ++ x :: q).getD P.length [] = x := by
        rw [List.getD_eq_getElem?_getD, List.getElem?_append_right (Nat.le_refl _), Nat.sub_self]
        rfl
      obtain ⟨L', T, r1, r2, r3, r4⟩ := iAdds w h o m hm hc9 x hx (4 * m) kf 0 P q L (by omega) (by omega) hs hl
      rw [hgx, r2]
      have r1' : lst.l1 kf w h o (m : Int) L (P ++ x :: q).length (x :: q) 0 = some (L', (P ++ x :: (q ++ T)).length, x :: (q ++ T)) := r1
      rw [r1', Option.bind_some]
      dsimp only
      rw [if_pos (by simp), List.tail_cons]
      have ea : P ++ x :: (q ++ T) = (P ++ [x]) ++ (q ++ T) := by simp
      rw [ea] at r3 r4 ⊢
      have := ih kf (P ++ [x]) (q ++ T) L' r4 r3 (by simp; omega) (by omega)
      rwa [show (P ++ [x]).length = P.length + 1 by simp] at this
/-- The marks are set at the numbers of the list's lists. -/
def SeenOk (w h : Int) (m : Nat) (seen : List Bool) (S : List (List Int)) : Prop := seen.length = 2 ^ (4 * m + 1) ∧ ∀ y, gd w h m y → (rdOf false seen (keyN y) = true ↔ y ∈ S)
theorem rdOf_set {seen : List Bool} {a b : Int} (h0 : 0 ≤ a) (h1 : a < (seen.length : Int)) (hb : 0 ≤ b) : rdOf false (seen.set a.toNat true) b = if b = a then true else rdOf false seen b := by
  unfold rdOf
  rw [List.getD_eq_getElem?_getD, List.getD_eq_getElem?_getD, List.getElem?_set]
  by_cases e : b = a
  · subst e
    rw [if_pos rfl, if_pos rfl, if_pos (by omega)]
    rfl
  · rw [if_neg (by omega), if_neg e]
theorem SeenOk.bound {w h : Int} {m : Nat} {seen : List Bool} {S : List (List Int)} (s : SeenOk w h m seen S) (hm : m ≤ 3) {y : List Int} (hy : gd w h m y) : 0 ≤ keyN y ∧ keyN y < (seen.length : Int) := by
  have := keyN_range m y hm hy
  rw [s.1]
  have e : ((2 ^ (4 * m + 1) : Nat) : Int) = (2 : Int) ^ (4 * m + 1) := by simp
  omega
theorem SeenOk.add {w h : Int} {m : Nat} {seen : List Bool} {S : List (List Int)} (s : SeenOk w h m seen S) (hm : m ≤ 3) {y : List Int} (hy : gd w h m y) : SeenOk w h m (seen.set (keyN y).toNat true) (S ++ [y]) := by
  refine ⟨by rw [List.length_set]; exact s.1, fun z hz => ?_⟩
  have hb := s.bound hm hy
  have hbz := s.bound hm hz
  rw [rdOf_set hb.1 hb.2 hbz.1, List.mem_append, List.mem_singleton]
  by_cases e : keyN z = keyN y
  · rw [if_pos e]
    exact ⟨fun _ => .inr (keyN_inj m z y hm hz hy e), fun _ => rfl⟩
  · rw [if_neg e, s.2 z hz]
    exact ⟨.inl, fun q => q.resolve_right (fun e2 => e (by rw [e2]))⟩
theorem sAdds2 (w h o : Int) (l : List Int) (m : Nat) (hm : m ≤ 3) (hc9 : cells w h ≤ 9) (x : List Int) (hx : gd w h m x) (who kk : Nat) (hw3 : who ≤ 3) (hkk : kk ≤ 8192) : ∀ (n kf d : Nat) (S : List (List Int)) (seen : List Bool), d + n = 4 → n + 60 ≤ kf → SI w h m S → SeenOk w h m seen S → kk < S.length → S.getD kk [] = x →
    ∃ kf' seen', kf ≤ kf' + n + 1 ∧ SeenOk w h m seen' (adds w h o x n (4 * who + d) S) ∧ SI w h m (adds w h o x n (4 * who + d) S) ∧ (∃ T, adds w h o x n (4 * who + d) S = S ++ T) ∧ spec_l31Search.l2 kf l S seen (kk : Int) (who : Int) (d : Int) w h o = spec_l31Search.l1 kf' l (adds w h o x n (4 * who + d) S) seen' (kk : Int) ((who + 1 : Nat) : Int) w h o := by
  intro n
  induction n with
  | zero =>
    intro kf d S seen hd hk hs hse hkS hxS
    obtain ⟨kf, rfl⟩ : ∃ z, kf = z + 1 := ⟨kf - 1, by omega⟩
    refine ⟨kf, seen, by omega, hse, hs, ⟨[], by rw [List.append_nil]; rfl⟩, ?_⟩
    rw [spec_l31Search.l2, if_neg (by omega), show wrap64 ((who : Int) + 1) = ((who + 1 : Nat) : Int) by rw [w64 (by omega) (by omega)]; omega]
    rfl
  | succ n ih =>
    intro kf d S seen hd hk hs hse hkS hxS
    obtain ⟨kf, rfl⟩ : ∃ z, kf = z + 1 := ⟨kf - 1, by omega⟩
    have hlen := hs.len hm
    have hrd : rd_L1 S (kk : Int) = x := by
      unfold rd_L1
      rw [Int.toNat_natCast]
      exact hxS
    have hw1 : wrap64 ((d : Int) + 1) = ((d + 1 : Nat) : Int) := by rw [w64 (by omega) (by omega)]; omega
    have hdiv : (4 * who + d) / 4 = who := by omega
    have hmod : (4 * who + d) % 4 = d := by omega
    rw [spec_l31Search.l2, if_pos (by omega), if_pos (by omega), if_pos (by omega), hrd, sMoveOne kf w h o x _ _ (by have := hx.1; omega) (by have := hx.1; omega), Option.bind_some, hw1]
    have hg := fun hz => moved_gd (w := w) (h := h) (o := o) (m := m) (x := x) (who := (who : Int)) (d := (d : Int)) hc9 hx hz
    rw [adds, tryAdd, hdiv, hmod]
    generalize moveOne w h o x (who : Int) (d : Int) = R at hg
    obtain ⟨y, ok⟩ := R
    cases ok with
    | false =>
      rw [if_neg (by simp), if_neg (by simp)]
      obtain ⟨kf', seen', r1, r2, r3, r4, r5⟩ := ih kf (d + 1) S seen (by omega) (by omega) hs hse hkS hxS
      exact ⟨kf', seen', by omega, r2, r3, r4, r5⟩
    | true =>
      have hy := hg rfl
      have hb := hse.bound hm hy
      rw [if_pos rfl, if_pos rfl]
      dsimp only
      rw [sKey kf m y hm hy (by omega), Option.bind_some, if_pos hb.1, if_pos hb.2]
      by_cases hyS : y ∈ S
      · rw [if_pos ((hse.2 y hy).2 hyS), if_pos hyS]
        obtain ⟨kf', seen', r1, r2, r3, r4, r5⟩ := ih kf (d + 1) S seen (by omega) (by omega) hs hse hkS hxS
        exact ⟨kf', seen', by omega, r2, r3, r4, r5⟩
      · rw [if_neg (fun z => hyS ((hse.2 y hy).1 z)), if_neg hyS, Option.bind_some, if_pos hb.1, if_pos hb.2, if_pos (by omega)]
        obtain ⟨kf', seen', r1, r2, r3, ⟨T, r4⟩, r5⟩ := ih kf (d + 1) (S ++ [y]) (seen.set (keyN y).toNat true) (by omega) (by omega) (hs.add hy hyS) (hse.add hm hy) (by rw [List.length_append]; omega) (by
          rw [List.getD_eq_getElem?_getD, List.getElem?_append_left hkS, ← List.getD_eq_getElem?_getD]
          exact hxS)
        exact ⟨kf', seen', by omega, r2, r3, ⟨[y] ++ T, by rw [← List.append_assoc]; exact r4⟩, r5⟩
theorem sAdds1 (w h o : Int) (l : List Int) (m : Nat) (hl : l.length = m) (hm : m ≤ 3) (hc9 : cells w h ≤ 9) (x : List Int) (hx : gd w h m x) (kk : Nat) (hkk : kk ≤ 8192) : ∀ (n kf who : Nat) (S : List (List Int)) (seen : List Bool), who + n = m → 6 * n + 80 ≤ kf → SI w h m S → SeenOk w h m seen S → kk < S.length → S.getD kk [] = x →
    ∃ kf' seen', kf ≤ kf' + 6 * n + 1 ∧ SeenOk w h m seen' (adds w h o x (4 * n) (4 * who) S) ∧ SI w h m (adds w h o x (4 * n) (4 * who) S) ∧ spec_l31Search.l1 kf l S seen (kk : Int) (who : Int) w h o = spec_l31Search.l0 kf' l (adds w h o x (4 * n) (4 * who) S) seen' ((kk + 1 : Nat) : Int) w h o := by
  intro n
  induction n with
  | zero =>
    intro kf who S seen hw hk hs hse hkS hxS
    obtain ⟨kf, rfl⟩ : ∃ z, kf = z + 1 := ⟨kf - 1, by omega⟩
    refine ⟨kf, seen, by omega, hse, hs, ?_⟩
    rw [spec_l31Search.l1, if_neg (by omega), show wrap64 ((kk : Int) + 1) = ((kk + 1 : Nat) : Int) by rw [w64 (by omega) (by omega)]; omega]
    rfl
  | succ n ih =>
    intro kf who S seen hw hk hs hse hkS hxS
    obtain ⟨kf, rfl⟩ : ∃ z, kf = z + 1 := ⟨kf - 1, by omega⟩
    rw [spec_l31Search.l1, if_pos (by omega)]
    obtain ⟨kf1, seen1, r1, r2, r3, ⟨T, r4⟩, r5⟩ := sAdds2 w h o l m hm hc9 x hx who kk (by omega) hkk 4 kf 0 S seen (by omega) (by omega) hs hse hkS hxS
    have r5' : spec_l31Search.l2 kf l S seen (kk : Int) (who : Int) 0 w h o = spec_l31Search.l1 kf1 l (adds w h o x 4 (4 * who + 0) S) seen1 (kk : Int) ((who + 1 : Nat) : Int) w h o := r5
    have hS1 : kk < (adds w h o x 4 (4 * who + 0) S).length := by rw [r4, List.length_append]; omega
    have hx1 : (adds w h o x 4 (4 * who + 0) S).getD kk [] = x := by
      rw [r4, List.getD_eq_getElem?_getD, List.getElem?_append_left hkS, ← List.getD_eq_getElem?_getD]
      exact hxS
    obtain ⟨kf2, seen2, s1, s2, s3, s4⟩ := ih kf1 (who + 1) _ seen1 (by omega) (by omega) r3 r2 hS1 hx1
    have ea : adds w h o x (4 * (n + 1)) (4 * who) S = adds w h o x (4 * n) (4 * (who + 1)) (adds w h o x 4 (4 * who + 0) S) := by
      rw [show 4 * (n + 1) = 4 + 4 * n by omega, adds_add]
      rfl
    rw [ea]
    exact ⟨kf2, seen2, by omega, s2, s3, by rw [r5', s4]⟩
theorem sSearch (w h o : Int) (l : List Int) (m : Nat) (hl : l.length = m) (hm : m ≤ 3) (hc9 : cells w h ≤ 9) : ∀ (n kf kk : Nat) (S : List (List Int)) (seen : List Bool), kk + n = 8192 → 40 * n + 200 ≤ kf → SI w h m S → SeenOk w h m seen S →
    spec_l31Search.l0 kf l S seen (kk : Int) w h o = some (srchN w h o m n S kk) := by
  intro n
  induction n with
  | zero =>
    intro kf kk S seen hn hk hs hse
    obtain ⟨kf, rfl⟩ : ∃ z, kf = z + 1 := ⟨kf - 1, by omega⟩
    have := hs.len hm
    rw [spec_l31Search.l0, if_neg (by omega)]
    rfl
  | succ n ih =>
    intro kf kk S seen hn hk hs hse
    obtain ⟨kf, rfl⟩ : ∃ z, kf = z + 1 := ⟨kf - 1, by omega⟩
    rw [spec_l31Search.l0, srchN]
    by_cases c : kk < S.length
    · rw [if_pos (by omega), if_pos c]
      have hx : gd w h m (S.getD kk []) := hs.good _ (by
        rw [List.getD_eq_getElem?_getD, List.getElem?_eq_getElem c]
        exact List.getElem_mem _)
      obtain ⟨kf1, seen1, r1, r2, r3, r4⟩ := sAdds1 w h o l m hl hm hc9 _ hx kk (by omega) m kf 0 S seen (by omega) (by omega) hs hse c rfl
      have r4' : spec_l31Search.l1 kf l S seen (kk : Int) 0 w h o = spec_l31Search.l0 kf1 l (adds w h o (S.getD kk []) (4 * m) (4 * 0) S) seen1 ((kk + 1 : Nat) : Int) w h o := r4
      rw [r4']
      exact ih kf1 (kk + 1) _ seen1 (by omega) (by omega) r3 r2
    · rw [if_neg (by omega), if_neg c]
/-- How many lists of cells can be reached. -/
def countReached (w h o : Int) (l : List Int) : Int := if crowdOk w h o l = true ∧ l.length ≤ 3 ∧ cells w h ≤ 9 then ((srchN w h o l.length 8192 [l] 0).length : Int) else 0
theorem crowd_gd {w h o : Int} {l : List Int} (hc : crowdOk w h o l = true) (h9 : cells w h ≤ 9) : gd w h l.length l := by
  unfold crowdOk at hc
  simp only [Bool.and_eq_true] at hc
  refine ⟨rfl, fun c hm => ?_⟩
  have := List.all_eq_true.1 hc.2.2.1 c hm
  unfold isCell at this
  have := of_decide_eq_true this
  omega
theorem one_SI {w h : Int} {m : Nat} {l : List Int} (hg : gd w h m l) : SI w h m [l] := ⟨fun y hy => by rw [List.mem_singleton.1 hy]; exact hg, by simp⟩
theorem iCountReached (k : Nat) (w h o : Int) (l : List Int) (hl : l.length ≤ 2000000) (hk : 9000 ≤ k) : impl_CountReached.f k w h o l = some (countReached w h o l) := by
  unfold impl_CountReached.f lst.f countReached
  rw [iCrowdOk, Option.bind_some]
  by_cases c : crowdOk w h o l = true
  · rw [if_pos c]
    by_cases c3 : (l.length : Int) > 3
    · rw [if_pos c3, if_neg (fun z => by omega)]
      rfl
    · rw [if_neg c3, iCountCells, Option.bind_some]
      by_cases c9 : cells w h > 9
      · rw [if_pos c9, if_neg (fun z => by omega)]
        rfl
      · rw [if_neg c9, if_pos ⟨c, by omega, by omega⟩]
        have hg := crowd_gd c (by omega)
        obtain ⟨key, e1, e2, e3⟩ := iKeyOf k l hg.2 (by omega) (by omega)
        rw [e1, Option.bind_some, if_pos e3, e2]
        obtain ⟨L', n', r1, r2⟩ := iSearch w h o l.length (by omega) (by omega) 8192 k [] [l] [keyI l] (one_SI hg) ⟨rfl, fun y hy => by
          rw [List.mem_singleton, List.nil_append, List.mem_singleton]
          exact ⟨fun e => keyI_inj y l hy.2 hg.2 e, fun e => by rw [e]⟩⟩ (by simp) (by omega)
        have r1' : lst.l0 k w h o (l.length : Int) [keyI l] 1 [l] = some (L', n') := r1
        rw [r1', Option.bind_some, Option.bind_some]
        show some ((L'.length : Nat) : Int) = _
        rw [r2]
        rfl
  · rw [if_neg c, if_neg (fun z => c z.1)]
    rfl
theorem sSearchF (k : Nat) (w h o : Int) (l : List Int) (hg : gd w h l.length l) (hm : l.length ≤ 3) (hc9 : cells w h ≤ 9) (hk : 330000 ≤ k) : spec_l31Search.f k w h o l = some (srchN w h o l.length 8192 [l] 0) := by
  have hw1 : wrap64 (4 * (l.length : Int)) = 4 * (l.length : Int) := w64 (by omega) (by omega)
  have hw2 : wrap64 (4 * (l.length : Int) + 1) = 4 * (l.length : Int) + 1 := w64 (by omega) (by omega)
  have hsh := shl_one (n := 4 * (l.length : Int) + 1) (by omega) (by omega)
  rw [show (4 * (l.length : Int) + 1).toNat = 4 * l.length + 1 by omega] at hsh
  have hp : (2 : Int) ^ (4 * l.length + 1) = ((2 ^ (4 * l.length + 1) : Nat) : Int) := by simp
  have hp2 : 2 ^ (4 * l.length + 1) ≤ 8192 := by
    rcases (show l.length = 0 ∨ l.length = 1 ∨ l.length = 2 ∨ l.length = 3 by omega) with e | e | e | e <;> rw [e] <;> decide
  unfold spec_l31Search.f
  rw [copy28 l (by omega), Option.bind_some, hw1, hw2, if_pos (by omega), hsh, hp, if_pos (Int.natCast_nonneg _), Int.toNat_natCast, if_pos (by omega), Option.bind_some, sKey k l.length l hm hg (by omega), Option.bind_some]
  have s0 : SeenOk w h l.length (List.replicate (2 ^ (4 * l.length + 1)) false) [] := ⟨List.length_replicate, fun y hy => by
    refine ⟨fun z => ?_, fun z => by cases z⟩
    unfold rdOf at z
    rw [List.getD_eq_getElem?_getD, List.getElem?_replicate] at z
    split at z <;> simp at z⟩
  have hb := s0.bound hm hg
  rw [if_pos hb.1, if_pos hb.2]
  exact sSearch w h o l l.length rfl hm hc9 8192 k 0 [l] _ (by omega) (by omega) (one_SI hg) (s0.add hm hg)
theorem sCountReached (k : Nat) (w h o : Int) (l : List Int) (hl : l.length ≤ 2000000) (hk : 330000 + 2 * l.length ≤ k) : spec_CountReached.f k w h o l = some (countReached w h o l) := by
  unfold spec_CountReached.f countReached
  rw [sCrowdOk k w h o l hl (by omega), Option.bind_some]
  by_cases c : crowdOk w h o l = true
  · rw [if_pos c]
    by_cases c3 : (l.length : Int) > 3
    · rw [if_pos c3, if_neg (fun z => by omega)]
    · rw [if_neg c3, sCountCells, Option.bind_some]
      by_cases c9 : cells w h > 9
      · rw [if_pos c9, if_neg (fun z => by omega)]
      · rw [if_neg c9, if_pos ⟨c, by omega, by omega⟩, sSearchF k w h o l (crowd_gd c (by omega)) (by omega) (by omega) (by omega), Option.bind_some]
  · rw [if_neg c, if_neg (fun z => c z.1)]
end Go.Proofs.YtgnnkjgfkdaddaaDoor.L
