/- Plain laws of labels' bytes and of index keys. -/
import Derived.Test.YtkkongnmcfdioaaLSpec
import Derived.Test.YtkkongnmcfdioaaRPlain
namespace Go.Proofs.Ytkkongnmcfdioaa
open Go.Gx
theorem flat_be2_get : ∀ (l : Lb) (r : List UInt8) (i : Nat), i < l.length → (l.flatMap be2 ++ r).getD (2 * i) 0 = UInt8.ofNat ((l.getD i 0).toNat / 256) ∧ (l.flatMap be2 ++ r).getD (2 * i + 1) 0 = UInt8.ofNat (l.getD i 0).toNat
  | [], r, i, h => by simp at h
  | a :: l, r, 0, _ => ⟨rfl, rfl⟩
  | a :: l, r, i + 1, h => by
    have := flat_be2_get l r i (by simpa using h)
    rw [show 2 * (i + 1) = 2 * i + 1 + 1 by omega]
    exact this
theorem of_be2 (t : UInt16) : UInt16.ofNat ((UInt8.ofNat (t.toNat / 256)).toNat * 256 + (UInt8.ofNat t.toNat).toNat) = t := by
  apply UInt16.toNat_inj.1
  have := t.toNat_lt
  rw [UInt16.toNat_ofNat', UInt8.toNat_ofNat', UInt8.toNat_ofNat']; omega
theorem tags_put (l : Lb) (r : List UInt8) : tagsL l.length (putL l ++ r) = l := by
  apply List.ext_getElem
  · rw [tags_len]
  · intro i h1 h2
    obtain ⟨g1, g2⟩ := flat_be2_get l r i h2
    have e1 : (putL l ++ r).getD (1 + 2 * i) 0 = (l.flatMap be2 ++ r).getD (2 * i) 0 := by rw [show 1 + 2 * i = 2 * i + 1 by omega]; rfl
    have e2 : (putL l ++ r).getD (2 + 2 * i) 0 = (l.flatMap be2 ++ r).getD (2 * i + 1) 0 := by rw [show 2 + 2 * i = 2 * i + 1 + 1 by omega]; rfl
    simp only [tagsL, List.getElem_map, List.getElem_range]
    rw [e1, e2, g1, g2, of_be2]
    simp [List.getD_eq_getElem?_getD, h2]
theorem putL_head {l : Lb} (h : l.length ≤ 255) (r : List UInt8) : ((putL l ++ r).getD 0 0).toNat = l.length := by
  show (UInt8.ofNat l.length).toNat = l.length
  rw [UInt8.toNat_ofNat']; omega
theorem takeL_put {l : Lb} (h : mayL l = true) (r : List UInt8) : takeL (putL l ++ r) = (l, (((putL l).length : Nat) : Int), 0) := by
  have h8 := mayL_len h
  have hn := putL_head (l := l) (by omega) r
  have hl : (putL l ++ r).length = 1 + l.length * 2 + r.length := by rw [List.length_append, putL_len]
  rw [takeL, if_neg (by omega), if_neg (by omega), if_neg (by omega), hn, tags_put, if_pos (mayL_rise h), putL_len, Nat.mul_comm]
theorem takeL_cut {l : Lb} (h : mayL l = true) {k : Nat} (hk : k < (putL l).length) : (takeL ((putL l).take k)).2.2 = 2 := by
  have h8 := mayL_len h
  rw [putL_len] at hk
  cases k with
  | zero => rfl
  | succ k =>
    have e0 : (((putL l).take (k + 1)).getD 0 0).toNat = l.length := by
      show (UInt8.ofNat l.length).toNat = l.length
      rw [UInt8.toNat_ofNat']; omega
    have el : ((putL l).take (k + 1)).length = k + 1 := by rw [List.length_take, putL_len]; omega
    rw [takeL, if_neg (by omega), if_neg (by omega), if_pos (by omega)]
theorem keyX_len (x : Vl) (l : Lb) (n : Nat) : (keyX x l n).length = (keyV x).length + (1 + l.length * 2) + 8 := by
  simp only [keyX, List.length_append, be8_len, putL_len]
theorem takeX_put {x : Vl} {l : Lb} {n : Nat} (hx : mayV x = true) (ox : OkV x) (hl : mayL l = true) (r : List UInt8) :
    takeX (keyX x l n ++ r) = if r.length = 0 then (x, l, ofBe (be8 n), 0) else (V0, [], 0, 3) := by
  have e : keyX x l n ++ r = keyV x ++ (putL l ++ (be8 n ++ r)) := by simp only [keyX, List.append_assoc]
  have h1 := take_key hx ox (putL l ++ (be8 n ++ r))
  have h2 := takeL_put hl (be8 n ++ r)
  have d1 : (keyV x ++ (putL l ++ (be8 n ++ r))).drop (keyV x).length = putL l ++ (be8 n ++ r) := List.drop_left
  have d2 : (keyV x ++ (putL l ++ (be8 n ++ r))).drop ((keyV x).length + (putL l).length) = be8 n ++ r := by
    rw [← List.drop_drop, List.drop_left, List.drop_left]
  rw [e, takeX, h1]
  simp only [ne_eq, not_true_eq_false, if_false, Int.toNat_natCast]
  rw [d1, h2]
  simp only [ne_eq, not_true_eq_false, if_false, Int.toNat_natCast]
  rw [d2]
  have hb := be8_len n
  rw [if_neg (by rw [List.length_append]; omega)]
  by_cases hr : r.length = 0
  · have : r = [] := List.length_eq_zero_iff.1 hr
    subst this
    rw [if_neg (by rw [List.length_append]; simp; omega), if_pos hr, List.append_nil]
  · rw [if_pos (by rw [List.length_append]; omega), if_neg hr]
theorem takeX_put0 {x : Vl} {l : Lb} {n : Nat} (hx : mayV x = true) (ox : OkV x) (hl : mayL l = true) (hn : n < 18446744073709551616) : takeX (keyX x l n) = (x, l, n, 0) := by
  have := takeX_put (n := n) hx ox hl []
  rw [List.append_nil, if_pos (show ([] : List UInt8).length = 0 from rfl), ofBe_be8 hn] at this
  exact this
theorem takeX_more {x : Vl} {l : Lb} {n : Nat} (hx : mayV x = true) (ox : OkV x) (hl : mayL l = true) (c : UInt8) : (takeX (keyX x l n ++ [c])).2.2.2 = 3 := by
  rw [takeX_put hx ox hl [c]]; rfl
theorem takeX_cut {x : Vl} {l : Lb} {n : Nat} (hx : mayV x = true) (ox : OkV x) (hl : mayL l = true) {k : Nat} (hk : k < (keyX x l n).length) : (takeX ((keyX x l n).take k)).2.2.2 = 2 := by
  have e : keyX x l n = keyV x ++ (putL l ++ be8 n) := by simp only [keyX, List.append_assoc]
  have hb := be8_len n
  rw [e] at hk ⊢
  simp only [List.length_append] at hk
  by_cases h1 : k < (keyV x).length
  · rw [List.take_append_of_le_length (by omega)]
    have h2 := takeV_cut hx h1
    rw [takeX, if_pos (by rw [h2]; decide), h2]
  · have e1 : (keyV x ++ (putL l ++ be8 n)).take k = keyV x ++ (putL l ++ be8 n).take (k - (keyV x).length) := by
      rw [List.take_append, List.take_of_length_le (by omega)]
    have t1 := take_key hx ox ((putL l ++ be8 n).take (k - (keyV x).length))
    have d1 : (keyV x ++ (putL l ++ be8 n).take (k - (keyV x).length)).drop (keyV x).length = (putL l ++ be8 n).take (k - (keyV x).length) := List.drop_left
    rw [e1, takeX, t1]
    simp only [ne_eq, not_true_eq_false, if_false, Int.toNat_natCast]
    rw [d1]
    by_cases h2 : k - (keyV x).length < (putL l).length
    · rw [List.take_append_of_le_length (by omega)]
      have h3 := takeL_cut hl h2
      rw [if_pos (by rw [h3]; decide), h3]
    · have e2 : (putL l ++ be8 n).take (k - (keyV x).length) = putL l ++ (be8 n).take (k - (keyV x).length - (putL l).length) := by
        rw [List.take_append, List.take_of_length_le (by omega)]
      have t2 := takeL_put hl ((be8 n).take (k - (keyV x).length - (putL l).length))
      rw [e2, t2]
      simp only [ne_eq, not_true_eq_false, if_false, Int.toNat_natCast]
      rw [← List.drop_drop, List.drop_left, List.drop_left, if_pos (by rw [List.length_take]; omega)]
/-! how keys stand -/
theorem cmpT_left : ∀ (a p q : List UInt8), cmpT (a ++ p) (a ++ q) = cmpT p q
  | [], p, q => rfl
  | c :: a, p, q => by rw [List.cons_append, List.cons_append, cmpT_cons, cmpT_left a p q]
theorem cmpT_apart : ∀ {a b : List UInt8} (p q : List UInt8), ¬ a <+: b → ¬ b <+: a → cmpT (a ++ p) (b ++ q) = cmpT a b
  | [], b, p, q, h, _ => absurd (List.nil_prefix) h
  | a :: l, [], p, q, _, h => absurd (List.nil_prefix) h
  | a :: l, b :: m, p, q, h1, h2 => by
    by_cases hab : a = b
    · subst hab
      rw [List.cons_append, List.cons_append, cmpT_cons, cmpT_cons]
      exact cmpT_apart p q (fun h => h1 (by simpa [List.cons_prefix_cons] using h)) (fun h => h2 (by simpa [List.cons_prefix_cons] using h))
    · have : a.toNat ≠ b.toNat := fun h => hab (UInt8.toNat_inj.1 h)
      simp only [List.cons_append, cmpT]
      split
      · rfl
      · split
        · rfl
        · omega
theorem prefix_take {a b : List UInt8} (h : a <+: b) : b.take a.length = a := by
  obtain ⟨t, rfl⟩ := h; simp
theorem keys_begin {x y : Vl} (hx : mayV x = true) (hy : mayV y = true) (ox : OkV x) (oy : OkV y) (h : keyV x <+: keyV y) : x = y := key_prefix hx hy ox oy (prefix_take h)
theorem cmp_keys {x y : Vl} (hx : mayV x = true) (hy : mayV y = true) (ox : OkV x) (oy : OkV y) (p q : List UInt8) : cmpT (keyV x ++ p) (keyV y ++ q) = if cmpV x y = 0 then cmpT p q else cmpV x y := by
  have hw := cmpW_cmpV hx hy
  by_cases h : x = y
  · subst h
    have : cmpV x x = 0 := by rw [← hw]; exact cmpW_zero.2 rfl
    rw [if_pos this, cmpT_left]
  · have hne : cmpV x y ≠ 0 := by rw [← hw]; exact fun hh => h (cmpW_zero.1 hh)
    rw [if_neg hne, cmpT_apart p q (fun hh => h (keys_begin hx hy ox oy hh)) (fun hh => h (keys_begin hy hx oy ox hh).symm), keys_stand hx hy ox oy, hw]
theorem cmp_be2 : ∀ {a b : Lb} (p q : List UInt8), a.length = b.length → cmpT (a.flatMap be2 ++ p) (b.flatMap be2 ++ q) = if cmpG a b = 0 then cmpT p q else cmpG a b
  | [], [], p, q, _ => by simp [cmpG]
  | [], _ :: _, p, q, h => by simp at h
  | _ :: _, [], p, q, h => by simp at h
  | a :: l, b :: m, p, q, h => by
    have ih := cmp_be2 (a := l) (b := m) p q (by simpa using h)
    have ha := a.toNat_lt; have hb := b.toNat_lt
    have e : ∀ (t : UInt16) (l : Lb) (r : List UInt8), (t :: l).flatMap be2 ++ r = UInt8.ofNat (t.toNat / 256) :: UInt8.ofNat t.toNat :: (l.flatMap be2 ++ r) := fun _ _ _ => rfl
    rw [e, e]
    simp only [cmpT, UInt8.toNat_ofNat']
    by_cases h1 : a.toNat < b.toNat
    · have hv : cmpG (a :: l) (b :: m) = -1 := by rw [cmpG, if_pos h1]
      rw [hv, if_neg (show ¬ ((-1 : Int) = 0) by decide)]
      by_cases h2 : a.toNat / 256 % 2 ^ 8 < b.toNat / 256 % 2 ^ 8
      · rw [if_pos h2]
      · rw [if_neg h2, if_neg (by omega), if_pos (by omega)]
    · by_cases h3 : b.toNat < a.toNat
      · have hv : cmpG (a :: l) (b :: m) = 1 := by rw [cmpG, if_neg h1, if_pos h3]
        rw [hv, if_neg (show ¬ ((1 : Int) = 0) by decide)]
        by_cases h2 : b.toNat / 256 % 2 ^ 8 < a.toNat / 256 % 2 ^ 8
        · rw [if_neg (by omega), if_pos h2]
        · rw [if_neg (by omega), if_neg (by omega), if_neg (by omega), if_pos (by omega)]
      · have hv : cmpG (a :: l) (b :: m) = cmpG l m := by rw [cmpG, if_neg h1, if_neg h3]
        rw [hv, if_neg (by omega), if_neg (by omega), if_neg (by omega), if_neg (by omega), ih]
theorem cmp_labels {a b : Lb} (ha : a.length ≤ 255) (hb : b.length ≤ 255) (p q : List UInt8) : cmpT (putL a ++ p) (putL b ++ q) = if cmpL a b = 0 then cmpT p q else cmpL a b := by
  have e : ∀ (l : Lb) (r : List UInt8), putL l ++ r = UInt8.ofNat l.length :: (l.flatMap be2 ++ r) := fun _ _ => rfl
  rw [e, e]
  simp only [cmpT, UInt8.toNat_ofNat']
  by_cases h1 : a.length < b.length
  · have hv : cmpL a b = -1 := by rw [cmpL, if_pos h1]
    rw [hv, if_pos (by omega), if_neg (by decide)]
  · by_cases h2 : b.length < a.length
    · have hv : cmpL a b = 1 := by rw [cmpL, if_neg h1, if_pos h2]
      rw [hv, if_neg (by omega), if_pos (by omega), if_neg (by decide)]
    · have hv : cmpL a b = cmpG a b := by rw [cmpL, if_neg h1, if_neg h2]
      rw [hv, if_neg (by omega), if_neg (by omega), cmp_be2 p q (by omega)]
/-- How index keys stand: by value, then label, then number. -/
def wantX (x y : Vl) (a b : Lb) (i k : Nat) : Int := if cmpV x y ≠ 0 then cmpV x y else if cmpL a b ≠ 0 then cmpL a b else cmpI i k
theorem want1 {x y : Vl} {a b : Lb} {i k : Nat} (h : ¬ cmpV x y = 0) : cmpV x y = wantX x y a b i k := by rw [wantX, if_pos h]
theorem want2 {x y : Vl} {a b : Lb} {i k : Nat} (h : cmpV x y = 0) (h2 : ¬ cmpL a b = 0) : cmpL a b = wantX x y a b i k := by rw [wantX, if_neg (fun hh => hh h), if_pos h2]
theorem want3 {x y : Vl} {a b : Lb} {i k : Nat} (h : cmpV x y = 0) (h2 : cmpL a b = 0) (h3 : (i : Int) = (k : Int)) : cmpL a b = wantX x y a b i k := by
  rw [wantX, if_neg (fun hh => hh h), if_neg (fun hh => hh h2), h2]; unfold cmpI; rw [if_neg (by omega), if_neg (by omega)]
theorem want4 {x y : Vl} {a b : Lb} {i k : Nat} (h : cmpV x y = 0) (h2 : cmpL a b = 0) (h4 : (i : Int) < (k : Int)) : -1 = wantX x y a b i k := by
  rw [wantX, if_neg (fun hh => hh h), if_neg (fun hh => hh h2)]; unfold cmpI; rw [if_pos h4]
theorem want5 {x y : Vl} {a b : Lb} {i k : Nat} (h : cmpV x y = 0) (h2 : cmpL a b = 0) (h3 : (i : Int) ≠ (k : Int)) (h4 : ¬ (i : Int) < (k : Int)) : 1 = wantX x y a b i k := by
  rw [wantX, if_neg (fun hh => hh h), if_neg (fun hh => hh h2)]; unfold cmpI; rw [if_neg h4, if_pos (by omega)]
theorem cmp_index {x y : Vl} {a b : Lb} {i k : Nat} (hx : mayV x = true) (hy : mayV y = true) (ox : OkV x) (oy : OkV y) (ha : mayL a = true) (hb : mayL b = true) (hi : i < 18446744073709551616) (hk : k < 18446744073709551616) :
    cmpT (keyX x a i) (keyX y b k) = wantX x y a b i k := by
  have e : ∀ x l n, keyX x l n = keyV x ++ (putL l ++ be8 n) := fun x l n => by simp only [keyX, List.append_assoc]
  rw [e, e, cmp_keys hx hy ox oy, wantX]
  by_cases h1 : cmpV x y = 0
  · rw [if_pos h1, if_neg (fun h => h h1), cmp_labels (by have := mayL_len ha; omega) (by have := mayL_len hb; omega)]
    by_cases h2 : cmpL a b = 0
    · rw [if_pos h2, if_neg (fun h => h h2), cmpT_be8 hi hk]
    · rw [if_neg h2, if_pos h2]
  · rw [if_neg h1, if_pos h1]
theorem keyX_take (x : Vl) (l : Lb) (n : Nat) : (keyX x l n).take (keyV x).length = keyV x := by
  simp only [keyX, List.append_assoc]; exact List.take_left
theorem prefix_of_take {a b : List UInt8} (h : b.take a.length = a) : a <+: b := by
  have h2 := List.take_prefix a.length b
  rwa [h] at h2
/-- Whether another key begins with a value's bytes. -/
theorem begins_iff {x y : Vl} (hx : mayV x = true) (hy : mayV y = true) (ox : OkV x) (oy : OkV y) (l : Lb) (n : Nat) : (keyX y l n).take (keyV x).length = keyV x ↔ x = y := by
  constructor
  · intro h
    have h1 : keyV x <+: keyX y l n := prefix_of_take h
    have h2 : keyV y <+: keyX y l n := ⟨putL l ++ be8 n, by simp only [keyX, List.append_assoc]⟩
    rcases List.prefix_or_prefix_of_prefix h1 h2 with h | h
    · exact keys_begin hx hy ox oy h
    · exact (keys_begin hy hx oy ox h).symm
  · rintro rfl; exact keyX_take x l n
theorem begT {x y : Vl} (hx : mayV x = true) (hy : mayV y = true) (ox : OkV x) (oy : OkV y) (l : Lb) (n : Nat) : (decide ((keyX y l n).take (keyV x).length = keyV x) == decide (x.k = y.k ∧ x.n = y.n ∧ x.s = y.s)) = true :=
  eqd ((begins_iff hx hy ox oy l n).trans ⟨veq_of, vl_ext⟩)
theorem begF {x y : Vl} {l : Lb} {n : Nat} (h : ¬ ((keyV x).length : Int) ≤ ((keyX y l n).length : Int)) : (false == decide (x.k = y.k ∧ x.n = y.n ∧ x.s = y.s)) = true := by
  have : ¬ (x.k = y.k ∧ x.n = y.n ∧ x.s = y.s) := by
    intro hh
    have := vl_ext hh
    subst this
    have := keyX_len x l n
    omega
  rw [decide_eq_false this]; rfl
end Go.Proofs.Ytkkongnmcfdioaa
