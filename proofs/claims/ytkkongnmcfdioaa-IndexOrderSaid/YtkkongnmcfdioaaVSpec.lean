/- What values are, plainly. -/
import Derived.Test.YtkkongnmcfdioaaLib12
namespace Go.Proofs.Ytkkongnmcfdioaa
open Go.Gx
/-- A value. -/
structure Vl where
  k : Int
  n : Int
  s : List UInt8
def okB (c : UInt8) : Bool := decide (32 ≤ c.toNat ∧ c.toNat ≤ 126)
def mayV (x : Vl) : Bool := if x.k = 1 then x.s.isEmpty else x.s.all okB && decide (x.k = 2) && decide (x.n = 0) && decide (x.s.length ≤ 30)
theorem take_snoc {l : List UInt8} {i : Nat} (h : i < l.length) : l.take (i + 1) = l.take i ++ [l.getD i 0] := by
  rw [List.take_succ_eq_append_getElem h]; simp [List.getD_eq_getElem?_getD, h]
theorem all_snoc {p : UInt8 → Bool} {l : List UInt8} {i : Nat} (h : i < l.length) (ha : (l.take i).all p = true) (hb : p (l.getD i 0) = true) : (l.take (i + 1)).all p = true := by
  rw [take_snoc h, List.all_append, ha]; simp only [List.all_cons, hb, List.all_nil]; rfl
theorem all_bad {p : UInt8 → Bool} {l : List UInt8} {i : Nat} (h : i < l.length) (hb : p (l.getD i 0) = false) : l.all p = false := by
  rw [List.all_eq_false]
  exact ⟨l.getD i 0, by rw [List.getD_eq_getElem?_getD, List.getElem?_eq_getElem h]; exact List.getElem_mem h, by rw [hb]; simp⟩
theorem all_whole {p : UInt8 → Bool} {l : List UInt8} {i : Nat} (h : l.length ≤ i) (ha : (l.take i).all p = true) : l.all p = true := by
  rwa [List.take_of_length_le h] at ha
/-- How values stand. -/
def cmpV (x y : Vl) : Int := if x.k < y.k then -1 else if y.k < x.k then 1 else if x.k = 1 then cmpI x.n y.n else cmpT x.s y.s
def cmpW (x y : Vl) : Int := if cmpI x.k y.k ≠ 0 then cmpI x.k y.k else if cmpI x.n y.n ≠ 0 then cmpI x.n y.n else cmpT x.s y.s
theorem el_one {cs : List Value} {e : Int} {i j n : Nat} {u : Value} (he : e = (i : Int)) (hi : i = 0) (h : cs[j]? = some u) : cs[e.toNat * n + j]? = some u := by subst he; subst hi; simpa using h
theorem twin_copy (bl : List UInt8) : bl.map u8v ++ ((List.replicate (bl.length + 3) (0 : UInt8)).map u8v).drop (bl.map u8v).length = (bl ++ [0, 0, 0]).map u8v := by
  simp only [List.map_replicate, List.length_map, List.drop_replicate, List.map_append, Nat.add_sub_cancel_left]; rfl
theorem getD_tail (bl t : List UInt8) (k : Nat) : (bl ++ t).getD (bl.length + k) 0 = t.getD k 0 := by
  rw [List.getD_eq_getElem?_getD, List.getElem?_append_right (by omega), Nat.add_sub_cancel_left, List.getD_eq_getElem?_getD]
/-- A value's key. -/
def keyV (x : Vl) : List UInt8 := if x.k = 1 then 1 :: be8 (upN x.n) else 2 :: (x.s ++ [0])
/-- The same, as the document tells it: the number as it stands, its highest bit turned. -/
def upU (n : Int) : Nat := if n < 0 then (n + 18446744073709551616).toNat else n.toNat
def keyU (m : Nat) : List UInt8 := (List.range 8).map fun i => if i = 0 then UInt8.ofNat (m / 2 ^ (56 - 8 * i) % 256) ^^^ 128 else UInt8.ofNat (m / 2 ^ (56 - 8 * i) % 256)
theorem keyU_take {m i : Nat} (hi : i < 8) : (keyU m).take (i + 1) = (keyU m).take i ++ [if i = 0 then UInt8.ofNat (m / 2 ^ (56 - 8 * i) % 256) ^^^ 128 else UInt8.ofNat (m / 2 ^ (56 - 8 * i) % 256)] := by
  unfold keyU
  rw [List.take_succ_eq_append_getElem (by simpa using hi)]
  simp
theorem keyU_len (m : Nat) : (keyU m).length = 8 := by simp [keyU]
def keyR (x : Vl) : List UInt8 := if x.k = 1 then 1 :: keyU (upU x.n) else 2 :: (x.s ++ [0])
def V0 : Vl := ⟨0, 0, []⟩
/-- The bytes behind a text's first byte: at which place the text ends, or why there is none. -/
def scanT : List UInt8 → Nat → Int ⊕ Nat
  | [], _ => .inl 2
  | c :: r, i => if c.toNat = 0 then .inr i else if i = 30 ∨ okB c = false then .inl 3 else scanT r (i + 1)
def triT (b : List UInt8) : Int ⊕ Nat → Vl × Int × Int
  | .inr i => (⟨2, 0, b.take i⟩, (i : Int) + 2, 0)
  | .inl e => (V0, 0, e)
def textR (b : List UInt8) : Vl × Int × Int := triT b (scanT b 0)
/-- What is read of bytes: a value, how many, and the error. -/
def takeV (b : List UInt8) : Vl × Int × Int := match b with
  | [] => (V0, 0, 2)
  | c :: r => if c.toNat = 1 then (if b.length < 9 then (V0, 0, 2) else (⟨1, (ofBe (r.take 8) : Int) - 9223372036854775808, []⟩, 9, 0)) else if c.toNat = 2 then textR r else (V0, 0, 3)
theorem scan_step {b : List UInt8} {i : Nat} (h : i < b.length) : scanT (b.drop i) i = if (b.getD i 0).toNat = 0 then .inr i else if i = 30 ∨ okB (b.getD i 0) = false then .inl 3 else scanT (b.drop (i + 1)) (i + 1) := by
  rw [List.drop_eq_getElem_cons h]
  simp [scanT, List.getD_eq_getElem?_getD, h]
theorem scan_end {b : List UInt8} {i : Nat} (h : b.length ≤ i) : scanT (b.drop i) i = .inl 2 := by
  rw [List.drop_of_length_le h]; rfl
theorem ofBe_small {l : List UInt8} (h : l.length ≤ 7) : ofBe l < 72057594037927936 := by
  have h1 := ofBe_lt l
  have h2 : 256 ^ l.length ≤ 256 ^ 7 := Nat.pow_le_pow_right (by decide) h
  have h3 : (256 : Nat) ^ 7 = 72057594037927936 := by decide
  omega
theorem ofBe_8 {l : List UInt8} (h : l.length ≤ 8) : ofBe l < 18446744073709551616 := by
  have h1 := ofBe_lt l
  have h2 : 256 ^ l.length ≤ 256 ^ 8 := Nat.pow_le_pow_right (by decide) h
  have h3 : (256 : Nat) ^ 8 = 18446744073709551616 := by decide
  omega
theorem u8_rng (c : UInt8) : 0 ≤ (c.toNat : Int) ∧ (c.toNat : Int) ≤ 18446744073709551615 := by have := c.toNat_lt; omega
theorem take_lo {b : List UInt8} (h : b = []) : takeV b = (V0, 0, 2) := by subst h; rfl
theorem take_cons {b : List UInt8} (h : 0 < b.length) : takeV b = if (b.getD 0 0).toNat = 1 then (if b.length < 9 then (V0, 0, 2) else (⟨1, (ofBe ((b.drop 1).take 8) : Int) - 9223372036854775808, []⟩, 9, 0)) else if (b.getD 0 0).toNat = 2 then textR (b.drop 1) else (V0, 0, 3) := by
  cases b with
  | nil => simp at h
  | cons c r => rfl
theorem textR_of {b : List UInt8} {q : Int ⊕ Nat} (h : scanT b 0 = q) : textR b = triT b q := by rw [textR, h]
theorem drop1_get (b : List UInt8) (i : Nat) : (b.drop 1).getD i 0 = b.getD (1 + i) 0 := by
  simp [List.getD_eq_getElem?_getD, List.getElem?_drop, Nat.add_comm]
theorem okB_t {c : UInt8} (h : 32 ≤ c.toNat ∧ c.toNat ≤ 126) : okB c = true := decide_eq_true h
theorem okB_f {c : UInt8} (h : ¬ (32 ≤ c.toNat ∧ c.toNat ≤ 126)) : okB c = false := decide_eq_false h
end Go.Proofs.Ytkkongnmcfdioaa
