/- What values are, plainly. -/
import Derived.Sort.AssemblyPlain
import Derived.Lib.AppendZerosOnto
import Derived.Lib.Overlaps
import Derived.Laws.Externs
import Derived.Test.YthflnkfghogaoaaGreatProg
import Derived.KernelRfl
import Derived.Test.YthflnkfghogaoaaGreatB1
set_option linter.unusedVariables false
set_option linter.unusedSimpArgs false

namespace Go.Proofs.YthflnkfghogaoaaGreat
open Go.Gx
structure Vl where
  k : Int
  n : Int
  s : List UInt8
def okB (c : UInt8) : Bool := decide (32 ≤ c.toNat ∧ c.toNat ≤ 126)
def keyV (x : Vl) : List UInt8 := if x.k = 1 then 1 :: be8 (upN x.n) else 2 :: (x.s ++ [0])
end Go.Proofs.YthflnkfghogaoaaGreat

namespace Go.Proofs.YthflnkfghogaoaaGreat
open Go.Gx
theorem vl_ext {x y : Vl} (h : x.k = y.k ∧ x.n = y.n ∧ x.s = y.s) : x = y := by
  obtain ⟨k, n, s⟩ := x
  obtain ⟨k', n', s'⟩ := y
  obtain ⟨h1, h2, h3⟩ := h
  simp only at h1 h2 h3
  rw [h1, h2, h3]
end Go.Proofs.YthflnkfghogaoaaGreat

namespace Go.Proofs.YthflnkfghogaoaaGreat
open Go.Gx
def cellsV (x : Vl) : List Value := [.int .i64 x.k, .int .i64 x.n, .string (bs x.s)]
theorem el_flat {α : Type} {f : α → List Value} {sz : Nat} (hf : ∀ u, (f u).length = sz) (hp : 0 < sz) {l : List α} {d : α} {e : Int} {i : Nat} (he : e = (i : Int)) (h : i < l.length) {j : Nat} {u : Value} (hu : (f (l.getD i d))[j]? = some u) :
    (l.flatMap f)[e.toNat * sz + j]? = some u := by
  have hj : j < sz := by rw [← hf (l.getD i d)]; exact (List.getElem?_eq_some_iff.1 hu).1
  subst he
  rw [flat_get hp l fun v _ => hf v]
  have e1 : ((i : Int).toNat * sz + j) / sz = i := by rw [Int.toNat_natCast, Nat.add_comm, Nat.add_mul_div_right _ _ hp, Nat.div_eq_of_lt hj, Nat.zero_add]
  have e2 : ((i : Int).toNat * sz + j) % sz = j := by rw [Int.toNat_natCast, Nat.add_comm, Nat.add_mul_mod_self_right, Nat.mod_eq_of_lt hj]
  rw [e1, e2, List.getElem?_eq_getElem h]
  simpa [List.getD_eq_getElem?_getD, h] using hu
theorem snoc {α : Type} {l : List α} {d : α} {i : Nat} (h : i < l.length) : l.take (i + 1) = l.take i ++ [l.getD i d] := by
  rw [List.take_succ_eq_append_getElem h]; simp [List.getD_eq_getElem?_getD, h]
instance : DecidableEq Vl := fun x y => if h : x.k = y.k ∧ x.n = y.n ∧ x.s = y.s then isTrue (vl_ext h) else isFalse (fun e => h (by subst e; exact ⟨rfl, rfl, rfl⟩))
end Go.Proofs.YthflnkfghogaoaaGreat

namespace Go.Proofs.YthflnkfghogaoaaGreat
open Go.Gx
abbrev Lb := List UInt16
def Rise (l : Lb) : Prop := l.Pairwise (fun a b => a.toNat < b.toNat)
instance (l : Lb) : Decidable (Rise l) := List.instDecidablePairwise l
def mayL (l : Lb) : Bool := decide (Rise l) && decide (l.length ≤ 8)
theorem rise_nil : Rise [] := List.Pairwise.nil
theorem rise_one {l : Lb} : Rise (l.take 1) := by
  cases l with
  | nil => exact List.Pairwise.nil
  | cons a l => simp [Rise]
theorem rise_at {l : Lb} {i j : Nat} (h : Rise l) (hij : i < j) (hj : j < l.length) : (l.getD i 0).toNat < (l.getD j 0).toNat := by
  have := List.pairwise_iff_getElem.1 h i j (by omega) hj hij
  simpa [List.getD_eq_getElem?_getD, show i < l.length by omega, hj] using this
theorem rise_step {l : Lb} {i : Nat} (hi : 0 < i) (hl : i < l.length) (h : Rise (l.take i)) (hlt : (l.getD (i - 1) 0).toNat < (l.getD i 0).toNat) : Rise (l.take (i + 1)) := by
  rw [snoc (d := 0) hl]
  refine List.pairwise_append.2 ⟨h, by simp, fun a ha b hb => ?_⟩
  simp at hb; subst hb
  obtain ⟨j, hj, rfl⟩ := List.getElem_of_mem ha
  have hj' : j < i := by simp at hj; omega
  rw [List.getElem_take]
  have e : l[j]'(by omega) = l.getD j 0 := by simp [List.getD_eq_getElem?_getD, show j < l.length by omega]
  have e2 : l[i]?.getD 0 = l.getD i 0 := by simp [List.getD_eq_getElem?_getD]
  rw [e]
  try rw [e2]
  rcases Nat.lt_or_ge j (i - 1) with h1 | h1
  · have h2 := rise_at (i := j) (j := i - 1) h h1 (by simp; omega)
    have e3 : (l.take i).getD j 0 = l.getD j 0 := by simp [List.getD_eq_getElem?_getD, List.getElem?_take, hj']
    have e4 : (l.take i).getD (i - 1) 0 = l.getD (i - 1) 0 := by simp [List.getD_eq_getElem?_getD, List.getElem?_take, show i - 1 < i by omega]
    rw [e3, e4] at h2
    omega
  · have : j = i - 1 := by omega
    subst this; exact hlt
theorem rise_bad {l : Lb} {i : Nat} (hi : 0 < i) (hl : i < l.length) (h : ¬ (l.getD (i - 1) 0).toNat < (l.getD i 0).toNat) : ¬ Rise l := fun hr => h (rise_at hr (by omega) hl)
theorem mayL_len {l : Lb} (h : mayL l = true) : l.length ≤ 8 := by unfold mayL at h; simp only [Bool.and_eq_true, decide_eq_true_eq] at h; exact h.2
def cmpG : Lb → Lb → Int
  | [], [] => 0
  | [], _ :: _ => -1
  | _ :: _, [] => 1
  | a :: l, b :: m => if a.toNat < b.toNat then -1 else if b.toNat < a.toNat then 1 else cmpG l m
def cmpL (a b : Lb) : Int := if a.length < b.length then -1 else if b.length < a.length then 1 else cmpG a b
theorem cmpG_step {a b : Lb} {i : Nat} (ha : i < a.length) (hb : i < b.length) : cmpG (a.drop i) (b.drop i) = if (a.getD i 0).toNat < (b.getD i 0).toNat then -1 else if (b.getD i 0).toNat < (a.getD i 0).toNat then 1 else cmpG (a.drop (i + 1)) (b.drop (i + 1)) := by
  rw [List.drop_eq_getElem_cons ha, List.drop_eq_getElem_cons hb]
  simp [cmpG, List.getD_eq_getElem?_getD, ha, hb]
theorem cmpG_end {a b : Lb} {i : Nat} (ha : a.length ≤ i) (hb : b.length ≤ i) : cmpG (a.drop i) (b.drop i) = 0 := by
  rw [List.drop_of_length_le ha, List.drop_of_length_le hb]; rfl
theorem cmpG_refl : ∀ (a : Lb), cmpG a a = 0
  | [] => rfl
  | a :: l => by simp [cmpG, cmpG_refl l]
theorem cmpG_eq : ∀ {a b : Lb}, cmpG a b = 0 → a = b
  | [], [], _ => rfl
  | [], _ :: _, h => by simp [cmpG] at h
  | _ :: _, [], h => by simp [cmpG] at h
  | a :: l, b :: m, h => by
    unfold cmpG at h
    split at h
    · simp at h
    · split at h
      · simp at h
      · have : a = b := UInt16.toNat_inj.1 (by omega)
        rw [this, cmpG_eq h]
theorem cmpL_zero {a b : Lb} : cmpL a b = 0 ↔ a = b := by
  constructor
  · intro h
    unfold cmpL at h
    split at h
    · simp at h
    · split at h
      · simp at h
      · exact cmpG_eq h
  · rintro rfl; simp [cmpL, cmpG_refl]
end Go.Proofs.YthflnkfghogaoaaGreat

namespace Go.Proofs.YthflnkfghogaoaaGreat
open Go.Gx Go.Sort Go.RowKit
abbrev Ar := Array UInt16
def ltT (x y : UInt16) : Bool := decide (x.toNat < y.toNat)
theorem swoT : SWO ltT where
  irrefl := fun x => by simp [ltT]
  trans := fun x y z h1 h2 => by simp [ltT] at *; omega
  ntrans := fun x y z h1 h2 => by simp [ltT] at *; omega
theorem el_arr {d : Ar} {e : Int} {i : Nat} (he : e = (i : Int)) (h : i < d.size) : (d.toList.map u16v)[e.toNat * 1 + 0]? = some (Value.int .u16 (d[i]!.toNat : Int)) := by
  subst he
  have e1 : d[i]! = d[i] := by simp [h]
  rw [e1]; simp [u16v, h]
theorem el_at {d : Ar} {i : Nat} (h : i < d.size) : (d.toList.map u16v)[i + 0]? = some (Value.int .u16 (d[i]!.toNat : Int)) := by
  have := el_arr (d := d) (e := (i : Int)) rfl h
  simpa using this
theorem set_arr {d : Ar} {i : Nat} {x : UInt16} (h : i < d.size) : (d.toList.map u16v).take i ++ [Value.int .u16 (x.toNat : Int)] ++ (d.toList.map u16v).drop (i + [Value.int .u16 (x.toNat : Int)].length) = (d.setIfInBounds i x).toList.map u16v := by
  have h' : i < d.toList.length := by simpa using h
  rw [Array.toList_setIfInBounds, List.set_eq_take_append_cons_drop, if_pos h']
  simp [u16v]
theorem ltT_t {x y : UInt16} (h : (x.toNat : Int) < (y.toNat : Int)) : ltT x y = true := decide_eq_true (by omega)
theorem ltT_f {x y : UInt16} (h : ¬ (x.toNat : Int) < (y.toNat : Int)) : ltT x y = false := decide_eq_false (by omega)
theorem swp_sz (d : Ar) (i j : Nat) : (swp d i j).size = d.size := size_swp d i j
/-! how many bits a number has -/
def tab8 : List UInt8 := [0, 1, 2, 2, 3, 3, 3, 3] ++ List.replicate 8 4 ++ List.replicate 16 5 ++ List.replicate 32 6 ++ List.replicate 64 7 ++ List.replicate 128 8
theorem tab8_len {z : Nat} (h : z < 256) : (tab8.getD z 0).toNat = bitsLen z := by
  have : ∀ i : Fin 256, (tab8.getD i.val 0).toNat = bitsLen i.val := by decide +kernel
  exact this ⟨z, h⟩
theorem tab8_sz : tab8.length = 256 := by decide +kernel
theorem bits_shift {n k : Nat} (h : 2 ^ k ≤ n) : bitsLen n = k + bitsLen (n / 2 ^ k) := by
  have key : ∀ m, bitsLen n ≤ m ↔ k + bitsLen (n / 2 ^ k) ≤ m := by
    intro m
    rw [bitsLen_le_iff]
    by_cases hm : m < k
    · constructor
      · intro h1
        have := Nat.pow_lt_pow_right (show 1 < 2 by decide) hm
        omega
      · intro h1; omega
    · obtain ⟨j, rfl⟩ : ∃ j, m = k + j := ⟨m - k, by omega⟩
      rw [show (k + bitsLen (n / 2 ^ k) ≤ k + j) ↔ bitsLen (n / 2 ^ k) ≤ j by omega, bitsLen_le_iff, Nat.div_lt_iff_lt_mul (Nat.two_pow_pos k), ← Nat.pow_add, Nat.add_comm j k]
  exact Nat.le_antisymm ((key _).2 (Nat.le_refl _)) ((key _).1 (Nat.le_refl _))
theorem bits_32 {n : Nat} (h : 4294967296 ≤ n) : bitsLen n = 32 + bitsLen (n / 4294967296) := bits_shift (k := 32) h
theorem bits_16 {n : Nat} (h : 65536 ≤ n) : bitsLen n = 16 + bitsLen (n / 65536) := bits_shift (k := 16) h
theorem bits_8 {n : Nat} (h : 256 ≤ n) : bitsLen n = 8 + bitsLen (n / 256) := bits_shift (k := 8) h
/-! the loops of the sort -/
theorem insInner_go {a j : Nat} {d : Ar} (hj : a < j) (hl : ltT d[j]! d[j - 1]! = true) : insInner ltT a j d = insInner ltT a (j - 1) (swp d j (j - 1)) := by
  obtain ⟨k, rfl⟩ : ∃ k, j = k + 1 := ⟨j - 1, by omega⟩
  rw [insInner]
  simp only [Nat.add_sub_cancel] at hl ⊢
  simp [hj, hl]
theorem insInner_stop {a j : Nat} {d : Ar} (h : j ≤ a ∨ ltT d[j]! d[j - 1]! = false) : insInner ltT a j d = d := by
  cases j with
  | zero => rw [insInner]
  | succ k =>
    rw [insInner]
    simp only [Nat.add_sub_cancel] at h
    rcases h with h | h
    · simp [show ¬ k + 1 > a by omega]
    · simp [h]
theorem insOuter_go {a b i : Nat} {d : Ar} (h : i < b) : insOuter ltT a b i d = insOuter ltT a b (i + 1) (insInner ltT a i d) := by rw [insOuter, if_pos h]
theorem insOuter_stop {a b i : Nat} {d : Ar} (h : ¬ i < b) : insOuter ltT a b i d = d := by rw [insOuter, if_neg h]
theorem siftDown_stop {hi first root : Nat} {d : Ar} (h : hi ≤ 2 * root + 1) : siftDown ltT hi first root d = d := by rw [siftDown, dif_pos h]
def childS (hi first root : Nat) (d : Ar) : Nat := if 2 * root + 1 + 1 < hi && ltT d[first + (2 * root + 1)]! d[first + (2 * root + 1) + 1]! then 2 * root + 2 else 2 * root + 1
theorem siftDown_ret {hi first root : Nat} {d : Ar} (h : ¬ hi ≤ 2 * root + 1) (hl : ltT d[first + root]! d[first + childS hi first root d]! = false) : siftDown ltT hi first root d = d := by
  rw [siftDown, dif_neg h]
  unfold childS at hl
  split
  · rename_i hc; rw [if_pos hc] at hl; simp [hl]
  · rename_i hc; rw [if_neg hc] at hl; simp [hl]
theorem siftDown_go {hi first root : Nat} {d : Ar} (h : ¬ hi ≤ 2 * root + 1) (hl : ltT d[first + root]! d[first + childS hi first root d]! = true) : siftDown ltT hi first root d = siftDown ltT hi first (childS hi first root d) (swp d (first + root) (first + childS hi first root d)) := by
  rw [siftDown, dif_neg h]
  unfold childS at hl ⊢
  split
  · rename_i hc
    rw [if_pos hc] at hl
    try rw [if_pos hc]
    simp only [hl, Bool.not_true, Bool.false_eq_true, if_false]
    simp only [Bool.and_eq_true, decide_eq_true_eq] at hc
    rw [dif_pos (by omega)]
  · rename_i hc
    rw [if_neg hc] at hl
    try rw [if_neg hc]
    simp [hl]
theorem childS_lt {hi first root : Nat} {d : Ar} (h : ¬ hi ≤ 2 * root + 1) : childS hi first root d < hi ∧ root < childS hi first root d := by
  unfold childS
  split
  · rename_i hc; simp only [Bool.and_eq_true, decide_eq_true_eq] at hc; omega
  · omega
theorem siftDown_sz : ∀ (n hi first root : Nat) (d : Ar), hi - root ≤ n → (siftDown ltT hi first root d).size = d.size
  | n, hi, first, root, d, hn => by
    by_cases h : hi ≤ 2 * root + 1
    · rw [siftDown_stop h]
    · rcases hl : ltT d[first + root]! d[first + childS hi first root d]! with _ | _
      · rw [siftDown_ret h hl]
      · have hc := childS_lt (first := first) (d := d) h
        cases n with
        | zero => omega
        | succ n => rw [siftDown_go h hl, siftDown_sz n _ _ _ _ (by omega), size_swp]
theorem siftDown_size {hi first root : Nat} {d : Ar} : (siftDown ltT hi first root d).size = d.size := siftDown_sz _ hi first root d (Nat.le_refl _)
abbrev PI (a b : Nat) (d d' : Ar) : Prop := PermIn a b d d'
theorem PI.sz {a b : Nat} {d d' : Ar} (h : PI a b d d') : d'.size = d.size := h.1
theorem PI.rfl' (a b : Nat) (d : Ar) : PI a b d d := permIn_refl d a b
theorem PI.tr {a b : Nat} {d d' d'' : Ar} (h : PI a b d d') (h' : PI a b d' d'') : PI a b d d'' := permIn_trans d d' d'' a b h h'
theorem PI.mono {a b a' b' : Nat} {d d' : Ar} (h : PI a b d d') (ha : a' ≤ a) (hb : b ≤ b') (hs : b' ≤ d.size) : PI a' b' d d' := permIn_mono d d' a b a' b' ha hb hs h
theorem PI.all {a b : Nat} {d d' : Ar} (h : PI a b d d') (hb : b ≤ d.size) (p : UInt16 → Prop) (hp : ∀ i, a ≤ i → i < b → p d[i]!) : ∀ i, a ≤ i → i < b → p d'[i]! := permIn_all d d' a b p hb h hp
theorem PI.below {a b : Nat} {d d' : Ar} (h : PI a b d d') (hb : b ≤ d.size) (hB : Go.Sort.Below ltT a b d) : Go.Sort.Below ltT a b d' := by
  rcases hB with hB | hB
  · exact .inl hB
  · by_cases ha : a = 0
    · exact .inl ha
    · refine .inr fun i h1 h2 => ?_
      have e : d'[a - 1]! = d[a - 1]! := h.2.1 (a - 1) (.inl (by omega))
      rw [e]
      exact h.all hb (fun x => ltT x d[a - 1]! = false) hB i h1 h2
def Left (a b x y : Nat) (d : Ar) : Prop := ∀ d', PI x y d d' → SortedIn ltT x y d' → SortedIn ltT a b d'
theorem Left.start (a b : Nat) (d : Ar) : Left a b a b d := fun _ _ h => h
theorem Left.perm {a b x y : Nat} {d d1 : Ar} (h : Left a b x y d) (hp : PI x y d d1) : Left a b x y d1 := fun d' h1 h2 => h d' (hp.tr h1) h2
end Go.Proofs.YthflnkfghogaoaaGreat

namespace Go.Proofs.YthflnkfghogaoaaGreat
open Go.Gx Go.Sort Go.RowKit
def Inv (a b x y : Nat) (d0 d : Ar) : Prop := a ≤ x ∧ x ≤ y ∧ y ≤ b ∧ b ≤ d0.size ∧ PI a b d0 d ∧ Go.Sort.Below ltT x y d ∧ Left a b x y d
theorem Inv.start {a b : Nat} {d : Ar} (h : Go.Sort.Below ltT a b d) (hab : a ≤ b) (hb : b ≤ d.size) : Inv a b a b d d := ⟨Nat.le_refl _, hab, Nat.le_refl _, hb, PI.rfl' _ _ _, h, Left.start _ _ _⟩
theorem Inv.rng {a b x y : Nat} {d0 d : Ar} (h : Inv a b x y d0 d) : a ≤ x ∧ x ≤ y ∧ y ≤ b := ⟨h.1, h.2.1, h.2.2.1⟩
theorem Inv.sz {a b x y : Nat} {d0 d : Ar} (h : Inv a b x y d0 d) : d.size = d0.size := h.2.2.2.2.1.sz
theorem Inv.hi {a b x y : Nat} {d0 d : Ar} (h : Inv a b x y d0 d) : y ≤ d.size := by have := h.sz; have := h.2.2.1; have := h.2.2.2.1; omega
theorem Inv.perm {a b x y : Nat} {d0 d d1 : Ar} (h : Inv a b x y d0 d) (hp : PI x y d d1) : Inv a b x y d0 d1 := by
  have hi := h.hi; have hs := h.sz
  obtain ⟨h1, h2, h3, h4, h5, h6, h7⟩ := h
  exact ⟨h1, h2, h3, h4, h5.tr (hp.mono h1 h3 (by omega)), hp.below hi h6, h7.perm hp⟩
theorem Inv.done {a b x y : Nat} {d0 d d1 : Ar} (h : Inv a b x y d0 d) (hp : PI x y d d1) (hs : SortedIn ltT x y d1) : PI a b d0 d1 ∧ SortedIn ltT a b d1 :=
  ⟨(h.perm hp).2.2.2.2.1, h.2.2.2.2.2.2 d1 hp hs⟩
theorem Inv.ins {a b x y : Nat} {d0 d : Ar} (h : Inv a b x y d0 d) : PI a b d0 (insertionSort ltT d x y) ∧ SortedIn ltT a b (insertionSort ltT d x y) :=
  have g := insertionSort_holds swoT d x y h.2.1 h.hi
  h.done g.1 g.2
end Go.Proofs.YthflnkfghogaoaaGreat

namespace Go.Proofs.YthflnkfghogaoaaGreat
open Go.Gx Go.Sort Go.RowKit
def dd : List UInt16 → List UInt16
  | [] => []
  | [x] => [x]
  | x :: y :: r => if x = y then dd (y :: r) else x :: dd (y :: r)
theorem dd_snoc : ∀ (l : List UInt16) (x y : UInt16), dd (l ++ [x, y]) = if x = y then dd (l ++ [x]) else dd (l ++ [x]) ++ [y]
  | [], x, y => by by_cases h : x = y <;> simp [dd, h]
  | [a], x, y => by
    have ih := dd_snoc [] x y
    simp only [List.nil_append] at ih
    simp only [List.cons_append, List.nil_append]
    rw [dd, ih]; by_cases h : x = y <;> by_cases h2 : a = x <;> simp [dd, h, h2]
  | a :: b :: l, x, y => by
    have ih := dd_snoc (b :: l) x y
    simp only [List.cons_append] at ih ⊢
    rw [dd, ih, dd]; by_cases h : x = y <;> by_cases h2 : a = b <;> simp [h, h2]
theorem ar_take {d : Ar} {i : Nat} (h : i < d.size) : d.toList.take (i + 1) = d.toList.take i ++ [d[i]!] := by
  have h' : i < d.toList.length := by simpa using h
  rw [List.take_add_one, List.getElem?_eq_getElem h']
  simp [h]
theorem dd_step {d : Ar} {i : Nat} (h0 : 1 ≤ i) (h : i < d.size) : dd (d.toList.take (i + 1)) = if d[i - 1]! = d[i]! then dd (d.toList.take i) else dd (d.toList.take i) ++ [d[i]!] := by
  have e : d.toList.take i = d.toList.take (i - 1) ++ [d[i - 1]!] := by
    have := ar_take (d := d) (i := i - 1) (by omega)
    rwa [show i - 1 + 1 = i by omega] at this
  rw [ar_take h, e, List.append_assoc]
  exact dd_snoc _ _ _
theorem dd_one {d : Ar} (h : 1 ≤ d.size) : dd (d.toList.take 1) = d.toList.take 1 := by
  rcases hl : d.toList with _ | ⟨a, r⟩
  · rfl
  · rfl
theorem dd_same {d : Ar} {i : Nat} (h0 : 1 ≤ i) (h : i < d.size) (hs : dd (d.toList.take i) = d.toList.take i) (hne : ¬ d[i]! = d[i - 1]!) : dd (d.toList.take (i + 1)) = d.toList.take (i + 1) := by
  rw [dd_step h0 h, if_neg (fun e => hne e.symm), hs, ar_take h]
theorem dd_short {d : Ar} (h : d.size < 2) : dd d.toList = d.toList := by
  rcases hl : d.toList with _ | ⟨a, _ | ⟨b, r⟩⟩
  · rfl
  · rfl
  · have := congrArg List.length hl; simp at this; omega
theorem dd_full {d : Ar} {n : Nat} (hd : d.size = n) (hs : dd (d.toList.take n) = d.toList.take n) : dd d.toList = d.toList := by
  have e : d.toList.take n = d.toList := by rw [List.take_of_length_le]; simp [hd]
  rwa [e] at hs
theorem dd_keep {d dk : Ar} {i k : Nat} (h0 : 1 ≤ i) (h : i < d.size) (hk : k < i) (hz : dk.size = d.size) (hdd : dk.toList.take k = dd (d.toList.take i)) (hsame : ∀ j, k ≤ j → dk[j]! = d[j]!) (hne : ¬ d[i]! = d[i - 1]!) :
    (dk.setIfInBounds k d[i]!).toList.take (k + 1) = dd (d.toList.take (i + 1)) ∧ ∀ j, k + 1 ≤ j → (dk.setIfInBounds k d[i]!)[j]! = d[j]! := by
  constructor
  · rw [dd_step h0 h, if_neg (fun e => hne e.symm), ← hdd, ar_take (by simp; omega)]
    congr 1
    · rw [Array.toList_setIfInBounds, List.take_set_of_le (Nat.le_refl _)]
    · rw [Array.getElem!_eq_getD, Array.getD, dif_pos (by simp; omega)]; simp
  · intro j hj
    rw [← hsame j (by omega)]
    generalize d[i]! = z
    have hkj : k ≠ j := by omega
    simp [getElem!_def, Array.getElem?_setIfInBounds, hkj]
theorem u16_eq {x y : UInt16} (h : (x.toNat : Int) = (y.toNat : Int)) : x = y := UInt16.toNat_inj.1 (by omega)
def clr (d : Ar) (k : Nat) : Ar := (d.toList.take k ++ List.replicate (d.size - k) 0).toArray
theorem clr_cs {d : Ar} {n k : Nat} (hd : d.size = n) : (d.toList.map u16v).take k ++ List.replicate (n - k) (Value.int .u16 0) = (clr d k).toList.map u16v := by
  subst hd; simp [clr, u16v]
theorem clr_take {d : Ar} {k : Nat} (hk : k ≤ d.size) : (clr d k).toList.take k = d.toList.take k := by
  simp [clr, List.take_append, hk]
theorem el_arr_tail {d : Ar} {e : Int} {i k : Nat} (he : e = (i : Int)) (h : k + i < d.size) : ((d.toList.map u16v).drop k)[e.toNat * 1 + 0]? = some (Value.int .u16 (d[k + i]!.toNat : Int)) := by
  subst he
  have e1 : d[k + i]! = d[k + i] := by simp [h]
  rw [e1]; simp [u16v, h]
end Go.Proofs.YthflnkfghogaoaaGreat

namespace Go.Proofs.YthflnkfghogaoaaGreat
open Go.Gx Go.Sort Go.RowKit
theorem dd_mem (x : UInt16) : ∀ (l : List UInt16), x ∈ dd l ↔ x ∈ l
  | [] => Iff.rfl
  | [_] => Iff.rfl
  | a :: b :: r => by
    have ih := dd_mem x (b :: r)
    rw [dd]
    by_cases h : a = b
    · subst h; rw [if_pos rfl, ih]; simp
    · rw [if_neg h, List.mem_cons, ih, List.mem_cons (a := x) (b := a)]
theorem dd_rise : ∀ (l : List UInt16), l.Pairwise (fun a b => a.toNat ≤ b.toNat) → Rise (dd l)
  | [], _ => List.Pairwise.nil
  | [a], _ => List.pairwise_singleton _ _
  | a :: b :: r, h => by
    have h2 := List.pairwise_cons.1 h
    have ih := dd_rise (b :: r) h2.2
    rw [dd]
    by_cases e : a = b
    · rw [if_pos e]; exact ih
    · rw [if_neg e]
      refine List.pairwise_cons.2 ⟨fun z hz => ?_, ih⟩
      rw [dd_mem] at hz
      have hab := h2.1 b (by simp)
      have hne : a.toNat ≠ b.toNat := fun q => e (UInt16.toNat_inj.1 q)
      rcases List.mem_cons.1 hz with rfl | hz
      · omega
      · have := (List.pairwise_cons.1 h2.2).1 z hz; omega
theorem rise_ext : ∀ {a b : Lb}, Rise a → Rise b → (∀ x, x ∈ a ↔ x ∈ b) → a = b
  | [], [], _, _, _ => rfl
  | [], y :: b, _, _, h => by have := (h y).2 (by simp); simp at this
  | x :: a, [], _, _, h => by have := (h x).1 (by simp); simp at this
  | x :: a, y :: b, ha, hb, h => by
    have ha' := List.pairwise_cons.1 ha
    have hb' := List.pairwise_cons.1 hb
    have e : x = y := by
      rcases List.mem_cons.1 ((h x).1 (by simp)) with q | q
      · exact q
      · rcases List.mem_cons.1 ((h y).2 (by simp)) with q' | q'
        · exact q'.symm
        · have := hb'.1 x q; have := ha'.1 y q'; omega
    subst e
    rw [rise_ext ha'.2 hb'.2 fun z => ?_]
    have hz := h z
    simp only [List.mem_cons] at hz
    constructor
    · intro q
      rcases hz.1 (.inr q) with r | r
      · subst r; have := ha'.1 z q; omega
      · exact r
    · intro q
      rcases hz.2 (.inr q) with r | r
      · subst r; have := hb'.1 z q; omega
      · exact r
def insT (x : UInt16) : Lb → Lb
  | [] => [x]
  | y :: r => if y.toNat < x.toNat then y :: insT x r else if y = x then y :: r else x :: y :: r
theorem insT_mem (x z : UInt16) : ∀ (l : Lb), z ∈ insT x l ↔ z = x ∨ z ∈ l
  | [] => by simp [insT]
  | y :: r => by
    rw [insT]
    split
    · rw [List.mem_cons, insT_mem x z r, List.mem_cons]; constructor <;> rintro (h | h | h) <;> simp [h]
    · split
      · rename_i h; subst h; simp
      · simp
theorem insT_rise {x : UInt16} : ∀ {l : Lb}, Rise l → Rise (insT x l)
  | [], _ => List.pairwise_singleton _ _
  | y :: r, h => by
    have h' := List.pairwise_cons.1 h
    rw [insT]
    split
    · refine List.pairwise_cons.2 ⟨fun z hz => ?_, insT_rise h'.2⟩
      rcases (insT_mem x z r).1 hz with rfl | hz
      · assumption
      · exact h'.1 z hz
    · split
      · exact h
      · rename_i h1 h2
        have hne : y.toNat ≠ x.toNat := fun q => h2 (UInt16.toNat_inj.1 q)
        refine List.pairwise_cons.2 ⟨fun z hz => ?_, h⟩
        rcases List.mem_cons.1 hz with rfl | hz
        · omega
        · have := h'.1 z hz; omega
def nrm (l : Lb) : Lb := l.foldl (fun acc x => insT x acc) []
theorem nrm_go : ∀ (l acc : Lb), Rise acc → Rise (l.foldl (fun acc x => insT x acc) acc) ∧ ∀ z, z ∈ l.foldl (fun acc x => insT x acc) acc ↔ z ∈ acc ∨ z ∈ l
  | [], acc, h => ⟨h, fun z => by simp⟩
  | x :: l, acc, h => by
    obtain ⟨h1, h2⟩ := nrm_go l (insT x acc) (insT_rise h)
    refine ⟨h1, fun z => ?_⟩
    rw [List.foldl_cons, h2, insT_mem, List.mem_cons]
    constructor
    · rintro ((h | h) | h) <;> simp [h]
    · rintro (h | h | h) <;> simp [h]
theorem nrm_rise (l : Lb) : Rise (nrm l) := (nrm_go l [] rise_nil).1
theorem nrm_mem (l : Lb) (z : UInt16) : z ∈ nrm l ↔ z ∈ l := by have := (nrm_go l [] rise_nil).2 z; simpa [nrm] using this
theorem nrm_of {l a : Lb} (h : Rise a) (hm : ∀ z, z ∈ a ↔ z ∈ l) : a = nrm l := rise_ext h (nrm_rise l) fun z => (hm z).trans (nrm_mem l z).symm
theorem sort_nrm {d d' : Ar} {n : Nat} (hd : d.size = n) (hp : PI 0 n d d') (hs : SortedIn ltT 0 n d') : dd d'.toList = nrm d.toList := by
  have hz : d'.size = n := hp.sz.trans hd
  have e1 : d.extract 0 n = d := by rw [← hd]; exact Array.extract_size
  have e2 : d'.extract 0 n = d' := by rw [← hz]; exact Array.extract_size
  have hperm := hp.2.2
  rw [e1, e2] at hperm
  refine nrm_of (dd_rise _ ?_) fun z => (dd_mem z _).trans hperm.mem_iff
  rw [List.pairwise_iff_getElem]
  intro i j hi hj hij
  have hi' : i < d'.size := by simpa using hi
  have hj' : j < d'.size := by simpa using hj
  have := hs i j (Nat.zero_le _) hij (by omega)
  simp only [ltT, decide_eq_false_iff_not] at this
  have a1 : d'[i]! = d'.toList[i] := by simp [hi']
  have a2 : d'[j]! = d'.toList[j] := by simp [hj']
  rw [a1, a2] at this
  omega
theorem take_nrm {l : Lb} {i : Nat} (h : i < l.length) : nrm (l.take (i + 1)) = insT (l.getD i 0) (nrm (l.take i)) := by
  have e : l.take (i + 1) = l.take i ++ [l.getD i 0] := by
    rw [List.take_add_one, List.getElem?_eq_getElem h]; simp [h]
  rw [e, nrm, List.foldl_append]; rfl
end Go.Proofs.YthflnkfghogaoaaGreat

namespace Go.Proofs.YthflnkfghogaoaaGreat
open Go.Gx Go.RowKit
def inL (x : UInt16) (m : Lb) : Bool := decide (x ∈ m)
def ninL (x : UInt16) (m : Lb) : Bool := !inL x m
def minusL (l m : Lb) : Lb := l.filter (fun x => ninL x m)
def flowsL (l m : Lb) : Bool := l.all (fun x => inL x m)
theorem in_t {x : UInt16} {m : Lb} {i : Nat} (h : i < m.length) (e : (m.getD i 0) = x) : inL x m = true := by
  subst e; unfold inL; simp [h]
theorem in_f {x : UInt16} {m : Lb} {i : Nat} (hi : m.length ≤ i) (h : ∀ j, j < i → m.getD j 0 ≠ x) : inL x m = false := by
  unfold inL
  rw [decide_eq_false_iff_not]
  intro hm
  obtain ⟨j, hj, e⟩ := List.getElem_of_mem hm
  exact h j (by omega) (by simp [hj, e])
theorem no_step {x : UInt16} {m : Lb} {i : Nat} (h : ∀ j, j < i → m.getD j 0 ≠ x) (e : ¬ m.getD i 0 = x) : ∀ j, j < i + 1 → m.getD j 0 ≠ x := fun j hj => by
  by_cases q : j = i
  · subst q; exact e
  · exact h j (by omega)
theorem lb_take {l : Lb} {i : Nat} (h : i < l.length) : l.take (i + 1) = l.take i ++ [l.getD i 0] := by
  rw [List.take_add_one, List.getElem?_eq_getElem h]; simp [h]
theorem filter_t {l : Lb} {i : Nat} {p : UInt16 → Bool} (h : i < l.length) (hp : p (l.getD i 0) = true) : (l.take (i + 1)).filter p = (l.take i).filter p ++ [l.getD i 0] := by
  rw [lb_take h, List.filter_append, List.filter_cons, if_pos hp]; rfl
theorem filter_f {l : Lb} {i : Nat} {p : UInt16 → Bool} (h : i < l.length) (hp : p (l.getD i 0) = false) : (l.take (i + 1)).filter p = (l.take i).filter p := by
  rw [lb_take h, List.filter_append, List.filter_cons, if_neg (by rw [hp]; decide), List.filter_nil, List.append_nil]
theorem filter_le {l : Lb} {i : Nat} {p : UInt16 → Bool} : ((l.take i).filter p).length ≤ i := Nat.le_trans (List.length_filter_le _ _) (by simp; omega)
theorem all_f {l : Lb} {i : Nat} {p : UInt16 → Bool} (h : i < l.length) (hp : p (l.getD i 0) = false) : l.all p = false := by
  rw [List.all_eq_false]
  exact ⟨l.getD i 0, by simp [h], by simpa using hp⟩
theorem all_step {l : Lb} {i : Nat} {p : UInt16 → Bool} (h : i < l.length) (ha : (l.take i).all p = true) (hp : p (l.getD i 0) = true) : (l.take (i + 1)).all p = true := by
  rw [lb_take h, List.all_append, ha]; simp only [List.all_cons, List.all_nil, hp]; rfl
theorem all_end {l : Lb} {i : Nat} {p : UInt16 → Bool} (h : l.length ≤ i) (ha : (l.take i).all p = true) : l.all p = true := by
  rwa [List.take_of_length_le h] at ha
theorem flows_minus (l m : Lb) : flowsL l m = decide ((minusL l m).length = 0) := by
  unfold flowsL minusL ninL
  rw [Bool.eq_iff_iff, decide_eq_true_iff, List.length_eq_zero_iff, List.filter_eq_nil_iff]
  simp
theorem take_all (l : Lb) {i : Nat} (h : l.length ≤ i) : l.take i = l := List.take_of_length_le h
theorem insT_at {x : UInt16} : ∀ {acc : Lb} {j : Nat}, (∀ k, k < j → (acc.getD k 0).toNat < x.toNat) → j ≤ acc.length → (j = acc.length ∨ ¬ (acc.getD j 0).toNat < x.toNat) →
    ((¬ j = acc.length ∧ acc.getD j 0 = x → insT x acc = acc) ∧ (j = acc.length ∨ acc.getD j 0 ≠ x → insT x acc = acc.take j ++ [x] ++ acc.drop j))
  | [], j, _, h2, _ => by
    have : j = 0 := by simpa using h2
    subst this
    exact ⟨fun h => absurd rfl h.1, fun _ => rfl⟩
  | y :: r, 0, _, _, h3 => by
    have hy : ¬ y.toNat < x.toNat := by simpa using h3
    refine ⟨fun h => ?_, fun h => ?_⟩
    · have e : y = x := by simpa using h.2
      rw [insT, if_neg hy, if_pos e]
    · have e : ¬ y = x := by simpa using h
      rw [insT, if_neg hy, if_neg e]; rfl
  | y :: r, j + 1, h1, h2, h3 => by
    have hy : y.toNat < x.toNat := by simpa using h1 0 (by omega)
    obtain ⟨g1, g2⟩ := insT_at (acc := r) (j := j) (fun k hk => by simpa using h1 (k + 1) (by omega)) (by simpa using h2) (by simpa using h3)
    refine ⟨fun h => ?_, fun h => ?_⟩
    · rw [insT, if_pos hy, g1 (by simpa using h)]
    · rw [insT, if_pos hy, g2 (by simpa using h)]; simp
theorem lt_step {x : UInt16} {acc : Lb} {j : Nat} (h : ∀ k, k < j → (acc.getD k 0).toNat < x.toNat) (e : (acc.getD j 0).toNat < x.toNat) : ∀ k, k < j + 1 → (acc.getD k 0).toNat < x.toNat := fun k hk => by
  by_cases q : k = j
  · subst q; exact e
  · exact h k (by omega)
theorem insT_len {x : UInt16} : ∀ {acc : Lb}, (insT x acc).length ≤ acc.length + 1
  | [] => by simp [insT]
  | y :: r => by
    have := insT_len (x := x) (acc := r)
    rw [insT]; split
    · simp; omega
    · split <;> simp
theorem nrm_len {l : Lb} {i : Nat} (h : i ≤ l.length) : (nrm (l.take i)).length ≤ i := by
  induction i with
  | zero => simp [nrm]
  | succ i ih => rw [take_nrm (by omega)]; have := insT_len (x := l.getD i 0) (acc := nrm (l.take i)); have := ih (by omega); omega
end Go.Proofs.YthflnkfghogaoaaGreat

namespace Go.Proofs.YthflnkfghogaoaaGreat
open Go.Gx Go.RowKit
def normE (l : Lb) : Int := if 8 < (nrm l).length then 7 else 0
def normL (l : Lb) : Lb := if 8 < (nrm l).length then [] else nrm l
theorem normE_bad {l : Lb} (h : 8 < (nrm l).length) : normE l = 7 := if_pos h
theorem normE_ok {l : Lb} (h : ¬ 8 < (nrm l).length) : normE l = 0 := if_neg h
theorem normL_bad {l : Lb} (h : 8 < (nrm l).length) : normL l = [] := if_pos h
theorem normL_ok {l : Lb} (h : ¬ 8 < (nrm l).length) : normL l = nrm l := if_neg h
def ownE (owns l : Lb) : Int := if normE l ≠ 0 then normE l else if flowsL (normL l) owns then 0 else 17
theorem ownE_bad {o l : Lb} (h : normE l ≠ 0) : ownE o l = normE l := if_pos h
theorem ownE_ok {o l : Lb} (h : ¬ normE l ≠ 0) (hf : flowsL (normL l) o = true) : ownE o l = 0 := by rw [ownE, if_neg h, if_pos hf]
theorem ownE_not {o l : Lb} (h : ¬ normE l ≠ 0) (hf : flowsL (normL l) o = false) : ownE o l = 17 := by rw [ownE, if_neg h, if_neg (by rw [hf]; decide)]
theorem flows_one (x : UInt16) (o : Lb) : flowsL [x] o = inL x o := by simp [flowsL]
theorem normL_len (l : Lb) : (normL l).length ≤ 8 := by
  unfold normL
  split
  · simp
  · omega
end Go.Proofs.YthflnkfghogaoaaGreat

namespace Go.Gx
structure KS where
  label : List UInt16
  owns : List UInt16
  texts : List (List UInt8)
instance : Inhabited KS := ⟨⟨[], [], []⟩⟩
structure KC where
  lab : Value
  own : Value
  p : Nat
  F : Nat → Prop
instance : Inhabited KC := ⟨⟨.slice none 0 0, .slice none 0 0, 0, fun _ => False⟩⟩
section
variable {w w' : World} {base k m b t e sz n p cap : Nat} {S : List KS} {M : List (List UInt8 × Int)} {F G : Nat → Prop} {cs : List Value} {v lv : Value} {L : List (List UInt8)}
/-! a post's blocks are none of another kind -/
/-! what is there behind a turn of one session's post -/
theorem getD_set {α : Type} {l : List α} {i j : Nat} {x d : α} (hi : i < l.length) : (l.set i x).getD j d = if j = i then x else l.getD j d := by
  by_cases h : j = i
  · subst h; rw [if_pos rfl]; simp [List.getD_eq_getElem?_getD, hi]
  · rw [if_neg h]; simp [List.getD_eq_getElem?_getD, List.getElem?_set_ne (fun e => h e.symm)]
end
/-! elements of so many cells -/
theorem el_flat {α : Type} {f : α → List Value} {sz : Nat} {l : List α} {d : α} {e : Int} {i : Nat} (hp : 0 < sz) (hf : ∀ u ∈ l, (f u).length = sz) (he : e = (i : Int)) (h : i < l.length) : ∀ j u, (f (l.getD i d))[j]? = some u → (l.flatMap f)[e.toNat * sz + j]? = some u := by
  intro j u hu
  subst he
  have hm : l.getD i d ∈ l := getD_mem h
  have hj : j < sz := by have := (List.getElem?_eq_some_iff.1 hu).1; rwa [hf _ hm] at this
  rw [flat_get hp l hf, Int.toNat_natCast, Nat.mul_comm, Nat.mul_add_div hp, Nat.mul_add_mod, Nat.div_eq_of_lt hj, Nat.mod_eq_of_lt hj, Nat.add_zero]
  have : l[i]? = some (l.getD i d) := by simp [List.getD_eq_getElem?_getD, h]
  rw [this]; exact hu
/-! configs: labels and what is owned, as they are told -/
abbrev LBV := Value × List UInt16
def D2 : LBV := (.slice none 0 0, [])
/-! sessions' parts, all together -/
section
variable {w w' : World} {base k m : Nat} {S : List KS} {C : List KC} {M : List (List UInt8 × Int)} {F G Fp : Nat → Prop} {lv la ow : Value} {l o : List UInt16} {T : List (List UInt8)} {p : Nat}
theorem Own.notOwn {e sz n base2 e2 sz2 n2 : Nat} {v v2 : Value} {cs cs2 : List Value} (O : Own w base e sz v n cs) (O2 : Own w base2 e2 sz2 v2 n2 cs2) (h : e ≠ e2) : DJ v v2 := by
  intro x hx hf
  rcases O.2 with ⟨rfl, _⟩ | ⟨g, off, cap, cur, fr, rfl, hb, hg, _⟩
  · cases hx
  · simp only [Value.ownBlock, Option.some.injEq] at hx
    subst hx
    rcases O2.2 with ⟨rfl, _⟩ | ⟨g', off', cap', cur', fr', rfl, hb', hg', _⟩
    · cases hf
    · simp only [Value.ownBlock, Option.some.injEq] at hf
      subst hf
      have := hg.symm.trans hg'; simp at this; exact h this.2.1
end
end Go.Gx
namespace Go.Proofs.YthflnkfghogaoaaGreat
open Go.Gx
end Go.Proofs.YthflnkfghogaoaaGreat

namespace Go.Gx
open Go.RowKit
section
variable {P : Program} {Q : Exit → Act → World → Prop} {a : Act} {w w' : World} {l : List (Nat × Value)} {ops : Array Oper} {rest : List Oper}
variable {d ty t e xt yt : Nat} {p : String} {af : Array Edge} {x y : Operand} {b off : Nat}
end
end Go.Gx

namespace Go.Gx
open Go.RowKit
section
variable {P : Program} {Q : Exit → Act → World → Prop} {a : Act} {w : World} {l : List (Nat × Value)} {ops : Array Oper} {rest : List Oper}
variable {d ty : Nat} {p : String} {af : Array Edge}
end
section
variable {K V : Type} {P : Program} {Q : Exit → Act → World → Prop} {a : Act} {w w' : World} {l : List (Nat × Value)} {ops : Array Oper} {rest : List Oper}
variable {ty mt kt et m : Nat} {p : String} {af : Array Edge} {x y : Operand} {kv : K → Value} {vv : V → Value} {es : List (K × V)} {k : K}
end
theorem rd_len {w : World} {L B sz n : Nat} {v : Value} {cs : List Value} (h : RdC w L B sz v n cs) : n ≤ 9223372036854775807 := by obtain ⟨_, _, _, _, hq, hm, _⟩ := h; exact Nat.le_trans hq hm
end Go.Gx

namespace Go.Gx
open Go.RowKit
section
variable {P : Program} {Q : Exit → Act → World → Prop} {a : Act} {w w' : World} {l : List (Nat × Value)} {ops : Array Oper} {rest : List Oper}
variable {d ty t e xt yt : Nat} {p : String} {af : Array Edge} {x y : Operand} {v : Value} {k : IntKind} {n base sz by_ b off : Nat} {cs ws : List Value} {zv : Value} {r : Int}
def CapIs (v : Value) (c : Nat) : Prop := v = .slice none 0 0 ∧ c = 0 ∨ ∃ g n, v = .slice (some g) n c
theorem op_slice_hiC {hi : Operand} {m c : Nat} {kk : IntKind} (T : SlT P t e zv sz by_) (hx : (putsL a l).eval x = v) (hc : CapIs v c) (hh : (putsL a l).eval hi = .int kk r) (hr : r = (m : Int)) (hm : m ≤ c) (h : wpList P ops Q rest (putsL a ((d, hiV v m) :: l)) w) :
    wpList P ops Q (⟨some d, .slice t x none (some hi) none, ty, p, af, none⟩ :: rest) (putsL a l) w := by
  obtain ⟨inf, hin, hz0, hz1, hz2⟩ := info_parts T.info
  subst hr
  rcases hc with ⟨rfl, rfl⟩ | ⟨g, n0, rfl⟩
  · have h0 : m = 0 := by omega
    subst h0
    refine op_gen (v := .slice none 0 0) rfl ?_ h
    simp [execOp, hx, hh, Instr.sliceAt, Instr.slice, run_underlying T.und, Instr.sliceBounds, Instr.sliceBound, asIntOf, sizeOf, typeInfo, hin]
  · have hmc' : ¬ ((c : Int) < (m : Int)) := by omega
    have hg0 : g.add 0 = g := by cases g; simp [Addr.add]
    refine op_gen (v := .slice (some g) m c) rfl ?_ h
    simp [execOp, hx, hh, Instr.sliceAt, Instr.slice, run_underlying T.und, Instr.sliceBounds, Instr.sliceBound, asIntOf, sizeOf, typeInfo, hin, hm, hg0]
end
end Go.Gx

namespace Go.Gx
open Go.RowKit
section
variable {P : Program} {Q : Exit → Act → World → Prop} {a : Act} {w w' : World} {l : List (Nat × Value)} {ops : Array Oper} {rest : List Oper}
variable {d ty t e tx xt yt : Nat} {p : String} {af : Array Edge} {x y : Operand} {v xv : Value} {k : IntKind} {n m i c base sz by_ b off : Nat} {cs ws news : List Value} {zv : Value} {r : Int}
end
end Go.Gx

namespace Go.Gx
open Go.RowKit
section
variable {w : World} {base e sz n k i : Nat} {v : Value} {cs xs sp zs : List Value}
end
section
variable {P : Program} {Q : Exit → Act → World → Prop} {a : Act} {w w' : World} {l : List (Nat × Value)} {ops : Array Oper} {rest : List Oper} {d ty : Nat} {p : String} {af : Array Edge} {x y : Operand} {vx vy u : Value}
end
end Go.Gx

namespace Go.Gx
inductive XE where
  | mk (op vk vi : Int) (vt tb nm : List UInt8) (av : Value) (args : List XE)
namespace XE
def op : XE → Int | mk o _ _ _ _ _ _ _ => o
def vk : XE → Int | mk _ k _ _ _ _ _ _ => k
def vi : XE → Int | mk _ _ i _ _ _ _ _ => i
def vt : XE → List UInt8 | mk _ _ _ t _ _ _ _ => t
def tb : XE → List UInt8 | mk _ _ _ _ t _ _ _ => t
def nm : XE → List UInt8 | mk _ _ _ _ _ n _ _ => n
def av : XE → Value | mk _ _ _ _ _ _ v _ => v
def args : XE → List XE | mk _ _ _ _ _ _ _ l => l
end XE
instance : Inhabited XE := ⟨.mk 0 0 0 [] [] [] (.slice none 0 0) []⟩
def cellsX (e : XE) : List Value := [.int .i64 e.op, .int .i64 e.vk, .int .i64 e.vi, .string (bs e.vt), .string (bs e.tb), .string (bs e.nm), e.av]
theorem cellsX_len (l : List XE) : ∀ u ∈ l, (cellsX u).length = 7 := fun _ _ => rfl
inductive XRd (w : World) (B : Nat) : XE → Prop
  | mk {e : XE} (h : RdC w 0 B 7 e.av e.args.length (e.args.flatMap cellsX)) (hs : ∀ a ∈ e.args, XRd w B a) : XRd w B e
def XsRd (w : World) (B : Nat) (v : Value) (E : List XE) : Prop := RdC w 0 B 7 v E.length (E.flatMap cellsX) ∧ ∀ a ∈ E, XRd w B a
section
variable {w w' : World} {B B' : Nat} {e : XE} {E : List XE} {v : Value} {row : Option Nat} {F G : Nat → Prop}
theorem el_xe {E : List XE} {e : Int} {i : Nat} (he : e = (i : Int)) (h : i < E.length) : ∀ j u, (cellsX (E.getD i default))[j]? = some u → (E.flatMap cellsX)[e.toNat * 7 + j]? = some u :=
  el_flat (f := cellsX) (d := default) (by decide) (cellsX_len E) he h
end
end Go.Gx

namespace Go.Gx
structure PItm where
  agg : Int
  tb : List UInt8
  nm : List UInt8
instance : Inhabited PItm := ⟨⟨0, [], []⟩⟩
def cellsI (x : PItm) : List Value := [.int .i64 x.agg, .string (bs x.tb), .string (bs x.nm)]
theorem el_pi {l : List PItm} {e : Int} {i : Nat} (he : e = (i : Int)) (h : i < l.length) : ∀ j u, (cellsI (l.getD i default))[j]? = some u → (l.flatMap cellsI)[e.toNat * 3 + j]? = some u :=
  el_flat (f := cellsI) (d := default) (by decide) (fun _ _ => rfl) he h
def isCol (tb nm : List UInt8) (x : PItm) : Bool := decide (x.nm = nm) && (decide (tb = []) || decide (x.tb = tb))
def hits (C : List PItm) (K : List Int) (tb nm : List UInt8) : List Int := ((C.zip K).filter fun p => isCol tb nm p.1).map Prod.snd
def colOf (h : List Int) : Int × Int := if h.length = 1 then (h.getLastD 0, 0) else (0, 10)
def colAt (C : List PItm) (K : List Int) (tb nm : List UInt8) : Int × Int := colOf (hits C K tb nm)
def argsN (op : Int) : Int := if op = 1 ∨ op = 2 then 0 else if op = 3 ∨ op = 4 then 1 else if 5 ≤ op ∧ op ≤ 15 then 2 else -1
def takesX (op : Int) (l : List Int) : Int := if op = 4 ∨ op = 14 ∨ op = 15 then 3 else if 8 ≤ op ∧ op ≤ 13 then l.getD 0 0 else 1
def givesX (op : Int) : Int := if op = 4 ∨ op = 14 ∨ op = 15 ∨ (8 ≤ op ∧ op ≤ 13) then 3 else 1
def ofX (C : List PItm) (K : List Int) (op vk : Int) (tb nm : List UInt8) (l : List Int) : Int × Int :=
  if op = 1 then (vk, 0) else if op = 2 then colAt C K tb nm
  else if 8 ≤ op ∧ op ≤ 13 ∧ l.getD 0 0 ≠ 1 ∧ l.getD 0 0 ≠ 2 then (0, 11)
  else if (l.all fun k => decide (k = takesX op l)) = true then (givesX op, 0) else (0, 11)
theorem ofX_ok {C : List PItm} {K : List Int} {op vk : Int} {tb nm : List UInt8} {l : List Int} (h1 : op ≠ 1) (h2 : op ≠ 2) (h : ¬ (8 ≤ op ∧ op ≤ 13 ∧ l.getD 0 0 ≠ 1 ∧ l.getD 0 0 ≠ 2)) (hx : ∀ j, j < l.length → l.getD j 0 = takesX op l) : ofX C K op vk tb nm l = (givesX op, 0) := by
  unfold ofX; rw [if_neg h1, if_neg h2, if_neg h, if_pos]
  rw [List.all_eq_true]
  intro x hx2
  obtain ⟨j, hj, rfl⟩ := List.mem_iff_getElem.1 hx2
  simp only [decide_eq_true_eq]
  have := hx j hj
  simpa [List.getD_eq_getElem?_getD, hj] using this
theorem all_next {α : Type} {f : Nat → α} {x : α} {i : Nat} (h : ∀ j, j < i → f j = x) (hx : f i = x) : ∀ j, j < i + 1 → f j = x := fun j hj => by
  by_cases hji : j = i
  · subst hji; exact hx
  · exact h j (by omega)
def firstE : List Int → Int
  | [] => 0
  | e :: l => if e = 0 then firstE l else e
theorem firstE_append {a b : List Int} (h : ∀ x ∈ a, x = 0) : firstE (a ++ b) = firstE b := by
  induction a with
  | nil => rfl
  | cons x a ih => simp only [List.cons_append, firstE]; rw [if_pos (h x (by simp))]; exact ih fun y hy => h y (by simp [hy])
theorem firstE_zero {a : List Int} (h : ∀ x ∈ a, x = 0) : firstE a = 0 := by have := firstE_append (b := []) h; simpa [firstE] using this
theorem firstE_at {a : List Int} {i : Nat} (hi : i < a.length) (h : ∀ j, j < i → a.getD j 0 = 0) (hx : a.getD i 0 ≠ 0) : firstE a = a.getD i 0 := by
  have e : a = a.take i ++ a.drop i := (List.take_append_drop i a).symm
  have d : a.drop i = a.getD i 0 :: a.drop (i + 1) := by rw [List.drop_eq_getElem_cons hi]; simp [List.getD_eq_getElem?_getD, hi]
  rw [e, firstE_append, d]
  · simp only [firstE]; rw [if_neg hx]; rw [← d, ← e]
  · intro x hx
    obtain ⟨j, hj, rfl⟩ := List.mem_iff_getElem.1 hx
    have hj2 : j < i := by simp at hj; omega
    have := h j hj2
    simpa [List.getD_eq_getElem?_getD, show j < a.length by omega] using this
theorem firstE_all {a : List Int} (h : firstE a = 0) : ∀ x ∈ a, x = 0 := by
  induction a with
  | nil => intro x hx; cases hx
  | cons y a ih =>
    simp only [firstE] at h
    by_cases hy : y = 0
    · rw [if_pos hy] at h
      intro x hx
      rcases List.mem_cons.1 hx with rfl | hx
      · exact hy
      · exact ih h x hx
    · rw [if_neg hy] at h; exact absurd h hy
theorem take_map_snoc {α β : Type} [Inhabited α] (f : α → β) {E : List α} {i : Nat} (h : i < E.length) : (E.take (i + 1)).map f = (E.take i).map f ++ [f (E.getD i default)] := by
  have : E.take (i + 1) = E.take i ++ [E.getD i default] := by simp [List.getD_eq_getElem?_getD, h]
  rw [this, List.map_append]; rfl
mutual
def kindX (C : List PItm) (K : List Int) : XE → Int × Int
  | .mk op vk _ _ tb nm _ args => if (args.length : Int) ≠ argsN op then (0, 1) else if firstE ((kindsX C K args).map Prod.snd) ≠ 0 then (0, firstE ((kindsX C K args).map Prod.snd)) else ofX C K op vk tb nm ((kindsX C K args).map Prod.fst)
def kindsX (C : List PItm) (K : List Int) : List XE → List (Int × Int)
  | [] => []
  | e :: l => kindX C K e :: kindsX C K l
end
theorem kindsX_map (C : List PItm) (K : List Int) (l : List XE) : kindsX C K l = l.map (kindX C K) := by
  induction l with
  | nil => rfl
  | cons e l ih => simp only [kindsX, List.map_cons, ih]
theorem kindX_eq (C : List PItm) (K : List Int) (e : XE) : kindX C K e = if (e.args.length : Int) ≠ argsN e.op then (0, 1) else if firstE (e.args.map fun a => (kindX C K a).2) ≠ 0 then (0, firstE (e.args.map fun a => (kindX C K a).2)) else ofX C K e.op e.vk e.tb e.nm (e.args.map fun a => (kindX C K a).1) := by
  cases e with
  | mk op vk vi vt tb nm av args => simp only [kindX, kindsX_map, List.map_map, XE.args, XE.op, XE.vk, XE.tb, XE.nm]; rfl
theorem XE.ind {P : XE → Prop} (h : ∀ e, (∀ a ∈ e.args, P a) → P e) : ∀ e, P e := by
  intro e
  refine XE.rec (motive_1 := P) (motive_2 := fun l => ∀ a ∈ l, P a) (fun op vk vi vt tb nm av args ih => h _ ih) (fun a ha => (by cases ha)) (fun e l h1 h2 a ha => ?_) e
  rcases List.mem_cons.1 ha with rfl | ha
  · exact h1
  · exact h2 a ha
end Go.Gx

namespace Go.Gx
structure PCol where
  nm : List UInt8
  kind : Int
  ref : List UInt8
instance : Inhabited PCol := ⟨⟨[], 0, []⟩⟩
def cellsC (c : PCol) : List Value := [.string (bs c.nm), .int .i64 c.kind, .string (bs c.ref)]
theorem el_pc {l : List PCol} {e : Int} {i : Nat} (he : e = (i : Int)) (h : i < l.length) : ∀ j u, (cellsC (l.getD i default))[j]? = some u → (l.flatMap cellsC)[e.toNat * 3 + j]? = some u :=
  el_flat (f := cellsC) (d := default) (by decide) (fun _ _ => rfl) he h
structure StF where
  kind : Int
  tb : List UInt8
  nm : List UInt8
  cv : Value
  cols : List PCol
  gv : Value
  tags : List UInt16
  vv : Value
  vals : List XE
  iv : Value
  items : List PItm
  join : List UInt8
  ov : Value
  on : List XE
  wv : Value
  wh : List XE
  rv : Value
  ord : List XE
  desc : Bool
inductive XS where
  | mk (f : StF) (nv : Value) (inner : List XS)
namespace XS
def f : XS → StF | mk f _ _ => f
def nv : XS → Value | mk _ v _ => v
def inner : XS → List XS | mk _ _ l => l
end XS
def Nil0 : Value := .slice none 0 0
def StF0 : StF := ⟨0, [], [], Nil0, [], Nil0, [], Nil0, [], Nil0, [], [], Nil0, [], Nil0, [], Nil0, [], false⟩
instance : Inhabited XS := ⟨.mk StF0 Nil0 []⟩
def cellsS (s : XS) : List Value := [.int .i64 s.f.kind, .string (bs s.f.tb), .string (bs s.f.nm), s.f.cv, s.f.gv, s.f.vv, s.f.iv, .string (bs s.f.join), s.f.ov, s.f.wv, s.f.rv, .bool s.f.desc, s.nv]
theorem el_xs {l : List XS} {e : Int} {i : Nat} (he : e = (i : Int)) (h : i < l.length) : ∀ j u, (cellsS (l.getD i default))[j]? = some u → (l.flatMap cellsS)[e.toNat * 13 + j]? = some u :=
  el_flat (f := cellsS) (d := default) (by decide) (fun _ _ => rfl) he h
def FRd (w : World) (B : Nat) (f : StF) : Prop :=
  RdC w 0 B 3 f.cv f.cols.length (f.cols.flatMap cellsC) ∧ RdC w 0 B 1 f.gv f.tags.length (f.tags.map u16v) ∧ XsRd w B f.vv f.vals ∧ RdC w 0 B 3 f.iv f.items.length (f.items.flatMap cellsI) ∧ XsRd w B f.ov f.on ∧ XsRd w B f.wv f.wh ∧ XsRd w B f.rv f.ord
inductive SRd (w : World) (B : Nat) : XS → Prop
  | mk {s : XS} (hf : FRd w B s.f) (h : RdC w 0 B 13 s.nv s.inner.length (s.inner.flatMap cellsS)) (hs : ∀ a ∈ s.inner, SRd w B a) : SRd w B s
section
variable {w w' : World} {B B' : Nat} {f : StF} {s : XS} {row : Option Nat} {F : Nat → Prop}
end
theorem XS.ind {P : XS → Prop} (h : ∀ s, (∀ a ∈ s.inner, P a) → P s) : ∀ s, P s := by
  intro s
  refine XS.rec (motive_1 := P) (motive_2 := fun l => ∀ a ∈ l, P a) (fun f nv inner ih => h _ ih) (fun a ha => (by cases ha)) (fun e l h1 h2 a ha => ?_) s
  rcases List.mem_cons.1 ha with rfl | ha
  · exact h1
  · exact h2 a ha
/-! which statements may be done -/
structure PTab where
  nm : List UInt8
  cols : List PCol
  idx : List (List UInt8)
instance : Inhabited PTab := ⟨⟨[], [], []⟩⟩
def tabAt (T : List PTab) (nm : List UInt8) : Option PTab := T.find? fun t => decide (t.nm = nm)
def colsOf (tb : List UInt8) (l : List PCol) : List PItm := l.map fun c => ⟨0, tb, c.nm⟩
def kindsOf (l : List PCol) : List Int := l.map PCol.kind
def colIx (l : List PCol) (nm : List UInt8) : Int := match l.findIdx? fun c => decide (c.nm = nm) with | some i => i | none => -1
end Go.Gx

namespace Go.Gx
structure DTab where
  t : PTab
  cv : Value
  iv : Value
instance : Inhabited DTab := ⟨⟨⟨[], [], []⟩, .slice none 0 0, .slice none 0 0⟩⟩
def cellsT (d : DTab) : List Value := [.string (bs d.t.nm), d.cv, d.iv]
theorem el_dt {l : List DTab} {e : Int} {i : Nat} (he : e = (i : Int)) (h : i < l.length) : ∀ j u, (cellsT (l.getD i default))[j]? = some u → (l.flatMap cellsT)[e.toNat * 3 + j]? = some u :=
  el_flat (f := cellsT) (d := default) (by decide) (fun _ _ => rfl) he h
def TRd (w : World) (B : Nat) (d : DTab) : Prop := RdC w 0 B 3 d.cv d.t.cols.length (d.t.cols.flatMap cellsC) ∧ RdC w 0 B 1 d.iv d.t.idx.length (d.t.idx.map sv)
def TsRd (w : World) (B : Nat) (v : Value) (D : List DTab) : Prop := RdC w 0 B 3 v D.length (D.flatMap cellsT) ∧ ∀ d ∈ D, TRd w B d
section
variable {w w' : World} {B B' base b t e sz n : Nat} {D : List DTab} {v : Value} {row : Option Nat} {F G : Nat → Prop} {cs : List Value}
theorem TsRd.keep (h : TsRd w B v D) (E : w.grownBy w' row) (hne : ∀ k, row = some k → k < 0 ∨ B ≤ k) : TsRd w' B v D := ⟨h.1.keep E hne, fun a ha => ⟨(h.2 a ha).1.keep E hne, (h.2 a ha).2.keep E hne⟩⟩
theorem TsRd.keep0 (h : TsRd w B v D) (E : w.grownBy w' none) : TsRd w' B v D := h.keep E (by simp)
theorem TsRd.mono (h : TsRd w B v D) (hB : B ≤ B') : TsRd w B' v D := ⟨h.1.mono (Nat.le_refl _) hB, fun a ha => ⟨(h.2 a ha).1.mono (Nat.le_refl _) hB, (h.2 a ha).2.mono (Nat.le_refl _) hB⟩⟩
def TabsR (w : World) (base : Nat) (D : List DTab) (F : Nat → Prop) : Prop :=
  (∀ d ∈ D, Own w base 48 3 d.cv d.t.cols.length (d.t.cols.flatMap cellsC) ∧ Own w base 9 1 d.iv d.t.idx.length (d.t.idx.map sv)) ∧ ∀ x, F x ↔ ∃ d ∈ D, Bl d.cv x ∨ Bl d.iv x
theorem TabsR.lt (h : TabsR w base D F) : ∀ x, F x → base ≤ x ∧ x < w.heap.size := fun x hx => by
  obtain ⟨d, hd, hx⟩ := (h.2 x).1 hx
  rcases hx with hx | hx
  · exact (h.1 d hd).1.lt x hx
  · exact (h.1 d hd).2.lt x hx
theorem TabsR.keepG (h : TabsR w base D F) (E : Gr w w' G) (hd : Dj F G) : TabsR w' base D F :=
  ⟨fun d hm => ⟨(h.1 d hm).1.keepG E fun x hx => hd x ((h.2 x).2 ⟨d, hm, .inl hx⟩), (h.1 d hm).2.keepG E fun x hx => hd x ((h.2 x).2 ⟨d, hm, .inr hx⟩)⟩, h.2⟩
theorem TabsR.kz (h : TabsR w base D F) (E9 : w.grownBy w' none) : TabsR w' base D F := h.keepG (Gr.of0 E9 NoB) (fun _ _ h => h)
theorem TabsR.nil (w : World) (base : Nat) : TabsR w base [] NoB := ⟨fun _ h => (by cases h), fun x => ⟨fun h => h.elim, fun ⟨_, h, _⟩ => (by cases h)⟩⟩
theorem TabsR.mono {base' : Nat} (h : TabsR w base D F) (hb : base' ≤ base) : TabsR w base' D F := ⟨fun d hm => ⟨(h.1 d hm).1.mono hb, (h.1 d hm).2.mono hb⟩, h.2⟩
theorem TabsR.snoc {d : DTab} (h : TabsR w base D F) (h1 : Own w base 48 3 d.cv d.t.cols.length (d.t.cols.flatMap cellsC)) (h2 : Own w base 9 1 d.iv d.t.idx.length (d.t.idx.map sv)) : TabsR w base (D ++ [d]) (fun x => F x ∨ Bl d.cv x ∨ Bl d.iv x) := by
  refine ⟨fun a ha => ?_, fun x => ⟨fun hx => ?_, fun hx => ?_⟩⟩
  · rcases List.mem_append.1 ha with ha | ha
    · exact h.1 a ha
    · rw [List.mem_singleton] at ha; subst ha; exact ⟨h1, h2⟩
  · rcases hx with hx | hx
    · obtain ⟨a, ha, hx⟩ := (h.2 x).1 hx
      exact ⟨a, by simp [ha], hx⟩
    · exact ⟨d, by simp, hx⟩
  · obtain ⟨a, ha, hx⟩ := hx
    rcases List.mem_append.1 ha with ha | ha
    · exact .inl ((h.2 x).2 ⟨a, ha, hx⟩)
    · rw [List.mem_singleton] at ha; subst ha; exact .inr hx
theorem TabsR.notBx (h : TabsR w base D F) (B : Bx w b t cs) (h1 : t ≠ 48) (h2 : t ≠ 9) : ¬ F b := fun hf => by
  obtain ⟨d, hd, hf⟩ := (h.2 b).1 hf
  rcases hf with hf | hf
  · exact (h.1 d hd).1.neB B h1 hf
  · exact (h.1 d hd).2.neB B h2 hf
theorem TabsR.notOwn {base2 : Nat} (h : TabsR w base D F) (O : Own w base2 e sz v n cs) (h1 : e ≠ 48) (h2 : e ≠ 9) : Dj (Bl v) F := fun x hx hf => by
  obtain ⟨d, hd, hf⟩ := (h.2 x).1 hf
  rcases hf with hf | hf
  · exact O.notOwn (h.1 d hd).1 h1 x hx hf
  · exact O.notOwn (h.1 d hd).2 h2 x hx hf
theorem TabsR.rd (h : TabsR w base D F) (O : Own w base 51 3 v D.length (D.flatMap cellsT)) : TsRd w w.heap.size v D :=
  ⟨O.rdw.mono (Nat.zero_le _) (Nat.le_refl _), fun d hd => ⟨(h.1 d hd).1.rdw.mono (Nat.zero_le _) (Nat.le_refl _), (h.1 d hd).2.rdw.mono (Nat.zero_le _) (Nat.le_refl _)⟩⟩
end
theorem one_flat {α : Type} {f : α → List Value} (h : ∀ x, (f x).all Value.oneCell' = true) (l : List α) : (l.flatMap f).all Value.oneCell' = true := by
  rw [List.all_eq_true]; intro v hv
  obtain ⟨x, _, hx⟩ := List.mem_flatMap.1 hv
  exact (List.all_eq_true.1 (h x)) v hx
theorem one_pc (l : List PCol) : (l.flatMap cellsC).all Value.oneCell' = true := one_flat (fun _ => rfl) l
theorem one_pi (l : List PItm) : (l.flatMap cellsI).all Value.oneCell' = true := one_flat (fun _ => rfl) l
def ixOf {α : Type} (p : α → Bool) (L : List α) : Int := match L.findIdx? p with | some i => i | none => -1
theorem ixOf_hit {α : Type} [Inhabited α] {p : α → Bool} {L : List α} {i : Nat} (hi : i < L.length) (h : ∀ j, j < i → p (L.getD j default) = false) (hx : p (L.getD i default) = true) : ixOf p L = i := by
  unfold ixOf
  have : L.findIdx? p = some i := by
    rw [List.findIdx?_eq_some_iff_getElem]
    refine ⟨hi, by simpa [List.getD_eq_getElem?_getD, hi] using hx, fun j hj => ?_⟩
    have := h j hj
    simpa [List.getD_eq_getElem?_getD, show j < L.length by omega] using this
  rw [this]
theorem ixOf_none {α : Type} [Inhabited α] {p : α → Bool} {L : List α} {i : Nat} (hi : L.length ≤ i) (h : ∀ j, j < i → p (L.getD j default) = false) : ixOf p L = -1 := by
  unfold ixOf
  have : L.findIdx? p = none := by
    rw [List.findIdx?_eq_none_iff]
    intro x hx
    obtain ⟨j, hj, rfl⟩ := List.mem_iff_getElem.1 hx
    have := h j (by omega)
    simpa [List.getD_eq_getElem?_getD, hj] using this
  rw [this]
theorem ixOf_cases {α : Type} [Inhabited α] (p : α → Bool) (L : List α) : (ixOf p L = -1 ∧ L.find? p = none) ∨ ∃ i : Nat, ixOf p L = i ∧ i < L.length ∧ p (L.getD i default) = true ∧ L.find? p = some (L.getD i default) := by
  unfold ixOf
  cases h : L.findIdx? p with
  | none =>
    refine .inl ⟨rfl, ?_⟩
    rw [List.findIdx?_eq_none_iff] at h
    exact List.find?_eq_none.2 fun x hx => by rw [h x hx]; simp
  | some i =>
    rw [List.findIdx?_eq_some_iff_getElem] at h
    obtain ⟨hi, hx, hn⟩ := h
    have e : L.getD i default = L[i] := by simp [List.getD_eq_getElem?_getD, hi]
    refine .inr ⟨i, rfl, hi, by rw [e]; exact hx, ?_⟩
    rw [e, List.find?_eq_some_iff_getElem]
    exact ⟨hx, i, hi, rfl, fun j hj => by simp [hn j hj]⟩
section
variable {w w' : World} {base b t e sz n l : Nat} {C : List PItm} {K : List Int} {v tv vv : Value} {F G : Nat → Prop} {cs : List Value}
end
end Go.Gx

namespace Go.Gx
theorem dt_get {D D' : List DTab} (h : D'.map DTab.t = D.map DTab.t) (k : Nat) : (D'.getD k default).t = (D.getD k default).t := by
  have e : ∀ l : List DTab, (l.getD k default).t = (l.map DTab.t).getD k (default : DTab).t := fun l => by
    simp only [List.getD_eq_getElem?_getD, List.getElem?_map]; cases l[k]? <;> rfl
  rw [e, e, h]
theorem dt_len {D D' : List DTab} (h : D'.map DTab.t = D.map DTab.t) : D'.length = D.length := by have := congrArg List.length h; simpa using this
theorem tab_find (D : List DTab) (nm : List UInt8) : tabAt (D.map DTab.t) nm = (D.find? fun d => decide (d.t.nm = nm)).map DTab.t := by unfold tabAt; rw [List.find?_map]; rfl
theorem tab_none {D : List DTab} {nm : List UInt8} (h : (ixOf (fun d => decide (d.t.nm = nm)) D) < 0) : tabAt (D.map DTab.t) nm = none := by
  rcases ixOf_cases (fun d : DTab => decide (d.t.nm = nm)) D with ⟨_, h2⟩ | ⟨i, hi, _⟩
  · rw [tab_find, h2]; rfl
  · omega
theorem tab_some {D : List DTab} {nm : List UInt8} (h : ¬ (ixOf (fun d => decide (d.t.nm = nm)) D) < 0) : ∃ k : Nat, ixOf (fun d => decide (d.t.nm = nm)) D = k ∧ k < D.length ∧ (D.getD k default).t.nm = nm ∧ tabAt (D.map DTab.t) nm = some (D.getD k default).t := by
  rcases ixOf_cases (fun d : DTab => decide (d.t.nm = nm)) D with ⟨h1, _⟩ | ⟨i, hi, hl, hp, hf⟩
  · omega
  · exact ⟨i, hi, hl, by simpa using hp, by rw [tab_find, hf]; rfl⟩
theorem cols_snoc {x : List UInt8} {l : List PCol} {i : Nat} (h : i < l.length) : colsOf x (l.take (i + 1)) = colsOf x (l.take i) ++ [⟨0, x, (l.getD i default).nm⟩] := take_map_snoc _ h
theorem kinds_snoc {l : List PCol} {i : Nat} (h : i < l.length) : kindsOf (l.take (i + 1)) = kindsOf (l.take i) ++ [(l.getD i default).kind] := take_map_snoc _ h
theorem cols_len {x : List UInt8} {l : List PCol} : (colsOf x l).length = l.length := List.length_map _
theorem kinds_len {l : List PCol} : (kindsOf l).length = l.length := List.length_map _
end Go.Gx
namespace Go.Gx
end Go.Gx
namespace Go.Gx
end Go.Gx
namespace Go.Gx
theorem range_map_take {α : Type} [Inhabited α] (g : Nat → α) (n i : Nat) (h : i < n) : (((List.range n).map g).getD i default) = g i := by simp [List.getD_eq_getElem?_getD, h]
end Go.Gx

namespace Go.Gx
structure DVw where
  nm : List UInt8
  sv : Value
  strip : List UInt16
  act : XS
instance : Inhabited DVw := ⟨⟨[], .slice none 0 0, [], default⟩⟩
def cellsW (d : DVw) : List Value := [.string (bs d.nm), d.sv, .int .i64 d.act.f.kind, .string (bs d.act.f.tb), .string (bs d.act.f.nm), d.act.f.cv, d.act.f.gv, d.act.f.vv, d.act.f.iv, .string (bs d.act.f.join), d.act.f.ov, d.act.f.wv, d.act.f.rv, .bool d.act.f.desc, d.act.nv]
theorem el_dv {l : List DVw} {e : Int} {i : Nat} (he : e = (i : Int)) (h : i < l.length) : ∀ j u, (cellsW (l.getD i default))[j]? = some u → (l.flatMap cellsW)[e.toNat * 15 + j]? = some u :=
  el_flat (f := cellsW) (d := default) (by decide) (fun _ _ => rfl) he h
end Go.Gx
namespace Go.Gx
end Go.Gx
namespace Go.Gx
section
variable {w w' : World} {B B' : Nat} {L : List XS} {row : Option Nat} {F : Nat → Prop}
end
end Go.Gx

namespace Go.Gx
def PickR (w : World) (base p : Nat) (lv : Value) (bl : List UInt8) (n : Nat) (F : Nat → Prop) : Prop :=
  F = (fun k => k = p) ∧ base ≤ p ∧ n ≤ bl.length ∧ bl.length ≤ 1000 ∧ Bx w p 58 [lv, .int .i64 ((n : Nat) : Int)]
inductive XFr (w : World) (L B : Nat) : XE → Prop
  | mk {e : XE} (h : RdC w L B 7 e.av e.args.length (e.args.flatMap cellsX)) (hs : ∀ a ∈ e.args, XFr w L B a) (hn : e.args.length ≤ 1000) : XFr w L B e
structure XsFr (w : World) (L B : Nat) (v : Value) (E : List XE) : Prop where
  rdc : RdC w L B 7 v E.length (E.flatMap cellsX)
  all : ∀ a ∈ E, XFr w L B a
  small : E.length ≤ 1000
section
variable {w w' : World} {base p b t e sz n L B L' B' : Nat} {lv v u : Value} {bl : List UInt8} {F G : Nat → Prop} {cs ws : List Value} {x x2 : XE} {E : List XE} {row : Option Nat}
theorem PickR.lt (h : PickR w base p lv bl n F) : ∀ k, F k → base ≤ k ∧ k < w.heap.size := fun k hk => by
  obtain ⟨rfl, h1, _, _, hx⟩ := h
  subst hk; exact ⟨h1, hx.lt⟩
theorem PickR.keepG (h : PickR w base p lv bl n F) (E : Gr w w' G) (hd : Dj F G) : PickR w' base p lv bl n F := by
  obtain ⟨rfl, h1, h2, h3, hx⟩ := h
  exact ⟨rfl, h1, h2, h3, hx.keepG E (hd p rfl)⟩
theorem PickR.kz (h : PickR w base p lv bl n F) (E9 : w.grownBy w' none) : PickR w' base p lv bl n F := h.keepG (Gr.of0 E9 NoB) (fun _ _ h => h)
theorem PickR.notBx (h : PickR w base p lv bl n F) (B2 : Bx w b t cs) (h1 : t ≠ 58) : ¬ F b := fun hf => by
  obtain ⟨rfl, _, _, _, hx⟩ := h
  subst hf; have := B2.symm.trans hx; simp at this; exact h1 this.2
theorem PickR.notOwn {base2 n' : Nat} (h : PickR w base p lv bl n F) (O : Own w base2 e sz v n' cs) (h1 : e ≠ 58) : Dj (Bl v) F := fun x hx hf => by
  obtain ⟨rfl, _, _, _, hp⟩ := h
  subst hf; exact O.neB hp (fun e => h1 e.symm) hx
theorem XFr.list (h : XFr w L B x) : XsFr w L B x.av x.args := by cases h with | mk h hs hn => exact ⟨h, hs, hn⟩
theorem XFr.keep (h : XFr w L B x) (E : w.grownBy w' row) (hne : ∀ k, row = some k → k < L ∨ B ≤ k) : XFr w' L B x := by induction h with | mk h _ q ih => exact .mk (h.keep E hne) ih q
theorem XFr.keepG (h : XFr w L B x) (E : Gr w w' F) (hn : ∀ k, F k → k < L ∨ B ≤ k) : XFr w' L B x := by induction h with | mk h _ q ih => exact .mk (h.keepG E hn) ih q
theorem XFr.keep0 (h : XFr w L B x) (E : w.grownBy w' none) : XFr w' L B x := h.keep E (by simp)
theorem XFr.mono (h : XFr w L B x) (hL : L' ≤ L) (hB : B ≤ B') : XFr w L' B' x := by induction h with | mk h _ q ih => exact .mk (h.mono hL hB) ih q
theorem XsFr.keep (h : XsFr w L B v E) (E2 : w.grownBy w' row) (hne : ∀ k, row = some k → k < L ∨ B ≤ k) : XsFr w' L B v E := ⟨h.1.keep E2 hne, fun a ha => (h.2 a ha).keep E2 hne, h.3⟩
theorem XsFr.keep0 (h : XsFr w L B v E) (E2 : w.grownBy w' none) : XsFr w' L B v E := h.keep E2 (by simp)
theorem XsFr.keepG (h : XsFr w L B v E) (E2 : Gr w w' F) (hn : ∀ k, F k → k < L ∨ B ≤ k) : XsFr w' L B v E := ⟨h.1.keepG E2 hn, fun a ha => (h.2 a ha).keepG E2 hn, h.3⟩
theorem XsFr.keepO {ws : List Value} (h : XsFr w L B v E) (O : Own w base e sz u n ws) (E2 : w.grownBy w' u.ownBlock) (hne : B ≤ base) : XsFr w' L B v E := h.keep E2 fun k hk => .inr (Nat.le_trans hne (O.lt k hk).1)
theorem XsFr.mono (h : XsFr w L B v E) (hL : L' ≤ L) (hB : B ≤ B') : XsFr w L' B' v E := ⟨h.1.mono hL hB, fun a ha => (h.2 a ha).mono hL hB, h.3⟩
theorem XsFr.nil (w : World) (L B : Nat) : XsFr w L B (.slice none 0 0) [] := ⟨RdC.nil _ _ _ _, fun _ h => (by cases h), by simp⟩
theorem XFr.leaf (hv : x.av = .slice none 0 0) (ha : x.args = []) : XFr w L B x := .mk (by rw [hv, ha]; exact RdC.nil _ _ _ _) (by rw [ha]; exact fun _ h => (by cases h)) (by rw [ha]; simp)
theorem XsFr.node (h : XsFr w L B x.av x.args) : XFr w L B x := .mk h.1 h.2 h.3
theorem XsFr.lit1 (hx : Bx w b 89 (cellsX x)) (h1 : L ≤ b) (h2 : b < B) (he : XFr w L B x) : XsFr w L B (.slice (some ⟨b, 0, none⟩) 1 1) [x] :=
  ⟨((RdC.ofBx (sz := 7) (n := 1) hx rfl (by decide)).mono h1 h2).cast rfl (List.append_nil _).symm, fun a ha => by rw [List.mem_singleton] at ha; subst ha; exact he, by simp⟩
theorem XsFr.lit2 (hx : Bx w b 89 (cellsX x ++ cellsX x2)) (h1 : L ≤ b) (h2 : b < B) (he : XFr w L B x) (he2 : XFr w L B x2) : XsFr w L B (.slice (some ⟨b, 0, none⟩) 2 2) [x, x2] :=
  ⟨((RdC.ofBx (sz := 7) (n := 2) hx rfl (by decide)).mono h1 h2).cast rfl (by simp), fun a ha => by
    rcases List.mem_cons.1 ha with rfl | ha
    · exact he
    · rw [List.mem_singleton] at ha; subst ha; exact he2, by simp⟩
end
/-! columns that may be named, and the kinds of what is made -/
def onceN (C : List PItm) (nm : List UInt8) : Bool := decide (C.countP (fun x => decide (x.nm = nm)) = 1)
def GoodC (C : List PItm) (K : List Int) : Prop := C.length = K.length ∧ ∀ i, i < C.length → colAt C K (C.getD i default).tb (C.getD i default).nm = (K.getD i 0, 0) ∧ (onceN C (C.getD i default).nm = true → colAt C K [] (C.getD i default).nm = (K.getD i 0, 0))
theorem kind_lit {C : List PItm} {K : List Int} {e : XE} (h1 : e.op = 1) (h2 : e.args = []) : kindX C K e = (e.vk, 0) := by
  rw [kindX_eq, h1, h2, if_neg (by simp [argsN]), if_neg (by simp [firstE])]; rfl
theorem kind_col {C : List PItm} {K : List Int} {e : XE} {k : Int} (h1 : e.op = 2) (h2 : e.args = []) (h : colAt C K e.tb e.nm = (k, 0)) : kindX C K e = (k, 0) := by
  rw [kindX_eq, h1, h2, if_neg (by simp [argsN]), if_neg (by simp [firstE])]
  unfold ofX; rw [if_neg (by decide), if_pos rfl, h]
theorem kind_one {C : List PItm} {K : List Int} {e a : XE} {k : Int} (h2 : e.args = [a]) (ha : kindX C K a = (k, 0)) (h : (e.op = 3 ∧ k = 1) ∨ (e.op = 4 ∧ k = 3)) : kindX C K e = (k, 0) := by
  rw [kindX_eq, h2]
  have hf : firstE ([a].map fun a => (kindX C K a).2) = 0 := by simp [ha, firstE]
  rcases h with ⟨h1, rfl⟩ | ⟨h1, rfl⟩
  · rw [h1, if_neg (by simp [argsN]), if_neg (fun g => g hf)]; simp only [List.map_cons, List.map_nil, ha]; rfl
  · rw [h1, if_neg (by simp [argsN]), if_neg (fun g => g hf)]; simp only [List.map_cons, List.map_nil, ha]; rfl
theorem kind_two {C : List PItm} {K : List Int} {e a b : XE} {k : Int} (h2 : e.args = [a, b]) (ha : kindX C K a = (k, 0)) (hb : kindX C K b = (k, 0)) (h : (5 ≤ e.op ∧ e.op ≤ 7 ∧ k = 1) ∨ (8 ≤ e.op ∧ e.op ≤ 13 ∧ (k = 1 ∨ k = 2)) ∨ ((e.op = 14 ∨ e.op = 15) ∧ k = 3)) :
    kindX C K e = (if 5 ≤ e.op ∧ e.op ≤ 7 then 1 else 3, 0) := by
  rw [kindX_eq, h2]
  have hf : firstE ([a, b].map fun a => (kindX C K a).2) = 0 := by simp [ha, hb, firstE]
  have hn : argsN e.op = 2 := by unfold argsN; rw [if_neg (by omega), if_neg (by omega), if_pos (by omega)]
  rw [hn, if_neg (by simp), if_neg (fun g => g hf)]
  simp only [List.map_cons, List.map_nil, ha, hb]
  have ho : ofX C K e.op e.vk e.tb e.nm [k, k] = (givesX e.op, 0) := by
    apply ofX_ok (by omega) (by omega)
    · simp only [List.getD_cons_zero]; omega
    · intro j hj
      have : j = 0 ∨ j = 1 := by simp at hj; omega
      have hk : [k, k].getD j 0 = k := by rcases this with rfl | rfl <;> rfl
      rw [hk]; unfold takesX; simp only [List.getD_cons_zero]; (repeat' split) <;> omega
  rw [ho]; unfold givesX; congr 1; (repeat' split) <;> omega
end Go.Gx
namespace Go.Gx
theorem cnt_t {C : List PItm} {y : List UInt8} {i : Nat} (h : i < C.length) (h2 : (C.getD i default).nm = y) : (C.take (i + 1)).countP (fun x => decide (x.nm = y)) = (C.take i).countP (fun x => decide (x.nm = y)) + 1 := by
  have : C.take (i + 1) = C.take i ++ [C.getD i default] := by simp [List.getD_eq_getElem?_getD, h]
  rw [this, List.countP_append]; simp only [List.countP_cons, List.countP_nil, decide_eq_true h2, if_true]
theorem cnt_f {C : List PItm} {y : List UInt8} {i : Nat} (h : i < C.length) (h2 : ¬ (C.getD i default).nm = y) : (C.take (i + 1)).countP (fun x => decide (x.nm = y)) = (C.take i).countP (fun x => decide (x.nm = y)) := by
  have : C.take (i + 1) = C.take i ++ [C.getD i default] := by simp [List.getD_eq_getElem?_getD, h]
  rw [this, List.countP_append]; simp only [List.countP_cons, List.countP_nil, decide_eq_false h2]; simp
theorem cnt_le (C : List PItm) (y : List UInt8) (i : Nat) : (C.take i).countP (fun x => decide (x.nm = y)) ≤ i := Nat.le_trans List.countP_le_length (by simp; omega)
end Go.Gx
namespace Go.Gx
def ofK (C : List PItm) (K : List Int) (k : Int) (i : Nat) : List PItm := (List.range i).filterMap fun j => if K.getD j 0 = k then some (C.getD j default) else none
theorem ofK_t {C : List PItm} {K : List Int} {k : Int} {i : Nat} (h : K.getD i 0 = k) : ofK C K k (i + 1) = ofK C K k i ++ [C.getD i default] := by
  unfold ofK; rw [List.range_succ, List.filterMap_append]; simp only [List.filterMap_cons, List.filterMap_nil, if_pos h]
theorem ofK_f {C : List PItm} {K : List Int} {k : Int} {i : Nat} (h : ¬ K.getD i 0 = k) : ofK C K k (i + 1) = ofK C K k i := by
  unfold ofK; rw [List.range_succ, List.filterMap_append]; simp only [List.filterMap_cons, List.filterMap_nil, if_neg h, List.append_nil]
theorem ofK_le (C : List PItm) (K : List Int) (k : Int) (i : Nat) : (ofK C K k i).length ≤ i := by
  unfold ofK; exact Nat.le_trans (List.length_filterMap_le _ _) (by simp)
theorem ofK_mem {C : List PItm} {K : List Int} {k : Int} {i : Nat} {x : PItm} (h : x ∈ ofK C K k i) : ∃ j, j < i ∧ K.getD j 0 = k ∧ x = C.getD j default := by
  unfold ofK at h; obtain ⟨j, hj, hx⟩ := List.mem_filterMap.1 h
  refine ⟨j, List.mem_range.1 hj, ?_⟩
  split at hx
  · rename_i h9; exact ⟨h9, (Option.some.inj hx).symm⟩
  · exact absurd hx (by simp)
theorem ofK_good {C : List PItm} {K : List Int} {k : Int} {i r : Nat} (hr : r < (ofK C K k i).length) (hi : i ≤ C.length) (hg : GoodC C K) :
    colAt C K ((ofK C K k i).getD r default).tb ((ofK C K k i).getD r default).nm = (k, 0) ∧ (onceN C ((ofK C K k i).getD r default).nm = true → colAt C K [] ((ofK C K k i).getD r default).nm = (k, 0)) := by
  have hm : (ofK C K k i).getD r default ∈ ofK C K k i := by rw [List.getD_eq_getElem?_getD, List.getElem?_eq_getElem hr]; exact List.getElem_mem hr
  obtain ⟨j, hj, hk, hx⟩ := ofK_mem hm
  have := hg.2 j (by omega)
  rw [hx, ← hk]; exact this
end Go.Gx

namespace Go.Gx
section
variable {w w' : World} {B b : Nat} {e e2 : XE} {v : Value}
end
def tabT : PTab := ⟨[116], [⟨[107], 1, []⟩, ⟨[118], 2, []⟩, ⟨[110], 1, []⟩], [[110]]⟩
def tabU : PTab := ⟨[117], [⟨[107], 2, []⟩, ⟨[114], 1, [116]⟩, ⟨[110], 1, []⟩], []⟩
def schT : List PTab := [tabT, tabU]
end Go.Gx

namespace Go.Gx
theorem sch_0 {D : List DTab} (h : D.map DTab.t = schT) : D.length = 2 ∧ (D.getD 0 default).t = tabT := by
  have h2 : D.length = 2 := by have := congrArg List.length h; simpa [schT] using this
  refine ⟨h2, ?_⟩
  match D, h, h2 with
  | [a, b], h, _ => exact (List.cons.inj h).1
section
variable {C : List PItm} {K : List Int} {e a : XE} {k : Int}
theorem one9 {l : List Int} (op : Int) (h : l = [k]) (hk : k = takesX op [k]) : ∀ j, j < l.length → l.getD j 0 = takesX op l := by
  subst h; intro j hj
  have : j = 0 := by simp at hj; exact hj
  subst this; exact hk
end
end Go.Gx

namespace Go.Gx
def FFr (w : World) (L B : Nat) (f : StF) : Prop :=
  RdC w L B 3 f.cv f.cols.length (f.cols.flatMap cellsC) ∧ RdC w L B 1 f.gv f.tags.length (f.tags.map u16v) ∧ XsFr w L B f.vv f.vals ∧ RdC w L B 3 f.iv f.items.length (f.items.flatMap cellsI) ∧ XsFr w L B f.ov f.on ∧ XsFr w L B f.wv f.wh ∧ XsFr w L B f.rv f.ord
def SmF (f : StF) : Prop := f.cols.length ≤ 1000 ∧ f.tags.length ≤ 12 ∧ f.items.length ≤ 1000
inductive SFr (w : World) (L B : Nat) : XS → Prop
  | mk {s : XS} (hf : FFr w L B s.f) (h : RdC w L B 13 s.nv s.inner.length (s.inner.flatMap cellsS)) (hs : ∀ a ∈ s.inner, SFr w L B a) (hn : SmF s.f ∧ s.inner.length ≤ 1000) : SFr w L B s
section
variable {w w' : World} {base e sz n L B L' B' b : Nat} {u v : Value} {f : StF} {s : XS} {row : Option Nat} {F : Nat → Prop} {ws : List Value}
theorem FFr.keep (h : FFr w L B f) (E : w.grownBy w' row) (hne : ∀ k, row = some k → k < L ∨ B ≤ k) : FFr w' L B f :=
  ⟨h.1.keep E hne, h.2.1.keep E hne, h.2.2.1.keep E hne, h.2.2.2.1.keep E hne, h.2.2.2.2.1.keep E hne, h.2.2.2.2.2.1.keep E hne, h.2.2.2.2.2.2.keep E hne⟩
theorem FFr.keepG (h : FFr w L B f) (E : Gr w w' F) (hn : ∀ k, F k → k < L ∨ B ≤ k) : FFr w' L B f :=
  ⟨h.1.keepG E hn, h.2.1.keepG E hn, h.2.2.1.keepG E hn, h.2.2.2.1.keepG E hn, h.2.2.2.2.1.keepG E hn, h.2.2.2.2.2.1.keepG E hn, h.2.2.2.2.2.2.keepG E hn⟩
theorem FFr.mono (h : FFr w L B f) (hL : L' ≤ L) (hB : B ≤ B') : FFr w L' B' f :=
  ⟨h.1.mono hL hB, h.2.1.mono hL hB, h.2.2.1.mono hL hB, h.2.2.2.1.mono hL hB, h.2.2.2.2.1.mono hL hB, h.2.2.2.2.2.1.mono hL hB, h.2.2.2.2.2.2.mono hL hB⟩
theorem SFr.keep (h : SFr w L B s) (E : w.grownBy w' row) (hne : ∀ k, row = some k → k < L ∨ B ≤ k) : SFr w' L B s := by
  induction h with | mk hf h _ q ih => exact .mk (hf.keep E hne) (h.keep E hne) ih q
theorem SFr.keep0 (h : SFr w L B s) (E : w.grownBy w' none) : SFr w' L B s := h.keep E (by simp)
theorem SFr.keepG (h : SFr w L B s) (E : Gr w w' F) (hn : ∀ k, F k → k < L ∨ B ≤ k) : SFr w' L B s := by
  induction h with | mk hf h _ q ih => exact .mk (hf.keepG E hn) (h.keepG E hn) ih q
theorem SFr.keepO (h : SFr w L B s) (O : Own w base e sz u n ws) (E : w.grownBy w' u.ownBlock) (hne : B ≤ base) : SFr w' L B s := h.keep E fun k hk => .inr (Nat.le_trans hne (O.lt k hk).1)
theorem SFr.mono (h : SFr w L B s) (hL : L' ≤ L) (hB : B ≤ B') : SFr w L' B' s := by
  induction h with | mk hf h _ q ih => exact .mk (hf.mono hL hB) (h.mono hL hB) ih q
theorem SFr.flat (hf : FFr w L B s.f) (hz : SmF s.f) (h1 : s.nv = .slice none 0 0) (h2 : s.inner = []) : SFr w L B s := .mk hf (by rw [h1, h2]; exact RdC.nil _ _ _ _) (by rw [h2]; exact fun _ h => (by cases h)) ⟨hz, by rw [h2]; simp⟩
theorem SFr.one {a : XS} (hf : FFr w L B s.f) (hz : SmF s.f) (hx : Bx w b 37 (cellsS a)) (h1 : s.nv = .slice (some ⟨b, 0, none⟩) 1 1) (h2 : s.inner = [a]) (hb : L ≤ b) (hb2 : b < B) (ha : SFr w L B a) : SFr w L B s :=
  .mk hf (by rw [h1, h2]; exact ((RdC.ofBx (sz := 13) (n := 1) hx rfl (by decide)).mono hb hb2).cast rfl (List.append_nil _).symm) (by rw [h2]; intro x hx; rw [List.mem_singleton] at hx; subst hx; exact ha) ⟨hz, by rw [h2]; simp⟩
theorem SFr.ff (h : SFr w L B s) : FFr w L B s.f := by cases h with | mk hf _ _ _ => exact hf
theorem SFr.sm (h : SFr w L B s) : SmF s.f ∧ s.inner.length ≤ 1000 := by cases h with | mk _ _ _ q => exact q
theorem SFr.all (h : SFr w L B s) : ∀ a ∈ s.inner, SFr w L B a := by cases h with | mk _ _ h _ => exact h
theorem SFr.nvr (h : SFr w L B s) : RdC w L B 13 s.nv s.inner.length (s.inner.flatMap cellsS) := by cases h with | mk _ h _ _ => exact h
theorem rdN (w : World) (L B sz : Nat) : RdC w L B sz (.slice none 0 0) 0 [] := RdC.nil _ _ _ _
end
theorem wrap_tag {r : Nat} (h : r < 3) : IntKind.u16.wrap (1 + (r : Int)) = ((UInt16.ofNat (1 + r)).toNat : Int) := by
  have : r = 0 ∨ r = 1 ∨ r = 2 := by omega
  rcases this with rfl | rfl | rfl <;> rfl
end Go.Gx

namespace Go.Gx
def TsFr (w : World) (L B : Nat) (v : Value) (D : List DTab) : Prop := RdC w L B 3 v D.length (D.flatMap cellsT) ∧ ∀ d ∈ D, RdC w L B 3 d.cv d.t.cols.length (d.t.cols.flatMap cellsC) ∧ RdC w L B 1 d.iv d.t.idx.length (d.t.idx.map sv)
section
variable {w w' : World} {base e sz n L B L' B' : Nat} {u v : Value} {D : List DTab} {row : Option Nat} {F : Nat → Prop} {ws : List Value}
theorem TsFr.keep (h : TsFr w L B v D) (E : w.grownBy w' row) (hne : ∀ k, row = some k → k < L ∨ B ≤ k) : TsFr w' L B v D := ⟨h.1.keep E hne, fun a ha => ⟨(h.2 a ha).1.keep E hne, (h.2 a ha).2.keep E hne⟩⟩
theorem TsFr.keep0 (h : TsFr w L B v D) (E : w.grownBy w' none) : TsFr w' L B v D := h.keep E (by simp)
theorem TsFr.keepG (h : TsFr w L B v D) (E : Gr w w' F) (hn : ∀ k, F k → k < L ∨ B ≤ k) : TsFr w' L B v D := ⟨h.1.keepG E hn, fun a ha => ⟨(h.2 a ha).1.keepG E hn, (h.2 a ha).2.keepG E hn⟩⟩
theorem TsFr.keepO (h : TsFr w L B v D) (O : Own w base e sz u n ws) (E : w.grownBy w' u.ownBlock) (hne : B ≤ base) : TsFr w' L B v D := h.keep E fun k hk => .inr (Nat.le_trans hne (O.lt k hk).1)
theorem TsFr.mono (h : TsFr w L B v D) (hL : L' ≤ L) (hB : B ≤ B') : TsFr w L' B' v D := ⟨h.1.mono hL hB, fun a ha => ⟨(h.2 a ha).1.mono hL hB, (h.2 a ha).2.mono hL hB⟩⟩
theorem TsFr.rd (h : TsFr w L B v D) : TsRd w B v D := ⟨h.1.mono (Nat.zero_le _) (Nat.le_refl _), fun a ha => ⟨(h.2 a ha).1.mono (Nat.zero_le _) (Nat.le_refl _), (h.2 a ha).2.mono (Nat.zero_le _) (Nat.le_refl _)⟩⟩
end
theorem rd_cols3L {w : World} {b L B : Nat} {c1 c2 c3 : PCol} (h : Bx w b 48 (cellsC c1 ++ cellsC c2 ++ cellsC c3)) (h1 : L ≤ b) (h2 : b < B) : RdC w L B 3 (.slice (some ⟨b, 0, none⟩) 3 3) 3 ([c1, c2, c3].flatMap cellsC) :=
  ((RdC.ofBx (sz := 3) (n := 3) h rfl (by decide)).mono h1 h2).cast rfl (by simp)
theorem rd_str1L {w : World} {b L B : Nat} {s : List UInt8} (h : Bx w b 9 [.string (bs s)]) (h1 : L ≤ b) (h2 : b < B) : RdC w L B 1 (.slice (some ⟨b, 0, none⟩) 1 1) 1 ([s].map sv) :=
  ((RdC.ofBx (sz := 1) (n := 1) h rfl (by decide)).mono h1 h2).cast rfl rfl
theorem sch_mkL {w : World} {L B b1 b2 b3 b4 : Nat} (h1 : Bx w b1 48 [.string (bs [107]), .int .i64 1, .string (bs []), .string (bs [118]), .int .i64 2, .string (bs []), .string (bs [110]), .int .i64 1, .string (bs [])]) (h2 : Bx w b2 9 [.string (bs [110])])
    (h3 : Bx w b3 48 [.string (bs [107]), .int .i64 2, .string (bs []), .string (bs [114]), .int .i64 1, .string (bs [116]), .string (bs [110]), .int .i64 1, .string (bs [])])
    (h4 : Bx w b4 51 [.string (bs [116]), .slice (some ⟨b1, 0, none⟩) 3 3, .slice (some ⟨b2, 0, none⟩) 1 1, .string (bs [117]), .slice (some ⟨b3, 0, none⟩) 3 3, .slice none 0 0]) (g1 : b1 < B) (g2 : b2 < B) (g3 : b3 < B) (g4 : b4 < B) (l1 : L ≤ b1) (l2 : L ≤ b2) (l3 : L ≤ b3) (l4 : L ≤ b4) :
    ∃ D : List DTab, D.map DTab.t = schT ∧ TsFr w L B (.slice (some ⟨b4, 0, none⟩) 2 2) D :=
  ⟨[⟨tabT, .slice (some ⟨b1, 0, none⟩) 3 3, .slice (some ⟨b2, 0, none⟩) 1 1⟩, ⟨tabU, .slice (some ⟨b3, 0, none⟩) 3 3, .slice none 0 0⟩], rfl,
    ((RdC.ofBx (sz := 3) (n := 2) h4 rfl (by decide)).mono l4 g4).cast rfl (by simp [cellsT, tabT, tabU]), fun d hd => by
      rcases List.mem_cons.1 hd with rfl | hd
      · exact ⟨rd_cols3L (c1 := ⟨[107], 1, []⟩) (c2 := ⟨[118], 2, []⟩) (c3 := ⟨[110], 1, []⟩) h1 l1 g1, rd_str1L h2 l2 g2⟩
      · rw [List.mem_singleton] at hd; subst hd
        exact ⟨rd_cols3L (c1 := ⟨[107], 2, []⟩) (c2 := ⟨[114], 1, [116]⟩) (c3 := ⟨[110], 1, []⟩) h3 l3 g3, RdC.nil _ _ _ _⟩⟩
theorem sch_3 {D : List DTab} (h : D.map DTab.t = schT) : D.length = 2 ∧ ∀ d ∈ D, d.t.cols.length = 3 := by
  refine ⟨(sch_0 h).1, fun d hd => ?_⟩
  have : d.t ∈ schT := by rw [← h]; exact List.mem_map.2 ⟨d, hd, rfl⟩
  rcases List.mem_cons.1 this with h | h
  · rw [h]; rfl
  · rw [List.mem_singleton] at h; rw [h]; rfl
end Go.Gx

namespace Go.Gx
inductive XSame : XE → XE → Prop
  | mk {a b : XE} (h : a.op = b.op ∧ a.vk = b.vk ∧ a.vi = b.vi ∧ a.vt = b.vt ∧ a.tb = b.tb ∧ a.nm = b.nm) (hl : a.args.length = b.args.length) (hs : ∀ i, i < a.args.length → XSame (a.args.getD i default) (b.args.getD i default)) : XSame a b
def XsSame (E E2 : List XE) : Prop := E.length = E2.length ∧ ∀ i, i < E.length → XSame (E.getD i default) (E2.getD i default)
def FSame (f g : StF) : Prop := f.kind = g.kind ∧ f.tb = g.tb ∧ f.nm = g.nm ∧ f.cols = g.cols ∧ f.tags = g.tags ∧ XsSame f.vals g.vals ∧ f.items = g.items ∧ f.join = g.join ∧ XsSame f.on g.on ∧ XsSame f.wh g.wh ∧ XsSame f.ord g.ord ∧ f.desc = g.desc
inductive SSame : XS → XS → Prop
  | mk {s t : XS} (h : FSame s.f t.f) (hl : s.inner.length = t.inner.length) (hs : ∀ i, i < s.inner.length → SSame (s.inner.getD i default) (t.inner.getD i default)) : SSame s t
def SsSame (E E2 : List XS) : Prop := E.length = E2.length ∧ ∀ i, i < E.length → SSame (E.getD i default) (E2.getD i default)
def AllIn {α : Type} (R : World → Nat → Nat → α → Prop) (w : World) (base : Nat) (E : List α) (F : Nat → Prop) : Prop :=
  (∀ a ∈ E, ∃ L B, R w L B a ∧ base ≤ L ∧ B ≤ w.heap.size ∧ ∀ k, L ≤ k → k < B → F k) ∧ ∀ k, F k → base ≤ k ∧ k < w.heap.size
section
variable {α : Type} {R : World → Nat → Nat → α → Prop} {w w' : World} {base L B : Nat} {E : List α} {F G : Nat → Prop} {a : α}
theorem AllIn.keepG (h : AllIn R w base E F) (hR : ∀ a L B, R w L B a → (∀ k, G k → k < L ∨ B ≤ k) → R w' L B a) (hs : w.heap.size ≤ w'.heap.size) (hd : Dj F G) : AllIn R w' base E F :=
  ⟨fun a ha => by
    obtain ⟨L, B, h1, h2, h3, h4⟩ := h.1 a ha
    refine ⟨L, B, hR a L B h1 fun k hk => ?_, h2, by omega, h4⟩
    by_cases hl : k < L
    · exact .inl hl
    · by_cases hb : B ≤ k
      · exact .inr hb
      · exact absurd hk (hd k (h4 k (by omega) (by omega))), fun k hk => ⟨(h.2 k hk).1, by have := (h.2 k hk).2; omega⟩⟩
theorem AllIn.nil (w : World) (base : Nat) : AllIn R w base [] NoB := ⟨fun _ h => (by cases h), fun _ h => h.elim⟩
theorem AllIn.snoc (h : AllIn R w base E F) (ha : R w L B a) (hL : base ≤ L) (hB : B ≤ w.heap.size) : AllIn R w base (E ++ [a]) (fun k => F k ∨ (L ≤ k ∧ k < B)) :=
  ⟨fun x hx => by
    rcases List.mem_append.1 hx with hx | hx
    · obtain ⟨L, B, h1, h2, h3, h4⟩ := h.1 x hx
      exact ⟨L, B, h1, h2, h3, fun k q1 q2 => .inl (h4 k q1 q2)⟩
    · rw [List.mem_singleton] at hx; subst hx
      exact ⟨L, B, ha, hL, hB, fun k q1 q2 => .inr ⟨q1, q2⟩⟩, fun k hk => hk.elim (h.2 k) fun q => by omega⟩
end
def XsIn (w : World) (base : Nat) (E : List XE) (F : Nat → Prop) : Prop := AllIn XFr w base E F
def SsIn (w : World) (base : Nat) (E : List XS) (F : Nat → Prop) : Prop := AllIn SFr w base E F
section
variable {w w' : World} {base L B : Nat} {F G : Nat → Prop} {v : Value}
theorem XsIn.lt {E : List XE} (h : XsIn w base E F) : ∀ k, F k → base ≤ k ∧ k < w.heap.size := h.2
theorem XsIn.keepG {E : List XE} (h : XsIn w base E F) (E2 : Gr w w' G) (hd : Dj F G) : XsIn w' base E F := AllIn.keepG h (fun _ _ _ h1 h2 => h1.keepG E2 h2) E2.size hd
theorem XsIn.kz {E : List XE} (h : XsIn w base E F) (E9 : w.grownBy w' none) : XsIn w' base E F := h.keepG (Gr.of0 E9 NoB) (fun _ _ h => h)
theorem XsIn.nil (w : World) (base : Nat) : XsIn w base [] NoB := AllIn.nil w base
theorem XsIn.snoc {E : List XE} {a : XE} (h : XsIn w base E F) (ha : XFr w L B a) (hL : base ≤ L) (hB : B ≤ w.heap.size) : XsIn w base (E ++ [a]) (fun k => F k ∨ (L ≤ k ∧ k < B)) := AllIn.snoc h ha hL hB
theorem XsIn.fr {E : List XE} (h : XsIn w base E F) (hn : E.length ≤ 1000) (O : Own w base 89 7 v E.length (E.flatMap cellsX)) : XsFr w base w.heap.size v E :=
  ⟨O.rdw, fun a ha => by obtain ⟨L, B, h1, h2, h3, _⟩ := h.1 a ha; exact h1.mono h2 h3, hn⟩
theorem SsIn.lt {E : List XS} (h : SsIn w base E F) : ∀ k, F k → base ≤ k ∧ k < w.heap.size := h.2
theorem SsIn.keepG {E : List XS} (h : SsIn w base E F) (E2 : Gr w w' G) (hd : Dj F G) : SsIn w' base E F := AllIn.keepG h (fun _ _ _ h1 h2 => h1.keepG E2 h2) E2.size hd
theorem SsIn.kz {E : List XS} (h : SsIn w base E F) (E9 : w.grownBy w' none) : SsIn w' base E F := h.keepG (Gr.of0 E9 NoB) (fun _ _ h => h)
theorem SsIn.nil (w : World) (base : Nat) : SsIn w base [] NoB := AllIn.nil w base
theorem SsIn.snoc {E : List XS} {a : XS} (h : SsIn w base E F) (ha : SFr w L B a) (hL : base ≤ L) (hB : B ≤ w.heap.size) : SsIn w base (E ++ [a]) (fun k => F k ∨ (L ≤ k ∧ k < B)) := AllIn.snoc h ha hL hB
structure SsFr (w : World) (L B : Nat) (v : Value) (E : List XS) : Prop where
  rdc : RdC w L B 13 v E.length (E.flatMap cellsS)
  all : ∀ a ∈ E, SFr w L B a
  small : E.length ≤ 1000
theorem SsFr.keep {row : Option Nat} {E : List XS} (h : SsFr w L B v E) (E2 : w.grownBy w' row) (hne : ∀ k, row = some k → k < L ∨ B ≤ k) : SsFr w' L B v E := ⟨h.1.keep E2 hne, fun a ha => (h.2 a ha).keep E2 hne, h.3⟩
theorem SsFr.keep0 {E : List XS} (h : SsFr w L B v E) (E2 : w.grownBy w' none) : SsFr w' L B v E := h.keep E2 (by simp)
theorem SsFr.keepO {base e sz n : Nat} {u : Value} {ws : List Value} {E : List XS} (h : SsFr w L B v E) (O : Own w base e sz u n ws) (E2 : w.grownBy w' u.ownBlock) (hne : B ≤ base) : SsFr w' L B v E := h.keep E2 fun k hk => .inr (Nat.le_trans hne (O.lt k hk).1)
theorem SsFr.mono {L' B' : Nat} {E : List XS} (h : SsFr w L B v E) (hL : L' ≤ L) (hB : B ≤ B') : SsFr w L' B' v E := ⟨h.1.mono hL hB, fun a ha => (h.2 a ha).mono hL hB, h.3⟩
theorem SFr.inn {s : XS} (h : SFr w L B s) : SsFr w L B s.nv s.inner := ⟨h.nvr, h.all, h.sm.2⟩
theorem SsIn.fr {E : List XS} (h : SsIn w base E F) (hn : E.length ≤ 1000) (O : Own w base 37 13 v E.length (E.flatMap cellsS)) : SsFr w base w.heap.size v E :=
  ⟨O.rdw, fun a ha => by obtain ⟨L, B, h1, h2, h3, _⟩ := h.1 a ha; exact h1.mono h2 h3, hn⟩
theorem dj_freshF {F G : Nat → Prop} {L B : Nat} (h : Dj F G) (h2 : ∀ k, F k → k < L) : Dj F (fun k => G k ∨ (L ≤ k ∧ k < B)) := fun k hk q => q.elim (h k hk) fun q => by have := h2 k hk; omega
theorem dj_app {F : Nat → Prop} {L B n : Nat} {v v' : Value} (hd : Dj F (Bl v')) (hm : v'.ownBlock = v.ownBlock ∨ ∀ k, v'.ownBlock = some k → n ≤ k) (hl : ∀ k, v.ownBlock = some k → k < L) (hB : B ≤ n) : Dj (Bl v') (fun k => F k ∨ (L ≤ k ∧ k < B)) := fun k hk q => by
  rcases q with q | q
  · exact hd k q hk
  · rcases hm with hm | hm
    · have := hl k (hm.symm.trans hk); omega
    · have := hm k hk; omega
theorem dj_fresh {F : Nat → Prop} {L B : Nat} {v : Value} (h : Dj (Bl v) F) (h2 : ∀ k, Bl v k → k < L) : Dj (Bl v) (fun k => F k ∨ (L ≤ k ∧ k < B)) := fun k hk q => q.elim (h k hk) fun q => by have := h2 k hk; omega
end
theorem getD_snoc {α : Type} [Inhabited α] {l : List α} {x : α} {i : Nat} (h : i = l.length) : (l ++ [x]).getD i default = x := by subst h; simp [List.getD_eq_getElem?_getD]
theorem getD_old {α : Type} [Inhabited α] {l : List α} {x : α} {i : Nat} (h : i < l.length) : (l ++ [x]).getD i default = l.getD i default := by simp [List.getD_eq_getElem?_getD, List.getElem?_append_left h]
theorem same_next {α : Type} [Inhabited α] {S : α → α → Prop} {E E2 : List α} {x : α} {i : Nat} (hl : E2.length = i) (h : ∀ j, j < i → S (E.getD j default) (E2.getD j default)) (hx : S (E.getD i default) x) : ∀ j, j < i + 1 → S (E.getD j default) ((E2 ++ [x]).getD j default) := fun j hj => by
  by_cases hji : j = i
  · subst hji; rw [getD_snoc hl.symm]; exact hx
  · rw [getD_old (by omega)]; exact h j (by omega)
end Go.Gx

namespace Go.Proofs.YthflnkfghogaoaaGreat
open Go.Gx

theorem us3 : (Tryz.prog.underlying 3).isSome = true := by kernel_rfl
theorem one3 : oneT Tryz.prog 3 = true := by kernel_rfl
theorem size3 : (Tryz.prog.info? 3).map (·.size) = some 1 := by kernel_rfl
theorem one4 : oneT Tryz.prog 4 = true := by kernel_rfl
theorem size4 : (Tryz.prog.info? 4).map (·.size) = some 1 := by kernel_rfl
theorem us5 : (Tryz.prog.underlying 5).isSome = true := by kernel_rfl
theorem one5 : oneT Tryz.prog 5 = true := by kernel_rfl
theorem one9 : oneT Tryz.prog 9 = true := by kernel_rfl
theorem size9 : (Tryz.prog.info? 9).map (·.size) = some 1 := by kernel_rfl
theorem slt22 : SlT Tryz.prog 22 31 (Value.slice none 0 0) 1 24 := ⟨Tryz.underlying22, by kernel_rfl, rfl, by decide⟩
theorem one23 : oneT Tryz.prog 23 = true := by kernel_rfl
theorem slt23 : SlT Tryz.prog 23 56 (Value.int .u16 0) 1 2 := ⟨Tryz.underlying23, by kernel_rfl, rfl, by decide⟩
theorem size23 : (Tryz.prog.info? 23).map (·.size) = some 1 := by kernel_rfl
theorem one24 : oneT Tryz.prog 24 = true := by kernel_rfl
theorem slt24 : SlT Tryz.prog 24 56 (Value.int .u16 0) 1 2 := ⟨Tryz.underlying24, by kernel_rfl, rfl, by decide⟩
theorem size24 : (Tryz.prog.info? 24).map (·.size) = some 1 := by kernel_rfl
theorem one27 : oneT Tryz.prog 27 = true := by kernel_rfl
theorem slt27 : SlT Tryz.prog 27 51 (Value.agg #[(Value.string (bs [])), (Value.slice none 0 0), (Value.slice none 0 0)]) 3 64 := ⟨Tryz.underlying27, by kernel_rfl, rfl, by decide⟩
theorem size27 : (Tryz.prog.info? 27).map (·.size) = some 1 := by kernel_rfl
theorem one28 : oneT Tryz.prog 28 = true := by kernel_rfl
theorem slt28 : SlT Tryz.prog 28 68 (Value.agg #[(Value.string (bs [])), (Value.slice none 0 0), (Value.int .i64 0), (Value.string (bs [])), (Value.string (bs [])), (Value.slice none 0 0), (Value.slice none 0 0), (Value.slice none 0 0), (Value.slice none 0 0), (Value.string (bs [])), (Value.slice none 0 0), (Value.slice none 0 0), (Value.slice none 0 0), (Value.bool false), (Value.slice none 0 0)]) 15 296 := ⟨Tryz.underlying28, by kernel_rfl, rfl, by decide⟩
theorem size28 : (Tryz.prog.info? 28).map (·.size) = some 1 := by kernel_rfl
theorem agg30 : aggT Tryz.prog 30 = some 2 := by kernel_rfl
theorem fld30_0 : fieldT Tryz.prog 30 0 = some 0 := by kernel_rfl
theorem fld30_1 : fieldT Tryz.prog 30 1 = some 1 := by kernel_rfl
theorem size30 : (Tryz.prog.info? 30).map (·.size) = some 2 := by kernel_rfl
theorem zero30 : zeroT Tryz.prog 30 = some (Value.agg #[(Value.slice none 0 0), (Value.slice none 0 0)]) := by kernel_rfl
theorem one31 : oneT Tryz.prog 31 = true := by kernel_rfl
theorem slt31 : SlT Tryz.prog 31 5 (Value.int .u8 0) 1 1 := ⟨Tryz.underlying31, by kernel_rfl, rfl, by decide⟩
theorem one32 : oneT Tryz.prog 32 = true := by kernel_rfl
theorem slt32 : SlT Tryz.prog 32 48 (Value.agg #[(Value.string (bs [])), (Value.int .i64 0), (Value.string (bs []))]) 3 40 := ⟨Tryz.underlying32, by kernel_rfl, rfl, by decide⟩
theorem size32 : (Tryz.prog.info? 32).map (·.size) = some 1 := by kernel_rfl
theorem one33 : oneT Tryz.prog 33 = true := by kernel_rfl
theorem slt33 : SlT Tryz.prog 33 89 (Value.agg #[(Value.int .i64 0), (Value.int .i64 0), (Value.int .i64 0), (Value.string (bs [])), (Value.string (bs [])), (Value.string (bs [])), (Value.slice none 0 0)]) 7 96 := ⟨Tryz.underlying33, by kernel_rfl, rfl, by decide⟩
theorem size33 : (Tryz.prog.info? 33).map (·.size) = some 1 := by kernel_rfl
theorem one34 : oneT Tryz.prog 34 = true := by kernel_rfl
theorem slt34 : SlT Tryz.prog 34 94 (Value.agg #[(Value.int .i64 0), (Value.string (bs [])), (Value.string (bs []))]) 3 40 := ⟨Tryz.underlying34, by kernel_rfl, rfl, by decide⟩
theorem size34 : (Tryz.prog.info? 34).map (·.size) = some 1 := by kernel_rfl
theorem one35 : oneT Tryz.prog 35 = true := by kernel_rfl
theorem slt35 : SlT Tryz.prog 35 37 (Value.agg #[(Value.int .i64 0), (Value.string (bs [])), (Value.string (bs [])), (Value.slice none 0 0), (Value.slice none 0 0), (Value.slice none 0 0), (Value.slice none 0 0), (Value.string (bs [])), (Value.slice none 0 0), (Value.slice none 0 0), (Value.slice none 0 0), (Value.bool false), (Value.slice none 0 0)]) 13 256 := ⟨Tryz.underlying35, by kernel_rfl, rfl, by decide⟩
theorem size35 : (Tryz.prog.info? 35).map (·.size) = some 1 := by kernel_rfl
theorem agg37 : aggT Tryz.prog 37 = some 13 := by kernel_rfl
theorem fld37_0 : fieldT Tryz.prog 37 0 = some 0 := by kernel_rfl
theorem fld37_1 : fieldT Tryz.prog 37 1 = some 1 := by kernel_rfl
theorem fld37_2 : fieldT Tryz.prog 37 2 = some 2 := by kernel_rfl
theorem fld37_3 : fieldT Tryz.prog 37 3 = some 3 := by kernel_rfl
theorem fld37_4 : fieldT Tryz.prog 37 4 = some 4 := by kernel_rfl
theorem fld37_5 : fieldT Tryz.prog 37 5 = some 5 := by kernel_rfl
theorem fld37_6 : fieldT Tryz.prog 37 6 = some 6 := by kernel_rfl
theorem fld37_7 : fieldT Tryz.prog 37 7 = some 7 := by kernel_rfl
theorem fld37_8 : fieldT Tryz.prog 37 8 = some 8 := by kernel_rfl
theorem fld37_9 : fieldT Tryz.prog 37 9 = some 9 := by kernel_rfl
theorem fld37_10 : fieldT Tryz.prog 37 10 = some 10 := by kernel_rfl
theorem fld37_11 : fieldT Tryz.prog 37 11 = some 11 := by kernel_rfl
theorem fld37_12 : fieldT Tryz.prog 37 12 = some 12 := by kernel_rfl
theorem size37 : (Tryz.prog.info? 37).map (·.size) = some 13 := by kernel_rfl
theorem zero37 : zeroT Tryz.prog 37 = some (Value.agg #[(Value.int .i64 0), (Value.string (bs [])), (Value.string (bs [])), (Value.slice none 0 0), (Value.slice none 0 0), (Value.slice none 0 0), (Value.slice none 0 0), (Value.string (bs [])), (Value.slice none 0 0), (Value.slice none 0 0), (Value.slice none 0 0), (Value.bool false), (Value.slice none 0 0)]) := by kernel_rfl
theorem agg48 : aggT Tryz.prog 48 = some 3 := by kernel_rfl
theorem fld48_0 : fieldT Tryz.prog 48 0 = some 0 := by kernel_rfl
theorem fld48_1 : fieldT Tryz.prog 48 1 = some 1 := by kernel_rfl
theorem fld48_2 : fieldT Tryz.prog 48 2 = some 2 := by kernel_rfl
theorem eq48 (a0 b0 : List UInt8) (a1 b1 : Int) (a2 b2 : List UInt8) : EqA Tryz.prog 48 [.string (bs a0), .int .i64 a1, .string (bs a2)] [.string (bs b0), .int .i64 b1, .string (bs b2)] (decide (a0 = b0 ∧ a1 = b1 ∧ a2 = b2)) := by
  have h : EqA Tryz.prog 48 [.string (bs a0), .int .i64 a1, .string (bs a2)] [.string (bs b0), .int .i64 b1, .string (bs b2)] ((bs a0).toList == (bs b0).toList && (a1 == b1 && ((bs a2).toList == (bs b2).toList && true))) := EqA.flat Tryz.underlying48 (by kernel_rfl) (by kernel_rfl) (by kernel_rfl)
  rw [show decide (a0 = b0 ∧ a1 = b1 ∧ a2 = b2) = ((bs a0).toList == (bs b0).toList && (a1 == b1 && ((bs a2).toList == (bs b2).toList && true))) from by rw [Bool.eq_iff_iff]; simp [bs_toList]]; exact h
theorem size48 : (Tryz.prog.info? 48).map (·.size) = some 3 := by kernel_rfl
theorem zero48 : zeroT Tryz.prog 48 = some (Value.agg #[(Value.string (bs [])), (Value.int .i64 0), (Value.string (bs []))]) := by kernel_rfl
theorem one49 : oneT Tryz.prog 49 = true := by kernel_rfl
theorem slt49 : SlT Tryz.prog 49 9 (Value.string (bs [])) 1 16 := ⟨Tryz.underlying49, by kernel_rfl, rfl, by decide⟩
theorem size49 : (Tryz.prog.info? 49).map (·.size) = some 1 := by kernel_rfl
theorem agg51 : aggT Tryz.prog 51 = some 3 := by kernel_rfl
theorem fld51_0 : fieldT Tryz.prog 51 0 = some 0 := by kernel_rfl
theorem fld51_1 : fieldT Tryz.prog 51 1 = some 1 := by kernel_rfl
theorem fld51_2 : fieldT Tryz.prog 51 2 = some 2 := by kernel_rfl
theorem size51 : (Tryz.prog.info? 51).map (·.size) = some 3 := by kernel_rfl
theorem zero51 : zeroT Tryz.prog 51 = some (Value.agg #[(Value.string (bs [])), (Value.slice none 0 0), (Value.slice none 0 0)]) := by kernel_rfl
theorem one56 : oneT Tryz.prog 56 = true := by kernel_rfl
theorem size56 : (Tryz.prog.info? 56).map (·.size) = some 1 := by kernel_rfl
theorem fld58_0 : fieldT Tryz.prog 58 0 = some 0 := by kernel_rfl
theorem fld58_1 : fieldT Tryz.prog 58 1 = some 1 := by kernel_rfl
theorem agg68 : aggT Tryz.prog 68 = some 15 := by kernel_rfl
theorem fld68_0 : fieldT Tryz.prog 68 0 = some 0 := by kernel_rfl
theorem fld68_1 : fieldT Tryz.prog 68 1 = some 1 := by kernel_rfl
theorem fld68_2 : fieldT Tryz.prog 68 2 = some 2 := by kernel_rfl
theorem size68 : (Tryz.prog.info? 68).map (·.size) = some 15 := by kernel_rfl
theorem zero68 : zeroT Tryz.prog 68 = some (Value.agg #[(Value.string (bs [])), (Value.slice none 0 0), (Value.int .i64 0), (Value.string (bs [])), (Value.string (bs [])), (Value.slice none 0 0), (Value.slice none 0 0), (Value.slice none 0 0), (Value.slice none 0 0), (Value.string (bs [])), (Value.slice none 0 0), (Value.slice none 0 0), (Value.slice none 0 0), (Value.bool false), (Value.slice none 0 0)]) := by kernel_rfl
theorem one79 : oneT Tryz.prog 79 = true := by kernel_rfl
theorem one81 : oneT Tryz.prog 81 = true := by kernel_rfl
theorem slt83 : SlT Tryz.prog 83 3 (Value.int .i64 0) 1 8 := ⟨Tryz.underlying83, by kernel_rfl, rfl, by decide⟩
theorem agg87 : aggT Tryz.prog 87 = some 3 := by kernel_rfl
theorem eq87 (a0 b0 : Int) (a1 b1 : Int) (a2 b2 : List UInt8) : EqA Tryz.prog 87 [.int .i64 a0, .int .i64 a1, .string (bs a2)] [.int .i64 b0, .int .i64 b1, .string (bs b2)] (decide (a0 = b0 ∧ a1 = b1 ∧ a2 = b2)) := by
  have h : EqA Tryz.prog 87 [.int .i64 a0, .int .i64 a1, .string (bs a2)] [.int .i64 b0, .int .i64 b1, .string (bs b2)] (a0 == b0 && (a1 == b1 && ((bs a2).toList == (bs b2).toList && true))) := EqA.flat Tryz.underlying87 (by kernel_rfl) (by kernel_rfl) (by kernel_rfl)
  rw [show decide (a0 = b0 ∧ a1 = b1 ∧ a2 = b2) = (a0 == b0 && (a1 == b1 && ((bs a2).toList == (bs b2).toList && true))) from by rw [Bool.eq_iff_iff]; simp [bs_toList]]; exact h
theorem size87 : (Tryz.prog.info? 87).map (·.size) = some 3 := by kernel_rfl
theorem zero87 : zeroT Tryz.prog 87 = some (Value.agg #[(Value.int .i64 0), (Value.int .i64 0), (Value.string (bs []))]) := by kernel_rfl
theorem agg89 : aggT Tryz.prog 89 = some 7 := by kernel_rfl
theorem fld89_0 : fieldT Tryz.prog 89 0 = some 0 := by kernel_rfl
theorem fld89_1 : fieldT Tryz.prog 89 1 = some 1 := by kernel_rfl
theorem fld89_2 : fieldT Tryz.prog 89 2 = some 4 := by kernel_rfl
theorem fld89_3 : fieldT Tryz.prog 89 3 = some 5 := by kernel_rfl
theorem fld89_4 : fieldT Tryz.prog 89 4 = some 6 := by kernel_rfl
theorem size89 : (Tryz.prog.info? 89).map (·.size) = some 7 := by kernel_rfl
theorem zero89 : zeroT Tryz.prog 89 = some (Value.agg #[(Value.int .i64 0), (Value.int .i64 0), (Value.int .i64 0), (Value.string (bs [])), (Value.string (bs [])), (Value.string (bs [])), (Value.slice none 0 0)]) := by kernel_rfl
theorem agg94 : aggT Tryz.prog 94 = some 3 := by kernel_rfl
theorem fld94_1 : fieldT Tryz.prog 94 1 = some 1 := by kernel_rfl
theorem fld94_2 : fieldT Tryz.prog 94 2 = some 2 := by kernel_rfl
theorem eq94 (a0 b0 : Int) (a1 b1 : List UInt8) (a2 b2 : List UInt8) : EqA Tryz.prog 94 [.int .i64 a0, .string (bs a1), .string (bs a2)] [.int .i64 b0, .string (bs b1), .string (bs b2)] (decide (a0 = b0 ∧ a1 = b1 ∧ a2 = b2)) := by
  have h : EqA Tryz.prog 94 [.int .i64 a0, .string (bs a1), .string (bs a2)] [.int .i64 b0, .string (bs b1), .string (bs b2)] (a0 == b0 && ((bs a1).toList == (bs b1).toList && ((bs a2).toList == (bs b2).toList && true))) := EqA.flat Tryz.underlying94 (by kernel_rfl) (by kernel_rfl) (by kernel_rfl)
  rw [show decide (a0 = b0 ∧ a1 = b1 ∧ a2 = b2) = (a0 == b0 && ((bs a1).toList == (bs b1).toList && ((bs a2).toList == (bs b2).toList && true))) from by rw [Bool.eq_iff_iff]; simp [bs_toList]]; exact h
theorem size94 : (Tryz.prog.info? 94).map (·.size) = some 3 := by kernel_rfl
theorem zero94 : zeroT Tryz.prog 94 = some (Value.agg #[(Value.int .i64 0), (Value.string (bs [])), (Value.string (bs []))]) := by kernel_rfl
theorem one104 : oneT Tryz.prog 104 = true := by kernel_rfl
theorem us149 : (Tryz.prog.underlying 149).isSome = true := by kernel_rfl
theorem ok4 : callOk Tryz.prog 4 = true := by kernel_rfl
theorem ok5 : callOk Tryz.prog 5 = true := by kernel_rfl
theorem ok6 : callOk Tryz.prog 6 = true := by kernel_rfl
theorem ok7 : callOk Tryz.prog 7 = true := by kernel_rfl
theorem ok8 : callOk Tryz.prog 8 = true := by kernel_rfl
theorem ok9 : callOk Tryz.prog 9 = true := by kernel_rfl
theorem ok10 : callOk Tryz.prog 10 = true := by kernel_rfl
theorem ok11 : callOk Tryz.prog 11 = true := by kernel_rfl
theorem ok12 : callOk Tryz.prog 12 = true := by kernel_rfl
theorem ok13 : callOk Tryz.prog 13 = true := by kernel_rfl
theorem ok14 : callOk Tryz.prog 14 = true := by kernel_rfl
theorem ok15 : callOk Tryz.prog 15 = true := by kernel_rfl
theorem ok16 : callOk Tryz.prog 16 = true := by kernel_rfl
theorem ok17 : callOk Tryz.prog 17 = true := by kernel_rfl
theorem ok18 : callOk Tryz.prog 18 = true := by kernel_rfl
theorem ok19 : callOk Tryz.prog 19 = true := by kernel_rfl
theorem ok20 : callOk Tryz.prog 20 = true := by kernel_rfl
theorem ok21 : callOk Tryz.prog 21 = true := by kernel_rfl
theorem ok22 : callOk Tryz.prog 22 = true := by kernel_rfl
theorem ok23 : callOk Tryz.prog 23 = true := by kernel_rfl
theorem ok24 : callOk Tryz.prog 24 = true := by kernel_rfl
theorem ok25 : callOk Tryz.prog 25 = true := by kernel_rfl
theorem ok26 : callOk Tryz.prog 26 = true := by kernel_rfl
theorem ok27 : callOk Tryz.prog 27 = true := by kernel_rfl
theorem ok28 : callOk Tryz.prog 28 = true := by kernel_rfl
theorem ok29 : callOk Tryz.prog 29 = true := by kernel_rfl
theorem ok30 : callOk Tryz.prog 30 = true := by kernel_rfl
theorem ok31 : callOk Tryz.prog 31 = true := by kernel_rfl
theorem ok32 : callOk Tryz.prog 32 = true := by kernel_rfl
theorem ok33 : callOk Tryz.prog 33 = true := by kernel_rfl
theorem ok34 : callOk Tryz.prog 34 = true := by kernel_rfl
theorem ok35 : callOk Tryz.prog 35 = true := by kernel_rfl
theorem ok36 : callOk Tryz.prog 36 = true := by kernel_rfl
theorem ok37 : callOk Tryz.prog 37 = true := by kernel_rfl
theorem ok38 : callOk Tryz.prog 38 = true := by kernel_rfl
theorem ok39 : callOk Tryz.prog 39 = true := by kernel_rfl
theorem ok40 : callOk Tryz.prog 40 = true := by kernel_rfl
theorem ok41 : callOk Tryz.prog 41 = true := by kernel_rfl
theorem ok42 : callOk Tryz.prog 42 = true := by kernel_rfl
theorem ok43 : callOk Tryz.prog 43 = true := by kernel_rfl
theorem ok44 : callOk Tryz.prog 44 = true := by kernel_rfl
theorem ok45 : callOk Tryz.prog 45 = true := by kernel_rfl
theorem ok46 : callOk Tryz.prog 46 = true := by kernel_rfl
theorem ok47 : callOk Tryz.prog 47 = true := by kernel_rfl
theorem ok48 : callOk Tryz.prog 48 = true := by kernel_rfl
theorem ok49 : callOk Tryz.prog 49 = true := by kernel_rfl
theorem ok50 : callOk Tryz.prog 50 = true := by kernel_rfl
theorem ok51 : callOk Tryz.prog 51 = true := by kernel_rfl
theorem ok52 : callOk Tryz.prog 52 = true := by kernel_rfl
theorem ok53 : callOk Tryz.prog 53 = true := by kernel_rfl
theorem ok54 : callOk Tryz.prog 54 = true := by kernel_rfl
theorem ok55 : callOk Tryz.prog 55 = true := by kernel_rfl
theorem ok56 : callOk Tryz.prog 56 = true := by kernel_rfl
theorem ok57 : callOk Tryz.prog 57 = true := by kernel_rfl
theorem ok58 : callOk Tryz.prog 58 = true := by kernel_rfl
theorem ok59 : callOk Tryz.prog 59 = true := by kernel_rfl
theorem ok60 : callOk Tryz.prog 60 = true := by kernel_rfl
theorem ok61 : callOk Tryz.prog 61 = true := by kernel_rfl
theorem ok62 : callOk Tryz.prog 62 = true := by kernel_rfl
theorem ok63 : callOk Tryz.prog 63 = true := by kernel_rfl
theorem ok64 : callOk Tryz.prog 64 = true := by kernel_rfl
theorem ok65 : callOk Tryz.prog 65 = true := by kernel_rfl
theorem ok66 : callOk Tryz.prog 66 = true := by kernel_rfl
theorem ok67 : callOk Tryz.prog 67 = true := by kernel_rfl
theorem ok68 : callOk Tryz.prog 68 = true := by kernel_rfl
theorem ok69 : callOk Tryz.prog 69 = true := by kernel_rfl
theorem ok70 : callOk Tryz.prog 70 = true := by kernel_rfl
theorem ok71 : callOk Tryz.prog 71 = true := by kernel_rfl
theorem ok72 : callOk Tryz.prog 72 = true := by kernel_rfl
theorem ok73 : callOk Tryz.prog 73 = true := by kernel_rfl
theorem ok74 : callOk Tryz.prog 74 = true := by kernel_rfl
theorem ok75 : callOk Tryz.prog 75 = true := by kernel_rfl
theorem ok76 : callOk Tryz.prog 76 = true := by kernel_rfl
theorem ok77 : callOk Tryz.prog 77 = true := by kernel_rfl
theorem ok78 : callOk Tryz.prog 78 = true := by kernel_rfl
theorem ok79 : callOk Tryz.prog 79 = true := by kernel_rfl
theorem ok80 : callOk Tryz.prog 80 = true := by kernel_rfl
theorem ok81 : callOk Tryz.prog 81 = true := by kernel_rfl
theorem ok82 : callOk Tryz.prog 82 = true := by kernel_rfl
theorem ok83 : callOk Tryz.prog 83 = true := by kernel_rfl
theorem ok84 : callOk Tryz.prog 84 = true := by kernel_rfl
theorem ok85 : callOk Tryz.prog 85 = true := by kernel_rfl
theorem ok86 : callOk Tryz.prog 86 = true := by kernel_rfl
theorem ok87 : callOk Tryz.prog 87 = true := by kernel_rfl
theorem ok88 : callOk Tryz.prog 88 = true := by kernel_rfl
theorem ok89 : callOk Tryz.prog 89 = true := by kernel_rfl
theorem ok90 : callOk Tryz.prog 90 = true := by kernel_rfl
theorem ok91 : callOk Tryz.prog 91 = true := by kernel_rfl
theorem ok92 : callOk Tryz.prog 92 = true := by kernel_rfl
theorem ok93 : callOk Tryz.prog 93 = true := by kernel_rfl
theorem ok94 : callOk Tryz.prog 94 = true := by kernel_rfl
theorem ok100 : callOk Tryz.prog 100 = true := by kernel_rfl
theorem ok104 : callOk Tryz.prog 104 = true := by kernel_rfl
theorem ok110 : callOk Tryz.prog 110 = true := by kernel_rfl
theorem mixed : Tryz.prog.follows .mixedOrders = true := by kernel_rfl
end Go.Proofs.YthflnkfghogaoaaGreat

namespace Go.Proofs.YthflnkfghogaoaaGreat
open Go.Gx Go.RowKit
attribute [local irreducible] wpList wpStill Code.wp Calls

end Go.Proofs.YthflnkfghogaoaaGreat

namespace Go.Gx
open Go.RowKit
section
variable {P : Program} {Q : Exit → Act → World → Prop} {a : Act} {w : World} {l : List (Nat × Value)} {ops : Array Oper} {rest : List Oper}
variable {d ty xt i : Nat} {p : String} {x : Operand} {v v0 : Value}
theorem op_fieldv {af} (hx : (putsL a l).eval x = v0) (hf : (Instr.field xt v0 i).run P w = .ok v w) (h : wpList P ops Q rest (putsL a ((d, v) :: l)) w) :
    wpList P ops Q (⟨some d, .field xt x i, ty, p, af, none⟩ :: rest) (putsL a l) w :=
  op_gen rfl (by simp [execOp, hx, hf]) h
end
end Go.Gx
namespace Go.Gx
open Go.RowKit
end Go.Gx

namespace Go.Gx
open Go.RowKit
section
variable {P : Program} {ol : List Oper} {Q : Exit → Act → World → Prop} {Φ : Nat → Value → World → Prop} {C : Nat → Value → World → Prop} {ch : Chain} {R : World → World → Prop} {a0 : Act} {N : Nat}
theorem any_mid0 (hlex : lexB' ol = true) (hdn : dstNB ol N = true) (hdst : dstsB ol = true) (hch : ch.okB ol = true)
    (hRr : ∀ w, R w w) (hRt : ∀ w1 w2 w3, R w1 w2 → R w2 w3 → R w1 w3) (hR0 : ∀ w1 w2, w1.grownBy w2 none → R w1 w2)
    (hΦ : ∀ j u w1 w2, R w1 w2 → Φ j u w1 → Φ j u w2) (hC : ∀ c u w1 w2, w1.grownBy w2 none → C c u w1 → C c u w2)
    {l : List (Nat × Value)} {w : World} (hN : a0.tmps.size = N) (hC0 : C 0 ((putsL a0 l).tmps.getD (ch.slot 0) undef) w)
    (obN : ∀ i o, ol[i]? = some o → ch.has i = false → ObM P ol Φ C ch (putsL a0 l) N w R i o) (obC : ∀ c i o, ch.ops[c]? = some i → ol[i]? = some o → ObC P ol Φ C ch (putsL a0 l) N w R c i o)
    (fin : ∀ a' w', a'.tmps.size = N → a'.defers = a0.defers → (∀ t, (ol.all fun o => o.dst != some t) = true → a'.tmps.getD t undef = (putsL a0 l).tmps.getD t undef) →
      (∀ j oj d, ol[j]? = some oj → oj.dst = some d → Φ j (a'.tmps.getD d undef) w') → C ch.ops.length (a'.tmps.getD (ch.slot ch.ops.length) undef) w' → R w w' → Q .normal (putsL a' []) w') :
    RegAny P ol Q (putsL a0 l) w := by
  have hd : w.grownBy { w with drawn := w.drawn + 1 } none := ⟨rfl, rfl, rfl, Nat.le_refl _, fun _ _ _ => rfl⟩
  have I : RInv ol Φ C ch (putsL a0 l) N w R (Array.replicate ol.length false) 0 (putsL a0 l) { w with drawn := w.drawn + 1 } := by
    refine ⟨slN hN, rfl, fun _ _ => rfl, fun j o d hj hl => ?_, fun j o hj hl => ?_, by simp, Nat.zero_le _, fun m i hm => ?_, hC _ _ _ _ hd hC0, hR0 _ _ hd⟩
    · have : j < ol.length := (List.getElem?_eq_some_iff.1 hj).1
      simp [Array.getD_eq_getD_getElem?, this] at hl
    · have : j < ol.length := (List.getElem?_eq_some_iff.1 hj).1
      simp [Array.getD_eq_getD_getElem?, this] at hl
    · have h3 : i < ol.length := by
        have hch' := hch
        simp only [Chain.okB, Bool.and_eq_true] at hch'
        have := List.all_eq_true.1 hch'.1.2 i (List.mem_of_getElem? hm)
        simpa [Nat.blt_eq] using this
      simp [Array.getD_eq_getD_getElem?, h3]
  have := region_mid_steps (P := P) (Q := Q) hlex hdn hdst hch w hRt hR0 hΦ hC obN obC (fun a' w' J => fin a' w' J.size (by rw [J.defers, putsL_defers]) (fun t ht => J.base t fun j o hj _ hd => by
      have := List.all_eq_true.1 ht o (List.mem_of_getElem? hj)
      simp [hd] at this) (fun j oj d hj hd => J.phi j oj d hj (by
        have : j < ol.length := (List.getElem?_eq_some_iff.1 hj).1
        simp [Array.getD_eq_getD_getElem?, this]) hd) J.chainC J.rel) ol.length (Array.replicate ol.length false) 0 _ _ I (Nat.le_trans (List.countP_le_length) (by simp))
  exact this
end
section
variable {P : Program} {ol : List Oper} {Q : Exit → Act → World → Prop} {Φ : Nat → Value → Prop} {G : World → Prop} {a0 : Act} {N : Nat}
end
end Go.Gx

namespace Go.Gx
open Go.RowKit
section
variable {P : Program} {ol : List Oper} {Q : Exit → Act → World → Prop} {E : Type} {Φ : E → Nat → Value → Prop} {C : E → Nat → World → Prop} {ch : Chain} {a0 : Act} {N : Nat}
end

section
variable {P : Program} {ol : List Oper} {Q : Exit → Act → World → Prop} {ops : List Nat} {φ : Nat → Value → Prop} {G : World → Prop} {a0 : Act} {N : Nat}
end
end Go.Gx

namespace Go.Gx
open Go.RowKit
section
variable {P : Program} {ol : List Oper} {Q : Exit → Act → World → Prop} {bigs : List Nat} {φ : Nat → Value → Prop} {G : World → Prop} {a0 : Act} {N : Nat}
def PhT (bigs : List Nat) (φ : Nat → Value → Prop) (e : List (Nat × Value)) (j : Nat) (u : Value) : Prop := (bigs.contains j = true → e.lookup j = some u) ∧ (bigs.contains j = false → φ j u)
theorem PhT.mono {e : List (Nat × Value)} {i j : Nat} {v u : Value} (hij : j ≠ i) (h : PhT bigs φ e j u) : PhT bigs φ ((i, v) :: e) j u :=
  ⟨fun hb => by rw [List.lookup_cons, beq_false_of_ne hij]; exact h.1 hb, h.2⟩
structure TInv (ol : List Oper) (bigs : List Nat) (φ : Nat → Value → Prop) (a0 : Act) (N : Nat) (listed : Array Bool) (todo : List Nat) (e : List (Nat × Value)) (a : Act) : Prop where
  size : a.tmps.size = N
  defers : a.defers = a0.defers
  base : ∀ t, (∀ j o, ol[j]? = some o → listed.getD j true = true → o.dst ≠ some t) → a.tmps.getD t undef = a0.tmps.getD t undef
  phi : ∀ j o d, ol[j]? = some o → listed.getD j true = true → o.dst = some d → PhT bigs φ e j (a.tmps.getD d undef)
  closed : ∀ j o, ol[j]? = some o → listed.getD j true = true → ∀ x ∈ o.after, Region.binds .any x = true → listed.getD x.on false = true
  lsize : listed.size = ol.length
  todos : ∀ i, i ∈ todo ↔ i ∈ bigs ∧ listed.getD i true = false
  nodup : List.Nodup todo
def KI (P : Program) (ol : List Oper) (bigs : List Nat) (φ : Nat → Value → Prop) (G : World → Prop) (a0 : Act) (N : Nat) (e : List (Nat × Value)) (i : Nat) (w : World) (K : Value → World → Prop) : Prop :=
  ∀ w1, w.grownBy w1 none → G w1 → ∀ a, a.tmps.size = N → (∀ t, safeB ol i t = true → a.tmps.getD t undef = a0.tmps.getD t undef) → (∀ j oj d, depB ol i j = true → ol[j]? = some oj → oj.dst = some d → PhT bigs φ e j (a.tmps.getD d undef)) →
    ∀ o, ol[i]? = some o → wpList P ol.toArray (fun ex a' w' => ex = .normal ∧ ∃ v, ((o.dst = none ∧ a' = a) ∨ ∃ d, o.dst = some d ∧ a' = putsL a [(d, v)]) ∧ K v w' ∧ G w') [o] (putsL a []) w1
def readyT (ol : List Oper) (todo : List Nat) : List Nat := todo.filter fun i => todo.all fun j => !depB ol i j
def KT (P : Program) (ol : List Oper) (bigs : List Nat) (φ : Nat → Value → Prop) (G : World → Prop) (a0 : Act) (N : Nat) (Q : Exit → Act → World → Prop) : Nat → List Nat → List (Nat × Value) → World → Prop
  | 0, _, e, w => ∀ w1, w.grownBy w1 none → ∀ a', a'.tmps.size = N → a'.defers = a0.defers → (∀ t, (ol.all fun o => o.dst != some t) = true → a'.tmps.getD t undef = a0.tmps.getD t undef) →
      (∀ j oj d, ol[j]? = some oj → oj.dst = some d → PhT bigs φ e j (a'.tmps.getD d undef)) → Q .normal (putsL a' []) w1
  | n + 1, todo, e, w => ∀ i ∈ readyT ol todo, KI P ol bigs φ G a0 N e i w fun v w' => KT P ol bigs φ G a0 N Q n (todo.erase i) ((i, v) :: e) w'
theorem KT.stable : ∀ {n : Nat} {todo : List Nat} {e : List (Nat × Value)} {w w2 : World}, KT P ol bigs φ G a0 N Q n todo e w → w.grownBy w2 none → KT P ol bigs φ G a0 N Q n todo e w2
  | 0, _, _, _, _, h, E => fun w1 E1 => h w1 (grown_trans E E1)
  | _ + 1, _, _, _, _, h, E => fun i hi w1 E1 => h i hi w1 (grown_trans E E1)
def ObR9 (P : Program) (ol : List Oper) (bigs : List Nat) (φ : Nat → Value → Prop) (G : World → Prop) (a0 : Act) (N : Nat) (i : Nat) (o : Oper) : Prop :=
  ∀ (e : List (Nat × Value)) (a : Act) (w : World), a.tmps.size = N → G w → (∀ t, safeB ol i t = true → a.tmps.getD t undef = a0.tmps.getD t undef) → (∀ j oj d, depB ol i j = true → ol[j]? = some oj → oj.dst = some d → PhT bigs φ e j (a.tmps.getD d undef)) →
    wpList P ol.toArray (fun ex a' w' => ex = .normal ∧ (∃ d v, o.dst = some d ∧ a' = putsL a [(d, v)] ∧ φ i v) ∧ w.grownBy w' none) [o] (putsL a []) w
def ObRs9 (P : Program) (ol : List Oper) (bigs : List Nat) (φ : Nat → Value → Prop) (G : World → Prop) (a0 : Act) (N : Nat) : Nat → List Oper → Prop
  | _, [] => True
  | i, o :: r => (bigs.contains i = false → ObR9 P ol bigs φ G a0 N i o) ∧ ObRs9 P ol bigs φ G a0 N (i + 1) r
theorem ObRs9.nil {i : Nat} : ObRs9 P ol bigs φ G a0 N i [] := trivial
theorem ObRs9.cons {i : Nat} {o : Oper} {r : List Oper} (h : ObR9 P ol bigs φ G a0 N i o) (h' : ObRs9 P ol bigs φ G a0 N (i + 1) r) : ObRs9 P ol bigs φ G a0 N i (o :: r) := ⟨fun _ => h, h'⟩
theorem ObRs9.pass {i : Nat} {o : Oper} {r : List Oper} (hh : bigs.contains i = true) (h' : ObRs9 P ol bigs φ G a0 N (i + 1) r) : ObRs9 P ol bigs φ G a0 N i (o :: r) := ⟨fun h => absurd (hh.symm.trans h) (by decide), h'⟩
theorem ObRs9.getx : ∀ {l : List Oper} {i : Nat}, ObRs9 P ol bigs φ G a0 N i l → ∀ j o, l[j]? = some o → bigs.contains (i + j) = false → ObR9 P ol bigs φ G a0 N (i + j) o
  | [], _, _, j, o, h, _ => by simp at h
  | o' :: r, i, h, 0, o, hj, hs => by simp at hj; subst hj; exact h.1 hs
  | o' :: r, i, h, j + 1, o, hj, hs => by
    have := ObRs9.getx h.2 j o (by simpa using hj) (by rwa [show i + 1 + j = i + (j + 1) by omega])
    rwa [show i + 1 + j = i + (j + 1) by omega] at this
theorem region_tree_steps (hlex : lexB' ol = true) (hdn : dstNB ol N = true) (hdst : dstsB ol = true) (hbl : (bigs.all fun i => Nat.blt i ol.length) = true)
    (hG : ∀ w1 w2, w1.grownBy w2 none → G w1 → G w2) (obL : ∀ i o, ol[i]? = some o → bigs.contains i = false → ObR9 P ol bigs φ G a0 N i o) :
    ∀ (fuel : Nat) (listed : Array Bool) (todo : List Nat) (e : List (Nat × Value)) (a : Act) (w : World), TInv ol bigs φ a0 N listed todo e a → KT P ol bigs φ G a0 N Q todo.length todo e w → G w → (List.range ol.length).countP (fun i => !listed.getD i true) ≤ fuel → wpAny P .any ol.toArray Q fuel listed a w := by
  have done : ∀ (listed : Array Bool) (todo : List Nat) (e : List (Nat × Value)) (a : Act) (w : World), TInv ol bigs φ a0 N listed todo e a → KT P ol bigs φ G a0 N Q todo.length todo e w → Region.ready .any ol.toArray listed = [] → Q .normal a w := by
    intro listed todo ee a w I hk hr
    have hall : ∀ i, i < ol.length → listed.getD i true = true := by
      intro i
      induction i using Nat.strongRecOn with
      | _ i ih =>
        intro hi
        by_cases hq : listed.getD i true = true
        · exact hq
        · exfalso
          have hm : i ∈ Region.ready .any ol.toArray listed := by
            rw [mem_ready]
            refine ⟨by simpa using hq, ol[i], by simp [hi], fun e he hb => ?_⟩
            have h1 := List.all_eq_true.1 hlex i (by simp [hi])
            simp only [List.getElem?_eq_getElem hi, Array.all_eq_true_iff_forall_mem, Bool.or_eq_true, Bool.not_eq_true', Nat.blt_eq] at h1
            have h2 := (h1 e he).resolve_left (by simp [hb])
            exact getD_true_lt (ih e.on h2 (by omega)) (by rw [I.lsize]; omega)
          rw [hr] at hm
          cases hm
    have ht : todo = [] := by
      rw [List.eq_nil_iff_forall_not_mem]
      intro i hi
      obtain ⟨hb, hl⟩ := (I.todos i).1 hi
      have := List.all_eq_true.1 hbl i hb
      rw [hall i (by simpa [Nat.blt_eq] using this)] at hl
      cases hl
    subst ht
    exact hk w (grown_refl _ _) a I.size I.defers (fun t ht => I.base t fun j o hj _ hd' => by
      have := List.all_eq_true.1 ht o (List.mem_of_getElem? hj)
      simp [hd'] at this) (fun j oj d hj hd' => I.phi j oj d hj (hall j (List.getElem?_eq_some_iff.1 hj).1) hd')
  intro fuel
  induction fuel with
  | zero =>
    intro listed todo ee a w I hk hg hcnt
    have hr : Region.ready .any ol.toArray listed = [] := by
      rw [List.eq_nil_iff_forall_not_mem]
      intro i hi
      obtain ⟨h1, o, ho, _⟩ := mem_ready.1 hi
      have hlt : i < ol.length := by simpa using (Array.getElem?_eq_some_iff.1 ho).1
      have hz : (List.range ol.length).countP (fun i => !listed.getD i true) = 0 := by omega
      rw [List.countP_eq_zero] at hz
      exact hz i (by simp [hlt]) (by simp [h1])
    exact ⟨hr, done listed todo ee a w I hk hr⟩
  | succ fuel ih =>
    intro listed todo ee a w I hk hg hcnt
    refine ⟨fun hr => done listed todo ee a w I hk hr, fun i hi => ?_⟩
    obtain ⟨hun, o, ho, hwait⟩ := mem_ready.1 hi
    have ho' : ol[i]? = some o := by simpa using ho
    have hlt : i < ol.length := (List.getElem?_eq_some_iff.1 ho').1
    have hls : i < listed.size := by rw [I.lsize]; exact hlt
    have hcnt' : (List.range ol.length).countP (fun j => !(listed.setIfInBounds i true).getD j true) ≤ fuel := by
      have : (List.range ol.length).countP (fun j => !(listed.setIfInBounds i true).getD j true) < (List.range ol.length).countP (fun j => !listed.getD j true) := by
        refine countP_lt _ _ (fun y hy => ?_) _ i (by simp [hlt]) (by simp [hun]) (by simp [Array.getD_eq_getD_getElem?, hls])
        by_cases hiy : i = y
        · subst hiy; simp [Array.getD_eq_getD_getElem?, hls] at hy
        · rwa [getD_set_ne true hiy] at hy
      omega
    have hbase : ∀ t, safeB ol i t = true → a.tmps.getD t undef = a0.tmps.getD t undef := by
      intro t ht
      refine I.base t fun j oj hj hlj hd => ?_
      have h1 := List.all_eq_true.1 ht oj (List.mem_of_getElem? hj)
      simp only [Bool.or_eq_true, bne_iff_ne, ne_eq, Array.any_eq_true, Bool.and_eq_true, beq_iff_eq] at h1
      rcases h1 with h1 | ⟨q, hq, h1, h2⟩
      · exact h1 hd
      · have := getD_of_false (I.closed j oj hj hlj _ (Array.getElem_mem hq) h2)
        rw [h1, hun] at this
        cases this
    have hdep : ∀ j oj d, depB ol i j = true → ol[j]? = some oj → oj.dst = some d → PhT bigs φ ee j (a.tmps.getD d undef) := by
      intro j oj d hj hoj hd
      obtain ⟨e, he, h1, h2⟩ := depB_spec ho' hj
      exact I.phi j oj d hoj (getD_of_false (by rw [← h1]; exact hwait e he h2)) hd
    have hset : ∀ j, j ≠ i → (listed.setIfInBounds i true).getD j true = listed.getD j true := fun j hj => getD_set_ne true (Ne.symm hj)
    have hseti : (listed.setIfInBounds i true).getD i true = true := by simp [Array.getD_eq_getD_getElem?, hls]
    have hclosed : ∀ j oj, ol[j]? = some oj → (listed.setIfInBounds i true).getD j true = true → ∀ e ∈ oj.after, Region.binds .any e = true → (listed.setIfInBounds i true).getD e.on false = true := by
      intro j oj hoj hlj e he hb
      refine getD_set_true ?_
      by_cases hji : j = i
      · subst hji
        rw [ho'] at hoj; cases hoj
        exact hwait e he hb
      · rw [hset j hji] at hlj
        exact I.closed j oj hoj hlj e he hb
    have hne : ∀ j oj d, ol[j]? = some oj → j ≠ i → o.dst = some d → oj.dst ≠ some d := by
      intro j oj d hoj hji hd hd'
      have hj : j < ol.length := (List.getElem?_eq_some_iff.1 hoj).1
      have h1 := List.all_eq_true.1 (List.all_eq_true.1 hdst i (by simp [hlt])) j (by simp [hj])
      simp only [ho', hoj, Bool.or_eq_true, beq_iff_eq, bne_iff_ne, ne_eq] at h1
      rcases h1 with h1 | h1 | h1
      · exact hji h1.symm
      · exact h1 (by rw [hd, hd'])
      · rw [hd] at h1; cases h1
    -- what is left of the frame, behind a value in slot d
    have hframe : ∀ d v (e' : List (Nat × Value)), o.dst = some d → (∀ j u, j ≠ i → PhT bigs φ ee j u → PhT bigs φ e' j u) → PhT bigs φ e' i v → 
        (∀ t, (∀ j oj, ol[j]? = some oj → (listed.setIfInBounds i true).getD j true = true → oj.dst ≠ some t) → (putsL a [(d, v)]).tmps.getD t undef = a0.tmps.getD t undef) ∧
        (∀ j oj d', ol[j]? = some oj → (listed.setIfInBounds i true).getD j true = true → oj.dst = some d' → PhT bigs φ e' j ((putsL a [(d, v)]).tmps.getD d' undef)) := by
      intro d v e' hd hR hv
      have hdN : d < a.tmps.size := by
        have h1 := List.all_eq_true.1 hdn o (List.mem_of_getElem? ho')
        simp only [hd, Nat.blt_eq] at h1
        rw [I.size]; exact h1
      refine ⟨fun t ht => ?_, fun j oj d' hoj hlj hd' => ?_⟩
      · have hdt : d ≠ t := fun e => ht i o ho' hseti (by rw [hd, e])
        rw [get_put_ne hdt]
        refine I.base t fun j oj hoj hlj => ?_
        by_cases hji : j = i
        · subst hji; rw [hun] at hlj; cases hlj
        · exact ht j oj hoj (by rw [hset j hji]; exact hlj)
      · by_cases hji : j = i
        · subst hji
          rw [ho'] at hoj; cases hoj
          rw [hd] at hd'; cases hd'
          rw [get_put_eq hdN]
          exact hv
        · rw [hset j hji] at hlj
          have : d ≠ d' := fun e => hne j oj d hoj hji hd (by rw [hd', e])
          rw [get_put_ne this]
          exact hR j _ hji (I.phi j oj d' hoj hlj hd')
    by_cases hin : bigs.contains i = true
    · have hmem : i ∈ bigs := by simpa using hin
      have hit : i ∈ todo := (I.todos i).2 ⟨hmem, hun⟩
      have hrt : i ∈ readyT ol todo := by
        unfold readyT
        rw [List.mem_filter]
        refine ⟨hit, List.all_eq_true.2 fun j hj => ?_⟩
        cases hd : depB ol i j with
        | false => rfl
        | true =>
          obtain ⟨x, hx, h1, h2⟩ := depB_spec ho' hd
          have h3 := getD_of_false (hwait x hx h2)
          rw [h1, ((I.todos j).1 hj).2] at h3
          cases h3
      obtain ⟨n, hn⟩ : ∃ n, todo.length = n + 1 := ⟨todo.length - 1, by have := List.length_pos_of_mem hit; omega⟩
      have hn2 : (todo.erase i).length = n := by rw [List.length_erase_of_mem hit, hn]; rfl
      rw [hn] at hk
      have h0 := hk i hrt w (grown_refl _ _) hg a I.size hbase hdep o ho'
      refine wp_one (by simpa using ho') h0 fun a' w' h => ?_
      obtain ⟨v, h1, h2, h3⟩ := h
      have htodo : ∀ x, x ∈ todo.erase i ↔ x ∈ bigs ∧ (listed.setIfInBounds i true).getD x true = false := by
        intro x
        rw [I.nodup.mem_erase_iff, I.todos]
        by_cases hxi : x = i
        · subst hxi; simp [hseti]
        · rw [hset x hxi]; simp [hxi]
      refine ih _ (todo.erase i) ((i, v) :: ee) a' w' ?_ (by rw [hn2]; exact h2) h3 hcnt'
      have hpi : PhT bigs φ ((i, v) :: ee) i v := ⟨fun _ => by simp, fun hh => absurd (hin.symm.trans hh) (by decide)⟩
      rcases h1 with ⟨hd, rfl⟩ | ⟨d, hd, rfl⟩
      · refine ⟨I.size, I.defers, fun t ht => ?_, fun j oj d' hoj hlj hd' => ?_, hclosed, by simp [I.lsize], htodo, I.nodup.erase i⟩
        · refine I.base t fun j oj hoj hlj => ?_
          by_cases hji : j = i
          · subst hji; rw [hun] at hlj; cases hlj
          · exact ht j oj hoj (by rw [hset j hji]; exact hlj)
        · by_cases hji : j = i
          · subst hji
            rw [ho'] at hoj; cases hoj
            rw [hd] at hd'; cases hd'
          · rw [hset j hji] at hlj
            exact PhT.mono hji (I.phi j oj d' hoj hlj hd')
      · obtain ⟨f1, f2⟩ := hframe d v ((i, v) :: ee) hd (fun j u hj h => h.mono hj) hpi
        exact ⟨by rw [putsL_size, I.size], by rw [putsL_defers, I.defers], f1, f2, hclosed, by simp [I.lsize], htodo, I.nodup.erase i⟩
    · have hin' : bigs.contains i = false := by simpa using hin
      refine wp_one (by simpa using ho') (obL i o ho' hin' ee a w I.size hg hbase hdep) fun a' w' h => ?_
      obtain ⟨⟨d, v, hd, rfl, hv⟩, hgr⟩ := h
      obtain ⟨f1, f2⟩ := hframe d v ee hd (fun _ _ _ h => h) ⟨fun hh => absurd (hin'.symm.trans hh) (by decide), fun _ => hv⟩
      refine ih _ todo ee _ w' ⟨by rw [putsL_size, I.size], by rw [putsL_defers, I.defers], f1, f2, hclosed, by simp [I.lsize], fun x => ?_, I.nodup⟩ (hk.stable hgr) (hG _ _ hgr hg) hcnt'
      rw [I.todos]
      by_cases hxi : x = i
      · subst hxi; simp [hseti, hun]; simpa using hin'
      · rw [hset x hxi]
theorem any_tree (bigs : List Nat) (hlex : lexB' ol = true) (hdn : dstNB ol N = true) (hdst : dstsB ol = true) (hbl : (bigs.all fun i => Nat.blt i ol.length) = true) (hnd : decide bigs.Nodup = true)
    {l : List (Nat × Value)} {w : World} (hN : a0.tmps.size = N) (hG : ∀ w1 w2, w1.grownBy w2 none → G w1 → G w2) (g0 : G w) (obL : ObRs9 P ol bigs φ G (putsL a0 l) N 0 ol) (hdf : (putsL a0 l).defers = a0.defers)
    (main : KT P ol bigs φ G (putsL a0 l) N Q bigs.length bigs [] w) : RegAny P ol Q (putsL a0 l) w := by
  have hd : w.grownBy { w with drawn := w.drawn + 1 } none := ⟨rfl, rfl, rfl, Nat.le_refl _, fun _ _ _ => rfl⟩
  have I : TInv ol bigs φ (putsL a0 l) N (Array.replicate ol.length false) bigs [] (putsL a0 l) := by
    refine ⟨slN hN, rfl, fun _ _ => rfl, fun j o d hj hl => ?_, fun j o hj hl => ?_, by simp, fun i => ⟨fun hi => ⟨hi, ?_⟩, fun hi => hi.1⟩, of_decide_eq_true hnd⟩
    · have : j < ol.length := (List.getElem?_eq_some_iff.1 hj).1
      simp [Array.getD_eq_getD_getElem?, this] at hl
    · have : j < ol.length := (List.getElem?_eq_some_iff.1 hj).1
      simp [Array.getD_eq_getD_getElem?, this] at hl
    · have := List.all_eq_true.1 hbl i hi
      have h3 : i < ol.length := by simpa [Nat.blt_eq] using this
      simp [Array.getD_eq_getD_getElem?, h3]
  exact region_tree_steps (P := P) (Q := Q) hlex hdn hdst hbl hG (fun i o hi hh => by
      have h5 := ObRs9.getx obL i o hi (by rw [Nat.zero_add]; exact hh)
      rw [Nat.zero_add] at h5; exact h5) ol.length (Array.replicate ol.length false) bigs [] (putsL a0 l) _ I (main.stable hd) (hG _ _ hd g0) (Nat.le_trans (List.countP_le_length) (by simp))
theorem reg_tree {id : Nat} (bigs : List Nat) (hm : P.follows .mixedOrders = true) (hlex : lexB' ol = true) (hdn : dstNB ol N = true) (hdst : dstsB ol = true) (hbl : (bigs.all fun i => Nat.blt i ol.length) = true) (hnd : decide bigs.Nodup = true)
    {l : List (Nat × Value)} {w : World} (hN : a0.tmps.size = N) (hG : ∀ w1 w2, w1.grownBy w2 none → G w1 → G w2) (g0 : G w) (obL : ObRs9 P ol bigs φ G (putsL a0 l) N 0 ol) (hdf : (putsL a0 l).defers = a0.defers)
    (main : KT P ol bigs φ G (putsL a0 l) N Q bigs.length bigs [] w) : (Code.region id ol.toArray true).wp P Q (putsL a0 l) w := reg_of_any hm (any_tree bigs hlex hdn hdst hbl hnd hN hG g0 obL hdf main)
theorem kt_step {n : Nat} {todo rs : List Nat} {e : List (Nat × Value)} {w : World} (hr : readyT ol todo = rs) (h : ∀ i ∈ rs, KI P ol bigs φ G a0 N e i w fun v w' => KT P ol bigs φ G a0 N Q n (todo.erase i) ((i, v) :: e) w') : KT P ol bigs φ G a0 N Q (n + 1) todo e w := by
  subst hr; exact h
theorem one_mem {p : Nat → Prop} {x : Nat} (h : p x) : ∀ i ∈ [x], p i := fun i hi => by
  obtain rfl : i = x := by simpa using hi
  exact h
theorem more_mem {p : Nat → Prop} {x y : Nat} {r : List Nat} (h : p x) (h' : ∀ i ∈ y :: r, p i) : ∀ i ∈ x :: y :: r, p i := List.forall_mem_cons.2 ⟨h, h'⟩
theorem kt_end {o : Oper} {d : Nat} {v : Value} {a : Act} {w : World} {K : Value → World → Prop} (hd : o.dst = some d) (g : G w) (h : K v w) :
    wpList P ol.toArray (fun ex a' w' => ex = .normal ∧ ∃ v, ((o.dst = none ∧ a' = a) ∨ ∃ d, o.dst = some d ∧ a' = putsL a [(d, v)]) ∧ K v w' ∧ G w') [] (putsL a [(d, v)]) w := ⟨rfl, v, .inr ⟨d, hd, rfl⟩, h, g⟩
theorem kt_end0 {o : Oper} {a : Act} {w : World} {K : Value → World → Prop} (hd : o.dst = none) (g : G w) (h : K undef w) :
    wpList P ol.toArray (fun ex a' w' => ex = .normal ∧ ∃ v, ((o.dst = none ∧ a' = a) ∨ ∃ d, o.dst = some d ∧ a' = putsL a [(d, v)]) ∧ K v w' ∧ G w') [] (putsL a []) w := ⟨rfl, undef, .inl ⟨hd, rfl⟩, h, g⟩
theorem obT_end {o : Oper} {i d : Nat} {v : Value} {a : Act} {w : World} (hd : o.dst = some d) (hv : φ i v) :
    wpList P ol.toArray (fun ex a' w' => ex = .normal ∧ (∃ d v, o.dst = some d ∧ a' = putsL a [(d, v)] ∧ φ i v) ∧ w.grownBy w' none) [] (putsL a [(d, v)]) w := ⟨rfl, ⟨d, v, hd, rfl, hv⟩, grown_refl _ _⟩
end
end Go.Gx

namespace Go.Gx
open Go.RowKit
section
variable {P : Program} {ol : List Oper} {Q : Exit → Act → World → Prop} {E : Type} {Φ : E → Nat → Value → Prop} {C : E → Nat → World → Prop} {ch : Chain} {a0 : Act} {N : Nat}
end

section
variable {P : Program} {ol : List Oper} {Q : Exit → Act → World → Prop} {ops : List Nat} {φ : Nat → Value → Prop} {G : Nat → World → Prop} {a0 : Act} {N : Nat}
end
end Go.Gx

namespace Go.Gx
open Go.RowKit
section
variable {P : Program} {ol : List Oper} {Q : Exit → Act → World → Prop} {bigs : List Nat} {φ : Nat → Value → Prop} {G : List Nat → World → Prop} {a0 : Act} {N : Nat}
def KIk (P : Program) (ol : List Oper) (bigs : List Nat) (φ : Nat → Value → Prop) (G : List Nat → World → Prop) (a0 : Act) (N : Nat) (e : List (Nat × Value)) (todo : List Nat) (i : Nat) (w : World) (K : Value → World → Prop) : Prop :=
  ∀ w1, w.grownBy w1 none → G todo w1 → ∀ a, a.tmps.size = N → (∀ t, safeB ol i t = true → a.tmps.getD t undef = a0.tmps.getD t undef) → (∀ j oj d, depB ol i j = true → ol[j]? = some oj → oj.dst = some d → PhT bigs φ e j (a.tmps.getD d undef)) →
    ∀ o, ol[i]? = some o → wpList P ol.toArray (fun ex a' w' => ex = .normal ∧ ∃ v, ((o.dst = none ∧ a' = a) ∨ ∃ d, o.dst = some d ∧ a' = putsL a [(d, v)]) ∧ K v w' ∧ G (todo.erase i) w') [o] (putsL a []) w1
def KTk (P : Program) (ol : List Oper) (bigs : List Nat) (φ : Nat → Value → Prop) (G : List Nat → World → Prop) (a0 : Act) (N : Nat) (Q : Exit → Act → World → Prop) : Nat → List Nat → List (Nat × Value) → World → Prop
  | 0, _, e, w => ∀ w1, w.grownBy w1 none → ∀ a', a'.tmps.size = N → a'.defers = a0.defers → (∀ t, (ol.all fun o => o.dst != some t) = true → a'.tmps.getD t undef = a0.tmps.getD t undef) →
      (∀ j oj d, ol[j]? = some oj → oj.dst = some d → PhT bigs φ e j (a'.tmps.getD d undef)) → Q .normal (putsL a' []) w1
  | n + 1, todo, e, w => ∀ i ∈ readyT ol todo, KIk P ol bigs φ G a0 N e todo i w fun v w' => KTk P ol bigs φ G a0 N Q n (todo.erase i) ((i, v) :: e) w'
theorem KTk.stable : ∀ {n : Nat} {todo : List Nat} {e : List (Nat × Value)} {w w2 : World}, KTk P ol bigs φ G a0 N Q n todo e w → w.grownBy w2 none → KTk P ol bigs φ G a0 N Q n todo e w2
  | 0, _, _, _, _, h, E => fun w1 E1 => h w1 (grown_trans E E1)
  | _ + 1, _, _, _, _, h, E => fun i hi w1 E1 => h i hi w1 (grown_trans E E1)
def ObQ9 (P : Program) (ol : List Oper) (bigs : List Nat) (φ : Nat → Value → Prop) (G : List Nat → World → Prop) (a0 : Act) (N : Nat) (i : Nat) (o : Oper) : Prop :=
  ∀ (e : List (Nat × Value)) (todo : List Nat) (a : Act) (w : World), a.tmps.size = N → (∀ j, bigs.contains j = true → depB ol j i = true → j ∈ todo) → G todo w → (∀ t, safeB ol i t = true → a.tmps.getD t undef = a0.tmps.getD t undef) → (∀ j oj d, depB ol i j = true → ol[j]? = some oj → oj.dst = some d → PhT bigs φ e j (a.tmps.getD d undef)) →
    wpList P ol.toArray (fun ex a' w' => ex = .normal ∧ (∃ d v, o.dst = some d ∧ a' = putsL a [(d, v)] ∧ φ i v) ∧ w.grownBy w' none) [o] (putsL a []) w
def ObRk9 (P : Program) (ol : List Oper) (bigs : List Nat) (φ : Nat → Value → Prop) (G : List Nat → World → Prop) (a0 : Act) (N : Nat) : Nat → List Oper → Prop
  | _, [] => True
  | i, o :: r => (bigs.contains i = false → ObQ9 P ol bigs φ G a0 N i o) ∧ ObRk9 P ol bigs φ G a0 N (i + 1) r
theorem ObRk9.nil {i : Nat} : ObRk9 P ol bigs φ G a0 N i [] := trivial
theorem ObRk9.cons {i : Nat} {o : Oper} {r : List Oper} (h : ObQ9 P ol bigs φ G a0 N i o) (h' : ObRk9 P ol bigs φ G a0 N (i + 1) r) : ObRk9 P ol bigs φ G a0 N i (o :: r) := ⟨fun _ => h, h'⟩
theorem ObRk9.pass {i : Nat} {o : Oper} {r : List Oper} (hh : bigs.contains i = true) (h' : ObRk9 P ol bigs φ G a0 N (i + 1) r) : ObRk9 P ol bigs φ G a0 N i (o :: r) := ⟨fun h => absurd (hh.symm.trans h) (by decide), h'⟩
theorem ObRk9.getx : ∀ {l : List Oper} {i : Nat}, ObRk9 P ol bigs φ G a0 N i l → ∀ j o, l[j]? = some o → bigs.contains (i + j) = false → ObQ9 P ol bigs φ G a0 N (i + j) o
  | [], _, _, j, o, h, _ => by simp at h
  | o' :: r, i, h, 0, o, hj, hs => by simp at hj; subst hj; exact h.1 hs
  | o' :: r, i, h, j + 1, o, hj, hs => by
    have := ObRk9.getx h.2 j o (by simpa using hj) (by rwa [show i + 1 + j = i + (j + 1) by omega])
    rwa [show i + 1 + j = i + (j + 1) by omega] at this
theorem region_treek_steps (hlex : lexB' ol = true) (hdn : dstNB ol N = true) (hdst : dstsB ol = true) (hbl : (bigs.all fun i => Nat.blt i ol.length) = true)
    (hG : ∀ t w1 w2, w1.grownBy w2 none → G t w1 → G t w2) (obL : ∀ i o, ol[i]? = some o → bigs.contains i = false → ObQ9 P ol bigs φ G a0 N i o) :
    ∀ (fuel : Nat) (listed : Array Bool) (todo : List Nat) (e : List (Nat × Value)) (a : Act) (w : World), TInv ol bigs φ a0 N listed todo e a → KTk P ol bigs φ G a0 N Q todo.length todo e w → G todo w → (List.range ol.length).countP (fun i => !listed.getD i true) ≤ fuel → wpAny P .any ol.toArray Q fuel listed a w := by
  have done : ∀ (listed : Array Bool) (todo : List Nat) (e : List (Nat × Value)) (a : Act) (w : World), TInv ol bigs φ a0 N listed todo e a → KTk P ol bigs φ G a0 N Q todo.length todo e w → Region.ready .any ol.toArray listed = [] → Q .normal a w := by
    intro listed todo ee a w I hk hr
    have hall : ∀ i, i < ol.length → listed.getD i true = true := by
      intro i
      induction i using Nat.strongRecOn with
      | _ i ih =>
        intro hi
        by_cases hq : listed.getD i true = true
        · exact hq
        · exfalso
          have hm : i ∈ Region.ready .any ol.toArray listed := by
            rw [mem_ready]
            refine ⟨by simpa using hq, ol[i], by simp [hi], fun e he hb => ?_⟩
            have h1 := List.all_eq_true.1 hlex i (by simp [hi])
            simp only [List.getElem?_eq_getElem hi, Array.all_eq_true_iff_forall_mem, Bool.or_eq_true, Bool.not_eq_true', Nat.blt_eq] at h1
            have h2 := (h1 e he).resolve_left (by simp [hb])
            exact getD_true_lt (ih e.on h2 (by omega)) (by rw [I.lsize]; omega)
          rw [hr] at hm
          cases hm
    have ht : todo = [] := by
      rw [List.eq_nil_iff_forall_not_mem]
      intro i hi
      obtain ⟨hb, hl⟩ := (I.todos i).1 hi
      have := List.all_eq_true.1 hbl i hb
      rw [hall i (by simpa [Nat.blt_eq] using this)] at hl
      cases hl
    subst ht
    exact hk w (grown_refl _ _) a I.size I.defers (fun t ht => I.base t fun j o hj _ hd' => by
      have := List.all_eq_true.1 ht o (List.mem_of_getElem? hj)
      simp [hd'] at this) (fun j oj d hj hd' => I.phi j oj d hj (hall j (List.getElem?_eq_some_iff.1 hj).1) hd')
  intro fuel
  induction fuel with
  | zero =>
    intro listed todo ee a w I hk hg hcnt
    have hr : Region.ready .any ol.toArray listed = [] := by
      rw [List.eq_nil_iff_forall_not_mem]
      intro i hi
      obtain ⟨h1, o, ho, _⟩ := mem_ready.1 hi
      have hlt : i < ol.length := by simpa using (Array.getElem?_eq_some_iff.1 ho).1
      have hz : (List.range ol.length).countP (fun i => !listed.getD i true) = 0 := by omega
      rw [List.countP_eq_zero] at hz
      exact hz i (by simp [hlt]) (by simp [h1])
    exact ⟨hr, done listed todo ee a w I hk hr⟩
  | succ fuel ih =>
    intro listed todo ee a w I hk hg hcnt
    refine ⟨fun hr => done listed todo ee a w I hk hr, fun i hi => ?_⟩
    obtain ⟨hun, o, ho, hwait⟩ := mem_ready.1 hi
    have ho' : ol[i]? = some o := by simpa using ho
    have hlt : i < ol.length := (List.getElem?_eq_some_iff.1 ho').1
    have hls : i < listed.size := by rw [I.lsize]; exact hlt
    have hcnt' : (List.range ol.length).countP (fun j => !(listed.setIfInBounds i true).getD j true) ≤ fuel := by
      have : (List.range ol.length).countP (fun j => !(listed.setIfInBounds i true).getD j true) < (List.range ol.length).countP (fun j => !listed.getD j true) := by
        refine countP_lt _ _ (fun y hy => ?_) _ i (by simp [hlt]) (by simp [hun]) (by simp [Array.getD_eq_getD_getElem?, hls])
        by_cases hiy : i = y
        · subst hiy; simp [Array.getD_eq_getD_getElem?, hls] at hy
        · rwa [getD_set_ne true hiy] at hy
      omega
    have hbase : ∀ t, safeB ol i t = true → a.tmps.getD t undef = a0.tmps.getD t undef := by
      intro t ht
      refine I.base t fun j oj hj hlj hd => ?_
      have h1 := List.all_eq_true.1 ht oj (List.mem_of_getElem? hj)
      simp only [Bool.or_eq_true, bne_iff_ne, ne_eq, Array.any_eq_true, Bool.and_eq_true, beq_iff_eq] at h1
      rcases h1 with h1 | ⟨q, hq, h1, h2⟩
      · exact h1 hd
      · have := getD_of_false (I.closed j oj hj hlj _ (Array.getElem_mem hq) h2)
        rw [h1, hun] at this
        cases this
    have hdep : ∀ j oj d, depB ol i j = true → ol[j]? = some oj → oj.dst = some d → PhT bigs φ ee j (a.tmps.getD d undef) := by
      intro j oj d hj hoj hd
      obtain ⟨e, he, h1, h2⟩ := depB_spec ho' hj
      exact I.phi j oj d hoj (getD_of_false (by rw [← h1]; exact hwait e he h2)) hd
    have hset : ∀ j, j ≠ i → (listed.setIfInBounds i true).getD j true = listed.getD j true := fun j hj => getD_set_ne true (Ne.symm hj)
    have hseti : (listed.setIfInBounds i true).getD i true = true := by simp [Array.getD_eq_getD_getElem?, hls]
    have hclosed : ∀ j oj, ol[j]? = some oj → (listed.setIfInBounds i true).getD j true = true → ∀ e ∈ oj.after, Region.binds .any e = true → (listed.setIfInBounds i true).getD e.on false = true := by
      intro j oj hoj hlj e he hb
      refine getD_set_true ?_
      by_cases hji : j = i
      · subst hji
        rw [ho'] at hoj; cases hoj
        exact hwait e he hb
      · rw [hset j hji] at hlj
        exact I.closed j oj hoj hlj e he hb
    have hne : ∀ j oj d, ol[j]? = some oj → j ≠ i → o.dst = some d → oj.dst ≠ some d := by
      intro j oj d hoj hji hd hd'
      have hj : j < ol.length := (List.getElem?_eq_some_iff.1 hoj).1
      have h1 := List.all_eq_true.1 (List.all_eq_true.1 hdst i (by simp [hlt])) j (by simp [hj])
      simp only [ho', hoj, Bool.or_eq_true, beq_iff_eq, bne_iff_ne, ne_eq] at h1
      rcases h1 with h1 | h1 | h1
      · exact hji h1.symm
      · exact h1 (by rw [hd, hd'])
      · rw [hd] at h1; cases h1
    -- what is left of the frame, behind a value in slot d
    have hframe : ∀ d v (e' : List (Nat × Value)), o.dst = some d → (∀ j u, j ≠ i → PhT bigs φ ee j u → PhT bigs φ e' j u) → PhT bigs φ e' i v → 
        (∀ t, (∀ j oj, ol[j]? = some oj → (listed.setIfInBounds i true).getD j true = true → oj.dst ≠ some t) → (putsL a [(d, v)]).tmps.getD t undef = a0.tmps.getD t undef) ∧
        (∀ j oj d', ol[j]? = some oj → (listed.setIfInBounds i true).getD j true = true → oj.dst = some d' → PhT bigs φ e' j ((putsL a [(d, v)]).tmps.getD d' undef)) := by
      intro d v e' hd hR hv
      have hdN : d < a.tmps.size := by
        have h1 := List.all_eq_true.1 hdn o (List.mem_of_getElem? ho')
        simp only [hd, Nat.blt_eq] at h1
        rw [I.size]; exact h1
      refine ⟨fun t ht => ?_, fun j oj d' hoj hlj hd' => ?_⟩
      · have hdt : d ≠ t := fun e => ht i o ho' hseti (by rw [hd, e])
        rw [get_put_ne hdt]
        refine I.base t fun j oj hoj hlj => ?_
        by_cases hji : j = i
        · subst hji; rw [hun] at hlj; cases hlj
        · exact ht j oj hoj (by rw [hset j hji]; exact hlj)
      · by_cases hji : j = i
        · subst hji
          rw [ho'] at hoj; cases hoj
          rw [hd] at hd'; cases hd'
          rw [get_put_eq hdN]
          exact hv
        · rw [hset j hji] at hlj
          have : d ≠ d' := fun e => hne j oj d hoj hji hd (by rw [hd', e])
          rw [get_put_ne this]
          exact hR j _ hji (I.phi j oj d' hoj hlj hd')
    by_cases hin : bigs.contains i = true
    · have hmem : i ∈ bigs := by simpa using hin
      have hit : i ∈ todo := (I.todos i).2 ⟨hmem, hun⟩
      have hrt : i ∈ readyT ol todo := by
        unfold readyT
        rw [List.mem_filter]
        refine ⟨hit, List.all_eq_true.2 fun j hj => ?_⟩
        cases hd : depB ol i j with
        | false => rfl
        | true =>
          obtain ⟨x, hx, h1, h2⟩ := depB_spec ho' hd
          have h3 := getD_of_false (hwait x hx h2)
          rw [h1, ((I.todos j).1 hj).2] at h3
          cases h3
      obtain ⟨n, hn⟩ : ∃ n, todo.length = n + 1 := ⟨todo.length - 1, by have := List.length_pos_of_mem hit; omega⟩
      have hn2 : (todo.erase i).length = n := by rw [List.length_erase_of_mem hit, hn]; rfl
      rw [hn] at hk
      have h0 := hk i hrt w (grown_refl _ _) hg a I.size hbase hdep o ho'
      refine wp_one (by simpa using ho') h0 fun a' w' h => ?_
      obtain ⟨v, h1, h2, h3⟩ := h
      have htodo : ∀ x, x ∈ todo.erase i ↔ x ∈ bigs ∧ (listed.setIfInBounds i true).getD x true = false := by
        intro x
        rw [I.nodup.mem_erase_iff, I.todos]
        by_cases hxi : x = i
        · subst hxi; simp [hseti]
        · rw [hset x hxi]; simp [hxi]
      refine ih _ (todo.erase i) ((i, v) :: ee) a' w' ?_ (by rw [hn2]; exact h2) h3 hcnt'
      have hpi : PhT bigs φ ((i, v) :: ee) i v := ⟨fun _ => by simp, fun hh => absurd (hin.symm.trans hh) (by decide)⟩
      rcases h1 with ⟨hd, rfl⟩ | ⟨d, hd, rfl⟩
      · refine ⟨I.size, I.defers, fun t ht => ?_, fun j oj d' hoj hlj hd' => ?_, hclosed, by simp [I.lsize], htodo, I.nodup.erase i⟩
        · refine I.base t fun j oj hoj hlj => ?_
          by_cases hji : j = i
          · subst hji; rw [hun] at hlj; cases hlj
          · exact ht j oj hoj (by rw [hset j hji]; exact hlj)
        · by_cases hji : j = i
          · subst hji
            rw [ho'] at hoj; cases hoj
            rw [hd] at hd'; cases hd'
          · rw [hset j hji] at hlj
            exact PhT.mono hji (I.phi j oj d' hoj hlj hd')
      · obtain ⟨f1, f2⟩ := hframe d v ((i, v) :: ee) hd (fun j u hj h => h.mono hj) hpi
        exact ⟨by rw [putsL_size, I.size], by rw [putsL_defers, I.defers], f1, f2, hclosed, by simp [I.lsize], htodo, I.nodup.erase i⟩
    · have hin' : bigs.contains i = false := by simpa using hin
      have hck : ∀ j, bigs.contains j = true → depB ol j i = true → j ∈ todo := by
        intro j hj hd
        rw [I.todos]
        refine ⟨by simpa using hj, ?_⟩
        cases hl : listed.getD j true with
        | false => rfl
        | true =>
          exfalso
          cases hok : ol[j]? with
          | none => simp [depB, hok] at hd
          | some ok =>
            obtain ⟨x, hx, h4, h5⟩ := depB_spec hok hd
            have h6 := getD_of_false (I.closed j ok hok hl x hx h5)
            rw [h4, hun] at h6; cases h6
      refine wp_one (by simpa using ho') (obL i o ho' hin' ee todo a w I.size hck hg hbase hdep) fun a' w' h => ?_
      obtain ⟨⟨d, v, hd, rfl, hv⟩, hgr⟩ := h
      obtain ⟨f1, f2⟩ := hframe d v ee hd (fun _ _ _ h => h) ⟨fun hh => absurd (hin'.symm.trans hh) (by decide), fun _ => hv⟩
      refine ih _ todo ee _ w' ⟨by rw [putsL_size, I.size], by rw [putsL_defers, I.defers], f1, f2, hclosed, by simp [I.lsize], fun x => ?_, I.nodup⟩ (hk.stable hgr) (hG _ _ _ hgr hg) hcnt'
      rw [I.todos]
      by_cases hxi : x = i
      · subst hxi; simp [hseti, hun]; simpa using hin'
      · rw [hset x hxi]
theorem any_treek (bigs : List Nat) (hlex : lexB' ol = true) (hdn : dstNB ol N = true) (hdst : dstsB ol = true) (hbl : (bigs.all fun i => Nat.blt i ol.length) = true) (hnd : decide bigs.Nodup = true)
    {l : List (Nat × Value)} {w : World} (hN : a0.tmps.size = N) (hG : ∀ t w1 w2, w1.grownBy w2 none → G t w1 → G t w2) (g0 : G bigs w) (obL : ObRk9 P ol bigs φ G (putsL a0 l) N 0 ol) (hdf : (putsL a0 l).defers = a0.defers)
    (main : KTk P ol bigs φ G (putsL a0 l) N Q bigs.length bigs [] w) : RegAny P ol Q (putsL a0 l) w := by
  have hd : w.grownBy { w with drawn := w.drawn + 1 } none := ⟨rfl, rfl, rfl, Nat.le_refl _, fun _ _ _ => rfl⟩
  have I : TInv ol bigs φ (putsL a0 l) N (Array.replicate ol.length false) bigs [] (putsL a0 l) := by
    refine ⟨slN hN, rfl, fun _ _ => rfl, fun j o d hj hl => ?_, fun j o hj hl => ?_, by simp, fun i => ⟨fun hi => ⟨hi, ?_⟩, fun hi => hi.1⟩, of_decide_eq_true hnd⟩
    · have : j < ol.length := (List.getElem?_eq_some_iff.1 hj).1
      simp [Array.getD_eq_getD_getElem?, this] at hl
    · have : j < ol.length := (List.getElem?_eq_some_iff.1 hj).1
      simp [Array.getD_eq_getD_getElem?, this] at hl
    · have := List.all_eq_true.1 hbl i hi
      have h3 : i < ol.length := by simpa [Nat.blt_eq] using this
      simp [Array.getD_eq_getD_getElem?, h3]
  exact region_treek_steps (P := P) (Q := Q) hlex hdn hdst hbl hG (fun i o hi hh => by
      have h5 := ObRk9.getx obL i o hi (by rw [Nat.zero_add]; exact hh)
      rw [Nat.zero_add] at h5; exact h5) ol.length (Array.replicate ol.length false) bigs [] (putsL a0 l) _ I (main.stable hd) (hG _ _ _ hd g0) (Nat.le_trans (List.countP_le_length) (by simp))
theorem ktk_step {n : Nat} {todo rs : List Nat} {e : List (Nat × Value)} {w : World} (hr : readyT ol todo = rs) (h : ∀ i ∈ rs, KIk P ol bigs φ G a0 N e todo i w fun v w' => KTk P ol bigs φ G a0 N Q n (todo.erase i) ((i, v) :: e) w') : KTk P ol bigs φ G a0 N Q (n + 1) todo e w := by
  subst hr; exact h
theorem ktk_end {todo : List Nat} {i : Nat} {o : Oper} {d : Nat} {v : Value} {a : Act} {w : World} {K : Value → World → Prop} (hd : o.dst = some d) (g : G (todo.erase i) w) (h : K v w) :
    wpList P ol.toArray (fun ex a' w' => ex = .normal ∧ ∃ v, ((o.dst = none ∧ a' = a) ∨ ∃ d, o.dst = some d ∧ a' = putsL a [(d, v)]) ∧ K v w' ∧ G (todo.erase i) w') [] (putsL a [(d, v)]) w := ⟨rfl, v, .inr ⟨d, hd, rfl⟩, h, g⟩
theorem ktk_end0 {todo : List Nat} {i : Nat} {o : Oper} {a : Act} {w : World} {K : Value → World → Prop} (hd : o.dst = none) (g : G (todo.erase i) w) (h : K undef w) :
    wpList P ol.toArray (fun ex a' w' => ex = .normal ∧ ∃ v, ((o.dst = none ∧ a' = a) ∨ ∃ d, o.dst = some d ∧ a' = putsL a [(d, v)]) ∧ K v w' ∧ G (todo.erase i) w') [] (putsL a []) w := ⟨rfl, undef, .inl ⟨hd, rfl⟩, h, g⟩
theorem obTk_end {o : Oper} {i d : Nat} {v : Value} {a : Act} {w : World} (hd : o.dst = some d) (hv : φ i v) :
    wpList P ol.toArray (fun ex a' w' => ex = .normal ∧ (∃ d v, o.dst = some d ∧ a' = putsL a [(d, v)] ∧ φ i v) ∧ w.grownBy w' none) [] (putsL a [(d, v)]) w := ⟨rfl, ⟨d, v, hd, rfl, hv⟩, grown_refl _ _⟩
end
end Go.Gx

namespace Go.Gx
section
variable {P : Program} {Q : Exit → Act → World → Prop} {a : Act} {w w' : World} {l : List (Nat × Value)} {ops : Array Oper} {rest : List Oper}
variable {d ty xt yt t e : Nat} {p : String} {af : Array Edge} {x y z : Operand} {v u : Value} {k : IntKind} {m n r : Int}
theorem op_fnc {f : FuncId} {as9 : List Operand} {ts : Array Nat} {vs : List Value} {R : Value → World → Prop} (hf : callOk P f = true) (hc : Ret P f vs.toArray w R) (hm : argsEv (putsL a l).eval as9 vs)
    (h : ∀ v w', R v w' → wpList P ops Q rest (putsL a ((d, v) :: l)) w') : wpList P ops Q (⟨some d, .call ⟨.value (.func f), as9.toArray, ts⟩, ty, p, af, none⟩ :: rest) (putsL a l) w := op_fn hf hm hc h
theorem op_storeA {b s T : Nat} {vs cs : List Value} (ht : (P.info? t).map (·.size) = some s) (hx : (putsL a l).eval x = ptr b 0) (hy : (putsL a l).eval y = .agg vs.toArray) (hs : vs.length = s) (h1 : vs.all Value.oneCell' = true) (hb : Bx w b T cs) (hl : vs.length = cs.length)
    (h : ∀ w', Bx w' b T vs → w.grownBy w' (some b) → wpList P ops Q rest (putsL a l) w') : wpList P ops Q (⟨none, .store t x y, ty, p, af, none⟩ :: rest) (putsL a l) w :=
  op_store ht hx hy (by simp [Value.cells]) hs h1 hb (by omega) (by simp [hl]) h
theorem op_loadB {s b T : Nat} {cs : List Value} (ht : aggT P xt = some s) (hl : cs.length = s) (hx : (putsL a l).eval x = ptr b 0) (hB : Bx w b T cs) (h : wpList P ops Q rest (putsL a ((d, .agg cs.toArray) :: l)) w) :
    wpList P ops Q (⟨some d, .load xt x, ty, p, af, none⟩ :: rest) (putsL a l) w :=
  op_loadA ht hl hx (fun j u hu => by rw [Nat.zero_add]; exact hB.cell hu) h
theorem retC {fn : Func} {R : Ending → World → Prop} {tt tc s b T : Nat} {cs : List Value} (hr : fn.results = [ResultVar.cell tt tc].toArray) (hd : a.defers = []) (hx : (putsL a l).eval (.tmp tt) = ptr b 0) (ht : aggT P tc = some s) (hl : cs.length = s) (hB : Bx w b T cs) (h : R (.returned (.agg cs.toArray)) w) : bodyPost P fn R .ret (putsL a l) w :=
  retN (rs := [.cell tt tc]) (vs := [.agg cs.toArray]) hr hd ⟨⟨_, hx, run_loadA ht hl (fun j u hu => by rw [Nat.zero_add]; exact hB.cell hu)⟩, trivial⟩ rfl h
theorem retD {fn : Func} {R : Ending → World → Prop} {tt tc t2 s b T : Nat} {cs : List Value} {v2 : Value} (hr : fn.results = [ResultVar.cell tt tc, ResultVar.tmp t2].toArray) (hd : a.defers = []) (hx : (putsL a l).eval (.tmp tt) = ptr b 0) (ht : aggT P tc = some s) (hl : cs.length = s) (hB : Bx w b T cs) (h2 : (putsL a l).eval (.tmp t2) = v2) (h : R (.returned (.tuple #[.agg cs.toArray, v2])) w) : bodyPost P fn R .ret (putsL a l) w :=
  retN (rs := [.cell tt tc, .tmp t2]) (vs := [.agg cs.toArray, v2]) hr hd ⟨⟨_, hx, run_loadA ht hl (fun j u hu => by rw [Nat.zero_add]; exact hB.cell hu)⟩, ⟨h2, trivial⟩⟩ rfl h
end
section
variable {b L B p : Nat}
theorem sR (h : B ≤ b := by omega) : ∀ k, some b = some k → k < L ∨ B ≤ k := fun k hk => by obtain rfl := Option.some.inj hk; exact .inr h
theorem sO (h : b < L ∨ B ≤ b := by omega) : ∀ k, some b = some k → k < L ∨ B ≤ k := fun k hk => by obtain rfl := Option.some.inj hk; exact h
theorem sP (h : p < L ∨ B ≤ p := by omega) : ∀ k, k = p → k < L ∨ B ≤ k := fun k hk => by subst hk; exact h
theorem sB {c : Nat} (h : b ≠ c := by omega) : some b ≠ some c := fun e => h (Option.some.inj e)
theorem sN {w : World} {c t u : Nat} {cs ds : List Value} (h : Bx w b t cs) (h0 : Bx w c u ds) (hn : t ≠ u := by decide) : some b ≠ some c := fun hh => by
  obtain rfl := Option.some.inj hh
  have := h.symm.trans h0
  simp at this
  exact hn this.2
end
theorem kb2 {w w' : World} {b0 t0 : Nat} {c0 : List Value} {b1 t1 : Nat} {c1 : List Value} (E : w.grownBy w' none) (h0 : Bx w b0 t0 c0) (h1 : Bx w b1 t1 c1) : Bx w' b0 t0 c0 ∧ Bx w' b1 t1 c1 := ⟨h0.keep0 E, h1.keep0 E⟩
theorem kb3 {w w' : World} {b0 t0 : Nat} {c0 : List Value} {b1 t1 : Nat} {c1 : List Value} {b2 t2 : Nat} {c2 : List Value} (E : w.grownBy w' none) (h0 : Bx w b0 t0 c0) (h1 : Bx w b1 t1 c1) (h2 : Bx w b2 t2 c2) : Bx w' b0 t0 c0 ∧ Bx w' b1 t1 c1 ∧ Bx w' b2 t2 c2 := ⟨h0.keep0 E, h1.keep0 E, h2.keep0 E⟩
theorem kb4 {w w' : World} {b0 t0 : Nat} {c0 : List Value} {b1 t1 : Nat} {c1 : List Value} {b2 t2 : Nat} {c2 : List Value} {b3 t3 : Nat} {c3 : List Value} (E : w.grownBy w' none) (h0 : Bx w b0 t0 c0) (h1 : Bx w b1 t1 c1) (h2 : Bx w b2 t2 c2) (h3 : Bx w b3 t3 c3) : Bx w' b0 t0 c0 ∧ Bx w' b1 t1 c1 ∧ Bx w' b2 t2 c2 ∧ Bx w' b3 t3 c3 := ⟨h0.keep0 E, h1.keep0 E, h2.keep0 E, h3.keep0 E⟩
theorem kb5 {w w' : World} {b0 t0 : Nat} {c0 : List Value} {b1 t1 : Nat} {c1 : List Value} {b2 t2 : Nat} {c2 : List Value} {b3 t3 : Nat} {c3 : List Value} {b4 t4 : Nat} {c4 : List Value} (E : w.grownBy w' none) (h0 : Bx w b0 t0 c0) (h1 : Bx w b1 t1 c1) (h2 : Bx w b2 t2 c2) (h3 : Bx w b3 t3 c3) (h4 : Bx w b4 t4 c4) : Bx w' b0 t0 c0 ∧ Bx w' b1 t1 c1 ∧ Bx w' b2 t2 c2 ∧ Bx w' b3 t3 c3 ∧ Bx w' b4 t4 c4 := ⟨h0.keep0 E, h1.keep0 E, h2.keep0 E, h3.keep0 E, h4.keep0 E⟩
theorem kb6 {w w' : World} {b0 t0 : Nat} {c0 : List Value} {b1 t1 : Nat} {c1 : List Value} {b2 t2 : Nat} {c2 : List Value} {b3 t3 : Nat} {c3 : List Value} {b4 t4 : Nat} {c4 : List Value} {b5 t5 : Nat} {c5 : List Value} (E : w.grownBy w' none) (h0 : Bx w b0 t0 c0) (h1 : Bx w b1 t1 c1) (h2 : Bx w b2 t2 c2) (h3 : Bx w b3 t3 c3) (h4 : Bx w b4 t4 c4) (h5 : Bx w b5 t5 c5) : Bx w' b0 t0 c0 ∧ Bx w' b1 t1 c1 ∧ Bx w' b2 t2 c2 ∧ Bx w' b3 t3 c3 ∧ Bx w' b4 t4 c4 ∧ Bx w' b5 t5 c5 := ⟨h0.keep0 E, h1.keep0 E, h2.keep0 E, h3.keep0 E, h4.keep0 E, h5.keep0 E⟩
theorem zx {p : Prop} (h : p := by omega) : p := h
theorem zy {p : Prop} (h : p := by kernel_rfl) : p := h
theorem zz {p : Prop} (h : p := by decide) : p := h
open Go.RowKit in
theorem yE {w w1 w2 : World} (h : Below w.heap.size w w1) (E : w1.grownBy w2 none) : Below w.heap.size w w2 ∧ w1.heap.size ≤ w2.heap.size := ⟨below_step0 h E h.size, E.size⟩
theorem yG {w w1 w2 : World} {F : Nat → Prop} (h : Gr w w1 F) (E : w1.grownBy w2 none) : Gr w w2 F ∧ w1.heap.size ≤ w2.heap.size := ⟨h.step0 E, E.size⟩
theorem yA : type_of% @List.all_cons := @List.all_cons
theorem yB : type_of% @List.all_nil := @List.all_nil
theorem yC : type_of% @Bool.true_and := @Bool.true_and
theorem yD : type_of% @Bool.and_true := @Bool.and_true
theorem zA : type_of% @ev_hit := @ev_hit
theorem zB : type_of% @reg_nil := @reg_nil
theorem zC : type_of% @ev_base := @ev_base
theorem zD : type_of% @op_assign := @op_assign
theorem zE {α : Type} {a b : α} (h : some a = some b) : a = b := Option.some.inj h
theorem zF : type_of% @seq_any := @seq_any
theorem zG : type_of% @op_move := @op_move
theorem zH : type_of% @one_reg := @one_reg
theorem zI : type_of% @Nat.le_of_ble_eq_true := @Nat.le_of_ble_eq_true
theorem zL : type_of% @sl_base := @sl_base
theorem zM : type_of% @op_field := @op_field
theorem zN : type_of% @op_load1 := @op_load1
theorem zO : type_of% @then_ret := @then_ret
theorem zP : type_of% @below_step0 := @below_step0
theorem zQ : type_of% @grown_of_below := @grown_of_below
theorem zR : type_of% @g_false := @g_false
theorem zS : type_of% @g_true := @g_true
theorem zU : type_of% @sl_hit := @sl_hit
theorem zW : type_of% @op_extract := @op_extract
theorem zX : type_of% @op_loadA := @op_loadA
theorem zY : type_of% @op_loadB := @op_loadB
theorem zZ : type_of% @op_storeA := @op_storeA
theorem za : type_of% @op_store := @op_store
theorem zb : type_of% @blk_ret := @blk_ret
theorem zc : type_of% @op_pick_t := @op_pick_t
theorem zd : type_of% @op_pick_f := @op_pick_f
theorem ze : type_of% @op_fn := @op_fn
theorem zf : type_of% @op_build := @op_build
theorem zg : type_of% @loop_next := @loop_next
theorem zh : type_of% @op_index_rd := @op_index_rd
theorem zi : type_of% @Gr.of0 := @Gr.of0
theorem zj : type_of% @op_fnc := @op_fnc
end Go.Gx

namespace Go.Proofs.YthflnkfghogaoaaGreat
open Go.Gx Go.RowKit
attribute [local irreducible] wpList wpStill Code.wp Calls

theorem CloneC (l : List (PCol)) (v : Value) (w : World) (hz : l.length ≤ 1000000000) (hl : RdC w 0 w.heap.size 3 v l.length (l.flatMap cellsC)) : Ret Tryz.prog 48 #[v] w (fun v' w' => Below w.heap.size w w' ∧ Own w' w.heap.size 48 3 v' l.length (l.flatMap cellsC)) := by
 have hb := Below.refl w.heap.size w
 refine enter (N := 8) Tryz.func48 rfl rfl (by simp) fun a hN hd hA => ?_
 have b : a.tmps.getD 0 undef = v := hA 0 (by simp)
 clear hA
 refine zF fun _ a => zH (zD rfl (zB (a _ _ (zF fun _ a => zF fun _ c => zH (zG (zC hN rfl b) ?_)))))
 have hl' := hl.keep0 (zQ hb)
 refine op_eql_nil slt32 (zA hN rfl) rfl hl' (fun g => ?_) ?_
 ·
  refine zB (c _ _ (wp_cond_true (zA hN rfl) (zF fun _ c => zH (zD rfl (zB (c _ _ (wp_ret (zO ( (ret1 rfl hd (zA hN rfl) ⟨_, rfl, ?_⟩))))))))))
  exact ⟨hb, by rw [List.length_eq_zero_iff.1 g]; exact Own.nil _ _ _ _⟩
 refine zB (c _ _ (wp_cond_false (zA hN rfl) (wp_skip (a _ _ (zF fun _ a => zH (op_bslice (e := 48) (pv := []) (cs := []) trivial zy ?_))))))
 intro m h j k c g
 obtain ⟨hb, _⟩ := yE hb g
 refine zG (zC hN rfl b) ?_
 have b := (Own.ofBx (base := w.heap.size) (sz := 3) (n := 0) c rfl zz zx)
 have hl' := hl.keep0 (zQ hb)
 refine op_append slt32 (zA hN rfl) b (zA hN rfl) (Src.ofRd Tryz.underlying32 zz hl' (one_pc _)) (by unfold maxLen; omega) zx hb.size ?_
 intro j h c g k
 have := g.size
 have hb := below_stepO hb b g hb.size zx
 have c : Own h w.heap.size 48 3 j (0 + l.length) ((l).flatMap cellsC) := by simpa [u8v, u16v, sv] using c
 refine zD (zA hN rfl) (zB (a _ _ (wp_ret (ret1 rfl hd (zA hN rfl) ⟨_, rfl, ?_⟩))))
 exact ⟨hb, c.cast (by simp) (by simp)⟩

theorem CloneS (l : List (List UInt8)) (v : Value) (w : World) (hz : l.length ≤ 1000000000) (hl : RdC w 0 w.heap.size 1 v l.length (l.map sv)) : Ret Tryz.prog 49 #[v] w (fun v' w' => Below w.heap.size w w' ∧ Own w' w.heap.size 9 1 v' l.length (l.map sv)) := by
 have hb := Below.refl w.heap.size w
 refine enter (N := 8) Tryz.func49 rfl rfl (by simp) fun a hN hd hA => ?_
 have b : a.tmps.getD 0 undef = v := hA 0 (by simp)
 clear hA
 refine zF fun _ a => zH (zD rfl (zB (a _ _ (zF fun _ a => zF fun _ c => zH (zG (zC hN rfl b) ?_)))))
 have hl' := hl.keep0 (zQ hb)
 refine op_eql_nil slt49 (zA hN rfl) rfl hl' (fun g => ?_) ?_
 ·
  refine zB (c _ _ (wp_cond_true (zA hN rfl) (zF fun _ c => zH (zD rfl (zB (c _ _ (wp_ret (zO ( (ret1 rfl hd (zA hN rfl) ⟨_, rfl, ?_⟩))))))))))
  exact ⟨hb, by rw [List.length_eq_zero_iff.1 g]; exact Own.nil _ _ _ _⟩
 refine zB (c _ _ (wp_cond_false (zA hN rfl) (wp_skip (a _ _ (zF fun _ a => zH (op_bslice (e := 9) (pv := []) (cs := []) trivial zy ?_))))))
 intro k m h j c g
 obtain ⟨hb, _⟩ := yE hb g
 refine zG (zC hN rfl b) ?_
 have b := (Own.ofBx (base := w.heap.size) (sz := 1) (n := 0) c rfl zz zx)
 have hl' := hl.keep0 (zQ hb)
 refine op_append slt49 (zA hN rfl) b (zA hN rfl) (Src.ofRd Tryz.underlying49 zz hl' (one_sv _)) (by unfold maxLen; omega) zx hb.size ?_
 intro j h c g k
 have := g.size
 have hb := below_stepO hb b g hb.size zx
 have c : Own h w.heap.size 9 1 j (0 + l.length) ((l).map sv) := by simpa [u8v, u16v, sv] using c
 refine zD (zA hN rfl) (zB (a _ _ (wp_ret (ret1 rfl hd (zA hN rfl) ⟨_, rfl, ?_⟩))))
 exact ⟨hb, c.cast (by simp) (by simp)⟩

theorem IdxT {L : List DTab} {v : Value} {p : DTab → Bool} {w : World} (hl : RdC w 0 w.heap.size 3 v L.length (L.flatMap cellsT)) {g : Nat} {fs cs : List Value} (hokg : callOk Tryz.prog g = true) (hf : ∀ i, i < L.length → ∀ w1, Below w.heap.size w w1 → Ret Tryz.prog g (fs ++ [(Value.agg #[(Value.string (bs (L.getD i default).t.nm)), (L.getD i default).cv, (L.getD i default).iv])] ++ cs).toArray w1 (fun v' w' => Below w1.heap.size w1 w' ∧ v' = .bool (p (L.getD i default)))) : Ret Tryz.prog 62 #[v, (Value.func (.func g) fs.toArray cs.toArray)] w (fun v' w' => Below w.heap.size w w' ∧ v' = .int .i64 (ixOf p L)) := by
 have hlm := rd_len hl
 have hb := Below.refl w.heap.size w
 refine enter (N := 19) Tryz.func62 rfl rfl (by simp) fun a hN hd hA => ?_
 have b : a.tmps.getD 0 undef = v := hA 0 (by simp)
 have c : a.tmps.getD 1 undef = (.func (.func g) fs.toArray cs.toArray) := hA 1 (by simp)
 clear hA
 refine zF fun _ e => zH (zD rfl (zB (e _ _ (zF fun _ e => zF fun _ a => zH (zG (zC hN rfl b) ?_)))))
 have hl' := hl.keep0 (zQ hb)
 refine op_len_rd Tryz.underlying27 (zA hN rfl) hl' (zG rfl (zB (a _ _ (wp_block (loop_m (fun mz_ az_ w' => ∃ (i : Nat), mz_ = L.length - i ∧ (Sl az_ 0 v) ∧ (Sl az_ 1 (.func (.func g) fs.toArray cs.toArray)) ∧ (Sl az_ 7 (.int .i64 ((L.length : Nat) : Int))) ∧ (Sl az_ 8 (.int .i64 ((i : Nat) : Int))) ∧ (i ≤ L.length) ∧ (∀ j, j < i → p (L.getD j default) = false) ∧ (Below w.heap.size w w') ∧ (w.heap.size ≤ w'.heap.size)) _ hN hd ⟨0, rfl, (zL hN rfl b), (zL hN rfl c), (zU hN rfl), (zU hN rfl), (Nat.zero_le _), (fun _ h => absurd h (Nat.not_lt_zero _)), hb, (Nat.le_refl _)⟩ ?_)))))
 rintro _ s r b c ⟨i, rfl, m, l, o, k, hi, hall, hb, q⟩
 have := hb.size
 refine zF fun _ a => zH (op_lss (zC b rfl k) (zC b rfl o) (fun q => ?_) (fun q => ?_))
 ·
  refine zB (a _ _ (zF fun _ a => wp_cond_true (zA b rfl) (wp_skip (a _ _ (zF fun _ a => wp_block ?_)))))
  refine zF fun _ q => zH (zG (zC b rfl k) (zD (zA b rfl) (zB (q _ _ (zF fun _ q => zH (zG (zC b rfl l) (zG (zC b rfl m) (zG (zA b rfl) ?_))))))))
  have hl' := hl.keep0 (zQ hb)
  refine zh slt27 (zA b rfl) hl' (zA b rfl) zx zx ?_
  intro s t x y r
  refine zX (cs := [(.string (bs (L.getD i default).t.nm)), (L.getD i default).cv, (L.getD i default).iv]) agg51 rfl (zA b rfl) (fun j u hu => r j u (by have := (List.getElem?_eq_some_iff.1 hu).1; simpa using this) ((el_dt (i := i) zx zx) j u hu)) (op_fnv (fs := fs) (vs := [(.agg #[(.string (bs (L.getD i default).t.nm)), (L.getD i default).cv, (L.getD i default).iv])]) (cs := cs) (zA b rfl) hokg ⟨(zA b rfl), trivial⟩ (hf i zx _ hb) ?_)
  rintro _ s ⟨r, rfl⟩
  have r := zQ r
  obtain ⟨hb, _⟩ := yE hb r
  rcases Bool.eq_false_or_eq_true ((p (L.getD i default))) with r | r
  ·
   rw [r]
   refine zB (q _ _ (wp_cond_true (zA b rfl) (zF fun _ q => zH (zG (zA b rfl) (zD (zA b rfl) (zB (q _ _ (wp_ret (zb (zO (zO (zb (zO ( (ret1 rfl c (zA b rfl) ⟨_, rfl, ?_⟩)))))))))))))))
   exact ⟨hb, congrArg (Value.int .i64) (ixOf_hit zx hall r).symm⟩
  rw [r]
  refine zB (q _ _ (wp_cond_false (zA b rfl) (wp_skip (a _ _ (zH (op_add (zC b rfl k) rfl (add64 zx) (zG (zA b rfl) (zB ?_))))))))
  -- round 9T 16F
  exact zg _ b c ⟨(i + 1), rfl, (zL b rfl m), (zL b rfl l), (zL b rfl o), (zU b rfl).trans (congrArg (Value.int .i64) zx), zx, (all_next hall r), hb, zx⟩ zx
 refine zB (a _ _ (zF fun _ a => wp_cond_false (zA b rfl) (wp_exit (then_exit (then_exit (blk_hit (e _ _ (zF fun _ e => zH (zD rfl (zB (e _ _ (wp_ret (ret1 rfl c (zA b rfl) ⟨_, rfl, ?_⟩)))))))))))))
 exact ⟨hb, congrArg (Value.int .i64) (ixOf_none zx hall).symm⟩

theorem IdxC {L : List PCol} {v : Value} {p : PCol → Bool} {w : World} (hl : RdC w 0 w.heap.size 3 v L.length (L.flatMap cellsC)) {g : Nat} {fs cs : List Value} (hokg : callOk Tryz.prog g = true) (hf : ∀ i, i < L.length → ∀ w1, Below w.heap.size w w1 → Ret Tryz.prog g (fs ++ [(Value.agg #[(Value.string (bs (L.getD i default).nm)), (Value.int .i64 (L.getD i default).kind), (Value.string (bs (L.getD i default).ref))])] ++ cs).toArray w1 (fun v' w' => Below w1.heap.size w1 w' ∧ v' = .bool (p (L.getD i default)))) : Ret Tryz.prog 64 #[v, (Value.func (.func g) fs.toArray cs.toArray)] w (fun v' w' => Below w.heap.size w w' ∧ v' = .int .i64 (ixOf p L)) := by
 have hlm := rd_len hl
 have hb := Below.refl w.heap.size w
 refine enter (N := 19) Tryz.func64 rfl rfl (by simp) fun a hN hd hA => ?_
 have b : a.tmps.getD 0 undef = v := hA 0 (by simp)
 have c : a.tmps.getD 1 undef = (.func (.func g) fs.toArray cs.toArray) := hA 1 (by simp)
 clear hA
 refine zF fun _ e => zH (zD rfl (zB (e _ _ (zF fun _ e => zF fun _ a => zH (zG (zC hN rfl b) ?_)))))
 have hl' := hl.keep0 (zQ hb)
 refine op_len_rd Tryz.underlying32 (zA hN rfl) hl' (zG rfl (zB (a _ _ (wp_block (loop_m (fun mz_ az_ w' => ∃ (i : Nat), mz_ = L.length - i ∧ (Sl az_ 0 v) ∧ (Sl az_ 1 (.func (.func g) fs.toArray cs.toArray)) ∧ (Sl az_ 7 (.int .i64 ((L.length : Nat) : Int))) ∧ (Sl az_ 8 (.int .i64 ((i : Nat) : Int))) ∧ (i ≤ L.length) ∧ (∀ j, j < i → p (L.getD j default) = false) ∧ (Below w.heap.size w w') ∧ (w.heap.size ≤ w'.heap.size)) _ hN hd ⟨0, rfl, (zL hN rfl b), (zL hN rfl c), (zU hN rfl), (zU hN rfl), (Nat.zero_le _), (fun _ h => absurd h (Nat.not_lt_zero _)), hb, (Nat.le_refl _)⟩ ?_)))))
 rintro _ q r b k ⟨i, rfl, m, l, o, c, hi, hall, hb, s⟩
 have := hb.size
 refine zF fun _ a => zH (op_lss (zC b rfl c) (zC b rfl o) (fun q => ?_) (fun q => ?_))
 ·
  refine zB (a _ _ (zF fun _ a => wp_cond_true (zA b rfl) (wp_skip (a _ _ (zF fun _ a => wp_block ?_)))))
  refine zF fun _ q => zH (zG (zC b rfl c) (zD (zA b rfl) (zB (q _ _ (zF fun _ q => zH (zG (zC b rfl l) (zG (zC b rfl m) (zG (zA b rfl) ?_))))))))
  have hl' := hl.keep0 (zQ hb)
  refine zh slt32 (zA b rfl) hl' (zA b rfl) zx zx ?_
  intro y t s x r
  refine zX (cs := [(.string (bs (L.getD i default).nm)), (.int .i64 (L.getD i default).kind), (.string (bs (L.getD i default).ref))]) agg48 rfl (zA b rfl) (fun j u hu => r j u (by have := (List.getElem?_eq_some_iff.1 hu).1; simpa using this) ((el_pc (i := i) zx zx) j u hu)) (op_fnv (fs := fs) (vs := [(.agg #[(.string (bs (L.getD i default).nm)), (.int .i64 (L.getD i default).kind), (.string (bs (L.getD i default).ref))])]) (cs := cs) (zA b rfl) hokg ⟨(zA b rfl), trivial⟩ (hf i zx _ hb) ?_)
  rintro _ s ⟨r, rfl⟩
  have r := zQ r
  obtain ⟨hb, _⟩ := yE hb r
  rcases Bool.eq_false_or_eq_true ((p (L.getD i default))) with r | r
  ·
   rw [r]
   refine zB (q _ _ (wp_cond_true (zA b rfl) (zF fun _ q => zH (zG (zA b rfl) (zD (zA b rfl) (zB (q _ _ (wp_ret (zb (zO (zO (zb (zO ( (ret1 rfl k (zA b rfl) ⟨_, rfl, ?_⟩)))))))))))))))
   exact ⟨hb, congrArg (Value.int .i64) (ixOf_hit zx hall r).symm⟩
  rw [r]
  refine zB (q _ _ (wp_cond_false (zA b rfl) (wp_skip (a _ _ (zH (op_add (zC b rfl c) rfl (add64 zx) (zG (zA b rfl) (zB ?_))))))))
  -- round 9T 16F
  exact zg _ b k ⟨(i + 1), rfl, (zL b rfl m), (zL b rfl l), (zL b rfl o), (zU b rfl).trans (congrArg (Value.int .i64) zx), zx, (all_next hall r), hb, zx⟩ zx
 refine zB (a _ _ (zF fun _ a => wp_cond_false (zA b rfl) (wp_exit (then_exit (then_exit (blk_hit (e _ _ (zF fun _ e => zH (zD rfl (zB (e _ _ (wp_ret (ret1 rfl k (zA b rfl) ⟨_, rfl, ?_⟩)))))))))))))
 exact ⟨hb, congrArg (Value.int .i64) (ixOf_none zx hall).symm⟩

theorem ofTable_ret (d : DTab) (w : World) : Ret Tryz.prog 38 #[(.agg #[(.string (bs d.t.nm)), d.cv, d.iv])] w (fun v' w' => Below w.heap.size w w' ∧ v' = .string (bs d.t.nm)) := by
 have hb := Below.refl w.heap.size w
 refine enter (N := 5) Tryz.func38 rfl rfl (by simp) fun a hN hd hA => ?_
 have b : a.tmps.getD 0 undef = (.agg #[(.string (bs d.t.nm)), d.cv, d.iv]) := hA 0 (by simp)
 clear hA
 refine zF fun _ a => zH (op_box (cs := [(.string (bs d.t.nm)), d.cv, d.iv]) (zC hN rfl b) rfl ?_)
 intro g e j h b c
 obtain ⟨hb, _⟩ := yE hb c
 refine zD rfl (zB (a _ _ (zF fun _ a => zH (zM fld51_0 (zA hN rfl) (zN one9 (zA hN rfl) (b.cell rfl) (zD (zA hN rfl) (zB (a _ _ (wp_ret (ret1 rfl hd (zA hN rfl) ⟨_, rfl, ?_⟩))))))))))
 exact ⟨hb, rfl⟩

theorem ofCol_ret (d : PCol) (w : World) : Ret Tryz.prog 40 #[(.agg #[(.string (bs d.nm)), (.int .i64 d.kind), (.string (bs d.ref))])] w (fun v' w' => Below w.heap.size w w' ∧ v' = .string (bs d.nm)) := by
 have hb := Below.refl w.heap.size w
 refine enter (N := 5) Tryz.func40 rfl rfl (by simp) fun a hN hd hA => ?_
 have b : a.tmps.getD 0 undef = (.agg #[(.string (bs d.nm)), (.int .i64 d.kind), (.string (bs d.ref))]) := hA 0 (by simp)
 clear hA
 refine zF fun _ a => zH (op_box (cs := [(.string (bs d.nm)), (.int .i64 d.kind), (.string (bs d.ref))]) (zC hN rfl b) rfl ?_)
 intro g j e h b c
 obtain ⟨hb, _⟩ := yE hb c
 refine zD rfl (zB (a _ _ (zF fun _ a => zH (zM fld48_0 (zA hN rfl) (zN one9 (zA hN rfl) (b.cell rfl) (zD (zA hN rfl) (zB (a _ _ (wp_ret (ret1 rfl hd (zA hN rfl) ⟨_, rfl, ?_⟩))))))))))
 exact ⟨hb, rfl⟩

theorem find1Table (d : DTab) (x : List UInt8) {fb nb : Nat} {w : World} (hf9 : Bx w fb 79 [.func (.func 38) #[] #[]]) (hn9 : Bx w nb 9 [.string (bs x)]) : Ret Tryz.prog 63 #[(.agg #[(.string (bs d.t.nm)), d.cv, d.iv]), (ptr fb 0), (ptr nb 0)] w (fun v' w' => Below w.heap.size w w' ∧ v' = .bool (decide (d.t.nm = x))) := by
 have hb := Below.refl w.heap.size w
 refine enter (N := 10) Tryz.func63 rfl rfl (by simp) fun a hN hd hA => ?_
 have b : a.tmps.getD 0 undef = (.agg #[(.string (bs d.t.nm)), d.cv, d.iv]) := hA 0 (by simp)
 have c : a.tmps.getD 1 undef = (ptr fb 0) := hA 1 (by simp)
 have e : a.tmps.getD 2 undef = (ptr nb 0) := hA 2 (by simp)
 clear hA
 refine zF fun _ a => zH (op_box (cs := [(.string (bs d.t.nm)), d.cv, d.iv]) (zC hN rfl b) rfl ?_)
 intro l j m k b g
 obtain ⟨hb, _⟩ := yE hb g
 have hf9 := hf9.keep0 g
 have hn9 := hn9.keep0 g
 refine zD rfl (zB (a _ _ (zF fun _ a => reg_split (hd := [_, _, _, _]) (tl := _) 4 mixed zy rfl rfl (any_tree (φ := phiV [(fun uz => uz = (.func (.func 38) #[] #[])), (fun uz => uz = (.agg #[(.string (bs d.t.nm)), d.cv, d.iv])), (fun _ => True), (fun uz => uz = (.string (bs x)))]) (G := fun w' => Bx w' fb 79 [(.func (.func 38) #[] #[])] ∧ Bx w' j 51 [(.string (bs d.t.nm)), d.cv, d.iv] ∧ Bx w' nb 9 [(.string (bs x))]) [2] zy zy zy zy zy hN (fun m o E h => by obtain ⟨g, l, k⟩ := h; exact ⟨g.keep0 E, l.keep0 E, k.keep0 E⟩) ⟨hf9, b, hn9⟩ (ObRs9.cons ?_ (ObRs9.cons ?_ (ObRs9.pass rfl (ObRs9.cons ?_ (ObRs9.nil))))) (by simp only [putsL_defers]) ?_))))
 ·
  intro eA aA wA hNA hGA hbsA hdpA
  have g := (hbsA 1 rfl).trans (zL hN rfl c)
  obtain ⟨hf9, b, hn9⟩ := hGA
  refine zN one79 (zC hNA rfl g) (hf9.cell rfl) ?_
  exact obT_end rfl rfl
 ·
  intro eA aA wA hNA hGA hbsA hdpA
  have c := (hbsA 3 rfl).trans (zU hN rfl)
  obtain ⟨hf9, b, hn9⟩ := hGA
  refine zY agg51 rfl (zC hNA rfl c) b ?_
  exact obT_end rfl rfl
 ·
  intro eA aA wA hNA hGA hbsA hdpA
  have c := (hbsA 2 rfl).trans (zL hN rfl e)
  obtain ⟨hf9, b, hn9⟩ := hGA
  refine zN one9 (zC hNA rfl c) (hn9.cell rfl) ?_
  exact obT_end rfl rfl
 refine kt_step (rs := [2]) zy (one_mem ?_)
 intro k c _ g j l e o_ ho_; obtain rfl := zE ho_
 obtain ⟨hb, _⟩ := yE hb c
 have k : Sl g 5 (.func (.func 38) #[] #[]) := (e 0 _ 5 zy rfl rfl).2 rfl
 have l : Sl g 6 (.agg #[(.string (bs d.t.nm)), d.cv, d.iv]) := (e 1 _ 6 zy rfl rfl).2 rfl
 refine op_fnv (fs := []) (vs := [(.agg #[(.string (bs d.t.nm)), d.cv, d.iv])]) (cs := []) (zC j rfl k) ok38 ⟨(zC j rfl l), trivial⟩ (ofTable_ret d _) ?_
 rintro _ g ⟨e, rfl⟩
 have e := zQ e
 obtain ⟨hb, _⟩ := yE hb e
 have hf9 := (hf9.keep0 c).keep0 e
 have hn9 := (hn9.keep0 c).keep0 e
 have b := (b.keep0 c).keep0 e
 refine kt_end rfl ⟨hf9, b, hn9⟩ ?_
 intro l g j b c k e
 have c := c.trans ((by simp only [putsL_defers] : _ = _).trans hd)
 obtain ⟨hb, _⟩ := yE hb g
 have hn9 := hn9.keep0 g
 have g : Sl j 7 (.string (bs d.t.nm)) := (zE ((e 2 _ 7 rfl rfl).1 rfl)).symm
 have k : Sl j 8 (.string (bs x)) := (e 3 _ 8 rfl rfl).2 rfl
 refine split_end (from_seq (tl := [_, _]) zz zy rfl (op_seql (zC b rfl g) (zC b rfl k) (fun e => ?_) (fun e => ?_)))
 ·
  refine zD (zA b rfl) (zB (a _ _ (wp_ret (ret1 rfl c (zA b rfl) ⟨_, rfl, ?_⟩))))
  exact ⟨hb, congrArg Value.bool (decide_eq_true e).symm⟩
 refine zD (zA b rfl) (zB (a _ _ (wp_ret (ret1 rfl c (zA b rfl) ⟨_, rfl, ?_⟩))))
 exact ⟨hb, congrArg Value.bool (decide_eq_false e).symm⟩

theorem findTable {L : List DTab} {v : Value} (x : List UInt8) {w : World} (hl : RdC w 0 w.heap.size 3 v L.length (L.flatMap cellsT)) : Ret Tryz.prog 37 #[v, (.string (bs x)), (.func (.func 38) #[] #[])] w (fun v' w' => Below w.heap.size w w' ∧ v' = .int .i64 (ixOf (fun d => decide (d.t.nm = x)) L)) := by
 have hb := Below.refl w.heap.size w
 refine enter (N := 10) Tryz.func37 rfl rfl (by simp) fun a hN hd hA => ?_
 have b : a.tmps.getD 0 undef = v := hA 0 (by simp)
 have c : a.tmps.getD 1 undef = (.string (bs x)) := hA 1 (by simp)
 have e : a.tmps.getD 2 undef = (.func (.func 38) #[] #[]) := hA 2 (by simp)
 clear hA
 refine zF fun _ a => zH (op_box (cs := [(.string (bs x))]) (zC hN rfl c) rfl ?_)
 intro l h k m c j
 obtain ⟨hb, _⟩ := yE hb j
 refine op_box (cs := [(.func (.func 38) #[] #[])]) (zC hN rfl e) rfl ?_
 intro l j m o k e
 obtain ⟨hb, _⟩ := yE hb e
 have c := c.keep0 e
 refine zD rfl (zB (a _ _ (zF fun _ a => zH (zG (zC hN rfl b) (op_mkfn (cv := [(ptr j 0), (ptr h 0)]) ⟨(zA hN rfl), ⟨(zA hN rfl), trivial⟩⟩ ?_)))))
 have hl' := hl.keep0 (zQ hb)
 refine zj ok62 (IdxT (g := 63) (fs := []) (cs := [(ptr j 0), (ptr h 0)]) (p := (fun d => decide (d.t.nm = x))) (hl'.mono (Nat.zero_le _) zx) ok63 (fun i hi e b => find1Table (L.getD i default) x (k.keep0 (zQ b)) (c.keep0 (zQ b)))) ⟨(zA hN rfl), ⟨(zA hN rfl), trivial⟩⟩ ?_
 rintro _ c ⟨b, rfl⟩
 have b := zQ b
 obtain ⟨hb, _⟩ := yE hb b
 refine zD (zA hN rfl) (zB (a _ _ (wp_ret (ret1 rfl hd (zA hN rfl) ⟨_, rfl, ?_⟩))))
 exact ⟨hb, rfl⟩

theorem find1Col (d : PCol) (x : List UInt8) {fb nb : Nat} {w : World} (hf9 : Bx w fb 81 [.func (.func 40) #[] #[]]) (hn9 : Bx w nb 9 [.string (bs x)]) : Ret Tryz.prog 65 #[(.agg #[(.string (bs d.nm)), (.int .i64 d.kind), (.string (bs d.ref))]), (ptr fb 0), (ptr nb 0)] w (fun v' w' => Below w.heap.size w w' ∧ v' = .bool (decide (d.nm = x))) := by
 have hb := Below.refl w.heap.size w
 refine enter (N := 10) Tryz.func65 rfl rfl (by simp) fun a hN hd hA => ?_
 have b : a.tmps.getD 0 undef = (.agg #[(.string (bs d.nm)), (.int .i64 d.kind), (.string (bs d.ref))]) := hA 0 (by simp)
 have c : a.tmps.getD 1 undef = (ptr fb 0) := hA 1 (by simp)
 have e : a.tmps.getD 2 undef = (ptr nb 0) := hA 2 (by simp)
 clear hA
 refine zF fun _ a => zH (op_box (cs := [(.string (bs d.nm)), (.int .i64 d.kind), (.string (bs d.ref))]) (zC hN rfl b) rfl ?_)
 intro k j l m b g
 obtain ⟨hb, _⟩ := yE hb g
 have hf9 := hf9.keep0 g
 have hn9 := hn9.keep0 g
 refine zD rfl (zB (a _ _ (zF fun _ a => reg_split (hd := [_, _, _, _]) (tl := _) 4 mixed zy rfl rfl (any_tree (φ := phiV [(fun uz => uz = (.func (.func 40) #[] #[])), (fun uz => uz = (.agg #[(.string (bs d.nm)), (.int .i64 d.kind), (.string (bs d.ref))])), (fun _ => True), (fun uz => uz = (.string (bs x)))]) (G := fun w' => Bx w' fb 81 [(.func (.func 40) #[] #[])] ∧ Bx w' j 48 [(.string (bs d.nm)), (.int .i64 d.kind), (.string (bs d.ref))] ∧ Bx w' nb 9 [(.string (bs x))]) [2] zy zy zy zy zy hN (fun m o E h => by obtain ⟨g, l, k⟩ := h; exact ⟨g.keep0 E, l.keep0 E, k.keep0 E⟩) ⟨hf9, b, hn9⟩ (ObRs9.cons ?_ (ObRs9.cons ?_ (ObRs9.pass rfl (ObRs9.cons ?_ (ObRs9.nil))))) (by simp only [putsL_defers]) ?_))))
 ·
  intro eA aA wA hNA hGA hbsA hdpA
  have g := (hbsA 1 rfl).trans (zL hN rfl c)
  obtain ⟨hf9, b, hn9⟩ := hGA
  refine zN one81 (zC hNA rfl g) (hf9.cell rfl) ?_
  exact obT_end rfl rfl
 ·
  intro eA aA wA hNA hGA hbsA hdpA
  have c := (hbsA 3 rfl).trans (zU hN rfl)
  obtain ⟨hf9, b, hn9⟩ := hGA
  refine zY agg48 rfl (zC hNA rfl c) b ?_
  exact obT_end rfl rfl
 ·
  intro eA aA wA hNA hGA hbsA hdpA
  have c := (hbsA 2 rfl).trans (zL hN rfl e)
  obtain ⟨hf9, b, hn9⟩ := hGA
  refine zN one9 (zC hNA rfl c) (hn9.cell rfl) ?_
  exact obT_end rfl rfl
 refine kt_step (rs := [2]) zy (one_mem ?_)
 intro l c _ g j k e o_ ho_; obtain rfl := zE ho_
 obtain ⟨hb, _⟩ := yE hb c
 have k : Sl g 5 (.func (.func 40) #[] #[]) := (e 0 _ 5 zy rfl rfl).2 rfl
 have l : Sl g 6 (.agg #[(.string (bs d.nm)), (.int .i64 d.kind), (.string (bs d.ref))]) := (e 1 _ 6 zy rfl rfl).2 rfl
 refine op_fnv (fs := []) (vs := [(.agg #[(.string (bs d.nm)), (.int .i64 d.kind), (.string (bs d.ref))])]) (cs := []) (zC j rfl k) ok40 ⟨(zC j rfl l), trivial⟩ (ofCol_ret d _) ?_
 rintro _ g ⟨e, rfl⟩
 have e := zQ e
 obtain ⟨hb, _⟩ := yE hb e
 have hf9 := (hf9.keep0 c).keep0 e
 have hn9 := (hn9.keep0 c).keep0 e
 have b := (b.keep0 c).keep0 e
 refine kt_end rfl ⟨hf9, b, hn9⟩ ?_
 intro k g j b c l e
 have c := c.trans ((by simp only [putsL_defers] : _ = _).trans hd)
 obtain ⟨hb, _⟩ := yE hb g
 have hn9 := hn9.keep0 g
 have g : Sl j 7 (.string (bs d.nm)) := (zE ((e 2 _ 7 rfl rfl).1 rfl)).symm
 have k : Sl j 8 (.string (bs x)) := (e 3 _ 8 rfl rfl).2 rfl
 refine split_end (from_seq (tl := [_, _]) zz zy rfl (op_seql (zC b rfl g) (zC b rfl k) (fun e => ?_) (fun e => ?_)))
 ·
  refine zD (zA b rfl) (zB (a _ _ (wp_ret (ret1 rfl c (zA b rfl) ⟨_, rfl, ?_⟩))))
  exact ⟨hb, congrArg Value.bool (decide_eq_true e).symm⟩
 refine zD (zA b rfl) (zB (a _ _ (wp_ret (ret1 rfl c (zA b rfl) ⟨_, rfl, ?_⟩))))
 exact ⟨hb, congrArg Value.bool (decide_eq_false e).symm⟩

theorem findCol {L : List PCol} {v : Value} (x : List UInt8) {w : World} (hl : RdC w 0 w.heap.size 3 v L.length (L.flatMap cellsC)) : Ret Tryz.prog 39 #[v, (.string (bs x)), (.func (.func 40) #[] #[])] w (fun v' w' => Below w.heap.size w w' ∧ v' = .int .i64 (ixOf (fun d => decide (d.nm = x)) L)) := by
 have hb := Below.refl w.heap.size w
 refine enter (N := 10) Tryz.func39 rfl rfl (by simp) fun a hN hd hA => ?_
 have b : a.tmps.getD 0 undef = v := hA 0 (by simp)
 have c : a.tmps.getD 1 undef = (.string (bs x)) := hA 1 (by simp)
 have e : a.tmps.getD 2 undef = (.func (.func 40) #[] #[]) := hA 2 (by simp)
 clear hA
 refine zF fun _ a => zH (op_box (cs := [(.string (bs x))]) (zC hN rfl c) rfl ?_)
 intro m h k l c j
 obtain ⟨hb, _⟩ := yE hb j
 refine op_box (cs := [(.func (.func 40) #[] #[])]) (zC hN rfl e) rfl ?_
 intro m e o l k j
 obtain ⟨hb, _⟩ := yE hb j
 have c := c.keep0 j
 refine zD rfl (zB (a _ _ (zF fun _ a => zH (zG (zC hN rfl b) (op_mkfn (cv := [(ptr e 0), (ptr h 0)]) ⟨(zA hN rfl), ⟨(zA hN rfl), trivial⟩⟩ ?_)))))
 have hl' := hl.keep0 (zQ hb)
 refine zj ok64 (IdxC (g := 65) (fs := []) (cs := [(ptr e 0), (ptr h 0)]) (p := (fun d => decide (d.nm = x))) (hl'.mono (Nat.zero_le _) zx) ok65 (fun i hi j b => find1Col (L.getD i default) x (k.keep0 (zQ b)) (c.keep0 (zQ b)))) ⟨(zA hN rfl), ⟨(zA hN rfl), trivial⟩⟩ ?_
 rintro _ c ⟨b, rfl⟩
 have b := zQ b
 obtain ⟨hb, _⟩ := yE hb b
 refine zD (zA hN rfl) (zB (a _ _ (wp_ret (ret1 rfl hd (zA hN rfl) ⟨_, rfl, ?_⟩))))
 exact ⟨hb, rfl⟩
def CopyX (e : XE) : Prop := ∀ ⦃w : World⦄, XFr w 0 w.heap.size e → Ret Tryz.prog 72 #[(Value.agg #[(Value.int .i64 e.op), (Value.int .i64 e.vk), (Value.int .i64 e.vi), (Value.string (bs e.vt)), (Value.string (bs e.tb)), (Value.string (bs e.nm)), e.av])] w (fun v' w' => Below w.heap.size w w' ∧ ∃ e2 : XE, v' = (Value.agg #[(Value.int .i64 e2.op), (Value.int .i64 e2.vk), (Value.int .i64 e2.vi), (Value.string (bs e2.vt)), (Value.string (bs e2.tb)), (Value.string (bs e2.nm)), e2.av]) ∧ XFr w' w.heap.size w'.heap.size e2 ∧ XSame e e2)

theorem twinsX {v : Value} {E : List XE} {w : World} (ih : ∀ a ∈ E, CopyX a) (hX : XsFr w 0 w.heap.size v E) : Ret Tryz.prog 71 #[v, (.func (.func 72) #[] #[])] w (fun v' w' => Below w.heap.size w w' ∧ ∃ E2 : List XE, XsFr w' w.heap.size w'.heap.size v' E2 ∧ XsSame E E2) := by
 have hR := hX.1
 have hlm := hX.3
 have hb := Below.refl w.heap.size w
 refine enter (N := 22) Tryz.func71 rfl rfl (by simp) fun b hN hd hA => ?_
 have c : b.tmps.getD 0 undef = v := hA 0 (by simp)
 have g : b.tmps.getD 1 undef = (.func (.func 72) #[] #[]) := hA 1 (by simp)
 clear hA
 refine zF fun _ b => zH ?_
 refine zD rfl (zB (b _ _ (zF fun _ b => zH (zD rfl (zB (b _ _ (zF fun _ b => zF fun _ l => zH (zG (zC hN rfl c) ?_))))))))
 have hR' := hR.keep0 (zQ hb)
 refine op_len_rd Tryz.underlying33 (zA hN rfl) hR' (zG rfl (zB (l _ _ (wp_block (loop_m (fun mz_ az_ w' => ∃ (i : Nat) (c : Value) (E2 : List XE) (F0S : Nat → Prop), mz_ = E.length - i ∧ (Sl az_ 1 (.func (.func 72) #[] #[])) ∧ (Sl az_ 4 (.slice none 0 0)) ∧ (Sl az_ 8 v) ∧ (Sl az_ 9 (.int .i64 ((E.length : Nat) : Int))) ∧ (Sl az_ 10 (.int .i64 ((i : Nat) : Int))) ∧ (Sl az_ 5 c) ∧ (i ≤ E.length) ∧ (E2.length = i) ∧ (∀ j, j < i → XSame (E.getD j default) (E2.getD j default)) ∧ (Dj (Bl c) F0S) ∧ (Below w.heap.size w w') ∧ (w.heap.size ≤ w'.heap.size) ∧ (XsIn w' w.heap.size E2 F0S) ∧ (Own w' w.heap.size 89 7 c E2.length (E2.flatMap cellsX))) _ hN hd ⟨0, (.slice none 0 0), [], NoB, rfl, (zL hN rfl g), (zU hN rfl), (zU hN rfl), (zU hN rfl), (zU hN rfl), (zU hN rfl), (Nat.zero_le _), rfl, (fun _ h => absurd h (Nat.not_lt_zero _)), (Dj.nil _).symm, hb, (Nat.le_refl _), (XsIn.nil _ _), (Own.nil _ _ _ _)⟩ ?_)))))
 rintro _ z A g s ⟨i, c, E2, F0S, rfl, x, y, t, q, o, r, hi, p, hS, hdj, hb, B, hA, m⟩
 have := hb.size
 refine zF fun _ l => zH (op_lss (zC g rfl o) (zC g rfl q) (fun z => ?_) (fun z => ?_))
 ·
  refine zB (l _ _ (zF fun _ l => wp_cond_true (zA g rfl) (wp_skip (l _ _ (zF fun _ l => wp_block (zF fun _ z => zH ?_))))))
  have hR' := hR.keep0 (zQ hb)
  refine zh slt33 (zC g rfl t) hR' (zC g rfl o) zx zx ?_
  intro C B D F A
  refine zX (cs := [(.int .i64 (E.getD i default).op), (.int .i64 (E.getD i default).vk), (.int .i64 (E.getD i default).vi), (.string (bs (E.getD i default).vt)), (.string (bs (E.getD i default).tb)), (.string (bs (E.getD i default).nm)), (E.getD i default).av]) agg89 rfl (zA g rfl) (fun j u hu => A j u (by have := (List.getElem?_eq_some_iff.1 hu).1; simpa using this) ((el_xe (i := i) zx zx) j u hu)) (op_alloc (cs := [(.int .i64 0), (.int .i64 0), (.int .i64 0), (.string (bs [])), (.string (bs [])), (.string (bs [])), (.slice none 0 0)]) zero89 rfl ?_)
  intro F C D G A B
  have D : ¬ F0S C := fun hf => by have := (hA.lt _ hf).2; omega
  have F : c.ownBlock ≠ some C := fun hh => by have := (m.lt _ hh).2; omega
  obtain ⟨hb, _⟩ := yE hb B
  have hX' := hX.keep0 (zQ hb)
  refine zZ size89 (zA g rfl) (zA g rfl) rfl (by simp only [yA, yB, yC, yD, (hX'.2 (E.getD i default) (getD_mem zx)).list.1.one]; try rfl) A rfl ?_
  intro G A C
  have := C.size
  have hA := (hA.kz B).keepG (Gr.of C) (Dj.one D)
  have m := (m.keep0 B).keep C (.inr F)
  have hb := below_step1 hb C hb.size zx
  refine zB (z _ _ (zH (zG (zC g rfl r) (zG (zC g rfl x) (zY agg89 rfl (zA g rfl) A ?_)))))
  have hX' := hX.keep0 (zQ hb)
  refine op_fnv (fs := []) (vs := [(.agg #[(.int .i64 (E.getD i default).op), (.int .i64 (E.getD i default).vk), (.int .i64 (E.getD i default).vi), (.string (bs (E.getD i default).vt)), (.string (bs (E.getD i default).tb)), (.string (bs (E.getD i default).nm)), (E.getD i default).av])]) (cs := []) (zA g rfl) ok72 ⟨(zA g rfl), trivial⟩ (ih _ (getD_mem zx) ((hX'.2 _ (getD_mem zx)).mono (Nat.zero_le _) zx)) ?_
  rintro _ C ⟨B, z, rfl, A, D⟩
  have F := fun k hk => (m.lt k hk).2
  have H : ∀ k, c.ownBlock = some k → k < G.heap.size ∨ C.heap.size ≤ k := fun k hk => .inl (F k hk)
  have B := zQ B
  obtain ⟨hb, _⟩ := yE hb B
  have hA := hA.kz B
  refine op_bslice (e := 89) (pv := [(0, (.agg #[(.int .i64 z.op), (.int .i64 z.vk), (.int .i64 z.vi), (.string (bs z.vt)), (.string (bs z.tb)), (.string (bs z.nm)), z.av]))]) (cs := [(.int .i64 z.op), (.int .i64 z.vk), (.int .i64 z.vi), (.string (bs z.vt)), (.string (bs z.tb)), (.string (bs z.nm)), z.av]) ⟨rfl, (zA g rfl), trivial⟩ zy ?_
  intro G I J K C c
  obtain ⟨hb, _⟩ := yE hb c
  have hA := hA.kz c
  have m := (m.keep0 B).keep0 c
  have A := A.keep0 c
  have c := m
  refine op_append slt33 (zA g rfl) c (zA g rfl) (Src.ofRd Tryz.underlying33 zz (RdC.ofBx (sz := 7) (n := 1) C rfl zz) (by simp only [yA, yB, yC, yD, A.list.1.one]; try rfl)) (by unfold maxLen; omega) zx hb.size ?_
  intro C J G B I
  have K : Dj F0S (Bl C) := Dj.step I (fun k hk => (hA.lt k hk).2) hdj.symm
  have := B.size
  have hA := hA.keepG (Gr.of B) hdj.symm
  have A := A.keep B H
  have hb := below_stepO hb c B hb.size zx
  have G : Own J w.heap.size 89 7 C (E2.length + 1) ((E2.flatMap cellsX ++ [(.int .i64 z.op), (.int .i64 z.vk), (.int .i64 z.vi), (.string (bs z.vt)), (.string (bs z.tb)), (.string (bs z.nm)), z.av])) := by simpa [u8v, u16v, sv, cellsI, cellsC, cellsX, cellsS] using G
  refine zD (zA g rfl) (zB (l _ _ (zH (op_add (zC g rfl o) rfl (add64 zx) (zG (zA g rfl) (zB ?_))))))
  -- round 11T
  exact zg _ g s ⟨(i + 1), C, (E2 ++ [z]), _, rfl, (zL g rfl x), (zL g rfl y), (zL g rfl t), (zL g rfl q), (zU g rfl).trans (congrArg (Value.int .i64) zx), (zU g rfl), zx, (by simp; omega), (same_next p hS D), (dj_app K I F zx), hb, zx, (hA.snoc (a := z) A zx zx), (G.cast (by simp) (by simp [cellsX, cellsS]))⟩ zx
 refine zB (l _ _ (zF fun _ l => wp_cond_false (zA g rfl) (wp_exit (then_exit (then_exit (blk_hit (b _ _ (zF fun _ b => zH (zG (zC g rfl r) (zD (zA g rfl) (zB (b _ _ (wp_ret (ret1 rfl s (zA g rfl) ⟨_, rfl, ?_⟩))))))))))))))
 obtain rfl : i = E.length := by omega
 exact ⟨hb, E2, hA.fr zx m, p.symm, hS⟩

theorem CopyX_in (e : XE) {w : World} (ih : ∀ a ∈ e.args, CopyX a) (he : XFr w 0 w.heap.size e) : Ret Tryz.prog 72 #[(.agg #[(.int .i64 e.op), (.int .i64 e.vk), (.int .i64 e.vi), (.string (bs e.vt)), (.string (bs e.tb)), (.string (bs e.nm)), e.av])] w (fun v' w' => Below w.heap.size w w' ∧ ∃ e2 : XE, v' = (.agg #[(.int .i64 e2.op), (.int .i64 e2.vk), (.int .i64 e2.vi), (.string (bs e2.vt)), (.string (bs e2.tb)), (.string (bs e2.nm)), e2.av]) ∧ XFr w' w.heap.size w'.heap.size e2 ∧ XSame e e2) := by
 have hX := he.list
 have hR := hX.1
 have hb := Below.refl w.heap.size w
 refine enter (N := 8) Tryz.func72 rfl rfl (by simp) fun b hN hd hA => ?_
 have c : b.tmps.getD 0 undef = (.agg #[(.int .i64 e.op), (.int .i64 e.vk), (.int .i64 e.vi), (.string (bs e.vt)), (.string (bs e.tb)), (.string (bs e.nm)), e.av]) := hA 0 (by simp)
 clear hA
 refine zF fun _ b => zH (op_box (cs := [(.int .i64 e.op), (.int .i64 e.vk), (.int .i64 e.vi), (.string (bs e.vt)), (.string (bs e.tb)), (.string (bs e.nm)), e.av]) (zC hN rfl c) rfl ?_)
 intro j k l h c g
 obtain ⟨hb, _⟩ := yE hb g
 refine op_alloc (cs := [(.int .i64 0), (.int .i64 0), (.int .i64 0), (.string (bs [])), (.string (bs [])), (.string (bs [])), (.slice none 0 0)]) zero89 rfl ?_
 intro k j l m g h
 obtain ⟨hb, _⟩ := yE hb h
 have c := c.keep0 h
 refine zB (b _ _ (zF fun _ b => zH (zM fld89_4 (zA hN rfl) (zN one33 (zA hN rfl) (c.cell rfl) ?_))))
 have hX' := hX.keep0 (zQ hb)
 refine zj ok71 (twinsX ih (hX'.mono (Nat.zero_le _) zx)) ⟨(zA hN rfl), ⟨rfl, trivial⟩⟩ ?_
 rintro k o ⟨j, l, h, m⟩
 have j := zQ j
 obtain ⟨hb, _⟩ := yE hb j
 have c := c.keep0 j
 refine zM fld89_4 (zA hN rfl) (za (vs := [k]) (cs' := [(.int .i64 e.op), (.int .i64 e.vk), (.int .i64 e.vi), (.string (bs e.vt)), (.string (bs e.tb)), (.string (bs e.nm)), k]) size33 (zA hN rfl) (zA hN rfl) h.1.cl rfl (by simp only [yA, yB, yC, yD, h.1.one]; try rfl) c (zI rfl) rfl ?_)
 intro p c o
 have := o.size
 have g := (g.keep0 j).keep o sB
 have h := h.keep o sO
 have hb := below_step1 hb o hb.size zx
 refine zB (b _ _ (zF fun _ b => zH (zY agg89 rfl (zA hN rfl) c (zZ size89 (zA hN rfl) (zA hN rfl) rfl (by simp only [yA, yB, yC, yD, h.1.one]; try rfl) g rfl ?_))))
 intro j g c
 have := c.size
 have h := h.keep c sO
 have hb := below_step1 hb c hb.size zx
 refine zB (b _ _ (wp_ret (retC rfl hd (zA hN rfl) agg89 rfl g ⟨_, rfl, ?_⟩)))
 exact ⟨hb, (XE.mk e.op e.vk e.vi e.vt e.tb e.nm k l), rfl, XsFr.node (x := (XE.mk e.op e.vk e.vi e.vt e.tb e.nm k l)) (h.mono zx zx), .mk ⟨rfl, rfl, rfl, rfl, rfl, rfl⟩ m.1 m.2⟩

theorem CopyX_all : ∀ e, CopyX e := XE.ind fun e ih _ he => CopyX_in e ih he
def CopyS (e : XS) : Prop := ∀ ⦃w : World⦄, SFr w 0 w.heap.size e → Ret Tryz.prog 51 #[(Value.agg #[(Value.int .i64 e.f.kind), (Value.string (bs e.f.tb)), (Value.string (bs e.f.nm)), e.f.cv, e.f.gv, e.f.vv, e.f.iv, (Value.string (bs e.f.join)), e.f.ov, e.f.wv, e.f.rv, (Value.bool e.f.desc), e.nv])] w (fun v' w' => Below w.heap.size w w' ∧ ∃ e2 : XS, v' = (Value.agg #[(Value.int .i64 e2.f.kind), (Value.string (bs e2.f.tb)), (Value.string (bs e2.f.nm)), e2.f.cv, e2.f.gv, e2.f.vv, e2.f.iv, (Value.string (bs e2.f.join)), e2.f.ov, e2.f.wv, e2.f.rv, (Value.bool e2.f.desc), e2.nv]) ∧ SFr w' w.heap.size w'.heap.size e2 ∧ SSame e e2)

theorem CloneU (l : List (UInt16)) (v : Value) (w : World) (hz : l.length ≤ 1000000000) (hl : RdC w 0 w.heap.size 1 v l.length (l.map u16v)) : Ret Tryz.prog 69 #[v] w (fun v' w' => Below w.heap.size w w' ∧ Own w' w.heap.size 56 1 v' l.length (l.map u16v)) := by
 have hb := Below.refl w.heap.size w
 refine enter (N := 8) Tryz.func69 rfl rfl (by simp) fun a hN hd hA => ?_
 have b : a.tmps.getD 0 undef = v := hA 0 (by simp)
 clear hA
 refine zF fun _ a => zH (zD rfl (zB (a _ _ (zF fun _ a => zF fun _ c => zH (zG (zC hN rfl b) ?_)))))
 have hl' := hl.keep0 (zQ hb)
 refine op_eql_nil slt23 (zA hN rfl) rfl hl' (fun g => ?_) ?_
 ·
  refine zB (c _ _ (wp_cond_true (zA hN rfl) (zF fun _ c => zH (zD rfl (zB (c _ _ (wp_ret (zO ( (ret1 rfl hd (zA hN rfl) ⟨_, rfl, ?_⟩))))))))))
  exact ⟨hb, by rw [List.length_eq_zero_iff.1 g]; exact Own.nil _ _ _ _⟩
 refine zB (c _ _ (wp_cond_false (zA hN rfl) (wp_skip (a _ _ (zF fun _ a => zH (op_bslice (e := 56) (pv := []) (cs := []) trivial zy ?_))))))
 intro m h j k c g
 obtain ⟨hb, _⟩ := yE hb g
 refine zG (zC hN rfl b) ?_
 have b := (Own.ofBx (base := w.heap.size) (sz := 1) (n := 0) c rfl zz zx)
 have hl' := hl.keep0 (zQ hb)
 refine op_append slt23 (zA hN rfl) b (zA hN rfl) (Src.ofRd Tryz.underlying23 zz hl' (one_u16 _)) (by unfold maxLen; omega) zx hb.size ?_
 intro j h c g k
 have := g.size
 have hb := below_stepO hb b g hb.size zx
 have c : Own h w.heap.size 56 1 j (0 + l.length) ((l).map u16v) := by simpa [u8v, u16v, sv, cellsI, cellsC, cellsX, cellsS] using c
 refine zD (zA hN rfl) (zB (a _ _ (wp_ret (ret1 rfl hd (zA hN rfl) ⟨_, rfl, ?_⟩))))
 exact ⟨hb, c.cast (by simp) (by simp)⟩

theorem CloneI (l : List (PItm)) (v : Value) (w : World) (hz : l.length ≤ 1000000000) (hl : RdC w 0 w.heap.size 3 v l.length (l.flatMap cellsI)) : Ret Tryz.prog 70 #[v] w (fun v' w' => Below w.heap.size w w' ∧ Own w' w.heap.size 94 3 v' l.length (l.flatMap cellsI)) := by
 have hb := Below.refl w.heap.size w
 refine enter (N := 8) Tryz.func70 rfl rfl (by simp) fun a hN hd hA => ?_
 have b : a.tmps.getD 0 undef = v := hA 0 (by simp)
 clear hA
 refine zF fun _ a => zH (zD rfl (zB (a _ _ (zF fun _ a => zF fun _ c => zH (zG (zC hN rfl b) ?_)))))
 have hl' := hl.keep0 (zQ hb)
 refine op_eql_nil slt34 (zA hN rfl) rfl hl' (fun g => ?_) ?_
 ·
  refine zB (c _ _ (wp_cond_true (zA hN rfl) (zF fun _ c => zH (zD rfl (zB (c _ _ (wp_ret (zO ( (ret1 rfl hd (zA hN rfl) ⟨_, rfl, ?_⟩))))))))))
  exact ⟨hb, by rw [List.length_eq_zero_iff.1 g]; exact Own.nil _ _ _ _⟩
 refine zB (c _ _ (wp_cond_false (zA hN rfl) (wp_skip (a _ _ (zF fun _ a => zH (op_bslice (e := 94) (pv := []) (cs := []) trivial zy ?_))))))
 intro k m h j c g
 obtain ⟨hb, _⟩ := yE hb g
 refine zG (zC hN rfl b) ?_
 have b := (Own.ofBx (base := w.heap.size) (sz := 3) (n := 0) c rfl zz zx)
 have hl' := hl.keep0 (zQ hb)
 refine op_append slt34 (zA hN rfl) b (zA hN rfl) (Src.ofRd Tryz.underlying34 zz hl' (one_pi _)) (by unfold maxLen; omega) zx hb.size ?_
 intro j h c g k
 have := g.size
 have hb := below_stepO hb b g hb.size zx
 have c : Own h w.heap.size 94 3 j (0 + l.length) ((l).flatMap cellsI) := by simpa [u8v, u16v, sv, cellsI, cellsC, cellsX, cellsS] using c
 refine zD (zA hN rfl) (zB (a _ _ (wp_ret (ret1 rfl hd (zA hN rfl) ⟨_, rfl, ?_⟩))))
 exact ⟨hb, c.cast (by simp) (by simp)⟩

theorem twinsS {v : Value} {E : List XS} {w : World} (ih : ∀ a ∈ E, CopyS a) (hX : SsFr w 0 w.heap.size v E) : Ret Tryz.prog 73 #[v, (.func (.func 51) #[] #[])] w (fun v' w' => Below w.heap.size w w' ∧ ∃ E2 : List XS, SsFr w' w.heap.size w'.heap.size v' E2 ∧ SsSame E E2) := by
 have hR := hX.1
 have hlm := hX.3
 have hb := Below.refl w.heap.size w
 refine enter (N := 22) Tryz.func73 rfl rfl (by simp) fun b hN hd hA => ?_
 have c : b.tmps.getD 0 undef = v := hA 0 (by simp)
 have g : b.tmps.getD 1 undef = (.func (.func 51) #[] #[]) := hA 1 (by simp)
 clear hA
 refine zF fun _ b => zH ?_
 refine zD rfl (zB (b _ _ (zF fun _ b => zH (zD rfl (zB (b _ _ (zF fun _ b => zF fun _ l => zH (zG (zC hN rfl c) ?_))))))))
 have hR' := hR.keep0 (zQ hb)
 refine op_len_rd Tryz.underlying35 (zA hN rfl) hR' (zG rfl (zB (l _ _ (wp_block (loop_m (fun mz_ az_ w' => ∃ (i : Nat) (c : Value) (E2 : List XS) (F0S : Nat → Prop), mz_ = E.length - i ∧ (Sl az_ 1 (.func (.func 51) #[] #[])) ∧ (Sl az_ 4 (.slice none 0 0)) ∧ (Sl az_ 8 v) ∧ (Sl az_ 9 (.int .i64 ((E.length : Nat) : Int))) ∧ (Sl az_ 10 (.int .i64 ((i : Nat) : Int))) ∧ (Sl az_ 5 c) ∧ (i ≤ E.length) ∧ (E2.length = i) ∧ (∀ j, j < i → SSame (E.getD j default) (E2.getD j default)) ∧ (Dj (Bl c) F0S) ∧ (Below w.heap.size w w') ∧ (w.heap.size ≤ w'.heap.size) ∧ (SsIn w' w.heap.size E2 F0S) ∧ (Own w' w.heap.size 37 13 c E2.length (E2.flatMap cellsS))) _ hN hd ⟨0, (.slice none 0 0), [], NoB, rfl, (zL hN rfl g), (zU hN rfl), (zU hN rfl), (zU hN rfl), (zU hN rfl), (zU hN rfl), (Nat.zero_le _), rfl, (fun _ h => absurd h (Nat.not_lt_zero _)), (Dj.nil _).symm, hb, (Nat.le_refl _), (SsIn.nil _ _), (Own.nil _ _ _ _)⟩ ?_)))))
 rintro _ B A g p ⟨i, c, E2, F0S, rfl, r, y, x, s, o, t, hi, q, hS, hdj, hb, z, hA, m⟩
 have := hb.size
 refine zF fun _ l => zH (op_lss (zC g rfl o) (zC g rfl s) (fun z => ?_) (fun z => ?_))
 ·
  refine zB (l _ _ (zF fun _ l => wp_cond_true (zA g rfl) (wp_skip (l _ _ (zF fun _ l => wp_block (zF fun _ z => zH ?_))))))
  have hR' := hR.keep0 (zQ hb)
  refine zh slt35 (zC g rfl x) hR' (zC g rfl o) zx zx ?_
  intro C B F D A
  refine zX (cs := [(.int .i64 (E.getD i default).f.kind), (.string (bs (E.getD i default).f.tb)), (.string (bs (E.getD i default).f.nm)), (E.getD i default).f.cv, (E.getD i default).f.gv, (E.getD i default).f.vv, (E.getD i default).f.iv, (.string (bs (E.getD i default).f.join)), (E.getD i default).f.ov, (E.getD i default).f.wv, (E.getD i default).f.rv, (.bool (E.getD i default).f.desc), (E.getD i default).nv]) agg37 rfl (zA g rfl) (fun j u hu => A j u (by have := (List.getElem?_eq_some_iff.1 hu).1; simpa using this) ((el_xs (i := i) zx zx) j u hu)) (op_alloc (cs := [(.int .i64 0), (.string (bs [])), (.string (bs [])), (.slice none 0 0), (.slice none 0 0), (.slice none 0 0), (.slice none 0 0), (.string (bs [])), (.slice none 0 0), (.slice none 0 0), (.slice none 0 0), (.bool false), (.slice none 0 0)]) zero37 rfl ?_)
  intro G C D F B A
  have D : ¬ F0S C := fun hf => by have := (hA.lt _ hf).2; omega
  have F : c.ownBlock ≠ some C := fun hh => by have := (m.lt _ hh).2; omega
  obtain ⟨hb, _⟩ := yE hb A
  have hX' := hX.keep0 (zQ hb)
  refine zZ size37 (zA g rfl) (zA g rfl) rfl (by simp only [yA, yB, yC, yD, (hX'.2 (E.getD i default) (getD_mem zx)).ff.1.one, (hX'.2 (E.getD i default) (getD_mem zx)).ff.2.1.one, (hX'.2 (E.getD i default) (getD_mem zx)).ff.2.2.1.1.one, (hX'.2 (E.getD i default) (getD_mem zx)).ff.2.2.2.1.one, (hX'.2 (E.getD i default) (getD_mem zx)).ff.2.2.2.2.1.1.one, (hX'.2 (E.getD i default) (getD_mem zx)).ff.2.2.2.2.2.1.1.one, (hX'.2 (E.getD i default) (getD_mem zx)).ff.2.2.2.2.2.2.1.one, (hX'.2 (E.getD i default) (getD_mem zx)).nvr.one]; try rfl) B rfl ?_
  intro G B C
  have := C.size
  have hA := (hA.kz A).keepG (Gr.of C) (Dj.one D)
  have m := (m.keep0 A).keep C (.inr F)
  have hb := below_step1 hb C hb.size zx
  refine zB (z _ _ (zH (zG (zC g rfl t) (zG (zC g rfl r) (zY agg37 rfl (zA g rfl) B ?_)))))
  have hX' := hX.keep0 (zQ hb)
  refine op_fnv (fs := []) (vs := [(.agg #[(.int .i64 (E.getD i default).f.kind), (.string (bs (E.getD i default).f.tb)), (.string (bs (E.getD i default).f.nm)), (E.getD i default).f.cv, (E.getD i default).f.gv, (E.getD i default).f.vv, (E.getD i default).f.iv, (.string (bs (E.getD i default).f.join)), (E.getD i default).f.ov, (E.getD i default).f.wv, (E.getD i default).f.rv, (.bool (E.getD i default).f.desc), (E.getD i default).nv])]) (cs := []) (zA g rfl) ok51 ⟨(zA g rfl), trivial⟩ (ih _ (getD_mem zx) ((hX'.2 _ (getD_mem zx)).mono (Nat.zero_le _) zx)) ?_
  rintro _ C ⟨B, z, rfl, A, D⟩
  have F := fun k hk => (m.lt k hk).2
  have H : ∀ k, c.ownBlock = some k → k < G.heap.size ∨ C.heap.size ≤ k := fun k hk => .inl (F k hk)
  have B := zQ B
  obtain ⟨hb, _⟩ := yE hb B
  have hA := hA.kz B
  refine op_bslice (e := 37) (pv := [(0, (.agg #[(.int .i64 z.f.kind), (.string (bs z.f.tb)), (.string (bs z.f.nm)), z.f.cv, z.f.gv, z.f.vv, z.f.iv, (.string (bs z.f.join)), z.f.ov, z.f.wv, z.f.rv, (.bool z.f.desc), z.nv]))]) (cs := [(.int .i64 z.f.kind), (.string (bs z.f.tb)), (.string (bs z.f.nm)), z.f.cv, z.f.gv, z.f.vv, z.f.iv, (.string (bs z.f.join)), z.f.ov, z.f.wv, z.f.rv, (.bool z.f.desc), z.nv]) ⟨rfl, (zA g rfl), trivial⟩ zy ?_
  intro G K J I C c
  obtain ⟨hb, _⟩ := yE hb c
  have hA := hA.kz c
  have m := (m.keep0 B).keep0 c
  have A := A.keep0 c
  have c := m
  refine op_append slt35 (zA g rfl) c (zA g rfl) (Src.ofRd Tryz.underlying35 zz (RdC.ofBx (sz := 13) (n := 1) C rfl zz) (by simp only [yA, yB, yC, yD, A.ff.1.one, A.ff.2.1.one, A.ff.2.2.1.1.one, A.ff.2.2.2.1.one, A.ff.2.2.2.2.1.1.one, A.ff.2.2.2.2.2.1.1.one, A.ff.2.2.2.2.2.2.1.one, A.nvr.one]; try rfl)) (by unfold maxLen; omega) zx hb.size ?_
  intro G J C B I
  have K : Dj F0S (Bl G) := Dj.step I (fun k hk => (hA.lt k hk).2) hdj.symm
  have := B.size
  have hA := hA.keepG (Gr.of B) hdj.symm
  have A := A.keep B H
  have hb := below_stepO hb c B hb.size zx
  have C : Own J w.heap.size 37 13 G (E2.length + 1) ((E2.flatMap cellsS ++ [(.int .i64 z.f.kind), (.string (bs z.f.tb)), (.string (bs z.f.nm)), z.f.cv, z.f.gv, z.f.vv, z.f.iv, (.string (bs z.f.join)), z.f.ov, z.f.wv, z.f.rv, (.bool z.f.desc), z.nv])) := by simpa [u8v, u16v, sv, cellsI, cellsC, cellsX, cellsS] using C
  refine zD (zA g rfl) (zB (l _ _ (zH (op_add (zC g rfl o) rfl (add64 zx) (zG (zA g rfl) (zB ?_))))))
  -- round 11T
  exact zg _ g p ⟨(i + 1), G, (E2 ++ [z]), _, rfl, (zL g rfl r), (zL g rfl y), (zL g rfl x), (zL g rfl s), (zU g rfl).trans (congrArg (Value.int .i64) zx), (zU g rfl), zx, (by simp; omega), (same_next q hS D), (dj_app K I F zx), hb, zx, (hA.snoc (a := z) A zx zx), (C.cast (by simp) (by simp [cellsX, cellsS]))⟩ zx
 refine zB (l _ _ (zF fun _ l => wp_cond_false (zA g rfl) (wp_exit (then_exit (then_exit (blk_hit (b _ _ (zF fun _ b => zH (zG (zC g rfl t) (zD (zA g rfl) (zB (b _ _ (wp_ret (ret1 rfl p (zA g rfl) ⟨_, rfl, ?_⟩))))))))))))))
 obtain rfl : i = E.length := by omega
 exact ⟨hb, E2, hA.fr zx m, q.symm, hS⟩

theorem CopyS_in (s : XS) {w : World} (ih : ∀ a ∈ s.inner, CopyS a) (he : SFr w 0 w.heap.size s) : Ret Tryz.prog 51 #[(.agg #[(.int .i64 s.f.kind), (.string (bs s.f.tb)), (.string (bs s.f.nm)), s.f.cv, s.f.gv, s.f.vv, s.f.iv, (.string (bs s.f.join)), s.f.ov, s.f.wv, s.f.rv, (.bool s.f.desc), s.nv])] w (fun v' w' => Below w.heap.size w w' ∧ ∃ e2 : XS, v' = (.agg #[(.int .i64 e2.f.kind), (.string (bs e2.f.tb)), (.string (bs e2.f.nm)), e2.f.cv, e2.f.gv, e2.f.vv, e2.f.iv, (.string (bs e2.f.join)), e2.f.ov, e2.f.wv, e2.f.rv, (.bool e2.f.desc), e2.nv]) ∧ SFr w' w.heap.size w'.heap.size e2 ∧ SSame s e2) := by
 obtain ⟨hfc, hfg, hfv, hfi, hfo, hfw, hfr⟩ := he.ff
 have hfn := he.inn
 obtain ⟨⟨b, e, c⟩, g⟩ := he.sm
 have hb := Below.refl w.heap.size w
 refine enter (N := 36) Tryz.func51 rfl rfl (by simp) fun g hN hd hA => ?_
 have j : g.tmps.getD 0 undef = (.agg #[(.int .i64 s.f.kind), (.string (bs s.f.tb)), (.string (bs s.f.nm)), s.f.cv, s.f.gv, s.f.vv, s.f.iv, (.string (bs s.f.join)), s.f.ov, s.f.wv, s.f.rv, (.bool s.f.desc), s.nv]) := hA 0 (by simp)
 clear hA
 refine zF fun _ g => zH (op_box (cs := [(.int .i64 s.f.kind), (.string (bs s.f.tb)), (.string (bs s.f.nm)), s.f.cv, s.f.gv, s.f.vv, s.f.iv, (.string (bs s.f.join)), s.f.ov, s.f.wv, s.f.rv, (.bool s.f.desc), s.nv]) (zC hN rfl j) rfl ?_)
 intro p k m o j l
 obtain ⟨hb, _⟩ := yE hb l
 refine op_alloc (cs := [(.int .i64 0), (.string (bs [])), (.string (bs [])), (.slice none 0 0), (.slice none 0 0), (.slice none 0 0), (.slice none 0 0), (.string (bs [])), (.slice none 0 0), (.slice none 0 0), (.slice none 0 0), (.bool false), (.slice none 0 0)]) zero37 rfl ?_
 intro p o r q l m
 obtain ⟨hb, _⟩ := yE hb m
 have j := j.keep0 m
 refine zB (g _ _ (zF fun _ g => reg_split (hd := [_, _, _, _, _, _, _, _, _, _, _]) (tl := _) 11 mixed zy rfl rfl (any_treek (φ := phiV [(fun uz => uz = (ptr k 3)), (fun uz => uz = s.f.cv), (fun _ => True), (fun uz => uz = (ptr k 4)), (fun uz => uz = s.f.gv), (fun _ => True), (fun uz => uz = (ptr k 6)), (fun uz => uz = s.f.iv), (fun _ => True), (fun uz => uz = (ptr k 3)), (fun _ => True)]) (G := fun m w' => 10 ∈ m → (Bx w' k 37 [(.int .i64 s.f.kind), (.string (bs s.f.tb)), (.string (bs s.f.nm)), s.f.cv, s.f.gv, s.f.vv, s.f.iv, (.string (bs s.f.join)), s.f.ov, s.f.wv, s.f.rv, (.bool s.f.desc), s.nv])) [2, 5, 8, 10] zy zy zy zy zy hN (fun _ p q E h o => (h o).keep0 E) (fun _ => j) (ObRk9.cons ?_ (ObRk9.cons ?_ (ObRk9.pass rfl (ObRk9.cons ?_ (ObRk9.cons ?_ (ObRk9.pass rfl (ObRk9.cons ?_ (ObRk9.cons ?_ (ObRk9.pass rfl (ObRk9.cons ?_ (ObRk9.pass rfl (ObRk9.nil)))))))))))) (by simp only [putsL_defers]) ?_)))
 ·
  intro eA tA aA wA hNA hckA hGA hbsA hdpA
  have r := (hbsA 1 rfl).trans (zU hN rfl)
  refine zM fld37_3 (zC hNA rfl r) ?_
  exact obTk_end rfl rfl
 ·
  intro eA tA aA wA hNA hckA hGA hbsA hdpA
  have t : Sl aA 3 (ptr k 3) := (hdpA 0 _ 3 zy rfl rfl).2 rfl
  have hGA := hGA (hckA 10 rfl zy)
  refine zN one32 (zC hNA rfl t) (hGA.cell rfl) ?_
  exact obTk_end rfl rfl
 ·
  intro eA tA aA wA hNA hckA hGA hbsA hdpA
  have r := (hbsA 1 rfl).trans (zU hN rfl)
  refine zM fld37_4 (zC hNA rfl r) ?_
  exact obTk_end rfl rfl
 ·
  intro eA tA aA wA hNA hckA hGA hbsA hdpA
  have t : Sl aA 6 (ptr k 4) := (hdpA 3 _ 6 zy rfl rfl).2 rfl
  have hGA := hGA (hckA 10 rfl zy)
  refine zN one23 (zC hNA rfl t) (hGA.cell rfl) ?_
  exact obTk_end rfl rfl
 ·
  intro eA tA aA wA hNA hckA hGA hbsA hdpA
  have r := (hbsA 1 rfl).trans (zU hN rfl)
  refine zM fld37_6 (zC hNA rfl r) ?_
  exact obTk_end rfl rfl
 ·
  intro eA tA aA wA hNA hckA hGA hbsA hdpA
  have t : Sl aA 9 (ptr k 6) := (hdpA 6 _ 9 zy rfl rfl).2 rfl
  have hGA := hGA (hckA 10 rfl zy)
  refine zN one34 (zC hNA rfl t) (hGA.cell rfl) ?_
  exact obTk_end rfl rfl
 ·
  intro eA tA aA wA hNA hckA hGA hbsA hdpA
  have r := (hbsA 1 rfl).trans (zU hN rfl)
  refine zM fld37_3 (zC hNA rfl r) ?_
  exact obTk_end rfl rfl
 refine ktk_step (rs := [2]) zy (one_mem ?_)
 intro z t _ x u A y o_ ho_; obtain rfl := zE ho_
 obtain ⟨hb, _⟩ := yE hb t
 have z : Sl x 4 s.f.cv := (y 1 _ 4 zy rfl rfl).2 rfl
 have hfc' := hfc.keep0 (zQ hb)
 refine zj ok48 (CloneC s.f.cols _ _ (by first | assumption | omega | (simp only [List.length_append, List.length_cons, List.length_nil, List.length_drop, List.length_take]; omega) | (dsimp only; omega) | decide | (simp [keyV, be8_len]; done)) (hfc'.mono (Nat.zero_le _) zx)) ⟨(zC u rfl z), trivial⟩ ?_
 rintro x z ⟨y, u⟩
 have y := zQ y
 obtain ⟨hb, _⟩ := yE hb y
 have j := (j.keep0 t).keep0 y
 have u := u.mono (base' := w.heap.size) zx
 refine ktk_end (G := fun m w' => 10 ∈ m → (Bx w' k 37 [(.int .i64 s.f.kind), (.string (bs s.f.tb)), (.string (bs s.f.nm)), s.f.cv, s.f.gv, s.f.vv, s.f.iv, (.string (bs s.f.join)), s.f.ov, s.f.wv, s.f.rv, (.bool s.f.desc), s.nv])) (todo := [2, 5, 8, 10]) (i := 2) rfl (fun _ => j) (ktk_step (rs := [5]) zy (one_mem ?_))
 intro F z _ B C D A o_ ho_; obtain rfl := zE ho_
 obtain ⟨hb, _⟩ := yE hb z
 have D : Sl B 7 s.f.gv := (A 4 _ 7 zy rfl rfl).2 rfl
 have hfg' := hfg.keep0 (zQ hb)
 refine zj ok69 (CloneU s.f.tags _ _ (by first | assumption | omega | (simp only [List.length_append, List.length_cons, List.length_nil, List.length_drop, List.length_take]; omega) | (dsimp only; omega) | decide | (simp [keyV, be8_len]; done)) (hfg'.mono (Nat.zero_le _) zx)) ⟨(zC C rfl D), trivial⟩ ?_
 rintro B D ⟨C, A⟩
 have C := zQ C
 obtain ⟨hb, _⟩ := yE hb C
 have j := (j.keep0 z).keep0 C
 have A := A.mono (base' := w.heap.size) zx
 refine ktk_end (G := fun m w' => 10 ∈ m → (Bx w' k 37 [(.int .i64 s.f.kind), (.string (bs s.f.tb)), (.string (bs s.f.nm)), s.f.cv, s.f.gv, s.f.vv, s.f.iv, (.string (bs s.f.join)), s.f.ov, s.f.wv, s.f.rv, (.bool s.f.desc), s.nv])) (todo := [5, 8, 10]) (i := 5) rfl (fun _ => j) (ktk_step (rs := [8]) zy (one_mem ?_))
 intro J D _ I H K F o_ ho_; obtain rfl := zE ho_
 obtain ⟨hb, _⟩ := yE hb D
 have J : Sl I 10 s.f.iv := (F 7 _ 10 zy rfl rfl).2 rfl
 have hfi' := hfi.keep0 (zQ hb)
 refine zj ok70 (CloneI s.f.items _ _ (by first | assumption | omega | (simp only [List.length_append, List.length_cons, List.length_nil, List.length_drop, List.length_take]; omega) | (dsimp only; omega) | decide | (simp [keyV, be8_len]; done)) (hfi'.mono (Nat.zero_le _) zx)) ⟨(zC H rfl J), trivial⟩ ?_
 rintro H J ⟨I, F⟩
 have I := zQ I
 obtain ⟨hb, _⟩ := yE hb I
 have j := (j.keep0 D).keep0 I
 have F := F.mono (base' := w.heap.size) zx
 refine ktk_end (G := fun m w' => 10 ∈ m → (Bx w' k 37 [(.int .i64 s.f.kind), (.string (bs s.f.tb)), (.string (bs s.f.nm)), s.f.cv, s.f.gv, s.f.vv, s.f.iv, (.string (bs s.f.join)), s.f.ov, s.f.wv, s.f.rv, (.bool s.f.desc), s.nv])) (todo := [8, 10]) (i := 8) rfl (fun _ => j) (ktk_step (rs := [10]) zy (one_mem ?_))
 intro O J _ K L P M o_ ho_; obtain rfl := zE ho_
 obtain ⟨hb, _⟩ := yE hb J
 have j := j.keep0 J
 have u := ((((u.keep0 z).keep0 C).keep0 D).keep0 I).keep0 J
 have O : Sl K 12 (ptr k 3) := (M 9 _ 12 zy rfl rfl).2 rfl
 have P : Sl K 5 x := (zE ((M 2 _ 5 zy rfl rfl).1 rfl)).symm
 have K := j
 refine za (vs := [x]) (cs' := [(.int .i64 s.f.kind), (.string (bs s.f.tb)), (.string (bs s.f.nm)), x, s.f.gv, s.f.vv, s.f.iv, (.string (bs s.f.join)), s.f.ov, s.f.wv, s.f.rv, (.bool s.f.desc), s.nv]) size32 (zC L rfl O) (zC L rfl P) u.cl rfl (by simp only [yA, yB, yC, yD, u.one]; try rfl) j (zI rfl) rfl ?_
 intro M j L
 have := L.size
 have hb := below_step1 hb L hb.size zx
 refine ktk_end0 (G := fun m w' => 10 ∈ m → (Bx w' k 37 [(.int .i64 s.f.kind), (.string (bs s.f.tb)), (.string (bs s.f.nm)), s.f.cv, s.f.gv, s.f.vv, s.f.iv, (.string (bs s.f.join)), s.f.ov, s.f.wv, s.f.rv, (.bool s.f.desc), s.nv])) (todo := [10]) (i := 10) rfl (fun h => absurd h zz) ?_
 intro T O Q M P S R
 have P := P.trans ((by simp only [putsL_defers] : _ = _).trans hd)
 obtain ⟨hb, _⟩ := yE hb O
 have u := (u.keepX K L zz).keep0 O
 have A := ((((A.keep0 D).keep0 I).keep0 J).keepX K L zz).keep0 O
 have F := ((F.keep0 J).keepX K L zz).keep0 O
 have j := j.keep0 O
 have T := (S 1 rfl).trans (zU hN rfl)
 have U := (S 2 rfl).trans (zU hN rfl)
 have S : Sl Q 8 B := (zE ((R 5 _ 8 rfl rfl).1 rfl)).symm
 have V : Sl Q 11 H := (zE ((R 8 _ 11 rfl rfl).1 rfl)).symm
 refine split_end (from_seq (tl := [_, _, _, _]) zz zy rfl (zM fld37_4 (zC M rfl T) ?_))
 have K := j
 refine za (vs := [B]) (cs' := [(.int .i64 s.f.kind), (.string (bs s.f.tb)), (.string (bs s.f.nm)), x, B, s.f.vv, s.f.iv, (.string (bs s.f.join)), s.f.ov, s.f.wv, s.f.rv, (.bool s.f.desc), s.nv]) size23 (zA M rfl) (zC M rfl S) A.cl rfl (by simp only [yA, yB, yC, yD, A.one]; try rfl) j (zI rfl) rfl ?_
 intro R j Q
 have := Q.size
 have u := u.keepX K Q zz
 have A := A.keepX K Q zz
 have F := F.keepX K Q zz
 have hb := below_step1 hb Q hb.size zx
 refine zM fld37_6 (zC M rfl T) ?_
 have K := j
 refine za (vs := [H]) (cs' := [(.int .i64 s.f.kind), (.string (bs s.f.tb)), (.string (bs s.f.nm)), x, B, s.f.vv, H, (.string (bs s.f.join)), s.f.ov, s.f.wv, s.f.rv, (.bool s.f.desc), s.nv]) size34 (zA M rfl) (zC M rfl V) F.cl rfl (by simp only [yA, yB, yC, yD, F.one]; try rfl) j (zI rfl) rfl ?_
 intro S j R
 have := R.size
 have l := ((((((((((l.keep0 t).keep0 y).keep0 z).keep0 C).keep0 D).keep0 I).keep0 J).keep L sB).keep0 O).keep Q sB).keep R sB
 have u := u.keepX K R zz
 have A := A.keepX K R zz
 have F := F.keepX K R zz
 have hb := below_step1 hb R hb.size zx
 refine zB (g _ _ (zF fun _ g => reg_split (hd := [_, _, _, _, _, _, _, _]) (tl := _) 8 mixed zy rfl rfl (any_treek (φ := phiV [(fun uz => uz = (ptr k 5)), (fun uz => uz = s.f.vv), (fun _ => True), (fun uz => uz = (ptr k 8)), (fun uz => uz = s.f.ov), (fun _ => True), (fun uz => uz = (ptr k 5)), (fun _ => True)]) (G := fun m w' => 7 ∈ m → (Bx w' k 37 [(.int .i64 s.f.kind), (.string (bs s.f.tb)), (.string (bs s.f.nm)), x, B, s.f.vv, H, (.string (bs s.f.join)), s.f.ov, s.f.wv, s.f.rv, (.bool s.f.desc), s.nv])) [2, 5, 7] zy zy zy zy zy M (fun _ p q E h o => (h o).keep0 E) (fun _ => j) (ObRk9.cons ?_ (ObRk9.cons ?_ (ObRk9.pass rfl (ObRk9.cons ?_ (ObRk9.cons ?_ (ObRk9.pass rfl (ObRk9.cons ?_ (ObRk9.pass rfl (ObRk9.nil))))))))) (by simp only [putsL_defers]) ?_)))
 ·
  intro eA tA aA wA hNA hckA hGA hbsA hdpA
  have r := (hbsA 1 rfl).trans (zL M rfl T)
  refine zM fld37_5 (zC hNA rfl r) ?_
  exact obTk_end rfl rfl
 ·
  intro eA tA aA wA hNA hckA hGA hbsA hdpA
  have t : Sl aA 15 (ptr k 5) := (hdpA 0 _ 15 zy rfl rfl).2 rfl
  have hGA := hGA (hckA 7 rfl zy)
  refine zN one33 (zC hNA rfl t) (hGA.cell rfl) ?_
  exact obTk_end rfl rfl
 ·
  intro eA tA aA wA hNA hckA hGA hbsA hdpA
  have r := (hbsA 1 rfl).trans (zL M rfl T)
  refine zM fld37_8 (zC hNA rfl r) ?_
  exact obTk_end rfl rfl
 ·
  intro eA tA aA wA hNA hckA hGA hbsA hdpA
  have t : Sl aA 18 (ptr k 8) := (hdpA 3 _ 18 zy rfl rfl).2 rfl
  have hGA := hGA (hckA 7 rfl zy)
  refine zN one33 (zC hNA rfl t) (hGA.cell rfl) ?_
  exact obTk_end rfl rfl
 ·
  intro eA tA aA wA hNA hckA hGA hbsA hdpA
  have r := (hbsA 1 rfl).trans (zL M rfl T)
  refine zM fld37_5 (zC hNA rfl r) ?_
  exact obTk_end rfl rfl
 refine ktk_step (rs := [2]) zy (one_mem ?_)
 intro D t _ C y I z o_ ho_; obtain rfl := zE ho_
 obtain ⟨hb, _⟩ := yE hb t
 have D : Sl C 16 s.f.vv := (z 1 _ 16 zy rfl rfl).2 rfl
 have hfv' := hfv.keep0 (zQ hb)
 refine zj ok71 (twinsX (fun a _ => CopyX_all a) (hfv'.mono (Nat.zero_le _) zx)) ⟨(zC y rfl D), ⟨rfl, trivial⟩⟩ ?_
 rintro z J ⟨C, D, y, I⟩
 have C := zQ C
 obtain ⟨hb, _⟩ := yE hb C
 have j := (j.keep0 t).keep0 C
 refine ktk_end (G := fun m w' => 7 ∈ m → (Bx w' k 37 [(.int .i64 s.f.kind), (.string (bs s.f.tb)), (.string (bs s.f.nm)), x, B, s.f.vv, H, (.string (bs s.f.join)), s.f.ov, s.f.wv, s.f.rv, (.bool s.f.desc), s.nv])) (todo := [2, 5, 7]) (i := 2) rfl (fun _ => j) (ktk_step (rs := [5]) zy (one_mem ?_))
 intro R J _ Q L S O o_ ho_; obtain rfl := zE ho_
 obtain ⟨hb, _⟩ := yE hb J
 have R : Sl Q 19 s.f.ov := (O 4 _ 19 zy rfl rfl).2 rfl
 have hfo' := hfo.keep0 (zQ hb)
 refine zj ok71 (twinsX (fun a _ => CopyX_all a) (hfo'.mono (Nat.zero_le _) zx)) ⟨(zC L rfl R), ⟨rfl, trivial⟩⟩ ?_
 rintro O V ⟨Q, R, L, S⟩
 have Q := zQ Q
 obtain ⟨hb, _⟩ := yE hb Q
 have j := (j.keep0 J).keep0 Q
 refine ktk_end (G := fun m w' => 7 ∈ m → (Bx w' k 37 [(.int .i64 s.f.kind), (.string (bs s.f.tb)), (.string (bs s.f.nm)), x, B, s.f.vv, H, (.string (bs s.f.join)), s.f.ov, s.f.wv, s.f.rv, (.bool s.f.desc), s.nv])) (todo := [5, 7]) (i := 5) rfl (fun _ => j) (ktk_step (rs := [7]) zy (one_mem ?_))
 intro Z V _ Y W aa X o_ ho_; obtain rfl := zE ho_
 obtain ⟨hb, _⟩ := yE hb V
 have j := j.keep0 V
 have y := ((y.keep0 J).keep0 Q).keep0 V
 have Z : Sl Y 21 (ptr k 5) := (X 6 _ 21 zy rfl rfl).2 rfl
 have aa : Sl Y 17 z := (zE ((X 2 _ 17 zy rfl rfl).1 rfl)).symm
 have K := j
 refine za (vs := [z]) (cs' := [(.int .i64 s.f.kind), (.string (bs s.f.tb)), (.string (bs s.f.nm)), x, B, z, H, (.string (bs s.f.join)), s.f.ov, s.f.wv, s.f.rv, (.bool s.f.desc), s.nv]) size33 (zC W rfl Z) (zC W rfl aa) y.1.cl rfl (by simp only [yA, yB, yC, yD, y.1.one]; try rfl) j (zI rfl) rfl ?_
 intro X j W
 have := W.size
 have hb := below_step1 hb W hb.size zx
 refine ktk_end0 (G := fun m w' => 7 ∈ m → (Bx w' k 37 [(.int .i64 s.f.kind), (.string (bs s.f.tb)), (.string (bs s.f.nm)), x, B, s.f.vv, H, (.string (bs s.f.join)), s.f.ov, s.f.wv, s.f.rv, (.bool s.f.desc), s.nv])) (todo := [7]) (i := 7) rfl (fun h => absurd h zz) ?_
 intro ad Y ac X Z aa ab
 have Z := Z.trans ((by simp only [putsL_defers] : _ = _).trans P)
 obtain ⟨hb, _⟩ := yE hb Y
 have u := ((((((u.keep0 t).keep0 C).keep0 J).keep0 Q).keep0 V).keepX K W zz).keep0 Y
 have A := ((((((A.keep0 t).keep0 C).keep0 J).keep0 Q).keep0 V).keepX K W zz).keep0 Y
 have F := ((((((F.keep0 t).keep0 C).keep0 J).keep0 Q).keep0 V).keepX K W zz).keep0 Y
 have L := ((L.keep0 V).keep W sO).keep0 Y
 have j := j.keep0 Y
 have P := (aa 1 rfl).trans (zL M rfl T)
 have T := (aa 2 rfl).trans (zL M rfl U)
 have M : Sl ac 20 O := (zE ((ab 5 _ 20 rfl rfl).1 rfl)).symm
 refine split_end (from_seq (tl := [_, _]) zz zy rfl (zM fld37_8 (zC X rfl P) ?_))
 have K := j
 refine za (vs := [O]) (cs' := [(.int .i64 s.f.kind), (.string (bs s.f.tb)), (.string (bs s.f.nm)), x, B, z, H, (.string (bs s.f.join)), O, s.f.wv, s.f.rv, (.bool s.f.desc), s.nv]) size33 (zA X rfl) (zC X rfl M) L.1.cl rfl (by simp only [yA, yB, yC, yD, L.1.one]; try rfl) j (zI rfl) rfl ?_
 intro U j M
 have := M.size
 have l := (((((((l.keep0 t).keep0 C).keep0 J).keep0 Q).keep0 V).keep W sB).keep0 Y).keep M sB
 have u := u.keepX K M zz
 have A := A.keepX K M zz
 have F := F.keepX K M zz
 have y := ((y.keep W sO).keep0 Y).keep M sO
 have L := L.keep M sO
 have hb := below_step1 hb M hb.size zx
 refine zB (g _ _ (zF fun _ g => reg_split (hd := [_, _, _, _, _, _, _, _]) (tl := _) 8 mixed zy rfl rfl (any_treek (φ := phiV [(fun uz => uz = (ptr k 9)), (fun uz => uz = s.f.wv), (fun _ => True), (fun uz => uz = (ptr k 10)), (fun uz => uz = s.f.rv), (fun _ => True), (fun uz => uz = (ptr k 9)), (fun _ => True)]) (G := fun m w' => 7 ∈ m → (Bx w' k 37 [(.int .i64 s.f.kind), (.string (bs s.f.tb)), (.string (bs s.f.nm)), x, B, z, H, (.string (bs s.f.join)), O, s.f.wv, s.f.rv, (.bool s.f.desc), s.nv])) [2, 5, 7] zy zy zy zy zy X (fun _ p q E h o => (h o).keep0 E) (fun _ => j) (ObRk9.cons ?_ (ObRk9.cons ?_ (ObRk9.pass rfl (ObRk9.cons ?_ (ObRk9.cons ?_ (ObRk9.pass rfl (ObRk9.cons ?_ (ObRk9.pass rfl (ObRk9.nil))))))))) (by simp only [putsL_defers]) ?_)))
 ·
  intro eA tA aA wA hNA hckA hGA hbsA hdpA
  have r := (hbsA 1 rfl).trans (zL X rfl P)
  refine zM fld37_9 (zC hNA rfl r) ?_
  exact obTk_end rfl rfl
 ·
  intro eA tA aA wA hNA hckA hGA hbsA hdpA
  have o : Sl aA 23 (ptr k 9) := (hdpA 0 _ 23 zy rfl rfl).2 rfl
  have hGA := hGA (hckA 7 rfl zy)
  refine zN one33 (zC hNA rfl o) (hGA.cell rfl) ?_
  exact obTk_end rfl rfl
 ·
  intro eA tA aA wA hNA hckA hGA hbsA hdpA
  have r := (hbsA 1 rfl).trans (zL X rfl P)
  refine zM fld37_10 (zC hNA rfl r) ?_
  exact obTk_end rfl rfl
 ·
  intro eA tA aA wA hNA hckA hGA hbsA hdpA
  have o : Sl aA 26 (ptr k 10) := (hdpA 3 _ 26 zy rfl rfl).2 rfl
  have hGA := hGA (hckA 7 rfl zy)
  refine zN one33 (zC hNA rfl o) (hGA.cell rfl) ?_
  exact obTk_end rfl rfl
 ·
  intro eA tA aA wA hNA hckA hGA hbsA hdpA
  have r := (hbsA 1 rfl).trans (zL X rfl P)
  refine zM fld37_9 (zC hNA rfl r) ?_
  exact obTk_end rfl rfl
 refine ktk_step (rs := [2]) zy (one_mem ?_)
 intro t o _ r p C q o_ ho_; obtain rfl := zE ho_
 obtain ⟨hb, _⟩ := yE hb o
 have t : Sl r 24 s.f.wv := (q 1 _ 24 zy rfl rfl).2 rfl
 have hfw' := hfw.keep0 (zQ hb)
 refine zj ok71 (twinsX (fun a _ => CopyX_all a) (hfw'.mono (Nat.zero_le _) zx)) ⟨(zC p rfl t), ⟨rfl, trivial⟩⟩ ?_
 rintro r J ⟨p, t, q, C⟩
 have p := zQ p
 obtain ⟨hb, _⟩ := yE hb p
 have j := (j.keep0 o).keep0 p
 refine ktk_end (G := fun m w' => 7 ∈ m → (Bx w' k 37 [(.int .i64 s.f.kind), (.string (bs s.f.tb)), (.string (bs s.f.nm)), x, B, z, H, (.string (bs s.f.join)), O, s.f.wv, s.f.rv, (.bool s.f.desc), s.nv])) (todo := [2, 5, 7]) (i := 2) rfl (fun _ => j) (ktk_step (rs := [5]) zy (one_mem ?_))
 intro V J _ M U W Q o_ ho_; obtain rfl := zE ho_
 obtain ⟨hb, _⟩ := yE hb J
 have V : Sl M 27 s.f.rv := (Q 4 _ 27 zy rfl rfl).2 rfl
 have hfr' := hfr.keep0 (zQ hb)
 refine zj ok71 (twinsX (fun a _ => CopyX_all a) (hfr'.mono (Nat.zero_le _) zx)) ⟨(zC U rfl V), ⟨rfl, trivial⟩⟩ ?_
 rintro U Y ⟨M, V, Q, W⟩
 have M := zQ M
 obtain ⟨hb, _⟩ := yE hb M
 have j := (j.keep0 J).keep0 M
 refine ktk_end (G := fun m w' => 7 ∈ m → (Bx w' k 37 [(.int .i64 s.f.kind), (.string (bs s.f.tb)), (.string (bs s.f.nm)), x, B, z, H, (.string (bs s.f.join)), O, s.f.wv, s.f.rv, (.bool s.f.desc), s.nv])) (todo := [5, 7]) (i := 5) rfl (fun _ => j) (ktk_step (rs := [7]) zy (one_mem ?_))
 intro ad Y _ ab ac ae aa o_ ho_; obtain rfl := zE ho_
 obtain ⟨hb, _⟩ := yE hb Y
 have j := j.keep0 Y
 have q := ((q.keep0 J).keep0 M).keep0 Y
 have ad : Sl ab 29 (ptr k 9) := (aa 6 _ 29 zy rfl rfl).2 rfl
 have ae : Sl ab 25 r := (zE ((aa 2 _ 25 zy rfl rfl).1 rfl)).symm
 have K := j
 refine za (vs := [r]) (cs' := [(.int .i64 s.f.kind), (.string (bs s.f.tb)), (.string (bs s.f.nm)), x, B, z, H, (.string (bs s.f.join)), O, r, s.f.rv, (.bool s.f.desc), s.nv]) size33 (zC ac rfl ad) (zC ac rfl ae) q.1.cl rfl (by simp only [yA, yB, yC, yD, q.1.one]; try rfl) j (zI rfl) rfl ?_
 intro ab j aa
 have := aa.size
 have hb := below_step1 hb aa hb.size zx
 refine ktk_end0 (G := fun m w' => 7 ∈ m → (Bx w' k 37 [(.int .i64 s.f.kind), (.string (bs s.f.tb)), (.string (bs s.f.nm)), x, B, z, H, (.string (bs s.f.join)), O, s.f.wv, s.f.rv, (.bool s.f.desc), s.nv])) (todo := [7]) (i := 7) rfl (fun h => absurd h zz) ?_
 intro af m ad k ab ac ae
 have ab := ab.trans ((by simp only [putsL_defers] : _ = _).trans Z)
 obtain ⟨hb, _⟩ := yE hb m
 have u := ((((((u.keep0 o).keep0 p).keep0 J).keep0 M).keep0 Y).keepX K aa zz).keep0 m
 have A := ((((((A.keep0 o).keep0 p).keep0 J).keep0 M).keep0 Y).keepX K aa zz).keep0 m
 have F := ((((((F.keep0 o).keep0 p).keep0 J).keep0 M).keep0 Y).keepX K aa zz).keep0 m
 have Q := ((Q.keep0 Y).keep aa sO).keep0 m
 have j := j.keep0 m
 have Z := (ac 1 rfl).trans (zL X rfl P)
 have P := (ac 2 rfl).trans (zL X rfl T)
 have T : Sl ad 28 U := (zE ((ae 5 _ 28 rfl rfl).1 rfl)).symm
 refine split_end (from_seq (tl := [_, _]) zz zy rfl (zM fld37_10 (zC k rfl Z) ?_))
 have K := j
 refine za (vs := [U]) (cs' := [(.int .i64 s.f.kind), (.string (bs s.f.tb)), (.string (bs s.f.nm)), x, B, z, H, (.string (bs s.f.join)), O, r, U, (.bool s.f.desc), s.nv]) size33 (zA k rfl) (zC k rfl T) Q.1.cl rfl (by simp only [yA, yB, yC, yD, Q.1.one]; try rfl) j (zI rfl) rfl ?_
 intro X j T
 have := T.size
 have hb := below_step1 hb T hb.size zx
 refine zB (g _ _ (zF fun _ g => zH (zM fld37_12 (zC k rfl Z) (zN one35 (zA k rfl) (j.cell rfl) ?_))))
 have hfn' := hfn.keep0 (zQ hb)
 refine zj ok73 (twinsS ih (hfn'.mono (Nat.zero_le _) zx)) ⟨(zA k rfl), ⟨rfl, trivial⟩⟩ ?_
 rintro ad ag ⟨X, af, ac, ae⟩
 have X := zQ X
 obtain ⟨hb, _⟩ := yE hb X
 have u := (u.keepX K T zz).keep0 X
 have A := (A.keepX K T zz).keep0 X
 have F := (F.keepX K T zz).keep0 X
 have j := j.keep0 X
 refine zM fld37_12 (zC k rfl Z) ?_
 have K := j
 refine za (vs := [ad]) (cs' := [(.int .i64 s.f.kind), (.string (bs s.f.tb)), (.string (bs s.f.nm)), x, B, z, H, (.string (bs s.f.join)), O, r, U, (.bool s.f.desc), ad]) size35 (zA k rfl) (zA k rfl) ac.rdc.cl rfl (by simp only [yA, yB, yC, yD, ac.rdc.one]; try rfl) j (zI rfl) rfl ?_
 intro ah j ag
 have := ag.size
 have l := (((((((((l.keep0 o).keep0 p).keep0 J).keep0 M).keep0 Y).keep aa sB).keep0 m).keep T sB).keep0 X).keep ag sB
 have u := u.keepX K ag zz
 have A := A.keepX K ag zz
 have F := F.keepX K ag zz
 have y := (((((((((y.keep0 o).keep0 p).keep0 J).keep0 M).keep0 Y).keep aa sO).keep0 m).keep T sO).keep0 X).keep ag sO
 have L := (((((((((L.keep0 o).keep0 p).keep0 J).keep0 M).keep0 Y).keep aa sO).keep0 m).keep T sO).keep0 X).keep ag sO
 have q := ((((q.keep aa sO).keep0 m).keep T sO).keep0 X).keep ag sO
 have Q := ((Q.keep T sO).keep0 X).keep ag sO
 have ac := ac.keep ag sO
 have hb := below_step1 hb ag hb.size zx
 refine zB (g _ _ (zF fun _ g => zH (zY agg37 rfl (zC k rfl Z) j ?_)))
 have j := l
 refine zZ size37 (zC k rfl P) (zA k rfl) rfl (by simp only [yA, yB, yC, yD, u.one, A.one, y.1.one, F.one, L.1.one, q.1.one, Q.1.one, ac.rdc.one]; try rfl) l rfl ?_
 intro o l m
 have := m.size
 have u := u.keepX j m zz
 have A := A.keepX j m zz
 have F := F.keepX j m zz
 have y := y.keep m sO
 have L := L.keep m sO
 have q := q.keep m sO
 have Q := Q.keep m sO
 have ac := ac.keep m sO
 have hb := below_step1 hb m hb.size zx
 refine zB (g _ _ (wp_ret (retC rfl ab (zC k rfl P) agg37 rfl l ⟨_, rfl, ?_⟩)))
 exact ⟨hb, (XS.mk (StF.mk s.f.kind s.f.tb s.f.nm x s.f.cols B s.f.tags z D H s.f.items s.f.join O R r t U V s.f.desc) ad af), rfl, .mk ⟨(u.rdw.mono zx zx), (A.rdw.mono zx zx), (y.mono zx zx), (F.rdw.mono zx zx), (L.mono zx zx), (q.mono zx zx), (Q.mono zx zx)⟩ (ac.mono zx zx).rdc (fun a ha => (ac.mono zx zx).all a ha) ⟨⟨b, e, c⟩, ac.small⟩, .mk ⟨rfl, rfl, rfl, rfl, rfl, I, rfl, rfl, S, C, W, rfl⟩ ae.1 ae.2⟩

theorem CopyS_all : ∀ s, CopyS s := XS.ind fun s ih _ he => CopyS_in s ih he
end Go.Proofs.YthflnkfghogaoaaGreat

namespace Go.Gx
def VFr (w : World) (L B : Nat) (d : DVw) : Prop := RdC w L B 1 d.sv d.strip.length (d.strip.map u16v) ∧ SFr w L B d.act ∧ d.strip.length ≤ 1000
structure VsFr (w : World) (L B : Nat) (v : Value) (V : List DVw) : Prop where
  rdc : RdC w L B 15 v V.length (V.flatMap cellsW)
  all : ∀ a ∈ V, VFr w L B a
  small : V.length ≤ 1000
def VSame (a b : DVw) : Prop := a.nm = b.nm ∧ a.strip = b.strip ∧ SSame a.act b.act
def VsIn (w : World) (base : Nat) (E : List DVw) (F : Nat → Prop) : Prop := AllIn VFr w base E F
section
variable {w w' : World} {base L B L' B' e sz n : Nat} {F G : Nat → Prop} {v u : Value} {V : List DVw} {d : DVw} {row : Option Nat} {ws : List Value}
theorem VFr.keep (h : VFr w L B d) (E : w.grownBy w' row) (hne : ∀ k, row = some k → k < L ∨ B ≤ k) : VFr w' L B d := ⟨h.1.keep E hne, h.2.1.keep E hne, h.2.2⟩
theorem VFr.keepG (h : VFr w L B d) (E : Gr w w' F) (hn : ∀ k, F k → k < L ∨ B ≤ k) : VFr w' L B d := ⟨h.1.keepG E hn, h.2.1.keepG E hn, h.2.2⟩
theorem VFr.mono (h : VFr w L B d) (hL : L' ≤ L) (hB : B ≤ B') : VFr w L' B' d := ⟨h.1.mono hL hB, h.2.1.mono hL hB, h.2.2⟩
theorem VsFr.keep (h : VsFr w L B v V) (E : w.grownBy w' row) (hne : ∀ k, row = some k → k < L ∨ B ≤ k) : VsFr w' L B v V := ⟨h.1.keep E hne, fun a ha => (h.2 a ha).keep E hne, h.3⟩
theorem VsFr.keep0 (h : VsFr w L B v V) (E : w.grownBy w' none) : VsFr w' L B v V := h.keep E (by simp)
theorem VsFr.keepG (h : VsFr w L B v V) (E : Gr w w' F) (hn : ∀ k, F k → k < L ∨ B ≤ k) : VsFr w' L B v V := ⟨h.1.keepG E hn, fun a ha => (h.2 a ha).keepG E hn, h.3⟩
theorem VsFr.mono (h : VsFr w L B v V) (hL : L' ≤ L) (hB : B ≤ B') : VsFr w L' B' v V := ⟨h.1.mono hL hB, fun a ha => (h.2 a ha).mono hL hB, h.3⟩
theorem VsFr.nil (w : World) (L B : Nat) : VsFr w L B (.slice none 0 0) [] := ⟨RdC.nil _ _ _ _, fun _ h => (by cases h), by simp⟩
theorem VsIn.lt (h : VsIn w base V F) : ∀ k, F k → base ≤ k ∧ k < w.heap.size := h.2
theorem VsIn.keepG (h : VsIn w base V F) (E2 : Gr w w' G) (hd : Dj F G) : VsIn w' base V F := AllIn.keepG h (fun _ _ _ h1 h2 => h1.keepG E2 h2) E2.size hd
theorem VsIn.kz (h : VsIn w base V F) (E9 : w.grownBy w' none) : VsIn w' base V F := h.keepG (Gr.of0 E9 NoB) (fun _ _ h => h)
theorem VsIn.nil (w : World) (base : Nat) : VsIn w base [] NoB := AllIn.nil w base
theorem VsIn.snoc (h : VsIn w base V F) (ha : VFr w L B d) (hL : base ≤ L) (hB : B ≤ w.heap.size) : VsIn w base (V ++ [d]) (fun k => F k ∨ (L ≤ k ∧ k < B)) := AllIn.snoc h ha hL hB
theorem VsIn.mono (h : VsIn w base V F) (hb : L ≤ base) : VsIn w L V F := ⟨fun a ha => by obtain ⟨L2, B, h1, h2, h3, h4⟩ := h.1 a ha; exact ⟨L2, B, h1, by omega, h3, h4⟩, fun k hk => ⟨by have := (h.2 k hk).1; omega, (h.2 k hk).2⟩⟩
theorem VsIn.fr (h : VsIn w base V F) (hn : V.length ≤ 1000) (O : Own w base 68 15 v V.length (V.flatMap cellsW)) : VsFr w base w.heap.size v V :=
  ⟨O.rdw, fun a ha => by obtain ⟨L, B, h1, h2, h3, _⟩ := h.1 a ha; exact h1.mono h2 h3, hn⟩
end
end Go.Gx

namespace Go.Proofs.YthflnkfghogaoaaGreat
open Go.Gx Go.RowKit
attribute [local irreducible] wpList wpStill Code.wp Calls

end Go.Proofs.YthflnkfghogaoaaGreat

namespace Go.Gx
theorem at_pre9 {pre mid suf : List Value} {j : Nat} {u : Value} (h : mid[j]? = some u) : (pre ++ mid ++ suf)[pre.length + j]? = some u := by
  have hj := (List.getElem?_eq_some_iff.1 h).1
  rw [List.append_assoc, List.getElem?_append_right (by omega), Nat.add_sub_cancel_left, List.getElem?_append_left hj]; exact h
end Go.Gx

namespace Go.Gx
theorem Own.notBx {w : World} {base e sz n b t : Nat} {v : Value} {cs ds : List Value} (O : Own w base e sz v n cs) (B : Bx w b t ds) (h : t ≠ e) : ¬ Bl v b := O.neB B h
theorem flat_take {α : Type} {f : α → List Value} {k : Nat} (hf : ∀ a, (f a).length = k) : ∀ (l : List α) (i : Nat), (l.flatMap f).take (i * k) = (l.take i).flatMap f
  | [], i => by simp
  | a :: l, 0 => by simp
  | a :: l, i + 1 => by
    rw [List.take_succ_cons, List.flatMap_cons, List.flatMap_cons, List.take_append, hf, ← flat_take hf l i]
    rw [List.take_of_length_le (by rw [hf, Nat.add_mul]; omega), show (i + 1) * k - k = i * k by rw [Nat.add_mul]; omega]
theorem rd_capC {w : World} {L B : Nat} {v : Value} {l : List PCol} (h : RdC w L B 3 v l.length (l.flatMap cellsC)) (hl : 0 < l.length) : ∃ c, CapIs v c ∧ l.length ≤ c := by
  obtain ⟨h1, a, c, rfl, h2, _, h3⟩ := h
  rcases h3 with h3 | ⟨b, off, rfl, _⟩
  · rw [h3] at h1; simp at h1; omega
  · exact ⟨c, .inr ⟨_, _, rfl⟩, h2⟩
theorem rd_hiC {w : World} {L B i : Nat} {v : Value} {l : List PCol} (h : RdC w L B 3 v l.length (l.flatMap cellsC)) (hi : i ≤ l.length) (hl : 0 < l.length) : RdC w L B 3 (hiV v i) (l.take i).length ((l.take i).flatMap cellsC) := by
  have e := flat_take (f := cellsC) (k := 3) (fun _ => rfl) l i
  obtain ⟨h1, a, c, rfl, h2, hm, h3⟩ := h
  have hlt : (l.take i).length = i := by rw [List.length_take]; omega
  rw [hlt, ← e]
  refine ⟨?_, a, c, rfl, by omega, hm, ?_⟩
  · rw [List.length_take, h1]; exact Nat.min_eq_left (Nat.mul_le_mul_right 3 hi)
  · rcases h3 with h3 | ⟨b, off, rfl, h4, h5, h6⟩
    · rw [h3] at h1; simp at h1; omega
    · refine .inr ⟨b, off, rfl, h4, h5, fun j u hu => h6 j u ?_⟩
      rw [List.getElem?_take] at hu
      split at hu
      · exact hu
      · cases hu
theorem ix_mem {α : Type} [DecidableEq α] [Inhabited α] {x : α} {l : List α} : 0 ≤ ixOf (fun y => decide (x = y)) l ↔ x ∈ l := by
  rcases ixOf_cases (fun y => decide (x = y)) l with ⟨h1, h2⟩ | ⟨i, h1, h2, h3, _⟩
  · rw [h1]
    refine ⟨fun h => absurd h (by decide), fun h => ?_⟩
    have := List.find?_eq_none.1 h2 x h
    simp at this
  · rw [h1]
    refine ⟨fun _ => ?_, fun _ => by omega⟩
    have e := of_decide_eq_true h3
    rw [e, List.getD_eq_getElem?_getD, List.getElem?_eq_getElem h2]
    exact List.getElem_mem h2
def colE (T : List PTab) (l : List PCol) (i : Nat) : Int :=
  if 0 ≤ ixOf (fun d => decide (d.nm = (l.getD i default).nm)) (l.take i) then 12
  else if (l.getD i default).kind ≠ 1 ∧ (l.getD i default).kind ≠ 2 then 11
  else if (l.getD i default).ref = [] then 0
  else if i = 0 ∨ 0 ≤ ixOf (fun d : PCol => decide (d.ref ≠ [])) (l.take i) then 14
  else match tabAt T (l.getD i default).ref with
    | none => 9
    | some t => if t.cols.length = 0 ∨ (t.cols.getD 0 default).kind ≠ (l.getD i default).kind then 11 else 0
def tabE (T : List PTab) (nm : List UInt8) (l : List PCol) : Int :=
  if (tabAt T nm).isSome then 12 else if 8 ≤ T.length then 25 else if l.length = 0 ∨ 6 < l.length then 7 else firstE ((List.range l.length).map (colE T l))
theorem tabE_4 {T : List PTab} {nm : List UInt8} {l : List PCol} (h : (tabAt T nm).isSome = false) (h2 : ¬ 8 ≤ T.length) (h3 : ¬ (l.length = 0 ∨ 6 < l.length)) : tabE T nm l = firstE ((List.range l.length).map (colE T l)) := by unfold tabE; rw [if_neg (by rw [h]; decide), if_neg h2, if_neg h3]
theorem tabE_hit {T : List PTab} {nm : List UInt8} {l : List PCol} {i : Nat} (h : (tabAt T nm).isSome = false) (h2 : ¬ 8 ≤ T.length) (h3 : ¬ (l.length = 0 ∨ 6 < l.length)) (hi : i < l.length) (ha : ∀ j, j < i → colE T l j = 0) (hx : colE T l i ≠ 0) : tabE T nm l = colE T l i := by
  rw [tabE_4 h h2 h3]
  have hl : ((List.range l.length).map (colE T l)).length = l.length := by simp
  have hg : ∀ j, j < l.length → ((List.range l.length).map (colE T l)).getD j 0 = colE T l j := fun j hj => range_map_take (α := Int) _ _ _ hj
  rw [firstE_at (i := i) (by rw [hl]; exact hi) (fun j hj => by rw [hg j (by omega)]; exact ha j hj) (by rw [hg i hi]; exact hx), hg i hi]
theorem tabE_ok {T : List PTab} {nm : List UInt8} {l : List PCol} {i : Nat} (h : (tabAt T nm).isSome = false) (h2 : ¬ 8 ≤ T.length) (h3 : ¬ (l.length = 0 ∨ 6 < l.length)) (hi : l.length ≤ i) (ha : ∀ j, j < i → colE T l j = 0) : tabE T nm l = 0 := by
  rw [tabE_4 h h2 h3]
  refine firstE_zero fun x hx => ?_
  obtain ⟨j, hj, rfl⟩ := List.mem_map.1 hx
  exact ha j (by have := List.mem_range.1 hj; omega)
theorem tab_is {D : List DTab} {nm : List UInt8} (h : 0 ≤ ixOf (fun d : DTab => decide (d.t.nm = nm)) D) : (tabAt (D.map DTab.t) nm).isSome = true := by
  obtain ⟨k, _, _, _, h4⟩ := tab_some (D := D) (nm := nm) (by omega); rw [h4]; rfl
theorem tab_isnt {D : List DTab} {nm : List UInt8} (h : ¬ 0 ≤ ixOf (fun d : DTab => decide (d.t.nm = nm)) D) : (tabAt (D.map DTab.t) nm).isSome = false := by rw [tab_none (by omega)]; rfl
def idxE (T : List PTab) (tb nm : List UInt8) : Int :=
  match tabAt T tb with
  | none => 9
  | some t => if colIx t.cols nm < 0 then 10 else if colIx t.cols nm = 0 ∨ nm ∈ t.idx then 12 else 0
theorem colE_1 {T : List PTab} {l : List PCol} {i : Nat} (h : 0 ≤ ixOf (fun d => decide (d.nm = (l.getD i default).nm)) (l.take i)) : colE T l i = 12 := if_pos h
theorem colE_2 {T : List PTab} {l : List PCol} {i : Nat} (h : ¬ 0 ≤ ixOf (fun d => decide (d.nm = (l.getD i default).nm)) (l.take i)) (h2 : (l.getD i default).kind ≠ 1 ∧ (l.getD i default).kind ≠ 2) : colE T l i = 11 := by unfold colE; rw [if_neg h, if_pos h2]
theorem colE_3 {T : List PTab} {l : List PCol} {i : Nat} (h : ¬ 0 ≤ ixOf (fun d => decide (d.nm = (l.getD i default).nm)) (l.take i)) (h2 : ¬ ((l.getD i default).kind ≠ 1 ∧ (l.getD i default).kind ≠ 2)) (h3 : (l.getD i default).ref = []) : colE T l i = 0 := by unfold colE; rw [if_neg h, if_neg h2, if_pos h3]
theorem colE_4 {T : List PTab} {l : List PCol} {i : Nat} (h : ¬ 0 ≤ ixOf (fun d => decide (d.nm = (l.getD i default).nm)) (l.take i)) (h2 : ¬ ((l.getD i default).kind ≠ 1 ∧ (l.getD i default).kind ≠ 2)) (h3 : ¬ (l.getD i default).ref = []) (h4 : i = 0 ∨ 0 ≤ ixOf (fun d : PCol => decide (d.ref ≠ [])) (l.take i)) : colE T l i = 14 := by unfold colE; rw [if_neg h, if_neg h2, if_neg h3, if_pos h4]
theorem colE_5 {T : List PTab} {l : List PCol} {i : Nat} (h : ¬ 0 ≤ ixOf (fun d => decide (d.nm = (l.getD i default).nm)) (l.take i)) (h2 : ¬ ((l.getD i default).kind ≠ 1 ∧ (l.getD i default).kind ≠ 2)) (h3 : ¬ (l.getD i default).ref = []) (h4 : ¬ (i = 0 ∨ 0 ≤ ixOf (fun d : PCol => decide (d.ref ≠ [])) (l.take i))) :
    colE T l i = (match tabAt T (l.getD i default).ref with | none => 9 | some t => if t.cols.length = 0 ∨ (t.cols.getD 0 default).kind ≠ (l.getD i default).kind then 11 else 0) := by unfold colE; rw [if_neg h, if_neg h2, if_neg h3, if_neg h4]
end Go.Gx

namespace Go.Gx
theorem vw_mem {V : List DVw} {x : List UInt8} : 0 ≤ ixOf (fun d : DVw => decide (d.nm = x)) V ↔ x ∈ V.map DVw.nm := by
  rcases ixOf_cases (fun d : DVw => decide (d.nm = x)) V with ⟨h1, h2⟩ | ⟨i, h1, h2, h3, _⟩
  · rw [h1]
    refine ⟨fun h => absurd h (by decide), fun h => ?_⟩
    obtain ⟨d, hd, rfl⟩ := List.mem_map.1 h
    have := List.find?_eq_none.1 h2 d hd
    simp at this
  · rw [h1]
    refine ⟨fun _ => ?_, fun _ => by omega⟩
    have e := of_decide_eq_true h3
    exact List.mem_map.2 ⟨_, getD_mem h2, e⟩
theorem VsFr.snoc {w : World} {L B : Nat} {v v' : Value} {V : List DVw} {d : DVw} (h : VsFr w L B v V) (hr : RdC w L B 15 v' (V ++ [d]).length ((V ++ [d]).flatMap cellsW)) (hd : VFr w L B d) (hn : V.length < 1000) : VsFr w L B v' (V ++ [d]) :=
  ⟨hr, fun a ha => (List.mem_append.1 ha).elim (h.2 a) fun q => by rw [List.mem_singleton] at q; subst q; exact hd, by simp; omega⟩
end Go.Gx
namespace Go.Proofs.YthflnkfghogaoaaGreat
open Go.Gx
def viewE (N : List (List UInt8)) (o : Lb) (s : XS) (k : List Int) : Int :=
  if s.f.nm ∈ N then 12 else if 8 ≤ N.length then 25 else if ownE o s.f.tags ≠ 0 then ownE o s.f.tags else if s.inner.length ≠ 1 ∨ ¬ (s.inner.getD 0 default).f.kind ∈ k then 1 else 0
def NewV (s : XS) (d : DVw) : Prop := d.nm = s.f.nm ∧ d.strip = normL s.f.tags ∧ SSame (s.inner.getD 0 default) d.act
end Go.Proofs.YthflnkfghogaoaaGreat
