/- Walks, written by a program: what each function of the translation hands back. -/
import Derived.Test.YtcpfdfejojghbaaB3
set_option linter.unusedVariables false
set_option linter.unusedSimpArgs false

namespace Go.Proofs.Ytcpfdfejojghbaa
open Go.Gx Go.RowKit
attribute [local irreducible] wpList wpStill Code.wp Calls
open Go.Bt
theorem newLI {w : World} : Ret Try.prog 22 #[] w (fun v' w' => Below w.heap.size w w' ∧ ∃ p F, v' = ptr p 0 ∧ TopL kI 71 w.heap.size w' p [] F) := (newI).mono fun v' w' h => by
  obtain ⟨E, p, e, T⟩ := h
  exact ⟨E, p, _, e, none, T, rfl⟩
theorem putLsI {M : List (Ky × (Int))} {k : List UInt8} {xv : Value} {x : Int} {F : Nat → Prop} {p base L B : Nat} {w : World} (hT : TopL kI 71 base w p M F) (hb : base ≤ w.heap.size) (hk : RdC w L B 1 xv k.length (k.map u8v)) (hB : B ≤ w.heap.size) (hap : ∀ j, F j → j < L ∨ B ≤ j) (hkn : k.length ≤ 1000000000) :
    Ret Try.prog 23 #[ptr p 0, xv, (Value.int .i64 x)] w (fun v' w' => Gr w w' F ∧ v' = .bool ((ks1 M).contains k) ∧ ∃ F', TopL kI 71 base w' p (putL k x M) F' ∧ NewF w.heap.size F F') := by
  obtain ⟨o, T, rfl⟩ := hT
  refine (putTopI T hb hk hB hap hkn).mono fun v' w' h => ?_
  obtain ⟨E, e, F', T', N⟩ := h
  exact ⟨E, e.trans (congrArg Value.bool (put_was T.2.2.1)), F', ⟨_, T', put_toL T.2.2.1⟩, N⟩
theorem scanLsI {M : List (Ky × (Int))} {F : Nat → Prop} {x : List UInt8} {xv : Value} {p base : Nat} {m : Int} {w : World} (hT : TopL kI 71 base w p M F) (hkl : ∀ q ∈ M, q.1.length ≤ 1000000000) (hxr : RdC w 0 w.heap.size 1 xv x.length (x.map u8v)) (hm : m ≤ 9223372036854775807) (hDM : M.length ≤ 100000) : Ret Try.prog 24 #[ptr p 0, xv, .int .i64 m] w (fun v' w' => Below w.heap.size w w' ∧ ∃ D2 : List (DP (Int)), Own w' w.heap.size 51 2 v' D2.length (D2.flatMap cI) ∧ (∀ x9 ∈ D2.map pk, Own w' w.heap.size 5 1 x9.1 x9.2.length (x9.2.map u8v)) ∧ D2.map Prod.snd = (geL x M).take m.toNat ∧ (D2.map pk).Pairwise (fun a b => Dj (Bl a.1) (Bl b.1))) := by
  obtain ⟨o, T, rfl⟩ := hT
  exact scanTopI T hkl hxr hm hDM
end Go.Proofs.Ytcpfdfejojghbaa

namespace Go.Gx
open Go.Bt Go.RowKit
section
variable {w w' : World} {base p n : Nat} {M : List (Ky × Int)} {F H : Nat → Prop} {k : Ky} {v : Int}
end
end Go.Gx
namespace Go.Gx
end Go.Gx
namespace Go.Gx
theorem getD_mem9 {α : Type} {l : List α} {i : Nat} {d : α} (h : i < l.length) : l.getD i d ∈ l := by
  rw [List.getD_eq_getElem?_getD, List.getElem?_eq_getElem h]; exact List.getElem_mem h
end Go.Gx
namespace Go.Gx
open Go.Bt Go.RowKit
section
variable {D : List (DP Int)} {M : List (Ky × Int)} {i k n : Nat}
end
end Go.Gx
namespace Go.Gx
open Go.Bt Go.RowKit
section
variable {V : Type} {κ : Kd V} {w : World} {F : Nat → Prop} {b base base' p tT e sz n : Nat} {M : List (Ky × V)} {v : Value} {cs : List Value}
theorem hapB (h : ¬ F b) : ∀ j, F j → j < b ∨ b + 1 ≤ j := fun j hj => by
  rcases Nat.lt_trichotomy j b with q | q | q
  · exact .inl q
  · subst q; exact absurd hj h
  · exact .inr q
theorem own_at (O : Own w base e sz v n cs) (hd : Dj (Bl v) F) : ∃ L B, RdC w L B sz v n cs ∧ B ≤ w.heap.size ∧ ∀ j, F j → j < L ∨ B ≤ j := by
  rcases hv : v.ownBlock with _ | b
  · refine ⟨w.heap.size, 0, ?_, Nat.zero_le _, fun j _ => .inr (Nat.zero_le _)⟩
    rcases O.2 with ⟨rfl, _⟩ | ⟨g, off, cap, cur, fr, rfl, _⟩
    · have hn : n = 0 := by rcases O with ⟨_, ⟨_, h⟩ | ⟨g, off, cap, cur, fr, h, _⟩⟩; exact h; cases h
      have hc : cs = [] := List.eq_nil_of_length_eq_zero (by rw [O.1, hn, Nat.zero_mul])
      subst hn; subst hc; exact RdC.nil _ _ _ _
    · cases hv
  · have h1 := O.rebase (base' := b) (fun k hk => by rw [hv] at hk; injection hk with hk; omega)
    refine ⟨b, b + 1, h1.rd (fun k hk => by rw [hv] at hk; injection hk with hk; omega), (O.lt b hv).2, hapB fun hf => hd b hv hf⟩
theorem TopL.rebase (T : TopL κ tT base w p M F) (h : base' ≤ base) : TopL κ tT base' w p M F := by
  obtain ⟨o, ⟨h1, h2, h3, h4⟩, e⟩ := T
  exact ⟨o, ⟨h1, fun k hk => ⟨Nat.le_trans h (h2 k hk).1, (h2 k hk).2⟩, h3, h4⟩, e⟩
end
end Go.Gx
namespace Go.Bt
end Go.Bt

namespace Go.Proofs.Ytcpfdfejojghbaa
open Go.Gx Go.RowKit
attribute [local irreducible] wpList wpStill Code.wp Calls
open Go.Bt
end Go.Proofs.Ytcpfdfejojghbaa

namespace Go.Proofs.Ytcpfdfejojghbaa
open Go.Gx
structure Vl where
  k : Int
  n : Int
  s : List UInt8
def okB (c : UInt8) : Bool := decide (32 ≤ c.toNat ∧ c.toNat ≤ 126)
def mayV (x : Vl) : Bool := if x.k = 1 then x.s.isEmpty else x.s.all okB && decide (x.k = 2) && decide (x.n = 0) && decide (x.s.length ≤ 30)
theorem take_snoc {l : List UInt8} {i : Nat} (h : i < l.length) : l.take (i + 1) = l.take i ++ [l.getD i 0] := by
  rw [List.take_succ_eq_append_getElem h]; simp [List.getD_eq_getElem?_getD, h]
def cmpV (x y : Vl) : Int := if x.k < y.k then -1 else if y.k < x.k then 1 else if x.k = 1 then cmpI x.n y.n else cmpT x.s y.s
def cmpW (x y : Vl) : Int := if cmpI x.k y.k ≠ 0 then cmpI x.k y.k else if cmpI x.n y.n ≠ 0 then cmpI x.n y.n else cmpT x.s y.s
def keyV (x : Vl) : List UInt8 := if x.k = 1 then 1 :: be8 (upN x.n) else 2 :: (x.s ++ [0])
def V0 : Vl := ⟨0, 0, []⟩
def scanT : List UInt8 → Nat → Int ⊕ Nat
  | [], _ => .inl 2
  | c :: r, i => if c.toNat = 0 then .inr i else if i = 30 ∨ okB c = false then .inl 3 else scanT r (i + 1)
def triT (b : List UInt8) : Int ⊕ Nat → Vl × Int × Int
  | .inr i => (⟨2, 0, b.take i⟩, (i : Int) + 2, 0)
  | .inl e => (V0, 0, e)
def textR (b : List UInt8) : Vl × Int × Int := triT b (scanT b 0)
def takeV (b : List UInt8) : Vl × Int × Int := match b with
  | [] => (V0, 0, 2)
  | c :: r => if c.toNat = 1 then (if b.length < 9 then (V0, 0, 2) else (⟨1, (ofBe (r.take 8) : Int) - 9223372036854775808, []⟩, 9, 0)) else if c.toNat = 2 then textR r else (V0, 0, 3)
theorem scan_step {b : List UInt8} {i : Nat} (h : i < b.length) : scanT (b.drop i) i = if (b.getD i 0).toNat = 0 then .inr i else if i = 30 ∨ okB (b.getD i 0) = false then .inl 3 else scanT (b.drop (i + 1)) (i + 1) := by
  rw [List.drop_eq_getElem_cons h]
  simp [scanT, List.getD_eq_getElem?_getD, h]
theorem scan_end {b : List UInt8} {i : Nat} (h : b.length ≤ i) : scanT (b.drop i) i = .inl 2 := by
  rw [List.drop_of_length_le h]; rfl
theorem ofBe_small {l : List UInt8} (h : l.length ≤ 7) : ofBe l < 72057594037927936 := by
  have h1 := ofBe_lt l
  have h2 : 256 ^ l.length ≤ 256 ^ 7 := Nat.pow_le_pow_right (by decide) h
  have h3 : (256 : Nat) ^ 7 = 72057594037927936 := by decide
  omega
theorem ofBe_8 {l : List UInt8} (h : l.length ≤ 8) : ofBe l < 18446744073709551616 := by
  have h1 := ofBe_lt l
  have h2 : 256 ^ l.length ≤ 256 ^ 8 := Nat.pow_le_pow_right (by decide) h
  have h3 : (256 : Nat) ^ 8 = 18446744073709551616 := by decide
  omega
theorem u8_rng (c : UInt8) : 0 ≤ (c.toNat : Int) ∧ (c.toNat : Int) ≤ 18446744073709551615 := by have := c.toNat_lt; omega
theorem take_lo {b : List UInt8} (h : b = []) : takeV b = (V0, 0, 2) := by subst h; rfl
theorem take_cons {b : List UInt8} (h : 0 < b.length) : takeV b = if (b.getD 0 0).toNat = 1 then (if b.length < 9 then (V0, 0, 2) else (⟨1, (ofBe ((b.drop 1).take 8) : Int) - 9223372036854775808, []⟩, 9, 0)) else if (b.getD 0 0).toNat = 2 then textR (b.drop 1) else (V0, 0, 3) := by
  cases b with
  | nil => simp at h
  | cons c r => rfl
theorem textR_of {b : List UInt8} {q : Int ⊕ Nat} (h : scanT b 0 = q) : textR b = triT b q := by rw [textR, h]
end Go.Proofs.Ytcpfdfejojghbaa

namespace Go.Proofs.Ytcpfdfejojghbaa
open Go.Gx
theorem cmpI_eq {m n : Int} : cmpI m n = 0 ↔ m = n := by simp only [cmpI]; (repeat' split) <;> omega
theorem cmpI_lt {m n : Int} : cmpI m n = -1 ↔ m < n := by simp only [cmpI]; (repeat' split) <;> omega
theorem cmpI_swap (m n : Int) : cmpI n m = - cmpI m n := by simp only [cmpI]; (repeat' split) <;> omega
theorem cmpT_be : ∀ (l1 l2 : List UInt8) (x y : Nat), l1.length = l2.length →
    (x < y → l1.foldl (fun x c => x * 256 + c.toNat) x < l2.foldl (fun x c => x * 256 + c.toNat) y) ∧ (y < x → l2.foldl (fun x c => x * 256 + c.toNat) y < l1.foldl (fun x c => x * 256 + c.toNat) x) ∧ (x = y → cmpT l1 l2 = cmpI (l1.foldl (fun x c => x * 256 + c.toNat) x : Nat) (l2.foldl (fun x c => x * 256 + c.toNat) y : Nat))
  | [], [], x, y, _ => ⟨fun h => h, fun h => h, fun h => by subst h; simp [cmpT, cmpI]⟩
  | [], _ :: _, _, _, h => by simp at h
  | _ :: _, [], _, _, h => by simp at h
  | a :: l1, b :: l2, x, y, h => by
    have ha := a.toNat_lt
    have hb := b.toNat_lt
    have ih := cmpT_be l1 l2 (x * 256 + a.toNat) (y * 256 + b.toNat) (by simpa using h)
    refine ⟨fun hxy => ih.1 (by omega), fun hxy => ih.2.1 (by omega), fun hxy => ?_⟩
    subst hxy
    simp only [cmpT, List.foldl_cons]
    by_cases h1 : a.toNat < b.toNat
    · rw [if_pos h1]
      have := ih.1 (by omega)
      exact (cmpI_lt.2 (by omega)).symm
    · rw [if_neg h1]
      by_cases h2 : b.toNat < a.toNat
      · rw [if_pos h2]
        have := ih.2.1 (by omega)
        have h3 := cmpI_swap (l2.foldl (fun x c => x * 256 + c.toNat) (x * 256 + b.toNat) : Nat) (l1.foldl (fun x c => x * 256 + c.toNat) (x * 256 + a.toNat) : Nat)
        rw [h3, cmpI_lt.2 (by omega)]; rfl
      · rw [if_neg h2]
        exact ih.2.2 (by omega)
theorem cmpT_ofBe {l1 l2 : List UInt8} (h : l1.length = l2.length) : cmpT l1 l2 = cmpI (ofBe l1 : Nat) (ofBe l2 : Nat) := (cmpT_be l1 l2 0 0 h).2.2 rfl
theorem ofBe_be8 {m : Nat} (h : m < 18446744073709551616) : ofBe (be8 m) = m := by
  have e : be8 m = [UInt8.ofNat (m / 2 ^ 56), UInt8.ofNat (m / 2 ^ 48), UInt8.ofNat (m / 2 ^ 40), UInt8.ofNat (m / 2 ^ 32), UInt8.ofNat (m / 2 ^ 24), UInt8.ofNat (m / 2 ^ 16), UInt8.ofNat (m / 2 ^ 8), UInt8.ofNat (m / 2 ^ 0)] := rfl
  rw [e]
  simp only [ofBe, List.foldl_cons, List.foldl_nil, UInt8.toNat_ofNat']
  omega
theorem cmpT_be8 {m n : Nat} (hm : m < 18446744073709551616) (hn : n < 18446744073709551616) : cmpT (be8 m) (be8 n) = cmpI (m : Int) (n : Int) := by
  rw [cmpT_ofBe (by rw [be8_len, be8_len]), ofBe_be8 hm, ofBe_be8 hn]
def OkV (x : Vl) : Prop := (-9223372036854775808 ≤ x.k ∧ x.k ≤ 9223372036854775807) ∧ (-9223372036854775808 ≤ x.n ∧ x.n ≤ 9223372036854775807) ∧ x.s.length ≤ 9223372036854775807
theorem cmpT_cons {a : UInt8} {l r : List UInt8} : cmpT (a :: l) (a :: r) = cmpT l r := by simp [cmpT]
theorem key_int {a b : Int} (ha : -9223372036854775808 ≤ a ∧ a ≤ 9223372036854775807) (hb : -9223372036854775808 ≤ b ∧ b ≤ 9223372036854775807) : cmpT (1 :: be8 (upN a)) (1 :: be8 (upN b)) = cmpI a b := by
  rw [cmpT_cons, cmpT_be8 (by unfold upN; omega) (by unfold upN; omega)]
  simp only [cmpI, upN]
  (repeat' split) <;> omega
theorem cmpT_zero : ∀ {s t : List UInt8}, s.all okB = true → t.all okB = true → cmpT (s ++ [0]) (t ++ [0]) = cmpT s t
  | [], [], _, _ => by simp [cmpT]
  | [], b :: t, _, h => by
    simp only [List.all_cons, Bool.and_eq_true] at h
    have : 32 ≤ b.toNat := (of_decide_eq_true h.1).1
    simp [cmpT]; omega
  | a :: s, [], h, _ => by
    simp only [List.all_cons, Bool.and_eq_true] at h
    have : 32 ≤ a.toNat := (of_decide_eq_true h.1).1
    simp [cmpT]; omega
  | a :: s, b :: t, h, h' => by
    simp only [List.all_cons, Bool.and_eq_true] at h h'
    simp only [List.cons_append, cmpT, cmpT_zero h.2 h'.2]
theorem may_cases {x : Vl} (h : mayV x = true) : (x.k = 1 ∧ x.s = []) ∨ (x.k = 2 ∧ x.n = 0 ∧ x.s.all okB = true ∧ x.s.length ≤ 30) := by
  unfold mayV at h
  split at h
  · exact .inl ⟨by assumption, by simpa using h⟩
  · simp at h
    exact .inr ⟨h.1.1.2, h.1.2, by simpa using h.1.1.1, h.2⟩
theorem may_len {x : Vl} (h : mayV x = true) : x.s.length ≤ 30 := by
  rcases may_cases h with ⟨_, h⟩ | ⟨_, _, _, h⟩
  · rw [h]; decide
  · exact h
theorem keys_stand {x y : Vl} (hx : mayV x = true) (hy : mayV y = true) (ox : OkV x) (oy : OkV y) : cmpT (keyV x) (keyV y) = cmpW x y := by
  obtain ⟨k, n, s⟩ := x
  obtain ⟨k', n', s'⟩ := y
  rcases may_cases hx with ⟨h1, h2⟩ | ⟨h1, h2, h3, h4⟩ <;> rcases may_cases hy with ⟨g1, g2⟩ | ⟨g1, g2, g3, g4⟩ <;> simp only at h1 h2 g1 g2 <;> subst h1 <;> subst h2 <;> subst g1 <;> subst g2
  · have := key_int ox.2.1 oy.2.1
    simp only [keyV, if_true, cmpW]
    rw [this]
    simp only [cmpI_eq.2 rfl, ne_eq, not_true_eq_false, if_false, cmpT]
    split
    · rfl
    · rename_i h; simpa using h
  · simp [keyV, cmpW, cmpT, cmpI]
  · simp [keyV, cmpW, cmpT, cmpI]
  · simp only [keyV, cmpW]
    rw [if_neg (by decide), if_neg (by decide), cmpT_cons, cmpT_zero h3 g3]
    simp [cmpI]
theorem cmpW_cmpV {x y : Vl} (hx : mayV x = true) (hy : mayV y = true) : cmpW x y = cmpV x y := by
  obtain ⟨k, n, s⟩ := x
  obtain ⟨k', n', s'⟩ := y
  rcases may_cases hx with ⟨h1, h2⟩ | ⟨h1, h2, h3, h4⟩ <;> rcases may_cases hy with ⟨g1, g2⟩ | ⟨g1, g2, g3, g4⟩ <;> simp only at h1 h2 g1 g2 <;> subst h1 <;> subst h2 <;> subst g1 <;> subst g2 <;> simp [cmpW, cmpV, cmpI, cmpT] <;> (try (intro h; exact h.symm))
theorem cmpW_zero {x y : Vl} : cmpW x y = 0 ↔ x = y := by
  obtain ⟨k, n, s⟩ := x
  obtain ⟨k', n', s'⟩ := y
  simp only [cmpW, Vl.mk.injEq]
  constructor
  · intro h
    split at h
    · exact absurd h (by assumption)
    · split at h
      · exact absurd h (by assumption)
      · rename_i h1 h2
        exact ⟨cmpI_eq.1 (by simpa using h1), cmpI_eq.1 (by simpa using h2), cmpT_eq h⟩
  · rintro ⟨rfl, rfl, rfl⟩
    simp [cmpI_eq.2 rfl, cmpT_refl]
theorem keyV_le (x : Vl) : (keyV x).length ≤ x.s.length + 9 := by
  unfold keyV
  split
  · rw [List.length_cons, be8_len]; omega
  · simp
theorem scan_text : ∀ {s r : List UInt8} {i : Nat}, s.all okB = true → i + s.length ≤ 30 → scanT (s ++ 0 :: r) i = .inr (i + s.length)
  | [], r, i, _, _ => by simp [scanT]
  | a :: s, r, i, h, hl => by
    simp only [List.all_cons, Bool.and_eq_true] at h
    have h1 : 32 ≤ a.toNat := (of_decide_eq_true h.1).1
    simp only [List.length_cons] at hl
    simp only [List.cons_append, scanT]
    rw [if_neg (by omega), if_neg (by rintro (h2 | h2); · omega
                                      · rw [h.1] at h2; cases h2), scan_text h.2 (by omega)]
    simp only [List.length_cons]; congr 1; omega
theorem take_key {x : Vl} (hx : mayV x = true) (ox : OkV x) (r : List UInt8) : takeV (keyV x ++ r) = (x, ((keyV x).length : Int), 0) := by
  obtain ⟨k, n, s⟩ := x
  rcases may_cases hx with ⟨h1, h2⟩ | ⟨h1, h2, h3, h4⟩ <;> simp only at h1 h2 <;> subst h1 <;> subst h2
  · have hn : -9223372036854775808 ≤ n ∧ n ≤ 9223372036854775807 := ox.2.1
    have e : keyV ⟨1, n, []⟩ = 1 :: be8 (upN n) := by simp [keyV]
    rw [e]
    simp only [List.cons_append, takeV]
    rw [if_pos (by decide), if_neg (by simp [be8_len]), List.take_append_of_le_length (by simp [be8_len]), List.take_of_length_le (by simp [be8_len]), ofBe_be8 (by unfold upN; omega)]
    simp only [List.length_cons, be8_len, Prod.mk.injEq, Vl.mk.injEq, true_and, and_true]
    refine ⟨?_, by decide⟩
    unfold upN; omega
  · simp only at h3 h4
    have e : keyV ⟨2, 0, s⟩ = 2 :: (s ++ [0]) := by simp [keyV]
    rw [e]
    have e2 : (2 :: (s ++ [0])) ++ r = 2 :: (s ++ 0 :: r) := by simp
    rw [e2]
    simp only [takeV]
    rw [if_neg (by decide), if_pos (by decide), textR_of (scan_text h3 (by omega))]
    simp [triT]; omega
theorem key_prefix {x y : Vl} (hx : mayV x = true) (hy : mayV y = true) (ox : OkV x) (oy : OkV y) (h : (keyV y).take (keyV x).length = keyV x) : x = y := by
  have h1 := take_key hx ox ((keyV y).drop (keyV x).length)
  have h2 := take_key hy oy []
  rw [List.append_nil] at h2
  have h3 : keyV x ++ (keyV y).drop (keyV x).length = keyV y := by
    conv => rhs; rw [← List.take_append_drop (keyV x).length (keyV y), h]
  rw [h3, h2] at h1
  exact (congrArg Prod.fst h1).symm
theorem vl_ext {x y : Vl} (h : x.k = y.k ∧ x.n = y.n ∧ x.s = y.s) : x = y := by
  obtain ⟨k, n, s⟩ := x
  obtain ⟨k', n', s'⟩ := y
  obtain ⟨h1, h2, h3⟩ := h
  simp only at h1 h2 h3
  rw [h1, h2, h3]
end Go.Proofs.Ytcpfdfejojghbaa

namespace Go.Proofs.Ytcpfdfejojghbaa
open Go.Gx
def cellsV (x : Vl) : List Value := [.int .i64 x.k, .int .i64 x.n, .string (bs x.s)]
theorem el_flat {α : Type} {f : α → List Value} {sz : Nat} (hf : ∀ u, (f u).length = sz) (hp : 0 < sz) {l : List α} {d : α} {e : Int} {i : Nat} (he : e = (i : Int)) (h : i < l.length) {j : Nat} {u : Value} (hu : (f (l.getD i d))[j]? = some u) :
    (l.flatMap f)[e.toNat * sz + j]? = some u := by
  have hj : j < sz := by rw [← hf (l.getD i d)]; exact (List.getElem?_eq_some_iff.1 hu).1
  subst he
  rw [flat_get hp l fun v _ => hf v]
  have e1 : ((i : Int).toNat * sz + j) / sz = i := by rw [Int.toNat_natCast, Nat.add_comm, Nat.add_mul_div_right _ _ hp, Nat.div_eq_of_lt hj, Nat.zero_add]
  have e2 : ((i : Int).toNat * sz + j) % sz = j := by rw [Int.toNat_natCast, Nat.add_comm, Nat.add_mul_mod_self_right, Nat.mod_eq_of_lt hj]
  rw [e1, e2, List.getElem?_eq_getElem h]
  simpa [List.getD_eq_getElem?_getD, h] using hu
theorem el_val {l : List Vl} {e : Int} {i j : Nat} {u : Value} (he : e = (i : Int)) (h : i < l.length) (hu : (cellsV (l.getD i V0))[j]? = some u) : (l.flatMap cellsV)[e.toNat * 3 + j]? = some u :=
  el_flat (f := cellsV) (sz := 3) (fun _ => rfl) (by decide) he h hu
theorem snoc {α : Type} {l : List α} {d : α} {i : Nat} (h : i < l.length) : l.take (i + 1) = l.take i ++ [l.getD i d] := by
  rw [List.take_succ_eq_append_getElem h]; simp [List.getD_eq_getElem?_getD, h]
instance : DecidableEq Vl := fun x y => if h : x.k = y.k ∧ x.n = y.n ∧ x.s = y.s then isTrue (vl_ext h) else isFalse (fun e => h (by subst e; exact ⟨rfl, rfl, rfl⟩))
theorem scanT_val : ∀ (b : List UInt8) (i : Nat), (∃ j, scanT b i = .inr j ∧ i ≤ j ∧ j < i + b.length) ∨ scanT b i = .inl 2 ∨ scanT b i = .inl 3
  | [], i => .inr (.inl rfl)
  | c :: r, i => by
    unfold scanT
    split
    · exact .inl ⟨i, rfl, by omega, by simp⟩
    · split
      · exact .inr (.inr rfl)
      · rcases scanT_val r (i + 1) with ⟨j, h1, h2, h3⟩ | h | h
        · exact .inl ⟨j, h1, by omega, by simp; omega⟩
        · exact .inr (.inl h)
        · exact .inr (.inr h)
theorem takeV_len (b : List UInt8) : 0 ≤ (takeV b).2.1 ∧ (takeV b).2.1 ≤ b.length ∧ ((takeV b).2.2 = 0 ∨ (takeV b).2.2 = 2 ∨ (takeV b).2.2 = 3) := by
  unfold takeV
  split
  · simp [V0]
  · rename_i c r
    split
    · split
      · simp; omega
      · rename_i hh; simp at hh ⊢; omega
    · split
      · unfold textR
        rcases scanT_val r 0 with ⟨j, h1, h2, h3⟩ | h | h
        · rw [h1]; simp [triT]; omega
        · rw [h]; simp [triT]; omega
        · rw [h]; simp [triT]; omega
      · simp; omega
end Go.Proofs.Ytcpfdfejojghbaa

namespace Go.Proofs.Ytcpfdfejojghbaa
open Go.Gx Go.RowKit
attribute [local irreducible] wpList wpStill Code.wp Calls

theorem may_ret (c : UInt8) (w : World) : Ret Try.prog 123 #[(Value.int .u8 (c.toNat : Int))] w (fun v' w' => v' = .bool (okB c) ∧ w' = w) := by
 refine enter (N := 9) Try.func123 rfl rfl (by simp) fun a0 hN hd hA => ?_
 have s0 : a0.tmps.getD 0 undef = (Value.int .u8 (c.toNat : Int)) := hA 0 (by simp)
 clear hA
 refine seq_any fun K599 hK599 => one_reg (op_assign rfl (reg_nil (hK599 _ _ (seq_any fun K600 hK600 => ?_))))
 refine one_reg (op_move (ev_base hN rfl s0) (op_geq (ev_hit hN rfl) rfl (fun c4 => ?_) (fun c4 => ?_)))
 ·
  refine op_move (ev_hit hN rfl) (g_true (j := 2) (dj := 5) (b := true) rfl rfl rfl (ev_hit hN rfl) (op_move (ev_base hN rfl s0) (g_true (j := 2) (dj := 5) (b := true) rfl rfl rfl (ev_hit hN rfl) (op_leq (ev_hit hN rfl) rfl (fun c7 => ?_) (fun c7 => ?_)))))
  ·
   refine op_pick_t (ev_hit hN rfl) (ev_hit hN rfl) ?_
   refine op_assign (ev_hit hN rfl) (reg_nil (hK600 _ _ (wp_ret ?_)))
   refine ret1 rfl hd (ev_hit hN rfl) ⟨_, rfl, ?_⟩
   exact ⟨congrArg Value.bool (by simp [okB]; omega), rfl⟩
  ·
   refine op_pick_t (ev_hit hN rfl) (ev_hit hN rfl) ?_
   refine op_assign (ev_hit hN rfl) (reg_nil (hK600 _ _ (wp_ret ?_)))
   refine ret1 rfl hd (ev_hit hN rfl) ⟨_, rfl, ?_⟩
   exact ⟨congrArg Value.bool (by simp [okB]; omega), rfl⟩
 ·
  refine op_move (ev_hit hN rfl) (g_false (j := 2) (dj := 5) (b := true) rfl rfl rfl (ev_hit hN rfl) rfl rfl (g_false (j := 2) (dj := 5) (b := true) rfl rfl rfl (ev_hit hN rfl) rfl rfl (op_pick_f (ev_hit hN rfl) rfl ?_)))
  refine op_assign (ev_hit hN rfl) (reg_nil (hK600 _ _ (wp_ret ?_)))
  refine ret1 rfl hd (ev_hit hN rfl) ⟨_, rfl, ?_⟩
  exact ⟨congrArg Value.bool (by simp [okB]; omega), rfl⟩

theorem Key_ret (bl : List UInt8) (x : Vl) (v : Value) (w : World) (hl : bl.length ≤ 1000000000) (hs : x.s.length ≤ 1000000000) (hn : -9223372036854775808 ≤ x.n ∧ x.n ≤ 9223372036854775807) (hv : RdC w 0 w.heap.size 1 v bl.length (bl.map u8v)) : Ret Try.prog 60 #[v, (Value.agg #[(Value.int .i64 x.k), (Value.int .i64 x.n), (Value.string (bs x.s))])] w (fun v' w' => Below w.heap.size w w' ∧ Own w' w.heap.size 5 1 v' (bl.length + (keyV x).length) ((bl ++ keyV x).map u8v)) := by
 have hb := Below.refl w.heap.size w
 refine enter (N := 43) Try.func60 rfl rfl (by simp) fun a0 hN hd hA => ?_
 have s0 : a0.tmps.getD 0 undef = v := hA 0 (by simp)
 have s1 : a0.tmps.getD 1 undef = (Value.agg #[(Value.int .i64 x.k), (Value.int .i64 x.n), (Value.string (bs x.s))]) := hA 1 (by simp)
 clear hA
 refine seq_any fun K601 hK601 => one_reg (op_box (cs := [(Value.int .i64 x.k), (Value.int .i64 x.n), (Value.string (bs x.s))]) (ev_base hN rfl s1) rfl ?_)
 intro w602 b603 lo_b603 hi_b603 hB605 E604
 have z_w602 := E604.size
 have hv := hv.keep0 E604
 have hb := below_step0 hb E604 hb.size
 refine op_assign rfl (reg_nil (hK601 _ _ (seq_any fun K606 hK606 => one_reg (op_bslice (e := 5) (pv := []) (cs := []) trivial (by kernel_rfl) ?_))))
 intro w607 b608 lo_b608 hi_b608 hB610 E609
 have z_w607 := E609.size
 have hv := hv.keep0 E609
 have hB605 := hB605.keep0 E609
 have hb := below_step0 hb E609 hb.size
 refine op_move (ev_base hN rfl s0) ?_
 have hP616 := (Own.ofBx (base := w.heap.size) (sz := 1) (n := 0) hB610 rfl (by decide) (by omega))
 refine op_append slt27 (ev_hit hN rfl) hP616 (ev_hit hN rfl) (Src.ofRd Try.underlying27 (by decide) hv (by simp [Value.oneCell', u8v])) (by unfold maxLen; omega) (by omega) hb.size ?_
 intro v611 w612 hO614 E613 hm615
 have z_w612 := E613.size
 have hv := hv.keepO hP616 E613 (by omega)
 have hB605 := hB605.keep E613 (by simp [Value.ownBlock]; try omega)
 have hb := below_stepO hb hP616 E613 hb.size (by omega)
 have hO614 : Own w612 w.heap.size 5 1 v611 (0 + bl.length) ((bl).map u8v) := by simpa [u8v, u16v, cellsV] using hO614
 refine op_assign (ev_hit hN rfl) (reg_nil (hK606 _ _ (seq_any fun K617 hK617 => seq_any fun K618 hK618 => ?_)))
 refine one_reg (op_field fld74_0 (ev_hit hN rfl) (op_load1 (v := (Value.int .i64 x.k)) one3 (ev_hit hN rfl) (hB605.cell rfl) (op_eql (ev_hit hN rfl) rfl (fun c13 => ?_) (fun c13 => ?_))))
 ·
  refine reg_nil (hK618 _ _ (wp_cond_true (ev_hit hN rfl) (seq_any fun K619 hK619 => one_reg (op_move (ev_hit hN rfl) (op_bslice (e := 5) (pv := [(0, (Value.int .u8 1))]) (cs := [(Value.int .u8 1)]) ⟨rfl, rfl, trivial⟩ (by kernel_rfl) ?_)))))
  intro w620 b621 lo_b621 hi_b621 hB623 E622
  have z_w620 := E622.size
  have hv := hv.keep0 E622
  have hB605 := hB605.keep0 E622
  have hO614 := hO614.keep0 E622
  have hb := below_step0 hb E622 hb.size
  have hP629 := hO614
  refine op_append slt27 (ev_hit hN rfl) hP629 (ev_hit hN rfl) (Src.ofRd Try.underlying27 (by decide) (RdC.ofBx (sz := 1) (n := 1) hB623 rfl (by decide)) (by simp [Value.oneCell', u8v])) (by unfold maxLen; omega) (by omega) hb.size ?_
  intro v624 w625 hO627 E626 hm628
  have z_w625 := E626.size
  have hv := hv.keepO hP629 E626 (by omega)
  have hB605 := hB605.keepO hP629 E626 (by decide)
  have hb := below_stepO hb hP629 E626 hb.size (by omega)
  have hO627 : Own w625 w.heap.size 5 1 v624 ((0 + bl.length) + 1) (((bl ++ [1])).map u8v) := by simpa [u8v, u16v, cellsV] using hO627
  refine op_assign (ev_hit hN rfl) ?_
  refine reg_nil (hK619 _ _ (seq_any fun K630 hK630 => one_reg (op_field fld74_1 (ev_hit hN rfl) (op_load1 (v := (Value.int .i64 x.n)) one2 (ev_hit hN rfl) (hB605.cell rfl) (op_conv (r := ((if x.n < 0 then (x.n + 18446744073709551616).toNat else x.n.toNat : Nat) : Int)) (ev_hit hN rfl) us2 Try.underlying79 (u64_of_i64 hn) ?_)))))
  refine op_xor (r := (upN x.n : Int)) (ev_hit hN rfl) rfl (xor_up hn) ?_
  refine op_assign (ev_hit hN rfl) (reg_nil (hK630 _ _ ?_))
  refine seq_any fun K631 hK631 => seq_any fun K632 hK632 => one_reg (op_assign rfl (reg_nil (hK632 _ _ (wp_block ?_))))
  refine loop_m (fun mz_ az_ w' => ∃ (i : Nat) (u : Value), mz_ = 8 - i ∧ (az_.tmps.getD 0 undef = v) ∧ (az_.tmps.getD 1 undef = (Value.agg #[(Value.int .i64 x.k), (Value.int .i64 x.n), (Value.string (bs x.s))])) ∧ (az_.tmps.getD 3 undef = (ptr b603 0)) ∧ (az_.tmps.getD 4 undef = (Value.slice none 0 0)) ∧ (az_.tmps.getD 6 undef = (Value.int .u64 (upN x.n : Int))) ∧ (az_.tmps.getD 8 undef = (Value.slice (some ⟨b608, 0, none⟩) 0 0)) ∧ (az_.tmps.getD 9 undef = v) ∧ (az_.tmps.getD 10 undef = v611) ∧ (az_.tmps.getD 11 undef = (ptr b603 0)) ∧ (az_.tmps.getD 12 undef = (Value.int .i64 x.k)) ∧ (az_.tmps.getD 13 undef = (Value.bool true)) ∧ (az_.tmps.getD 14 undef = v611) ∧ (az_.tmps.getD 15 undef = (Value.slice (some ⟨b621, 0, none⟩) 1 1)) ∧ (az_.tmps.getD 16 undef = v624) ∧ (az_.tmps.getD 17 undef = (ptr b603 1)) ∧ (az_.tmps.getD 18 undef = (Value.int .i64 x.n)) ∧ (az_.tmps.getD 19 undef = (Value.int .u64 ((if x.n < 0 then (x.n + 18446744073709551616).toNat else x.n.toNat : Nat) : Int))) ∧ (az_.tmps.getD 20 undef = (Value.int .u64 (upN x.n : Int))) ∧ (az_.tmps.getD 7 undef = (Value.int .i64 (56 - 8 * (i : Int)))) ∧ (az_.tmps.getD 5 undef = u) ∧ (i ≤ 8) ∧ (Below w.heap.size w w') ∧ (w625.heap.size ≤ w'.heap.size) ∧ (RdC w' 0 w.heap.size 1 v bl.length (bl.map u8v)) ∧ (Bx w' b603 74 [(Value.int .i64 x.k), (Value.int .i64 x.n), (Value.string (bs x.s))]) ∧ (Own w' w.heap.size 5 1 u (bl.length + 1 + i) (((bl ++ 1 :: (be8 (upN x.n)).take i)).map u8v))) _ hN hd ⟨0, _, rfl, (sl_base hN rfl s0), (sl_base hN rfl s1), (sl_hit hN rfl), (sl_hit hN rfl), (sl_hit hN rfl), (sl_hit hN rfl), (sl_hit hN rfl), (sl_hit hN rfl), (sl_hit hN rfl), (sl_hit hN rfl), (sl_hit hN rfl), (sl_hit hN rfl), (sl_hit hN rfl), (sl_hit hN rfl), (sl_hit hN rfl), (sl_hit hN rfl), (sl_hit hN rfl), (sl_hit hN rfl), (sl_hit hN rfl).trans (congrArg (Value.int .i64) (by omega)), (sl_hit hN rfl), Nat.zero_le _, hb, (Nat.le_refl _), hv, hB605, (by simpa [Nat.add_comm] using hO627)⟩ ?_
  rintro _ a633 w633 hN633 hd633 ⟨i, u, rfl, s633_0, s633_1, s633_3, s633_4, s633_6, s633_8, s633_9, s633_10, s633_11, s633_12, s633_13, s633_14, s633_15, s633_16, s633_17, s633_18, s633_19, s633_20, s633_7, s633_5, hi, hb, zl_w633, hv, hB605, hO634⟩
  have z_w633 := hb.size
  refine seq_any fun K635 hK635 => seq_any fun K636 hK636 => ?_
  refine one_reg (op_move (ev_base hN633 rfl s633_7) (op_geq (ev_hit hN633 rfl) rfl (fun c22 => ?_) (fun c22 => ?_)))
  ·
   refine reg_nil (hK636 _ _ (wp_cond_true (ev_hit hN633 rfl) (wp_skip (hK635 _ _ (seq_any fun K637 hK637 => wp_block ?_)))))
   refine one_reg (op_move (ev_base hN633 rfl s633_5) (op_move (ev_base hN633 rfl s633_6) (op_move (ev_base hN633 rfl s633_7) (op_conv (r := (56 - 8 * (i : Int))) (ev_hit hN633 rfl) us3 Try.underlying26 (wrap_u64 (by omega)) ?_))))
   refine op_shr (r := (((upN x.n / 2 ^ (56 - 8 * i)) : Nat) : Int)) (ev_hit hN633 rfl) (ev_hit hN633 rfl) (by omega) (shr_nat (j := 56 - 8 * i) (by omega) (by show 56 - 8 * i ≤ 64; omega)) ?_
   refine op_conv (r := ((UInt8.ofNat (upN x.n / 2 ^ (56 - 8 * i))).toNat : Int)) (ev_hit hN633 rfl) us79 Try.underlying5 conv_u8 ?_
   refine op_bslice (e := 5) (pv := [(0, (Value.int .u8 ((UInt8.ofNat (upN x.n / 2 ^ (56 - 8 * i))).toNat : Int)))]) (cs := [(Value.int .u8 ((UInt8.ofNat (upN x.n / 2 ^ (56 - 8 * i))).toNat : Int))]) ⟨rfl, (ev_hit hN633 rfl), trivial⟩ (by kernel_rfl) ?_
   intro w638 b639 lo_b639 hi_b639 hB641 E640
   have z_w638 := E640.size
   have hv := hv.keep0 E640
   have hB605 := hB605.keep0 E640
   have hO634 := hO634.keep0 E640
   have hb := below_step0 hb E640 hb.size
   have hP647 := hO634
   refine op_append slt27 (ev_hit hN633 rfl) hP647 (ev_hit hN633 rfl) (Src.ofRd Try.underlying27 (by decide) (RdC.ofBx (sz := 1) (n := 1) hB641 rfl (by decide)) (by simp [Value.oneCell', u8v])) (by unfold maxLen; omega) (by omega) hb.size ?_
   intro v642 w643 hO645 E644 hm646
   have z_w643 := E644.size
   have hv := hv.keepO hP647 E644 (by omega)
   have hB605 := hB605.keepO hP647 E644 (by decide)
   have hb := below_stepO hb hP647 E644 hb.size (by omega)
   have hO645 : Own w643 w.heap.size 5 1 v642 ((bl.length + 1 + i) + 1) ((((bl ++ 1 :: (be8 (upN x.n)).take i) ++ [(UInt8.ofNat (upN x.n / 2 ^ (56 - 8 * i)))])).map u8v) := by simpa [u8v, u16v, cellsV] using hO645
   refine op_assign (ev_hit hN633 rfl) (reg_nil (hK637 _ _ (one_reg (op_move (ev_base hN633 rfl s633_7) (op_sub (ev_hit hN633 rfl) rfl (sub64 (by omega)) ?_)))))
   refine op_assign (ev_hit hN633 rfl) (reg_nil ?_)
   -- round 13T 22T
   exact loop_next _ hN633 hd633 ⟨i + 1, _, rfl, (sl_base hN633 rfl s633_0), (sl_base hN633 rfl s633_1), (sl_base hN633 rfl s633_3), (sl_base hN633 rfl s633_4), (sl_base hN633 rfl s633_6), (sl_base hN633 rfl s633_8), (sl_base hN633 rfl s633_9), (sl_base hN633 rfl s633_10), (sl_base hN633 rfl s633_11), (sl_base hN633 rfl s633_12), (sl_base hN633 rfl s633_13), (sl_base hN633 rfl s633_14), (sl_base hN633 rfl s633_15), (sl_base hN633 rfl s633_16), (sl_base hN633 rfl s633_17), (sl_base hN633 rfl s633_18), (sl_base hN633 rfl s633_19), (sl_base hN633 rfl s633_20), (sl_hit hN633 rfl).trans (congrArg (Value.int .i64) (by omega)), (sl_hit hN633 rfl), (by omega), hb, (by omega), hv, hB605, (by have hq := hO645; rw [be8_take (by omega)]; simpa [Nat.add_assoc] using hq)⟩ (by omega)
  ·
   refine reg_nil (hK636 _ _ (wp_cond_false (ev_hit hN633 rfl) (wp_exit (then_exit (then_exit (blk_hit ?_))))))
   refine hK631 _ _ ?_
   refine seq_any fun K648 hK648 => one_reg (op_move (ev_base hN633 rfl s633_5) (op_assign (ev_hit hN633 rfl) (reg_nil (hK648 _ _ (wp_ret (then_ret ( ?_)))))))
   refine ret1 rfl hd633 (ev_hit hN633 rfl) ⟨_, rfl, ?_⟩
   have hi8 : i = 8 := by omega
   subst hi8
   exact ⟨hb, by simpa [keyV, c13, be8_len, List.take_of_length_le, Nat.add_assoc] using hO634⟩
 ·
  refine reg_nil (hK618 _ _ ?_)
  refine wp_cond_false (ev_hit hN rfl) (wp_skip (hK617 _ _ (seq_any fun K649 hK649 => one_reg (op_move (ev_hit hN rfl) (op_bslice (e := 5) (pv := [(0, (Value.int .u8 2))]) (cs := [(Value.int .u8 2)]) ⟨rfl, rfl, trivial⟩ (by kernel_rfl) ?_)))))
  intro w650 b651 lo_b651 hi_b651 hB653 E652
  have z_w650 := E652.size
  have hB605 := hB605.keep0 E652
  have hO614 := hO614.keep0 E652
  have hb := below_step0 hb E652 hb.size
  have hP659 := hO614
  refine op_append slt27 (ev_hit hN rfl) hP659 (ev_hit hN rfl) (Src.ofRd Try.underlying27 (by decide) (RdC.ofBx (sz := 1) (n := 1) hB653 rfl (by decide)) (by simp [Value.oneCell', u8v])) (by unfold maxLen; omega) (by omega) hb.size ?_
  intro v654 w655 hO657 E656 hm658
  have z_w655 := E656.size
  have hB605 := hB605.keepO hP659 E656 (by decide)
  have hb := below_stepO hb hP659 E656 hb.size (by omega)
  have hO657 : Own w655 w.heap.size 5 1 v654 ((0 + bl.length) + 1) (((bl ++ [2])).map u8v) := by simpa [u8v, u16v, cellsV] using hO657
  refine op_assign (ev_hit hN rfl) ?_
  refine reg_nil (hK649 _ _ (seq_any fun K660 hK660 => one_reg (op_move (ev_hit hN rfl) (op_field fld74_2 (ev_hit hN rfl) (op_load1 (v := (Value.string (bs x.s))) one9 (ev_hit hN rfl) (hB605.cell rfl) ?_)))))
  have hP666 := hO657
  refine op_append slt27 (ev_hit hN rfl) hP666 (ev_hit hN rfl) (Src.ofBs Try.underlying9 x.s) (by unfold maxLen; omega) (by omega) hb.size ?_
  intro v661 w662 hO664 E663 hm665
  have z_w662 := E663.size
  have hb := below_stepO hb hP666 E663 hb.size (by omega)
  have hO664 : Own w662 w.heap.size 5 1 v661 (((0 + bl.length) + 1) + x.s.length) ((((bl ++ [2]) ++ x.s)).map u8v) := by simpa [u8v, u16v, cellsV] using hO664
  refine op_bslice (e := 5) (pv := [(0, (Value.int .u8 0))]) (cs := [(Value.int .u8 0)]) ⟨rfl, rfl, trivial⟩ (by kernel_rfl) ?_
  intro w667 b668 lo_b668 hi_b668 hB670 E669
  have z_w667 := E669.size
  have hO664 := hO664.keep0 E669
  have hb := below_step0 hb E669 hb.size
  have hP676 := hO664
  refine op_append slt27 (ev_hit hN rfl) hP676 (ev_hit hN rfl) (Src.ofRd Try.underlying27 (by decide) (RdC.ofBx (sz := 1) (n := 1) hB670 rfl (by decide)) (by simp [Value.oneCell', u8v])) (by unfold maxLen; omega) (by omega) hb.size ?_
  intro v671 w672 hO674 E673 hm675
  have z_w672 := E673.size
  have hb := below_stepO hb hP676 E673 hb.size (by omega)
  have hO674 : Own w672 w.heap.size 5 1 v671 ((((0 + bl.length) + 1) + x.s.length) + 1) (((((bl ++ [2]) ++ x.s) ++ [0])).map u8v) := by simpa [u8v, u16v, cellsV] using hO674
  refine op_assign (ev_hit hN rfl) (reg_nil (hK660 _ _ (wp_ret ?_)))
  refine ret1 rfl hd (ev_hit hN rfl) ⟨_, rfl, ?_⟩
  exact ⟨hb, by simpa [keyV, c13, Nat.add_assoc, Nat.add_comm, Nat.add_left_comm] using hO674⟩

theorem text_ret (bl : List UInt8) (v : Value) (w : World) (hl : bl.length ≤ 1000000000000) (hv : RdC w 0 w.heap.size 1 v bl.length (bl.map u8v)) : Ret Try.prog 91 #[v] w (fun v' w' => Below w.heap.size w w' ∧ v' = (Value.tuple #[(Value.agg #[(Value.int .i64 (textR bl).1.k), (Value.int .i64 (textR bl).1.n), (Value.string (bs (textR bl).1.s))]), (Value.int .i64 (textR bl).2.1), (Value.int .i64 (textR bl).2.2)])) := by
 have hb := Below.refl w.heap.size w
 refine enter (N := 33) Try.func91 rfl rfl (by simp) fun a0 hN hd hA => ?_
 have s0 : a0.tmps.getD 0 undef = v := hA 0 (by simp)
 clear hA
 refine seq_any fun K677 hK677 => one_reg (op_alloc (cs := [(Value.int .i64 0), (Value.int .i64 0), (Value.string (bs []))]) zero74 rfl ?_)
 intro w678 b679 lo_b679 hi_b679 hB681 E680
 have z_w678 := E680.size
 have hv := hv.keep0 E680
 have hb := below_step0 hb E680 hb.size
 refine op_assign rfl (op_assign rfl ?_)
 refine reg_nil (hK677 _ _ (seq_any fun K682 hK682 => seq_any fun K683 hK683 => one_reg (op_move (ev_base hN rfl s0) (op_len_rd Try.underlying27 (ev_hit hN rfl) hv ?_))))
 refine op_move rfl (reg_nil (hK683 _ _ (wp_block ?_)))
 refine loop_m (fun mz_ az_ w' => ∃ (i : Nat), mz_ = bl.length - i ∧ (az_.tmps.getD 0 undef = v) ∧ (az_.tmps.getD 2 undef = (ptr b679 0)) ∧ (az_.tmps.getD 7 undef = v) ∧ (az_.tmps.getD 8 undef = (Value.int .i64 ((bl.length : Nat) : Int))) ∧ (az_.tmps.getD 9 undef = (Value.int .i64 ((i : Nat) : Int))) ∧ (i ≤ bl.length) ∧ (scanT bl 0 = scanT (bl.drop i) i) ∧ w678 = w') _ hN hd ⟨0, rfl, (sl_base hN rfl s0), (sl_hit hN rfl), (sl_hit hN rfl), (sl_hit hN rfl), (sl_hit hN rfl), Nat.zero_le _, rfl, rfl⟩ ?_
 rintro _ a684 _ hN684 hd684 ⟨i, rfl, s684_0, s684_2, s684_7, s684_8, s684_9, hi, he, rfl⟩
 refine seq_any fun K685 hK685 => ?_
 refine one_reg (op_lss (ev_base hN684 rfl s684_9) (ev_base hN684 rfl s684_8) (fun c10 => ?_) (fun c10 => ?_))
 ·
  refine reg_nil ?_
  refine hK685 _ _ (seq_any fun K686 hK686 => wp_cond_true (ev_hit hN684 rfl) (wp_skip (hK686 _ _ (seq_any fun K687 hK687 => wp_block ?_))))
  refine seq_any fun K688 hK688 => one_reg (op_move (ev_base hN684 rfl s684_9) (op_index_rd slt27 (ev_base hN684 rfl s684_7) hv (ev_base hN684 rfl s684_9) (by omega) (by omega) ?_))
  intro b689 o690 h0b689 h1b689 hc691
  refine op_load1 (v := (Value.int .u8 ((bl.getD i 0).toNat : Int))) one5 (ev_hit hN684 rfl) (by have := hc691 0 (Value.int .u8 ((bl.getD i 0).toNat : Int)) (by decide) (el_u8 (i := i) (by omega) (by omega)); simpa using this) (op_assign (ev_hit hN684 rfl) (op_assign (ev_hit hN684 rfl) (reg_nil (hK688 _ _ (wp_block ?_)))))
  refine seq_any fun K692 hK692 => ?_
  refine one_reg (op_move (ev_hit hN684 rfl) (op_eql (ev_hit hN684 rfl) rfl (fun c16 => ?_) (fun c16 => ?_)))
  ·
   refine op_assign (ev_hit hN684 rfl) (reg_nil ?_)
   refine hK692 _ _ (wp_cond_true (ev_hit hN684 rfl) (seq_any fun K693 hK693 => one_reg (op_move (ev_base hN684 rfl s684_0) (op_move (ev_hit hN684 rfl) (op_slice_rd (lo := 0) (hi := i) slt27 (ev_hit hN684 rfl) hv (.inl ⟨rfl, rfl⟩) (.inr ⟨_, _, rfl, (ev_hit hN684 rfl)⟩) (by omega) (by omega) ?_)))))
   intro v694 hR695
   have hR695 : RdC w678 0 w.heap.size 1 v694 i (((bl.take i)).map u8v) := by simpa [List.map_drop, List.map_take] using hR695
   refine op_str_of (bl := (bl.take i)) Try.underlying27 Try.underlying5 Try.underlying9 (ev_hit hN684 rfl) hR695 ?_
   refine op_build (pv := [(0, (Value.int .i64 2)), (2, (Value.string (bs (bl.take i))))]) (v := (Value.agg #[(Value.int .i64 2), (Value.int .i64 0), (Value.string (bs (bl.take i)))])) ⟨rfl, rfl, ⟨rfl, (ev_hit hN684 rfl), trivial⟩⟩ (by kernel_rfl) ?_
   refine op_move (ev_hit hN684 rfl) (op_add (ev_hit hN684 rfl) rfl (add64 (by omega)) ?_)
   refine op_store (vs := [(Value.int .i64 2), (Value.int .i64 0), (Value.string (bs (bl.take i)))]) (cs' := [(Value.int .i64 2), (Value.int .i64 0), (Value.string (bs (bl.take i)))]) size74 (ev_base hN684 rfl s684_2) (ev_hit hN684 rfl) rfl rfl rfl hB681 (Nat.le_of_ble_eq_true rfl) rfl ?_
   intro w698 hB681 E699
   have z_w698 := E699.size
   have hb := below_step1 hb E699 hb.size (by omega)
   refine op_assign (ev_hit hN684 rfl) (op_assign rfl (reg_nil (hK693 _ _ (wp_ret (blk_ret (blk_ret (then_ret (then_ret (blk_ret (then_ret ( ?_)))))))))))
   refine retN (rs := [.cell 2 74, .tmp 3, .tmp 4]) (vs := [(Value.agg #[(Value.int .i64 2), (Value.int .i64 0), (Value.string (bs (bl.take i)))]), (Value.int .i64 (((i : Nat) : Int) + 2)), (Value.int .i64 0)]) rfl hd684 ⟨⟨_, (ev_base hN684 rfl s684_2), run_loadA (cs := [(Value.int .i64 2), (Value.int .i64 0), (Value.string (bs (bl.take i)))]) agg74 rfl (fun j u hu => by rw [Nat.zero_add]; exact hB681.cell hu)⟩, ⟨(ev_hit hN684 rfl), ⟨(ev_hit hN684 rfl), trivial⟩⟩⟩ rfl ⟨_, rfl, ?_⟩
   have hq : textR bl = (⟨2, 0, bl.take i⟩, (i : Int) + 2, 0) := textR_of (q := .inr i) (by rw [he, scan_step (by omega), if_pos (by omega)])
   rw [hq]
   exact ⟨hb, rfl⟩
  ·
   refine op_assign (ev_hit hN684 rfl) (reg_nil (hK692 _ _ (wp_cond_false (ev_hit hN684 rfl) (seq_any fun K700 hK700 => seq_any fun K701 hK701 => ?_))))
   refine one_reg (op_move (ev_hit hN684 rfl) (op_eql (ev_hit hN684 rfl) rfl (fun c26 => ?_) (fun c26 => ?_)))
   ·
    refine op_assign (ev_hit hN684 rfl) (reg_nil (hK701 _ _ ?_))
    refine wp_cond_true (ev_hit hN684 rfl) (wp_skip (hK700 _ _ (wp_cond_true (ev_hit hN684 rfl) (seq_any fun K702 hK702 => one_reg (op_loadA (cs := [(Value.int .i64 0), (Value.int .i64 0), (Value.string (bs []))]) agg74 rfl (ev_base hN684 rfl s684_2) (fun j u hu => by rw [Nat.zero_add]; exact hB681.cell hu) ?_)))))
    refine op_store (vs := [(Value.int .i64 0), (Value.int .i64 0), (Value.string (bs []))]) (cs' := [(Value.int .i64 0), (Value.int .i64 0), (Value.string (bs []))]) size74 (ev_base hN684 rfl s684_2) (ev_hit hN684 rfl) rfl rfl rfl hB681 (Nat.le_of_ble_eq_true rfl) rfl ?_
    intro w705 hB681 E706
    have z_w705 := E706.size
    have hb := below_step1 hb E706 hb.size (by omega)
    refine op_assign rfl (op_assign rfl (reg_nil (hK702 _ _ (wp_ret (blk_ret (blk_ret (then_ret (then_ret (blk_ret (then_ret ( ?_)))))))))))
    refine retN (rs := [.cell 2 74, .tmp 3, .tmp 4]) (vs := [(Value.agg #[(Value.int .i64 0), (Value.int .i64 0), (Value.string (bs []))]), (Value.int .i64 0), (Value.int .i64 3)]) rfl hd684 ⟨⟨_, (ev_base hN684 rfl s684_2), run_loadA (cs := [(Value.int .i64 0), (Value.int .i64 0), (Value.string (bs []))]) agg74 rfl (fun j u hu => by rw [Nat.zero_add]; exact hB681.cell hu)⟩, ⟨(ev_hit hN684 rfl), ⟨(ev_hit hN684 rfl), trivial⟩⟩⟩ rfl ⟨_, rfl, ?_⟩
    have hq : textR bl = (V0, 0, 3) := textR_of (q := .inl 3) (by rw [he, scan_step (by omega), if_neg (by omega), if_pos (.inl (by omega))])
    rw [hq]
    exact ⟨hb, rfl⟩
   ·
    refine op_assign (ev_hit hN684 rfl) (reg_nil (hK701 _ _ (wp_cond_false (ev_hit hN684 rfl) (one_reg (op_move (ev_hit hN684 rfl) (op_fn (vs := [(Value.int .u8 ((bl.getD i 0).toNat : Int))]) ok123 ⟨(ev_hit hN684 rfl), trivial⟩ (Ret.flip (may_ret (bl.getD i 0) _)) ?_))))))
    rintro _ _ ⟨rfl, rfl⟩
    rcases Bool.eq_false_or_eq_true ((okB (bl.getD i 0))) with c28 | c28
    ·
     rw [c28]
     refine op_not (ev_hit hN684 rfl) ?_
     refine op_assign (ev_hit hN684 rfl) ?_
     refine reg_nil (hK700 _ _ (wp_cond_false (ev_hit hN684 rfl) (wp_skip (hK687 _ _ (one_reg (op_add (ev_base hN684 rfl s684_9) rfl (add64 (by omega)) ?_))))))
     refine op_move (ev_hit hN684 rfl) (reg_nil ?_)
     -- round 10T 16F 26F 28T
     exact loop_next _ hN684 hd684 ⟨i + 1, rfl, (sl_base hN684 rfl s684_0), (sl_base hN684 rfl s684_2), (sl_base hN684 rfl s684_7), (sl_base hN684 rfl s684_8), (sl_hit hN684 rfl).trans (congrArg (Value.int .i64) (by omega)), (by omega), (by rw [he, scan_step (by omega), if_neg (by omega), if_neg (fun h => h.elim (fun h => by omega) (fun h => by rw [c28] at h; cases h))]), rfl⟩ (by omega)
    ·
     rw [c28]
     refine op_not (ev_hit hN684 rfl) ?_
     refine op_assign (ev_hit hN684 rfl) (reg_nil (hK700 _ _ (wp_cond_true (ev_hit hN684 rfl) (seq_any fun K707 hK707 => one_reg (op_loadA (cs := [(Value.int .i64 0), (Value.int .i64 0), (Value.string (bs []))]) agg74 rfl (ev_base hN684 rfl s684_2) (fun j u hu => by rw [Nat.zero_add]; exact hB681.cell hu) ?_)))))
     refine op_store (vs := [(Value.int .i64 0), (Value.int .i64 0), (Value.string (bs []))]) (cs' := [(Value.int .i64 0), (Value.int .i64 0), (Value.string (bs []))]) size74 (ev_base hN684 rfl s684_2) (ev_hit hN684 rfl) rfl rfl rfl hB681 (Nat.le_of_ble_eq_true rfl) rfl ?_
     intro w710 hB681 E711
     have z_w710 := E711.size
     have hb := below_step1 hb E711 hb.size (by omega)
     refine op_assign rfl (op_assign rfl (reg_nil (hK707 _ _ (wp_ret (blk_ret (blk_ret (then_ret (then_ret (blk_ret (then_ret ( ?_)))))))))))
     refine retN (rs := [.cell 2 74, .tmp 3, .tmp 4]) (vs := [(Value.agg #[(Value.int .i64 0), (Value.int .i64 0), (Value.string (bs []))]), (Value.int .i64 0), (Value.int .i64 3)]) rfl hd684 ⟨⟨_, (ev_base hN684 rfl s684_2), run_loadA (cs := [(Value.int .i64 0), (Value.int .i64 0), (Value.string (bs []))]) agg74 rfl (fun j u hu => by rw [Nat.zero_add]; exact hB681.cell hu)⟩, ⟨(ev_hit hN684 rfl), ⟨(ev_hit hN684 rfl), trivial⟩⟩⟩ rfl ⟨_, rfl, ?_⟩
     have hq : textR bl = (V0, 0, 3) := textR_of (q := .inl 3) (by rw [he, scan_step (by omega), if_neg (by omega), if_pos (.inr c28)])
     rw [hq]
     exact ⟨hb, rfl⟩
 ·
  refine reg_nil (hK685 _ _ (seq_any fun K712 hK712 => wp_cond_false (ev_hit hN684 rfl) (wp_exit (then_exit (then_exit (blk_hit ?_))))))
  refine hK682 _ _ (seq_any fun K713 hK713 => one_reg (op_loadA (cs := [(Value.int .i64 0), (Value.int .i64 0), (Value.string (bs []))]) agg74 rfl (ev_base hN684 rfl s684_2) (fun j u hu => by rw [Nat.zero_add]; exact hB681.cell hu) ?_))
  refine op_store (vs := [(Value.int .i64 0), (Value.int .i64 0), (Value.string (bs []))]) (cs' := [(Value.int .i64 0), (Value.int .i64 0), (Value.string (bs []))]) size74 (ev_base hN684 rfl s684_2) (ev_hit hN684 rfl) rfl rfl rfl hB681 (Nat.le_of_ble_eq_true rfl) rfl ?_
  intro w716 hB681 E717
  have z_w716 := E717.size
  have hb := below_step1 hb E717 hb.size (by omega)
  refine op_assign rfl (op_assign rfl (reg_nil (hK713 _ _ (wp_ret ?_))))
  refine retN (rs := [.cell 2 74, .tmp 3, .tmp 4]) (vs := [(Value.agg #[(Value.int .i64 0), (Value.int .i64 0), (Value.string (bs []))]), (Value.int .i64 0), (Value.int .i64 2)]) rfl hd684 ⟨⟨_, (ev_base hN684 rfl s684_2), run_loadA (cs := [(Value.int .i64 0), (Value.int .i64 0), (Value.string (bs []))]) agg74 rfl (fun j u hu => by rw [Nat.zero_add]; exact hB681.cell hu)⟩, ⟨(ev_hit hN684 rfl), ⟨(ev_hit hN684 rfl), trivial⟩⟩⟩ rfl ⟨_, rfl, ?_⟩
  have hq : textR bl = (V0, 0, 2) := textR_of (q := .inl 2) (by rw [he, scan_end (by omega)])
  rw [hq]
  exact ⟨hb, rfl⟩

theorem Take_ret (bl : List UInt8) (v : Value) (w : World) (hl : bl.length ≤ 1000000000000) (hv : RdC w 0 w.heap.size 1 v bl.length (bl.map u8v)) : Ret Try.prog 61 #[v] w (fun v' w' => Below w.heap.size w w' ∧ v' = (Value.tuple #[(Value.agg #[(Value.int .i64 (takeV bl).1.k), (Value.int .i64 (takeV bl).1.n), (Value.string (bs (takeV bl).1.s))]), (Value.int .i64 (takeV bl).2.1), (Value.int .i64 (takeV bl).2.2)])) := by
 have hb := Below.refl w.heap.size w
 refine enter (N := 47) Try.func61 rfl rfl (by simp) fun a0 hN hd hA => ?_
 have s0 : a0.tmps.getD 0 undef = v := hA 0 (by simp)
 clear hA
 refine seq_any fun K718 hK718 => one_reg (op_alloc (cs := [(Value.int .i64 0), (Value.int .i64 0), (Value.string (bs []))]) zero74 rfl ?_)
 intro w719 b720 lo_b720 hi_b720 hB722 E721
 have z_w719 := E721.size
 have hv := hv.keep0 E721
 have hb := below_step0 hb E721 hb.size
 refine op_assign rfl (op_assign rfl ?_)
 refine reg_nil (hK718 _ _ (seq_any fun K723 hK723 => seq_any fun K724 hK724 => one_reg (op_move (ev_base hN rfl s0) (op_len_rd Try.underlying27 (ev_hit hN rfl) hv ?_))))
 refine op_eql (ev_hit hN rfl) rfl (fun c10 => ?_) (fun c10 => ?_)
 ·
  refine reg_nil (hK724 _ _ (wp_cond_true (ev_hit hN rfl) (seq_any fun K725 hK725 => one_reg (op_loadA (cs := [(Value.int .i64 0), (Value.int .i64 0), (Value.string (bs []))]) agg74 rfl (ev_hit hN rfl) (fun j u hu => by rw [Nat.zero_add]; exact hB722.cell hu) ?_))))
  refine op_store (vs := [(Value.int .i64 0), (Value.int .i64 0), (Value.string (bs []))]) (cs' := [(Value.int .i64 0), (Value.int .i64 0), (Value.string (bs []))]) size74 (ev_hit hN rfl) (ev_hit hN rfl) rfl rfl rfl hB722 (Nat.le_of_ble_eq_true rfl) rfl ?_
  intro w728 hB722 E729
  have z_w728 := E729.size
  have hb := below_step1 hb E729 hb.size (by omega)
  refine op_assign rfl (op_assign rfl (reg_nil (hK725 _ _ (wp_ret (then_ret ( ?_))))))
  refine retN (rs := [.cell 2 74, .tmp 3, .tmp 4]) (vs := [(Value.agg #[(Value.int .i64 0), (Value.int .i64 0), (Value.string (bs []))]), (Value.int .i64 0), (Value.int .i64 2)]) rfl hd ⟨⟨_, (ev_hit hN rfl), run_loadA (cs := [(Value.int .i64 0), (Value.int .i64 0), (Value.string (bs []))]) agg74 rfl (fun j u hu => by rw [Nat.zero_add]; exact hB722.cell hu)⟩, ⟨(ev_hit hN rfl), ⟨(ev_hit hN rfl), trivial⟩⟩⟩ rfl ⟨_, rfl, ?_⟩
  have hq : takeV bl = (V0, 0, 2) := take_lo (List.length_eq_zero_iff.1 (by omega))
  rw [hq]
  exact ⟨hb, rfl⟩
 ·
  refine reg_nil (hK724 _ _ (wp_cond_false (ev_hit hN rfl) ?_))
  refine wp_skip (hK723 _ _ (seq_any fun K730 hK730 => seq_any fun K731 hK731 => one_reg (op_move (ev_base hN rfl s0) (op_index_rd slt27 (ev_hit hN rfl) hv rfl (by omega) (by omega) ?_))))
  intro b732 o733 h0b732 h1b732 hc734
  refine op_load1 (v := (Value.int .u8 ((bl.getD 0 0).toNat : Int))) one5 (ev_hit hN rfl) (by have := hc734 0 (Value.int .u8 ((bl.getD 0 0).toNat : Int)) (by decide) (el_u8 (i := 0) (by omega) (by omega)); simpa using this) (reg_nil (hK731 _ _ (wp_block ?_)))
  refine seq_any fun K735 hK735 => ?_
  refine one_reg (op_eql (ev_hit hN rfl) rfl (fun c16 => ?_) (fun c16 => ?_))
  ·
   refine op_assign (ev_hit hN rfl) (reg_nil ?_)
   refine hK735 _ _ (wp_cond_true (ev_hit hN rfl) (seq_any fun K736 hK736 => seq_any fun K737 hK737 => one_reg (op_move (ev_base hN rfl s0) (op_len_rd Try.underlying27 (ev_hit hN rfl) hv ?_))))
   refine op_lss (ev_hit hN rfl) rfl (fun c19 => ?_) (fun c19 => ?_)
   ·
    refine reg_nil (hK737 _ _ (wp_cond_true (ev_hit hN rfl) (seq_any fun K738 hK738 => one_reg (op_loadA (cs := [(Value.int .i64 0), (Value.int .i64 0), (Value.string (bs []))]) agg74 rfl (ev_hit hN rfl) (fun j u hu => by rw [Nat.zero_add]; exact hB722.cell hu) ?_))))
    refine op_store (vs := [(Value.int .i64 0), (Value.int .i64 0), (Value.string (bs []))]) (cs' := [(Value.int .i64 0), (Value.int .i64 0), (Value.string (bs []))]) size74 (ev_hit hN rfl) (ev_hit hN rfl) rfl rfl rfl hB722 (Nat.le_of_ble_eq_true rfl) rfl ?_
    intro w741 hB722 E742
    have z_w741 := E742.size
    have hb := below_step1 hb E742 hb.size (by omega)
    refine op_assign rfl (op_assign rfl (reg_nil (hK738 _ _ (wp_ret (then_ret (blk_ret (then_ret ( ?_))))))))
    refine retN (rs := [.cell 2 74, .tmp 3, .tmp 4]) (vs := [(Value.agg #[(Value.int .i64 0), (Value.int .i64 0), (Value.string (bs []))]), (Value.int .i64 0), (Value.int .i64 2)]) rfl hd ⟨⟨_, (ev_hit hN rfl), run_loadA (cs := [(Value.int .i64 0), (Value.int .i64 0), (Value.string (bs []))]) agg74 rfl (fun j u hu => by rw [Nat.zero_add]; exact hB722.cell hu)⟩, ⟨(ev_hit hN rfl), ⟨(ev_hit hN rfl), trivial⟩⟩⟩ rfl ⟨_, rfl, ?_⟩
    have hq : takeV bl = (V0, 0, 2) := by rw [take_cons (by omega), if_pos (by omega), if_pos (by omega)]
    rw [hq]
    exact ⟨hb, rfl⟩
   ·
    refine reg_nil ?_
    refine hK737 _ _ (wp_cond_false (ev_hit hN rfl) (wp_skip (hK736 _ _ (seq_any fun K743 hK743 => one_reg (op_assign rfl ?_)))))
    refine reg_nil (hK743 _ _ (seq_any fun K744 hK744 => seq_any fun K745 hK745 => one_reg (op_move (ev_base hN rfl s0) (op_slice_rd (lo := 1) (hi := 9) slt27 (ev_hit hN rfl) hv (.inr ⟨_, _, rfl, rfl⟩) (.inr ⟨_, _, rfl, rfl⟩) (by omega) (by omega) ?_))))
    intro v746 hR747
    have hR747 : RdC w719 0 w.heap.size 1 v746 8 ((((bl.drop 1).take 8)).map u8v) := by simpa [List.map_drop, List.map_take] using hR747
    refine op_len_rd Try.underlying27 (ev_hit hN rfl) hR747 ?_
    have hL8 : ((bl.drop 1).take 8).length = 8 := by simp; omega
    refine op_move rfl (reg_nil (hK745 _ _ (wp_block ?_)))
    refine loop_m (fun mz_ az_ w' => ∃ (i : Nat), mz_ = 8 - i ∧ (az_.tmps.getD 0 undef = v) ∧ (az_.tmps.getD 2 undef = (ptr b720 0)) ∧ (az_.tmps.getD 3 undef = (Value.int .i64 0)) ∧ (az_.tmps.getD 4 undef = (Value.int .i64 0)) ∧ (az_.tmps.getD 8 undef = v) ∧ (az_.tmps.getD 9 undef = (Value.int .i64 ((bl.length : Nat) : Int))) ∧ (az_.tmps.getD 10 undef = (Value.bool false)) ∧ (az_.tmps.getD 12 undef = v) ∧ (az_.tmps.getD 13 undef = (ptr b732 o733)) ∧ (az_.tmps.getD 14 undef = (Value.int .u8 ((bl.getD 0 0).toNat : Int))) ∧ (az_.tmps.getD 15 undef = (Value.bool true)) ∧ (az_.tmps.getD 16 undef = (Value.bool true)) ∧ (az_.tmps.getD 17 undef = v) ∧ (az_.tmps.getD 18 undef = (Value.int .i64 ((bl.length : Nat) : Int))) ∧ (az_.tmps.getD 19 undef = (Value.bool false)) ∧ (az_.tmps.getD 21 undef = v) ∧ (az_.tmps.getD 22 undef = v746) ∧ (az_.tmps.getD 23 undef = (Value.int .i64 8)) ∧ (az_.tmps.getD 24 undef = (Value.int .i64 ((i : Nat) : Int))) ∧ (az_.tmps.getD 5 undef = (Value.int .u64 ((ofBe (((bl.drop 1).take 8).take i) : Nat) : Int))) ∧ (i ≤ 8) ∧ w719 = w') _ hN hd ⟨0, rfl, (sl_base hN rfl s0), (sl_hit hN rfl), (sl_hit hN rfl), (sl_hit hN rfl), (sl_hit hN rfl), (sl_hit hN rfl), (sl_hit hN rfl), (sl_hit hN rfl), (sl_hit hN rfl), (sl_hit hN rfl), (sl_hit hN rfl), (sl_hit hN rfl), (sl_hit hN rfl), (sl_hit hN rfl), (sl_hit hN rfl), (sl_hit hN rfl), (sl_hit hN rfl), (sl_hit hN rfl), (sl_hit hN rfl), (sl_hit hN rfl), Nat.zero_le _, rfl⟩ ?_
    rintro _ a748 _ hN748 hd748 ⟨i, rfl, s748_0, s748_2, s748_3, s748_4, s748_8, s748_9, s748_10, s748_12, s748_13, s748_14, s748_15, s748_16, s748_17, s748_18, s748_19, s748_21, s748_22, s748_23, s748_24, s748_5, hi, rfl⟩
    refine seq_any fun K749 hK749 => ?_
    refine one_reg (op_lss (ev_base hN748 rfl s748_24) (ev_base hN748 rfl s748_23) (fun c25 => ?_) (fun c25 => ?_))
    ·
     refine reg_nil ?_
     refine hK749 _ _ (seq_any fun K750 hK750 => wp_cond_true (ev_hit hN748 rfl) (wp_skip (hK750 _ _ (seq_any fun K751 hK751 => wp_block ?_))))
     refine seq_any fun K752 hK752 => one_reg (op_index_rd slt27 (ev_base hN748 rfl s748_22) hR747 (ev_base hN748 rfl s748_24) (by omega) (by omega) ?_)
     intro b753 o754 h0b753 h1b753 hc755
     refine op_load1 (v := (Value.int .u8 ((((bl.drop 1).take 8).getD i 0).toNat : Int))) one5 (ev_hit hN748 rfl) (by have := hc755 0 (Value.int .u8 ((((bl.drop 1).take 8).getD i 0).toNat : Int)) (by decide) (el_u8 (i := i) (by omega) (by omega)); simpa using this) (op_assign (ev_hit hN748 rfl) (reg_nil (hK752 _ _ (one_reg ?_))))
     have hsm := ofBe_small (l := ((bl.drop 1).take 8).take i) (by simp; omega)
     refine op_move (ev_base hN748 rfl s748_5) (op_shl (r := (((ofBe (((bl.drop 1).take 8).take i) : Nat) : Int) * 256)) (ev_hit hN748 rfl) rfl (by decide) (shl8 (by omega)) ?_)
     refine op_move (ev_hit hN748 rfl) (op_conv (r := ((((bl.drop 1).take 8).getD i 0).toNat : Int)) (ev_hit hN748 rfl) us5 Try.underlying79 (wrap_u64 (u8_rng _)) ?_)
     refine op_or (r := (((ofBe (((bl.drop 1).take 8).take i) : Nat) : Int) * 256 + ((((bl.drop 1).take 8).getD i 0).toNat : Int))) (ev_hit hN748 rfl) (ev_hit hN748 rfl) (or_low hsm (UInt8.toNat_lt _)) ?_
     refine op_assign (ev_hit hN748 rfl) (reg_nil (hK751 _ _ (one_reg (op_add (ev_base hN748 rfl s748_24) rfl (add64 (by omega)) ?_))))
     have hL8 : ((bl.drop 1).take 8).length = 8 := by simp; omega
     refine op_move (ev_hit hN748 rfl) (reg_nil ?_)
     -- round 10F 16T 19F 25T
     exact loop_next _ hN748 hd748 ⟨i + 1, rfl, (sl_base hN748 rfl s748_0), (sl_base hN748 rfl s748_2), (sl_base hN748 rfl s748_3), (sl_base hN748 rfl s748_4), (sl_base hN748 rfl s748_8), (sl_base hN748 rfl s748_9), (sl_base hN748 rfl s748_10), (sl_base hN748 rfl s748_12), (sl_base hN748 rfl s748_13), (sl_base hN748 rfl s748_14), (sl_base hN748 rfl s748_15), (sl_base hN748 rfl s748_16), (sl_base hN748 rfl s748_17), (sl_base hN748 rfl s748_18), (sl_base hN748 rfl s748_19), (sl_base hN748 rfl s748_21), (sl_base hN748 rfl s748_22), (sl_base hN748 rfl s748_23), (sl_hit hN748 rfl).trans (congrArg (Value.int .i64) (by omega)), (sl_hit hN748 rfl).trans (congrArg (Value.int .u64) (by rw [take_snoc (l := ((bl.drop 1).take 8)) (i := i) (by omega), ofBe_snoc]; simp)), (by omega), rfl⟩ (by omega)
    ·
     refine reg_nil (hK749 _ _ (seq_any fun K756 hK756 => wp_cond_false (ev_hit hN748 rfl) (wp_exit (then_exit (then_exit (blk_hit ?_))))))
     refine hK744 _ _ (seq_any fun K757 hK757 => one_reg ?_)
     have hbig := ofBe_8 (l := ((bl.drop 1).take 8).take i) (by simp; omega)
     refine op_move (ev_base hN748 rfl s748_5) (op_xor (r := (if ofBe (((bl.drop 1).take 8).take i) < 9223372036854775808 then ((ofBe (((bl.drop 1).take 8).take i) : Nat) : Int) + 9223372036854775808 else ((ofBe (((bl.drop 1).take 8).take i) : Nat) : Int) - 9223372036854775808)) (ev_hit hN748 rfl) rfl (xor_high hbig) ?_)
     refine op_conv (r := (((ofBe (((bl.drop 1).take 8).take i) : Nat) : Int) - 9223372036854775808)) (ev_hit hN748 rfl) us79 Try.underlying2 (i64_down hbig) ?_
     refine op_build (pv := [(0, (Value.int .i64 1)), (1, (Value.int .i64 (((ofBe (((bl.drop 1).take 8).take i) : Nat) : Int) - 9223372036854775808)))]) (v := (Value.agg #[(Value.int .i64 1), (Value.int .i64 (((ofBe (((bl.drop 1).take 8).take i) : Nat) : Int) - 9223372036854775808)), (Value.string (bs []))])) ⟨rfl, rfl, ⟨rfl, (ev_hit hN748 rfl), trivial⟩⟩ (by kernel_rfl) ?_
     refine op_store (vs := [(Value.int .i64 1), (Value.int .i64 (((ofBe (((bl.drop 1).take 8).take i) : Nat) : Int) - 9223372036854775808)), (Value.string (bs []))]) (cs' := [(Value.int .i64 1), (Value.int .i64 (((ofBe (((bl.drop 1).take 8).take i) : Nat) : Int) - 9223372036854775808)), (Value.string (bs []))]) size74 (ev_base hN748 rfl s748_2) (ev_hit hN748 rfl) rfl rfl rfl hB722 (Nat.le_of_ble_eq_true rfl) rfl ?_
     intro w760 hB722 E761
     have z_w760 := E761.size
     have hb := below_step1 hb E761 hb.size (by omega)
     refine op_assign rfl (op_assign rfl (reg_nil (hK757 _ _ (wp_ret (blk_ret (then_ret ( ?_)))))))
     refine retN (rs := [.cell 2 74, .tmp 3, .tmp 4]) (vs := [(Value.agg #[(Value.int .i64 1), (Value.int .i64 (((ofBe (((bl.drop 1).take 8).take i) : Nat) : Int) - 9223372036854775808)), (Value.string (bs []))]), (Value.int .i64 9), (Value.int .i64 0)]) rfl hd748 ⟨⟨_, (ev_base hN748 rfl s748_2), run_loadA (cs := [(Value.int .i64 1), (Value.int .i64 (((ofBe (((bl.drop 1).take 8).take i) : Nat) : Int) - 9223372036854775808)), (Value.string (bs []))]) agg74 rfl (fun j u hu => by rw [Nat.zero_add]; exact hB722.cell hu)⟩, ⟨(ev_hit hN748 rfl), ⟨(ev_hit hN748 rfl), trivial⟩⟩⟩ rfl ⟨_, rfl, ?_⟩
     have h8 : i = 8 := by omega
     have e8 : ((bl.drop 1).take 8).take i = ((bl.drop 1).take 8) := by rw [h8]; try exact List.take_of_length_le (by omega)
     have hq : takeV bl = (⟨1, (ofBe ((bl.drop 1).take 8) : Int) - 9223372036854775808, []⟩, 9, 0) := by rw [take_cons (by omega), if_pos (by omega), if_neg (by omega)]
     rw [hq, e8]
     exact ⟨hb, rfl⟩
  ·
   refine op_assign (ev_hit hN rfl) (reg_nil (hK735 _ _ (wp_cond_false (ev_hit hN rfl) (seq_any fun K762 hK762 => ?_))))
   refine one_reg (op_eql (ev_hit hN rfl) rfl (fun c39 => ?_) (fun c39 => ?_))
   ·
    refine op_assign (ev_hit hN rfl) ?_
    refine reg_nil (hK762 _ _ (wp_cond_true (ev_hit hN rfl) (seq_any fun K763 hK763 => one_reg (op_move (ev_base hN rfl s0) (op_slice_rd (lo := 1) (hi := bl.length) slt27 (ev_hit hN rfl) hv (.inr ⟨_, _, rfl, rfl⟩) (.inl ⟨rfl, rfl⟩) (by omega) (by omega) ?_)))))
    intro v764 hR765
    have hR765 : RdC w719 0 w.heap.size 1 v764 (bl.length - 1) (((bl.drop 1)).map u8v) := by simpa [List.map_drop, List.map_take, List.take_of_length_le] using hR765
    have hq766 : RdC w719 0 w719.heap.size 1 v764 (bl.drop 1).length ((bl.drop 1).map u8v) := by have hh : RdC w719 0 w719.heap.size 1 _ _ _ := (hR765.mono (L' := 0) (B' := w719.heap.size) (Nat.zero_le _) (by omega)); first | simpa using hh | simpa [Nat.add_comm, Nat.add_left_comm, Nat.add_assoc] using hh | exact hh.cast (by first | rfl | (simp; try omega)) (by first | rfl | (simp; done) | simp [u8v])
    refine op_fn (vs := [v764]) ok91 ⟨(ev_hit hN rfl), trivial⟩ (text_ret (bl.drop 1) v764 _ (by first | assumption | omega | (simp only [List.length_append, List.length_cons, List.length_nil, List.length_drop, List.length_take]; omega) | (dsimp only; omega) | decide | (simp [keyV, be8_len]; done)) hq766) ?_
    rintro _ w767 ⟨E768, rfl⟩
    have E768 := grown_of_below E768
    have z_w767 := E768.size
    have hB722 := hB722.keep0 E768
    have hb := below_step0 hb E768 hb.size
    refine op_extract (ev_hit hN rfl) rfl ?_
    refine op_extract (ev_hit hN rfl) rfl ?_
    refine op_extract (ev_hit hN rfl) rfl ?_
    refine op_store (vs := [(Value.int .i64 (textR (bl.drop 1)).1.k), (Value.int .i64 (textR (bl.drop 1)).1.n), (Value.string (bs (textR (bl.drop 1)).1.s))]) (cs' := [(Value.int .i64 (textR (bl.drop 1)).1.k), (Value.int .i64 (textR (bl.drop 1)).1.n), (Value.string (bs (textR (bl.drop 1)).1.s))]) size74 (ev_hit hN rfl) (ev_hit hN rfl) rfl rfl rfl hB722 (Nat.le_of_ble_eq_true rfl) rfl ?_
    intro w771 hB722 E772
    have z_w771 := E772.size
    have hb := below_step1 hb E772 hb.size (by omega)
    refine op_assign (ev_hit hN rfl) (op_assign (ev_hit hN rfl) (reg_nil (hK763 _ _ (wp_ret (blk_ret (then_ret ( ?_)))))))
    refine retN (rs := [.cell 2 74, .tmp 3, .tmp 4]) (vs := [(Value.agg #[(Value.int .i64 (textR (bl.drop 1)).1.k), (Value.int .i64 (textR (bl.drop 1)).1.n), (Value.string (bs (textR (bl.drop 1)).1.s))]), (Value.int .i64 (textR (bl.drop 1)).2.1), (Value.int .i64 (textR (bl.drop 1)).2.2)]) rfl hd ⟨⟨_, (ev_hit hN rfl), run_loadA (cs := [(Value.int .i64 (textR (bl.drop 1)).1.k), (Value.int .i64 (textR (bl.drop 1)).1.n), (Value.string (bs (textR (bl.drop 1)).1.s))]) agg74 rfl (fun j u hu => by rw [Nat.zero_add]; exact hB722.cell hu)⟩, ⟨(ev_hit hN rfl), ⟨(ev_hit hN rfl), trivial⟩⟩⟩ rfl ⟨_, rfl, ?_⟩
    have hq : takeV bl = textR (bl.drop 1) := by rw [take_cons (by omega), if_neg (by omega), if_pos (by omega)]
    rw [hq]
    exact ⟨hb, rfl⟩
   ·
    refine op_assign (ev_hit hN rfl) (reg_nil ?_)
    refine hK762 _ _ (wp_cond_false (ev_hit hN rfl) (wp_skip (hK730 _ _ (seq_any fun K773 hK773 => one_reg (op_loadA (cs := [(Value.int .i64 0), (Value.int .i64 0), (Value.string (bs []))]) agg74 rfl (ev_hit hN rfl) (fun j u hu => by rw [Nat.zero_add]; exact hB722.cell hu) ?_)))))
    refine op_store (vs := [(Value.int .i64 0), (Value.int .i64 0), (Value.string (bs []))]) (cs' := [(Value.int .i64 0), (Value.int .i64 0), (Value.string (bs []))]) size74 (ev_hit hN rfl) (ev_hit hN rfl) rfl rfl rfl hB722 (Nat.le_of_ble_eq_true rfl) rfl ?_
    intro w776 hB722 E777
    have z_w776 := E777.size
    have hb := below_step1 hb E777 hb.size (by omega)
    refine op_assign rfl (op_assign rfl (reg_nil (hK773 _ _ (wp_ret ?_))))
    refine retN (rs := [.cell 2 74, .tmp 3, .tmp 4]) (vs := [(Value.agg #[(Value.int .i64 0), (Value.int .i64 0), (Value.string (bs []))]), (Value.int .i64 0), (Value.int .i64 3)]) rfl hd ⟨⟨_, (ev_hit hN rfl), run_loadA (cs := [(Value.int .i64 0), (Value.int .i64 0), (Value.string (bs []))]) agg74 rfl (fun j u hu => by rw [Nat.zero_add]; exact hB722.cell hu)⟩, ⟨(ev_hit hN rfl), ⟨(ev_hit hN rfl), trivial⟩⟩⟩ rfl ⟨_, rfl, ?_⟩
    have hq : takeV bl = (V0, 0, 3) := by rw [take_cons (by omega), if_neg (by omega), if_neg (by omega)]
    rw [hq]
    exact ⟨hb, rfl⟩

end Go.Proofs.Ytcpfdfejojghbaa

namespace Go.Proofs.Ytcpfdfejojghbaa
open Go.Gx
abbrev Lb := List UInt16
def Rise (l : Lb) : Prop := l.Pairwise (fun a b => a.toNat < b.toNat)
instance (l : Lb) : Decidable (Rise l) := List.instDecidablePairwise l
def mayL (l : Lb) : Bool := decide (Rise l) && decide (l.length ≤ 8)
theorem rise_one {l : Lb} : Rise (l.take 1) := by
  cases l with
  | nil => exact List.Pairwise.nil
  | cons a l => simp [Rise]
theorem rise_at {l : Lb} {i j : Nat} (h : Rise l) (hij : i < j) (hj : j < l.length) : (l.getD i 0).toNat < (l.getD j 0).toNat := by
  have := List.pairwise_iff_getElem.1 h i j (by omega) hj hij
  simpa [List.getD_eq_getElem?_getD, show i < l.length by omega, hj] using this
theorem rise_step {l : Lb} {i : Nat} (hi : 0 < i) (hl : i < l.length) (h : Rise (l.take i)) (hlt : (l.getD (i - 1) 0).toNat < (l.getD i 0).toNat) : Rise (l.take (i + 1)) := by
  rw [snoc (d := 0) hl]
  refine List.pairwise_append.2 ⟨h, by simp, fun a ha b hb => ?_⟩
  simp at hb; subst hb
  obtain ⟨j, hj, rfl⟩ := List.getElem_of_mem ha
  have hj' : j < i := by simp at hj; omega
  rw [List.getElem_take]
  have e : l[j]'(by omega) = l.getD j 0 := by simp [List.getD_eq_getElem?_getD, show j < l.length by omega]
  have e2 : l[i]?.getD 0 = l.getD i 0 := by simp [List.getD_eq_getElem?_getD]
  rw [e]
  try rw [e2]
  rcases Nat.lt_or_ge j (i - 1) with h1 | h1
  · have h2 := rise_at (i := j) (j := i - 1) h h1 (by simp; omega)
    have e3 : (l.take i).getD j 0 = l.getD j 0 := by simp [List.getD_eq_getElem?_getD, List.getElem?_take, hj']
    have e4 : (l.take i).getD (i - 1) 0 = l.getD (i - 1) 0 := by simp [List.getD_eq_getElem?_getD, List.getElem?_take, show i - 1 < i by omega]
    rw [e3, e4] at h2
    omega
  · have : j = i - 1 := by omega
    subst this; exact hlt
theorem rise_bad {l : Lb} {i : Nat} (hi : 0 < i) (hl : i < l.length) (h : ¬ (l.getD (i - 1) 0).toNat < (l.getD i 0).toNat) : ¬ Rise l := fun hr => h (rise_at hr (by omega) hl)
theorem mayL_rise {l : Lb} (h : mayL l = true) : Rise l := by unfold mayL at h; simp only [Bool.and_eq_true, decide_eq_true_eq] at h; exact h.1
theorem mayL_len {l : Lb} (h : mayL l = true) : l.length ≤ 8 := by unfold mayL at h; simp only [Bool.and_eq_true, decide_eq_true_eq] at h; exact h.2
def cmpG : Lb → Lb → Int
  | [], [] => 0
  | [], _ :: _ => -1
  | _ :: _, [] => 1
  | a :: l, b :: m => if a.toNat < b.toNat then -1 else if b.toNat < a.toNat then 1 else cmpG l m
def cmpL (a b : Lb) : Int := if a.length < b.length then -1 else if b.length < a.length then 1 else cmpG a b
theorem cmpG_step {a b : Lb} {i : Nat} (ha : i < a.length) (hb : i < b.length) : cmpG (a.drop i) (b.drop i) = if (a.getD i 0).toNat < (b.getD i 0).toNat then -1 else if (b.getD i 0).toNat < (a.getD i 0).toNat then 1 else cmpG (a.drop (i + 1)) (b.drop (i + 1)) := by
  rw [List.drop_eq_getElem_cons ha, List.drop_eq_getElem_cons hb]
  simp [cmpG, List.getD_eq_getElem?_getD, ha, hb]
theorem cmpG_end {a b : Lb} {i : Nat} (ha : a.length ≤ i) (hb : b.length ≤ i) : cmpG (a.drop i) (b.drop i) = 0 := by
  rw [List.drop_of_length_le ha, List.drop_of_length_le hb]; rfl
def be2 (t : UInt16) : List UInt8 := [UInt8.ofNat (t.toNat / 256), UInt8.ofNat t.toNat]
theorem flat_len' : ∀ (l : Lb), (l.flatMap be2).length = l.length * 2
  | [] => rfl
  | a :: l => by rw [List.flatMap_cons, List.length_append, flat_len' l, List.length_cons]; simp [be2]; omega
def labB (l : Lb) : List UInt8 := UInt8.ofNat l.length :: l.flatMap be2
theorem labB_len (l : Lb) : (labB l).length = 1 + l.length * 2 := by rw [labB, List.length_cons, flat_len']; omega
def tagsL (n : Nat) (b : List UInt8) : Lb := (List.range n).map fun i => UInt16.ofNat ((b.getD (1 + 2 * i) 0).toNat * 256 + (b.getD (2 + 2 * i) 0).toNat)
theorem tags_step {n : Nat} {b : List UInt8} : tagsL (n + 1) b = tagsL n b ++ [UInt16.ofNat ((b.getD (1 + 2 * n) 0).toNat * 256 + (b.getD (2 + 2 * n) 0).toNat)] := by
  simp [tagsL, List.range_succ]
theorem tags_len (n : Nat) (b : List UInt8) : (tagsL n b).length = n := by simp [tagsL]
def takeL (b : List UInt8) : Lb × Int × Int :=
  if b.length = 0 then ([], 0, 2) else if 8 < (b.getD 0 0).toNat then ([], 0, 3) else if b.length < 1 + 2 * (b.getD 0 0).toNat then ([], 0, 2)
  else if Rise (tagsL (b.getD 0 0).toNat b) then (tagsL (b.getD 0 0).toNat b, ((1 + 2 * (b.getD 0 0).toNat : Nat) : Int), 0) else ([], 0, 3)
theorem takeL_len (b : List UInt8) : 0 ≤ (takeL b).2.1 ∧ (takeL b).2.1 ≤ b.length ∧ ((takeL b).2.2 = 0 ∨ (takeL b).2.2 = 2 ∨ (takeL b).2.2 = 3) ∧ (takeL b).1.length ≤ 8 := by
  unfold takeL
  split
  · simp
  · split
    · simp
    · split
      · simp
      · split
        · refine ⟨by simp only; omega, by simp only; omega, .inl rfl, ?_⟩
          show (tagsL _ b).length ≤ 8
          rw [tags_len]; omega
        · simp
def keyX (x : Vl) (l : Lb) (n : Nat) : List UInt8 := keyV x ++ labB l ++ be8 n
def takeX (b : List UInt8) : Vl × Lb × Nat × Int :=
  if (takeV b).2.2 ≠ 0 then (V0, [], 0, (takeV b).2.2)
  else if (takeL (b.drop (takeV b).2.1.toNat)).2.2 ≠ 0 then (V0, [], 0, (takeL (b.drop (takeV b).2.1.toNat)).2.2)
  else if (b.drop ((takeV b).2.1.toNat + (takeL (b.drop (takeV b).2.1.toNat)).2.1.toNat)).length < 8 then (V0, [], 0, 2)
  else if 8 < (b.drop ((takeV b).2.1.toNat + (takeL (b.drop (takeV b).2.1.toNat)).2.1.toNat)).length then (V0, [], 0, 3)
  else ((takeV b).1, (takeL (b.drop (takeV b).2.1.toNat)).1, ofBe (b.drop ((takeV b).2.1.toNat + (takeL (b.drop (takeV b).2.1.toNat)).2.1.toNat)), 0)
end Go.Proofs.Ytcpfdfejojghbaa

namespace Go.Proofs.Ytcpfdfejojghbaa
open Go.Gx Go.RowKit
attribute [local irreducible] wpList wpStill Code.wp Calls

theorem rises_ret (l : Lb) (v : Value) (w : World) (hl : l.length ≤ 9223372036854775807) (h : RdC w 0 w.heap.size 1 v l.length (l.map u16v)) : Ret Try.prog 92 #[v] w (fun v' w' => Below w.heap.size w w' ∧ v' = .bool (decide (Rise l))) := by
 have hb := Below.refl w.heap.size w
 refine enter (N := 20) Try.func92 rfl rfl (by simp) fun a0 hN hd hA => ?_
 have s0 : a0.tmps.getD 0 undef = v := hA 0 (by simp)
 clear hA
 refine seq_any fun K778 hK778 => one_reg (op_assign rfl (reg_nil (hK778 _ _ ?_)))
 refine seq_any fun K779 hK779 => seq_any fun K780 hK780 => one_reg (op_assign rfl (reg_nil (hK780 _ _ (wp_block ?_))))
 refine loop_m (fun mz_ az_ w' => ∃ (i : Nat), mz_ = l.length - i ∧ (az_.tmps.getD 0 undef = v) ∧ (az_.tmps.getD 3 undef = (Value.int .i64 ((i : Nat) : Int))) ∧ (1 ≤ i ∧ (i ≤ l.length ∨ i = 1)) ∧ (Rise (l.take i)) ∧ (Below w.heap.size w w') ∧ (w.heap.size ≤ w'.heap.size) ∧ (RdC w' 0 w.heap.size 1 v l.length (l.map u16v))) _ hN hd ⟨1, rfl, (sl_base hN rfl s0), (sl_hit hN rfl).trans (congrArg (Value.int .i64) (by omega)), ⟨Nat.le_refl _, .inr rfl⟩, rise_one, hb, (Nat.le_refl _), h⟩ ?_
 rintro _ a781 w781 hN781 hd781 ⟨i, rfl, s781_0, s781_3, hi, hr, hb, zl_w781, h⟩
 have z_w781 := hb.size
 refine seq_any fun K782 hK782 => seq_any fun K783 hK783 => one_reg (op_move (ev_base hN781 rfl s781_3) (op_move (ev_base hN781 rfl s781_0) (op_len_rd Try.underlying33 (ev_hit hN781 rfl) h ?_)))
 refine op_lss (ev_hit hN781 rfl) (ev_hit hN781 rfl) (fun c7 => ?_) (fun c7 => ?_)
 ·
  refine reg_nil (hK783 _ _ (wp_cond_true (ev_hit hN781 rfl) (wp_skip (hK782 _ _ (seq_any fun K784 hK784 => wp_block ?_)))))
  refine seq_any fun K785 hK785 => ?_
  refine reg_quiet (Φ := phiL [(fun uz _ => uz = v), (fun uz _ => uz = (Value.int .i64 ((i : Nat) : Int))), (fun uz _ => uz = (Value.int .i64 (((i : Nat) : Int) - 1))), (fun uz w' => ∃ (b786 : (Nat)) (o787 : (Nat)), uz = (ptr b786 o787) ∧ PtC w' 0 w.heap.size b786 o787 [(Value.int .u16 ((l.getD (i - 1) 0).toNat : Int))]), (fun uz _ => uz = (Value.int .u16 ((l.getD (i - 1) 0).toNat : Int))), (fun uz _ => uz = v), (fun uz _ => uz = (Value.int .i64 ((i : Nat) : Int))), (fun uz w' => ∃ (b790 : (Nat)) (o791 : (Nat)), uz = (ptr b790 o791) ∧ PtC w' 0 w.heap.size b790 o791 [(Value.int .u16 ((l.getD i 0).toNat : Int))]), (fun uz _ => uz = (Value.int .u16 ((l.getD i 0).toNat : Int))), (fun uz _ => uz = (Value.bool (decide (((l.getD i 0).toNat : Int) ≤ ((l.getD (i - 1) 0).toNat : Int)))))]) mixed (by kernel_rfl) (by kernel_rfl) (by kernel_rfl) hN781 (StL.get (StL.eq (StL.eq (StL.eq (StL.cons (fun u w1 w2 E h => by obtain ⟨x0, x1, hv, f0⟩ := h; exact ⟨x0, x1, hv, f0.keep0 E⟩) (StL.eq (StL.eq (StL.eq (StL.cons (fun u w1 w2 E h => by obtain ⟨x0, x1, hv, f0⟩ := h; exact ⟨x0, x1, hv, f0.keep0 E⟩) (StL.eq (StL.eq (StL.nil _)))))))))))) (ObL.get (s := 10) (ObL.cons ?_ (ObL.cons ?_ (ObL.cons ?_ (ObL.cons ?_ (ObL.cons ?_ (ObL.cons ?_ (ObL.cons ?_ (ObL.cons ?_ (ObL.cons ?_ (ObL.cons ?_ (ObL.nil))))))))))) rfl) ?_
  ·
   intro a786 w786 hN786 hR786 hbs786 hdp786
   have hR786 : w781.grownBy w786 none := hR786
   have q786_0 := (hbs786 0 rfl).trans (sl_base hN781 rfl s781_0)
   clear hbs786 hdp786
   refine op_move (ev_base hN786 rfl q786_0) ?_
   exact obN_end rfl rfl (grown_refl _ _)
  ·
   intro a787 w787 hN787 hR787 hbs787 hdp787
   have hR787 : w781.grownBy w787 none := hR787
   have q787_3 := (hbs787 3 rfl).trans (sl_base hN781 rfl s781_3)
   clear hbs787 hdp787
   refine op_move (ev_base hN787 rfl q787_3) ?_
   exact obN_end rfl rfl (grown_refl _ _)
  ·
   intro a788 w788 hN788 hR788 hbs788 hdp788
   have hR788 : w781.grownBy w788 none := hR788
   have q788_11 : Sl a788 11 (Value.int .i64 ((i : Nat) : Int)) := hdp788 1 _ 11 (by kernel_rfl) rfl rfl
   clear hbs788 hdp788
   refine op_sub (ev_base hN788 rfl q788_11) rfl (sub64 (by omega)) ?_
   exact obN_end rfl rfl (grown_refl _ _)
  ·
   intro a789 w789 hN789 hR789 hbs789 hdp789
   have hR789 : w781.grownBy w789 none := hR789
   have z_w789 := hR789.size
   have h := h.keep0 hR789
   have q789_10 : Sl a789 10 v := hdp789 0 _ 10 (by kernel_rfl) rfl rfl
   have q789_12 : Sl a789 12 (Value.int .i64 (((i : Nat) : Int) - 1)) := hdp789 2 _ 12 (by kernel_rfl) rfl rfl
   clear hbs789 hdp789
   refine op_index_rd slt33 (ev_base hN789 rfl q789_10) h (ev_base hN789 rfl q789_12) (by omega) (by omega) ?_
   intro b790 o791 h0b790 h1b790 hc792
   have hp793 : PtC w789 0 w.heap.size b790 o791 [(Value.int .u16 ((l.getD (i - 1) 0).toNat : Int))] := ⟨by omega, by omega, fun j u hu => hc792 j u (by have := (List.getElem?_eq_some_iff.1 hu).1; simpa using this) ((fun j u hu => one_at (el_u16 (i := (i - 1)) (by omega) (by omega)) hu) j u hu)⟩
   exact obN_end rfl ⟨b790, o791, rfl, hp793⟩ (grown_refl _ _)
  ·
   intro a794 w794 hN794 hR794 hbs794 hdp794
   have hR794 : w781.grownBy w794 none := hR794
   have z_w794 := hR794.size
   obtain ⟨b786, o787, q794_13, hp789⟩ := hdp794 3 _ 13 (by kernel_rfl) rfl rfl
   have hp789 : PtC w794 0 w.heap.size b786 o787 [(Value.int .u16 ((l.getD (i - 1) 0).toNat : Int))] := hp789
   clear hbs794 hdp794
   refine op_load1 (v := (Value.int .u16 ((l.getD (i - 1) 0).toNat : Int))) one37 (ev_base hN794 rfl q794_13) (hp789.2.2 0 _ rfl) ?_
   exact obN_end rfl rfl (grown_refl _ _)
  ·
   intro a795 w795 hN795 hR795 hbs795 hdp795
   have hR795 : w781.grownBy w795 none := hR795
   have q795_0 := (hbs795 0 rfl).trans (sl_base hN781 rfl s781_0)
   clear hbs795 hdp795
   refine op_move (ev_base hN795 rfl q795_0) ?_
   exact obN_end rfl rfl (grown_refl _ _)
  ·
   intro a796 w796 hN796 hR796 hbs796 hdp796
   have hR796 : w781.grownBy w796 none := hR796
   have q796_3 := (hbs796 3 rfl).trans (sl_base hN781 rfl s781_3)
   clear hbs796 hdp796
   refine op_move (ev_base hN796 rfl q796_3) ?_
   exact obN_end rfl rfl (grown_refl _ _)
  ·
   intro a797 w797 hN797 hR797 hbs797 hdp797
   have hR797 : w781.grownBy w797 none := hR797
   have z_w797 := hR797.size
   have h := h.keep0 hR797
   have q797_15 : Sl a797 15 v := hdp797 5 _ 15 (by kernel_rfl) rfl rfl
   have q797_16 : Sl a797 16 (Value.int .i64 ((i : Nat) : Int)) := hdp797 6 _ 16 (by kernel_rfl) rfl rfl
   clear hbs797 hdp797
   refine op_index_rd slt33 (ev_base hN797 rfl q797_15) h (ev_base hN797 rfl q797_16) (by omega) (by omega) ?_
   intro b798 o799 h0b798 h1b798 hc800
   have hp801 : PtC w797 0 w.heap.size b798 o799 [(Value.int .u16 ((l.getD i 0).toNat : Int))] := ⟨by omega, by omega, fun j u hu => hc800 j u (by have := (List.getElem?_eq_some_iff.1 hu).1; simpa using this) ((fun j u hu => one_at (el_u16 (i := i) (by omega) (by omega)) hu) j u hu)⟩
   exact obN_end rfl ⟨b798, o799, rfl, hp801⟩ (grown_refl _ _)
  ·
   intro a802 w802 hN802 hR802 hbs802 hdp802
   have hR802 : w781.grownBy w802 none := hR802
   have z_w802 := hR802.size
   obtain ⟨b790, o791, q802_17, hp793⟩ := hdp802 7 _ 17 (by kernel_rfl) rfl rfl
   have hp793 : PtC w802 0 w.heap.size b790 o791 [(Value.int .u16 ((l.getD i 0).toNat : Int))] := hp793
   clear hbs802 hdp802
   refine op_load1 (v := (Value.int .u16 ((l.getD i 0).toNat : Int))) one37 (ev_base hN802 rfl q802_17) (hp793.2.2 0 _ rfl) ?_
   exact obN_end rfl rfl (grown_refl _ _)
  ·
   intro a803 w803 hN803 hR803 hbs803 hdp803
   have hR803 : w781.grownBy w803 none := hR803
   have q803_14 : Sl a803 14 (Value.int .u16 ((l.getD (i - 1) 0).toNat : Int)) := hdp803 4 _ 14 (by kernel_rfl) rfl rfl
   have q803_18 : Sl a803 18 (Value.int .u16 ((l.getD i 0).toNat : Int)) := hdp803 8 _ 18 (by kernel_rfl) rfl rfl
   clear hbs803 hdp803
   refine op_cmp (b := (decide (((l.getD i 0).toNat : Int) ≤ ((l.getD (i - 1) 0).toNat : Int)))) (ev_base hN803 rfl q803_14) (ev_base hN803 rfl q803_18) (b_geq rfl) ?_
   exact obN_end rfl rfl (grown_refl _ _)
  ·
   intro a804 w804 hN804 hd804 hbs804 hph804 E804
   have hd804 := hd804.trans hd781
   have s804_0 := (hbs804 0 rfl).trans (sl_base hN781 rfl s781_0)
   have s804_3 := (hbs804 3 rfl).trans (sl_base hN781 rfl s781_3)
   have s804_10 : Sl a804 10 v := hph804 0 _ 10 rfl rfl
   have s804_11 : Sl a804 11 (Value.int .i64 ((i : Nat) : Int)) := hph804 1 _ 11 rfl rfl
   have s804_12 : Sl a804 12 (Value.int .i64 (((i : Nat) : Int) - 1)) := hph804 2 _ 12 rfl rfl
   obtain ⟨b786, o787, s804_13, hp789⟩ := hph804 3 _ 13 rfl rfl
   have hp789 : PtC w804 0 w.heap.size b786 o787 [(Value.int .u16 ((l.getD (i - 1) 0).toNat : Int))] := hp789
   have s804_14 : Sl a804 14 (Value.int .u16 ((l.getD (i - 1) 0).toNat : Int)) := hph804 4 _ 14 rfl rfl
   have s804_15 : Sl a804 15 v := hph804 5 _ 15 rfl rfl
   have s804_16 : Sl a804 16 (Value.int .i64 ((i : Nat) : Int)) := hph804 6 _ 16 rfl rfl
   obtain ⟨b790, o791, s804_17, hp793⟩ := hph804 7 _ 17 rfl rfl
   have hp793 : PtC w804 0 w.heap.size b790 o791 [(Value.int .u16 ((l.getD i 0).toNat : Int))] := hp793
   have s804_18 : Sl a804 18 (Value.int .u16 ((l.getD i 0).toNat : Int)) := hph804 8 _ 18 rfl rfl
   have s804_19 : Sl a804 19 (Value.bool (decide (((l.getD i 0).toNat : Int) ≤ ((l.getD (i - 1) 0).toNat : Int)))) := hph804 9 _ 19 rfl rfl
   clear hbs804 hph804
   have E804 : w781.grownBy w804 none := E804
   have z_w804 := E804.size
   have h := h.keep0 E804
   have hb := below_step0 hb E804 hb.size
   refine hK785 _ _ (wp_cond_split (ev_base hN804 rfl s804_19) (fun c19 => ?_) (fun c19 => ?_))
   ·
    have c19 := of_decide_eq_true c19
    refine seq_any fun K805 hK805 => one_reg (op_assign rfl (reg_nil (hK805 _ _ (wp_ret (blk_ret (then_ret (then_ret (blk_ret (then_ret ( ?_))))))))))
    refine ret1 rfl hd804 (ev_hit hN804 rfl) ⟨_, rfl, ?_⟩
    exact ⟨hb, congrArg Value.bool (by rw [decide_eq_false (rise_bad (i := i) (by omega) (by omega) (by omega))])⟩
   ·
    have c19 := of_decide_eq_false c19
    refine wp_skip (hK784 _ _ (one_reg (op_move (ev_base hN804 rfl s804_3) (op_add (ev_hit hN804 rfl) rfl (add64 (by omega)) ?_))))
    refine op_assign (ev_hit hN804 rfl) (reg_nil ?_)
    -- round 7T 19F
    exact loop_next _ hN804 hd804 ⟨i + 1, rfl, (sl_base hN804 rfl s804_0), (sl_hit hN804 rfl).trans (congrArg (Value.int .i64) (by omega)), (by omega), (rise_step (by omega) (by omega) hr (by omega)), hb, (by omega), h⟩ (by omega)
 ·
  refine reg_nil (hK783 _ _ (wp_cond_false (ev_hit hN781 rfl) (wp_exit (then_exit (then_exit (blk_hit ?_))))))
  refine hK779 _ _ (seq_any fun K806 hK806 => one_reg (op_assign rfl (reg_nil (hK806 _ _ (wp_ret ?_)))))
  refine ret1 rfl hd781 (ev_hit hN781 rfl) ⟨_, rfl, ?_⟩
  have hr2 : Rise l := by rwa [List.take_of_length_le (by omega)] at hr
  exact ⟨hb, congrArg Value.bool (by rw [decide_eq_true hr2])⟩

theorem cmpL_ret (l m : Lb) (v u : Value) (w : World) (hl : l.length ≤ 9223372036854775807) (hm : m.length ≤ 9223372036854775807) (h : RdC w 0 w.heap.size 1 v l.length (l.map u16v)) (h2 : RdC w 0 w.heap.size 1 u m.length (m.map u16v)) : Ret Try.prog 39 #[v, u] w (fun v' w' => Below w.heap.size w w' ∧ v' = .int .i64 (cmpL l m)) := by
 have hb := Below.refl w.heap.size w
 refine enter (N := 40) Try.func39 rfl rfl (by simp) fun a0 hN hd hA => ?_
 have s0 : a0.tmps.getD 0 undef = v := hA 0 (by simp)
 have s1 : a0.tmps.getD 1 undef = u := hA 1 (by simp)
 clear hA
 refine seq_any fun K807 hK807 => one_reg (op_assign rfl ?_)
 refine reg_nil (hK807 _ _ (seq_any fun K808 hK808 => seq_any fun K809 hK809 => one_reg (op_move (ev_base hN rfl s0) (op_len_rd Try.underlying76 (ev_hit hN rfl) h ?_))))
 refine op_move (ev_base hN rfl s1) (op_len_rd Try.underlying76 (ev_hit hN rfl) h2 ?_)
 refine op_neq (ev_hit hN rfl) (ev_hit hN rfl) (fun c10 => ?_) (fun c10 => ?_)
 ·
  refine reg_nil ?_
  refine hK809 _ _ (wp_cond_true (ev_hit hN rfl) (seq_any fun K810 hK810 => seq_any fun K811 hK811 => one_reg (op_move (ev_base hN rfl s0) (op_len_rd Try.underlying76 (ev_hit hN rfl) h ?_))))
  refine op_move (ev_base hN rfl s1) (op_len_rd Try.underlying76 (ev_hit hN rfl) h2 ?_)
  refine op_lss (ev_hit hN rfl) (ev_hit hN rfl) (fun c15 => ?_) (fun c15 => ?_)
  ·
   refine reg_nil (hK811 _ _ ?_)
   refine wp_cond_true (ev_hit hN rfl) (seq_any fun K812 hK812 => one_reg (op_assign rfl (reg_nil (hK812 _ _ (wp_ret (then_ret (then_ret ( ?_))))))))
   refine ret1 rfl hd (ev_hit hN rfl) ⟨_, rfl, ?_⟩
   exact ⟨hb, congrArg (Value.int .i64) (by rw [cmpL, if_pos (by omega)])⟩
  ·
   refine reg_nil (hK811 _ _ (wp_cond_false (ev_hit hN rfl) (wp_skip ?_)))
   refine hK810 _ _ (seq_any fun K813 hK813 => one_reg (op_assign rfl (reg_nil (hK813 _ _ (wp_ret (then_ret ( ?_)))))))
   refine ret1 rfl hd (ev_hit hN rfl) ⟨_, rfl, ?_⟩
   exact ⟨hb, congrArg (Value.int .i64) (by rw [cmpL, if_neg (by omega), if_pos (by omega)])⟩
 ·
  refine reg_nil (hK809 _ _ (wp_cond_false (ev_hit hN rfl) (wp_skip (hK808 _ _ ?_))))
  refine seq_any fun K814 hK814 => seq_any fun K815 hK815 => one_reg (op_assign rfl (reg_nil (hK815 _ _ (wp_block ?_))))
  refine loop_m (fun mz_ az_ w' => ∃ (i : Nat), mz_ = l.length - i ∧ (az_.tmps.getD 0 undef = v) ∧ (az_.tmps.getD 1 undef = u) ∧ (az_.tmps.getD 6 undef = v) ∧ (az_.tmps.getD 7 undef = (Value.int .i64 ((l.length : Nat) : Int))) ∧ (az_.tmps.getD 8 undef = u) ∧ (az_.tmps.getD 9 undef = (Value.int .i64 ((m.length : Nat) : Int))) ∧ (az_.tmps.getD 10 undef = (Value.bool false)) ∧ (az_.tmps.getD 5 undef = (Value.int .i64 ((i : Nat) : Int))) ∧ (i ≤ l.length) ∧ (cmpG l m = cmpG (l.drop i) (m.drop i)) ∧ (Below w.heap.size w w') ∧ (w.heap.size ≤ w'.heap.size) ∧ (RdC w' 0 w.heap.size 1 v l.length (l.map u16v)) ∧ (RdC w' 0 w.heap.size 1 u m.length (m.map u16v))) _ hN hd ⟨0, rfl, (sl_base hN rfl s0), (sl_base hN rfl s1), (sl_hit hN rfl), (sl_hit hN rfl), (sl_hit hN rfl), (sl_hit hN rfl), (sl_hit hN rfl), (sl_hit hN rfl), Nat.zero_le _, rfl, hb, (Nat.le_refl _), h, h2⟩ ?_
  rintro _ a816 w816 hN816 hd816 ⟨i, rfl, s816_0, s816_1, s816_6, s816_7, s816_8, s816_9, s816_10, s816_5, hi, he, hb, zl_w816, h, h2⟩
  have z_w816 := hb.size
  refine seq_any fun K817 hK817 => seq_any fun K818 hK818 => one_reg (op_move (ev_base hN816 rfl s816_5) (op_move (ev_base hN816 rfl s816_0) (op_len_rd Try.underlying76 (ev_hit hN816 rfl) h ?_)))
  refine op_lss (ev_hit hN816 rfl) (ev_hit hN816 rfl) (fun c19 => ?_) (fun c19 => ?_)
  ·
   refine reg_nil (hK818 _ _ (wp_cond_true (ev_hit hN816 rfl) (wp_skip (hK817 _ _ (seq_any fun K819 hK819 => wp_block ?_)))))
   refine seq_any fun K820 hK820 => seq_any fun K821 hK821 => ?_
   refine reg_quiet (Φ := phiL [(fun uz _ => uz = v), (fun uz _ => uz = (Value.int .i64 ((i : Nat) : Int))), (fun uz w' => ∃ (b822 : (Nat)) (o823 : (Nat)), uz = (ptr b822 o823) ∧ PtC w' 0 w.heap.size b822 o823 [(Value.int .u16 ((l.getD i 0).toNat : Int))]), (fun uz _ => uz = (Value.int .u16 ((l.getD i 0).toNat : Int))), (fun uz _ => uz = u), (fun uz _ => uz = (Value.int .i64 ((i : Nat) : Int))), (fun uz w' => ∃ (b826 : (Nat)) (o827 : (Nat)), uz = (ptr b826 o827) ∧ PtC w' 0 w.heap.size b826 o827 [(Value.int .u16 ((m.getD i 0).toNat : Int))]), (fun uz _ => uz = (Value.int .u16 ((m.getD i 0).toNat : Int))), (fun uz _ => uz = (Value.bool (decide (((l.getD i 0).toNat : Int) < ((m.getD i 0).toNat : Int)))))]) mixed (by kernel_rfl) (by kernel_rfl) (by kernel_rfl) hN816 (StL.get (StL.eq (StL.eq (StL.cons (fun u w1 w2 E h => by obtain ⟨x0, x1, hv, f0⟩ := h; exact ⟨x0, x1, hv, f0.keep0 E⟩) (StL.eq (StL.eq (StL.eq (StL.cons (fun u w1 w2 E h => by obtain ⟨x0, x1, hv, f0⟩ := h; exact ⟨x0, x1, hv, f0.keep0 E⟩) (StL.eq (StL.eq (StL.nil _))))))))))) (ObL.get (s := 9) (ObL.cons ?_ (ObL.cons ?_ (ObL.cons ?_ (ObL.cons ?_ (ObL.cons ?_ (ObL.cons ?_ (ObL.cons ?_ (ObL.cons ?_ (ObL.cons ?_ (ObL.nil)))))))))) rfl) ?_
   ·
    intro a822 w822 hN822 hR822 hbs822 hdp822
    have hR822 : w816.grownBy w822 none := hR822
    have q822_0 := (hbs822 0 rfl).trans (sl_base hN816 rfl s816_0)
    clear hbs822 hdp822
    refine op_move (ev_base hN822 rfl q822_0) ?_
    exact obN_end rfl rfl (grown_refl _ _)
   ·
    intro a823 w823 hN823 hR823 hbs823 hdp823
    have hR823 : w816.grownBy w823 none := hR823
    have q823_5 := (hbs823 5 rfl).trans (sl_base hN816 rfl s816_5)
    clear hbs823 hdp823
    refine op_move (ev_base hN823 rfl q823_5) ?_
    exact obN_end rfl rfl (grown_refl _ _)
   ·
    intro a824 w824 hN824 hR824 hbs824 hdp824
    have hR824 : w816.grownBy w824 none := hR824
    have z_w824 := hR824.size
    have h := h.keep0 hR824
    have q824_22 : Sl a824 22 v := hdp824 0 _ 22 (by kernel_rfl) rfl rfl
    have q824_23 : Sl a824 23 (Value.int .i64 ((i : Nat) : Int)) := hdp824 1 _ 23 (by kernel_rfl) rfl rfl
    clear hbs824 hdp824
    refine op_index_rd slt76 (ev_base hN824 rfl q824_22) h (ev_base hN824 rfl q824_23) (by omega) (by omega) ?_
    intro b825 o826 h0b825 h1b825 hc827
    have hp828 : PtC w824 0 w.heap.size b825 o826 [(Value.int .u16 ((l.getD i 0).toNat : Int))] := ⟨by omega, by omega, fun j u hu => hc827 j u (by have := (List.getElem?_eq_some_iff.1 hu).1; simpa using this) ((fun j u hu => one_at (el_u16 (i := i) (by omega) (by omega)) hu) j u hu)⟩
    exact obN_end rfl ⟨b825, o826, rfl, hp828⟩ (grown_refl _ _)
   ·
    intro a829 w829 hN829 hR829 hbs829 hdp829
    have hR829 : w816.grownBy w829 none := hR829
    have z_w829 := hR829.size
    obtain ⟨b822, o823, q829_24, hp825⟩ := hdp829 2 _ 24 (by kernel_rfl) rfl rfl
    have hp825 : PtC w829 0 w.heap.size b822 o823 [(Value.int .u16 ((l.getD i 0).toNat : Int))] := hp825
    clear hbs829 hdp829
    refine op_load1 (v := (Value.int .u16 ((l.getD i 0).toNat : Int))) one37 (ev_base hN829 rfl q829_24) (hp825.2.2 0 _ rfl) ?_
    exact obN_end rfl rfl (grown_refl _ _)
   ·
    intro a830 w830 hN830 hR830 hbs830 hdp830
    have hR830 : w816.grownBy w830 none := hR830
    have q830_1 := (hbs830 1 rfl).trans (sl_base hN816 rfl s816_1)
    clear hbs830 hdp830
    refine op_move (ev_base hN830 rfl q830_1) ?_
    exact obN_end rfl rfl (grown_refl _ _)
   ·
    intro a831 w831 hN831 hR831 hbs831 hdp831
    have hR831 : w816.grownBy w831 none := hR831
    have q831_5 := (hbs831 5 rfl).trans (sl_base hN816 rfl s816_5)
    clear hbs831 hdp831
    refine op_move (ev_base hN831 rfl q831_5) ?_
    exact obN_end rfl rfl (grown_refl _ _)
   ·
    intro a832 w832 hN832 hR832 hbs832 hdp832
    have hR832 : w816.grownBy w832 none := hR832
    have z_w832 := hR832.size
    have h2 := h2.keep0 hR832
    have q832_26 : Sl a832 26 u := hdp832 4 _ 26 (by kernel_rfl) rfl rfl
    have q832_27 : Sl a832 27 (Value.int .i64 ((i : Nat) : Int)) := hdp832 5 _ 27 (by kernel_rfl) rfl rfl
    clear hbs832 hdp832
    refine op_index_rd slt76 (ev_base hN832 rfl q832_26) h2 (ev_base hN832 rfl q832_27) (by omega) (by omega) ?_
    intro b833 o834 h0b833 h1b833 hc835
    have hp836 : PtC w832 0 w.heap.size b833 o834 [(Value.int .u16 ((m.getD i 0).toNat : Int))] := ⟨by omega, by omega, fun j u hu => hc835 j u (by have := (List.getElem?_eq_some_iff.1 hu).1; simpa using this) ((fun j u hu => one_at (el_u16 (i := i) (by omega) (by omega)) hu) j u hu)⟩
    exact obN_end rfl ⟨b833, o834, rfl, hp836⟩ (grown_refl _ _)
   ·
    intro a837 w837 hN837 hR837 hbs837 hdp837
    have hR837 : w816.grownBy w837 none := hR837
    have z_w837 := hR837.size
    obtain ⟨b826, o827, q837_28, hp829⟩ := hdp837 6 _ 28 (by kernel_rfl) rfl rfl
    have hp829 : PtC w837 0 w.heap.size b826 o827 [(Value.int .u16 ((m.getD i 0).toNat : Int))] := hp829
    clear hbs837 hdp837
    refine op_load1 (v := (Value.int .u16 ((m.getD i 0).toNat : Int))) one37 (ev_base hN837 rfl q837_28) (hp829.2.2 0 _ rfl) ?_
    exact obN_end rfl rfl (grown_refl _ _)
   ·
    intro a838 w838 hN838 hR838 hbs838 hdp838
    have hR838 : w816.grownBy w838 none := hR838
    have q838_25 : Sl a838 25 (Value.int .u16 ((l.getD i 0).toNat : Int)) := hdp838 3 _ 25 (by kernel_rfl) rfl rfl
    have q838_29 : Sl a838 29 (Value.int .u16 ((m.getD i 0).toNat : Int)) := hdp838 7 _ 29 (by kernel_rfl) rfl rfl
    clear hbs838 hdp838
    refine op_cmp (b := (decide (((l.getD i 0).toNat : Int) < ((m.getD i 0).toNat : Int)))) (ev_base hN838 rfl q838_25) (ev_base hN838 rfl q838_29) (b_lss rfl) ?_
    exact obN_end rfl rfl (grown_refl _ _)
   ·
    intro a839 w839 hN839 hd839 hbs839 hph839 E839
    have hd839 := hd839.trans hd816
    have s839_0 := (hbs839 0 rfl).trans (sl_base hN816 rfl s816_0)
    have s839_1 := (hbs839 1 rfl).trans (sl_base hN816 rfl s816_1)
    have s839_5 := (hbs839 5 rfl).trans (sl_base hN816 rfl s816_5)
    have s839_6 := (hbs839 6 rfl).trans (sl_base hN816 rfl s816_6)
    have s839_7 := (hbs839 7 rfl).trans (sl_base hN816 rfl s816_7)
    have s839_8 := (hbs839 8 rfl).trans (sl_base hN816 rfl s816_8)
    have s839_9 := (hbs839 9 rfl).trans (sl_base hN816 rfl s816_9)
    have s839_10 := (hbs839 10 rfl).trans (sl_base hN816 rfl s816_10)
    have s839_22 : Sl a839 22 v := hph839 0 _ 22 rfl rfl
    have s839_23 : Sl a839 23 (Value.int .i64 ((i : Nat) : Int)) := hph839 1 _ 23 rfl rfl
    obtain ⟨b822, o823, s839_24, hp825⟩ := hph839 2 _ 24 rfl rfl
    have hp825 : PtC w839 0 w.heap.size b822 o823 [(Value.int .u16 ((l.getD i 0).toNat : Int))] := hp825
    have s839_25 : Sl a839 25 (Value.int .u16 ((l.getD i 0).toNat : Int)) := hph839 3 _ 25 rfl rfl
    have s839_26 : Sl a839 26 u := hph839 4 _ 26 rfl rfl
    have s839_27 : Sl a839 27 (Value.int .i64 ((i : Nat) : Int)) := hph839 5 _ 27 rfl rfl
    obtain ⟨b826, o827, s839_28, hp829⟩ := hph839 6 _ 28 rfl rfl
    have hp829 : PtC w839 0 w.heap.size b826 o827 [(Value.int .u16 ((m.getD i 0).toNat : Int))] := hp829
    have s839_29 : Sl a839 29 (Value.int .u16 ((m.getD i 0).toNat : Int)) := hph839 7 _ 29 rfl rfl
    have s839_30 : Sl a839 30 (Value.bool (decide (((l.getD i 0).toNat : Int) < ((m.getD i 0).toNat : Int)))) := hph839 8 _ 30 rfl rfl
    clear hbs839 hph839
    have E839 : w816.grownBy w839 none := E839
    have z_w839 := E839.size
    have h := h.keep0 E839
    have h2 := h2.keep0 E839
    have hb := below_step0 hb E839 hb.size
    refine hK821 _ _ (wp_cond_split (ev_base hN839 rfl s839_30) (fun c30 => ?_) (fun c30 => ?_))
    ·
     have c30 := of_decide_eq_true c30
     refine seq_any fun K840 hK840 => one_reg (op_assign rfl (reg_nil (hK840 _ _ (wp_ret (then_ret (blk_ret (then_ret (then_ret (blk_ret (then_ret ( ?_)))))))))))
     refine ret1 rfl hd839 (ev_hit hN839 rfl) ⟨_, rfl, ?_⟩
     exact ⟨hb, congrArg (Value.int .i64) (by rw [cmpL, if_neg (by omega), if_neg (by omega), he, cmpG_step (by omega) (by omega), if_pos (by omega)])⟩
    ·
     have c30 := of_decide_eq_false c30
     refine wp_skip (hK820 _ _ (seq_any fun K841 hK841 => ?_))
     refine reg_quiet (Φ := phiL [(fun uz _ => uz = v), (fun uz _ => uz = (Value.int .i64 ((i : Nat) : Int))), (fun uz w' => ∃ (b842 : (Nat)) (o843 : (Nat)), uz = (ptr b842 o843) ∧ PtC w' 0 w.heap.size b842 o843 [(Value.int .u16 ((l.getD i 0).toNat : Int))]), (fun uz _ => uz = (Value.int .u16 ((l.getD i 0).toNat : Int))), (fun uz _ => uz = u), (fun uz _ => uz = (Value.int .i64 ((i : Nat) : Int))), (fun uz w' => ∃ (b846 : (Nat)) (o847 : (Nat)), uz = (ptr b846 o847) ∧ PtC w' 0 w.heap.size b846 o847 [(Value.int .u16 ((m.getD i 0).toNat : Int))]), (fun uz _ => uz = (Value.int .u16 ((m.getD i 0).toNat : Int))), (fun uz _ => uz = (Value.bool (decide (((m.getD i 0).toNat : Int) < ((l.getD i 0).toNat : Int)))))]) mixed (by kernel_rfl) (by kernel_rfl) (by kernel_rfl) hN839 (StL.get (StL.eq (StL.eq (StL.cons (fun u w1 w2 E h => by obtain ⟨x0, x1, hv, f0⟩ := h; exact ⟨x0, x1, hv, f0.keep0 E⟩) (StL.eq (StL.eq (StL.eq (StL.cons (fun u w1 w2 E h => by obtain ⟨x0, x1, hv, f0⟩ := h; exact ⟨x0, x1, hv, f0.keep0 E⟩) (StL.eq (StL.eq (StL.nil _))))))))))) (ObL.get (s := 9) (ObL.cons ?_ (ObL.cons ?_ (ObL.cons ?_ (ObL.cons ?_ (ObL.cons ?_ (ObL.cons ?_ (ObL.cons ?_ (ObL.cons ?_ (ObL.cons ?_ (ObL.nil)))))))))) rfl) ?_
     ·
      intro a842 w842 hN842 hR842 hbs842 hdp842
      have hR842 : w839.grownBy w842 none := hR842
      have q842_0 := (hbs842 0 rfl).trans (sl_base hN839 rfl s839_0)
      clear hbs842 hdp842
      refine op_move (ev_base hN842 rfl q842_0) ?_
      exact obN_end rfl rfl (grown_refl _ _)
     ·
      intro a843 w843 hN843 hR843 hbs843 hdp843
      have hR843 : w839.grownBy w843 none := hR843
      have q843_5 := (hbs843 5 rfl).trans (sl_base hN839 rfl s839_5)
      clear hbs843 hdp843
      refine op_move (ev_base hN843 rfl q843_5) ?_
      exact obN_end rfl rfl (grown_refl _ _)
     ·
      intro a844 w844 hN844 hR844 hbs844 hdp844
      have hR844 : w839.grownBy w844 none := hR844
      have z_w844 := hR844.size
      have h := h.keep0 hR844
      have q844_31 : Sl a844 31 v := hdp844 0 _ 31 (by kernel_rfl) rfl rfl
      have q844_32 : Sl a844 32 (Value.int .i64 ((i : Nat) : Int)) := hdp844 1 _ 32 (by kernel_rfl) rfl rfl
      clear hbs844 hdp844
      refine op_index_rd slt76 (ev_base hN844 rfl q844_31) h (ev_base hN844 rfl q844_32) (by omega) (by omega) ?_
      intro b845 o846 h0b845 h1b845 hc847
      have hp848 : PtC w844 0 w.heap.size b845 o846 [(Value.int .u16 ((l.getD i 0).toNat : Int))] := ⟨by omega, by omega, fun j u hu => hc847 j u (by have := (List.getElem?_eq_some_iff.1 hu).1; simpa using this) ((fun j u hu => one_at (el_u16 (i := i) (by omega) (by omega)) hu) j u hu)⟩
      exact obN_end rfl ⟨b845, o846, rfl, hp848⟩ (grown_refl _ _)
     ·
      intro a849 w849 hN849 hR849 hbs849 hdp849
      have hR849 : w839.grownBy w849 none := hR849
      have z_w849 := hR849.size
      obtain ⟨b842, o843, q849_33, hp845⟩ := hdp849 2 _ 33 (by kernel_rfl) rfl rfl
      have hp845 : PtC w849 0 w.heap.size b842 o843 [(Value.int .u16 ((l.getD i 0).toNat : Int))] := hp845
      clear hbs849 hdp849
      refine op_load1 (v := (Value.int .u16 ((l.getD i 0).toNat : Int))) one37 (ev_base hN849 rfl q849_33) (hp845.2.2 0 _ rfl) ?_
      exact obN_end rfl rfl (grown_refl _ _)
     ·
      intro a850 w850 hN850 hR850 hbs850 hdp850
      have hR850 : w839.grownBy w850 none := hR850
      have q850_1 := (hbs850 1 rfl).trans (sl_base hN839 rfl s839_1)
      clear hbs850 hdp850
      refine op_move (ev_base hN850 rfl q850_1) ?_
      exact obN_end rfl rfl (grown_refl _ _)
     ·
      intro a851 w851 hN851 hR851 hbs851 hdp851
      have hR851 : w839.grownBy w851 none := hR851
      have q851_5 := (hbs851 5 rfl).trans (sl_base hN839 rfl s839_5)
      clear hbs851 hdp851
      refine op_move (ev_base hN851 rfl q851_5) ?_
      exact obN_end rfl rfl (grown_refl _ _)
     ·
      intro a852 w852 hN852 hR852 hbs852 hdp852
      have hR852 : w839.grownBy w852 none := hR852
      have z_w852 := hR852.size
      have h2 := h2.keep0 hR852
      have q852_35 : Sl a852 35 u := hdp852 4 _ 35 (by kernel_rfl) rfl rfl
      have q852_36 : Sl a852 36 (Value.int .i64 ((i : Nat) : Int)) := hdp852 5 _ 36 (by kernel_rfl) rfl rfl
      clear hbs852 hdp852
      refine op_index_rd slt76 (ev_base hN852 rfl q852_35) h2 (ev_base hN852 rfl q852_36) (by omega) (by omega) ?_
      intro b853 o854 h0b853 h1b853 hc855
      have hp856 : PtC w852 0 w.heap.size b853 o854 [(Value.int .u16 ((m.getD i 0).toNat : Int))] := ⟨by omega, by omega, fun j u hu => hc855 j u (by have := (List.getElem?_eq_some_iff.1 hu).1; simpa using this) ((fun j u hu => one_at (el_u16 (i := i) (by omega) (by omega)) hu) j u hu)⟩
      exact obN_end rfl ⟨b853, o854, rfl, hp856⟩ (grown_refl _ _)
     ·
      intro a857 w857 hN857 hR857 hbs857 hdp857
      have hR857 : w839.grownBy w857 none := hR857
      have z_w857 := hR857.size
      obtain ⟨b846, o847, q857_37, hp849⟩ := hdp857 6 _ 37 (by kernel_rfl) rfl rfl
      have hp849 : PtC w857 0 w.heap.size b846 o847 [(Value.int .u16 ((m.getD i 0).toNat : Int))] := hp849
      clear hbs857 hdp857
      refine op_load1 (v := (Value.int .u16 ((m.getD i 0).toNat : Int))) one37 (ev_base hN857 rfl q857_37) (hp849.2.2 0 _ rfl) ?_
      exact obN_end rfl rfl (grown_refl _ _)
     ·
      intro a858 w858 hN858 hR858 hbs858 hdp858
      have hR858 : w839.grownBy w858 none := hR858
      have q858_34 : Sl a858 34 (Value.int .u16 ((l.getD i 0).toNat : Int)) := hdp858 3 _ 34 (by kernel_rfl) rfl rfl
      have q858_38 : Sl a858 38 (Value.int .u16 ((m.getD i 0).toNat : Int)) := hdp858 7 _ 38 (by kernel_rfl) rfl rfl
      clear hbs858 hdp858
      refine op_cmp (b := (decide (((m.getD i 0).toNat : Int) < ((l.getD i 0).toNat : Int)))) (ev_base hN858 rfl q858_34) (ev_base hN858 rfl q858_38) (b_gtr rfl) ?_
      exact obN_end rfl rfl (grown_refl _ _)
     ·
      intro a859 w859 hN859 hd859 hbs859 hph859 E859
      have hd859 := hd859.trans hd839
      have s859_0 := (hbs859 0 rfl).trans (sl_base hN839 rfl s839_0)
      have s859_1 := (hbs859 1 rfl).trans (sl_base hN839 rfl s839_1)
      have s859_5 := (hbs859 5 rfl).trans (sl_base hN839 rfl s839_5)
      have s859_6 := (hbs859 6 rfl).trans (sl_base hN839 rfl s839_6)
      have s859_7 := (hbs859 7 rfl).trans (sl_base hN839 rfl s839_7)
      have s859_8 := (hbs859 8 rfl).trans (sl_base hN839 rfl s839_8)
      have s859_9 := (hbs859 9 rfl).trans (sl_base hN839 rfl s839_9)
      have s859_10 := (hbs859 10 rfl).trans (sl_base hN839 rfl s839_10)
      have s859_31 : Sl a859 31 v := hph859 0 _ 31 rfl rfl
      have s859_32 : Sl a859 32 (Value.int .i64 ((i : Nat) : Int)) := hph859 1 _ 32 rfl rfl
      obtain ⟨b842, o843, s859_33, hp845⟩ := hph859 2 _ 33 rfl rfl
      have hp845 : PtC w859 0 w.heap.size b842 o843 [(Value.int .u16 ((l.getD i 0).toNat : Int))] := hp845
      have s859_34 : Sl a859 34 (Value.int .u16 ((l.getD i 0).toNat : Int)) := hph859 3 _ 34 rfl rfl
      have s859_35 : Sl a859 35 u := hph859 4 _ 35 rfl rfl
      have s859_36 : Sl a859 36 (Value.int .i64 ((i : Nat) : Int)) := hph859 5 _ 36 rfl rfl
      obtain ⟨b846, o847, s859_37, hp849⟩ := hph859 6 _ 37 rfl rfl
      have hp849 : PtC w859 0 w.heap.size b846 o847 [(Value.int .u16 ((m.getD i 0).toNat : Int))] := hp849
      have s859_38 : Sl a859 38 (Value.int .u16 ((m.getD i 0).toNat : Int)) := hph859 7 _ 38 rfl rfl
      have s859_39 : Sl a859 39 (Value.bool (decide (((m.getD i 0).toNat : Int) < ((l.getD i 0).toNat : Int)))) := hph859 8 _ 39 rfl rfl
      clear hbs859 hph859
      have E859 : w839.grownBy w859 none := E859
      have z_w859 := E859.size
      have h := h.keep0 E859
      have h2 := h2.keep0 E859
      have hb := below_step0 hb E859 hb.size
      refine hK841 _ _ (wp_cond_split (ev_base hN859 rfl s859_39) (fun c39 => ?_) (fun c39 => ?_))
      ·
       have c39 := of_decide_eq_true c39
       refine seq_any fun K860 hK860 => one_reg (op_assign rfl (reg_nil (hK860 _ _ (wp_ret (blk_ret (then_ret (then_ret (blk_ret (then_ret ( ?_))))))))))
       refine ret1 rfl hd859 (ev_hit hN859 rfl) ⟨_, rfl, ?_⟩
       exact ⟨hb, congrArg (Value.int .i64) (by rw [cmpL, if_neg (by omega), if_neg (by omega), he, cmpG_step (by omega) (by omega), if_neg (by omega), if_pos (by omega)])⟩
      ·
       have c39 := of_decide_eq_false c39
       refine wp_skip (hK819 _ _ (one_reg (op_move (ev_base hN859 rfl s859_5) (op_add (ev_hit hN859 rfl) rfl (add64 (by omega)) ?_))))
       refine op_assign (ev_hit hN859 rfl) (reg_nil ?_)
       -- round 10F 19T 30F 39F
       exact loop_next _ hN859 hd859 ⟨i + 1, rfl, (sl_base hN859 rfl s859_0), (sl_base hN859 rfl s859_1), (sl_base hN859 rfl s859_6), (sl_base hN859 rfl s859_7), (sl_base hN859 rfl s859_8), (sl_base hN859 rfl s859_9), (sl_base hN859 rfl s859_10), (sl_hit hN859 rfl).trans (congrArg (Value.int .i64) (by omega)), (by omega), (he.trans ((cmpG_step (by omega) (by omega)).trans (by rw [if_neg (by omega), if_neg (by omega)]))), hb, (by omega), h, h2⟩ (by omega)
  ·
   refine reg_nil (hK818 _ _ (wp_cond_false (ev_hit hN816 rfl) (wp_exit (then_exit (then_exit (blk_hit ?_))))))
   refine hK814 _ _ (seq_any fun K861 hK861 => one_reg (op_assign rfl (reg_nil (hK861 _ _ (wp_ret ?_)))))
   refine ret1 rfl hd816 (ev_hit hN816 rfl) ⟨_, rfl, ?_⟩
   exact ⟨hb, congrArg (Value.int .i64) (by rw [cmpL, if_neg (by omega), if_neg (by omega), he, cmpG_end (by omega) (by omega)])⟩

theorem labPut_ret (bl : List UInt8) (l : Lb) (v u : Value) (w : World) (hbl : bl.length ≤ 1000000000) (hl : l.length ≤ 1000000000) (hv : RdC w 0 w.heap.size 1 v bl.length (bl.map u8v)) (h : RdC w 0 w.heap.size 1 u l.length (l.map u16v)) : Ret Try.prog 57 #[v, u] w (fun v' w' => Below w.heap.size w w' ∧ Own w' w.heap.size 5 1 v' (bl.length + (labB l).length) ((bl ++ labB l).map u8v)) := by
 have hb := Below.refl w.heap.size w
 refine enter (N := 32) Try.func57 rfl rfl (by simp) fun a0 hN hd hA => ?_
 have s0 : a0.tmps.getD 0 undef = v := hA 0 (by simp)
 have s1 : a0.tmps.getD 1 undef = u := hA 1 (by simp)
 clear hA
 refine seq_any fun K862 hK862 => ?_
 refine one_reg (op_assign rfl (reg_nil (hK862 _ _ (seq_any fun K863 hK863 => one_reg (op_bslice (e := 5) (pv := []) (cs := []) trivial (by kernel_rfl) ?_)))))
 intro w864 b865 lo_b865 hi_b865 hB867 E866
 have z_w864 := E866.size
 have hv := hv.keep0 E866
 have h := h.keep0 E866
 have hb := below_step0 hb E866 hb.size
 refine op_move (ev_base hN rfl s0) ?_
 have hP873 := (Own.ofBx (base := w.heap.size) (sz := 1) (n := 0) hB867 rfl (by decide) (by omega))
 refine op_append slt27 (ev_hit hN rfl) hP873 (ev_hit hN rfl) (Src.ofRd Try.underlying27 (by decide) hv (by simp [Value.oneCell', u8v])) (by unfold maxLen; omega) (by omega) hb.size ?_
 intro v868 w869 hO871 E870 hm872
 have z_w869 := E870.size
 have hv := hv.keepO hP873 E870 (by omega)
 have h := h.keepO hP873 E870 (by omega)
 have hb := below_stepO hb hP873 E870 hb.size (by omega)
 have hO871 : Own w869 w.heap.size 5 1 v868 (0 + bl.length) ((bl).map u8v) := by simpa [u8v, u16v, cellsV] using hO871
 refine op_move (ev_base hN rfl s1) (op_len_rd Try.underlying76 (ev_hit hN rfl) h ?_)
 refine op_conv (r := ((UInt8.ofNat l.length).toNat : Int)) (ev_hit hN rfl) us3 Try.underlying5 conv_u8 ?_
 refine op_bslice (e := 5) (pv := [(0, (Value.int .u8 ((UInt8.ofNat l.length).toNat : Int)))]) (cs := [(Value.int .u8 ((UInt8.ofNat l.length).toNat : Int))]) ⟨rfl, (ev_hit hN rfl), trivial⟩ (by kernel_rfl) ?_
 intro w874 b875 lo_b875 hi_b875 hB877 E876
 have z_w874 := E876.size
 have hv := hv.keep0 E876
 have h := h.keep0 E876
 have hO871 := hO871.keep0 E876
 have hb := below_step0 hb E876 hb.size
 have hP883 := hO871
 refine op_append slt27 (ev_hit hN rfl) hP883 (ev_hit hN rfl) (Src.ofRd Try.underlying27 (by decide) (RdC.ofBx (sz := 1) (n := 1) hB877 rfl (by decide)) (by simp [Value.oneCell', u8v])) (by unfold maxLen; omega) (by omega) hb.size ?_
 intro v878 w879 hO881 E880 hm882
 have z_w879 := E880.size
 have hv := hv.keepO hP883 E880 (by omega)
 have h := h.keepO hP883 E880 (by omega)
 have hb := below_stepO hb hP883 E880 hb.size (by omega)
 have hO881 : Own w879 w.heap.size 5 1 v878 ((0 + bl.length) + 1) (((bl ++ [(UInt8.ofNat l.length)])).map u8v) := by simpa [u8v, u16v, cellsV] using hO881
 refine op_assign (ev_hit hN rfl) ?_
 refine reg_nil (hK863 _ _ (seq_any fun K884 hK884 => seq_any fun K885 hK885 => one_reg (op_move (ev_base hN rfl s1) (op_len_rd Try.underlying76 (ev_hit hN rfl) h ?_))))
 refine op_move rfl (reg_nil (hK885 _ _ (wp_block ?_)))
 refine loop_m (fun mz_ az_ w' => ∃ (i : Nat) (y : Value), mz_ = l.length - i ∧ (az_.tmps.getD 0 undef = v) ∧ (az_.tmps.getD 1 undef = u) ∧ (az_.tmps.getD 4 undef = (Value.slice none 0 0)) ∧ (az_.tmps.getD 8 undef = (Value.slice (some ⟨b865, 0, none⟩) 0 0)) ∧ (az_.tmps.getD 9 undef = v) ∧ (az_.tmps.getD 10 undef = v868) ∧ (az_.tmps.getD 11 undef = u) ∧ (az_.tmps.getD 12 undef = (Value.int .i64 ((l.length : Nat) : Int))) ∧ (az_.tmps.getD 13 undef = (Value.int .u8 ((UInt8.ofNat l.length).toNat : Int))) ∧ (az_.tmps.getD 14 undef = (Value.slice (some ⟨b875, 0, none⟩) 1 1)) ∧ (az_.tmps.getD 15 undef = v878) ∧ (az_.tmps.getD 16 undef = u) ∧ (az_.tmps.getD 17 undef = (Value.int .i64 ((l.length : Nat) : Int))) ∧ (az_.tmps.getD 18 undef = (Value.int .i64 ((i : Nat) : Int))) ∧ (az_.tmps.getD 5 undef = y) ∧ (i ≤ l.length) ∧ (Below w.heap.size w w') ∧ (w879.heap.size ≤ w'.heap.size) ∧ (RdC w' 0 w.heap.size 1 v bl.length (bl.map u8v)) ∧ (RdC w' 0 w.heap.size 1 u l.length (l.map u16v)) ∧ (Own w' w.heap.size 5 1 y (bl.length + 1 + 2 * i) ((bl ++ UInt8.ofNat l.length :: (l.take i).flatMap be2).map u8v))) _ hN hd ⟨0, _, rfl, (sl_base hN rfl s0), (sl_base hN rfl s1), (sl_hit hN rfl), (sl_hit hN rfl), (sl_hit hN rfl), (sl_hit hN rfl), (sl_hit hN rfl), (sl_hit hN rfl), (sl_hit hN rfl), (sl_hit hN rfl), (sl_hit hN rfl), (sl_hit hN rfl), (sl_hit hN rfl), (sl_hit hN rfl), (sl_hit hN rfl), Nat.zero_le _, hb, (Nat.le_refl _), hv, h, (hO881.cast (by first | omega | (simp; try omega)) (by simp))⟩ ?_
 rintro _ a886 w886 hN886 hd886 ⟨i, y, rfl, s886_0, s886_1, s886_4, s886_8, s886_9, s886_10, s886_11, s886_12, s886_13, s886_14, s886_15, s886_16, s886_17, s886_18, s886_5, hi, hb, zl_w886, hv, h, hO887⟩
 have z_w886 := hb.size
 refine seq_any fun K888 hK888 => ?_
 refine one_reg (op_lss (ev_base hN886 rfl s886_18) (ev_base hN886 rfl s886_17) (fun c19 => ?_) (fun c19 => ?_))
 ·
  refine reg_nil ?_
  refine hK888 _ _ (seq_any fun K889 hK889 => wp_cond_true (ev_hit hN886 rfl) (wp_skip (hK889 _ _ (seq_any fun K890 hK890 => wp_block ?_))))
  refine seq_any fun K891 hK891 => one_reg (op_index_rd slt76 (ev_base hN886 rfl s886_16) h (ev_base hN886 rfl s886_18) (by omega) (by omega) ?_)
  intro b892 o893 h0b892 h1b892 hc894
  refine op_load1 (v := (Value.int .u16 ((l.getD i 0).toNat : Int))) one37 (ev_hit hN886 rfl) (by have := hc894 0 (Value.int .u16 ((l.getD i 0).toNat : Int)) (by decide) (el_u16 (i := i) (by omega) (by omega)); simpa using this) ?_
  refine op_assign (ev_hit hN886 rfl) (reg_nil (hK891 _ _ (one_reg (op_move (ev_base hN886 rfl s886_5) (op_move (ev_hit hN886 rfl) (op_shr (r := (((l.getD i 0).toNat / 256 : Nat) : Int)) (ev_hit hN886 rfl) rfl (by decide) shr16 ?_))))))
  refine op_conv (r := ((UInt8.ofNat ((l.getD i 0).toNat / 256)).toNat : Int)) (ev_hit hN886 rfl) us37 Try.underlying5 conv_u8 ?_
  refine op_move (ev_hit hN886 rfl) (op_conv (r := ((UInt8.ofNat (l.getD i 0).toNat).toNat : Int)) (ev_hit hN886 rfl) us37 Try.underlying5 conv_u8 ?_)
  refine op_bslice (e := 5) (pv := [(0, (Value.int .u8 ((UInt8.ofNat ((l.getD i 0).toNat / 256)).toNat : Int))), (1, (Value.int .u8 ((UInt8.ofNat (l.getD i 0).toNat).toNat : Int)))]) (cs := [(Value.int .u8 ((UInt8.ofNat ((l.getD i 0).toNat / 256)).toNat : Int)), (Value.int .u8 ((UInt8.ofNat (l.getD i 0).toNat).toNat : Int))]) ⟨rfl, (ev_hit hN886 rfl), ⟨rfl, (ev_hit hN886 rfl), trivial⟩⟩ (by kernel_rfl) ?_
  intro w895 b896 lo_b896 hi_b896 hB898 E897
  have z_w895 := E897.size
  have hv := hv.keep0 E897
  have h := h.keep0 E897
  have hO887 := hO887.keep0 E897
  have hb := below_step0 hb E897 hb.size
  have hP904 := hO887
  refine op_append slt27 (ev_hit hN886 rfl) hP904 (ev_hit hN886 rfl) (Src.ofRd Try.underlying27 (by decide) (RdC.ofBx (sz := 1) (n := 2) hB898 rfl (by decide)) (by simp [Value.oneCell', u8v])) (by unfold maxLen; omega) (by omega) hb.size ?_
  intro v899 w900 hO902 E901 hm903
  have z_w900 := E901.size
  have hv := hv.keepO hP904 E901 (by omega)
  have h := h.keepO hP904 E901 (by omega)
  have hb := below_stepO hb hP904 E901 hb.size (by omega)
  have hO902 : Own w900 w.heap.size 5 1 v899 ((bl.length + 1 + 2 * i) + 2) ((((bl ++ UInt8.ofNat l.length :: (l.take i).flatMap be2) ++ [(UInt8.ofNat ((l.getD i 0).toNat / 256)), (UInt8.ofNat (l.getD i 0).toNat)])).map u8v) := by simpa [u8v, u16v, cellsV] using hO902
  refine op_assign (ev_hit hN886 rfl) (reg_nil (hK890 _ _ (one_reg (op_add (ev_base hN886 rfl s886_18) rfl (add64 (by omega)) ?_))))
  refine op_move (ev_hit hN886 rfl) (reg_nil ?_)
  -- round 19T
  exact loop_next _ hN886 hd886 ⟨i + 1, _, rfl, (sl_base hN886 rfl s886_0), (sl_base hN886 rfl s886_1), (sl_base hN886 rfl s886_4), (sl_base hN886 rfl s886_8), (sl_base hN886 rfl s886_9), (sl_base hN886 rfl s886_10), (sl_base hN886 rfl s886_11), (sl_base hN886 rfl s886_12), (sl_base hN886 rfl s886_13), (sl_base hN886 rfl s886_14), (sl_base hN886 rfl s886_15), (sl_base hN886 rfl s886_16), (sl_base hN886 rfl s886_17), (sl_hit hN886 rfl).trans (congrArg (Value.int .i64) (by omega)), (sl_hit hN886 rfl), (by omega), hb, (by omega), hv, h, (hO902.cast (by first | omega | (simp; try omega)) (by rw [snoc (d := 0) (l := l) (i := i) (by omega), List.flatMap_append]; simp [be2]))⟩ (by omega)
 ·
  refine reg_nil (hK888 _ _ (seq_any fun K905 hK905 => wp_cond_false (ev_hit hN886 rfl) (wp_exit (then_exit (then_exit (blk_hit ?_))))))
  refine hK884 _ _ ?_
  refine seq_any fun K906 hK906 => one_reg (op_move (ev_base hN886 rfl s886_5) (op_assign (ev_hit hN886 rfl) (reg_nil (hK906 _ _ (wp_ret ?_)))))
  refine ret1 rfl hd886 (ev_hit hN886 rfl) ⟨_, rfl, ?_⟩
  have ei : l.take i = l := List.take_of_length_le (by omega)
  have hq := hO887
  rw [ei] at hq
  exact ⟨hb, hq.cast (by rw [labB_len]; omega) (by rw [labB])⟩

theorem labTake_ret (bl : List UInt8) (v : Value) (w : World) (hl : bl.length ≤ 1000000000000) (hv : RdC w 0 w.heap.size 1 v bl.length (bl.map u8v)) : Ret Try.prog 62 #[v] w (fun v' w' => Below w.heap.size w w' ∧ ∃ u, v' = .tuple #[u, .int .i64 (takeL bl).2.1, .int .i64 (takeL bl).2.2] ∧ Own w' w.heap.size 37 1 u (takeL bl).1.length ((takeL bl).1.map u16v)) := by
 have hb := Below.refl w.heap.size w
 refine enter (N := 51) Try.func62 rfl rfl (by simp) fun a0 hN hd hA => ?_
 have s0 : a0.tmps.getD 0 undef = v := hA 0 (by simp)
 clear hA
 refine seq_any fun K907 hK907 => one_reg (op_assign rfl (op_assign rfl (op_assign rfl ?_)))
 refine reg_nil (hK907 _ _ (seq_any fun K908 hK908 => seq_any fun K909 hK909 => one_reg (op_move (ev_base hN rfl s0) (op_len_rd Try.underlying27 (ev_hit hN rfl) hv ?_))))
 refine op_eql (ev_hit hN rfl) rfl (fun c9 => ?_) (fun c9 => ?_)
 ·
  refine reg_nil (hK909 _ _ (wp_cond_true (ev_hit hN rfl) (seq_any fun K910 hK910 => ?_)))
  refine one_reg (op_assign rfl (op_assign rfl (op_assign rfl (reg_nil (hK910 _ _ (wp_ret (then_ret ( ?_))))))))
  refine retN (rs := [.tmp 2, .tmp 3, .tmp 4]) (vs := [(Value.slice none 0 0), (Value.int .i64 0), (Value.int .i64 2)]) rfl hd ⟨(ev_hit hN rfl), ⟨(ev_hit hN rfl), ⟨(ev_hit hN rfl), trivial⟩⟩⟩ rfl ⟨_, rfl, ?_⟩
  have hc0 := (bl.getD 0 0).toNat_lt
  have e : takeL bl = ([], 0, 2) := by rw [takeL, if_pos (by omega)]
  exact ⟨hb, _, by rw [e]; rfl, by rw [e]; exact Own.nil _ _ _ _⟩
 ·
  refine reg_nil (hK909 _ _ ?_)
  refine wp_cond_false (ev_hit hN rfl) (wp_skip (hK908 _ _ (seq_any fun K911 hK911 => one_reg (op_move (ev_base hN rfl s0) (op_index_rd slt27 (ev_hit hN rfl) hv rfl (by omega) (by omega) ?_)))))
  intro b912 o913 h0b912 h1b912 hc914
  refine op_load1 (v := (Value.int .u8 ((bl.getD 0 0).toNat : Int))) one5 (ev_hit hN rfl) (by have := hc914 0 (Value.int .u8 ((bl.getD 0 0).toNat : Int)) (by decide) (el_u8 (i := 0) (by omega) (by omega)); simpa using this) (op_conv (r := ((bl.getD 0 0).toNat : Int)) (ev_hit hN rfl) us5 Try.underlying3 (wrap_i64 (by have := ((bl.getD 0 0)).toNat_lt; omega)) ?_)
  refine op_assign (ev_hit hN rfl) (reg_nil (hK911 _ _ (seq_any fun K915 hK915 => one_reg (op_move (ev_hit hN rfl) ?_))))
  have hc0 := (bl.getD 0 0).toNat_lt
  refine op_mul rfl (ev_hit hN rfl) (mul64 (by omega)) ?_
  have hc0 := (bl.getD 0 0).toNat_lt
  refine op_add rfl (ev_hit hN rfl) (add64 (by omega)) ?_
  refine op_assign (ev_hit hN rfl) (reg_nil (hK915 _ _ (seq_any fun K916 hK916 => wp_block ?_)))
  refine seq_any fun K917 hK917 => ?_
  refine one_reg (op_move (ev_hit hN rfl) (op_gtr (ev_hit hN rfl) rfl (fun c19 => ?_) (fun c19 => ?_)))
  ·
   refine op_assign (ev_hit hN rfl) (reg_nil (hK917 _ _ (wp_cond_true (ev_hit hN rfl) (seq_any fun K918 hK918 => ?_))))
   refine one_reg (op_assign rfl (op_assign rfl (op_assign rfl (reg_nil (hK918 _ _ (wp_ret (blk_ret (then_ret ( ?_)))))))))
   refine retN (rs := [.tmp 2, .tmp 3, .tmp 4]) (vs := [(Value.slice none 0 0), (Value.int .i64 0), (Value.int .i64 3)]) rfl hd ⟨(ev_hit hN rfl), ⟨(ev_hit hN rfl), ⟨(ev_hit hN rfl), trivial⟩⟩⟩ rfl ⟨_, rfl, ?_⟩
   have hc0 := (bl.getD 0 0).toNat_lt
   have e : takeL bl = ([], 0, 3) := by rw [takeL, if_neg (by omega), if_pos (by omega)]
   exact ⟨hb, _, by rw [e]; rfl, by rw [e]; exact Own.nil _ _ _ _⟩
  ·
   refine op_assign (ev_hit hN rfl) ?_
   refine reg_nil (hK917 _ _ (wp_cond_false (ev_hit hN rfl) (seq_any fun K919 hK919 => one_reg (op_move (ev_base hN rfl s0) (op_len_rd Try.underlying27 (ev_hit hN rfl) hv ?_)))))
   refine op_move (ev_hit hN rfl) (op_lss (ev_hit hN rfl) (ev_hit hN rfl) (fun c24 => ?_) (fun c24 => ?_))
   ·
    refine op_assign (ev_hit hN rfl) (reg_nil (hK919 _ _ (wp_cond_true (ev_hit hN rfl) (seq_any fun K920 hK920 => ?_))))
    refine one_reg (op_assign rfl (op_assign rfl (op_assign rfl (reg_nil (hK920 _ _ (wp_ret (blk_ret (then_ret ( ?_)))))))))
    refine retN (rs := [.tmp 2, .tmp 3, .tmp 4]) (vs := [(Value.slice none 0 0), (Value.int .i64 0), (Value.int .i64 2)]) rfl hd ⟨(ev_hit hN rfl), ⟨(ev_hit hN rfl), ⟨(ev_hit hN rfl), trivial⟩⟩⟩ rfl ⟨_, rfl, ?_⟩
    have hc0 := (bl.getD 0 0).toNat_lt
    have e : takeL bl = ([], 0, 2) := by rw [takeL, if_neg (by omega), if_neg (by omega), if_pos (by omega)]
    exact ⟨hb, _, by rw [e]; rfl, by rw [e]; exact Own.nil _ _ _ _⟩
   ·
    refine op_assign (ev_hit hN rfl) (reg_nil (hK919 _ _ (wp_cond_false (ev_hit hN rfl) (wp_skip (hK916 _ _ ?_)))))
    refine seq_any fun K921 hK921 => seq_any fun K922 hK922 => one_reg (op_assign rfl (reg_nil (hK922 _ _ (wp_block ?_))))
    have hc0 := (bl.getD 0 0).toNat_lt
    refine loop_m (fun mz_ az_ w' => ∃ (i : Nat) (u : Value), mz_ = (bl.getD 0 0).toNat - i ∧ (az_.tmps.getD 0 undef = v) ∧ (az_.tmps.getD 3 undef = (Value.int .i64 (1 + (2 * ((bl.getD 0 0).toNat : Int))))) ∧ (az_.tmps.getD 4 undef = (Value.int .i64 0)) ∧ (az_.tmps.getD 5 undef = (Value.int .i64 ((bl.getD 0 0).toNat : Int))) ∧ (az_.tmps.getD 7 undef = v) ∧ (az_.tmps.getD 8 undef = (Value.int .i64 ((bl.length : Nat) : Int))) ∧ (az_.tmps.getD 9 undef = (Value.bool false)) ∧ (az_.tmps.getD 10 undef = v) ∧ (az_.tmps.getD 11 undef = (ptr b912 o913)) ∧ (az_.tmps.getD 12 undef = (Value.int .u8 ((bl.getD 0 0).toNat : Int))) ∧ (az_.tmps.getD 13 undef = (Value.int .i64 ((bl.getD 0 0).toNat : Int))) ∧ (az_.tmps.getD 14 undef = (Value.int .i64 ((bl.getD 0 0).toNat : Int))) ∧ (az_.tmps.getD 15 undef = (Value.int .i64 (2 * ((bl.getD 0 0).toNat : Int)))) ∧ (az_.tmps.getD 16 undef = (Value.int .i64 (1 + (2 * ((bl.getD 0 0).toNat : Int))))) ∧ (az_.tmps.getD 17 undef = (Value.bool false)) ∧ (az_.tmps.getD 18 undef = (Value.int .i64 ((bl.getD 0 0).toNat : Int))) ∧ (az_.tmps.getD 19 undef = (Value.bool false)) ∧ (az_.tmps.getD 20 undef = (Value.bool false)) ∧ (az_.tmps.getD 21 undef = v) ∧ (az_.tmps.getD 22 undef = (Value.int .i64 ((bl.length : Nat) : Int))) ∧ (az_.tmps.getD 23 undef = (Value.int .i64 (1 + (2 * ((bl.getD 0 0).toNat : Int))))) ∧ (az_.tmps.getD 24 undef = (Value.bool false)) ∧ (az_.tmps.getD 6 undef = (Value.int .i64 (1 + 2 * (i : Int)))) ∧ (az_.tmps.getD 2 undef = u) ∧ (i ≤ (bl.getD 0 0).toNat) ∧ (Below w.heap.size w w') ∧ (w.heap.size ≤ w'.heap.size) ∧ (RdC w' 0 w.heap.size 1 v bl.length (bl.map u8v)) ∧ (Own w' w.heap.size 37 1 u i ((tagsL i bl).map u16v))) _ hN hd ⟨0, _, rfl, (sl_base hN rfl s0), (sl_hit hN rfl), (sl_hit hN rfl), (sl_hit hN rfl), (sl_hit hN rfl), (sl_hit hN rfl), (sl_hit hN rfl), (sl_hit hN rfl), (sl_hit hN rfl), (sl_hit hN rfl), (sl_hit hN rfl), (sl_hit hN rfl), (sl_hit hN rfl), (sl_hit hN rfl), (sl_hit hN rfl), (sl_hit hN rfl), (sl_hit hN rfl), (sl_hit hN rfl), (sl_hit hN rfl), (sl_hit hN rfl), (sl_hit hN rfl), (sl_hit hN rfl), (sl_hit hN rfl).trans (congrArg (Value.int .i64) (by omega)), (sl_hit hN rfl), Nat.zero_le _, hb, (Nat.le_refl _), hv, (Own.nil _ _ _ _)⟩ ?_
    rintro _ a923 w923 hN923 hd923 ⟨i, u, rfl, s923_0, s923_3, s923_4, s923_5, s923_7, s923_8, s923_9, s923_10, s923_11, s923_12, s923_13, s923_14, s923_15, s923_16, s923_17, s923_18, s923_19, s923_20, s923_21, s923_22, s923_23, s923_24, s923_6, s923_2, hi, hb, zl_w923, hv, hO924⟩
    have z_w923 := hb.size
    refine seq_any fun K925 hK925 => seq_any fun K926 hK926 => ?_
    refine one_reg (op_move (ev_base hN923 rfl s923_6) (op_move (ev_base hN923 rfl s923_3) (op_lss (ev_hit hN923 rfl) (ev_hit hN923 rfl) (fun c27 => ?_) (fun c27 => ?_))))
    ·
     refine reg_nil (hK926 _ _ (wp_cond_true (ev_hit hN923 rfl) (wp_skip (hK925 _ _ (seq_any fun K927 hK927 => wp_block ?_)))))
     refine reg_chain (Φ := phiC [(fun _ _ uz _ => uz = u), (fun _ _ uz _ => uz = v), (fun _ _ uz _ => uz = (Value.int .i64 (1 + 2 * (i : Int)))), (fun _ vz uz w' => ∃ (b928 : (Nat)) (o929 : (Nat)), uz = (ptr b928 o929) ∧ PtC w' 0 w.heap.size b928 o929 [(Value.int .u8 ((bl.getD (1 + 2 * i) 0).toNat : Int))] ∧ (w.heap.size ≤ w'.heap.size ∧ ∀ k, vz.ownBlock = some k → w.heap.size ≤ k)), (fun _ _ uz _ => uz = (Value.int .u8 ((bl.getD (1 + 2 * i) 0).toNat : Int))), (fun _ _ uz _ => uz = (Value.int .u16 ((bl.getD (1 + 2 * i) 0).toNat : Int))), (fun _ _ uz _ => uz = (Value.int .u16 (((bl.getD (1 + 2 * i) 0).toNat * 256 : Nat) : Int))), (fun _ _ uz _ => uz = v), (fun _ _ uz _ => uz = (Value.int .i64 (1 + 2 * (i : Int)))), (fun _ _ uz _ => uz = (Value.int .i64 ((1 + 2 * (i : Int)) + 1))), (fun _ vz uz w' => ∃ (b932 : (Nat)) (o933 : (Nat)), uz = (ptr b932 o933) ∧ PtC w' 0 w.heap.size b932 o933 [(Value.int .u8 ((bl.getD (2 + 2 * i) 0).toNat : Int))] ∧ (w.heap.size ≤ w'.heap.size ∧ ∀ k, vz.ownBlock = some k → w.heap.size ≤ k)), (fun _ _ uz _ => uz = (Value.int .u8 ((bl.getD (2 + 2 * i) 0).toNat : Int))), (fun _ _ uz _ => uz = (Value.int .u16 ((bl.getD (2 + 2 * i) 0).toNat : Int))), (fun _ _ uz _ => uz = (Value.int .u16 ((UInt16.ofNat ((bl.getD (1 + 2 * i) 0).toNat * 256 + (bl.getD (2 + 2 * i) 0).toNat)).toNat : Int))), (fun _ vz uz w' => ∃ (b937 : Nat), uz = (Value.slice (some ⟨b937, 0, none⟩) 1 1) ∧ w923.heap.size ≤ b937 ∧ Bx w' b937 37 [(Value.int .u16 ((UInt16.ofNat ((bl.getD (1 + 2 * i) 0).toNat * 256 + (bl.getD (2 + 2 * i) 0).toNat)).toNat : Int))] ∧ vz.ownBlock ≠ some b937), chP 0, chP 0]) (C := CL [(fun vz w' => Own w' w.heap.size 37 1 vz i ((tagsL i bl).map u16v)), (fun vz w' => Own w' w.heap.size 37 1 vz (i + 1) ((((tagsL i bl) ++ [(UInt16.ofNat ((bl.getD (1 + 2 * i) 0).toNat * 256 + (bl.getD (2 + 2 * i) 0).toNat))])).map u16v))]) ⟨[15], fun c => [51, 45].getD c 51⟩ u mixed (by kernel_rfl) (by kernel_rfl) (by kernel_rfl) (by kernel_rfl) hN923 (StK.get0 (n := 1) (StK.eq (StK.eq (StK.eq (StK.cons (fun c v u w1 w2 E h => by obtain ⟨x0, x1, hv, f0, q0⟩ := h; exact ⟨x0, x1, hv, f0.keep0 E, ⟨Nat.le_trans q0.1 E.size, q0.2⟩⟩) (fun c v v' u w1 w2 _ E h => by obtain ⟨x0, x1, hv, f0, q0⟩ := h; exact ⟨x0, x1, hv, f0.keep E.1 (fun k hk => .inr (q0.2 k hk)), ⟨Nat.le_trans q0.1 E.1.size, ge_step E q0.1 q0.2⟩⟩) (StK.eq (StK.eq (StK.eq (StK.eq (StK.eq (StK.eq (StK.cons (fun c v u w1 w2 E h => by obtain ⟨x0, x1, hv, f0, q0⟩ := h; exact ⟨x0, x1, hv, f0.keep0 E, ⟨Nat.le_trans q0.1 E.size, q0.2⟩⟩) (fun c v v' u w1 w2 _ E h => by obtain ⟨x0, x1, hv, f0, q0⟩ := h; exact ⟨x0, x1, hv, f0.keep E.1 (fun k hk => .inr (q0.2 k hk)), ⟨Nat.le_trans q0.1 E.1.size, ge_step E q0.1 q0.2⟩⟩) (StK.eq (StK.eq (StK.eq (StK.cons (fun c v u w1 w2 E h => by obtain ⟨x0, hv, l0, f0, q0⟩ := h; exact ⟨x0, hv, l0, f0.keep0 E, q0⟩) (fun c v v' u w1 w2 _ E h => by obtain ⟨x0, hv, l0, f0, q0⟩ := h; exact ⟨x0, hv, l0, f0.keep E.1 (fun hh => q0 hh.symm), ne_step E f0.lt q0⟩) (StK.ch (StK.ch (StK.nil))))))))))))))))))) (StK.get1 (n := 1) (StK.eq (StK.eq (StK.eq (StK.cons (fun c v u w1 w2 E h => by obtain ⟨x0, x1, hv, f0, q0⟩ := h; exact ⟨x0, x1, hv, f0.keep0 E, ⟨Nat.le_trans q0.1 E.size, q0.2⟩⟩) (fun c v v' u w1 w2 _ E h => by obtain ⟨x0, x1, hv, f0, q0⟩ := h; exact ⟨x0, x1, hv, f0.keep E.1 (fun k hk => .inr (q0.2 k hk)), ⟨Nat.le_trans q0.1 E.1.size, ge_step E q0.1 q0.2⟩⟩) (StK.eq (StK.eq (StK.eq (StK.eq (StK.eq (StK.eq (StK.cons (fun c v u w1 w2 E h => by obtain ⟨x0, x1, hv, f0, q0⟩ := h; exact ⟨x0, x1, hv, f0.keep0 E, ⟨Nat.le_trans q0.1 E.size, q0.2⟩⟩) (fun c v v' u w1 w2 _ E h => by obtain ⟨x0, x1, hv, f0, q0⟩ := h; exact ⟨x0, x1, hv, f0.keep E.1 (fun k hk => .inr (q0.2 k hk)), ⟨Nat.le_trans q0.1 E.1.size, ge_step E q0.1 q0.2⟩⟩) (StK.eq (StK.eq (StK.eq (StK.cons (fun c v u w1 w2 E h => by obtain ⟨x0, hv, l0, f0, q0⟩ := h; exact ⟨x0, hv, l0, f0.keep0 E, q0⟩) (fun c v v' u w1 w2 _ E h => by obtain ⟨x0, hv, l0, f0, q0⟩ := h; exact ⟨x0, hv, l0, f0.keep E.1 (fun hh => q0 hh.symm), ne_step E f0.lt q0⟩) (StK.ch (StK.ch (StK.nil))))))))))))))))))) (StL2.get0 (StL2.own (StL2.own (StL2.nil)))) (StL2.get1 (StL2.own (StL2.own (StL2.nil)))) hO924 (ObLn.get (ObLn.cons ?_ (ObLn.cons ?_ (ObLn.cons ?_ (ObLn.cons ?_ (ObLn.cons ?_ (ObLn.cons ?_ (ObLn.cons ?_ (ObLn.cons ?_ (ObLn.cons ?_ (ObLn.cons ?_ (ObLn.cons ?_ (ObLn.cons ?_ (ObLn.cons ?_ (ObLn.cons ?_ (ObLn.cons ?_ (ObLn.pass rfl (ObLn.cons ?_ (ObLn.nil))))))))))))))))))) (ObLc.get (ObLc.cons ?_ (ObLc.nil))) ?_
     ·
      intro a928 w928 cc928 cv928 hN928 hcl928 hR928 hlt928 hvo928 hbs928 hdp928
      have hR928 : w923.grownBy w928 u.ownBlock := hR928
      have q928_2 := (hbs928 2 (by kernel_rfl)).trans (sl_base hN923 rfl s923_2)
      clear hbs928 hdp928
      refine op_move (ev_base hN928 rfl q928_2) ?_
      exact obNc_end rfl rfl (grown_refl _ _)
     ·
      intro a929 w929 cc929 cv929 hN929 hcl929 hR929 hlt929 hvo929 hbs929 hdp929
      have hR929 : w923.grownBy w929 u.ownBlock := hR929
      have q929_0 := (hbs929 0 rfl).trans (sl_base hN923 rfl s923_0)
      clear hbs929 hdp929
      refine op_move (ev_base hN929 rfl q929_0) ?_
      exact obNc_end rfl rfl (grown_refl _ _)
     ·
      intro a930 w930 cc930 cv930 hN930 hcl930 hR930 hlt930 hvo930 hbs930 hdp930
      have hR930 : w923.grownBy w930 u.ownBlock := hR930
      have q930_6 := (hbs930 6 rfl).trans (sl_base hN923 rfl s923_6)
      clear hbs930 hdp930
      refine op_move (ev_base hN930 rfl q930_6) ?_
      exact obNc_end rfl rfl (grown_refl _ _)
     ·
      intro a931 w931 cc931 cv931 hN931 hcl931 hR931 hlt931 hvo931 hbs931 hdp931
      have hR931 : w923.grownBy w931 u.ownBlock := hR931
      have hO924_o := hO924
      have z_w931 := hR931.size
      have hv := hv.keepO hO924 hR931 (by omega)
      have q931_31 : Sl a931 31 v := hdp931 1 _ 31 (by kernel_rfl) rfl rfl
      have q931_32 : Sl a931 32 (Value.int .i64 (1 + 2 * (i : Int))) := hdp931 2 _ 32 (by kernel_rfl) rfl rfl
      clear hbs931 hdp931
      refine op_index_rd slt27 (ev_base hN931 rfl q931_31) hv (ev_base hN931 rfl q931_32) (by omega) (by omega) ?_
      intro b932 o933 h0b932 h1b932 hc934
      have hp935 : PtC w931 0 w.heap.size b932 o933 [(Value.int .u8 ((bl.getD (1 + 2 * i) 0).toNat : Int))] := ⟨by omega, by omega, fun j u hu => hc934 j u (by have := (List.getElem?_eq_some_iff.1 hu).1; simpa using this) ((fun j u hu => one_at (el_u8 (i := (1 + 2 * i)) (by omega) (by omega)) hu) j u hu)⟩
      exact obNc_end rfl ⟨b932, o933, rfl, hp935, ⟨by omega, ge_of hvo931 (fun k hk => by have := (hO924_o.lt k hk).1; omega) (by omega)⟩⟩ (grown_refl _ _)
     ·
      intro a936 w936 cc936 cv936 hN936 hcl936 hR936 hlt936 hvo936 hbs936 hdp936
      have hR936 : w923.grownBy w936 u.ownBlock := hR936
      have z_w936 := hR936.size
      obtain ⟨b928, o929, q936_33, hp931, xq936_33_0⟩ := hdp936 3 _ 33 (by kernel_rfl) rfl rfl
      have hp931 : PtC w936 0 w.heap.size b928 o929 [(Value.int .u8 ((bl.getD (1 + 2 * i) 0).toNat : Int))] := hp931
      clear hbs936 hdp936
      refine op_load1 (v := (Value.int .u8 ((bl.getD (1 + 2 * i) 0).toNat : Int))) one5 (ev_base hN936 rfl q936_33) (hp931.2.2 0 _ rfl) ?_
      exact obNc_end rfl rfl (grown_refl _ _)
     ·
      intro a937 w937 cc937 cv937 hN937 hcl937 hR937 hlt937 hvo937 hbs937 hdp937
      have hR937 : w923.grownBy w937 u.ownBlock := hR937
      have z_w937 := hR937.size
      have q937_34 : Sl a937 34 (Value.int .u8 ((bl.getD (1 + 2 * i) 0).toNat : Int)) := hdp937 4 _ 34 (by kernel_rfl) rfl rfl
      clear hbs937 hdp937
      refine op_conv (r := ((bl.getD (1 + 2 * i) 0).toNat : Int)) (ev_base hN937 rfl q937_34) us5 Try.underlying37 (wrap_u16 (by have := ((bl.getD (1 + 2 * i) 0)).toNat_lt; omega)) ?_
      exact obNc_end rfl rfl (grown_refl _ _)
     ·
      intro a938 w938 cc938 cv938 hN938 hcl938 hR938 hlt938 hvo938 hbs938 hdp938
      have hR938 : w923.grownBy w938 u.ownBlock := hR938
      have q938_35 : Sl a938 35 (Value.int .u16 ((bl.getD (1 + 2 * i) 0).toNat : Int)) := hdp938 5 _ 35 (by kernel_rfl) rfl rfl
      clear hbs938 hdp938
      refine op_shl (r := (((bl.getD (1 + 2 * i) 0).toNat * 256 : Nat) : Int)) (ev_base hN938 rfl q938_35) rfl (by decide) shl16 ?_
      exact obNc_end rfl rfl (grown_refl _ _)
     ·
      intro a939 w939 cc939 cv939 hN939 hcl939 hR939 hlt939 hvo939 hbs939 hdp939
      have hR939 : w923.grownBy w939 u.ownBlock := hR939
      have q939_0 := (hbs939 0 rfl).trans (sl_base hN923 rfl s923_0)
      clear hbs939 hdp939
      refine op_move (ev_base hN939 rfl q939_0) ?_
      exact obNc_end rfl rfl (grown_refl _ _)
     ·
      intro a940 w940 cc940 cv940 hN940 hcl940 hR940 hlt940 hvo940 hbs940 hdp940
      have hR940 : w923.grownBy w940 u.ownBlock := hR940
      have q940_6 := (hbs940 6 rfl).trans (sl_base hN923 rfl s923_6)
      clear hbs940 hdp940
      refine op_move (ev_base hN940 rfl q940_6) ?_
      exact obNc_end rfl rfl (grown_refl _ _)
     ·
      intro a941 w941 cc941 cv941 hN941 hcl941 hR941 hlt941 hvo941 hbs941 hdp941
      have hR941 : w923.grownBy w941 u.ownBlock := hR941
      have q941_38 : Sl a941 38 (Value.int .i64 (1 + 2 * (i : Int))) := hdp941 8 _ 38 (by kernel_rfl) rfl rfl
      clear hbs941 hdp941
      refine op_add (ev_base hN941 rfl q941_38) rfl (add64 (by omega)) ?_
      exact obNc_end rfl rfl (grown_refl _ _)
     ·
      intro a942 w942 cc942 cv942 hN942 hcl942 hR942 hlt942 hvo942 hbs942 hdp942
      have hR942 : w923.grownBy w942 u.ownBlock := hR942
      have hO924_o := hO924
      have z_w942 := hR942.size
      have hv := hv.keepO hO924 hR942 (by omega)
      have q942_37 : Sl a942 37 v := hdp942 7 _ 37 (by kernel_rfl) rfl rfl
      have q942_39 : Sl a942 39 (Value.int .i64 ((1 + 2 * (i : Int)) + 1)) := hdp942 9 _ 39 (by kernel_rfl) rfl rfl
      clear hbs942 hdp942
      refine op_index_rd slt27 (ev_base hN942 rfl q942_37) hv (ev_base hN942 rfl q942_39) (by omega) (by omega) ?_
      intro b943 o944 h0b943 h1b943 hc945
      have hp946 : PtC w942 0 w.heap.size b943 o944 [(Value.int .u8 ((bl.getD (2 + 2 * i) 0).toNat : Int))] := ⟨by omega, by omega, fun j u hu => hc945 j u (by have := (List.getElem?_eq_some_iff.1 hu).1; simpa using this) ((fun j u hu => one_at (el_u8 (i := (2 + 2 * i)) (by omega) (by omega)) hu) j u hu)⟩
      exact obNc_end rfl ⟨b943, o944, rfl, hp946, ⟨by omega, ge_of hvo942 (fun k hk => by have := (hO924_o.lt k hk).1; omega) (by omega)⟩⟩ (grown_refl _ _)
     ·
      intro a947 w947 cc947 cv947 hN947 hcl947 hR947 hlt947 hvo947 hbs947 hdp947
      have hR947 : w923.grownBy w947 u.ownBlock := hR947
      have z_w947 := hR947.size
      obtain ⟨b932, o933, q947_40, hp935, xq947_40_0⟩ := hdp947 10 _ 40 (by kernel_rfl) rfl rfl
      have hp935 : PtC w947 0 w.heap.size b932 o933 [(Value.int .u8 ((bl.getD (2 + 2 * i) 0).toNat : Int))] := hp935
      clear hbs947 hdp947
      refine op_load1 (v := (Value.int .u8 ((bl.getD (2 + 2 * i) 0).toNat : Int))) one5 (ev_base hN947 rfl q947_40) (hp935.2.2 0 _ rfl) ?_
      exact obNc_end rfl rfl (grown_refl _ _)
     ·
      intro a948 w948 cc948 cv948 hN948 hcl948 hR948 hlt948 hvo948 hbs948 hdp948
      have hR948 : w923.grownBy w948 u.ownBlock := hR948
      have z_w948 := hR948.size
      have q948_41 : Sl a948 41 (Value.int .u8 ((bl.getD (2 + 2 * i) 0).toNat : Int)) := hdp948 11 _ 41 (by kernel_rfl) rfl rfl
      clear hbs948 hdp948
      refine op_conv (r := ((bl.getD (2 + 2 * i) 0).toNat : Int)) (ev_base hN948 rfl q948_41) us5 Try.underlying37 (wrap_u16 (by have := ((bl.getD (2 + 2 * i) 0)).toNat_lt; omega)) ?_
      exact obNc_end rfl rfl (grown_refl _ _)
     ·
      intro a949 w949 cc949 cv949 hN949 hcl949 hR949 hlt949 hvo949 hbs949 hdp949
      have hR949 : w923.grownBy w949 u.ownBlock := hR949
      have q949_36 : Sl a949 36 (Value.int .u16 (((bl.getD (1 + 2 * i) 0).toNat * 256 : Nat) : Int)) := hdp949 6 _ 36 (by kernel_rfl) rfl rfl
      have q949_42 : Sl a949 42 (Value.int .u16 ((bl.getD (2 + 2 * i) 0).toNat : Int)) := hdp949 12 _ 42 (by kernel_rfl) rfl rfl
      clear hbs949 hdp949
      refine op_or (r := ((UInt16.ofNat ((bl.getD (1 + 2 * i) 0).toNat * 256 + (bl.getD (2 + 2 * i) 0).toNat)).toNat : Int)) (ev_base hN949 rfl q949_36) (ev_base hN949 rfl q949_42) or16' ?_
      exact obNc_end rfl rfl (grown_refl _ _)
     ·
      intro a950 w950 cc950 cv950 hN950 hcl950 hR950 hlt950 hvo950 hbs950 hdp950
      have hR950 : w923.grownBy w950 u.ownBlock := hR950
      have z_w950 := hR950.size
      have q950_43 : Sl a950 43 (Value.int .u16 ((UInt16.ofNat ((bl.getD (1 + 2 * i) 0).toNat * 256 + (bl.getD (2 + 2 * i) 0).toNat)).toNat : Int)) := hdp950 13 _ 43 (by kernel_rfl) rfl rfl
      clear hbs950 hdp950
      refine op_bslice (e := 37) (pv := [(0, (Value.int .u16 ((UInt16.ofNat ((bl.getD (1 + 2 * i) 0).toNat * 256 + (bl.getD (2 + 2 * i) 0).toNat)).toNat : Int)))]) (cs := [(Value.int .u16 ((UInt16.ofNat ((bl.getD (1 + 2 * i) 0).toNat * 256 + (bl.getD (2 + 2 * i) 0).toNat)).toNat : Int))]) ⟨rfl, (ev_base hN950 rfl q950_43), trivial⟩ (by kernel_rfl) ?_
      intro w951 b952 lo_b952 hi_b952 hB954 E953
      have z_w951 := E953.size
      exact obNc_end rfl ⟨b952, rfl, (by omega), hB954, (fun hh => by have := hlt950 _ hh; omega)⟩ (E953)
     ·
      intro a955 w955 cc955 cv955 hN955 hcl955 hR955 hlt955 hvo955 hbs955 hdp955
      have hR955 : w923.grownBy w955 u.ownBlock := hR955
      have hch955 : chP 0 cc955 cv955 (a955.tmps.getD 45 undef) w955 := hdp955 15 _ 45 (by kernel_rfl) rfl rfl
      have hcc955 : cc955 = 1 := Nat.le_antisymm hcl955 hch955.1
      have q955_45 := hch955.2 hcc955
      clear hbs955 hdp955
      refine op_assign (ev_base hN955 rfl q955_45) ?_
      exact obNc_end rfl ⟨by omega, fun _ => rfl⟩ (grown_refl _ _)
     ·
      intro o_ ho_; obtain rfl := Option.some.inj ho_; intro a956 w956 cv956 hN956 hR956 hcv25 hbs956 hdp956 hC956
      have hR956 : w923.grownBy w956 u.ownBlock := hR956
      have z_w956 := hR956.size
      have hb := below_stepO hb hO924 hR956 hb.size (by omega)
      have hcv956 : u = cv956 := (hcv25 rfl).symm
      subst hcv956
      have hC956 : Own w956 w.heap.size 37 1 u i ((tagsL i bl).map u16v) := hC956
      have q956_30 : Sl a956 30 u := hdp956 0 _ 30 (by kernel_rfl) rfl rfl
      obtain ⟨b937, q956_44, lo956_0, hB939, xq956_44_0⟩ := hdp956 14 _ 44 (by kernel_rfl) rfl rfl
      have hB939 : Bx w956 b937 37 [(Value.int .u16 ((UInt16.ofNat ((bl.getD (1 + 2 * i) 0).toNat * 256 + (bl.getD (2 + 2 * i) 0).toNat)).toNat : Int))] := hB939
      clear hbs956 hdp956
      have hP962 := hC956
      refine op_append slt76 (ev_base hN956 rfl q956_30) hP962 (ev_base hN956 rfl q956_44) (Src.ofRd Try.underlying76 (by decide) (RdC.ofBx (sz := 1) (n := 1) hB939 rfl (by decide)) (by simp [Value.oneCell', u8v])) (by unfold maxLen; omega) (by omega) hb.size ?_
      intro v957 w958 hO960 E959 hm961
      have z_w958 := E959.size
      have hO960 : Own w958 w.heap.size 37 1 v957 (i + 1) ((((tagsL i bl) ++ [(UInt16.ofNat ((bl.getD (1 + 2 * i) 0).toNat * 256 + (bl.getD (2 + 2 * i) 0).toNat))])).map u16v) := by simpa [u8v, u16v, cellsV] using hO960
      exact obCc_end rfl rfl (chP_now (w := w958)) hO960 ⟨E959, hm961⟩
     ·
      intro a963 w963 v940 hN963 hd963 hbs963 hph963 hC963 E963 hm963
      have hd963 := hd963.trans hd923
      have s963_0 := (hbs963 0 rfl).trans (sl_base hN923 rfl s923_0)
      have s963_2 : a963.tmps.getD 2 undef = v940 := (show chP 0 1 v940 (a963.tmps.getD 2 undef) w963 from hph963 16 _ 2 rfl rfl).2 rfl
      have s963_3 := (hbs963 3 rfl).trans (sl_base hN923 rfl s923_3)
      have s963_4 := (hbs963 4 rfl).trans (sl_base hN923 rfl s923_4)
      have s963_5 := (hbs963 5 rfl).trans (sl_base hN923 rfl s923_5)
      have s963_6 := (hbs963 6 rfl).trans (sl_base hN923 rfl s923_6)
      have s963_7 := (hbs963 7 rfl).trans (sl_base hN923 rfl s923_7)
      have s963_8 := (hbs963 8 rfl).trans (sl_base hN923 rfl s923_8)
      have s963_9 := (hbs963 9 rfl).trans (sl_base hN923 rfl s923_9)
      have s963_10 := (hbs963 10 rfl).trans (sl_base hN923 rfl s923_10)
      have s963_11 := (hbs963 11 rfl).trans (sl_base hN923 rfl s923_11)
      have s963_12 := (hbs963 12 rfl).trans (sl_base hN923 rfl s923_12)
      have s963_13 := (hbs963 13 rfl).trans (sl_base hN923 rfl s923_13)
      have s963_14 := (hbs963 14 rfl).trans (sl_base hN923 rfl s923_14)
      have s963_15 := (hbs963 15 rfl).trans (sl_base hN923 rfl s923_15)
      have s963_16 := (hbs963 16 rfl).trans (sl_base hN923 rfl s923_16)
      have s963_17 := (hbs963 17 rfl).trans (sl_base hN923 rfl s923_17)
      have s963_18 := (hbs963 18 rfl).trans (sl_base hN923 rfl s923_18)
      have s963_19 := (hbs963 19 rfl).trans (sl_base hN923 rfl s923_19)
      have s963_20 := (hbs963 20 rfl).trans (sl_base hN923 rfl s923_20)
      have s963_21 := (hbs963 21 rfl).trans (sl_base hN923 rfl s923_21)
      have s963_22 := (hbs963 22 rfl).trans (sl_base hN923 rfl s923_22)
      have s963_23 := (hbs963 23 rfl).trans (sl_base hN923 rfl s923_23)
      have s963_24 := (hbs963 24 rfl).trans (sl_base hN923 rfl s923_24)
      have s963_30 : Sl a963 30 u := hph963 0 _ 30 rfl rfl
      have s963_31 : Sl a963 31 v := hph963 1 _ 31 rfl rfl
      have s963_32 : Sl a963 32 (Value.int .i64 (1 + 2 * (i : Int))) := hph963 2 _ 32 rfl rfl
      obtain ⟨b928, o929, s963_33, hp931, xq963_33_0⟩ := hph963 3 _ 33 rfl rfl
      have hp931 : PtC w963 0 w.heap.size b928 o929 [(Value.int .u8 ((bl.getD (1 + 2 * i) 0).toNat : Int))] := hp931
      have s963_34 : Sl a963 34 (Value.int .u8 ((bl.getD (1 + 2 * i) 0).toNat : Int)) := hph963 4 _ 34 rfl rfl
      have s963_35 : Sl a963 35 (Value.int .u16 ((bl.getD (1 + 2 * i) 0).toNat : Int)) := hph963 5 _ 35 rfl rfl
      have s963_36 : Sl a963 36 (Value.int .u16 (((bl.getD (1 + 2 * i) 0).toNat * 256 : Nat) : Int)) := hph963 6 _ 36 rfl rfl
      have s963_37 : Sl a963 37 v := hph963 7 _ 37 rfl rfl
      have s963_38 : Sl a963 38 (Value.int .i64 (1 + 2 * (i : Int))) := hph963 8 _ 38 rfl rfl
      have s963_39 : Sl a963 39 (Value.int .i64 ((1 + 2 * (i : Int)) + 1)) := hph963 9 _ 39 rfl rfl
      obtain ⟨b932, o933, s963_40, hp935, xq963_40_0⟩ := hph963 10 _ 40 rfl rfl
      have hp935 : PtC w963 0 w.heap.size b932 o933 [(Value.int .u8 ((bl.getD (2 + 2 * i) 0).toNat : Int))] := hp935
      have s963_41 : Sl a963 41 (Value.int .u8 ((bl.getD (2 + 2 * i) 0).toNat : Int)) := hph963 11 _ 41 rfl rfl
      have s963_42 : Sl a963 42 (Value.int .u16 ((bl.getD (2 + 2 * i) 0).toNat : Int)) := hph963 12 _ 42 rfl rfl
      have s963_43 : Sl a963 43 (Value.int .u16 ((UInt16.ofNat ((bl.getD (1 + 2 * i) 0).toNat * 256 + (bl.getD (2 + 2 * i) 0).toNat)).toNat : Int)) := hph963 13 _ 43 rfl rfl
      obtain ⟨b937, s963_44, l963_0, hB939, xq963_44_0⟩ := hph963 14 _ 44 rfl rfl
      have hB939 : Bx w963 b937 37 [(Value.int .u16 ((UInt16.ofNat ((bl.getD (1 + 2 * i) 0).toNat * 256 + (bl.getD (2 + 2 * i) 0).toNat)).toNat : Int))] := hB939
      have hi_b937 := hB939.lt
      clear hbs963 hph963
      have E963 : w923.grownBy w963 u.ownBlock := E963
      have hC963 : Own w963 w.heap.size 37 1 v940 (i + 1) ((((tagsL i bl) ++ [(UInt16.ofNat ((bl.getD (1 + 2 * i) 0).toNat * 256 + (bl.getD (2 + 2 * i) 0).toNat))])).map u16v) := hC963
      have z_w963 := E963.size
      have hv := hv.keepO hO924 E963 (by omega)
      have hb := below_stepO hb hO924 E963 hb.size (by omega)
      refine hK927 _ _ (one_reg (op_move (ev_base hN963 rfl s963_6) (op_add (ev_hit hN963 rfl) rfl (add64 (by omega)) ?_)))
      refine op_assign (ev_hit hN963 rfl) (reg_nil ?_)
      -- round 9F 19F 24F 27T
      exact loop_next _ hN963 hd963 ⟨i + 1, _, rfl, (sl_base hN963 rfl s963_0), (sl_base hN963 rfl s963_3), (sl_base hN963 rfl s963_4), (sl_base hN963 rfl s963_5), (sl_base hN963 rfl s963_7), (sl_base hN963 rfl s963_8), (sl_base hN963 rfl s963_9), (sl_base hN963 rfl s963_10), (sl_base hN963 rfl s963_11), (sl_base hN963 rfl s963_12), (sl_base hN963 rfl s963_13), (sl_base hN963 rfl s963_14), (sl_base hN963 rfl s963_15), (sl_base hN963 rfl s963_16), (sl_base hN963 rfl s963_17), (sl_base hN963 rfl s963_18), (sl_base hN963 rfl s963_19), (sl_base hN963 rfl s963_20), (sl_base hN963 rfl s963_21), (sl_base hN963 rfl s963_22), (sl_base hN963 rfl s963_23), (sl_base hN963 rfl s963_24), (sl_hit hN963 rfl).trans (congrArg (Value.int .i64) (by omega)), (sl_base hN963 rfl s963_2), (by omega), hb, (by omega), hv, (hC963.cast (by first | omega | (simp; try omega)) (by first | (rw [tags_step]; done) | (rw [tags_step]; simp [u16v])))⟩ (by omega)
    ·
     refine reg_nil (hK926 _ _ (wp_cond_false (ev_hit hN923 rfl) (wp_exit (then_exit (then_exit (blk_hit ?_))))))
     refine hK921 _ _ (seq_any fun K964 hK964 => seq_any fun K965 hK965 => one_reg (op_move (ev_base hN923 rfl s923_2) ?_))
     have htl := tags_len i bl
     refine op_fn (vs := [u]) ok92 ⟨(ev_hit hN923 rfl), trivial⟩ (rises_ret (tagsL i bl) _ _ (by first | assumption | omega | (simp only [List.length_append, List.length_cons, List.length_nil, List.length_drop, List.length_take]; omega) | (dsimp only; omega) | decide | (simp [keyV, be8_len]; done)) (show RdC w923 0 w923.heap.size 1 u (tagsL i bl).length ((tagsL i bl).map u16v) from by have hh : RdC w923 0 w923.heap.size 1 _ _ _ := (hO924.rdw.mono (L' := 0) (B' := w923.heap.size) (Nat.zero_le _) (by omega)); first | exact hh | exact hh.cast (by first | omega | (simp; try omega)) (by first | rfl | simp [u16v]))) ?_
     rintro _ w966 ⟨E967, rfl⟩
     have E967 := grown_of_below E967
     have z_w966 := E967.size
     have hO924 := hO924.keep0 E967
     have hb := below_step0 hb E967 hb.size
     rcases Bool.eq_false_or_eq_true ((decide (Rise (tagsL i bl)))) with c47 | c47
     ·
      rw [c47]
      refine op_not (ev_hit hN923 rfl) ?_
      refine reg_nil ?_
      refine hK965 _ _ (wp_cond_false (ev_hit hN923 rfl) (wp_skip (hK964 _ _ (seq_any fun K968 hK968 => one_reg (op_move (ev_base hN923 rfl s923_2) ?_)))))
      refine op_move (ev_base hN923 rfl s923_3) (op_assign (ev_hit hN923 rfl) (op_assign (ev_hit hN923 rfl) (op_assign rfl (reg_nil (hK968 _ _ (wp_ret ?_))))))
      refine retN (rs := [.tmp 2, .tmp 3, .tmp 4]) (vs := [u, (Value.int .i64 (1 + (2 * ((bl.getD 0 0).toNat : Int)))), (Value.int .i64 0)]) rfl hd923 ⟨(ev_hit hN923 rfl), ⟨(ev_hit hN923 rfl), ⟨(ev_hit hN923 rfl), trivial⟩⟩⟩ rfl ⟨_, rfl, ?_⟩
      have hi2 : i = (bl.getD 0 0).toNat := by omega
      subst hi2
      have e : takeL bl = (tagsL (bl.getD 0 0).toNat bl, ((1 + 2 * (bl.getD 0 0).toNat : Nat) : Int), 0) := by rw [takeL, if_neg (by omega), if_neg (by omega), if_neg (by omega), if_pos (of_decide_eq_true c47)]
      exact ⟨hb, _, by rw [e]; exact congrArg (fun q : Int => Value.tuple #[_, .int .i64 q, _]) (show (1 + 2 * ((bl.getD 0 0).toNat : Int)) = ((1 + 2 * (bl.getD 0 0).toNat : Nat) : Int) by omega), by rw [e]; exact hO924.cast (tags_len _ _).symm rfl⟩
     ·
      rw [c47]
      refine op_not (ev_hit hN923 rfl) ?_
      refine reg_nil (hK965 _ _ (wp_cond_true (ev_hit hN923 rfl) (seq_any fun K969 hK969 => ?_)))
      refine one_reg (op_assign rfl (op_assign rfl (op_assign rfl (reg_nil (hK969 _ _ (wp_ret (then_ret ( ?_))))))))
      refine retN (rs := [.tmp 2, .tmp 3, .tmp 4]) (vs := [(Value.slice none 0 0), (Value.int .i64 0), (Value.int .i64 3)]) rfl hd923 ⟨(ev_hit hN923 rfl), ⟨(ev_hit hN923 rfl), ⟨(ev_hit hN923 rfl), trivial⟩⟩⟩ rfl ⟨_, rfl, ?_⟩
      have hi2 : i = (bl.getD 0 0).toNat := by omega
      subst hi2
      have e : takeL bl = ([], 0, 3) := by rw [takeL, if_neg (by omega), if_neg (by omega), if_neg (by omega), if_neg (of_decide_eq_false c47)]
      exact ⟨hb, _, by rw [e]; rfl, by rw [e]; exact Own.nil _ _ _ _⟩

theorem number_ret (bl : List UInt8) (n : Nat) (v : Value) (w : World) (hbl : bl.length ≤ 1000000000) (hn : n < 18446744073709551616) (hv : RdC w 0 w.heap.size 1 v bl.length (bl.map u8v)) : Ret Try.prog 58 #[v, (Value.int .u64 ((n : Nat) : Int))] w (fun v' w' => Below w.heap.size w w' ∧ Own w' w.heap.size 5 1 v' (bl.length + 8) ((bl ++ be8 n).map u8v)) := by
 have hb := Below.refl w.heap.size w
 refine enter (N := 23) Try.func58 rfl rfl (by simp) fun a0 hN hd hA => ?_
 have s0 : a0.tmps.getD 0 undef = v := hA 0 (by simp)
 have s1 : a0.tmps.getD 1 undef = (Value.int .u64 ((n : Nat) : Int)) := hA 1 (by simp)
 clear hA
 refine seq_any fun K970 hK970 => ?_
 refine one_reg (op_assign rfl (reg_nil (hK970 _ _ (seq_any fun K971 hK971 => one_reg (op_bslice (e := 5) (pv := []) (cs := []) trivial (by kernel_rfl) ?_)))))
 intro w972 b973 lo_b973 hi_b973 hB975 E974
 have z_w972 := E974.size
 have hv := hv.keep0 E974
 have hb := below_step0 hb E974 hb.size
 refine op_move (ev_base hN rfl s0) ?_
 have hP981 := (Own.ofBx (base := w.heap.size) (sz := 1) (n := 0) hB975 rfl (by decide) (by omega))
 refine op_append slt27 (ev_hit hN rfl) hP981 (ev_hit hN rfl) (Src.ofRd Try.underlying27 (by decide) hv (by simp [Value.oneCell', u8v])) (by unfold maxLen; omega) (by omega) hb.size ?_
 intro v976 w977 hO979 E978 hm980
 have z_w977 := E978.size
 have hv := hv.keepO hP981 E978 (by omega)
 have hb := below_stepO hb hP981 E978 hb.size (by omega)
 have hO979 : Own w977 w.heap.size 5 1 v976 (0 + bl.length) ((bl).map u8v) := by simpa [u8v, u16v, cellsV] using hO979
 refine op_assign (ev_hit hN rfl) (reg_nil (hK971 _ _ ?_))
 refine seq_any fun K982 hK982 => seq_any fun K983 hK983 => one_reg (op_assign rfl (reg_nil (hK983 _ _ (wp_block ?_))))
 refine loop_m (fun mz_ az_ w' => ∃ (i : Nat) (y : Value), mz_ = 8 - i ∧ (az_.tmps.getD 0 undef = v) ∧ (az_.tmps.getD 1 undef = (Value.int .u64 ((n : Nat) : Int))) ∧ (az_.tmps.getD 4 undef = (Value.slice none 0 0)) ∧ (az_.tmps.getD 7 undef = (Value.slice (some ⟨b973, 0, none⟩) 0 0)) ∧ (az_.tmps.getD 8 undef = v) ∧ (az_.tmps.getD 9 undef = v976) ∧ (az_.tmps.getD 6 undef = (Value.int .i64 (56 - 8 * (i : Int)))) ∧ (az_.tmps.getD 5 undef = y) ∧ (i ≤ 8) ∧ (Below w.heap.size w w') ∧ (w977.heap.size ≤ w'.heap.size) ∧ (RdC w' 0 w.heap.size 1 v bl.length (bl.map u8v)) ∧ (Own w' w.heap.size 5 1 y (bl.length + i) ((bl ++ (be8 n).take i).map u8v))) _ hN hd ⟨0, _, rfl, (sl_base hN rfl s0), (sl_base hN rfl s1), (sl_hit hN rfl), (sl_hit hN rfl), (sl_hit hN rfl), (sl_hit hN rfl), (sl_hit hN rfl).trans (congrArg (Value.int .i64) (by omega)), (sl_hit hN rfl), Nat.zero_le _, hb, (Nat.le_refl _), hv, (hO979.cast (by first | omega | (simp; try omega)) (by simp))⟩ ?_
 rintro _ a984 w984 hN984 hd984 ⟨i, y, rfl, s984_0, s984_1, s984_4, s984_7, s984_8, s984_9, s984_6, s984_5, hi, hb, zl_w984, hv, hO985⟩
 have z_w984 := hb.size
 refine seq_any fun K986 hK986 => seq_any fun K987 hK987 => ?_
 refine one_reg (op_move (ev_base hN984 rfl s984_6) (op_geq (ev_hit hN984 rfl) rfl (fun c11 => ?_) (fun c11 => ?_)))
 ·
  refine reg_nil (hK987 _ _ (wp_cond_true (ev_hit hN984 rfl) (wp_skip (hK986 _ _ (seq_any fun K988 hK988 => wp_block ?_)))))
  refine one_reg (op_move (ev_base hN984 rfl s984_5) (op_move (ev_base hN984 rfl s984_1) (op_move (ev_base hN984 rfl s984_6) (op_conv (r := (56 - 8 * (i : Int))) (ev_hit hN984 rfl) us3 Try.underlying26 (wrap_u64 (by omega)) ?_))))
  refine op_shr (r := (((n / 2 ^ (56 - 8 * i)) : Nat) : Int)) (ev_hit hN984 rfl) (ev_hit hN984 rfl) (by omega) (shr_nat (j := 56 - 8 * i) (by omega) (by show 56 - 8 * i ≤ 64; omega)) ?_
  refine op_conv (r := ((UInt8.ofNat (n / 2 ^ (56 - 8 * i))).toNat : Int)) (ev_hit hN984 rfl) us79 Try.underlying5 conv_u8 ?_
  refine op_bslice (e := 5) (pv := [(0, (Value.int .u8 ((UInt8.ofNat (n / 2 ^ (56 - 8 * i))).toNat : Int)))]) (cs := [(Value.int .u8 ((UInt8.ofNat (n / 2 ^ (56 - 8 * i))).toNat : Int))]) ⟨rfl, (ev_hit hN984 rfl), trivial⟩ (by kernel_rfl) ?_
  intro w989 b990 lo_b990 hi_b990 hB992 E991
  have z_w989 := E991.size
  have hv := hv.keep0 E991
  have hO985 := hO985.keep0 E991
  have hb := below_step0 hb E991 hb.size
  have hP998 := hO985
  refine op_append slt27 (ev_hit hN984 rfl) hP998 (ev_hit hN984 rfl) (Src.ofRd Try.underlying27 (by decide) (RdC.ofBx (sz := 1) (n := 1) hB992 rfl (by decide)) (by simp [Value.oneCell', u8v])) (by unfold maxLen; omega) (by omega) hb.size ?_
  intro v993 w994 hO996 E995 hm997
  have z_w994 := E995.size
  have hv := hv.keepO hP998 E995 (by omega)
  have hb := below_stepO hb hP998 E995 hb.size (by omega)
  have hO996 : Own w994 w.heap.size 5 1 v993 ((bl.length + i) + 1) ((((bl ++ (be8 n).take i) ++ [(UInt8.ofNat (n / 2 ^ (56 - 8 * i)))])).map u8v) := by simpa [u8v, u16v, cellsV] using hO996
  refine op_assign (ev_hit hN984 rfl) (reg_nil (hK988 _ _ (one_reg (op_move (ev_base hN984 rfl s984_6) (op_sub (ev_hit hN984 rfl) rfl (sub64 (by omega)) ?_)))))
  refine op_assign (ev_hit hN984 rfl) (reg_nil ?_)
  -- round 11T
  exact loop_next _ hN984 hd984 ⟨i + 1, _, rfl, (sl_base hN984 rfl s984_0), (sl_base hN984 rfl s984_1), (sl_base hN984 rfl s984_4), (sl_base hN984 rfl s984_7), (sl_base hN984 rfl s984_8), (sl_base hN984 rfl s984_9), (sl_hit hN984 rfl).trans (congrArg (Value.int .i64) (by omega)), (sl_hit hN984 rfl), (by omega), hb, (by omega), hv, (hO996.cast (by first | omega | (simp; try omega)) (by rw [be8_take (by omega)]; simp))⟩ (by omega)
 ·
  refine reg_nil (hK987 _ _ (wp_cond_false (ev_hit hN984 rfl) (wp_exit (then_exit (then_exit (blk_hit ?_))))))
  refine hK982 _ _ ?_
  refine seq_any fun K999 hK999 => one_reg (op_move (ev_base hN984 rfl s984_5) (op_assign (ev_hit hN984 rfl) (reg_nil (hK999 _ _ (wp_ret ?_)))))
  refine ret1 rfl hd984 (ev_hit hN984 rfl) ⟨_, rfl, ?_⟩
  have hi8 : i = 8 := by omega
  subst hi8
  have hq := hO985
  rw [List.take_of_length_le (by rw [be8_len]; omega)] at hq
  exact ⟨hb, hq⟩

theorem behN_ret (bl : List UInt8) (n : Nat) (v : Value) (w : World) (hbl : bl.length ≤ 1000000000) (hn : n < 18446744073709551616) (hv : RdC w 0 w.heap.size 1 v bl.length (bl.map u8v)) : Ret Try.prog 55 #[v, (Value.int .u64 ((n : Nat) : Int)), (Value.func (.func 58) #[] #[])] w (fun v' w' => Below w.heap.size w w' ∧ Own w' w.heap.size 5 1 v' (bl.length + 8) ((bl ++ be8 n).map u8v)) := by
 have hb := Below.refl w.heap.size w
 refine enter (N := 11) Try.func55 rfl rfl (by simp) fun a0 hN hd hA => ?_
 have s0 : a0.tmps.getD 0 undef = v := hA 0 (by simp)
 have s1 : a0.tmps.getD 1 undef = (Value.int .u64 ((n : Nat) : Int)) := hA 1 (by simp)
 have s2 : a0.tmps.getD 2 undef = (Value.func (.func 58) #[] #[]) := hA 2 (by simp)
 clear hA
 refine seq_any fun K3 hK3 => one_reg (op_assign rfl ?_)
 refine reg_nil (hK3 _ _ (seq_any fun K4 hK4 => one_reg (op_move (ev_base hN rfl s2) (op_move (ev_base hN rfl s0) (op_move (ev_base hN rfl s1) ?_)))))
 have hq5 : RdC w 0 w.heap.size 1 v bl.length (bl.map u8v) := by have hh : RdC w 0 w.heap.size 1 _ _ _ := (hv.mono (L' := 0) (B' := w.heap.size) (Nat.zero_le _) (by omega)); first | simpa using hh | simpa [Nat.add_comm, Nat.add_left_comm, Nat.add_assoc] using hh | exact hh.cast (by first | rfl | (simp; try omega)) (by first | rfl | (simp; done) | simp [u8v])
 refine op_fnv (fs := []) (vs := [v, (Value.int .u64 ((n : Nat) : Int))]) (cs := []) (ev_hit hN rfl) ok58 ⟨(ev_hit hN rfl), ⟨(ev_hit hN rfl), trivial⟩⟩ (number_ret bl n _ _ (by first | assumption | omega | (simp only [List.length_append, List.length_cons, List.length_nil, List.length_drop, List.length_take]; omega) | (dsimp only; omega) | decide | (simp [keyV, be8_len]; done)) (by first | assumption | omega | (simp only [List.length_append, List.length_cons, List.length_nil, List.length_drop, List.length_take]; omega) | (dsimp only; omega) | decide | (simp [keyV, be8_len]; done)) hq5) ?_
 rintro v6 w7 ⟨E9, hO6⟩
 have E9 := grown_of_below E9
 have z_w7 := E9.size
 have hb := below_step0 hb E9 hb.size
 have hO6 := hO6.mono (base' := w.heap.size) (by omega)
 refine op_assign (ev_hit hN rfl) (reg_nil (hK4 _ _ (wp_ret ?_)))
 refine ret1 rfl hd (ev_hit hN rfl) ⟨_, rfl, ?_⟩
 exact ⟨hb, hO6.mono (by omega)⟩

theorem behL_ret (bl : List UInt8) (l : Lb) (v u : Value) (w : World) (hbl : bl.length ≤ 1000000000) (hl : l.length ≤ 1000000000) (hv : RdC w 0 w.heap.size 1 v bl.length (bl.map u8v)) (h : RdC w 0 w.heap.size 1 u l.length (l.map u16v)) : Ret Try.prog 56 #[v, u, (Value.func (.func 57) #[] #[])] w (fun v' w' => Below w.heap.size w w' ∧ Own w' w.heap.size 5 1 v' (bl.length + (labB l).length) ((bl ++ labB l).map u8v)) := by
 have hb := Below.refl w.heap.size w
 refine enter (N := 11) Try.func56 rfl rfl (by simp) fun a0 hN hd hA => ?_
 have s0 : a0.tmps.getD 0 undef = v := hA 0 (by simp)
 have s1 : a0.tmps.getD 1 undef = u := hA 1 (by simp)
 have s2 : a0.tmps.getD 2 undef = (Value.func (.func 57) #[] #[]) := hA 2 (by simp)
 clear hA
 refine seq_any fun K3 hK3 => one_reg (op_assign rfl ?_)
 refine reg_nil (hK3 _ _ (seq_any fun K4 hK4 => one_reg (op_move (ev_base hN rfl s2) (op_move (ev_base hN rfl s0) (op_move (ev_base hN rfl s1) ?_)))))
 have hq5 : RdC w 0 w.heap.size 1 v bl.length (bl.map u8v) := by have hh : RdC w 0 w.heap.size 1 _ _ _ := (hv.mono (L' := 0) (B' := w.heap.size) (Nat.zero_le _) (by omega)); first | simpa using hh | simpa [Nat.add_comm, Nat.add_left_comm, Nat.add_assoc] using hh | exact hh.cast (by first | rfl | (simp; try omega)) (by first | rfl | (simp; done) | simp [u8v])
 refine op_fnv (fs := []) (vs := [v, u]) (cs := []) (ev_hit hN rfl) ok57 ⟨(ev_hit hN rfl), ⟨(ev_hit hN rfl), trivial⟩⟩ (labPut_ret bl l _ _ _ (by first | assumption | omega | (simp only [List.length_append, List.length_cons, List.length_nil, List.length_drop, List.length_take]; omega) | (dsimp only; omega) | decide | (simp [keyV, be8_len]; done)) (by first | assumption | omega | (simp only [List.length_append, List.length_cons, List.length_nil, List.length_drop, List.length_take]; omega) | (dsimp only; omega) | decide | (simp [keyV, be8_len]; done)) hq5 (show RdC w 0 w.heap.size 1 u l.length (l.map u16v) from by have hh : RdC w 0 w.heap.size 1 _ _ _ := (h.mono (L' := 0) (B' := w.heap.size) (Nat.zero_le _) (by omega)); first | exact hh | exact hh.cast (by first | omega | (simp; try omega)) (by first | rfl | simp [u16v]))) ?_
 rintro v6 w7 ⟨E9, hO6⟩
 have E9 := grown_of_below E9
 have z_w7 := E9.size
 have hb := below_step0 hb E9 hb.size
 have hO6 := hO6.mono (base' := w.heap.size) (by omega)
 refine op_assign (ev_hit hN rfl) (reg_nil (hK4 _ _ (wp_ret ?_)))
 refine ret1 rfl hd (ev_hit hN rfl) ⟨_, rfl, ?_⟩
 exact ⟨hb, hO6.mono (by omega)⟩

theorem behV_ret (bl : List UInt8) (x : Vl) (v : Value) (w : World) (hl : bl.length ≤ 1000000000) (hs : x.s.length ≤ 1000000000) (hn : -9223372036854775808 ≤ x.n ∧ x.n ≤ 9223372036854775807) (hv : RdC w 0 w.heap.size 1 v bl.length (bl.map u8v)) : Ret Try.prog 59 #[v, (Value.agg #[(Value.int .i64 x.k), (Value.int .i64 x.n), (Value.string (bs x.s))]), (Value.func (.func 60) #[] #[])] w (fun v' w' => Below w.heap.size w w' ∧ Own w' w.heap.size 5 1 v' (bl.length + (keyV x).length) ((bl ++ keyV x).map u8v)) := by
 have hb := Below.refl w.heap.size w
 refine enter (N := 11) Try.func59 rfl rfl (by simp) fun a0 hN hd hA => ?_
 have s0 : a0.tmps.getD 0 undef = v := hA 0 (by simp)
 have s1 : a0.tmps.getD 1 undef = (Value.agg #[(Value.int .i64 x.k), (Value.int .i64 x.n), (Value.string (bs x.s))]) := hA 1 (by simp)
 have s2 : a0.tmps.getD 2 undef = (Value.func (.func 60) #[] #[]) := hA 2 (by simp)
 clear hA
 refine seq_any fun K3 hK3 => one_reg (op_box (cs := [(Value.int .i64 x.k), (Value.int .i64 x.n), (Value.string (bs x.s))]) (ev_base hN rfl s1) rfl ?_)
 intro w4 b5 lo_b5 hi_b5 hB7 E6
 have z_w4 := E6.size
 have hv := hv.keep0 E6
 have hb := below_step0 hb E6 hb.size
 refine op_assign rfl ?_
 refine reg_nil (hK3 _ _ (seq_any fun K9 hK9 => one_reg (op_move (ev_base hN rfl s2) (op_move (ev_base hN rfl s0) (op_loadA (cs := [(Value.int .i64 x.k), (Value.int .i64 x.n), (Value.string (bs x.s))]) agg74 rfl (ev_hit hN rfl) (fun j u hu => by rw [Nat.zero_add]; exact hB7.cell hu) ?_)))))
 have hq10 : RdC w4 0 w4.heap.size 1 v bl.length (bl.map u8v) := by have hh : RdC w4 0 w4.heap.size 1 _ _ _ := (hv.mono (L' := 0) (B' := w4.heap.size) (Nat.zero_le _) (by omega)); first | simpa using hh | simpa [Nat.add_comm, Nat.add_left_comm, Nat.add_assoc] using hh | exact hh.cast (by first | rfl | (simp; try omega)) (by first | rfl | (simp; done) | simp [u8v])
 refine op_fnv (fs := []) (vs := [v, (Value.agg #[(Value.int .i64 x.k), (Value.int .i64 x.n), (Value.string (bs x.s))])]) (cs := []) (ev_hit hN rfl) ok60 ⟨(ev_hit hN rfl), ⟨(ev_hit hN rfl), trivial⟩⟩ (Key_ret bl x _ _ (by first | assumption | omega | (simp only [List.length_append, List.length_cons, List.length_nil, List.length_drop, List.length_take]; omega) | (dsimp only; omega) | decide | (simp [keyV, be8_len]; done)) (by first | assumption | omega | (simp only [List.length_append, List.length_cons, List.length_nil, List.length_drop, List.length_take]; omega) | (dsimp only; omega) | decide | (simp [keyV, be8_len]; done)) (by first | assumption | omega | (simp only [List.length_append, List.length_cons, List.length_nil, List.length_drop, List.length_take]; omega) | (dsimp only; omega) | decide | (simp [keyV, be8_len]; done)) hq10) ?_
 rintro v11 w13 ⟨E14, hO12⟩
 have E14 := grown_of_below E14
 have z_w13 := E14.size
 have hb := below_step0 hb E14 hb.size
 have hO12 : Own w13 w4.heap.size 5 1 v11 (bl.length + (keyV x).length) ((bl ++ keyV x).map u8v) := by simpa using hO12.mono (base' := w4.heap.size) (by omega)
 refine op_assign (ev_hit hN rfl) (reg_nil (hK9 _ _ (wp_ret ?_)))
 refine ret1 rfl hd (ev_hit hN rfl) ⟨_, rfl, ?_⟩
 exact ⟨hb, hO12.mono (by omega)⟩

theorem From_ret (x : Vl) (w : World) (hs : x.s.length ≤ 1000000000) (hn : -9223372036854775808 ≤ x.n ∧ x.n ≤ 9223372036854775807) : Ret Try.prog 37 #[(Value.agg #[(Value.int .i64 x.k), (Value.int .i64 x.n), (Value.string (bs x.s))])] w (fun v' w' => Below w.heap.size w w' ∧ Own w' w.heap.size 5 1 v' (keyV x).length ((keyV x).map u8v)) := by
 have hb := Below.refl w.heap.size w
 refine enter (N := 5) Try.func37 rfl rfl (by simp) fun a0 hN hd hA => ?_
 have s0 : a0.tmps.getD 0 undef = (Value.agg #[(Value.int .i64 x.k), (Value.int .i64 x.n), (Value.string (bs x.s))]) := hA 0 (by simp)
 clear hA
 refine seq_any fun K2 hK2 => one_reg (op_box (cs := [(Value.int .i64 x.k), (Value.int .i64 x.n), (Value.string (bs x.s))]) (ev_base hN rfl s0) rfl ?_)
 intro w3 b4 lo_b4 hi_b4 hB6 E5
 have z_w3 := E5.size
 have hb := below_step0 hb E5 hb.size
 refine op_assign rfl (reg_nil (hK2 _ _ (seq_any fun K7 hK7 => one_reg (op_loadA (cs := [(Value.int .i64 x.k), (Value.int .i64 x.n), (Value.string (bs x.s))]) agg74 rfl (ev_hit hN rfl) (fun j u hu => by rw [Nat.zero_add]; exact hB6.cell hu) ?_))))
 have hq9 : RdC w3 0 w3.heap.size 1 (Value.slice none 0 0) ([] : List UInt8).length (([] : List UInt8).map u8v) := by have hh : RdC w3 0 w3.heap.size 1 _ _ _ := ((RdC.nil _ 0 0 1).mono (L' := 0) (B' := w3.heap.size) (Nat.zero_le _) (by omega)); first | simpa using hh | simpa [Nat.add_comm, Nat.add_left_comm, Nat.add_assoc] using hh | exact hh.cast (by first | rfl | (simp; try omega)) (by first | rfl | (simp; done) | simp [u8v])
 refine op_fn (vs := [(Value.slice none 0 0), (Value.agg #[(Value.int .i64 x.k), (Value.int .i64 x.n), (Value.string (bs x.s))]), (Value.func (.func 60) #[] #[])]) ok59 ⟨rfl, ⟨(ev_hit hN rfl), ⟨rfl, trivial⟩⟩⟩ (behV_ret [] x _ _ (by first | assumption | omega | (simp only [List.length_append, List.length_cons, List.length_nil, List.length_drop, List.length_take]; omega) | (dsimp only; omega) | decide | (simp [keyV, be8_len]; done)) (by first | assumption | omega | (simp only [List.length_append, List.length_cons, List.length_nil, List.length_drop, List.length_take]; omega) | (dsimp only; omega) | decide | (simp [keyV, be8_len]; done)) (by first | assumption | omega | (simp only [List.length_append, List.length_cons, List.length_nil, List.length_drop, List.length_take]; omega) | (dsimp only; omega) | decide | (simp [keyV, be8_len]; done)) hq9) ?_
 rintro v10 w12 ⟨E13, hO11⟩
 have E13 := grown_of_below E13
 have z_w12 := E13.size
 have hb := below_step0 hb E13 hb.size
 have hO11 : Own w12 w3.heap.size 5 1 v10 (keyV x).length ((keyV x).map u8v) := by simpa using hO11.mono (base' := w3.heap.size) (by omega)
 refine op_assign (ev_hit hN rfl) (reg_nil (hK7 _ _ (wp_ret ?_)))
 refine ret1 rfl hd (ev_hit hN rfl) ⟨_, rfl, ?_⟩
 exact ⟨hb, hO11.mono (by omega)⟩

theorem IKey_ret (x : Vl) (l : Lb) (n : Nat) (u : Value) (w : World) (hs : x.s.length ≤ 100000) (hn : -9223372036854775808 ≤ x.n ∧ x.n ≤ 9223372036854775807) (hl : l.length ≤ 100000) (hn2 : n < 18446744073709551616) (h : RdC w 0 w.heap.size 1 u l.length (l.map u16v)) : Ret Try.prog 36 #[(Value.agg #[(Value.int .i64 x.k), (Value.int .i64 x.n), (Value.string (bs x.s))]), u, (Value.int .u64 ((n : Nat) : Int))] w (fun v' w' => Below w.heap.size w w' ∧ Own w' w.heap.size 5 1 v' (keyX x l n).length ((keyX x l n).map u8v)) := by
 have hkx := keyV_le x
 have hpl := labB_len l
 have hb := Below.refl w.heap.size w
 refine enter (N := 13) Try.func36 rfl rfl (by simp) fun a0 hN hd hA => ?_
 have s0 : a0.tmps.getD 0 undef = (Value.agg #[(Value.int .i64 x.k), (Value.int .i64 x.n), (Value.string (bs x.s))]) := hA 0 (by simp)
 have s1 : a0.tmps.getD 1 undef = u := hA 1 (by simp)
 have s2 : a0.tmps.getD 2 undef = (Value.int .u64 ((n : Nat) : Int)) := hA 2 (by simp)
 clear hA
 refine seq_any fun K3 hK3 => one_reg (op_box (cs := [(Value.int .i64 x.k), (Value.int .i64 x.n), (Value.string (bs x.s))]) (ev_base hN rfl s0) rfl ?_)
 intro w4 b5 lo_b5 hi_b5 hB7 E6
 have z_w4 := E6.size
 have h := h.keep0 E6
 have hb := below_step0 hb E6 hb.size
 refine op_assign rfl (reg_nil (hK3 _ _ (seq_any fun K9 hK9 => one_reg (op_loadA (cs := [(Value.int .i64 x.k), (Value.int .i64 x.n), (Value.string (bs x.s))]) agg74 rfl (ev_hit hN rfl) (fun j u hu => by rw [Nat.zero_add]; exact hB7.cell hu) ?_))))
 refine op_fn (vs := [(Value.agg #[(Value.int .i64 x.k), (Value.int .i64 x.n), (Value.string (bs x.s))])]) ok37 ⟨(ev_hit hN rfl), trivial⟩ (From_ret x _ (by first | assumption | omega | (simp only [List.length_append, List.length_cons, List.length_nil, List.length_drop, List.length_take]; omega) | (dsimp only; omega) | decide | (simp [keyV, be8_len]; done)) (by first | assumption | omega | (simp only [List.length_append, List.length_cons, List.length_nil, List.length_drop, List.length_take]; omega) | (dsimp only; omega) | decide | (simp [keyV, be8_len]; done))) ?_
 rintro v10 w11 ⟨E12, hO10⟩
 have E12 := grown_of_below E12
 have z_w11 := E12.size
 have h := h.keep0 E12
 have hb := below_step0 hb E12 hb.size
 have hO10 := hO10.mono (base' := w4.heap.size) (by omega)
 refine op_move (ev_base hN rfl s1) ?_
 have hq13 : RdC w11 0 w11.heap.size 1 v10 (keyV x).length ((keyV x).map u8v) := by have hh : RdC w11 0 w11.heap.size 1 _ _ _ := (hO10.rdw.mono (L' := 0) (B' := w11.heap.size) (Nat.zero_le _) (by omega)); first | simpa using hh | simpa [Nat.add_comm, Nat.add_left_comm, Nat.add_assoc] using hh | exact hh.cast (by first | rfl | (simp; try omega)) (by first | rfl | (simp; done) | simp [u8v])
 refine op_fn (vs := [v10, u, (Value.func (.func 57) #[] #[])]) ok56 ⟨(ev_hit hN rfl), ⟨(ev_hit hN rfl), ⟨rfl, trivial⟩⟩⟩ (behL_ret (keyV x) l _ _ _ (by first | assumption | omega | (simp only [List.length_append, List.length_cons, List.length_nil, List.length_drop, List.length_take]; omega) | (dsimp only; omega) | decide | (simp [keyV, be8_len]; done)) (by first | assumption | omega | (simp only [List.length_append, List.length_cons, List.length_nil, List.length_drop, List.length_take]; omega) | (dsimp only; omega) | decide | (simp [keyV, be8_len]; done)) hq13 (show RdC w11 0 w11.heap.size 1 u l.length (l.map u16v) from by have hh : RdC w11 0 w11.heap.size 1 _ _ _ := (h.mono (L' := 0) (B' := w11.heap.size) (Nat.zero_le _) (by omega)); first | exact hh | exact hh.cast (by first | omega | (simp; try omega)) (by first | rfl | simp [u16v]))) ?_
 rintro v14 w15 ⟨E17, hO14⟩
 have E17 := grown_of_below E17
 have z_w15 := E17.size
 have hb := below_step0 hb E17 hb.size
 have hO14 := hO14.mono (base' := w11.heap.size) (by omega)
 refine op_move (ev_base hN rfl s2) ?_
 have hq18 : RdC w15 0 w15.heap.size 1 v14 ((keyV x) ++ labB l).length (((keyV x) ++ labB l).map u8v) := by have hh : RdC w15 0 w15.heap.size 1 _ _ _ := (hO14.rdw.mono (L' := 0) (B' := w15.heap.size) (Nat.zero_le _) (by omega)); first | simpa using hh | simpa [Nat.add_comm, Nat.add_left_comm, Nat.add_assoc] using hh | exact hh.cast (by first | rfl | (simp; try omega)) (by first | rfl | (simp; done) | simp [u8v])
 refine op_fn (vs := [v14, (Value.int .u64 ((n : Nat) : Int)), (Value.func (.func 58) #[] #[])]) ok55 ⟨(ev_hit hN rfl), ⟨(ev_hit hN rfl), ⟨rfl, trivial⟩⟩⟩ (behN_ret ((keyV x) ++ labB l) n _ _ (by first | assumption | omega | (simp only [List.length_append, List.length_cons, List.length_nil, List.length_drop, List.length_take]; omega) | (dsimp only; omega) | decide | (simp [keyV, be8_len]; done)) (by first | assumption | omega | (simp only [List.length_append, List.length_cons, List.length_nil, List.length_drop, List.length_take]; omega) | (dsimp only; omega) | decide | (simp [keyV, be8_len]; done)) hq18) ?_
 rintro v19 w20 ⟨E21, hO19⟩
 have E21 := grown_of_below E21
 have z_w20 := E21.size
 have hb := below_step0 hb E21 hb.size
 have hO19 := hO19.mono (base' := w15.heap.size) (by omega)
 refine op_assign (ev_hit hN rfl) (reg_nil (hK9 _ _ (wp_ret ?_)))
 refine ret1 rfl hd (ev_hit hN rfl) ⟨_, rfl, ?_⟩
 exact ⟨hb, (hO19.mono (by omega)).cast (by simp only [keyX, List.length_append, be8_len]) rfl⟩

theorem IXTake_ret (bl : List UInt8) (v : Value) (w : World) (hl : bl.length ≤ 1000000000000) (hv : RdC w 0 w.heap.size 1 v bl.length (bl.map u8v)) : Ret Try.prog 38 #[v] w (fun v' w' => Below w.heap.size w w' ∧ ∃ u, v' = .tuple #[.agg #[.int .i64 (takeX bl).1.k, .int .i64 (takeX bl).1.n, .string (bs (takeX bl).1.s)], u, .int .u64 ((takeX bl).2.2.1 : Int), .int .i64 (takeX bl).2.2.2] ∧ Own w' w.heap.size 37 1 u (takeX bl).2.1.length ((takeX bl).2.1.map u16v)) := by
 have htl := takeV_len bl
 have hb := Below.refl w.heap.size w
 refine enter (N := 64) Try.func38 rfl rfl (by simp) fun a0 hN hd hA => ?_
 have s0 : a0.tmps.getD 0 undef = v := hA 0 (by simp)
 clear hA
 refine seq_any fun K9 hK9 => one_reg (op_alloc (cs := [(Value.int .i64 0), (Value.int .i64 0), (Value.string (bs []))]) zero74 rfl ?_)
 intro w10 b19 lo_b19 hi_b19 hB37 E20
 have z_w10 := E20.size
 have hv := hv.keep0 E20
 have hb := below_step0 hb E20 hb.size
 refine op_assign rfl ?_
 refine op_assign rfl (op_assign rfl (reg_nil (hK9 _ _ (seq_any fun K38 hK38 => one_reg (op_move (ev_base hN rfl s0) ?_)))))
 have hq43 : RdC w10 0 w10.heap.size 1 v bl.length (bl.map u8v) := by have hh : RdC w10 0 w10.heap.size 1 _ _ _ := (hv.mono (L' := 0) (B' := w10.heap.size) (Nat.zero_le _) (by omega)); first | simpa using hh | simpa [Nat.add_comm, Nat.add_left_comm, Nat.add_assoc] using hh | exact hh.cast (by first | rfl | (simp; try omega)) (by first | rfl | (simp; done) | simp [u8v])
 refine op_fn (vs := [v]) ok61 ⟨(ev_hit hN rfl), trivial⟩ (Take_ret bl v _ (by first | assumption | omega | (simp only [List.length_append, List.length_cons, List.length_nil, List.length_drop, List.length_take]; omega) | (dsimp only; omega) | decide | (simp [keyV, be8_len]; done)) hq43) ?_
 rintro _ w48 ⟨E53, rfl⟩
 have E53 := grown_of_below E53
 have z_w48 := E53.size
 have hv := hv.keep0 E53
 have hB37 := hB37.keep0 E53
 have hb := below_step0 hb E53 hb.size
 refine op_move (ev_hit hN rfl) (op_extract (ev_hit hN rfl) rfl ?_)
 refine op_extract (ev_hit hN rfl) rfl ?_
 refine op_extract (ev_hit hN rfl) rfl ?_
 have hB37_old := hB37
 refine op_store (vs := [(Value.int .i64 (takeV bl).1.k), (Value.int .i64 (takeV bl).1.n), (Value.string (bs (takeV bl).1.s))]) (cs' := [(Value.int .i64 (takeV bl).1.k), (Value.int .i64 (takeV bl).1.n), (Value.string (bs (takeV bl).1.s))]) size74 (ev_hit hN rfl) (ev_hit hN rfl) rfl rfl rfl hB37 (Nat.le_of_ble_eq_true rfl) rfl ?_
 intro w54 hB37 E55
 have z_w54 := E55.size
 have hv := hv.keep E55 (fun k hk => .inr (by simp at hk; omega))
 have hb := below_step1 hb E55 hb.size (by omega)
 refine op_assign (ev_hit hN rfl) (op_assign (ev_hit hN rfl) (reg_nil (hK38 _ _ (seq_any fun K56 hK56 => seq_any fun K57 hK57 => ?_))))
 refine one_reg (op_move (ev_hit hN rfl) (op_neq (ev_hit hN rfl) rfl (fun c18 => ?_) (fun c18 => ?_)))
 ·
  refine reg_nil (hK57 _ _ (wp_cond_true (ev_hit hN rfl) (seq_any fun K58 hK58 => one_reg (op_build (pv := []) (v := (Value.agg #[(Value.int .i64 0), (Value.int .i64 0), (Value.string (bs []))])) trivial (by kernel_rfl) ?_))))
  refine op_move (ev_hit hN rfl) (op_store (vs := [(Value.int .i64 0), (Value.int .i64 0), (Value.string (bs []))]) (cs' := [(Value.int .i64 0), (Value.int .i64 0), (Value.string (bs []))]) size74 (ev_hit hN rfl) (ev_hit hN rfl) rfl rfl rfl hB37 (Nat.le_of_ble_eq_true rfl) rfl ?_)
  intro w59 hB37 E60
  have z_w59 := E60.size
  have hb := below_step1 hb E60 hb.size (by omega)
  refine op_assign rfl (op_assign rfl (op_assign (ev_hit hN rfl) (reg_nil (hK58 _ _ (wp_ret (then_ret ( ?_)))))))
  refine retN (rs := [.cell 2 74, .tmp 3, .tmp 4, .tmp 5]) (vs := [(Value.agg #[(Value.int .i64 0), (Value.int .i64 0), (Value.string (bs []))]), (Value.slice none 0 0), (Value.int .u64 0), (Value.int .i64 (takeV bl).2.2)]) rfl hd ⟨⟨_, (ev_hit hN rfl), run_loadA (cs := [(Value.int .i64 0), (Value.int .i64 0), (Value.string (bs []))]) agg74 rfl (fun j u hu => by rw [Nat.zero_add]; exact hB37.cell hu)⟩, ⟨(ev_hit hN rfl), ⟨(ev_hit hN rfl), ⟨(ev_hit hN rfl), trivial⟩⟩⟩⟩ rfl ⟨_, rfl, ?_⟩
  have e : takeX bl = (V0, [], 0, (takeV bl).2.2) := by rw [takeX, if_pos (by omega)]
  exact ⟨hb, _, by rw [e]; rfl, by rw [e]; exact Own.nil _ _ _ _⟩
 ·
  refine reg_nil (hK57 _ _ (wp_cond_false (ev_hit hN rfl) ?_))
  refine wp_skip (hK56 _ _ (seq_any fun K63 hK63 => one_reg (op_move (ev_base hN rfl s0) (op_move (ev_hit hN rfl) (op_slice_rd (lo := (takeV bl).2.1.toNat) (hi := bl.length) slt27 (ev_hit hN rfl) hv (.inr ⟨_, _, rfl, (ev_hit hN rfl).trans (congrArg (Value.int _) (by omega))⟩) (.inl ⟨rfl, rfl⟩) (by omega) (by omega) ?_)))))
  intro v65 hR66
  have hR66 : RdC w54 0 w.heap.size 1 v65 (bl.length - (takeV bl).2.1.toNat) (((bl.drop (takeV bl).2.1.toNat)).map u8v) := by simpa [List.map_drop, List.take_of_length_le] using hR66
  have hq67 : RdC w54 0 w54.heap.size 1 v65 (bl.drop (takeV bl).2.1.toNat).length ((bl.drop (takeV bl).2.1.toNat).map u8v) := by have hh : RdC w54 0 w54.heap.size 1 _ _ _ := (hR66.mono (L' := 0) (B' := w54.heap.size) (Nat.zero_le _) (by omega)); first | simpa using hh | simpa [Nat.add_comm, Nat.add_left_comm, Nat.add_assoc] using hh | exact hh.cast (by first | rfl | (simp; try omega)) (by first | rfl | (simp; done) | simp [u8v])
  refine op_fn (vs := [v65]) ok62 ⟨(ev_hit hN rfl), trivial⟩ (labTake_ret (bl.drop (takeV bl).2.1.toNat) v65 _ (by first | assumption | omega | (simp only [List.length_append, List.length_cons, List.length_nil, List.length_drop, List.length_take]; omega) | (dsimp only; omega) | decide | (simp [keyV, be8_len]; done)) hq67) ?_
  rintro _ w69 ⟨E70, u68, rfl, hO68⟩
  have E70 := grown_of_below E70
  have z_w69 := E70.size
  have hv := hv.keep0 E70
  have hB37 := hB37.keep0 E70
  have hR66 := hR66.keep0 E70
  have hb := below_step0 hb E70 hb.size
  have hO68 := hO68.mono (base' := w54.heap.size) (by omega)
  refine op_move (ev_hit hN rfl) (op_extract (ev_hit hN rfl) rfl ?_)
  refine op_extract (ev_hit hN rfl) rfl ?_
  refine op_extract (ev_hit hN rfl) rfl ?_
  refine op_assign (ev_hit hN rfl) (op_assign (ev_hit hN rfl) (op_assign (ev_hit hN rfl) (reg_nil (hK63 _ _ (seq_any fun K71 hK71 => one_reg ?_)))))
  have htl2 := takeL_len (bl.drop (takeV bl).2.1.toNat)
  have hdl : (bl.drop (takeV bl).2.1.toNat).length = bl.length - (takeV bl).2.1.toNat := by simp
  refine op_move (ev_base hN rfl s0) (op_move (ev_hit hN rfl) (op_move (ev_hit hN rfl) (op_add (ev_hit hN rfl) (ev_hit hN rfl) (add64 (by omega)) ?_)))
  refine op_slice_rd (lo := ((takeV bl).2.1.toNat + (takeL (bl.drop (takeV bl).2.1.toNat)).2.1.toNat)) (hi := bl.length) slt27 (ev_hit hN rfl) hv (.inr ⟨_, _, rfl, (ev_hit hN rfl).trans (congrArg (Value.int _) (by omega))⟩) (.inl ⟨rfl, rfl⟩) (by simp at htl2; omega) (by omega) ?_
  intro v72 hR73
  have hR73 : RdC w69 0 w.heap.size 1 v72 (bl.length - ((takeV bl).2.1.toNat + (takeL (bl.drop (takeV bl).2.1.toNat)).2.1.toNat)) (((bl.drop ((takeV bl).2.1.toNat + (takeL (bl.drop (takeV bl).2.1.toNat)).2.1.toNat))).map u8v) := by simpa [List.map_drop, List.take_of_length_le] using hR73
  refine op_assign (ev_hit hN rfl) (reg_nil (hK71 _ _ (seq_any fun K75 hK75 => wp_block ?_)))
  refine seq_any fun K76 hK76 => ?_
  refine one_reg (op_move (ev_hit hN rfl) (op_neq (ev_hit hN rfl) rfl (fun c36 => ?_) (fun c36 => ?_)))
  ·
   refine op_assign (ev_hit hN rfl) (reg_nil (hK76 _ _ (wp_cond_true (ev_hit hN rfl) (seq_any fun K77 hK77 => one_reg (op_build (pv := []) (v := (Value.agg #[(Value.int .i64 0), (Value.int .i64 0), (Value.string (bs []))])) trivial (by kernel_rfl) ?_)))))
   refine op_move (ev_hit hN rfl) (op_store (vs := [(Value.int .i64 0), (Value.int .i64 0), (Value.string (bs []))]) (cs' := [(Value.int .i64 0), (Value.int .i64 0), (Value.string (bs []))]) size74 (ev_hit hN rfl) (ev_hit hN rfl) rfl rfl rfl hB37 (Nat.le_of_ble_eq_true rfl) rfl ?_)
   intro w78 hB37 E79
   have z_w78 := E79.size
   have hb := below_step1 hb E79 hb.size (by omega)
   refine op_assign rfl (op_assign rfl (op_assign (ev_hit hN rfl) (reg_nil (hK77 _ _ (wp_ret (blk_ret (then_ret ( ?_))))))))
   refine retN (rs := [.cell 2 74, .tmp 3, .tmp 4, .tmp 5]) (vs := [(Value.agg #[(Value.int .i64 0), (Value.int .i64 0), (Value.string (bs []))]), (Value.slice none 0 0), (Value.int .u64 0), (Value.int .i64 (takeL (bl.drop (takeV bl).2.1.toNat)).2.2)]) rfl hd ⟨⟨_, (ev_hit hN rfl), run_loadA (cs := [(Value.int .i64 0), (Value.int .i64 0), (Value.string (bs []))]) agg74 rfl (fun j u hu => by rw [Nat.zero_add]; exact hB37.cell hu)⟩, ⟨(ev_hit hN rfl), ⟨(ev_hit hN rfl), ⟨(ev_hit hN rfl), trivial⟩⟩⟩⟩ rfl ⟨_, rfl, ?_⟩
   have e : takeX bl = (V0, [], 0, (takeL (bl.drop (takeV bl).2.1.toNat)).2.2) := by rw [takeX, if_neg (by omega), if_pos (by omega)]
   exact ⟨hb, _, by rw [e]; rfl, by rw [e]; exact Own.nil _ _ _ _⟩
  ·
   refine op_assign (ev_hit hN rfl) ?_
   refine reg_nil (hK76 _ _ (wp_cond_false (ev_hit hN rfl) (seq_any fun K80 hK80 => one_reg (op_move (ev_hit hN rfl) (op_len_rd Try.underlying27 (ev_hit hN rfl) hR73 ?_)))))
   refine op_lss (ev_hit hN rfl) rfl (fun c42 => ?_) (fun c42 => ?_)
   ·
    refine op_assign (ev_hit hN rfl) (reg_nil (hK80 _ _ (wp_cond_true (ev_hit hN rfl) (seq_any fun K81 hK81 => one_reg (op_build (pv := []) (v := (Value.agg #[(Value.int .i64 0), (Value.int .i64 0), (Value.string (bs []))])) trivial (by kernel_rfl) ?_)))))
    refine op_store (vs := [(Value.int .i64 0), (Value.int .i64 0), (Value.string (bs []))]) (cs' := [(Value.int .i64 0), (Value.int .i64 0), (Value.string (bs []))]) size74 (ev_hit hN rfl) (ev_hit hN rfl) rfl rfl rfl hB37 (Nat.le_of_ble_eq_true rfl) rfl ?_
    intro w82 hB37 E83
    have z_w82 := E83.size
    have hb := below_step1 hb E83 hb.size (by omega)
    refine op_assign rfl (op_assign rfl (op_assign rfl (reg_nil (hK81 _ _ (wp_ret (blk_ret (then_ret ( ?_))))))))
    refine retN (rs := [.cell 2 74, .tmp 3, .tmp 4, .tmp 5]) (vs := [(Value.agg #[(Value.int .i64 0), (Value.int .i64 0), (Value.string (bs []))]), (Value.slice none 0 0), (Value.int .u64 0), (Value.int .i64 2)]) rfl hd ⟨⟨_, (ev_hit hN rfl), run_loadA (cs := [(Value.int .i64 0), (Value.int .i64 0), (Value.string (bs []))]) agg74 rfl (fun j u hu => by rw [Nat.zero_add]; exact hB37.cell hu)⟩, ⟨(ev_hit hN rfl), ⟨(ev_hit hN rfl), ⟨(ev_hit hN rfl), trivial⟩⟩⟩⟩ rfl ⟨_, rfl, ?_⟩
    have hlr : (bl.drop ((takeV bl).2.1.toNat + (takeL (bl.drop (takeV bl).2.1.toNat)).2.1.toNat)).length = bl.length - ((takeV bl).2.1.toNat + (takeL (bl.drop (takeV bl).2.1.toNat)).2.1.toNat) := by simp
    have e : takeX bl = (V0, [], 0, 2) := by rw [takeX, if_neg (by omega), if_neg (by omega), if_pos (by omega)]
    exact ⟨hb, _, by rw [e]; rfl, by rw [e]; exact Own.nil _ _ _ _⟩
   ·
    refine op_assign (ev_hit hN rfl) ?_
    refine reg_nil (hK80 _ _ (wp_cond_false (ev_hit hN rfl) (seq_any fun K84 hK84 => one_reg (op_move (ev_hit hN rfl) (op_len_rd Try.underlying27 (ev_hit hN rfl) hR73 ?_)))))
    refine op_gtr (ev_hit hN rfl) rfl (fun c47 => ?_) (fun c47 => ?_)
    ·
     refine op_assign (ev_hit hN rfl) (reg_nil (hK84 _ _ (wp_cond_true (ev_hit hN rfl) (seq_any fun K85 hK85 => one_reg (op_build (pv := []) (v := (Value.agg #[(Value.int .i64 0), (Value.int .i64 0), (Value.string (bs []))])) trivial (by kernel_rfl) ?_)))))
     refine op_store (vs := [(Value.int .i64 0), (Value.int .i64 0), (Value.string (bs []))]) (cs' := [(Value.int .i64 0), (Value.int .i64 0), (Value.string (bs []))]) size74 (ev_hit hN rfl) (ev_hit hN rfl) rfl rfl rfl hB37 (Nat.le_of_ble_eq_true rfl) rfl ?_
     intro w86 hB37 E87
     have z_w86 := E87.size
     have hb := below_step1 hb E87 hb.size (by omega)
     refine op_assign rfl (op_assign rfl (op_assign rfl (reg_nil (hK85 _ _ (wp_ret (blk_ret (then_ret ( ?_))))))))
     refine retN (rs := [.cell 2 74, .tmp 3, .tmp 4, .tmp 5]) (vs := [(Value.agg #[(Value.int .i64 0), (Value.int .i64 0), (Value.string (bs []))]), (Value.slice none 0 0), (Value.int .u64 0), (Value.int .i64 3)]) rfl hd ⟨⟨_, (ev_hit hN rfl), run_loadA (cs := [(Value.int .i64 0), (Value.int .i64 0), (Value.string (bs []))]) agg74 rfl (fun j u hu => by rw [Nat.zero_add]; exact hB37.cell hu)⟩, ⟨(ev_hit hN rfl), ⟨(ev_hit hN rfl), ⟨(ev_hit hN rfl), trivial⟩⟩⟩⟩ rfl ⟨_, rfl, ?_⟩
     have hlr : (bl.drop ((takeV bl).2.1.toNat + (takeL (bl.drop (takeV bl).2.1.toNat)).2.1.toNat)).length = bl.length - ((takeV bl).2.1.toNat + (takeL (bl.drop (takeV bl).2.1.toNat)).2.1.toNat) := by simp
     have e : takeX bl = (V0, [], 0, 3) := by rw [takeX, if_neg (by omega), if_neg (by omega), if_neg (by omega), if_pos (by omega)]
     exact ⟨hb, _, by rw [e]; rfl, by rw [e]; exact Own.nil _ _ _ _⟩
    ·
     refine op_assign (ev_hit hN rfl) (reg_nil (hK84 _ _ (wp_cond_false (ev_hit hN rfl) ?_)))
     refine wp_skip (hK75 _ _ (seq_any fun K88 hK88 => seq_any fun K89 hK89 => one_reg (op_move (ev_hit hN rfl) (op_len_rd Try.underlying27 (ev_hit hN rfl) hR73 ?_))))
     refine op_move rfl (reg_nil (hK89 _ _ (wp_block ?_)))
     have hlr : (bl.drop ((takeV bl).2.1.toNat + (takeL (bl.drop (takeV bl).2.1.toNat)).2.1.toNat)).length = bl.length - ((takeV bl).2.1.toNat + (takeL (bl.drop (takeV bl).2.1.toNat)).2.1.toNat) := by simp
     refine loop_m (fun mz_ az_ w' => ∃ (i : Nat), mz_ = 8 - i ∧ (az_.tmps.getD 0 undef = v) ∧ (az_.tmps.getD 2 undef = (ptr b19 0)) ∧ (az_.tmps.getD 3 undef = u68) ∧ (az_.tmps.getD 5 undef = (Value.int .i64 (takeL (bl.drop (takeV bl).2.1.toNat)).2.2)) ∧ (az_.tmps.getD 6 undef = (Value.int .i64 (takeV bl).2.1)) ∧ (az_.tmps.getD 7 undef = (Value.int .i64 (takeL (bl.drop (takeV bl).2.1.toNat)).2.1)) ∧ (az_.tmps.getD 8 undef = v72) ∧ (az_.tmps.getD 11 undef = (Value.tuple #[(Value.agg #[(Value.int .i64 (takeV bl).1.k), (Value.int .i64 (takeV bl).1.n), (Value.string (bs (takeV bl).1.s))]), (Value.int .i64 (takeV bl).2.1), (Value.int .i64 (takeV bl).2.2)])) ∧ (az_.tmps.getD 12 undef = v) ∧ (az_.tmps.getD 13 undef = (Value.tuple #[(Value.agg #[(Value.int .i64 (takeV bl).1.k), (Value.int .i64 (takeV bl).1.n), (Value.string (bs (takeV bl).1.s))]), (Value.int .i64 (takeV bl).2.1), (Value.int .i64 (takeV bl).2.2)])) ∧ (az_.tmps.getD 14 undef = (Value.agg #[(Value.int .i64 (takeV bl).1.k), (Value.int .i64 (takeV bl).1.n), (Value.string (bs (takeV bl).1.s))])) ∧ (az_.tmps.getD 15 undef = (Value.int .i64 (takeV bl).2.1)) ∧ (az_.tmps.getD 16 undef = (Value.int .i64 (takeV bl).2.2)) ∧ (az_.tmps.getD 17 undef = (Value.int .i64 (takeV bl).2.2)) ∧ (az_.tmps.getD 18 undef = (Value.bool false)) ∧ (az_.tmps.getD 21 undef = (Value.tuple #[u68, (Value.int .i64 (takeL (bl.drop (takeV bl).2.1.toNat)).2.1), (Value.int .i64 (takeL (bl.drop (takeV bl).2.1.toNat)).2.2)])) ∧ (az_.tmps.getD 22 undef = v) ∧ (az_.tmps.getD 23 undef = (Value.int .i64 (takeV bl).2.1)) ∧ (az_.tmps.getD 24 undef = v65) ∧ (az_.tmps.getD 25 undef = (Value.tuple #[u68, (Value.int .i64 (takeL (bl.drop (takeV bl).2.1.toNat)).2.1), (Value.int .i64 (takeL (bl.drop (takeV bl).2.1.toNat)).2.2)])) ∧ (az_.tmps.getD 26 undef = u68) ∧ (az_.tmps.getD 27 undef = (Value.int .i64 (takeL (bl.drop (takeV bl).2.1.toNat)).2.1)) ∧ (az_.tmps.getD 28 undef = (Value.int .i64 (takeL (bl.drop (takeV bl).2.1.toNat)).2.2)) ∧ (az_.tmps.getD 29 undef = v) ∧ (az_.tmps.getD 30 undef = (Value.int .i64 (takeV bl).2.1)) ∧ (az_.tmps.getD 31 undef = (Value.int .i64 (takeL (bl.drop (takeV bl).2.1.toNat)).2.1)) ∧ (az_.tmps.getD 32 undef = (Value.int .i64 ((takeV bl).2.1 + (takeL (bl.drop (takeV bl).2.1.toNat)).2.1))) ∧ (az_.tmps.getD 33 undef = v72) ∧ (az_.tmps.getD 34 undef = (Value.bool false)) ∧ (az_.tmps.getD 35 undef = (Value.int .i64 (takeL (bl.drop (takeV bl).2.1.toNat)).2.2)) ∧ (az_.tmps.getD 36 undef = (Value.bool false)) ∧ (az_.tmps.getD 39 undef = (Value.bool false)) ∧ (az_.tmps.getD 40 undef = v72) ∧ (az_.tmps.getD 41 undef = (Value.int .i64 (((bl.length - ((takeV bl).2.1.toNat + (takeL (bl.drop (takeV bl).2.1.toNat)).2.1.toNat)) : Nat) : Int))) ∧ (az_.tmps.getD 42 undef = (Value.bool false)) ∧ (az_.tmps.getD 44 undef = (Value.bool false)) ∧ (az_.tmps.getD 45 undef = v72) ∧ (az_.tmps.getD 46 undef = (Value.int .i64 (((bl.length - ((takeV bl).2.1.toNat + (takeL (bl.drop (takeV bl).2.1.toNat)).2.1.toNat)) : Nat) : Int))) ∧ (az_.tmps.getD 47 undef = (Value.bool false)) ∧ (az_.tmps.getD 49 undef = v72) ∧ (az_.tmps.getD 50 undef = (Value.int .i64 (((bl.length - ((takeV bl).2.1.toNat + (takeL (bl.drop (takeV bl).2.1.toNat)).2.1.toNat)) : Nat) : Int))) ∧ (az_.tmps.getD 51 undef = (Value.int .i64 ((i : Nat) : Int))) ∧ (az_.tmps.getD 4 undef = (Value.int .u64 ((ofBe ((bl.drop ((takeV bl).2.1.toNat + (takeL (bl.drop (takeV bl).2.1.toNat)).2.1.toNat)).take i) : Nat) : Int))) ∧ (i ≤ 8) ∧ (Below w.heap.size w w') ∧ (w69.heap.size ≤ w'.heap.size) ∧ (RdC w' 0 w.heap.size 1 v bl.length (bl.map u8v)) ∧ (Bx w' b19 74 [(Value.int .i64 (takeV bl).1.k), (Value.int .i64 (takeV bl).1.n), (Value.string (bs (takeV bl).1.s))]) ∧ (RdC w' 0 w.heap.size 1 v65 (bl.length - (takeV bl).2.1.toNat) (((bl.drop (takeV bl).2.1.toNat)).map u8v)) ∧ (Own w' w54.heap.size 37 1 u68 (takeL (bl.drop (takeV bl).2.1.toNat)).1.length ((takeL (bl.drop (takeV bl).2.1.toNat)).1.map u16v)) ∧ (RdC w' 0 w.heap.size 1 v72 (bl.length - ((takeV bl).2.1.toNat + (takeL (bl.drop (takeV bl).2.1.toNat)).2.1.toNat)) (((bl.drop ((takeV bl).2.1.toNat + (takeL (bl.drop (takeV bl).2.1.toNat)).2.1.toNat))).map u8v))) _ hN hd ⟨0, rfl, (sl_base hN rfl s0), (sl_hit hN rfl), (sl_hit hN rfl), (sl_hit hN rfl), (sl_hit hN rfl), (sl_hit hN rfl), (sl_hit hN rfl), (sl_hit hN rfl), (sl_hit hN rfl), (sl_hit hN rfl), (sl_hit hN rfl), (sl_hit hN rfl), (sl_hit hN rfl), (sl_hit hN rfl), (sl_hit hN rfl), (sl_hit hN rfl), (sl_hit hN rfl), (sl_hit hN rfl), (sl_hit hN rfl), (sl_hit hN rfl), (sl_hit hN rfl), (sl_hit hN rfl), (sl_hit hN rfl), (sl_hit hN rfl), (sl_hit hN rfl), (sl_hit hN rfl), (sl_hit hN rfl), (sl_hit hN rfl), (sl_hit hN rfl), (sl_hit hN rfl), (sl_hit hN rfl), (sl_hit hN rfl), (sl_hit hN rfl), (sl_hit hN rfl), (sl_hit hN rfl), (sl_hit hN rfl), (sl_hit hN rfl), (sl_hit hN rfl), (sl_hit hN rfl), (sl_hit hN rfl), (sl_hit hN rfl), (sl_hit hN rfl), (sl_hit hN rfl), Nat.zero_le _, hb, (Nat.le_refl _), hv, hB37, hR66, hO68, hR73⟩ ?_
     rintro _ a90 w90 hN90 hd90 ⟨i, rfl, s90_0, s90_2, s90_3, s90_5, s90_6, s90_7, s90_8, s90_11, s90_12, s90_13, s90_14, s90_15, s90_16, s90_17, s90_18, s90_21, s90_22, s90_23, s90_24, s90_25, s90_26, s90_27, s90_28, s90_29, s90_30, s90_31, s90_32, s90_33, s90_34, s90_35, s90_36, s90_39, s90_40, s90_41, s90_42, s90_44, s90_45, s90_46, s90_47, s90_49, s90_50, s90_51, s90_4, hi, hb, zl_w90, hv, hB37, hR66, hO68, hR73⟩
     have z_w90 := hb.size
     refine seq_any fun K91 hK91 => ?_
     refine one_reg (op_lss (ev_base hN90 rfl s90_51) (ev_base hN90 rfl s90_50) (fun c52 => ?_) (fun c52 => ?_))
     ·
      refine reg_nil ?_
      refine hK91 _ _ (seq_any fun K92 hK92 => wp_cond_true (ev_hit hN90 rfl) (wp_skip (hK92 _ _ (seq_any fun K93 hK93 => wp_block ?_))))
      refine seq_any fun K94 hK94 => one_reg ?_
      have hlr : (bl.drop ((takeV bl).2.1.toNat + (takeL (bl.drop (takeV bl).2.1.toNat)).2.1.toNat)).length = bl.length - ((takeV bl).2.1.toNat + (takeL (bl.drop (takeV bl).2.1.toNat)).2.1.toNat) := by simp
      have hsm := ofBe_small (l := (bl.drop ((takeV bl).2.1.toNat + (takeL (bl.drop (takeV bl).2.1.toNat)).2.1.toNat)).take i) (by simp; omega)
      refine op_index_rd slt27 (ev_base hN90 rfl s90_49) hR73 (ev_base hN90 rfl s90_51) (by omega) (by omega) ?_
      intro b95 o96 h0b95 h1b95 hc97
      refine op_load1 (v := (Value.int .u8 (((bl.drop ((takeV bl).2.1.toNat + (takeL (bl.drop (takeV bl).2.1.toNat)).2.1.toNat)).getD i 0).toNat : Int))) one5 (ev_hit hN90 rfl) (by have := hc97 0 (Value.int .u8 (((bl.drop ((takeV bl).2.1.toNat + (takeL (bl.drop (takeV bl).2.1.toNat)).2.1.toNat)).getD i 0).toNat : Int)) (by decide) (el_u8 (i := i) (by omega) (by omega)); simpa using this) (op_assign (ev_hit hN90 rfl) (reg_nil (hK94 _ _ (one_reg (op_move (ev_base hN90 rfl s90_4) (op_shl (r := (((ofBe ((bl.drop ((takeV bl).2.1.toNat + (takeL (bl.drop (takeV bl).2.1.toNat)).2.1.toNat)).take i) : Nat) : Int) * 256)) (ev_hit hN90 rfl) rfl (by decide) (shl8 (by omega)) ?_))))))
      refine op_move (ev_hit hN90 rfl) (op_conv (r := (((bl.drop ((takeV bl).2.1.toNat + (takeL (bl.drop (takeV bl).2.1.toNat)).2.1.toNat)).getD i 0).toNat : Int)) (ev_hit hN90 rfl) us5 Try.underlying79 (wrap_u64 (by have := (((bl.drop ((takeV bl).2.1.toNat + (takeL (bl.drop (takeV bl).2.1.toNat)).2.1.toNat)).getD i 0)).toNat_lt; omega)) ?_)
      refine op_or (r := (((ofBe ((bl.drop ((takeV bl).2.1.toNat + (takeL (bl.drop (takeV bl).2.1.toNat)).2.1.toNat)).take i) : Nat) : Int) * 256 + (((bl.drop ((takeV bl).2.1.toNat + (takeL (bl.drop (takeV bl).2.1.toNat)).2.1.toNat)).getD i 0).toNat : Int))) (ev_hit hN90 rfl) (ev_hit hN90 rfl) (or_low hsm (UInt8.toNat_lt _)) ?_
      refine op_assign (ev_hit hN90 rfl) (reg_nil (hK93 _ _ (one_reg (op_add (ev_base hN90 rfl s90_51) rfl (add64 (by omega)) ?_))))
      refine op_move (ev_hit hN90 rfl) (reg_nil ?_)
      -- round 18F 36F 42F 47F 52T
      exact loop_next _ hN90 hd90 ⟨i + 1, rfl, (sl_base hN90 rfl s90_0), (sl_base hN90 rfl s90_2), (sl_base hN90 rfl s90_3), (sl_base hN90 rfl s90_5), (sl_base hN90 rfl s90_6), (sl_base hN90 rfl s90_7), (sl_base hN90 rfl s90_8), (sl_base hN90 rfl s90_11), (sl_base hN90 rfl s90_12), (sl_base hN90 rfl s90_13), (sl_base hN90 rfl s90_14), (sl_base hN90 rfl s90_15), (sl_base hN90 rfl s90_16), (sl_base hN90 rfl s90_17), (sl_base hN90 rfl s90_18), (sl_base hN90 rfl s90_21), (sl_base hN90 rfl s90_22), (sl_base hN90 rfl s90_23), (sl_base hN90 rfl s90_24), (sl_base hN90 rfl s90_25), (sl_base hN90 rfl s90_26), (sl_base hN90 rfl s90_27), (sl_base hN90 rfl s90_28), (sl_base hN90 rfl s90_29), (sl_base hN90 rfl s90_30), (sl_base hN90 rfl s90_31), (sl_base hN90 rfl s90_32), (sl_base hN90 rfl s90_33), (sl_base hN90 rfl s90_34), (sl_base hN90 rfl s90_35), (sl_base hN90 rfl s90_36), (sl_base hN90 rfl s90_39), (sl_base hN90 rfl s90_40), (sl_base hN90 rfl s90_41), (sl_base hN90 rfl s90_42), (sl_base hN90 rfl s90_44), (sl_base hN90 rfl s90_45), (sl_base hN90 rfl s90_46), (sl_base hN90 rfl s90_47), (sl_base hN90 rfl s90_49), (sl_base hN90 rfl s90_50), (sl_hit hN90 rfl).trans (congrArg (Value.int .i64) (by omega)), (sl_hit hN90 rfl).trans (congrArg (Value.int .u64) (by rw [take_snoc (l := (bl.drop ((takeV bl).2.1.toNat + (takeL (bl.drop (takeV bl).2.1.toNat)).2.1.toNat))) (i := i) (by omega), ofBe_snoc]; simp)), (by omega), hb, (by omega), hv, hB37, hR66, hO68, hR73⟩ (by omega)
     ·
      refine reg_nil (hK91 _ _ (seq_any fun K98 hK98 => wp_cond_false (ev_hit hN90 rfl) (wp_exit (then_exit (then_exit (blk_hit ?_))))))
      refine hK88 _ _ (seq_any fun K99 hK99 => one_reg (op_loadA (cs := [(Value.int .i64 (takeV bl).1.k), (Value.int .i64 (takeV bl).1.n), (Value.string (bs (takeV bl).1.s))]) agg74 rfl (ev_base hN90 rfl s90_2) (fun j u hu => by rw [Nat.zero_add]; exact hB37.cell hu) ?_))
      refine op_move (ev_base hN90 rfl s90_3) (op_move (ev_base hN90 rfl s90_4) ?_)
      have hB37_old := hB37
      refine op_store (vs := [(Value.int .i64 (takeV bl).1.k), (Value.int .i64 (takeV bl).1.n), (Value.string (bs (takeV bl).1.s))]) (cs' := [(Value.int .i64 (takeV bl).1.k), (Value.int .i64 (takeV bl).1.n), (Value.string (bs (takeV bl).1.s))]) size74 (ev_base hN90 rfl s90_2) (ev_hit hN90 rfl) rfl rfl rfl hB37 (Nat.le_of_ble_eq_true rfl) rfl ?_
      intro w100 hB37 E101
      have z_w100 := E101.size
      have hO68 := hO68.keepX hB37_old E101 (by decide)
      have hb := below_step1 hb E101 hb.size (by omega)
      refine op_assign (ev_hit hN90 rfl) (op_assign (ev_hit hN90 rfl) (op_assign rfl (reg_nil (hK99 _ _ (wp_ret ?_)))))
      refine retN (rs := [.cell 2 74, .tmp 3, .tmp 4, .tmp 5]) (vs := [(Value.agg #[(Value.int .i64 (takeV bl).1.k), (Value.int .i64 (takeV bl).1.n), (Value.string (bs (takeV bl).1.s))]), u68, (Value.int .u64 ((ofBe ((bl.drop ((takeV bl).2.1.toNat + (takeL (bl.drop (takeV bl).2.1.toNat)).2.1.toNat)).take i) : Nat) : Int)), (Value.int .i64 0)]) rfl hd90 ⟨⟨_, (ev_base hN90 rfl s90_2), run_loadA (cs := [(Value.int .i64 (takeV bl).1.k), (Value.int .i64 (takeV bl).1.n), (Value.string (bs (takeV bl).1.s))]) agg74 rfl (fun j u hu => by rw [Nat.zero_add]; exact hB37.cell hu)⟩, ⟨(ev_hit hN90 rfl), ⟨(ev_hit hN90 rfl), ⟨(ev_hit hN90 rfl), trivial⟩⟩⟩⟩ rfl ⟨_, rfl, ?_⟩
      have hlr : (bl.drop ((takeV bl).2.1.toNat + (takeL (bl.drop (takeV bl).2.1.toNat)).2.1.toNat)).length = bl.length - ((takeV bl).2.1.toNat + (takeL (bl.drop (takeV bl).2.1.toNat)).2.1.toNat) := by simp
      have h8 : i = 8 := by omega
      have e8 : (bl.drop ((takeV bl).2.1.toNat + (takeL (bl.drop (takeV bl).2.1.toNat)).2.1.toNat)).take i = (bl.drop ((takeV bl).2.1.toNat + (takeL (bl.drop (takeV bl).2.1.toNat)).2.1.toNat)) := List.take_of_length_le (by omega)
      have e : takeX bl = ((takeV bl).1, (takeL (bl.drop (takeV bl).2.1.toNat)).1, ofBe (bl.drop ((takeV bl).2.1.toNat + (takeL (bl.drop (takeV bl).2.1.toNat)).2.1.toNat)), 0) := by rw [takeX, if_neg (by omega), if_neg (by omega), if_neg (by omega), if_neg (by omega)]
      exact ⟨hb, _, by rw [e, e8]; rfl, by rw [e]; exact hO68.mono (by omega)⟩

end Go.Proofs.Ytcpfdfejojghbaa

namespace Go.Proofs.Ytcpfdfejojghbaa
open Go.Gx
theorem scan_cut : ∀ {s : List UInt8} {i k : Nat}, s.all okB = true → i + s.length ≤ 30 → scanT (s.take k) i = .inl 2
  | [], i, k, _, _ => by simp [scanT]
  | c :: s, i, 0, _, _ => by simp [scanT]
  | c :: s, i, k + 1, h, hl => by
    simp only [List.all_cons, Bool.and_eq_true] at h
    have hc : 32 ≤ c.toNat ∧ c.toNat ≤ 126 := of_decide_eq_true h.1
    simp only [List.length_cons] at hl
    rw [List.take_succ_cons, scanT, if_neg (by omega), if_neg (fun hh => by rcases hh with hh | hh; · omega
                                                                            · rw [h.1] at hh; cases hh)]
    exact scan_cut h.2 (by omega)
end Go.Proofs.Ytcpfdfejojghbaa

namespace Go.Proofs.Ytcpfdfejojghbaa
open Go.Gx
theorem flat_be2_get : ∀ (l : Lb) (r : List UInt8) (i : Nat), i < l.length → (l.flatMap be2 ++ r).getD (2 * i) 0 = UInt8.ofNat ((l.getD i 0).toNat / 256) ∧ (l.flatMap be2 ++ r).getD (2 * i + 1) 0 = UInt8.ofNat (l.getD i 0).toNat
  | [], r, i, h => by simp at h
  | a :: l, r, 0, _ => ⟨rfl, rfl⟩
  | a :: l, r, i + 1, h => by
    have := flat_be2_get l r i (by simpa using h)
    rw [show 2 * (i + 1) = 2 * i + 1 + 1 by omega]
    exact this
theorem of_be2 (t : UInt16) : UInt16.ofNat ((UInt8.ofNat (t.toNat / 256)).toNat * 256 + (UInt8.ofNat t.toNat).toNat) = t := by
  apply UInt16.toNat_inj.1
  have := t.toNat_lt
  rw [UInt16.toNat_ofNat', UInt8.toNat_ofNat', UInt8.toNat_ofNat']; omega
theorem tags_put (l : Lb) (r : List UInt8) : tagsL l.length (labB l ++ r) = l := by
  apply List.ext_getElem
  · rw [tags_len]
  · intro i h1 h2
    obtain ⟨g1, g2⟩ := flat_be2_get l r i h2
    have e1 : (labB l ++ r).getD (1 + 2 * i) 0 = (l.flatMap be2 ++ r).getD (2 * i) 0 := by rw [show 1 + 2 * i = 2 * i + 1 by omega]; rfl
    have e2 : (labB l ++ r).getD (2 + 2 * i) 0 = (l.flatMap be2 ++ r).getD (2 * i + 1) 0 := by rw [show 2 + 2 * i = 2 * i + 1 + 1 by omega]; rfl
    simp only [tagsL, List.getElem_map, List.getElem_range]
    rw [e1, e2, g1, g2, of_be2]
    simp [List.getD_eq_getElem?_getD, h2]
theorem putL_head {l : Lb} (h : l.length ≤ 255) (r : List UInt8) : ((labB l ++ r).getD 0 0).toNat = l.length := by
  show (UInt8.ofNat l.length).toNat = l.length
  rw [UInt8.toNat_ofNat']; omega
theorem takeL_put {l : Lb} (h : mayL l = true) (r : List UInt8) : takeL (labB l ++ r) = (l, (((labB l).length : Nat) : Int), 0) := by
  have h8 := mayL_len h
  have hn := putL_head (l := l) (by omega) r
  have hl : (labB l ++ r).length = 1 + l.length * 2 + r.length := by rw [List.length_append, labB_len]
  rw [takeL, if_neg (by omega), if_neg (by omega), if_neg (by omega), hn, tags_put, if_pos (mayL_rise h), labB_len, Nat.mul_comm]
theorem keyX_len (x : Vl) (l : Lb) (n : Nat) : (keyX x l n).length = (keyV x).length + (1 + l.length * 2) + 8 := by
  simp only [keyX, List.length_append, be8_len, labB_len]
theorem takeX_put {x : Vl} {l : Lb} {n : Nat} (hx : mayV x = true) (ox : OkV x) (hl : mayL l = true) (r : List UInt8) :
    takeX (keyX x l n ++ r) = if r.length = 0 then (x, l, ofBe (be8 n), 0) else (V0, [], 0, 3) := by
  have e : keyX x l n ++ r = keyV x ++ (labB l ++ (be8 n ++ r)) := by simp only [keyX, List.append_assoc]
  have h1 := take_key hx ox (labB l ++ (be8 n ++ r))
  have h2 := takeL_put hl (be8 n ++ r)
  have d1 : (keyV x ++ (labB l ++ (be8 n ++ r))).drop (keyV x).length = labB l ++ (be8 n ++ r) := List.drop_left
  have d2 : (keyV x ++ (labB l ++ (be8 n ++ r))).drop ((keyV x).length + (labB l).length) = be8 n ++ r := by
    rw [← List.drop_drop, List.drop_left, List.drop_left]
  rw [e, takeX, h1]
  simp only [ne_eq, not_true_eq_false, if_false, Int.toNat_natCast]
  rw [d1, h2]
  simp only [ne_eq, not_true_eq_false, if_false, Int.toNat_natCast]
  rw [d2]
  have hb := be8_len n
  rw [if_neg (by rw [List.length_append]; omega)]
  by_cases hr : r.length = 0
  · have : r = [] := List.length_eq_zero_iff.1 hr
    subst this
    rw [if_neg (by rw [List.length_append]; simp; omega), if_pos hr, List.append_nil]
  · rw [if_pos (by rw [List.length_append]; omega), if_neg hr]
theorem takeX_put0 {x : Vl} {l : Lb} {n : Nat} (hx : mayV x = true) (ox : OkV x) (hl : mayL l = true) (hn : n < 18446744073709551616) : takeX (keyX x l n) = (x, l, n, 0) := by
  have := takeX_put (n := n) hx ox hl []
  rw [List.append_nil, if_pos (show ([] : List UInt8).length = 0 from rfl), ofBe_be8 hn] at this
  exact this
/-! how keys stand -/
theorem cmpT_left : ∀ (a p q : List UInt8), cmpT (a ++ p) (a ++ q) = cmpT p q
  | [], p, q => rfl
  | c :: a, p, q => by rw [List.cons_append, List.cons_append, cmpT_cons, cmpT_left a p q]
theorem cmpT_apart : ∀ {a b : List UInt8} (p q : List UInt8), ¬ a <+: b → ¬ b <+: a → cmpT (a ++ p) (b ++ q) = cmpT a b
  | [], b, p, q, h, _ => absurd (List.nil_prefix) h
  | a :: l, [], p, q, _, h => absurd (List.nil_prefix) h
  | a :: l, b :: m, p, q, h1, h2 => by
    by_cases hab : a = b
    · subst hab
      rw [List.cons_append, List.cons_append, cmpT_cons, cmpT_cons]
      exact cmpT_apart p q (fun h => h1 (by simpa [List.cons_prefix_cons] using h)) (fun h => h2 (by simpa [List.cons_prefix_cons] using h))
    · have : a.toNat ≠ b.toNat := fun h => hab (UInt8.toNat_inj.1 h)
      simp only [List.cons_append, cmpT]
      split
      · rfl
      · split
        · rfl
        · omega
theorem prefix_take {a b : List UInt8} (h : a <+: b) : b.take a.length = a := by
  obtain ⟨t, rfl⟩ := h; simp
theorem keys_begin {x y : Vl} (hx : mayV x = true) (hy : mayV y = true) (ox : OkV x) (oy : OkV y) (h : keyV x <+: keyV y) : x = y := key_prefix hx hy ox oy (prefix_take h)
theorem cmp_keys {x y : Vl} (hx : mayV x = true) (hy : mayV y = true) (ox : OkV x) (oy : OkV y) (p q : List UInt8) : cmpT (keyV x ++ p) (keyV y ++ q) = if cmpV x y = 0 then cmpT p q else cmpV x y := by
  have hw := cmpW_cmpV hx hy
  by_cases h : x = y
  · subst h
    have : cmpV x x = 0 := by rw [← hw]; exact cmpW_zero.2 rfl
    rw [if_pos this, cmpT_left]
  · have hne : cmpV x y ≠ 0 := by rw [← hw]; exact fun hh => h (cmpW_zero.1 hh)
    rw [if_neg hne, cmpT_apart p q (fun hh => h (keys_begin hx hy ox oy hh)) (fun hh => h (keys_begin hy hx oy ox hh).symm), keys_stand hx hy ox oy, hw]
theorem cmp_be2 : ∀ {a b : Lb} (p q : List UInt8), a.length = b.length → cmpT (a.flatMap be2 ++ p) (b.flatMap be2 ++ q) = if cmpG a b = 0 then cmpT p q else cmpG a b
  | [], [], p, q, _ => by simp [cmpG]
  | [], _ :: _, p, q, h => by simp at h
  | _ :: _, [], p, q, h => by simp at h
  | a :: l, b :: m, p, q, h => by
    have ih := cmp_be2 (a := l) (b := m) p q (by simpa using h)
    have ha := a.toNat_lt; have hb := b.toNat_lt
    have e : ∀ (t : UInt16) (l : Lb) (r : List UInt8), (t :: l).flatMap be2 ++ r = UInt8.ofNat (t.toNat / 256) :: UInt8.ofNat t.toNat :: (l.flatMap be2 ++ r) := fun _ _ _ => rfl
    rw [e, e]
    simp only [cmpT, UInt8.toNat_ofNat']
    by_cases h1 : a.toNat < b.toNat
    · have hv : cmpG (a :: l) (b :: m) = -1 := by rw [cmpG, if_pos h1]
      rw [hv, if_neg (show ¬ ((-1 : Int) = 0) by decide)]
      by_cases h2 : a.toNat / 256 % 2 ^ 8 < b.toNat / 256 % 2 ^ 8
      · rw [if_pos h2]
      · rw [if_neg h2, if_neg (by omega), if_pos (by omega)]
    · by_cases h3 : b.toNat < a.toNat
      · have hv : cmpG (a :: l) (b :: m) = 1 := by rw [cmpG, if_neg h1, if_pos h3]
        rw [hv, if_neg (show ¬ ((1 : Int) = 0) by decide)]
        by_cases h2 : b.toNat / 256 % 2 ^ 8 < a.toNat / 256 % 2 ^ 8
        · rw [if_neg (by omega), if_pos h2]
        · rw [if_neg (by omega), if_neg (by omega), if_neg (by omega), if_pos (by omega)]
      · have hv : cmpG (a :: l) (b :: m) = cmpG l m := by rw [cmpG, if_neg h1, if_neg h3]
        rw [hv, if_neg (by omega), if_neg (by omega), if_neg (by omega), if_neg (by omega), ih]
theorem cmp_labels {a b : Lb} (ha : a.length ≤ 255) (hb : b.length ≤ 255) (p q : List UInt8) : cmpT (labB a ++ p) (labB b ++ q) = if cmpL a b = 0 then cmpT p q else cmpL a b := by
  have e : ∀ (l : Lb) (r : List UInt8), labB l ++ r = UInt8.ofNat l.length :: (l.flatMap be2 ++ r) := fun _ _ => rfl
  rw [e, e]
  simp only [cmpT, UInt8.toNat_ofNat']
  by_cases h1 : a.length < b.length
  · have hv : cmpL a b = -1 := by rw [cmpL, if_pos h1]
    rw [hv, if_pos (by omega), if_neg (by decide)]
  · by_cases h2 : b.length < a.length
    · have hv : cmpL a b = 1 := by rw [cmpL, if_neg h1, if_pos h2]
      rw [hv, if_neg (by omega), if_pos (by omega), if_neg (by decide)]
    · have hv : cmpL a b = cmpG a b := by rw [cmpL, if_neg h1, if_neg h2]
      rw [hv, if_neg (by omega), if_neg (by omega), cmp_be2 p q (by omega)]
def wantX (x y : Vl) (a b : Lb) (i k : Nat) : Int := if cmpV x y ≠ 0 then cmpV x y else if cmpL a b ≠ 0 then cmpL a b else cmpI i k
theorem cmp_index {x y : Vl} {a b : Lb} {i k : Nat} (hx : mayV x = true) (hy : mayV y = true) (ox : OkV x) (oy : OkV y) (ha : mayL a = true) (hb : mayL b = true) (hi : i < 18446744073709551616) (hk : k < 18446744073709551616) :
    cmpT (keyX x a i) (keyX y b k) = wantX x y a b i k := by
  have e : ∀ x l n, keyX x l n = keyV x ++ (labB l ++ be8 n) := fun x l n => by simp only [keyX, List.append_assoc]
  rw [e, e, cmp_keys hx hy ox oy, wantX]
  by_cases h1 : cmpV x y = 0
  · rw [if_pos h1, if_neg (fun h => h h1), cmp_labels (by have := mayL_len ha; omega) (by have := mayL_len hb; omega)]
    by_cases h2 : cmpL a b = 0
    · rw [if_pos h2, if_neg (fun h => h h2), cmpT_be8 hi hk]
    · rw [if_neg h2, if_pos h2]
  · rw [if_neg h1, if_pos h1]
theorem keyX_take (x : Vl) (l : Lb) (n : Nat) : (keyX x l n).take (keyV x).length = keyV x := by
  simp only [keyX, List.append_assoc]; exact List.take_left
theorem prefix_of_take {a b : List UInt8} (h : b.take a.length = a) : a <+: b := by
  have h2 := List.take_prefix a.length b
  rwa [h] at h2
theorem begins_iff {x y : Vl} (hx : mayV x = true) (hy : mayV y = true) (ox : OkV x) (oy : OkV y) (l : Lb) (n : Nat) : (keyX y l n).take (keyV x).length = keyV x ↔ x = y := by
  constructor
  · intro h
    have h1 : keyV x <+: keyX y l n := prefix_of_take h
    have h2 : keyV y <+: keyX y l n := ⟨labB l ++ be8 n, by simp only [keyX, List.append_assoc]⟩
    rcases List.prefix_or_prefix_of_prefix h1 h2 with h | h
    · exact keys_begin hx hy ox oy h
    · exact (keys_begin hy hx oy ox h).symm
  · rintro rfl; exact keyX_take x l n
end Go.Proofs.Ytcpfdfejojghbaa

namespace Go.Proofs.Ytcpfdfejojghbaa
open Go.Gx Go.RowKit
attribute [local irreducible] wpList wpStill Code.wp Calls

theorem begun16_ret (w : World) : Ret Try.prog 35 #[] w (fun v' w' => Below w.heap.size w w' ∧ v' = .bool true) := by
 have hb := Below.refl w.heap.size w
 refine enter (N := 45) Try.func35 rfl rfl (by simp) fun a0 hN hd hA => ?_
 clear hA
 refine seq_any fun K2 hK2 => ?_
 refine one_reg (op_assign rfl (reg_nil (hK2 _ _ (seq_any fun K3 hK3 => one_reg (op_build (pv := [(0, (Value.int .i64 2)), (2, (Value.string (bs [97])))]) (v := (Value.agg #[(Value.int .i64 2), (Value.int .i64 0), (Value.string (bs [97]))])) ⟨rfl, rfl, ⟨rfl, rfl, trivial⟩⟩ (by kernel_rfl) ?_)))))
 refine op_alloc (cs := [(Value.int .i64 0), (Value.int .i64 0), (Value.string (bs []))]) zero74 rfl ?_
 intro w4 b5 lo_b5 hi_b5 hB7 E6
 have z_w4 := E6.size
 have hb := below_step0 hb E6 hb.size
 refine op_store (vs := [(Value.int .i64 2), (Value.int .i64 0), (Value.string (bs [97]))]) (cs' := [(Value.int .i64 2), (Value.int .i64 0), (Value.string (bs [97]))]) size74 (ev_hit hN rfl) (ev_hit hN rfl) rfl rfl rfl hB7 (Nat.le_of_ble_eq_true rfl) rfl ?_
 intro w9 hB7 E10
 have z_w9 := E10.size
 have hb := below_step1 hb E10 hb.size (by omega)
 refine reg_nil (hK3 _ _ (seq_any fun K11 hK11 => one_reg (op_loadA (cs := [(Value.int .i64 2), (Value.int .i64 0), (Value.string (bs [97]))]) agg74 rfl (ev_hit hN rfl) (fun j u hu => by rw [Nat.zero_add]; exact hB7.cell hu) ?_)))
 refine op_bslice (e := 37) (pv := [(0, (Value.int .u16 1))]) (cs := [(Value.int .u16 1)]) ⟨rfl, rfl, trivial⟩ (by kernel_rfl) ?_
 intro w12 b13 lo_b13 hi_b13 hB15 E14
 have z_w12 := E14.size
 have hB7 := hB7.keep0 E14
 have hb := below_step0 hb E14 hb.size
 refine op_fn (vs := [(Value.agg #[(Value.int .i64 2), (Value.int .i64 0), (Value.string (bs [97]))]), (Value.slice (some ⟨b13, 0, none⟩) 1 1), (Value.int .u64 9)]) ok36 ⟨(ev_hit hN rfl), ⟨(ev_hit hN rfl), ⟨rfl, trivial⟩⟩⟩ (IKey_ret ⟨2, 0, [97]⟩ [1] 9 _ _ (by first | assumption | omega | (simp only [List.length_append, List.length_cons, List.length_nil, List.length_drop, List.length_take]; omega) | (dsimp only; omega) | decide | (simp [keyV, be8_len]; done)) (by first | assumption | omega | (simp only [List.length_append, List.length_cons, List.length_nil, List.length_drop, List.length_take]; omega) | (dsimp only; omega) | decide | (simp [keyV, be8_len]; done)) (by first | assumption | omega | (simp only [List.length_append, List.length_cons, List.length_nil, List.length_drop, List.length_take]; omega) | (dsimp only; omega) | decide | (simp [keyV, be8_len]; done)) (by first | assumption | omega | (simp only [List.length_append, List.length_cons, List.length_nil, List.length_drop, List.length_take]; omega) | (dsimp only; omega) | decide | (simp [keyV, be8_len]; done)) (show RdC w12 0 w12.heap.size 1 (Value.slice (some ⟨b13, 0, none⟩) 1 1) [1].length ([1].map u16v) from by have hh : RdC w12 0 w12.heap.size 1 _ _ _ := ((RdC.ofBx (sz := 1) (n := 1) hB15 rfl (by decide)).mono (L' := 0) (B' := w12.heap.size) (Nat.zero_le _) (by have := hB15.lt; omega)); first | exact hh | exact hh.cast (by first | omega | (simp; try omega)) (by first | rfl | simp [u16v]))) ?_
 rintro v17 w18 ⟨E19, hO17⟩
 have E19 := grown_of_below E19
 have z_w18 := E19.size
 have hB7 := hB7.keep0 E19
 have hb := below_step0 hb E19 hb.size
 have hO17 := hO17.mono (base' := w12.heap.size) (by omega)
 refine op_assign (ev_hit hN rfl) (reg_nil (hK11 _ _ (seq_any fun K21 hK21 => one_reg (op_move (ev_hit hN rfl) ?_))))
 have hq22 : RdC w18 0 w18.heap.size 1 v17 (keyX ⟨2, 0, [97]⟩ [1] 9).length ((keyX ⟨2, 0, [97]⟩ [1] 9).map u8v) := by have hh : RdC w18 0 w18.heap.size 1 _ _ _ := (hO17.rdw.mono (L' := 0) (B' := w18.heap.size) (Nat.zero_le _) (by omega)); first | simpa using hh | simpa [Nat.add_comm, Nat.add_left_comm, Nat.add_assoc] using hh | exact hh.cast (by first | rfl | (simp; try omega)) (by first | rfl | (simp; done) | simp [u8v])
 refine op_fn (vs := [v17]) ok38 ⟨(ev_hit hN rfl), trivial⟩ (IXTake_ret (keyX ⟨2, 0, [97]⟩ [1] 9) v17 _ (by first | assumption | omega | (simp only [List.length_append, List.length_cons, List.length_nil, List.length_drop, List.length_take]; omega) | (dsimp only; omega) | decide | (simp [keyV, be8_len]; done)) hq22) ?_
 rintro _ w25 ⟨E26, u24, rfl, hO24⟩
 have E26 := grown_of_below E26
 have z_w25 := E26.size
 have hB7 := hB7.keep0 E26
 have hO17 := hO17.keep0 E26
 have hb := below_step0 hb E26 hb.size
 have hO24 := hO24.mono (base' := w18.heap.size) (by omega)
 refine op_move (ev_hit hN rfl) (op_extract (ev_hit hN rfl) rfl ?_)
 refine op_extract (ev_hit hN rfl) rfl ?_
 refine op_extract (ev_hit hN rfl) rfl ?_
 refine op_extract (ev_hit hN rfl) rfl ?_
 refine op_alloc (cs := [(Value.int .i64 0), (Value.int .i64 0), (Value.string (bs []))]) zero74 rfl ?_
 intro w27 b29 lo_b29 hi_b29 hB31 E30
 have z_w27 := E30.size
 have hB7 := hB7.keep0 E30
 have hO17 := hO17.keep0 E30
 have hO24 := hO24.keep0 E30
 have hb := below_step0 hb E30 hb.size
 have hB31_old := hB31
 refine op_store (vs := [(Value.int .i64 (takeX (keyX ⟨2, 0, [97]⟩ [1] 9)).1.k), (Value.int .i64 (takeX (keyX ⟨2, 0, [97]⟩ [1] 9)).1.n), (Value.string (bs (takeX (keyX ⟨2, 0, [97]⟩ [1] 9)).1.s))]) (cs' := [(Value.int .i64 (takeX (keyX ⟨2, 0, [97]⟩ [1] 9)).1.k), (Value.int .i64 (takeX (keyX ⟨2, 0, [97]⟩ [1] 9)).1.n), (Value.string (bs (takeX (keyX ⟨2, 0, [97]⟩ [1] 9)).1.s))]) size74 (ev_hit hN rfl) (ev_hit hN rfl) rfl rfl rfl hB31 (Nat.le_of_ble_eq_true rfl) rfl ?_
 intro w32 hB31 E34
 have z_w32 := E34.size
 have hB7 := hB7.keep E34 (by simp; omega)
 have hO17 := hO17.keepX hB31_old E34 (by decide)
 have hO24 := hO24.keepX hB31_old E34 (by decide)
 have hb := below_step1 hb E34 hb.size (by omega)
 refine op_assign (ev_hit hN rfl) (op_assign (ev_hit hN rfl) ?_)
 refine op_assign (ev_hit hN rfl) (reg_nil (hK21 _ _ (seq_any fun K35 hK35 => one_reg (op_move (ev_hit hN rfl) (op_len_rd Try.underlying27 (ev_hit hN rfl) hO17.rdw ?_)))))
 refine op_eql (ev_hit hN rfl) rfl (fun c20 => ?_) (fun c20 => ?_)
 ·
  refine op_move (ev_hit hN rfl) (g_true (j := 3) (dj := 21) (b := true) rfl rfl rfl (ev_hit hN rfl) (op_move (ev_hit hN rfl) (g_true (j := 3) (dj := 21) (b := true) rfl rfl rfl (ev_hit hN rfl) (op_eql (ev_hit hN rfl) rfl (fun c23 => ?_) (fun c23 => ?_)))))
  ·
   refine op_pick_t (ev_hit hN rfl) (ev_hit hN rfl) ?_
   refine op_move (ev_hit hN rfl) (g_true (j := 7) (dj := 25) (b := true) rfl rfl rfl (ev_hit hN rfl) (op_loadA (cs := [(Value.int .i64 (takeX (keyX ⟨2, 0, [97]⟩ [1] 9)).1.k), (Value.int .i64 (takeX (keyX ⟨2, 0, [97]⟩ [1] 9)).1.n), (Value.string (bs (takeX (keyX ⟨2, 0, [97]⟩ [1] 9)).1.s))]) agg74 rfl (ev_hit hN rfl) (fun j u hu => by rw [Nat.zero_add]; exact hB31.cell hu) ?_))
   refine g_true (j := 7) (dj := 25) (b := true) rfl rfl rfl (ev_hit hN rfl) (op_loadA (cs := [(Value.int .i64 2), (Value.int .i64 0), (Value.string (bs [97]))]) agg74 rfl (ev_hit hN rfl) (fun j u hu => by rw [Nat.zero_add]; exact hB7.cell hu) ?_)
   refine g_true (j := 7) (dj := 25) (b := true) rfl rfl rfl (ev_hit hN rfl) ?_
   by_cases c28 : (takeX (keyX ⟨2, 0, [97]⟩ [1] 9)).1.k = 2 ∧ (takeX (keyX ⟨2, 0, [97]⟩ [1] 9)).1.n = 0 ∧ (takeX (keyX ⟨2, 0, [97]⟩ [1] 9)).1.s = [97]
   ·
    refine op_aeql (xs := [(Value.int .i64 (takeX (keyX ⟨2, 0, [97]⟩ [1] 9)).1.k), (Value.int .i64 (takeX (keyX ⟨2, 0, [97]⟩ [1] 9)).1.n), (Value.string (bs (takeX (keyX ⟨2, 0, [97]⟩ [1] 9)).1.s))]) (ys := [(Value.int .i64 2), (Value.int .i64 0), (Value.string (bs [97]))]) (b' := true) (ev_hit hN rfl) (ev_hit hN rfl) (eq74 (takeX (keyX ⟨2, 0, [97]⟩ [1] 9)).1.k 2 (takeX (keyX ⟨2, 0, [97]⟩ [1] 9)).1.n 0 (takeX (keyX ⟨2, 0, [97]⟩ [1] 9)).1.s [97]) (decide_eq_true c28) ?_
    refine op_pick_t (ev_hit hN rfl) (ev_hit hN rfl) ?_
    refine op_move (ev_hit hN rfl) (g_true (j := 12) (dj := 30) (b := true) rfl rfl rfl (ev_hit hN rfl) (op_move (ev_hit hN rfl) (g_true (j := 12) (dj := 30) (b := true) rfl rfl rfl (ev_hit hN rfl) (op_len_rd Try.underlying76 (ev_hit hN rfl) hO24.rdw ?_))))
    refine g_true (j := 12) (dj := 30) (b := true) rfl rfl rfl (ev_hit hN rfl) (op_eql (ev_hit hN rfl) rfl (fun c33 => ?_) (fun c33 => ?_))
    ·
     refine op_pick_t (ev_hit hN rfl) (ev_hit hN rfl) ?_
     refine op_move (ev_hit hN rfl) (g_true (j := 17) (dj := 35) (b := true) rfl rfl rfl (ev_hit hN rfl) (op_move (ev_hit hN rfl) (g_true (j := 17) (dj := 35) (b := true) rfl rfl rfl (ev_hit hN rfl) (op_eql (ev_hit hN rfl) rfl (fun c37 => ?_) (fun c37 => ?_)))))
     ·
      refine op_pick_t (ev_hit hN rfl) (ev_hit hN rfl) ?_
      refine op_move (ev_hit hN rfl) (g_true (j := 21) (dj := 39) (b := true) rfl rfl rfl (ev_hit hN rfl) (op_loadA (cs := [(Value.int .i64 2), (Value.int .i64 0), (Value.string (bs [97]))]) agg74 rfl (ev_hit hN rfl) (fun j u hu => by rw [Nat.zero_add]; exact hB7.cell hu) ?_))
      refine g_true (j := 21) (dj := 39) (b := true) rfl rfl rfl (ev_hit hN rfl) (op_fn (vs := [(Value.agg #[(Value.int .i64 2), (Value.int .i64 0), (Value.string (bs [97]))])]) ok37 ⟨(ev_hit hN rfl), trivial⟩ (From_ret ⟨2, 0, [97]⟩ _ (by first | assumption | omega | (simp only [List.length_append, List.length_cons, List.length_nil, List.length_drop, List.length_take]; omega) | (dsimp only; omega) | decide | (simp [keyV, be8_len]; done)) (by first | assumption | omega | (simp only [List.length_append, List.length_cons, List.length_nil, List.length_drop, List.length_take]; omega) | (dsimp only; omega) | decide | (simp [keyV, be8_len]; done))) ?_)
      rintro v39 w40 ⟨E41, hO39⟩
      have E41 := grown_of_below E41
      have z_w40 := E41.size
      have hb := below_step0 hb E41 hb.size
      have hO39 := hO39.mono (base' := w32.heap.size) (by omega)
      refine g_true (j := 21) (dj := 39) (b := true) rfl rfl rfl (ev_hit hN rfl) (op_str_of (bl := (keyV ⟨2, 0, [97]⟩)) Try.underlying27 Try.underlying5 Try.underlying9 (ev_hit hN rfl) hO39.rdw ?_)
      refine g_true (j := 21) (dj := 39) (b := true) rfl rfl rfl (ev_hit hN rfl) (op_seql (ev_hit hN rfl) rfl (fun c43 => ?_) (fun c43 => ?_))
      ·
       refine op_pick_t (ev_hit hN rfl) (ev_hit hN rfl) ?_
       refine op_assign (ev_hit hN rfl) (reg_nil (hK35 _ _ (wp_ret ?_)))
       refine ret1 rfl hd (ev_hit hN rfl) ⟨_, rfl, ?_⟩
       exact ⟨hb, rfl⟩
      ·
       exact absurd (by decide +kernel) c43
     ·
      exact absurd (by decide +kernel) c37
    ·
     exact absurd (by decide +kernel) c33
   ·
    exact absurd (by decide +kernel) c28
  ·
   exact absurd (by decide +kernel) c23
 ·
  exact absurd (by decide +kernel) c20

end Go.Proofs.Ytcpfdfejojghbaa

namespace Go.Bt
section
variable {V : Type} {L : List (List Nat)} {n d m i j : Nat} {M : List (Ky × V)} {v : V}
def k2 (k : Nat) : Ky := [UInt8.ofNat (k / 256), UInt8.ofNat k]
end
end Go.Bt
namespace Go.Bt
section
variable {M N : List (Ky × Int)} {i n kk : Nat} {f g : Nat → UInt16}
theorem put_len (H : SortedL M) {k : Ky} {v : Int} (h : M.length ≤ i) : (putL k v M).length ≤ i + 1 := by
  rw [putL_len H]; split <;> omega
end
end Go.Bt
namespace Go.Gx
open Go.Bt
end Go.Gx
namespace Go.Bt
section
variable {M : List (Ky × Int)} {D : List (Ky × Int)} {i n s : Nat} {k : Ky}
end
end Go.Bt
namespace Go.Gx
open Go.Bt
theorem d0_at {D : List (DP Int)} {M : List (Ky × Int)} {j : Nat} (h : D.map Prod.snd = M) (hj : j < M.length) : (D.getD j default).2 = M.getD j default := by
  subst h
  have hl : j < D.length := by simpa using hj
  rw [List.getD_eq_getElem?_getD, List.getD_eq_getElem?_getD, List.getElem?_map, List.getElem?_eq_getElem hl]
  rfl
end Go.Gx
namespace Go.Bt
end Go.Bt
namespace Go.Bt
section
variable {V W : Type} {M : List (Ky × V)} {N : List (Ky × W)} {x k : Ky} {v : V} {u : W} {l : List UInt16} {b : UInt8} {i n j : Nat}
def b8 (x : UInt16) : UInt8 := UInt8.ofNat x.toNat
end
end Go.Bt
namespace Go.Bt
section
variable {M : List (Ky × Int)} {k : Ky} {v : Int}
end
end Go.Bt

namespace Go.Proofs.Ytcpfdfejojghbaa
open Go.Gx Go.Bt
theorem pref_between {k a r : List UInt8} (h1 : k ≤ a) (h2 : a ≤ k ++ r) : k <+: a := by
  by_cases hk : k <+: a
  · exact hk
  exfalso
  by_cases ha : a <+: k
  · have h3 : a ≤ k := by
      obtain ⟨t, rfl⟩ := ha
      rcases Nat.lt_trichotomy 0 t.length with ht | ht | ht
      · have : cmpT (a ++ []) (a ++ t) = cmpT [] t := cmpT_left a [] t
        rw [List.append_nil] at this
        have h4 : cmpT a (a ++ t) < 0 := by rw [this]; cases t with | nil => simp at ht | cons x y => simp [cmpT]
        have := cmpT_lt.1 h4
        grind
      · have : t = [] := List.eq_nil_of_length_eq_zero ht.symm
        rw [this, List.append_nil]; grind
      · omega
    have : a = k := by grind
    exact hk (this ▸ List.prefix_refl _)
  have e1 := cmpT_apart r [] hk ha
  rw [List.append_nil] at e1
  have h3 : ¬ cmpT k a = 0 := fun h => hk ((cmpT_eq h) ▸ List.prefix_refl _)
  have h4 : ¬ cmpT k a > 0 := fun h => by
    have h5 : cmpT a k < 0 := by rw [cmpT_swap]; omega
    have := cmpT_lt.1 h5
    grind
  have h6 : cmpT (k ++ r) a < 0 := by rw [e1]; omega
  have := cmpT_lt.1 h6
  grind
theorem cnt_put {V : Type} {k : Ky} {v : V} {p : Ky × V → Bool} {M : List (Ky × V)} (h : ∀ q ∈ M, q.1 ≠ k) : (Go.Bt.putL k v M).countP p = M.countP p + if p (k, v) then 1 else 0 := by
  unfold Go.Bt.putL ltL gtL
  rw [List.countP_append, List.countP_cons, ← Nat.add_assoc]
  congr 1
  induction M with
  | nil => rfl
  | cons a t ih =>
    have ih := ih fun q hq => h q (List.mem_cons_of_mem _ hq)
    have ha := h a (List.mem_cons_self ..)
    simp only [List.filter_cons, List.countP_cons]
    by_cases h1 : a.1 < k
    · have h2 : ¬ k < a.1 := by grind
      simp only [h1, h2, decide_true, decide_false, if_true, List.countP_cons]
      simp; omega
    · have h2 : k < a.1 := by grind
      simp only [h1, h2, decide_true, decide_false, if_true, List.countP_cons]
      simp; omega
theorem pref_cnt {α : Type} {p : α → Bool} {d : α} : ∀ {G : List α}, G.Pairwise (fun a b => p b = true → p a = true) → ∀ i, i < G.length → (p (G.getD i d) = true ↔ i < G.countP p)
  | [], _, i, hi => absurd hi (Nat.not_lt_zero _)
  | a :: t, H, i, hi => by
    obtain ⟨h1, h2⟩ := List.pairwise_cons.1 H
    by_cases ha : p a = true
    · rw [List.countP_cons, if_pos ha]
      cases i with
      | zero => simp [ha]
      | succ m =>
        rw [List.getD_cons_succ, pref_cnt h2 m (by simpa using hi)]; omega
    · have h0 : ∀ b ∈ t, ¬ p b = true := fun b hb hp => ha (h1 b hb hp)
      have hc : (a :: t).countP p = 0 := List.countP_eq_zero.2 fun b hb => by
        rcases List.mem_cons.1 hb with rfl | hb
        · exact ha
        · exact h0 b hb
      rw [hc]
      refine ⟨fun h => ?_, fun h => absurd h (Nat.not_lt_zero _)⟩
      cases i with
      | zero => exact absurd h ha
      | succ m =>
        rw [List.getD_cons_succ] at h
        have hm : m < t.length := by simpa using hi
        rw [List.getD_eq_getElem?_getD, List.getElem?_eq_getElem hm] at h
        exact absurd h (h0 _ (List.getElem_mem hm))
def entX (X : Nat → Vl) (L : Nat → Lb) (j : Nat) : List UInt8 × Int := (keyX (X j) (L j) j, (j : Int))
def isV (X : Nat → Vl) (V : Vl) (q : List UInt8 × Int) : Bool := decide (X q.2.toNat = V)
structure InX (X : Nat → Vl) (L : Nat → Lb) (V : Vl) (i n : Nat) (M : List (List UInt8 × Int)) : Prop where
  mem : ∀ q ∈ M, ∃ j, j < i ∧ q = entX X L j
  cnt : M.countP (isV X V) = n
  len : M.length ≤ i
section
variable {X : Nat → Vl} {L : Nat → Lb} {V : Vl} {i n : Nat} {M : List (List UInt8 × Int)}
theorem InX.nil : InX X L V 0 0 [] := ⟨fun _ h => (by cases h), rfl, Nat.le_refl _⟩
theorem entX_inj (hX : ∀ j, mayV (X j) = true ∧ OkV (X j)) (hL : ∀ j, mayL (L j) = true) {a b : Nat} (ha : a < 18446744073709551616) (hb : b < 18446744073709551616) (h : keyX (X a) (L a) a = keyX (X b) (L b) b) : a = b := by
  have h1 := takeX_put0 (hX a).1 (hX a).2 (hL a) ha
  rw [h, takeX_put0 (hX b).1 (hX b).2 (hL b) hb] at h1
  exact (congrArg (fun t => t.2.2.1) h1).symm
theorem InX.put (H : InX X L V i n M) (hs : SortedL M) (hX : ∀ j, mayV (X j) = true ∧ OkV (X j)) (hL : ∀ j, mayL (L j) = true) (hi : i < 1000000) : InX X L V (i + 1) (n + if X i = V then 1 else 0) (Go.Bt.putL (keyX (X i) (L i) i) (i : Int) M) := by
  have hnew : ∀ q ∈ M, q.1 ≠ keyX (X i) (L i) i := fun q hq e => by
    obtain ⟨j, hj, rfl⟩ := H.mem q hq
    have := entX_inj hX hL (by omega) (by omega) e
    omega
  refine ⟨fun q hq => ?_, ?_, Go.Bt.put_len hs H.len⟩
  · rcases mem_putL.1 hq with rfl | ⟨_, hq⟩
    · exact ⟨i, by omega, rfl⟩
    · obtain ⟨j, hj, e⟩ := H.mem q hq; exact ⟨j, by omega, e⟩
  · rw [cnt_put hnew, H.cnt]
    congr 1
    simp [isV]
theorem isV_iff {j : Nat} : isV X V (entX X L j) = true ↔ X j = V := ⟨fun h => of_decide_eq_true (p := X j = V) h, fun h => decide_eq_true (p := X j = V) h⟩
theorem InX.ge {x : List UInt8} (H : InX X L V i n M) : ∀ q ∈ geL x M, ∃ j, j < i ∧ q = entX X L j ∧ x ≤ q.1 := fun q hq => by
  have h := List.mem_filter.1 hq
  obtain ⟨j, hj, e⟩ := H.mem q h.1
  exact ⟨j, hj, e, by simpa using h.2⟩
theorem has_key (hX : ∀ j, mayV (X j) = true ∧ OkV (X j)) (hV : mayV V = true ∧ OkV V) {j : Nat} : keyV V <+: keyX (X j) (L j) j ↔ X j = V := by
  constructor
  · intro h
    exact ((begins_iff hV.1 (hX j).1 hV.2 (hX j).2 (L j) j).1 (prefix_take h)).symm
  · intro h
    rw [h]
    exact ⟨labB (L j) ++ be8 j, by simp only [keyX, List.append_assoc]⟩
theorem InX.pair (H : InX X L V i n M) (hs : SortedL M) (hX : ∀ j, mayV (X j) = true ∧ OkV (X j)) (hV : mayV V = true ∧ OkV V) : (geL (keyV V) M).Pairwise (fun a b => isV X V b = true → isV X V a = true) := by
  have hs2 : SortedL (geL (keyV V) M) := sub_sorted _ hs
  have hp : (geL (keyV V) M).Pairwise (fun a b => a.1 < b.1) := List.pairwise_map.1 hs2
  refine hp.imp_of_mem fun {a b} ha hb hab hv => ?_
  obtain ⟨ja, _, rfl, h1⟩ := H.ge a ha
  obtain ⟨jb, _, rfl, _⟩ := H.ge b hb
  have e : X jb = V := isV_iff.1 hv
  obtain ⟨r, hr⟩ := (has_key (L := L) hX hV).2 e
  have hab : keyX (X ja) (L ja) ja < keyX (X jb) (L jb) jb := hab
  rw [← hr] at hab
  have hle : keyX (X ja) (L ja) ja ≤ keyV V ++ r := fun h9 => List.lt_asymm hab h9
  exact isV_iff.2 ((has_key (L := L) hX hV).1 (pref_between h1 hle))
theorem InX.cntG (H : InX X L V i n M) (hX : ∀ j, mayV (X j) = true ∧ OkV (X j)) (hV : mayV V = true ∧ OkV V) : (geL (keyV V) M).countP (isV X V) = n := by
  rw [← H.cnt, geL, List.countP_filter]
  refine List.countP_congr fun q hq => ?_
  obtain ⟨j, _, rfl⟩ := H.mem q hq
  simp only [Bool.and_eq_true, decide_eq_true_eq]
  refine ⟨fun h => h.1, fun h => ⟨h, ?_⟩⟩
  have e : X j = V := isV_iff.1 h
  obtain ⟨r, hr⟩ := (has_key (L := L) hX hV).2 e
  show keyV V ≤ keyX (X j) (L j) j
  rw [← hr]
  by_cases hr0 : r = []
  · rw [hr0, List.append_nil]; grind
  · have : cmpT (keyV V ++ []) (keyV V ++ r) = cmpT [] r := cmpT_left _ _ _
    rw [List.append_nil] at this
    have h4 : cmpT (keyV V) (keyV V ++ r) < 0 := by rw [this]; cases r with | nil => exact absurd rfl hr0 | cons x y => simp [cmpT]
    have := cmpT_lt.1 h4
    grind
theorem InX.at (H : InX X L V i n M) (hs : SortedL M) (hX : ∀ j, mayV (X j) = true ∧ OkV (X j)) (hV : mayV V = true ∧ OkV V) {m : Nat} (hm : m < (geL (keyV V) M).length) :
    ∃ j, j < i ∧ (geL (keyV V) M).getD m default = entX X L j ∧ (X j = V ↔ m < n) := by
  have hmem : (geL (keyV V) M).getD m default ∈ geL (keyV V) M := getD_mem9 hm
  obtain ⟨j, hj, e, _⟩ := H.ge _ hmem
  refine ⟨j, hj, e, ?_⟩
  have := pref_cnt (d := default) (H.pair hs hX hV) m hm
  rw [H.cntG hX hV, e] at this
  rw [← this]
  exact isV_iff.symm
theorem InX.le (H : InX X L V i n M) (hX : ∀ j, mayV (X j) = true ∧ OkV (X j)) (hV : mayV V = true ∧ OkV V) : n ≤ (geL (keyV V) M).length := by rw [← H.cntG hX hV]; exact List.countP_le_length
theorem cmpV_refl (x : Vl) : cmpV x x = 0 := by simp [cmpV, cmpI, cmpT_refl]
theorem InX.next (hs : SortedL M) (hX : ∀ j, mayV (X j) = true ∧ OkV (X j)) (hL : ∀ j, mayL (L j) = true) {m a b : Nat} (hm : m + 1 < (geL (keyV V) M).length) (ha : (geL (keyV V) M).getD m default = entX X L a) (hb : (geL (keyV V) M).getD (m + 1) default = entX X L b)
    (ea : X a = V) (eb : X b = V) (la : a < 1000000) (lb : b < 1000000) : ¬ 0 < cmpL (L a) (L b) ∧ (cmpL (L a) (L b) = 0 → a < b) := by
  have hs2 : SortedL (geL (keyV V) M) := sub_sorted _ hs
  have hp : (geL (keyV V) M).Pairwise (fun a b => a.1 < b.1) := List.pairwise_map.1 hs2
  have h := List.pairwise_iff_getElem.1 hp m (m + 1) (by omega) hm (by omega)
  rw [List.getD_eq_getElem?_getD, List.getElem?_eq_getElem (by omega)] at ha hb
  have ha : (geL (keyV V) M)[m] = entX X L a := ha
  have hb : (geL (keyV V) M)[m + 1] = entX X L b := hb
  rw [ha, hb] at h
  have h : keyX (X a) (L a) a < keyX (X b) (L b) b := h
  have h2 := cmpT_lt.2 h
  rw [cmp_index (hX a).1 (hX b).1 (hX a).2 (hX b).2 (hL a) (hL b) (by omega) (by omega), wantX, ea, eb, cmpV_refl] at h2
  simp only [ne_eq, not_true_eq_false, if_false] at h2
  by_cases hc : cmpL (L a) (L b) = 0
  · rw [if_neg (fun q => q hc)] at h2
    refine ⟨by omega, fun _ => ?_⟩
    unfold cmpI at h2
    by_cases hab : (a : Int) < (b : Int)
    · omega
    · rw [if_neg hab] at h2; split at h2 <;> omega
  · rw [if_pos hc] at h2
    exact ⟨by omega, fun q => absurd q hc⟩
end
/-! the law's six values and four labels -/
def W6 : List Vl := [⟨1, 0, []⟩, ⟨1, -1, []⟩, ⟨1, 1099511627776, []⟩, ⟨2, 0, []⟩, ⟨2, 0, [97]⟩, ⟨2, 0, [97, 98]⟩]
def labs4 : List Lb := [[], [1], [2], [1, 2]]
def gnum (c : List UInt8) (j : Nat) : Nat := if j < c.length then (c.getD j 0).toNat % 4 else 0
def XW (b : List UInt8) (j : Nat) : Vl := W6.getD ((b.getD j 0).toNat % 6) V0
def LW (c : List UInt8) (j : Nat) : Lb := labs4.getD (gnum c j) []
theorem W6_len : W6.length = 6 := rfl
theorem W6_may {m : Nat} (h : m < 6) : mayV (W6.getD m V0) = true ∧ OkV (W6.getD m V0) := by
  have h2 : ∀ m, m < 6 → mayV (W6.getD m V0) = true := by decide +kernel
  refine ⟨h2 m h, ?_⟩
  unfold OkV
  match m, h with
  | 0, _ => decide
  | 1, _ => decide
  | 2, _ => decide
  | 3, _ => decide
  | 4, _ => decide
  | 5, _ => decide
theorem XW_ok (b : List UInt8) (j : Nat) : mayV (XW b j) = true ∧ OkV (XW b j) := W6_may (Nat.mod_lt _ (by decide))
theorem gnum_lt (c : List UInt8) (j : Nat) : gnum c j < 4 := by unfold gnum; split <;> omega
theorem LW_may (c : List UInt8) (j : Nat) : mayL (LW c j) = true := by
  have h := gnum_lt c j
  have h2 : ∀ m, m < 4 → mayL (labs4.getD m []) = true := by decide +kernel
  exact h2 _ h
theorem vals_mk {w : World} {b B : Nat} (h : Bx w b 74 (W6.flatMap cellsV)) (hB : b < B) : RdC w 0 B 3 (.slice (some ⟨b, 0, none⟩) 6 6) W6.length (W6.flatMap cellsV) :=
  (RdC.ofBx (n := 6) (sz := 3) h rfl (by decide)).mono (Nat.zero_le _) (by omega)
theorem labs_mk {w : World} {b1 b2 b3 b4 B : Nat} (h1 : Bx w b1 37 [.int .u16 1]) (h2 : Bx w b2 37 [.int .u16 2]) (h3 : Bx w b3 37 [.int .u16 1, .int .u16 2])
    (h4 : Bx w b4 76 [.slice none 0 0, .slice (some ⟨b1, 0, none⟩) 1 1, .slice (some ⟨b2, 0, none⟩) 1 1, .slice (some ⟨b3, 0, none⟩) 2 2]) (g1 : b1 < B) (g2 : b2 < B) (g3 : b3 < B) (g4 : b4 < B) :
    ∃ LV : List (Value × Lb), LV.map Prod.snd = labs4 ∧ LV.length = 4 ∧ RdC w 0 B 1 (.slice (some ⟨b4, 0, none⟩) 4 4) LV.length (LV.flatMap fun x9 => [x9.1]) ∧ ∀ x9 ∈ LV, RdC w 0 B 1 x9.1 x9.2.length (x9.2.map u16v) := by
  refine ⟨[(.slice none 0 0, []), (.slice (some ⟨b1, 0, none⟩) 1 1, [1]), (.slice (some ⟨b2, 0, none⟩) 1 1, [2]), (.slice (some ⟨b3, 0, none⟩) 2 2, [1, 2])], rfl, rfl, (RdC.ofBx (n := 4) (sz := 1) h4 rfl (by decide)).mono (Nat.zero_le _) (by omega), ?_⟩
  intro x9 hx
  simp only [List.mem_cons, List.not_mem_nil, or_false] at hx
  rcases hx with rfl | rfl | rfl | rfl
  · exact RdC.nil _ _ _ _
  · exact (RdC.ofBx (n := 1) (sz := 1) h1 rfl (by decide)).mono (Nat.zero_le _) (by omega)
  · exact (RdC.ofBx (n := 1) (sz := 1) h2 rfl (by decide)).mono (Nat.zero_le _) (by omega)
  · exact (RdC.ofBx (n := 2) (sz := 1) h3 rfl (by decide)).mono (Nat.zero_le _) (by omega)
theorem vl_iff {x y : Vl} : (x.k = y.k ∧ x.n = y.n ∧ x.s = y.s) ↔ x = y := ⟨fun ⟨a, b, c⟩ => by cases x; cases y; simp only at a b c; subst a; subst b; subst c; rfl, fun h => by rw [h]; exact ⟨rfl, rfl, rfl⟩⟩
theorem entX_short {b c : List UInt8} {j : Nat} : (entX (XW b) (LW c) j).1.length ≤ 1000000000 := by
  show (keyX (XW b j) (LW c j) j).length ≤ _
  have h1 := keyV_le (XW b j)
  have h2 := may_len (XW_ok b j).1
  have h3 := mayL_len (LW_may c j)
  rw [keyX_len]; omega
end Go.Proofs.Ytcpfdfejojghbaa

namespace Go.Gx
open Go.Bt Go.RowKit
section
variable {w w' : World} {p q base n : Nat} {M : List (Ky × Int)} {o : TO Int} {R R' F H W : Nat → Prop}
theorem low_step {n : Nat} (hb : base ≤ n) (hF : ∀ k, F k → base ≤ k) (hN : NewF n F H) : ∀ k, H k → base ≤ k := fun k hk => (hN k hk).elim (hF k) (fun h => Nat.le_trans hb h)
end
end Go.Gx
