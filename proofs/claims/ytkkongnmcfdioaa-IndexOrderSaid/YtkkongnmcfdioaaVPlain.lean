/- Values' keys and order, plainly: keys stand as values do, are read again, and are the same however they are told. -/
import Derived.Test.YtkkongnmcfdioaaVSpec
namespace Go.Proofs.Ytkkongnmcfdioaa
open Go.Gx
theorem cmpI_val (m n : Int) : cmpI m n = -1 ∨ cmpI m n = 0 ∨ cmpI m n = 1 := by simp only [cmpI]; (repeat' split) <;> omega
theorem cmpI_eq {m n : Int} : cmpI m n = 0 ↔ m = n := by simp only [cmpI]; (repeat' split) <;> omega
theorem cmpI_lt {m n : Int} : cmpI m n = -1 ↔ m < n := by simp only [cmpI]; (repeat' split) <;> omega
theorem cmpI_swap (m n : Int) : cmpI n m = - cmpI m n := by simp only [cmpI]; (repeat' split) <;> omega
theorem cmpT_be : ∀ (l1 l2 : List UInt8) (x y : Nat), l1.length = l2.length →
    (x < y → l1.foldl (fun x c => x * 256 + c.toNat) x < l2.foldl (fun x c => x * 256 + c.toNat) y) ∧ (y < x → l2.foldl (fun x c => x * 256 + c.toNat) y < l1.foldl (fun x c => x * 256 + c.toNat) x) ∧ (x = y → cmpT l1 l2 = cmpI (l1.foldl (fun x c => x * 256 + c.toNat) x : Nat) (l2.foldl (fun x c => x * 256 + c.toNat) y : Nat))
  | [], [], x, y, _ => ⟨fun h => h, fun h => h, fun h => by subst h; simp [cmpT, cmpI]⟩
  | [], _ :: _, _, _, h => by simp at h
  | _ :: _, [], _, _, h => by simp at h
  | a :: l1, b :: l2, x, y, h => by
    have ha := a.toNat_lt
    have hb := b.toNat_lt
    have ih := cmpT_be l1 l2 (x * 256 + a.toNat) (y * 256 + b.toNat) (by simpa using h)
    refine ⟨fun hxy => ih.1 (by omega), fun hxy => ih.2.1 (by omega), fun hxy => ?_⟩
    subst hxy
    simp only [cmpT, List.foldl_cons]
    by_cases h1 : a.toNat < b.toNat
    · rw [if_pos h1]
      have := ih.1 (by omega)
      exact (cmpI_lt.2 (by omega)).symm
    · rw [if_neg h1]
      by_cases h2 : b.toNat < a.toNat
      · rw [if_pos h2]
        have := ih.2.1 (by omega)
        have h3 := cmpI_swap (l2.foldl (fun x c => x * 256 + c.toNat) (x * 256 + b.toNat) : Nat) (l1.foldl (fun x c => x * 256 + c.toNat) (x * 256 + a.toNat) : Nat)
        rw [h3, cmpI_lt.2 (by omega)]; rfl
      · rw [if_neg h2]
        exact ih.2.2 (by omega)
theorem cmpT_ofBe {l1 l2 : List UInt8} (h : l1.length = l2.length) : cmpT l1 l2 = cmpI (ofBe l1 : Nat) (ofBe l2 : Nat) := (cmpT_be l1 l2 0 0 h).2.2 rfl
theorem ofBe_be8 {m : Nat} (h : m < 18446744073709551616) : ofBe (be8 m) = m := by
  have e : be8 m = [UInt8.ofNat (m / 2 ^ 56), UInt8.ofNat (m / 2 ^ 48), UInt8.ofNat (m / 2 ^ 40), UInt8.ofNat (m / 2 ^ 32), UInt8.ofNat (m / 2 ^ 24), UInt8.ofNat (m / 2 ^ 16), UInt8.ofNat (m / 2 ^ 8), UInt8.ofNat (m / 2 ^ 0)] := rfl
  rw [e]
  simp only [ofBe, List.foldl_cons, List.foldl_nil, UInt8.toNat_ofNat']
  omega
theorem cmpT_be8 {m n : Nat} (hm : m < 18446744073709551616) (hn : n < 18446744073709551616) : cmpT (be8 m) (be8 n) = cmpI (m : Int) (n : Int) := by
  rw [cmpT_ofBe (by rw [be8_len, be8_len]), ofBe_be8 hm, ofBe_be8 hn]
/-- A value whose parts fit. -/
def OkV (x : Vl) : Prop := (-9223372036854775808 ≤ x.k ∧ x.k ≤ 9223372036854775807) ∧ (-9223372036854775808 ≤ x.n ∧ x.n ≤ 9223372036854775807) ∧ x.s.length ≤ 9223372036854775807
theorem cmpT_cons {a : UInt8} {l r : List UInt8} : cmpT (a :: l) (a :: r) = cmpT l r := by simp [cmpT]
theorem key_int {a b : Int} (ha : -9223372036854775808 ≤ a ∧ a ≤ 9223372036854775807) (hb : -9223372036854775808 ≤ b ∧ b ≤ 9223372036854775807) : cmpT (1 :: be8 (upN a)) (1 :: be8 (upN b)) = cmpI a b := by
  rw [cmpT_cons, cmpT_be8 (by unfold upN; omega) (by unfold upN; omega)]
  simp only [cmpI, upN]
  (repeat' split) <;> omega
theorem cmpT_zero : ∀ {s t : List UInt8}, s.all okB = true → t.all okB = true → cmpT (s ++ [0]) (t ++ [0]) = cmpT s t
  | [], [], _, _ => by simp [cmpT]
  | [], b :: t, _, h => by
    simp only [List.all_cons, Bool.and_eq_true] at h
    have : 32 ≤ b.toNat := (of_decide_eq_true h.1).1
    simp [cmpT]; omega
  | a :: s, [], h, _ => by
    simp only [List.all_cons, Bool.and_eq_true] at h
    have : 32 ≤ a.toNat := (of_decide_eq_true h.1).1
    simp [cmpT]; omega
  | a :: s, b :: t, h, h' => by
    simp only [List.all_cons, Bool.and_eq_true] at h h'
    simp only [List.cons_append, cmpT, cmpT_zero h.2 h'.2]
/-- What a value that may be is: a number, or a text. -/
theorem may_cases {x : Vl} (h : mayV x = true) : (x.k = 1 ∧ x.s = []) ∨ (x.k = 2 ∧ x.n = 0 ∧ x.s.all okB = true ∧ x.s.length ≤ 30) := by
  unfold mayV at h
  split at h
  · exact .inl ⟨by assumption, by simpa using h⟩
  · simp at h
    exact .inr ⟨h.1.1.2, h.1.2, by simpa using h.1.1.1, h.2⟩
theorem may_len {x : Vl} (h : mayV x = true) : x.s.length ≤ 30 := by
  rcases may_cases h with ⟨_, h⟩ | ⟨_, _, _, h⟩
  · rw [h]; decide
  · exact h
theorem keys_stand {x y : Vl} (hx : mayV x = true) (hy : mayV y = true) (ox : OkV x) (oy : OkV y) : cmpT (keyV x) (keyV y) = cmpW x y := by
  obtain ⟨k, n, s⟩ := x
  obtain ⟨k', n', s'⟩ := y
  rcases may_cases hx with ⟨h1, h2⟩ | ⟨h1, h2, h3, h4⟩ <;> rcases may_cases hy with ⟨g1, g2⟩ | ⟨g1, g2, g3, g4⟩ <;> simp only at h1 h2 g1 g2 <;> subst h1 <;> subst h2 <;> subst g1 <;> subst g2
  · have := key_int ox.2.1 oy.2.1
    simp only [keyV, if_true, cmpW]
    rw [this]
    simp only [cmpI_eq.2 rfl, ne_eq, not_true_eq_false, if_false, cmpT]
    split
    · rfl
    · rename_i h; simpa using h
  · simp [keyV, cmpW, cmpT, cmpI]
  · simp [keyV, cmpW, cmpT, cmpI]
  · simp only [keyV, cmpW]
    rw [if_neg (by decide), if_neg (by decide), cmpT_cons, cmpT_zero h3 g3]
    simp [cmpI]
theorem cmpW_cmpV {x y : Vl} (hx : mayV x = true) (hy : mayV y = true) : cmpW x y = cmpV x y := by
  obtain ⟨k, n, s⟩ := x
  obtain ⟨k', n', s'⟩ := y
  rcases may_cases hx with ⟨h1, h2⟩ | ⟨h1, h2, h3, h4⟩ <;> rcases may_cases hy with ⟨g1, g2⟩ | ⟨g1, g2, g3, g4⟩ <;> simp only at h1 h2 g1 g2 <;> subst h1 <;> subst h2 <;> subst g1 <;> subst g2 <;> simp [cmpW, cmpV, cmpI, cmpT] <;> (try (intro h; exact h.symm))
theorem cmpW_swap (x y : Vl) : cmpW y x = - cmpW x y := by
  simp only [cmpW]
  rw [cmpI_swap x.k y.k, cmpI_swap x.n y.n, cmpT_swap x.s y.s]
  (repeat' split) <;> omega
theorem cmpW_zero {x y : Vl} : cmpW x y = 0 ↔ x = y := by
  obtain ⟨k, n, s⟩ := x
  obtain ⟨k', n', s'⟩ := y
  simp only [cmpW, Vl.mk.injEq]
  constructor
  · intro h
    split at h
    · exact absurd h (by assumption)
    · split at h
      · exact absurd h (by assumption)
      · rename_i h1 h2
        exact ⟨cmpI_eq.1 (by simpa using h1), cmpI_eq.1 (by simpa using h2), cmpT_eq h⟩
  · rintro ⟨rfl, rfl, rfl⟩
    simp [cmpI_eq.2 rfl, cmpT_refl]
theorem cmpT_trans : ∀ {a b c : List UInt8}, cmpT a b = -1 → cmpT b c = -1 → cmpT a c = -1
  | [], [], _, h, _ => by simp [cmpT] at h
  | _, _ :: _, [], _, h => by simp [cmpT] at h
  | _ :: _, [], _, h, _ => by simp [cmpT] at h
  | [], _ :: _, _ :: _, _, _ => by simp [cmpT]
  | a :: x, b :: y, c :: z, h, h' => by
    simp only [cmpT] at h h' ⊢
    by_cases h1 : a.toNat < b.toNat
    · by_cases h2 : b.toNat < c.toNat
      · rw [if_pos (by omega)]
      · rw [if_neg h2] at h'
        by_cases h3 : c.toNat < b.toNat
        · rw [if_pos h3] at h'; simp at h'
        · rw [if_pos (by omega)]
    · rw [if_neg h1] at h
      by_cases h2 : b.toNat < a.toNat
      · rw [if_pos h2] at h; simp at h
      · rw [if_neg h2] at h
        by_cases h3 : b.toNat < c.toNat
        · rw [if_pos (by omega)]
        · rw [if_neg h3] at h'
          by_cases h4 : c.toNat < b.toNat
          · rw [if_pos h4] at h'; simp at h'
          · rw [if_neg h4] at h'
            rw [if_neg (by omega), if_neg (by omega)]
            exact cmpT_trans h h'
theorem cmpW_lt {x y : Vl} : cmpW x y = -1 ↔ x.k < y.k ∨ (x.k = y.k ∧ (x.n < y.n ∨ (x.n = y.n ∧ cmpT x.s y.s = -1))) := by
  simp only [cmpW, cmpI]
  by_cases h1 : x.k < y.k
  · simp [h1]
  · by_cases h2 : y.k < x.k
    · simp [h1, h2]; omega
    · have e : x.k = y.k := by omega
      by_cases h3 : x.n < y.n
      · simp [h1, h2, e, h3]
      · by_cases h4 : y.n < x.n
        · simp [h1, h2, e, h3, h4]; omega
        · have e2 : x.n = y.n := by omega
          simp [h1, h2, e, h3, h4, e2]
theorem cmpW_trans {x y z : Vl} (h1 : cmpW x y = -1) (h2 : cmpW y z = -1) : cmpW x z = -1 := by
  rw [cmpW_lt] at h1 h2 ⊢
  have t := @cmpT_trans x.s y.s z.s
  rcases h1 with h1 | ⟨h1, h3 | ⟨h3, h4⟩⟩ <;> rcases h2 with h2 | ⟨h2, h5 | ⟨h5, h6⟩⟩
  · exact .inl (by omega)
  · exact .inl (by omega)
  · exact .inl (by omega)
  · exact .inl (by omega)
  · exact .inr ⟨by omega, .inl (by omega)⟩
  · exact .inr ⟨by omega, .inl (by omega)⟩
  · exact .inl (by omega)
  · exact .inr ⟨by omega, .inl (by omega)⟩
  · exact .inr ⟨by omega, .inr ⟨by omega, t h4 h6⟩⟩
theorem keyV_le (x : Vl) : (keyV x).length ≤ x.s.length + 9 := by
  unfold keyV
  split
  · rw [List.length_cons, be8_len]; omega
  · simp
theorem keyU_eq {n : Int} (h : -9223372036854775808 ≤ n ∧ n ≤ 9223372036854775807) : keyU (upU n) = be8 (upN n) := by
  have top : ∀ q : Nat, q < 256 → UInt8.ofNat (q % 256) ^^^ 128 = UInt8.ofNat ((q + 128) % 256) := by
    intro q hq
    have : ∀ q : Fin 256, UInt8.ofNat (q.val % 256) ^^^ 128 = UInt8.ofNat ((q.val + 128) % 256) := by decide +kernel
    exact this ⟨q, hq⟩
  have hb : ∀ m : Nat, UInt8.ofNat (m % 256) = UInt8.ofNat m := by
    intro m
    apply UInt8.toNat_inj.1
    rw [UInt8.toNat_ofNat', UInt8.toNat_ofNat']; omega
  have e : upN n = if n < 0 then upU n - 9223372036854775808 else upU n + 9223372036854775808 := by unfold upN upU; split <;> omega
  have hu : upU n < 18446744073709551616 ∧ (n < 0 → 9223372036854775808 ≤ upU n) ∧ (¬ n < 0 → upU n < 9223372036854775808) := by unfold upU; split <;> omega
  generalize upU n = u at *
  rw [e]
  have e2 : keyU u = [UInt8.ofNat (u / 2 ^ 56 % 256) ^^^ 128, UInt8.ofNat (u / 2 ^ 48 % 256), UInt8.ofNat (u / 2 ^ 40 % 256), UInt8.ofNat (u / 2 ^ 32 % 256), UInt8.ofNat (u / 2 ^ 24 % 256), UInt8.ofNat (u / 2 ^ 16 % 256), UInt8.ofNat (u / 2 ^ 8 % 256), UInt8.ofNat (u / 2 ^ 0 % 256)] := rfl
  have e3 : ∀ m, be8 m = [UInt8.ofNat (m / 2 ^ 56), UInt8.ofNat (m / 2 ^ 48), UInt8.ofNat (m / 2 ^ 40), UInt8.ofNat (m / 2 ^ 32), UInt8.ofNat (m / 2 ^ 24), UInt8.ofNat (m / 2 ^ 16), UInt8.ofNat (m / 2 ^ 8), UInt8.ofNat (m / 2 ^ 0)] := fun _ => rfl
  rw [e2, e3, top _ (by omega)]
  have key : ∀ a b : Nat, a % 256 = b % 256 → UInt8.ofNat a = UInt8.ofNat b := by
    intro a b hab
    rw [← hb a, ← hb b, hab]
  split <;> (simp only [List.cons.injEq, and_true]; refine ⟨key _ _ ?_, key _ _ ?_, key _ _ ?_, key _ _ ?_, key _ _ ?_, key _ _ ?_, key _ _ ?_, key _ _ ?_⟩ <;> omega)
theorem keyR_eq {x : Vl} (h : -9223372036854775808 ≤ x.n ∧ x.n ≤ 9223372036854775807) : keyR x = keyV x := by
  unfold keyR keyV
  rw [keyU_eq h]
theorem scan_text : ∀ {s r : List UInt8} {i : Nat}, s.all okB = true → i + s.length ≤ 30 → scanT (s ++ 0 :: r) i = .inr (i + s.length)
  | [], r, i, _, _ => by simp [scanT]
  | a :: s, r, i, h, hl => by
    simp only [List.all_cons, Bool.and_eq_true] at h
    have h1 : 32 ≤ a.toNat := (of_decide_eq_true h.1).1
    simp only [List.length_cons] at hl
    simp only [List.cons_append, scanT]
    rw [if_neg (by omega), if_neg (by rintro (h2 | h2); · omega
                                      · rw [h.1] at h2; cases h2), scan_text h.2 (by omega)]
    simp only [List.length_cons]; congr 1; omega
theorem take_key {x : Vl} (hx : mayV x = true) (ox : OkV x) (r : List UInt8) : takeV (keyV x ++ r) = (x, ((keyV x).length : Int), 0) := by
  obtain ⟨k, n, s⟩ := x
  rcases may_cases hx with ⟨h1, h2⟩ | ⟨h1, h2, h3, h4⟩ <;> simp only at h1 h2 <;> subst h1 <;> subst h2
  · have hn : -9223372036854775808 ≤ n ∧ n ≤ 9223372036854775807 := ox.2.1
    have e : keyV ⟨1, n, []⟩ = 1 :: be8 (upN n) := by simp [keyV]
    rw [e]
    simp only [List.cons_append, takeV]
    rw [if_pos (by decide), if_neg (by simp [be8_len]), List.take_append_of_le_length (by simp [be8_len]), List.take_of_length_le (by simp [be8_len]), ofBe_be8 (by unfold upN; omega)]
    simp only [List.length_cons, be8_len, Prod.mk.injEq, Vl.mk.injEq, true_and, and_true]
    refine ⟨?_, by decide⟩
    unfold upN; omega
  · simp only at h3 h4
    have e : keyV ⟨2, 0, s⟩ = 2 :: (s ++ [0]) := by simp [keyV]
    rw [e]
    have e2 : (2 :: (s ++ [0])) ++ r = 2 :: (s ++ 0 :: r) := by simp
    rw [e2]
    simp only [takeV]
    rw [if_neg (by decide), if_pos (by decide), textR_of (scan_text h3 (by omega))]
    simp [triT]; omega
theorem key_prefix {x y : Vl} (hx : mayV x = true) (hy : mayV y = true) (ox : OkV x) (oy : OkV y) (h : (keyV y).take (keyV x).length = keyV x) : x = y := by
  have h1 := take_key hx ox ((keyV y).drop (keyV x).length)
  have h2 := take_key hy oy []
  rw [List.append_nil] at h2
  have h3 : keyV x ++ (keyV y).drop (keyV x).length = keyV y := by
    conv => rhs; rw [← List.take_append_drop (keyV x).length (keyV y), h]
  rw [h3, h2] at h1
  exact (congrArg Prod.fst h1).symm
theorem cmpW_val (x y : Vl) : cmpW x y = -1 ∨ cmpW x y = 0 ∨ cmpW x y = 1 := by
  simp only [cmpW]
  have h1 := cmpI_val x.k y.k
  have h2 := cmpI_val x.n y.n
  have h3 := cmpT_val x.s y.s
  (repeat' split) <;> omega
theorem veq_of {x y : Vl} (h : x = y) : x.k = y.k ∧ x.n = y.n ∧ x.s = y.s := by subst h; exact ⟨rfl, rfl, rfl⟩
theorem vl_ext {x y : Vl} (h : x.k = y.k ∧ x.n = y.n ∧ x.s = y.s) : x = y := by
  obtain ⟨k, n, s⟩ := x
  obtain ⟨k', n', s'⟩ := y
  obtain ⟨h1, h2, h3⟩ := h
  simp only at h1 h2 h3
  rw [h1, h2, h3]
/-- The first byte that is 0; if there is none, how many there are. -/
def zf (s : List UInt8) : Nat := s.findIdx fun c => decide (c.toNat = 0)
def cutT (s : List UInt8) (i : Nat) : Nat := if zf s < i then zf s else s.length
theorem zf_le (s : List UInt8) : zf s ≤ s.length := List.findIdx_le_length
theorem zf_at {s : List UInt8} {i : Nat} (h : i < s.length) (hz : (s.getD i 0).toNat = 0) : zf s ≤ i := by
  rcases Nat.lt_or_ge i (zf s) with h1 | h1
  · have := List.not_of_lt_findIdx h1
    simp [List.getD_eq_getElem?_getD, h] at hz
    simp at this
    exact absurd hz this
  · exact h1
theorem zf_ne {s : List UInt8} {i : Nat} (h : i < s.length) (hz : ¬ (s.getD i 0).toNat = 0) : zf s ≠ i := by
  intro he
  have h1 : zf s < s.length := by omega
  have h2 := List.findIdx_getElem (w := h1)
  simp only [decide_eq_true_eq] at h2
  apply hz
  subst he
  rw [List.getD_eq_getElem?_getD, List.getElem?_eq_getElem h]
  exact h2
theorem cutT_hit {s : List UInt8} {i : Nat} (h : i < s.length) (hz : (s.getD i 0).toNat = 0) : min (cutT s i) i = cutT s (i + 1) := by
  have := zf_at h hz
  unfold cutT
  (repeat' split) <;> omega
theorem cutT_miss {s : List UInt8} {i : Nat} (h : i < s.length) (hz : ¬ (s.getD i 0).toNat = 0) : cutT s i = cutT s (i + 1) := by
  have := zf_ne h hz
  unfold cutT
  (repeat' split) <;> omega
theorem cutT_end {s : List UInt8} {i : Nat} (h : s.length ≤ i) : cutT s i = zf s := by
  have := zf_le s
  unfold cutT
  split <;> omega
theorem scan_zf : ∀ (s : List UInt8) (i : Nat), i ≤ 30 → scanT (s ++ [0]) i = if (s.take (zf s)).all okB = true ∧ i + zf s ≤ 30 then .inr (i + zf s) else .inl 3
  | [], i, h => by simp [scanT, zf, h]
  | c :: s, i, h => by
    have e : zf (c :: s) = if c.toNat = 0 then 0 else zf s + 1 := by
      unfold zf
      rw [List.findIdx_cons]
      by_cases hc : c.toNat = 0 <;> simp [hc]
    simp only [List.cons_append, scanT]
    by_cases hc : c.toNat = 0
    · rw [if_pos hc, e, if_pos hc]; simp [h]
    · rw [if_neg hc, e, if_neg hc]
      by_cases h2 : i = 30 ∨ okB c = false
      · rw [if_pos h2, if_neg]
        rintro ⟨h3, h4⟩
        simp only [List.take_succ_cons, List.all_cons, Bool.and_eq_true] at h3
        rcases h2 with h2 | h2
        · omega
        · rw [h3.1] at h2; cases h2
      · rw [if_neg h2, scan_zf s (i + 1) (by omega)]
        have h5 : okB c = true := by cases hq : okB c with | true => rfl | false => exact absurd (.inr hq) h2
        simp only [List.take_succ_cons, List.all_cons, h5, Bool.true_and]
        have e1 : i + 1 + zf s = i + (zf s + 1) := by omega
        rw [e1]
theorem take_text {s : List UInt8} : takeV (2 :: (s ++ [0])) = if mayV ⟨2, 0, s.take (zf s)⟩ = true then (⟨2, 0, s.take (zf s)⟩, (zf s : Int) + 2, 0) else (V0, 0, 3) := by
  simp only [takeV]
  rw [if_neg (by decide), if_pos (by decide), textR_of (scan_zf s 0 (by decide))]
  have hm : mayV ⟨2, 0, s.take (zf s)⟩ = true ↔ ((s.take (zf s)).all okB = true ∧ 0 + zf s ≤ 30) := by
    have := zf_le s
    simp [mayV, Nat.min_eq_left this]
  by_cases h : mayV ⟨2, 0, s.take (zf s)⟩ = true
  · rw [if_pos h, if_pos (hm.1 h)]
    simp only [triT]
    have := zf_le s
    rw [Nat.zero_add, List.take_append_of_le_length this]
  · rw [if_neg h, if_neg (fun hh => h (hm.2 hh))]
    rfl
theorem vt_stepT {s : List UInt8} {i : Nat} (h : i < s.length) (g : (decide (s.length ≤ 30) && (s.take i).all okB) = true) (ok : okB (s.getD i 0) = true) : (decide (s.length ≤ 30) && (s.take (i + 1)).all okB) = true := by
  simp only [Bool.and_eq_true] at g ⊢
  exact ⟨g.1, all_snoc h g.2 ok⟩
theorem vt_stepF {s : List UInt8} {i : Nat} (h : i < s.length) (g : (decide (s.length ≤ 30) && (s.take i).all okB) = false) : (decide (s.length ≤ 30) && (s.take (i + 1)).all okB) = false := by
  rw [take_snoc h, List.all_append, ← Bool.and_assoc, g]; rfl
theorem vt_stepX {s : List UInt8} {i : Nat} (h : i < s.length) (ok : okB (s.getD i 0) = false) : (decide (s.length ≤ 30) && (s.take (i + 1)).all okB) = false := by
  rw [take_snoc h, List.all_append]
  simp only [List.all_cons, List.all_nil, ok, Bool.false_and, Bool.and_false]
theorem vt_end {s : List UInt8} {i : Nat} (h : s.length ≤ i) : (decide (s.length ≤ 30) && (s.take i).all okB) = mayV ⟨2, 0, s⟩ := by
  rw [List.take_of_length_le h]
  simp [mayV, Bool.and_comm]
end Go.Proofs.Ytkkongnmcfdioaa
