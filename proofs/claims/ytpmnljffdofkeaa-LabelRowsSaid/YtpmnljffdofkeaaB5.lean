/- Values' keys and order, plainly: keys stand as values do, are read again, and are the same however they are told. -/
import Derived.Test.YtpmnljffdofkeaaB4
namespace Go.Proofs.Ytpmnljffdofkeaa
open Go.Gx
theorem cmpI_val (m n : Int) : cmpI m n = -1 ∨ cmpI m n = 0 ∨ cmpI m n = 1 := by simp only [cmpI]; (repeat' split) <;> omega
theorem cmpI_eq {m n : Int} : cmpI m n = 0 ↔ m = n := by simp only [cmpI]; (repeat' split) <;> omega
theorem cmpI_lt {m n : Int} : cmpI m n = -1 ↔ m < n := by simp only [cmpI]; (repeat' split) <;> omega
theorem cmpI_swap (m n : Int) : cmpI n m = - cmpI m n := by simp only [cmpI]; (repeat' split) <;> omega
theorem cmpT_be : ∀ (l1 l2 : List UInt8) (x y : Nat), l1.length = l2.length →
    (x < y → l1.foldl (fun x c => x * 256 + c.toNat) x < l2.foldl (fun x c => x * 256 + c.toNat) y) ∧ (y < x → l2.foldl (fun x c => x * 256 + c.toNat) y < l1.foldl (fun x c => x * 256 + c.toNat) x) ∧ (x = y → cmpT l1 l2 = cmpI (l1.foldl (fun x c => x * 256 + c.toNat) x : Nat) (l2.foldl (fun x c => x * 256 + c.toNat) y : Nat))
  | [], [], x, y, _ => ⟨fun h => h, fun h => h, fun h => by subst h; simp [cmpT, cmpI]⟩
  | [], _ :: _, _, _, h => by simp at h
  | _ :: _, [], _, _, h => by simp at h
  | a :: l1, b :: l2, x, y, h => by
    have ha := a.toNat_lt
    have hb := b.toNat_lt
    have ih := cmpT_be l1 l2 (x * 256 + a.toNat) (y * 256 + b.toNat) (by simpa using h)
    refine ⟨fun hxy => ih.1 (by omega), fun hxy => ih.2.1 (by omega), fun hxy => ?_⟩
    subst hxy
    simp only [cmpT, List.foldl_cons]
    by_cases h1 : a.toNat < b.toNat
    · rw [if_pos h1]
      have := ih.1 (by omega)
      exact (cmpI_lt.2 (by omega)).symm
    · rw [if_neg h1]
      by_cases h2 : b.toNat < a.toNat
      · rw [if_pos h2]
        have := ih.2.1 (by omega)
        have h3 := cmpI_swap (l2.foldl (fun x c => x * 256 + c.toNat) (x * 256 + b.toNat) : Nat) (l1.foldl (fun x c => x * 256 + c.toNat) (x * 256 + a.toNat) : Nat)
        rw [h3, cmpI_lt.2 (by omega)]; rfl
      · rw [if_neg h2]
        exact ih.2.2 (by omega)
theorem cmpT_ofBe {l1 l2 : List UInt8} (h : l1.length = l2.length) : cmpT l1 l2 = cmpI (ofBe l1 : Nat) (ofBe l2 : Nat) := (cmpT_be l1 l2 0 0 h).2.2 rfl
theorem ofBe_be8 {m : Nat} (h : m < 18446744073709551616) : ofBe (be8 m) = m := by
  have e : be8 m = [UInt8.ofNat (m / 2 ^ 56), UInt8.ofNat (m / 2 ^ 48), UInt8.ofNat (m / 2 ^ 40), UInt8.ofNat (m / 2 ^ 32), UInt8.ofNat (m / 2 ^ 24), UInt8.ofNat (m / 2 ^ 16), UInt8.ofNat (m / 2 ^ 8), UInt8.ofNat (m / 2 ^ 0)] := rfl
  rw [e]
  simp only [ofBe, List.foldl_cons, List.foldl_nil, UInt8.toNat_ofNat']
  omega
theorem cmpT_be8 {m n : Nat} (hm : m < 18446744073709551616) (hn : n < 18446744073709551616) : cmpT (be8 m) (be8 n) = cmpI (m : Int) (n : Int) := by
  rw [cmpT_ofBe (by rw [be8_len, be8_len]), ofBe_be8 hm, ofBe_be8 hn]
/-- A value whose parts fit. -/
def OkV (x : Vl) : Prop := (-9223372036854775808 ≤ x.k ∧ x.k ≤ 9223372036854775807) ∧ (-9223372036854775808 ≤ x.n ∧ x.n ≤ 9223372036854775807) ∧ x.s.length ≤ 9223372036854775807
theorem cmpT_cons {a : UInt8} {l r : List UInt8} : cmpT (a :: l) (a :: r) = cmpT l r := by simp [cmpT]
theorem key_int {a b : Int} (ha : -9223372036854775808 ≤ a ∧ a ≤ 9223372036854775807) (hb : -9223372036854775808 ≤ b ∧ b ≤ 9223372036854775807) : cmpT (1 :: be8 (upN a)) (1 :: be8 (upN b)) = cmpI a b := by
  rw [cmpT_cons, cmpT_be8 (by unfold upN; omega) (by unfold upN; omega)]
  simp only [cmpI, upN]
  (repeat' split) <;> omega
theorem cmpT_zero : ∀ {s t : List UInt8}, s.all okB = true → t.all okB = true → cmpT (s ++ [0]) (t ++ [0]) = cmpT s t
  | [], [], _, _ => by simp [cmpT]
  | [], b :: t, _, h => by
    simp only [List.all_cons, Bool.and_eq_true] at h
    have : 32 ≤ b.toNat := (of_decide_eq_true h.1).1
    simp [cmpT]; omega
  | a :: s, [], h, _ => by
    simp only [List.all_cons, Bool.and_eq_true] at h
    have : 32 ≤ a.toNat := (of_decide_eq_true h.1).1
    simp [cmpT]; omega
  | a :: s, b :: t, h, h' => by
    simp only [List.all_cons, Bool.and_eq_true] at h h'
    simp only [List.cons_append, cmpT, cmpT_zero h.2 h'.2]
/-- What a value that may be is: a number, or a text. -/
theorem may_cases {x : Vl} (h : mayV x = true) : (x.k = 1 ∧ x.s = []) ∨ (x.k = 2 ∧ x.n = 0 ∧ x.s.all okB = true ∧ x.s.length ≤ 30) := by
  unfold mayV at h
  split at h
  · exact .inl ⟨by assumption, by simpa using h⟩
  · simp at h
    exact .inr ⟨h.1.1.2, h.1.2, by simpa using h.1.1.1, h.2⟩
theorem may_len {x : Vl} (h : mayV x = true) : x.s.length ≤ 30 := by
  rcases may_cases h with ⟨_, h⟩ | ⟨_, _, _, h⟩
  · rw [h]; decide
  · exact h
theorem keys_stand {x y : Vl} (hx : mayV x = true) (hy : mayV y = true) (ox : OkV x) (oy : OkV y) : cmpT (keyV x) (keyV y) = cmpW x y := by
  obtain ⟨k, n, s⟩ := x
  obtain ⟨k', n', s'⟩ := y
  rcases may_cases hx with ⟨h1, h2⟩ | ⟨h1, h2, h3, h4⟩ <;> rcases may_cases hy with ⟨g1, g2⟩ | ⟨g1, g2, g3, g4⟩ <;> simp only at h1 h2 g1 g2 <;> subst h1 <;> subst h2 <;> subst g1 <;> subst g2
  · have := key_int ox.2.1 oy.2.1
    simp only [keyV, if_true, cmpW]
    rw [this]
    simp only [cmpI_eq.2 rfl, ne_eq, not_true_eq_false, if_false, cmpT]
    split
    · rfl
    · rename_i h; simpa using h
  · simp [keyV, cmpW, cmpT, cmpI]
  · simp [keyV, cmpW, cmpT, cmpI]
  · simp only [keyV, cmpW]
    rw [if_neg (by decide), if_neg (by decide), cmpT_cons, cmpT_zero h3 g3]
    simp [cmpI]
theorem cmpW_cmpV {x y : Vl} (hx : mayV x = true) (hy : mayV y = true) : cmpW x y = cmpV x y := by
  obtain ⟨k, n, s⟩ := x
  obtain ⟨k', n', s'⟩ := y
  rcases may_cases hx with ⟨h1, h2⟩ | ⟨h1, h2, h3, h4⟩ <;> rcases may_cases hy with ⟨g1, g2⟩ | ⟨g1, g2, g3, g4⟩ <;> simp only at h1 h2 g1 g2 <;> subst h1 <;> subst h2 <;> subst g1 <;> subst g2 <;> simp [cmpW, cmpV, cmpI, cmpT] <;> (try (intro h; exact h.symm))
theorem cmpW_swap (x y : Vl) : cmpW y x = - cmpW x y := by
  simp only [cmpW]
  rw [cmpI_swap x.k y.k, cmpI_swap x.n y.n, cmpT_swap x.s y.s]
  (repeat' split) <;> omega
theorem cmpW_zero {x y : Vl} : cmpW x y = 0 ↔ x = y := by
  obtain ⟨k, n, s⟩ := x
  obtain ⟨k', n', s'⟩ := y
  simp only [cmpW, Vl.mk.injEq]
  constructor
  · intro h
    split at h
    · exact absurd h (by assumption)
    · split at h
      · exact absurd h (by assumption)
      · rename_i h1 h2
        exact ⟨cmpI_eq.1 (by simpa using h1), cmpI_eq.1 (by simpa using h2), cmpT_eq h⟩
  · rintro ⟨rfl, rfl, rfl⟩
    simp [cmpI_eq.2 rfl, cmpT_refl]
theorem cmpT_trans : ∀ {a b c : List UInt8}, cmpT a b = -1 → cmpT b c = -1 → cmpT a c = -1
  | [], [], _, h, _ => by simp [cmpT] at h
  | _, _ :: _, [], _, h => by simp [cmpT] at h
  | _ :: _, [], _, h, _ => by simp [cmpT] at h
  | [], _ :: _, _ :: _, _, _ => by simp [cmpT]
  | a :: x, b :: y, c :: z, h, h' => by
    simp only [cmpT] at h h' ⊢
    by_cases h1 : a.toNat < b.toNat
    · by_cases h2 : b.toNat < c.toNat
      · rw [if_pos (by omega)]
      · rw [if_neg h2] at h'
        by_cases h3 : c.toNat < b.toNat
        · rw [if_pos h3] at h'; simp at h'
        · rw [if_pos (by omega)]
    · rw [if_neg h1] at h
      by_cases h2 : b.toNat < a.toNat
      · rw [if_pos h2] at h; simp at h
      · rw [if_neg h2] at h
        by_cases h3 : b.toNat < c.toNat
        · rw [if_pos (by omega)]
        · rw [if_neg h3] at h'
          by_cases h4 : c.toNat < b.toNat
          · rw [if_pos h4] at h'; simp at h'
          · rw [if_neg h4] at h'
            rw [if_neg (by omega), if_neg (by omega)]
            exact cmpT_trans h h'
theorem cmpW_lt {x y : Vl} : cmpW x y = -1 ↔ x.k < y.k ∨ (x.k = y.k ∧ (x.n < y.n ∨ (x.n = y.n ∧ cmpT x.s y.s = -1))) := by
  simp only [cmpW, cmpI]
  by_cases h1 : x.k < y.k
  · simp [h1]
  · by_cases h2 : y.k < x.k
    · simp [h1, h2]; omega
    · have e : x.k = y.k := by omega
      by_cases h3 : x.n < y.n
      · simp [h1, h2, e, h3]
      · by_cases h4 : y.n < x.n
        · simp [h1, h2, e, h3, h4]; omega
        · have e2 : x.n = y.n := by omega
          simp [h1, h2, e, h3, h4, e2]
theorem cmpW_trans {x y z : Vl} (h1 : cmpW x y = -1) (h2 : cmpW y z = -1) : cmpW x z = -1 := by
  rw [cmpW_lt] at h1 h2 ⊢
  have t := @cmpT_trans x.s y.s z.s
  rcases h1 with h1 | ⟨h1, h3 | ⟨h3, h4⟩⟩ <;> rcases h2 with h2 | ⟨h2, h5 | ⟨h5, h6⟩⟩
  · exact .inl (by omega)
  · exact .inl (by omega)
  · exact .inl (by omega)
  · exact .inl (by omega)
  · exact .inr ⟨by omega, .inl (by omega)⟩
  · exact .inr ⟨by omega, .inl (by omega)⟩
  · exact .inl (by omega)
  · exact .inr ⟨by omega, .inl (by omega)⟩
  · exact .inr ⟨by omega, .inr ⟨by omega, t h4 h6⟩⟩
theorem keyV_le (x : Vl) : (keyV x).length ≤ x.s.length + 9 := by
  unfold keyV
  split
  · rw [List.length_cons, be8_len]; omega
  · simp
theorem keyU_eq {n : Int} (h : -9223372036854775808 ≤ n ∧ n ≤ 9223372036854775807) : keyU (upU n) = be8 (upN n) := by
  have top : ∀ q : Nat, q < 256 → UInt8.ofNat (q % 256) ^^^ 128 = UInt8.ofNat ((q + 128) % 256) := by
    intro q hq
    have : ∀ q : Fin 256, UInt8.ofNat (q.val % 256) ^^^ 128 = UInt8.ofNat ((q.val + 128) % 256) := by decide +kernel
    exact this ⟨q, hq⟩
  have hb : ∀ m : Nat, UInt8.ofNat (m % 256) = UInt8.ofNat m := by
    intro m
    apply UInt8.toNat_inj.1
    rw [UInt8.toNat_ofNat', UInt8.toNat_ofNat']; omega
  have e : upN n = if n < 0 then upU n - 9223372036854775808 else upU n + 9223372036854775808 := by unfold upN upU; split <;> omega
  have hu : upU n < 18446744073709551616 ∧ (n < 0 → 9223372036854775808 ≤ upU n) ∧ (¬ n < 0 → upU n < 9223372036854775808) := by unfold upU; split <;> omega
  generalize upU n = u at *
  rw [e]
  have e2 : keyU u = [UInt8.ofNat (u / 2 ^ 56 % 256) ^^^ 128, UInt8.ofNat (u / 2 ^ 48 % 256), UInt8.ofNat (u / 2 ^ 40 % 256), UInt8.ofNat (u / 2 ^ 32 % 256), UInt8.ofNat (u / 2 ^ 24 % 256), UInt8.ofNat (u / 2 ^ 16 % 256), UInt8.ofNat (u / 2 ^ 8 % 256), UInt8.ofNat (u / 2 ^ 0 % 256)] := rfl
  have e3 : ∀ m, be8 m = [UInt8.ofNat (m / 2 ^ 56), UInt8.ofNat (m / 2 ^ 48), UInt8.ofNat (m / 2 ^ 40), UInt8.ofNat (m / 2 ^ 32), UInt8.ofNat (m / 2 ^ 24), UInt8.ofNat (m / 2 ^ 16), UInt8.ofNat (m / 2 ^ 8), UInt8.ofNat (m / 2 ^ 0)] := fun _ => rfl
  rw [e2, e3, top _ (by omega)]
  have key : ∀ a b : Nat, a % 256 = b % 256 → UInt8.ofNat a = UInt8.ofNat b := by
    intro a b hab
    rw [← hb a, ← hb b, hab]
  split <;> (simp only [List.cons.injEq, and_true]; refine ⟨key _ _ ?_, key _ _ ?_, key _ _ ?_, key _ _ ?_, key _ _ ?_, key _ _ ?_, key _ _ ?_, key _ _ ?_⟩ <;> omega)
theorem keyR_eq {x : Vl} (h : -9223372036854775808 ≤ x.n ∧ x.n ≤ 9223372036854775807) : keyR x = keyV x := by
  unfold keyR keyV
  rw [keyU_eq h]
theorem scan_text : ∀ {s r : List UInt8} {i : Nat}, s.all okB = true → i + s.length ≤ 30 → scanT (s ++ 0 :: r) i = .inr (i + s.length)
  | [], r, i, _, _ => by simp [scanT]
  | a :: s, r, i, h, hl => by
    simp only [List.all_cons, Bool.and_eq_true] at h
    have h1 : 32 ≤ a.toNat := (of_decide_eq_true h.1).1
    simp only [List.length_cons] at hl
    simp only [List.cons_append, scanT]
    rw [if_neg (by omega), if_neg (by rintro (h2 | h2); · omega
                                      · rw [h.1] at h2; cases h2), scan_text h.2 (by omega)]
    simp only [List.length_cons]; congr 1; omega
theorem take_key {x : Vl} (hx : mayV x = true) (ox : OkV x) (r : List UInt8) : takeV (keyV x ++ r) = (x, ((keyV x).length : Int), 0) := by
  obtain ⟨k, n, s⟩ := x
  rcases may_cases hx with ⟨h1, h2⟩ | ⟨h1, h2, h3, h4⟩ <;> simp only at h1 h2 <;> subst h1 <;> subst h2
  · have hn : -9223372036854775808 ≤ n ∧ n ≤ 9223372036854775807 := ox.2.1
    have e : keyV ⟨1, n, []⟩ = 1 :: be8 (upN n) := by simp [keyV]
    rw [e]
    simp only [List.cons_append, takeV]
    rw [if_pos (by decide), if_neg (by simp [be8_len]), List.take_append_of_le_length (by simp [be8_len]), List.take_of_length_le (by simp [be8_len]), ofBe_be8 (by unfold upN; omega)]
    simp only [List.length_cons, be8_len, Prod.mk.injEq, Vl.mk.injEq, true_and, and_true]
    refine ⟨?_, by decide⟩
    unfold upN; omega
  · simp only at h3 h4
    have e : keyV ⟨2, 0, s⟩ = 2 :: (s ++ [0]) := by simp [keyV]
    rw [e]
    have e2 : (2 :: (s ++ [0])) ++ r = 2 :: (s ++ 0 :: r) := by simp
    rw [e2]
    simp only [takeV]
    rw [if_neg (by decide), if_pos (by decide), textR_of (scan_text h3 (by omega))]
    simp [triT]; omega
theorem key_prefix {x y : Vl} (hx : mayV x = true) (hy : mayV y = true) (ox : OkV x) (oy : OkV y) (h : (keyV y).take (keyV x).length = keyV x) : x = y := by
  have h1 := take_key hx ox ((keyV y).drop (keyV x).length)
  have h2 := take_key hy oy []
  rw [List.append_nil] at h2
  have h3 : keyV x ++ (keyV y).drop (keyV x).length = keyV y := by
    conv => rhs; rw [← List.take_append_drop (keyV x).length (keyV y), h]
  rw [h3, h2] at h1
  exact (congrArg Prod.fst h1).symm
theorem cmpW_val (x y : Vl) : cmpW x y = -1 ∨ cmpW x y = 0 ∨ cmpW x y = 1 := by
  simp only [cmpW]
  have h1 := cmpI_val x.k y.k
  have h2 := cmpI_val x.n y.n
  have h3 := cmpT_val x.s y.s
  (repeat' split) <;> omega
theorem veq_of {x y : Vl} (h : x = y) : x.k = y.k ∧ x.n = y.n ∧ x.s = y.s := by subst h; exact ⟨rfl, rfl, rfl⟩
theorem vl_ext {x y : Vl} (h : x.k = y.k ∧ x.n = y.n ∧ x.s = y.s) : x = y := by
  obtain ⟨k, n, s⟩ := x
  obtain ⟨k', n', s'⟩ := y
  obtain ⟨h1, h2, h3⟩ := h
  simp only at h1 h2 h3
  rw [h1, h2, h3]
/-- The first byte that is 0; if there is none, how many there are. -/
def zf (s : List UInt8) : Nat := s.findIdx fun c => decide (c.toNat = 0)
def cutT (s : List UInt8) (i : Nat) : Nat := if zf s < i then zf s else s.length
theorem zf_le (s : List UInt8) : zf s ≤ s.length := List.findIdx_le_length
theorem zf_at {s : List UInt8} {i : Nat} (h : i < s.length) (hz : (s.getD i 0).toNat = 0) : zf s ≤ i := by
  rcases Nat.lt_or_ge i (zf s) with h1 | h1
  · have := List.not_of_lt_findIdx h1
    simp [List.getD_eq_getElem?_getD, h] at hz
    simp at this
    exact absurd hz this
  · exact h1
theorem zf_ne {s : List UInt8} {i : Nat} (h : i < s.length) (hz : ¬ (s.getD i 0).toNat = 0) : zf s ≠ i := by
  intro he
  have h1 : zf s < s.length := by omega
  have h2 := List.findIdx_getElem (w := h1)
  simp only [decide_eq_true_eq] at h2
  apply hz
  subst he
  rw [List.getD_eq_getElem?_getD, List.getElem?_eq_getElem h]
  exact h2
theorem cutT_hit {s : List UInt8} {i : Nat} (h : i < s.length) (hz : (s.getD i 0).toNat = 0) : min (cutT s i) i = cutT s (i + 1) := by
  have := zf_at h hz
  unfold cutT
  (repeat' split) <;> omega
theorem cutT_miss {s : List UInt8} {i : Nat} (h : i < s.length) (hz : ¬ (s.getD i 0).toNat = 0) : cutT s i = cutT s (i + 1) := by
  have := zf_ne h hz
  unfold cutT
  (repeat' split) <;> omega
theorem cutT_end {s : List UInt8} {i : Nat} (h : s.length ≤ i) : cutT s i = zf s := by
  have := zf_le s
  unfold cutT
  split <;> omega
theorem scan_zf : ∀ (s : List UInt8) (i : Nat), i ≤ 30 → scanT (s ++ [0]) i = if (s.take (zf s)).all okB = true ∧ i + zf s ≤ 30 then .inr (i + zf s) else .inl 3
  | [], i, h => by simp [scanT, zf, h]
  | c :: s, i, h => by
    have e : zf (c :: s) = if c.toNat = 0 then 0 else zf s + 1 := by
      unfold zf
      rw [List.findIdx_cons]
      by_cases hc : c.toNat = 0 <;> simp [hc]
    simp only [List.cons_append, scanT]
    by_cases hc : c.toNat = 0
    · rw [if_pos hc, e, if_pos hc]; simp [h]
    · rw [if_neg hc, e, if_neg hc]
      by_cases h2 : i = 30 ∨ okB c = false
      · rw [if_pos h2, if_neg]
        rintro ⟨h3, h4⟩
        simp only [List.take_succ_cons, List.all_cons, Bool.and_eq_true] at h3
        rcases h2 with h2 | h2
        · omega
        · rw [h3.1] at h2; cases h2
      · rw [if_neg h2, scan_zf s (i + 1) (by omega)]
        have h5 : okB c = true := by cases hq : okB c with | true => rfl | false => exact absurd (.inr hq) h2
        simp only [List.take_succ_cons, List.all_cons, h5, Bool.true_and]
        have e1 : i + 1 + zf s = i + (zf s + 1) := by omega
        rw [e1]
theorem take_text {s : List UInt8} : takeV (2 :: (s ++ [0])) = if mayV ⟨2, 0, s.take (zf s)⟩ = true then (⟨2, 0, s.take (zf s)⟩, (zf s : Int) + 2, 0) else (V0, 0, 3) := by
  simp only [takeV]
  rw [if_neg (by decide), if_pos (by decide), textR_of (scan_zf s 0 (by decide))]
  have hm : mayV ⟨2, 0, s.take (zf s)⟩ = true ↔ ((s.take (zf s)).all okB = true ∧ 0 + zf s ≤ 30) := by
    have := zf_le s
    simp [mayV, Nat.min_eq_left this]
  by_cases h : mayV ⟨2, 0, s.take (zf s)⟩ = true
  · rw [if_pos h, if_pos (hm.1 h)]
    simp only [triT]
    have := zf_le s
    rw [Nat.zero_add, List.take_append_of_le_length this]
  · rw [if_neg h, if_neg (fun hh => h (hm.2 hh))]
    rfl
theorem vt_stepT {s : List UInt8} {i : Nat} (h : i < s.length) (g : (decide (s.length ≤ 30) && (s.take i).all okB) = true) (ok : okB (s.getD i 0) = true) : (decide (s.length ≤ 30) && (s.take (i + 1)).all okB) = true := by
  simp only [Bool.and_eq_true] at g ⊢
  exact ⟨g.1, all_snoc h g.2 ok⟩
theorem vt_stepF {s : List UInt8} {i : Nat} (h : i < s.length) (g : (decide (s.length ≤ 30) && (s.take i).all okB) = false) : (decide (s.length ≤ 30) && (s.take (i + 1)).all okB) = false := by
  rw [take_snoc h, List.all_append, ← Bool.and_assoc, g]; rfl
theorem vt_stepX {s : List UInt8} {i : Nat} (h : i < s.length) (ok : okB (s.getD i 0) = false) : (decide (s.length ≤ 30) && (s.take (i + 1)).all okB) = false := by
  rw [take_snoc h, List.all_append]
  simp only [List.all_cons, List.all_nil, ok, Bool.false_and, Bool.and_false]
theorem vt_end {s : List UInt8} {i : Nat} (h : s.length ≤ i) : (decide (s.length ≤ 30) && (s.take i).all okB) = mayV ⟨2, 0, s⟩ := by
  rw [List.take_of_length_le h]
  simp [mayV, Bool.and_comm]
end Go.Proofs.Ytpmnljffdofkeaa

/- What rows are, plainly. -/
namespace Go.Proofs.Ytpmnljffdofkeaa
open Go.Gx
def cellsV (x : Vl) : List Value := [.int .i64 x.k, .int .i64 x.n, .string (bs x.s)]
theorem one_val (l : List Vl) : (l.flatMap cellsV).all Value.oneCell' = true := by
  rw [List.all_eq_true]; intro u hu
  obtain ⟨x, _, hx⟩ := List.mem_flatMap.1 hu
  simp [cellsV] at hx; rcases hx with rfl | rfl | rfl <;> rfl
theorem el_flat {α : Type} {f : α → List Value} {sz : Nat} (hf : ∀ u, (f u).length = sz) (hp : 0 < sz) {l : List α} {d : α} {e : Int} {i : Nat} (he : e = (i : Int)) (h : i < l.length) {j : Nat} {u : Value} (hu : (f (l.getD i d))[j]? = some u) :
    (l.flatMap f)[e.toNat * sz + j]? = some u := by
  have hj : j < sz := by rw [← hf (l.getD i d)]; exact (List.getElem?_eq_some_iff.1 hu).1
  subst he
  rw [flat_get hp l fun v _ => hf v]
  have e1 : ((i : Int).toNat * sz + j) / sz = i := by rw [Int.toNat_natCast, Nat.add_comm, Nat.add_mul_div_right _ _ hp, Nat.div_eq_of_lt hj, Nat.zero_add]
  have e2 : ((i : Int).toNat * sz + j) % sz = j := by rw [Int.toNat_natCast, Nat.add_comm, Nat.add_mul_mod_self_right, Nat.mod_eq_of_lt hj]
  rw [e1, e2, List.getElem?_eq_getElem h]
  simpa [List.getD_eq_getElem?_getD, h] using hu
theorem el_val {l : List Vl} {e : Int} {i j : Nat} {u : Value} (he : e = (i : Int)) (h : i < l.length) (hu : (cellsV (l.getD i V0))[j]? = some u) : (l.flatMap cellsV)[e.toNat * 3 + j]? = some u :=
  el_flat (f := cellsV) (sz := 3) (fun _ => rfl) (by decide) he h hu
theorem snoc {α : Type} {l : List α} {d : α} {i : Nat} (h : i < l.length) : l.take (i + 1) = l.take i ++ [l.getD i d] := by
  rw [List.take_succ_eq_append_getElem h]; simp [List.getD_eq_getElem?_getD, h]
theorem allsnoc {α : Type} {p : α → Bool} {l : List α} {d : α} {i : Nat} (h : i < l.length) (ha : (l.take i).all p = true) (hb : p (l.getD i d) = true) : (l.take (i + 1)).all p = true := by
  rw [snoc (d := d) h, List.all_append, ha]; simp only [List.all_cons, hb, List.all_nil]; rfl
theorem allbad {α : Type} {p : α → Bool} {l : List α} {d : α} {i : Nat} (h : i < l.length) (hb : p (l.getD i d) = false) : l.all p = false := by
  rw [List.all_eq_false]
  exact ⟨l.getD i d, by rw [List.getD_eq_getElem?_getD, List.getElem?_eq_getElem h]; exact List.getElem_mem h, by rw [hb]; simp⟩
theorem allwhole {α : Type} {p : α → Bool} {l : List α} {i : Nat} (h : l.length ≤ i) (ha : (l.take i).all p = true) : l.all p = true := by
  rwa [List.take_of_length_le h] at ha
theorem ok_at {α : Type} {R : α → Prop} {l : List α} {d : α} {i : Nat} (ho : ∀ x ∈ l, R x) (h : i < l.length) : R (l.getD i d) := by
  rw [List.getD_eq_getElem?_getD, List.getElem?_eq_getElem h]; exact ho _ (List.getElem_mem h)
def mayR (l : List Vl) : Bool := l.all mayV && decide (1 ≤ l.length ∧ l.length ≤ 6)
def putR (l : List Vl) : List UInt8 := if mayR l then UInt8.ofNat l.length :: l.flatMap keyV else []
theorem flat_le {key : Vl → List UInt8} {n : Nat} : ∀ {l : List Vl}, (∀ x ∈ l, (key x).length ≤ n) → (l.flatMap key).length ≤ l.length * n
  | [], _ => by simp
  | x :: l, h => by rw [List.flatMap_cons, List.length_append, List.length_cons, Nat.add_mul]; have := h x (by simp); have := flat_le (n := n) (l := l) fun y hy => h y (by simp [hy]); omega
theorem may_of {l : List Vl} (h : mayR l = true) : ∀ x ∈ l, mayV x = true := by
  unfold mayR at h; simp only [Bool.and_eq_true, List.all_eq_true] at h; exact h.1
theorem mayR_len {l : List Vl} (h : mayR l = true) : 1 ≤ l.length ∧ l.length ≤ 6 := by
  unfold mayR at h; simp only [Bool.and_eq_true, decide_eq_true_eq] at h; exact h.2
theorem may_at {l : List Vl} {i : Nat} (h : mayR l = true) (hi : i < l.length) : mayV (l.getD i V0) = true := ok_at (may_of h) hi
theorem keyV_39 {x : Vl} (h : mayV x = true) : (keyV x).length ≤ 39 := by have := keyV_le x; have := may_len h; omega
theorem acc_le {l : List Vl} {i : Nat} (h : mayR l = true) : ((l.take i).flatMap keyV).length ≤ 234 := by
  have h1 := flat_le (key := keyV) (n := 39) (l := l.take i) fun x hx => keyV_39 (may_of h x (List.mem_of_mem_take hx))
  have h2 := mayR_len h
  have h3 : (l.take i).length ≤ 6 := by simp; omega
  omega
/-- So many values of bytes: the values, the bytes behind them, the error. -/
def manyA (acc : List Vl) : Nat → List UInt8 → List Vl × List UInt8 × Int
  | 0, b => (acc, b, 0)
  | n + 1, b => if (takeV b).2.2 ≠ 0 then ([], b.drop (takeV b).2.1.toNat, (takeV b).2.2) else manyA (acc ++ [(takeV b).1]) n (b.drop (takeV b).2.1.toNat)
theorem many_end {acc : List Vl} {b : List UInt8} : manyA acc 0 b = (acc, b, 0) := rfl
theorem many_bad {acc : List Vl} {n i : Nat} {b : List UInt8} (hi : i < n) (h : (takeV b).2.2 ≠ 0) : manyA acc (n - i) b = ([], b.drop (takeV b).2.1.toNat, (takeV b).2.2) := by
  obtain ⟨k, hk⟩ : ∃ k, n - i = k + 1 := ⟨n - i - 1, by omega⟩
  rw [hk, manyA, if_pos h]
theorem many_step {acc : List Vl} {n i : Nat} {b : List UInt8} (hi : i < n) (h : (takeV b).2.2 = 0) : manyA acc (n - i) b = manyA (acc ++ [(takeV b).1]) (n - (i + 1)) (b.drop (takeV b).2.1.toNat) := by
  obtain ⟨k, hk⟩ : ∃ k, n - i = k + 1 := ⟨n - i - 1, by omega⟩
  rw [hk, manyA, if_neg (by simpa using h)]
  congr 1; omega
def takeR (b : List UInt8) : List Vl × Int :=
  if b.length = 0 then ([], 2) else if (b.getD 0 0).toNat < 1 ∨ 6 < (b.getD 0 0).toNat then ([], 3)
  else if (manyA [] (b.getD 0 0).toNat (b.drop 1)).2.2 ≠ 0 then ([], (manyA [] (b.getD 0 0).toNat (b.drop 1)).2.2)
  else if 0 < (manyA [] (b.getD 0 0).toNat (b.drop 1)).2.1.length then ([], 3) else ((manyA [] (b.getD 0 0).toNat (b.drop 1)).1, 0)
def lightR (l : List Vl) : Bool := l.all (fun x : Vl => decide (x.s.length ≤ 200)) && decide (l.length ≤ 20)
instance : DecidableEq Vl := fun x y => if h : x.k = y.k ∧ x.n = y.n ∧ x.s = y.s then isTrue (vl_ext h) else isFalse (fun e => h (by subst e; exact ⟨rfl, rfl, rfl⟩))
theorem scanT_val : ∀ (b : List UInt8) (i : Nat), (∃ j, scanT b i = .inr j ∧ i ≤ j ∧ j < i + b.length) ∨ scanT b i = .inl 2 ∨ scanT b i = .inl 3
  | [], i => .inr (.inl rfl)
  | c :: r, i => by
    unfold scanT
    split
    · exact .inl ⟨i, rfl, by omega, by simp⟩
    · split
      · exact .inr (.inr rfl)
      · rcases scanT_val r (i + 1) with ⟨j, h1, h2, h3⟩ | h | h
        · exact .inl ⟨j, h1, by omega, by simp; omega⟩
        · exact .inr (.inl h)
        · exact .inr (.inr h)
/-- How many bytes are read: no more than there are; the error is 0, 2 or 3. -/
theorem takeV_len (b : List UInt8) : 0 ≤ (takeV b).2.1 ∧ (takeV b).2.1 ≤ b.length ∧ ((takeV b).2.2 = 0 ∨ (takeV b).2.2 = 2 ∨ (takeV b).2.2 = 3) := by
  unfold takeV
  split
  · simp [V0]
  · rename_i c r
    split
    · split
      · simp; omega
      · rename_i hh; simp at hh ⊢; omega
    · split
      · unfold textR
        rcases scanT_val r 0 with ⟨j, h1, h2, h3⟩ | h | h
        · rw [h1]; simp [triT]; omega
        · rw [h]; simp [triT]; omega
        · rw [h]; simp [triT]; omega
      · simp; omega
theorem takeV_ok (b : List UInt8) (h : b.length ≤ 9223372036854775807) : OkV (takeV b).1 := by
  unfold takeV
  split
  · simp [V0, OkV]
  · rename_i c r
    split
    · split
      · simp [V0, OkV]
      · have := ofBe_8 (l := r.take 8) (by simp; omega)
        simp [OkV]; omega
    · split
      · unfold textR
        rcases scanT_val r 0 with ⟨j, h1, h2, h3⟩ | h | h
        · rw [h1]; simp [triT, OkV]; simp at h; omega
        · rw [h]; simp [triT, V0, OkV]
        · rw [h]; simp [triT, V0, OkV]
      · simp [V0, OkV]
theorem many_ok : ∀ (n : Nat) (acc : List Vl) (b : List UInt8), b.length ≤ 9223372036854775807 → (∀ x ∈ acc, OkV x) → ∀ x ∈ (manyA acc n b).1, OkV x
  | 0, acc, b, _, ha => by rw [many_end]; exact ha
  | n + 1, acc, b, hb, ha => by
    rw [manyA]
    split
    · simp
    · refine many_ok n _ _ (by simp; omega) fun x hx => ?_
      rcases List.mem_append.1 hx with hx | hx
      · exact ha x hx
      · simp at hx; subst hx; exact takeV_ok b hb
theorem takeR_ok {b : List UInt8} (hb : b.length ≤ 9223372036854775807) : ∀ x ∈ (takeR b).1, OkV x := by
  unfold takeR
  split
  · simp
  · split
    · simp
    · split
      · simp
      · split
        · simp
        · exact many_ok _ _ _ (by simp; omega) (by simp)
theorem many_len : ∀ (n : Nat) (acc : List Vl) (b : List UInt8), (manyA acc n b).1.length ≤ acc.length + n
  | 0, acc, b => by rw [many_end]; exact Nat.le_refl _
  | n + 1, acc, b => by
    rw [manyA]
    split
    · simp
    · have := many_len n (acc ++ [(takeV b).1]) (b.drop (takeV b).2.1.toNat)
      simp at this; omega
theorem takeR_len (b : List UInt8) : (takeR b).1.length ≤ 255 := by
  unfold takeR
  have := many_len (b.getD 0 0).toNat [] (b.drop 1)
  have h2 := (b.getD 0 0).toNat_lt
  split
  · simp
  · split
    · simp
    · split
      · simp
      · split
        · simp
        · exact Nat.le_trans this (by rw [List.length_nil]; omega)
theorem putR_le (l : List Vl) : (putR l).length ≤ 235 := by
  unfold putR
  split
  · rename_i h
    have := acc_le (i := l.length) h
    simp at this ⊢; omega
  · simp
end Go.Proofs.Ytpmnljffdofkeaa

/- What labels are, plainly. -/
namespace Go.Proofs.Ytpmnljffdofkeaa
open Go.Gx
abbrev Lb := List UInt16
/-- Tags that rise, each once. -/
def Rise (l : Lb) : Prop := l.Pairwise (fun a b => a.toNat < b.toNat)
instance (l : Lb) : Decidable (Rise l) := List.instDecidablePairwise l
def mayL (l : Lb) : Bool := decide (Rise l) && decide (l.length ≤ 8)
theorem rise_nil : Rise [] := List.Pairwise.nil
theorem rise_one {l : Lb} : Rise (l.take 1) := by
  cases l with
  | nil => exact List.Pairwise.nil
  | cons a l => simp [Rise]
theorem rise_at {l : Lb} {i j : Nat} (h : Rise l) (hij : i < j) (hj : j < l.length) : (l.getD i 0).toNat < (l.getD j 0).toNat := by
  have := List.pairwise_iff_getElem.1 h i j (by omega) hj hij
  simpa [List.getD_eq_getElem?_getD, show i < l.length by omega, hj] using this
theorem rise_step {l : Lb} {i : Nat} (hi : 0 < i) (hl : i < l.length) (h : Rise (l.take i)) (hlt : (l.getD (i - 1) 0).toNat < (l.getD i 0).toNat) : Rise (l.take (i + 1)) := by
  rw [snoc (d := 0) hl]
  refine List.pairwise_append.2 ⟨h, by simp, fun a ha b hb => ?_⟩
  simp at hb; subst hb
  obtain ⟨j, hj, rfl⟩ := List.getElem_of_mem ha
  have hj' : j < i := by simp at hj; omega
  rw [List.getElem_take]
  have e : l[j]'(by omega) = l.getD j 0 := by simp [List.getD_eq_getElem?_getD, show j < l.length by omega]
  have e2 : l[i]?.getD 0 = l.getD i 0 := by simp [List.getD_eq_getElem?_getD]
  rw [e]
  try rw [e2]
  rcases Nat.lt_or_ge j (i - 1) with h1 | h1
  · have h2 := rise_at (i := j) (j := i - 1) h h1 (by simp; omega)
    have e3 : (l.take i).getD j 0 = l.getD j 0 := by simp [List.getD_eq_getElem?_getD, List.getElem?_take, hj']
    have e4 : (l.take i).getD (i - 1) 0 = l.getD (i - 1) 0 := by simp [List.getD_eq_getElem?_getD, List.getElem?_take, show i - 1 < i by omega]
    rw [e3, e4] at h2
    omega
  · have : j = i - 1 := by omega
    subst this; exact hlt
theorem rise_bad {l : Lb} {i : Nat} (hi : 0 < i) (hl : i < l.length) (h : ¬ (l.getD (i - 1) 0).toNat < (l.getD i 0).toNat) : ¬ Rise l := fun hr => h (rise_at hr (by omega) hl)
theorem mayL_rise {l : Lb} (h : mayL l = true) : Rise l := by unfold mayL at h; simp only [Bool.and_eq_true, decide_eq_true_eq] at h; exact h.1
theorem mayL_len {l : Lb} (h : mayL l = true) : l.length ≤ 8 := by unfold mayL at h; simp only [Bool.and_eq_true, decide_eq_true_eq] at h; exact h.2
/-- How labels stand: fewer tags first. -/
def cmpG : Lb → Lb → Int
  | [], [] => 0
  | [], _ :: _ => -1
  | _ :: _, [] => 1
  | a :: l, b :: m => if a.toNat < b.toNat then -1 else if b.toNat < a.toNat then 1 else cmpG l m
def cmpL (a b : Lb) : Int := if a.length < b.length then -1 else if b.length < a.length then 1 else cmpG a b
theorem cmpG_step {a b : Lb} {i : Nat} (ha : i < a.length) (hb : i < b.length) : cmpG (a.drop i) (b.drop i) = if (a.getD i 0).toNat < (b.getD i 0).toNat then -1 else if (b.getD i 0).toNat < (a.getD i 0).toNat then 1 else cmpG (a.drop (i + 1)) (b.drop (i + 1)) := by
  rw [List.drop_eq_getElem_cons ha, List.drop_eq_getElem_cons hb]
  simp [cmpG, List.getD_eq_getElem?_getD, ha, hb]
theorem cmpG_end {a b : Lb} {i : Nat} (ha : a.length ≤ i) (hb : b.length ≤ i) : cmpG (a.drop i) (b.drop i) = 0 := by
  rw [List.drop_of_length_le ha, List.drop_of_length_le hb]; rfl
theorem cmpG_refl : ∀ (a : Lb), cmpG a a = 0
  | [] => rfl
  | a :: l => by simp [cmpG, cmpG_refl l]
theorem cmpG_eq : ∀ {a b : Lb}, cmpG a b = 0 → a = b
  | [], [], _ => rfl
  | [], _ :: _, h => by simp [cmpG] at h
  | _ :: _, [], h => by simp [cmpG] at h
  | a :: l, b :: m, h => by
    unfold cmpG at h
    split at h
    · simp at h
    · split at h
      · simp at h
      · have : a = b := UInt16.toNat_inj.1 (by omega)
        rw [this, cmpG_eq h]
theorem cmpL_zero {a b : Lb} : cmpL a b = 0 ↔ a = b := by
  constructor
  · intro h
    unfold cmpL at h
    split at h
    · simp at h
    · split at h
      · simp at h
      · exact cmpG_eq h
  · rintro rfl; simp [cmpL, cmpG_refl]
def be2 (t : UInt16) : List UInt8 := [UInt8.ofNat (t.toNat / 256), UInt8.ofNat t.toNat]
theorem flat_len' : ∀ (l : Lb), (l.flatMap be2).length = l.length * 2
  | [] => rfl
  | a :: l => by rw [List.flatMap_cons, List.length_append, flat_len' l, List.length_cons]; simp [be2]; omega
/-- A label's bytes. -/
def putL (l : Lb) : List UInt8 := UInt8.ofNat l.length :: l.flatMap be2
theorem flat_len2 (l : Lb) : (l.flatMap be2).length = l.length * 2 := flat_len' l
theorem putL_len (l : Lb) : (putL l).length = 1 + l.length * 2 := by rw [putL, List.length_cons, flat_len']; omega
/-- The tags that bytes say. -/
def tagsL (n : Nat) (b : List UInt8) : Lb := (List.range n).map fun i => UInt16.ofNat ((b.getD (1 + 2 * i) 0).toNat * 256 + (b.getD (2 + 2 * i) 0).toNat)
theorem tags_step {n : Nat} {b : List UInt8} : tagsL (n + 1) b = tagsL n b ++ [UInt16.ofNat ((b.getD (1 + 2 * n) 0).toNat * 256 + (b.getD (2 + 2 * n) 0).toNat)] := by
  simp [tagsL, List.range_succ]
theorem tags_len (n : Nat) (b : List UInt8) : (tagsL n b).length = n := by simp [tagsL]
/-- What is read of bytes: a label, how many, the error. -/
def takeL (b : List UInt8) : Lb × Int × Int :=
  if b.length = 0 then ([], 0, 2) else if 8 < (b.getD 0 0).toNat then ([], 0, 3) else if b.length < 1 + 2 * (b.getD 0 0).toNat then ([], 0, 2)
  else if Rise (tagsL (b.getD 0 0).toNat b) then (tagsL (b.getD 0 0).toNat b, ((1 + 2 * (b.getD 0 0).toNat : Nat) : Int), 0) else ([], 0, 3)
theorem takeL_len (b : List UInt8) : 0 ≤ (takeL b).2.1 ∧ (takeL b).2.1 ≤ b.length ∧ ((takeL b).2.2 = 0 ∨ (takeL b).2.2 = 2 ∨ (takeL b).2.2 = 3) ∧ (takeL b).1.length ≤ 8 := by
  unfold takeL
  split
  · simp
  · split
    · simp
    · split
      · simp
      · split
        · refine ⟨by simp only; omega, by simp only; omega, .inl rfl, ?_⟩
          show (tagsL _ b).length ≤ 8
          rw [tags_len]; omega
        · simp
/-- A key of a value, a label, a number. -/
def keyX (x : Vl) (l : Lb) (n : Nat) : List UInt8 := keyV x ++ putL l ++ be8 n
/-- What is read of bytes: a value, a label, a number, the error. -/
def takeX (b : List UInt8) : Vl × Lb × Nat × Int :=
  if (takeV b).2.2 ≠ 0 then (V0, [], 0, (takeV b).2.2)
  else if (takeL (b.drop (takeV b).2.1.toNat)).2.2 ≠ 0 then (V0, [], 0, (takeL (b.drop (takeV b).2.1.toNat)).2.2)
  else if (b.drop ((takeV b).2.1.toNat + (takeL (b.drop (takeV b).2.1.toNat)).2.1.toNat)).length < 8 then (V0, [], 0, 2)
  else if 8 < (b.drop ((takeV b).2.1.toNat + (takeL (b.drop (takeV b).2.1.toNat)).2.1.toNat)).length then (V0, [], 0, 3)
  else ((takeV b).1, (takeL (b.drop (takeV b).2.1.toNat)).1, ofBe (b.drop ((takeV b).2.1.toNat + (takeL (b.drop (takeV b).2.1.toNat)).2.1.toNat)), 0)
theorem takeX_lab (b : List UInt8) : (takeX b).2.1.length ≤ 8 := by
  unfold takeX
  have := takeL_len (b.drop (takeV b).2.1.toNat)
  (repeat' split) <;> first | exact this.2.2.2 | simp
end Go.Proofs.Ytpmnljffdofkeaa

/- Lists of tags put in order, plainly: what stands twice goes; the one rising list of what a list holds. -/
namespace Go.Proofs.Ytpmnljffdofkeaa
open Go.Gx Go.Sort Go.RowKit
def dd : List UInt16 → List UInt16
  | [] => []
  | [x] => [x]
  | x :: y :: r => if x = y then dd (y :: r) else x :: dd (y :: r)
theorem dd_snoc : ∀ (l : List UInt16) (x y : UInt16), dd (l ++ [x, y]) = if x = y then dd (l ++ [x]) else dd (l ++ [x]) ++ [y]
  | [], x, y => by by_cases h : x = y <;> simp [dd, h]
  | [a], x, y => by
    have ih := dd_snoc [] x y
    simp only [List.nil_append] at ih
    simp only [List.cons_append, List.nil_append]
    rw [dd, ih]; by_cases h : x = y <;> by_cases h2 : a = x <;> simp [dd, h, h2]
  | a :: b :: l, x, y => by
    have ih := dd_snoc (b :: l) x y
    simp only [List.cons_append] at ih ⊢
    rw [dd, ih, dd]; by_cases h : x = y <;> by_cases h2 : a = b <;> simp [h, h2]
theorem ar_take {d : Ar} {i : Nat} (h : i < d.size) : d.toList.take (i + 1) = d.toList.take i ++ [d[i]!] := by
  have h' : i < d.toList.length := by simpa using h
  rw [List.take_add_one, List.getElem?_eq_getElem h']
  simp [h]
theorem dd_step {d : Ar} {i : Nat} (h0 : 1 ≤ i) (h : i < d.size) : dd (d.toList.take (i + 1)) = if d[i - 1]! = d[i]! then dd (d.toList.take i) else dd (d.toList.take i) ++ [d[i]!] := by
  have e : d.toList.take i = d.toList.take (i - 1) ++ [d[i - 1]!] := by
    have := ar_take (d := d) (i := i - 1) (by omega)
    rwa [show i - 1 + 1 = i by omega] at this
  rw [ar_take h, e, List.append_assoc]
  exact dd_snoc _ _ _
theorem dd_one {d : Ar} (h : 1 ≤ d.size) : dd (d.toList.take 1) = d.toList.take 1 := by
  rcases hl : d.toList with _ | ⟨a, r⟩
  · rfl
  · rfl
theorem dd_same {d : Ar} {i : Nat} (h0 : 1 ≤ i) (h : i < d.size) (hs : dd (d.toList.take i) = d.toList.take i) (hne : ¬ d[i]! = d[i - 1]!) : dd (d.toList.take (i + 1)) = d.toList.take (i + 1) := by
  rw [dd_step h0 h, if_neg (fun e => hne e.symm), hs, ar_take h]
theorem dd_short {d : Ar} (h : d.size < 2) : dd d.toList = d.toList := by
  rcases hl : d.toList with _ | ⟨a, _ | ⟨b, r⟩⟩
  · rfl
  · rfl
  · have := congrArg List.length hl; simp at this; omega
theorem dd_full {d : Ar} {n : Nat} (hd : d.size = n) (hs : dd (d.toList.take n) = d.toList.take n) : dd d.toList = d.toList := by
  have e : d.toList.take n = d.toList := by rw [List.take_of_length_le]; simp [hd]
  rwa [e] at hs
/-- the round in which what is new is kept -/
theorem dd_keep {d dk : Ar} {i k : Nat} (h0 : 1 ≤ i) (h : i < d.size) (hk : k < i) (hz : dk.size = d.size) (hdd : dk.toList.take k = dd (d.toList.take i)) (hsame : ∀ j, k ≤ j → dk[j]! = d[j]!) (hne : ¬ d[i]! = d[i - 1]!) :
    (dk.setIfInBounds k d[i]!).toList.take (k + 1) = dd (d.toList.take (i + 1)) ∧ ∀ j, k + 1 ≤ j → (dk.setIfInBounds k d[i]!)[j]! = d[j]! := by
  constructor
  · rw [dd_step h0 h, if_neg (fun e => hne e.symm), ← hdd, ar_take (by simp; omega)]
    congr 1
    · rw [Array.toList_setIfInBounds, List.take_set_of_le (Nat.le_refl _)]
    · rw [Array.getElem!_eq_getD, Array.getD, dif_pos (by simp; omega)]; simp
  · intro j hj
    rw [← hsame j (by omega)]
    generalize d[i]! = z
    have hkj : k ≠ j := by omega
    simp [getElem!_def, Array.getElem?_setIfInBounds, hkj]
theorem u16_eq {x y : UInt16} (h : (x.toNat : Int) = (y.toNat : Int)) : x = y := UInt16.toNat_inj.1 (by omega)
def clr (d : Ar) (k : Nat) : Ar := (d.toList.take k ++ List.replicate (d.size - k) 0).toArray
theorem clr_cs {d : Ar} {n k : Nat} (hd : d.size = n) : (d.toList.map u16v).take k ++ List.replicate (n - k) (Value.int .u16 0) = (clr d k).toList.map u16v := by
  subst hd; simp [clr, u16v]
theorem clr_take {d : Ar} {k : Nat} (hk : k ≤ d.size) : (clr d k).toList.take k = d.toList.take k := by
  simp [clr, List.take_append, hk]
theorem el_arr_tail {d : Ar} {e : Int} {i k : Nat} (he : e = (i : Int)) (h : k + i < d.size) : ((d.toList.map u16v).drop k)[e.toNat * 1 + 0]? = some (Value.int .u16 (d[k + i]!.toNat : Int)) := by
  subst he
  have e1 : d[k + i]! = d[k + i] := by simp [h]
  rw [e1]; simp [u16v, h]
end Go.Proofs.Ytpmnljffdofkeaa

/- Walks, written by a program: what each function of the translation hands back. -/
namespace Go.Proofs.Ytpmnljffdofkeaa
open Go.Gx Go.RowKit
attribute [local irreducible] wpList wpStill Code.wp Calls
open Go.Sort (insertionSort insOuter insInner swp siftDown heapSort heapBuild heapPop scanUp scanDown partition partLoop partitionEqual partEqLoop scanSorted partialIns bitsLen partialInsertionSort shiftDown shiftUp SortedIn reverseRange reverseLoop fixDown fixUp)
theorem compW_ret (d : Ar) (v : Value) (n base : Nat) (z0 : Nat) (w : World) (hd : d.size = n) (hn : n ≤ 4000000000000000000) (O : Own w base 35 1 v n (d.toList.map u16v)) : Ret Try.prog 58 #[v] w (fun v' w' => w.grownBy w' v.ownBlock ∧ v'.ownBlock = v.ownBlock ∧ Own w' base 35 1 v' (dd d.toList).length ((dd d.toList).map u16v)) := by
 have hb := grown_refl w v.ownBlock
 refine enter (N := 61) Try.func58 rfl rfl (by simp) fun a0 hN hd hA => ?_
 have s0 : a0.tmps.getD 0 undef = v := hA 0 (by simp)
 clear hA
 refine seq_any fun K573 hK573 => ?_
 refine one_reg ?_
 refine op_assign rfl ?_
 refine reg_nil ?_
 refine hK573 _ _ ?_
 refine seq_any fun K574 hK574 => ?_
 refine seq_any fun K575 hK575 => ?_
 refine one_reg ?_
 refine op_move (ev_base hN rfl s0) ?_
 refine op_len_rd Try.underlying22 (ev_hit hN rfl) O.rdw ?_
 refine op_lss (ev_hit hN rfl) rfl (fun c8 => ?_) (fun c8 => ?_)
 · -- 8T
  refine reg_nil ?_
  refine hK575 _ _ ?_
  refine wp_cond_true (ev_hit hN rfl) ?_
  refine seq_any fun K576 hK576 => ?_
  refine one_reg ?_
  refine op_move (ev_base hN rfl s0) ?_
  refine op_assign (ev_hit hN rfl) ?_
  refine reg_nil ?_
  refine hK576 _ _ ?_
  refine wp_ret (then_ret ( ?_))
  refine ret1 rfl hd (ev_hit hN rfl) ⟨_, rfl, ?_⟩
  -- path 8T
  have hzl : d.toList.length = n := by simp; assumption
  exact ⟨hb, rfl, by rw [dd_short (by omega), hzl]; exact O⟩
 · -- 8F
  refine reg_nil ?_
  refine hK575 _ _ ?_
  refine wp_cond_false (ev_hit hN rfl) ?_
  refine wp_skip ?_
  refine hK574 _ _ ?_
  refine seq_any fun K577 hK577 => ?_
  refine seq_any fun K578 hK578 => ?_
  refine one_reg ?_
  refine op_assign rfl ?_
  refine reg_nil ?_
  refine hK578 _ _ ?_
  refine wp_block ?_
  refine loop_m (fun mz_ az_ w' => ∃ (i : Nat), mz_ = (n + 1 - i) ∧ (az_.tmps.getD 0 undef = v) ∧ (az_.tmps.getD 3 undef = (Value.int .i64 ((i : Nat) : Int))) ∧ (1 ≤ i ∧ i ≤ n) ∧ (dd (d.toList.take i) = d.toList.take i) ∧ (w.grownBy w' v.ownBlock) ∧ (w.heap.size ≤ w'.heap.size) ∧ (Own w' base 35 1 v n (d.toList.map u16v))) _ hN hd ⟨1, rfl, (sl_base hN rfl s0), (sl_hit hN rfl).trans (congrArg (Value.int .i64) (by omega)), (by omega), (dd_one (by omega)), hb, (Nat.le_refl _), O⟩ ?_
  rintro _ a579 w579 hN579 hd579 ⟨i, rfl, s579_0, s579_3, hi, hsm, hb, zl_w579, O⟩
  have z_w579 := hb.size
  refine seq_any fun K580 hK580 => ?_
  refine seq_any fun K581 hK581 => ?_
  refine one_reg ?_
  refine op_move (ev_base hN579 rfl s579_3) ?_
  refine op_move (ev_base hN579 rfl s579_0) ?_
  refine op_len_rd Try.underlying22 (ev_hit hN579 rfl) O.rdw ?_
  refine op_lss (ev_hit hN579 rfl) (ev_hit hN579 rfl) (fun c13 => ?_) (fun c13 => ?_)
  · -- 13T
   refine reg_nil ?_
   refine hK581 _ _ ?_
   refine wp_cond_true (ev_hit hN579 rfl) ?_
   refine wp_skip ?_
   refine hK580 _ _ ?_
   refine seq_any fun K582 hK582 => ?_
   refine wp_block ?_
   refine seq_any fun K583 hK583 => ?_
   refine reg_still mixed (by kernel_rfl) ?_
   intro w585 E584
   have z_w585 := E584.size
   have O := O.keep0 E584
   have hb := grow_step0 hb E584
   refine st_step rfl (fun _ h9 => op_move (ev_base hN579 rfl s579_0) h9) ?_
   refine st_step rfl (fun _ h9 => op_move (ev_base hN579 rfl s579_3) h9) ?_
   refine st_index_rd slt22 (ev_hit hN579 rfl) O.rdw (ev_hit hN579 rfl) (by omega) (by omega) ?_
   intro b586 o587 h0b586 h1b586 hc588
   refine st_step rfl (fun _ h9 => op_load1 (v := (Value.int .u16 (d[i]!.toNat : Int))) one35 (ev_hit hN579 rfl) (by have := hc588 0 (Value.int .u16 (d[i]!.toNat : Int)) (by decide) (el_arr (i := i) (by omega) (by first | omega | (simp only [Array.size_setIfInBounds, swp_sz, siftDown_size]; omega))); simpa using this) h9) ?_
   refine st_step rfl (fun _ h9 => op_move (ev_base hN579 rfl s579_0) h9) ?_
   refine st_step rfl (fun _ h9 => op_move (ev_base hN579 rfl s579_3) h9) ?_
   refine st_step rfl (fun _ h9 => op_sub (ev_hit hN579 rfl) rfl (sub64 (by omega)) h9) ?_
   refine st_index_rd slt22 (ev_hit hN579 rfl) O.rdw (ev_hit hN579 rfl) (by omega) (by omega) ?_
   intro b589 o590 h0b589 h1b589 hc591
   refine st_step rfl (fun _ h9 => op_load1 (v := (Value.int .u16 (d[(i - 1)]!.toNat : Int))) one35 (ev_hit hN579 rfl) (by have := hc591 0 (Value.int .u16 (d[(i - 1)]!.toNat : Int)) (by decide) (el_arr (i := (i - 1)) (by omega) (by first | omega | (simp only [Array.size_setIfInBounds, swp_sz, siftDown_size]; omega))); simpa using this) h9) ?_
   refine st_step rfl (fun _ h9 => op_cmp (b := (decide ((d[i]!.toNat : Int) = (d[(i - 1)]!.toNat : Int)))) (ev_hit hN579 rfl) (ev_hit hN579 rfl) (b_eql rfl) h9) ?_
   refine st_nil ?_
   refine hK583 _ _ ?_
   refine wp_cond_split (ev_hit hN579 rfl) (fun c25 => ?_) (fun c25 => ?_)
   · -- 25T
    have c25 := of_decide_eq_true c25
    refine seq_any fun K592 hK592 => ?_
    refine one_reg ?_
    refine op_move (ev_base hN579 rfl s579_0) ?_
    refine op_move (ev_base hN579 rfl s579_3) ?_
    refine op_slice_tail (k := i) slt22 (ev_hit hN579 rfl) O.rdw (by omega) (ev_hit hN579 rfl) (by omega) ?_
    refine op_assign (ev_hit hN579 rfl) ?_
    refine reg_nil ?_
    refine hK592 _ _ ?_
    refine seq_any fun K593 hK593 => ?_
    refine seq_any fun K594 hK594 => ?_
    refine one_reg ?_
    refine op_assign rfl ?_
    refine reg_nil ?_
    refine hK594 _ _ ?_
    refine wp_block ?_
    refine loop_m (fun mz_ az_ w' => ∃ (k2 kk : Nat) (dk : Ar), mz_ = (n + 1 - k2) ∧ (az_.tmps.getD 0 undef = v) ∧ (az_.tmps.getD 4 undef = (tailV v i)) ∧ (az_.tmps.getD 5 undef = (Value.int .i64 ((k2 : Nat) : Int))) ∧ (az_.tmps.getD 3 undef = (Value.int .i64 ((kk : Nat) : Int))) ∧ (dk.size = n) ∧ (1 ≤ k2 ∧ i + k2 ≤ n ∧ 1 ≤ kk ∧ kk < i + k2) ∧ (dk.toList.take kk = dd (d.toList.take (i + k2))) ∧ (∀ j9, kk ≤ j9 → dk[j9]! = d[j9]!) ∧ (w.grownBy w' v.ownBlock) ∧ (w585.heap.size ≤ w'.heap.size) ∧ (Own w' base 35 1 v n (dk.toList.map u16v))) _ hN579 hd579 ⟨1, i, _, rfl, (sl_base hN579 rfl s579_0), (sl_hit hN579 rfl), (sl_hit hN579 rfl).trans (congrArg (Value.int .i64) (by omega)), (sl_base hN579 rfl s579_3).trans (congrArg (Value.int .i64) (by omega)), (by first | assumption | (simp only [Array.size_setIfInBounds, swp_sz, siftDown_size]; assumption)), (by omega), (by rw [dd_step (by omega) (by omega), if_pos (u16_eq c25).symm, hsm]), (fun _ _ => rfl), hb, (Nat.le_refl _), O⟩ ?_
    rintro _ a595 w595 hN595 hd595 ⟨k2, kk, dk, rfl, s595_0, s595_4, s595_5, s595_3, hdk, hr2, hdd, hsame, hb, zl_w595, hO596⟩
    have z_w595 := hb.size
    refine seq_any fun K597 hK597 => ?_
    refine seq_any fun K598 hK598 => ?_
    refine one_reg ?_
    refine op_move (ev_base hN595 rfl s595_5) ?_
    refine op_move (ev_base hN595 rfl s595_4) ?_
    refine op_len_rd Try.underlying22 (ev_hit hN595 rfl) (RdC.tail hO596.rdw (by omega) (by omega)) ?_
    refine op_lss (ev_hit hN595 rfl) (ev_hit hN595 rfl) (fun c32 => ?_) (fun c32 => ?_)
    · -- 32T
     refine reg_nil ?_
     refine hK598 _ _ ?_
     refine wp_cond_true (ev_hit hN595 rfl) ?_
     refine wp_skip ?_
     refine hK597 _ _ ?_
     refine seq_any fun K599 hK599 => ?_
     refine wp_block ?_
     refine seq_any fun K600 hK600 => ?_
     refine reg_still mixed (by kernel_rfl) ?_
     intro w602 E601
     have z_w602 := E601.size
     have hO596 := hO596.keep0 E601
     have hb := grow_step0 hb E601
     refine st_step rfl (fun _ h9 => op_move (ev_base hN595 rfl s595_4) h9) ?_
     refine st_step rfl (fun _ h9 => op_move (ev_base hN595 rfl s595_5) h9) ?_
     refine st_index_rd slt22 (ev_hit hN595 rfl) (RdC.tail hO596.rdw (by omega) (by omega)) (ev_hit hN595 rfl) (by omega) (by omega) ?_
     intro b603 o604 h0b603 h1b603 hc605
     refine st_step rfl (fun _ h9 => op_load1 (v := (Value.int .u16 (dk[i + k2]!.toNat : Int))) one35 (ev_hit hN595 rfl) (by have := hc605 0 (Value.int .u16 (dk[i + k2]!.toNat : Int)) (by decide) (el_arr_tail (i := k2) (by omega) (by omega)); simpa using this) h9) ?_
     refine st_step rfl (fun _ h9 => op_move (ev_base hN595 rfl s595_4) h9) ?_
     refine st_step rfl (fun _ h9 => op_move (ev_base hN595 rfl s595_5) h9) ?_
     refine st_step rfl (fun _ h9 => op_sub (ev_hit hN595 rfl) rfl (sub64 (by omega)) h9) ?_
     refine st_index_rd slt22 (ev_hit hN595 rfl) (RdC.tail hO596.rdw (by omega) (by omega)) (ev_hit hN595 rfl) (by omega) (by omega) ?_
     intro b606 o607 h0b606 h1b606 hc608
     refine st_step rfl (fun _ h9 => op_load1 (v := (Value.int .u16 (dk[i + (k2 - 1)]!.toNat : Int))) one35 (ev_hit hN595 rfl) (by have := hc608 0 (Value.int .u16 (dk[i + (k2 - 1)]!.toNat : Int)) (by decide) (el_arr_tail (i := (k2 - 1)) (by omega) (by omega)); simpa using this) h9) ?_
     refine st_step rfl (fun _ h9 => op_cmp (b := (decide ((dk[i + k2]!.toNat : Int) ≠ (dk[i + (k2 - 1)]!.toNat : Int)))) (ev_hit hN595 rfl) (ev_hit hN595 rfl) (b_neq rfl) h9) ?_
     refine st_nil ?_
     refine hK600 _ _ ?_
     refine wp_cond_split (ev_hit hN595 rfl) (fun c44 => ?_) (fun c44 => ?_)
     · -- 44T
      have c44 := of_decide_eq_true c44
      refine seq_any fun K609 hK609 => ?_
      refine one_reg ?_
      refine op_move (ev_base hN595 rfl s595_0) ?_
      refine op_move (ev_base hN595 rfl s595_3) ?_
      refine op_move (ev_base hN595 rfl s595_4) ?_
      refine op_move (ev_base hN595 rfl s595_5) ?_
      refine op_index_rd slt22 (ev_hit hN595 rfl) (RdC.tail hO596.rdw (by omega) (by omega)) (ev_hit hN595 rfl) (by omega) (by omega) ?_
      intro b610 o611 h0b610 h1b610 hc612
      refine op_load1 (v := (Value.int .u16 (dk[i + k2]!.toNat : Int))) one35 (ev_hit hN595 rfl) (by have := hc612 0 (Value.int .u16 (dk[i + k2]!.toNat : Int)) (by decide) (el_arr_tail (i := k2) (by omega) (by omega)); simpa using this) ?_
      refine op_index_own (i := kk) slt22 (ev_hit hN595 rfl) hO596 (ev_hit hN595 rfl) (by omega) (by omega) ?_
      intro b613 o614 lo_b613 hA615
      have hA615 : AtV v (kk) b613 o614 := by simpa using hA615
      have hP618 := hO596
      refine op_store_own (vs := [(Value.int .u16 (dk[i + k2]!.toNat : Int))]) size35 (ev_hit hN595 rfl) (ev_hit hN595 rfl) rfl rfl rfl hP618 hA615 (by have := hP618.1; simp; omega) ?_
      intro w616 hO619 E617
      have z_w616 := E617.size
      have hb := grow_stepX hb E617 rfl
      have hO619 : Own w616 base 35 1 v n (((dk.setIfInBounds kk dk[i + k2]!)).toList.map u16v) := by exact hO619.cast rfl (set_arr (by first | omega | (simp only [Array.size_setIfInBounds, swp_sz]; omega)))
      refine reg_nil ?_
      refine hK609 _ _ ?_
      refine one_reg ?_
      refine op_move (ev_base hN595 rfl s595_3) ?_
      refine op_add (ev_hit hN595 rfl) rfl (add64 (by omega)) ?_
      refine op_assign (ev_hit hN595 rfl) ?_
      refine reg_nil ?_
      refine hK599 _ _ ?_
      refine one_reg ?_
      refine op_move (ev_base hN595 rfl s595_5) ?_
      refine op_add (ev_hit hN595 rfl) rfl (add64 (by omega)) ?_
      refine op_assign (ev_hit hN595 rfl) ?_
      refine reg_nil ?_
      -- round 8F 13T 25T 32T 44T
      have hk5 := dd_keep (d := d) (dk := dk) (i := i + k2) (k := kk) (by omega) (by omega) (by omega) (by omega) hdd hsame (by rw [← hsame (i + k2) (by omega), ← hsame (i + k2 - 1) (by omega)]; intro e; apply c44; rw [show i + (k2 - 1) = i + k2 - 1 by omega, e])
      rw [← hsame (i + k2) (by omega)] at hk5
      exact loop_next _ hN595 hd595 ⟨(k2 + 1), (kk + 1), _, rfl, (sl_base hN595 rfl s595_0), (sl_base hN595 rfl s595_4), (sl_hit hN595 rfl).trans (congrArg (Value.int .i64) (by omega)), (sl_hit hN595 rfl).trans (congrArg (Value.int .i64) (by omega)), (by first | assumption | (simp only [Array.size_setIfInBounds, swp_sz, siftDown_size]; assumption)), (by omega), hk5.1, hk5.2, hb, (by omega), hO619⟩ (by omega)
     · -- 44F
      have c44 := of_decide_eq_false c44
      refine wp_skip ?_
      refine hK599 _ _ ?_
      refine one_reg ?_
      refine op_move (ev_base hN595 rfl s595_5) ?_
      refine op_add (ev_hit hN595 rfl) rfl (add64 (by omega)) ?_
      refine op_assign (ev_hit hN595 rfl) ?_
      refine reg_nil ?_
      -- round 8F 13T 25T 32T 44F
      have hk5 := hdd
      exact loop_next _ hN595 hd595 ⟨(k2 + 1), kk, _, rfl, (sl_base hN595 rfl s595_0), (sl_base hN595 rfl s595_4), (sl_hit hN595 rfl).trans (congrArg (Value.int .i64) (by omega)), (sl_base hN595 rfl s595_3).trans (congrArg (Value.int .i64) (by omega)), (by first | assumption | (simp only [Array.size_setIfInBounds, swp_sz, siftDown_size]; assumption)), (by omega), (hdd.trans (by rw [← Nat.add_assoc, dd_step (by omega) (by omega), if_pos]; rw [← hsame (i + k2) (by omega), ← hsame (i + k2 - 1) (by omega), show i + k2 - 1 = i + (k2 - 1) by omega]; exact (u16_eq (Decidable.not_not.1 c44)).symm)), hsame, hb, (by omega), hO596⟩ (by omega)
    · -- 32F
     refine reg_nil ?_
     refine hK598 _ _ ?_
     refine wp_cond_false (ev_hit hN595 rfl) ?_
     refine wp_exit (then_exit (then_exit (blk_hit ?_)))
     refine hK593 _ _ ?_
     refine seq_any fun K620 hK620 => ?_
     refine one_reg ?_
     refine op_move (ev_base hN595 rfl s595_0) ?_
     refine op_move (ev_base hN595 rfl s595_3) ?_
     refine op_slice_tail (k := kk) slt22 (ev_hit hN595 rfl) hO596.rdw (by omega) (ev_hit hN595 rfl) (by omega) ?_
     refine op_clear_tail slt22 rfl rfl (ev_hit hN595 rfl) hO596 (by omega) ?_
     intro w621 hO622 E623
     have z_w621 := E623.size
     have hb := grow_stepX hb E623 rfl
     have hO622 : Own w621 base 35 1 v n ((clr dk kk).toList.map u16v) := hO622.cast rfl (clr_cs (by assumption))
     refine reg_nil ?_
     refine hK620 _ _ ?_
     refine seq_any fun K624 hK624 => ?_
     refine one_reg ?_
     refine op_move (ev_base hN595 rfl s595_0) ?_
     refine op_move (ev_base hN595 rfl s595_3) ?_
     have hfull : d.toList.take (i + k2) = d.toList := by rw [List.take_of_length_le]; simp; omega
     have hD : dk.toList.take kk = dd d.toList := by rw [hdd, hfull]
     have hDl : (dd d.toList).length = kk := by rw [← hD]; simp; omega
     refine op_slice_own_hi (m := kk) slt22 (ev_hit hN595 rfl) hO622 (ev_hit hN595 rfl) (by omega) (by omega) ?_
     intro v625 hO626 ho627
     have hO626 : Own w621 base 35 1 v625 kk (((dd d.toList)).map u16v) := by (simp only [Nat.mul_one] at hO626; rw [← List.map_take, clr_take (by omega), hD] at hO626; exact hO626)
     refine op_assign (ev_hit hN595 rfl) ?_
     refine reg_nil ?_
     refine hK624 _ _ ?_
     refine wp_ret (blk_ret (then_ret (then_ret (blk_ret (then_ret ( ?_))))))
     refine ret1 rfl hd595 (ev_hit hN595 rfl) ⟨_, rfl, ?_⟩
     -- path 8F 13T 25T 32F
     exact ⟨hb, (ho627.trans rfl), by rw [hDl]; exact hO626⟩
   · -- 25F
    have c25 := of_decide_eq_false c25
    refine wp_skip ?_
    refine hK582 _ _ ?_
    refine one_reg ?_
    refine op_move (ev_base hN579 rfl s579_3) ?_
    refine op_add (ev_hit hN579 rfl) rfl (add64 (by omega)) ?_
    refine op_assign (ev_hit hN579 rfl) ?_
    refine reg_nil ?_
    -- round 8F 13T 25F
    exact loop_next _ hN579 hd579 ⟨(i + 1), rfl, (sl_base hN579 rfl s579_0), (sl_hit hN579 rfl).trans (congrArg (Value.int .i64) (by omega)), (by omega), (dd_same (by omega) (by omega) hsm (fun e => c25 (by rw [e]))), hb, (by omega), O⟩ (by omega)
  · -- 13F
   refine reg_nil ?_
   refine hK581 _ _ ?_
   refine wp_cond_false (ev_hit hN579 rfl) ?_
   refine wp_exit (then_exit (then_exit (blk_hit ?_)))
   refine hK577 _ _ ?_
   refine seq_any fun K628 hK628 => ?_
   refine one_reg ?_
   refine op_move (ev_base hN579 rfl s579_0) ?_
   refine op_assign (ev_hit hN579 rfl) ?_
   refine reg_nil ?_
   refine hK628 _ _ ?_
   refine wp_ret ?_
   refine ret1 rfl hd579 (ev_hit hN579 rfl) ⟨_, rfl, ?_⟩
   -- path 8F 13F
   have hzl : d.toList.length = n := by simp; assumption
   exact ⟨hb, rfl, by rw [dd_full (n := n) (by assumption) (by rw [show n = i by omega]; exact hsm), hzl]; exact O⟩

end Go.Proofs.Ytpmnljffdofkeaa

/- The one rising list of what a list holds. -/
namespace Go.Proofs.Ytpmnljffdofkeaa
open Go.Gx Go.Sort Go.RowKit
theorem dd_mem (x : UInt16) : ∀ (l : List UInt16), x ∈ dd l ↔ x ∈ l
  | [] => Iff.rfl
  | [_] => Iff.rfl
  | a :: b :: r => by
    have ih := dd_mem x (b :: r)
    rw [dd]
    by_cases h : a = b
    · subst h; rw [if_pos rfl, ih]; simp
    · rw [if_neg h, List.mem_cons, ih, List.mem_cons (a := x) (b := a)]
theorem dd_rise : ∀ (l : List UInt16), l.Pairwise (fun a b => a.toNat ≤ b.toNat) → Rise (dd l)
  | [], _ => List.Pairwise.nil
  | [a], _ => List.pairwise_singleton _ _
  | a :: b :: r, h => by
    have h2 := List.pairwise_cons.1 h
    have ih := dd_rise (b :: r) h2.2
    rw [dd]
    by_cases e : a = b
    · rw [if_pos e]; exact ih
    · rw [if_neg e]
      refine List.pairwise_cons.2 ⟨fun z hz => ?_, ih⟩
      rw [dd_mem] at hz
      have hab := h2.1 b (by simp)
      have hne : a.toNat ≠ b.toNat := fun q => e (UInt16.toNat_inj.1 q)
      rcases List.mem_cons.1 hz with rfl | hz
      · omega
      · have := (List.pairwise_cons.1 h2.2).1 z hz; omega
theorem rise_ext : ∀ {a b : Lb}, Rise a → Rise b → (∀ x, x ∈ a ↔ x ∈ b) → a = b
  | [], [], _, _, _ => rfl
  | [], y :: b, _, _, h => by have := (h y).2 (by simp); simp at this
  | x :: a, [], _, _, h => by have := (h x).1 (by simp); simp at this
  | x :: a, y :: b, ha, hb, h => by
    have ha' := List.pairwise_cons.1 ha
    have hb' := List.pairwise_cons.1 hb
    have e : x = y := by
      rcases List.mem_cons.1 ((h x).1 (by simp)) with q | q
      · exact q
      · rcases List.mem_cons.1 ((h y).2 (by simp)) with q' | q'
        · exact q'.symm
        · have := hb'.1 x q; have := ha'.1 y q'; omega
    subst e
    rw [rise_ext ha'.2 hb'.2 fun z => ?_]
    have hz := h z
    simp only [List.mem_cons] at hz
    constructor
    · intro q
      rcases hz.1 (.inr q) with r | r
      · subst r; have := ha'.1 z q; omega
      · exact r
    · intro q
      rcases hz.2 (.inr q) with r | r
      · subst r; have := hb'.1 z q; omega
      · exact r
def insT (x : UInt16) : Lb → Lb
  | [] => [x]
  | y :: r => if y.toNat < x.toNat then y :: insT x r else if y = x then y :: r else x :: y :: r
theorem insT_mem (x z : UInt16) : ∀ (l : Lb), z ∈ insT x l ↔ z = x ∨ z ∈ l
  | [] => by simp [insT]
  | y :: r => by
    rw [insT]
    split
    · rw [List.mem_cons, insT_mem x z r, List.mem_cons]; constructor <;> rintro (h | h | h) <;> simp [h]
    · split
      · rename_i h; subst h; simp
      · simp
theorem insT_rise {x : UInt16} : ∀ {l : Lb}, Rise l → Rise (insT x l)
  | [], _ => List.pairwise_singleton _ _
  | y :: r, h => by
    have h' := List.pairwise_cons.1 h
    rw [insT]
    split
    · refine List.pairwise_cons.2 ⟨fun z hz => ?_, insT_rise h'.2⟩
      rcases (insT_mem x z r).1 hz with rfl | hz
      · assumption
      · exact h'.1 z hz
    · split
      · exact h
      · rename_i h1 h2
        have hne : y.toNat ≠ x.toNat := fun q => h2 (UInt16.toNat_inj.1 q)
        refine List.pairwise_cons.2 ⟨fun z hz => ?_, h⟩
        rcases List.mem_cons.1 hz with rfl | hz
        · omega
        · have := h'.1 z hz; omega
def nrm (l : Lb) : Lb := l.foldl (fun acc x => insT x acc) []
theorem nrm_go : ∀ (l acc : Lb), Rise acc → Rise (l.foldl (fun acc x => insT x acc) acc) ∧ ∀ z, z ∈ l.foldl (fun acc x => insT x acc) acc ↔ z ∈ acc ∨ z ∈ l
  | [], acc, h => ⟨h, fun z => by simp⟩
  | x :: l, acc, h => by
    obtain ⟨h1, h2⟩ := nrm_go l (insT x acc) (insT_rise h)
    refine ⟨h1, fun z => ?_⟩
    rw [List.foldl_cons, h2, insT_mem, List.mem_cons]
    constructor
    · rintro ((h | h) | h) <;> simp [h]
    · rintro (h | h | h) <;> simp [h]
theorem nrm_rise (l : Lb) : Rise (nrm l) := (nrm_go l [] rise_nil).1
theorem nrm_mem (l : Lb) (z : UInt16) : z ∈ nrm l ↔ z ∈ l := by have := (nrm_go l [] rise_nil).2 z; simpa [nrm] using this
theorem nrm_of {l a : Lb} (h : Rise a) (hm : ∀ z, z ∈ a ↔ z ∈ l) : a = nrm l := rise_ext h (nrm_rise l) fun z => (hm z).trans (nrm_mem l z).symm
theorem nrm_id {l : Lb} (h : Rise l) : nrm l = l := (nrm_of h fun _ => Iff.rfl).symm
theorem nrm_congr {a b : Lb} (h : ∀ z, z ∈ a ↔ z ∈ b) : nrm a = nrm b := nrm_of (nrm_rise a) fun z => (nrm_mem a z).trans (h z)
theorem sort_nrm {d d' : Ar} {n : Nat} (hd : d.size = n) (hp : PI 0 n d d') (hs : SortedIn ltT 0 n d') : dd d'.toList = nrm d.toList := by
  have hz : d'.size = n := hp.sz.trans hd
  have e1 : d.extract 0 n = d := by rw [← hd]; exact Array.extract_size
  have e2 : d'.extract 0 n = d' := by rw [← hz]; exact Array.extract_size
  have hperm := hp.2.2
  rw [e1, e2] at hperm
  refine nrm_of (dd_rise _ ?_) fun z => (dd_mem z _).trans hperm.mem_iff
  rw [List.pairwise_iff_getElem]
  intro i j hi hj hij
  have hi' : i < d'.size := by simpa using hi
  have hj' : j < d'.size := by simpa using hj
  have := hs i j (Nat.zero_le _) hij (by omega)
  simp only [ltT, decide_eq_false_iff_not] at this
  have a1 : d'[i]! = d'.toList[i] := by simp [hi']
  have a2 : d'[j]! = d'.toList[j] := by simp [hj']
  rw [a1, a2] at this
  omega
theorem take_nrm {l : Lb} {i : Nat} (h : i < l.length) : nrm (l.take (i + 1)) = insT (l.getD i 0) (nrm (l.take i)) := by
  have e : l.take (i + 1) = l.take i ++ [l.getD i 0] := by
    rw [List.take_add_one, List.getElem?_eq_getElem h]; simp [h]
  rw [e, nrm, List.foldl_append]; rfl
end Go.Proofs.Ytpmnljffdofkeaa

/- Walks, written by a program: what each function of the translation hands back. -/
namespace Go.Proofs.Ytpmnljffdofkeaa
open Go.Gx Go.RowKit
attribute [local irreducible] wpList wpStill Code.wp Calls
open Go.Sort (insertionSort insOuter insInner swp siftDown heapSort heapBuild heapPop scanUp scanDown partition partLoop partitionEqual partEqLoop scanSorted partialIns bitsLen partialInsertionSort shiftDown shiftUp SortedIn reverseRange reverseLoop fixDown fixUp)
theorem cloneW_ret (l : Lb) (v : Value) (w : World) (hz : l.length ≤ 1000000000000) (hl : RdC w 0 w.heap.size 1 v l.length (l.map u16v)) : Ret Try.prog 56 #[v] w (fun v' w' => Below w.heap.size w w' ∧ Own w' w.heap.size 35 1 v' l.length (l.map u16v)) := by
 have hb := Below.refl w.heap.size w
 refine enter (N := 8) Try.func56 rfl rfl (by simp) fun a0 hN hd hA => ?_
 have s0 : a0.tmps.getD 0 undef = v := hA 0 (by simp)
 clear hA
 refine seq_any fun K629 hK629 => ?_
 refine one_reg ?_
 refine op_assign rfl ?_
 refine reg_nil ?_
 refine hK629 _ _ ?_
 refine seq_any fun K630 hK630 => ?_
 refine seq_any fun K631 hK631 => ?_
 refine one_reg ?_
 refine op_move (ev_base hN rfl s0) ?_
 refine op_eql_nil slt22 (ev_hit hN rfl) rfl hl (fun c4 => ?_) ?_
 · -- 4T
  refine reg_nil ?_
  refine hK631 _ _ ?_
  refine wp_cond_true (ev_hit hN rfl) ?_
  refine seq_any fun K632 hK632 => ?_
  refine one_reg ?_
  refine op_assign rfl ?_
  refine reg_nil ?_
  refine hK632 _ _ ?_
  refine wp_ret (then_ret ( ?_))
  refine ret1 rfl hd (ev_hit hN rfl) ⟨_, rfl, ?_⟩
  -- path 4T
  exact ⟨hb, by rw [List.length_eq_zero_iff.1 c4]; exact Own.nil _ _ _ _⟩
 · -- 4F
  refine reg_nil ?_
  refine hK631 _ _ ?_
  refine wp_cond_false (ev_hit hN rfl) ?_
  refine wp_skip ?_
  refine hK630 _ _ ?_
  refine seq_any fun K633 hK633 => ?_
  refine one_reg ?_
  refine op_bslice (e := 35) (pv := []) (cs := []) trivial (by kernel_rfl) ?_
  intro w634 b635 lo_b635 hi_b635 hB637 E636
  have z_w634 := E636.size
  have hl := hl.keep0 E636
  have hb := below_step0 hb E636 hb.size
  refine op_move (ev_base hN rfl s0) ?_
  have hP643 := (Own.ofBx (base := w.heap.size) (sz := 1) (n := 0) hB637 rfl (by decide) (by omega))
  refine op_append slt22 (ev_hit hN rfl) hP643 (ev_hit hN rfl) (Src.ofRd Try.underlying22 (by decide) hl (one_u16 _)) (by unfold maxLen; omega) (by omega) hb.size ?_
  intro v638 w639 hO641 E640 hm642
  have z_w639 := E640.size
  have hl := hl.keepO hP643 E640 (by omega)
  have hb := below_stepO hb hP643 E640 hb.size (by omega)
  have hO641 : Own w639 w.heap.size 35 1 v638 (0 + l.length) ((l).map u16v) := by simpa [u8v, u16v, cellsV] using hO641
  refine op_assign (ev_hit hN rfl) ?_
  refine reg_nil ?_
  refine hK633 _ _ ?_
  refine wp_ret ?_
  refine ret1 rfl hd (ev_hit hN rfl) ⟨_, rfl, ?_⟩
  -- path 4F
  exact ⟨hb, hO641.cast (by simp) (by simp)⟩

theorem sortW_ret (d : Ar) (v : Value) (n base : Nat) (z0 : Nat) (w : World) (hd : d.size = n) (hn : n ≤ 4000000000000000000) (O : Own w base 35 1 v n (d.toList.map u16v)) : Ret Try.prog 57 #[v] w (fun v' w' => w.grownBy w' v.ownBlock ∧ v' = .tuple #[] ∧ ∃ d', PI 0 n d d' ∧ SortedIn ltT 0 n d' ∧ Own w' base 35 1 v n (d'.toList.map u16v)) := by
 have hb := grown_refl w v.ownBlock
 refine enter (N := 11) Try.func57 rfl rfl (by simp) fun a0 hN hd hA => ?_
 have s0 : a0.tmps.getD 0 undef = v := hA 0 (by simp)
 clear hA
 refine seq_any fun K644 hK644 => ?_
 refine one_reg ?_
 refine op_move (ev_base hN rfl s0) ?_
 refine op_len_rd Try.underlying22 (ev_hit hN rfl) O.rdw ?_
 refine op_assign (ev_hit hN rfl) ?_
 refine reg_nil ?_
 refine hK644 _ _ ?_
 refine one_reg ?_
 refine op_move (ev_base hN rfl s0) ?_
 refine op_move (ev_hit hN rfl) ?_
 refine op_move (ev_hit hN rfl) ?_
 refine op_conv (r := ((n : Nat) : Int)) (ev_hit hN rfl) us3 Try.underlying60 (wrap_u64 (by omega)) ?_
 have hbl : bitsLen n ≤ 62 := (Go.Sort.bitsLen_le_iff n 62).2 (by omega)
 refine op_fn (vs := [(Value.int .u64 ((n : Nat) : Int))]) ok64 ⟨(ev_hit hN rfl), trivial⟩ (lenW_ret n _ (by omega)) ?_
 rintro _ w645 ⟨E646, rfl⟩
 have E646 := grown_of_below E646
 have z_w645 := E646.size
 have O := O.keep0 E646
 have hb := grow_step0 hb E646
 refine op_fn (vs := [v, (Value.int .i64 0), (Value.int .i64 ((n : Nat) : Int)), (Value.int .i64 (((bitsLen n) : Nat) : Int))]) ok63 ⟨(ev_hit hN rfl), ⟨rfl, ⟨(ev_hit hN rfl), ⟨(ev_hit hN rfl), trivial⟩⟩⟩⟩ (pdqW_ret d _ _ _ 0 n ((bitsLen n)) _ (by first | assumption | (simp only [Array.size_setIfInBounds, swp_sz, siftDown_size]; assumption)) (by omega) (by omega) (by omega) (by omega) (.inl rfl) O) ?_
 rintro _ w648 ⟨E649, rfl, dd647, hpi647, hso647, hO647⟩
 have z_w648 := E649.size
 have hb := grow_stepX hb E649 rfl
 refine reg_nil ?_
 refine end_ret ?_
 refine ret0 rfl hd  ⟨_, rfl, ?_⟩
 -- path
 exact ⟨hb, rfl, _, hpi647, hso647, hO647⟩

theorem sortedW_ret (l : Lb) (v : Value) (w : World) (hz : l.length ≤ 1000000000000) (hl : RdC w 0 w.heap.size 1 v l.length (l.map u16v)) : Ret Try.prog 46 #[v] w (fun v' w' => Below w.heap.size w w' ∧ Own w' w.heap.size 35 1 v' (nrm l).length ((nrm l).map u16v)) := by
 have hb := Below.refl w.heap.size w
 refine enter (N := 10) Try.func46 rfl rfl (by simp) fun a0 hN hd hA => ?_
 have s0 : a0.tmps.getD 0 undef = v := hA 0 (by simp)
 clear hA
 refine seq_any fun K650 hK650 => ?_
 refine one_reg ?_
 refine op_assign rfl ?_
 refine reg_nil ?_
 refine hK650 _ _ ?_
 refine seq_any fun K651 hK651 => ?_
 refine one_reg ?_
 refine op_move (ev_base hN rfl s0) ?_
 refine op_fn (vs := [v]) ok56 ⟨(ev_hit hN rfl), trivial⟩ (cloneW_ret l _ _ (by omega) (show RdC w 0 w.heap.size 1 v l.length (l.map u16v) from by have hh : RdC w 0 w.heap.size 1 _ _ _ := (hl.mono (L' := 0) (B' := w.heap.size) (Nat.zero_le _) (by omega)); first | exact hh | exact hh.cast (by first | omega | (simp; try omega)) (by first | rfl | simp [u16v]))) ?_
 rintro v652 w653 ⟨E654, hO652⟩
 have E654 := grown_of_below E654
 have z_w653 := E654.size
 have hl := hl.keep0 E654
 have hb := below_step0 hb E654 hb.size
 have hO652 := hO652.mono (base' := w.heap.size) (by omega)
 refine op_assign (ev_hit hN rfl) ?_
 refine reg_nil ?_
 refine hK651 _ _ ?_
 refine seq_any fun K655 hK655 => ?_
 refine one_reg ?_
 refine op_move (ev_hit hN rfl) ?_
 refine op_fn (vs := [v652]) ok57 ⟨(ev_hit hN rfl), trivial⟩ (sortW_ret l.toArray _ l.length _ 0 _ (by simp) (by omega) hO652) ?_
 rintro _ w657 ⟨E658, rfl, dd656, hpi656, hso656, hO656⟩
 have z_w657 := E658.size
 have hl := hl.keepO hO652 E658 (by omega)
 have hb := below_stepO hb hO652 E658 hb.size (by omega)
 have hsn : dd dd656.toList = nrm l := sort_nrm (by simp) hpi656 hso656
 have hsz : dd656.size = l.length := (PI.sz hpi656).trans (by simp)
 refine reg_nil ?_
 refine hK655 _ _ ?_
 refine seq_any fun K659 hK659 => ?_
 refine one_reg ?_
 refine op_move (ev_hit hN rfl) ?_
 refine op_fn (vs := [v652]) ok58 ⟨(ev_hit hN rfl), trivial⟩ (compW_ret dd656 _ l.length _ 0 _ (by first | assumption | (simp only [Array.size_setIfInBounds, swp_sz, siftDown_size]; assumption)) (by omega) hO656) ?_
 rintro v660 w661 ⟨E662, hob660, hO660⟩
 have z_w661 := E662.size
 have hl := hl.keepO hO656 E662 (by omega)
 have hb := below_stepO hb hO656 E662 hb.size (by omega)
 refine op_assign (ev_hit hN rfl) ?_
 refine reg_nil ?_
 refine hK659 _ _ ?_
 refine wp_ret ?_
 refine ret1 rfl hd (ev_hit hN rfl) ⟨_, rfl, ?_⟩
 -- path
 rw [hsn] at hO660
 exact ⟨hb, hO660⟩

end Go.Proofs.Ytpmnljffdofkeaa

/- Labels taken apart and put together, plainly. -/
namespace Go.Proofs.Ytpmnljffdofkeaa
open Go.Gx Go.RowKit
def inL (x : UInt16) (m : Lb) : Bool := decide (x ∈ m)
def ninL (x : UInt16) (m : Lb) : Bool := !inL x m
def minusL (l m : Lb) : Lb := l.filter (fun x => ninL x m)
def meetL (l m : Lb) : Lb := l.filter (fun x => inL x m)
def flowsL (l m : Lb) : Bool := l.all (fun x => inL x m)
theorem in_t {x : UInt16} {m : Lb} {i : Nat} (h : i < m.length) (e : (m.getD i 0) = x) : inL x m = true := by
  subst e; unfold inL; simp [h]
theorem in_f {x : UInt16} {m : Lb} {i : Nat} (hi : m.length ≤ i) (h : ∀ j, j < i → m.getD j 0 ≠ x) : inL x m = false := by
  unfold inL
  rw [decide_eq_false_iff_not]
  intro hm
  obtain ⟨j, hj, e⟩ := List.getElem_of_mem hm
  exact h j (by omega) (by simp [hj, e])
theorem no_step {x : UInt16} {m : Lb} {i : Nat} (h : ∀ j, j < i → m.getD j 0 ≠ x) (e : ¬ m.getD i 0 = x) : ∀ j, j < i + 1 → m.getD j 0 ≠ x := fun j hj => by
  by_cases q : j = i
  · subst q; exact e
  · exact h j (by omega)
theorem lb_take {l : Lb} {i : Nat} (h : i < l.length) : l.take (i + 1) = l.take i ++ [l.getD i 0] := by
  rw [List.take_add_one, List.getElem?_eq_getElem h]; simp [h]
theorem filter_t {l : Lb} {i : Nat} {p : UInt16 → Bool} (h : i < l.length) (hp : p (l.getD i 0) = true) : (l.take (i + 1)).filter p = (l.take i).filter p ++ [l.getD i 0] := by
  rw [lb_take h, List.filter_append, List.filter_cons, if_pos hp]; rfl
theorem filter_f {l : Lb} {i : Nat} {p : UInt16 → Bool} (h : i < l.length) (hp : p (l.getD i 0) = false) : (l.take (i + 1)).filter p = (l.take i).filter p := by
  rw [lb_take h, List.filter_append, List.filter_cons, if_neg (by rw [hp]; decide), List.filter_nil, List.append_nil]
theorem filter_le {l : Lb} {i : Nat} {p : UInt16 → Bool} : ((l.take i).filter p).length ≤ i := Nat.le_trans (List.length_filter_le _ _) (by simp; omega)
theorem all_f {l : Lb} {i : Nat} {p : UInt16 → Bool} (h : i < l.length) (hp : p (l.getD i 0) = false) : l.all p = false := by
  rw [List.all_eq_false]
  exact ⟨l.getD i 0, by simp [h], by simpa using hp⟩
theorem all_step {l : Lb} {i : Nat} {p : UInt16 → Bool} (h : i < l.length) (ha : (l.take i).all p = true) (hp : p (l.getD i 0) = true) : (l.take (i + 1)).all p = true := by
  rw [lb_take h, List.all_append, ha]; simp only [List.all_cons, List.all_nil, hp]; rfl
theorem all_end {l : Lb} {i : Nat} {p : UInt16 → Bool} (h : l.length ≤ i) (ha : (l.take i).all p = true) : l.all p = true := by
  rwa [List.take_of_length_le h] at ha
theorem flows_minus (l m : Lb) : flowsL l m = decide ((minusL l m).length = 0) := by
  unfold flowsL minusL ninL
  rw [Bool.eq_iff_iff, decide_eq_true_iff, List.length_eq_zero_iff, List.filter_eq_nil_iff]
  simp
theorem take_all (l : Lb) {i : Nat} (h : l.length ≤ i) : l.take i = l := List.take_of_length_le h
theorem insT_at {x : UInt16} : ∀ {acc : Lb} {j : Nat}, (∀ k, k < j → (acc.getD k 0).toNat < x.toNat) → j ≤ acc.length → (j = acc.length ∨ ¬ (acc.getD j 0).toNat < x.toNat) →
    ((¬ j = acc.length ∧ acc.getD j 0 = x → insT x acc = acc) ∧ (j = acc.length ∨ acc.getD j 0 ≠ x → insT x acc = acc.take j ++ [x] ++ acc.drop j))
  | [], j, _, h2, _ => by
    have : j = 0 := by simpa using h2
    subst this
    exact ⟨fun h => absurd rfl h.1, fun _ => rfl⟩
  | y :: r, 0, _, _, h3 => by
    have hy : ¬ y.toNat < x.toNat := by simpa using h3
    refine ⟨fun h => ?_, fun h => ?_⟩
    · have e : y = x := by simpa using h.2
      rw [insT, if_neg hy, if_pos e]
    · have e : ¬ y = x := by simpa using h
      rw [insT, if_neg hy, if_neg e]; rfl
  | y :: r, j + 1, h1, h2, h3 => by
    have hy : y.toNat < x.toNat := by simpa using h1 0 (by omega)
    obtain ⟨g1, g2⟩ := insT_at (acc := r) (j := j) (fun k hk => by simpa using h1 (k + 1) (by omega)) (by simpa using h2) (by simpa using h3)
    refine ⟨fun h => ?_, fun h => ?_⟩
    · rw [insT, if_pos hy, g1 (by simpa using h)]
    · rw [insT, if_pos hy, g2 (by simpa using h)]; simp
theorem lt_step {x : UInt16} {acc : Lb} {j : Nat} (h : ∀ k, k < j → (acc.getD k 0).toNat < x.toNat) (e : (acc.getD j 0).toNat < x.toNat) : ∀ k, k < j + 1 → (acc.getD k 0).toNat < x.toNat := fun k hk => by
  by_cases q : k = j
  · subst q; exact e
  · exact h k (by omega)
theorem insT_len {x : UInt16} : ∀ {acc : Lb}, (insT x acc).length ≤ acc.length + 1
  | [] => by simp [insT]
  | y :: r => by
    have := insT_len (x := x) (acc := r)
    rw [insT]; split
    · simp; omega
    · split <;> simp
theorem nrm_len {l : Lb} {i : Nat} (h : i ≤ l.length) : (nrm (l.take i)).length ≤ i := by
  induction i with
  | zero => simp [nrm]
  | succ i ih => rw [take_nrm (by omega)]; have := insT_len (x := l.getD i 0) (acc := nrm (l.take i)); have := ih (by omega); omega
theorem nrm_lenL (l : Lb) : (nrm l).length ≤ l.length := by have := nrm_len (l := l) (Nat.le_refl _); rwa [List.take_length] at this
theorem nin_t {x : UInt16} {m : Lb} (h : inL x m = false) : ninL x m = true := by unfold ninL; rw [h]; rfl
theorem nin_f {x : UInt16} {m : Lb} (h : inL x m = true) : ninL x m = false := by unfold ninL; rw [h]; rfl
end Go.Proofs.Ytpmnljffdofkeaa

/- Walks, written by a program: what each function of the translation hands back. -/
namespace Go.Proofs.Ytpmnljffdofkeaa
open Go.Gx Go.RowKit
attribute [local irreducible] wpList wpStill Code.wp Calls
open Go.Sort (bitsLen)
theorem indexW_ret (l : Lb) (x : UInt16) (v : Value) (w : World) (hz : l.length ≤ 1000000000000) (hl : RdC w 0 w.heap.size 1 v l.length (l.map u16v)) : Ret Try.prog 60 #[v, (Value.int .u16 (x.toNat : Int))] w (fun v' w' => (∃ z : Int, v' = .int .i64 z ∧ decide (0 ≤ z) = inL x l) ∧ w' = w) := by
 have hb := Below.refl w.heap.size w
 refine enter (N := 19) Try.func60 rfl rfl (by simp) fun a0 hN hd hA => ?_
 have s0 : a0.tmps.getD 0 undef = v := hA 0 (by simp)
 have s1 : a0.tmps.getD 1 undef = (Value.int .u16 (x.toNat : Int)) := hA 1 (by simp)
 clear hA
 refine seq_any fun K663 hK663 => ?_
 refine one_reg ?_
 refine op_assign rfl ?_
 refine reg_nil ?_
 refine hK663 _ _ ?_
 refine seq_any fun K664 hK664 => ?_
 refine seq_any fun K665 hK665 => ?_
 refine one_reg ?_
 refine op_move (ev_base hN rfl s0) ?_
 refine op_len_rd Try.underlying23 (ev_hit hN rfl) hl ?_
 refine op_move rfl ?_
 refine reg_nil ?_
 refine hK665 _ _ ?_
 refine wp_block ?_
 refine loop_m (fun mz_ az_ w' => ∃ (i : Nat), mz_ = l.length - i ∧ (az_.tmps.getD 0 undef = v) ∧ (az_.tmps.getD 1 undef = (Value.int .u16 (x.toNat : Int))) ∧ (az_.tmps.getD 7 undef = (Value.int .i64 ((l.length : Nat) : Int))) ∧ (az_.tmps.getD 8 undef = (Value.int .i64 ((i : Nat) : Int))) ∧ (i ≤ l.length) ∧ (∀ j9, j9 < i → l.getD j9 0 ≠ x) ∧ w = w') _ hN hd ⟨0, rfl, (sl_base hN rfl s0), (sl_base hN rfl s1), (sl_hit hN rfl), (sl_hit hN rfl).trans (congrArg (Value.int .i64) (by omega)), Nat.zero_le _, (fun j9 h9 => absurd h9 (Nat.not_lt_zero _)), rfl⟩ ?_
 rintro _ a666 _ hN666 hd666 ⟨i, rfl, s666_0, s666_1, s666_7, s666_8, hi, hno, rfl⟩
 refine seq_any fun K667 hK667 => ?_
 refine one_reg ?_
 refine op_lss (ev_base hN666 rfl s666_8) (ev_base hN666 rfl s666_7) (fun c9 => ?_) (fun c9 => ?_)
 · -- 9T
  refine reg_nil ?_
  refine hK667 _ _ ?_
  refine seq_any fun K668 hK668 => ?_
  refine wp_cond_true (ev_hit hN666 rfl) ?_
  refine wp_skip ?_
  refine hK668 _ _ ?_
  refine seq_any fun K669 hK669 => ?_
  refine wp_block ?_
  refine seq_any fun K670 hK670 => ?_
  refine one_reg ?_
  refine op_move (ev_base hN666 rfl s666_8) ?_
  refine op_assign (ev_hit hN666 rfl) ?_
  refine reg_nil ?_
  refine hK670 _ _ ?_
  refine seq_any fun K671 hK671 => ?_
  refine one_reg ?_
  refine op_move (ev_base hN666 rfl s666_1) ?_
  refine op_move (ev_base hN666 rfl s666_0) ?_
  refine op_move (ev_hit hN666 rfl) ?_
  refine op_index_rd slt23 (ev_hit hN666 rfl) hl (ev_hit hN666 rfl) (by omega) (by omega) ?_
  intro b672 o673 h0b672 h1b672 hc674
  refine op_load1 (v := (Value.int .u16 ((l.getD i 0).toNat : Int))) one35 (ev_hit hN666 rfl) (by have := hc674 0 (Value.int .u16 ((l.getD i 0).toNat : Int)) (by decide) (el_u16 (i := i) (by omega) (by omega)); simpa using this) ?_
  refine op_eql (ev_hit hN666 rfl) (ev_hit hN666 rfl) (fun c16 => ?_) (fun c16 => ?_)
  · -- 16T
   refine reg_nil ?_
   refine hK671 _ _ ?_
   refine wp_cond_true (ev_hit hN666 rfl) ?_
   refine seq_any fun K675 hK675 => ?_
   refine one_reg ?_
   refine op_move (ev_hit hN666 rfl) ?_
   refine op_assign (ev_hit hN666 rfl) ?_
   refine reg_nil ?_
   refine hK675 _ _ ?_
   refine wp_ret (blk_ret (then_ret (then_ret (blk_ret (then_ret ( ?_))))))
   refine ret1 rfl hd666 (ev_hit hN666 rfl) ⟨_, rfl, ?_⟩
   -- path 9T 16T
   exact ⟨⟨_, rfl, by rw [in_t (i := i) (by omega) (u16_eq c16).symm]; exact decide_eq_true (by omega)⟩, rfl⟩
  · -- 16F
   refine reg_nil ?_
   refine hK671 _ _ ?_
   refine wp_cond_false (ev_hit hN666 rfl) ?_
   refine wp_skip ?_
   refine hK669 _ _ ?_
   refine one_reg ?_
   refine op_add (ev_base hN666 rfl s666_8) rfl (add64 (by omega)) ?_
   refine op_move (ev_hit hN666 rfl) ?_
   refine reg_nil ?_
   -- round 9T 16F
   exact loop_next _ hN666 hd666 ⟨i + 1, rfl, (sl_base hN666 rfl s666_0), (sl_base hN666 rfl s666_1), (sl_base hN666 rfl s666_7), (sl_hit hN666 rfl).trans (congrArg (Value.int .i64) (by omega)), (by omega), (no_step hno (fun e9 => c16 (by rw [e9]))), rfl⟩ (by omega)
 · -- 9F
  refine reg_nil ?_
  refine hK667 _ _ ?_
  refine seq_any fun K676 hK676 => ?_
  refine wp_cond_false (ev_hit hN666 rfl) ?_
  refine wp_exit (then_exit (then_exit (blk_hit ?_)))
  refine hK664 _ _ ?_
  refine seq_any fun K677 hK677 => ?_
  refine one_reg ?_
  refine op_assign rfl ?_
  refine reg_nil ?_
  refine hK677 _ _ ?_
  refine wp_ret ?_
  refine ret1 rfl hd666 (ev_hit hN666 rfl) ⟨_, rfl, ?_⟩
  -- path 9F
  exact ⟨⟨_, rfl, by rw [in_f (i := i) (by omega) hno]; rfl⟩, rfl⟩

theorem contW_ret (l : Lb) (x : UInt16) (v : Value) (w : World) (hz : l.length ≤ 1000000000000) (hl : RdC w 0 w.heap.size 1 v l.length (l.map u16v)) : Ret Try.prog 51 #[v, (Value.int .u16 (x.toNat : Int))] w (fun v' w' => v' = .bool (inL x l) ∧ w' = w) := by
 have hb := Below.refl w.heap.size w
 refine enter (N := 9) Try.func51 rfl rfl (by simp) fun a0 hN hd hA => ?_
 have s0 : a0.tmps.getD 0 undef = v := hA 0 (by simp)
 have s1 : a0.tmps.getD 1 undef = (Value.int .u16 (x.toNat : Int)) := hA 1 (by simp)
 clear hA
 refine seq_any fun K678 hK678 => ?_
 refine one_reg ?_
 refine op_assign rfl ?_
 refine reg_nil ?_
 refine hK678 _ _ ?_
 refine seq_any fun K679 hK679 => ?_
 refine one_reg ?_
 refine op_move (ev_base hN rfl s0) ?_
 refine op_move (ev_base hN rfl s1) ?_
 refine op_fn (vs := [v, (Value.int .u16 (x.toNat : Int))]) ok60 ⟨(ev_hit hN rfl), ⟨(ev_hit hN rfl), trivial⟩⟩ (Ret.flip (indexW_ret l x _ _ (by omega) (show RdC w 0 w.heap.size 1 v l.length (l.map u16v) from by have hh : RdC w 0 w.heap.size 1 _ _ _ := (hl.mono (L' := 0) (B' := w.heap.size) (Nat.zero_le _) (by omega)); first | exact hh | exact hh.cast (by first | omega | (simp; try omega)) (by first | rfl | simp [u16v])))) ?_
 rintro _ _ ⟨⟨zi680, rfl, hzi680⟩, rfl⟩
 refine op_geq (ev_hit hN rfl) rfl (fun c8 => ?_) (fun c8 => ?_)
 · -- 8T
  refine op_assign (ev_hit hN rfl) ?_
  refine reg_nil ?_
  refine hK679 _ _ ?_
  refine wp_ret ?_
  refine ret1 rfl hd (ev_hit hN rfl) ⟨_, rfl, ?_⟩
  -- path 8T
  exact ⟨congrArg Value.bool (by rw [← hzi680]; simp; omega), rfl⟩
 · -- 8F
  refine op_assign (ev_hit hN rfl) ?_
  refine reg_nil ?_
  refine hK679 _ _ ?_
  refine wp_ret ?_
  refine ret1 rfl hd (ev_hit hN rfl) ⟨_, rfl, ?_⟩
  -- path 8F
  exact ⟨congrArg Value.bool (by rw [← hzi680]; simp; omega), rfl⟩

theorem rinW_ret (l : Lb) (x : UInt16) (v : Value) (w : World) (hz : l.length ≤ 1000000000000) (hl : RdC w 0 w.heap.size 1 v l.length (l.map u16v)) : Ret Try.prog 44 #[v, (Value.int .u16 (x.toNat : Int))] w (fun v' w' => v' = .bool (inL x l) ∧ w' = w) := by
 have hb := Below.refl w.heap.size w
 refine enter (N := 18) Try.func44 rfl rfl (by simp) fun a0 hN hd hA => ?_
 have s0 : a0.tmps.getD 0 undef = v := hA 0 (by simp)
 have s1 : a0.tmps.getD 1 undef = (Value.int .u16 (x.toNat : Int)) := hA 1 (by simp)
 clear hA
 refine seq_any fun K681 hK681 => ?_
 refine one_reg ?_
 refine op_assign rfl ?_
 refine reg_nil ?_
 refine hK681 _ _ ?_
 refine seq_any fun K682 hK682 => ?_
 refine seq_any fun K683 hK683 => ?_
 refine one_reg ?_
 refine op_assign rfl ?_
 refine reg_nil ?_
 refine hK683 _ _ ?_
 refine wp_block ?_
 refine loop_m (fun mz_ az_ w' => ∃ (i : Nat), mz_ = l.length - i ∧ (az_.tmps.getD 0 undef = v) ∧ (az_.tmps.getD 1 undef = (Value.int .u16 (x.toNat : Int))) ∧ (az_.tmps.getD 5 undef = (Value.int .i64 ((i : Nat) : Int))) ∧ (i ≤ l.length) ∧ (∀ j9, j9 < i → l.getD j9 0 ≠ x) ∧ w = w') _ hN hd ⟨0, rfl, (sl_base hN rfl s0), (sl_base hN rfl s1), (sl_hit hN rfl).trans (congrArg (Value.int .i64) (by omega)), Nat.zero_le _, (fun j9 h9 => absurd h9 (Nat.not_lt_zero _)), rfl⟩ ?_
 rintro _ a684 _ hN684 hd684 ⟨i, rfl, s684_0, s684_1, s684_5, hi, hno, rfl⟩
 refine seq_any fun K685 hK685 => ?_
 refine seq_any fun K686 hK686 => ?_
 refine one_reg ?_
 refine op_move (ev_base hN684 rfl s684_5) ?_
 refine op_move (ev_base hN684 rfl s684_0) ?_
 refine op_len_rd Try.underlying22 (ev_hit hN684 rfl) hl ?_
 refine op_lss (ev_hit hN684 rfl) (ev_hit hN684 rfl) (fun c9 => ?_) (fun c9 => ?_)
 · -- 9T
  refine reg_nil ?_
  refine hK686 _ _ ?_
  refine wp_cond_true (ev_hit hN684 rfl) ?_
  refine wp_skip ?_
  refine hK685 _ _ ?_
  refine seq_any fun K687 hK687 => ?_
  refine wp_block ?_
  refine seq_any fun K688 hK688 => ?_
  refine one_reg ?_
  refine op_move (ev_base hN684 rfl s684_0) ?_
  refine op_move (ev_base hN684 rfl s684_5) ?_
  refine op_index_rd slt22 (ev_hit hN684 rfl) hl (ev_hit hN684 rfl) (by omega) (by omega) ?_
  intro b689 o690 h0b689 h1b689 hc691
  refine op_load1 (v := (Value.int .u16 ((l.getD i 0).toNat : Int))) one35 (ev_hit hN684 rfl) (by have := hc691 0 (Value.int .u16 ((l.getD i 0).toNat : Int)) (by decide) (el_u16 (i := i) (by omega) (by omega)); simpa using this) ?_
  refine op_move (ev_base hN684 rfl s684_1) ?_
  refine op_eql (ev_hit hN684 rfl) (ev_hit hN684 rfl) (fun c17 => ?_) (fun c17 => ?_)
  · -- 17T
   refine reg_nil ?_
   refine hK688 _ _ ?_
   refine wp_cond_true (ev_hit hN684 rfl) ?_
   refine seq_any fun K692 hK692 => ?_
   refine one_reg ?_
   refine op_assign rfl ?_
   refine reg_nil ?_
   refine hK692 _ _ ?_
   refine wp_ret (blk_ret (then_ret (then_ret (blk_ret (then_ret ( ?_))))))
   refine ret1 rfl hd684 (ev_hit hN684 rfl) ⟨_, rfl, ?_⟩
   -- path 9T 17T
   exact ⟨congrArg Value.bool (in_t (i := i) (by omega) (u16_eq c17)).symm, rfl⟩
  · -- 17F
   refine reg_nil ?_
   refine hK688 _ _ ?_
   refine wp_cond_false (ev_hit hN684 rfl) ?_
   refine wp_skip ?_
   refine hK687 _ _ ?_
   refine one_reg ?_
   refine op_move (ev_base hN684 rfl s684_5) ?_
   refine op_add (ev_hit hN684 rfl) rfl (add64 (by omega)) ?_
   refine op_assign (ev_hit hN684 rfl) ?_
   refine reg_nil ?_
   -- round 9T 17F
   exact loop_next _ hN684 hd684 ⟨i + 1, rfl, (sl_base hN684 rfl s684_0), (sl_base hN684 rfl s684_1), (sl_hit hN684 rfl).trans (congrArg (Value.int .i64) (by omega)), (by omega), (no_step hno (fun e9 => c17 (by rw [e9]))), rfl⟩ (by omega)
 · -- 9F
  refine reg_nil ?_
  refine hK686 _ _ ?_
  refine wp_cond_false (ev_hit hN684 rfl) ?_
  refine wp_exit (then_exit (then_exit (blk_hit ?_)))
  refine hK682 _ _ ?_
  refine seq_any fun K693 hK693 => ?_
  refine one_reg ?_
  refine op_assign rfl ?_
  refine reg_nil ?_
  refine hK693 _ _ ?_
  refine wp_ret ?_
  refine ret1 rfl hd684 (ev_hit hN684 rfl) ⟨_, rfl, ?_⟩
  -- path 9F
  exact ⟨congrArg Value.bool (in_f (i := i) (by omega) hno).symm, rfl⟩

theorem meet1W_ret (x : UInt16) (m : Lb) (u : Value) (bc : Nat) (w : World) (hzm : m.length ≤ 1000000000000) (hbc : Bx w bc 23 [u]) (hm : RdC w 0 w.heap.size 1 u m.length (m.map u16v)) : Ret Try.prog 50 #[(Value.int .u16 (x.toNat : Int)), (ptr bc 0)] w (fun v' w' => v' = .bool (inL x m) ∧ w' = w) := by
 have hb := Below.refl w.heap.size w
 refine enter (N := 7) Try.func50 rfl rfl (by simp) fun a0 hN hd hA => ?_
 have s0 : a0.tmps.getD 0 undef = (Value.int .u16 (x.toNat : Int)) := hA 0 (by simp)
 have s1 : a0.tmps.getD 1 undef = (ptr bc 0) := hA 1 (by simp)
 clear hA
 refine seq_any fun K694 hK694 => ?_
 refine one_reg ?_
 refine op_assign rfl ?_
 refine reg_nil ?_
 refine hK694 _ _ ?_
 refine seq_any fun K695 hK695 => ?_
 refine one_reg ?_
 refine op_load1 (v := u) one23 (ev_base hN rfl s1) (hbc.cell rfl) ?_
 refine op_move (ev_base hN rfl s0) ?_
 refine op_fn (vs := [u, (Value.int .u16 (x.toNat : Int))]) ok51 ⟨(ev_hit hN rfl), ⟨(ev_hit hN rfl), trivial⟩⟩ (Ret.flip (contW_ret m x _ _ (by omega) (show RdC w 0 w.heap.size 1 u m.length (m.map u16v) from by have hh : RdC w 0 w.heap.size 1 _ _ _ := (hm.mono (L' := 0) (B' := w.heap.size) (Nat.zero_le _) (by omega)); first | exact hh | exact hh.cast (by first | omega | (simp; try omega)) (by first | rfl | simp [u16v])))) ?_
 rintro _ _ ⟨rfl, rfl⟩
 refine op_assign (ev_hit hN rfl) ?_
 refine reg_nil ?_
 refine hK695 _ _ ?_
 refine wp_ret ?_
 refine ret1 rfl hd (ev_hit hN rfl) ⟨_, rfl, ?_⟩
 -- path
 exact ⟨rfl, rfl⟩

theorem minus1W_ret (x : UInt16) (m : Lb) (u : Value) (bc : Nat) (w : World) (hzm : m.length ≤ 1000000000000) (hbc : Bx w bc 23 [u]) (hm : RdC w 0 w.heap.size 1 u m.length (m.map u16v)) : Ret Try.prog 52 #[(Value.int .u16 (x.toNat : Int)), (ptr bc 0)] w (fun v' w' => v' = .bool (ninL x m) ∧ w' = w) := by
 have hb := Below.refl w.heap.size w
 refine enter (N := 8) Try.func52 rfl rfl (by simp) fun a0 hN hd hA => ?_
 have s0 : a0.tmps.getD 0 undef = (Value.int .u16 (x.toNat : Int)) := hA 0 (by simp)
 have s1 : a0.tmps.getD 1 undef = (ptr bc 0) := hA 1 (by simp)
 clear hA
 refine seq_any fun K696 hK696 => ?_
 refine one_reg ?_
 refine op_assign rfl ?_
 refine reg_nil ?_
 refine hK696 _ _ ?_
 refine seq_any fun K697 hK697 => ?_
 refine one_reg ?_
 refine op_load1 (v := u) one23 (ev_base hN rfl s1) (hbc.cell rfl) ?_
 refine op_move (ev_base hN rfl s0) ?_
 refine op_fn (vs := [u, (Value.int .u16 (x.toNat : Int))]) ok51 ⟨(ev_hit hN rfl), ⟨(ev_hit hN rfl), trivial⟩⟩ (Ret.flip (contW_ret m x _ _ (by omega) (show RdC w 0 w.heap.size 1 u m.length (m.map u16v) from by have hh : RdC w 0 w.heap.size 1 _ _ _ := (hm.mono (L' := 0) (B' := w.heap.size) (Nat.zero_le _) (by omega)); first | exact hh | exact hh.cast (by first | omega | (simp; try omega)) (by first | rfl | simp [u16v])))) ?_
 rintro _ _ ⟨rfl, rfl⟩
 refine op_not (ev_hit hN rfl) ?_
 refine op_assign (ev_hit hN rfl) ?_
 refine reg_nil ?_
 refine hK697 _ _ ?_
 refine wp_ret ?_
 refine ret1 rfl hd (ev_hit hN rfl) ⟨_, rfl, ?_⟩
 -- path
 exact ⟨rfl, rfl⟩

theorem those50_ret (l : Lb) (v : Value) (m : Lb) (u : Value) (bc : Nat) (w : World) (hz : l.length ≤ 1000000000000) (hl : RdC w 0 w.heap.size 1 v l.length (l.map u16v)) (hzm : m.length ≤ 1000000000000) (hbc : Bx w bc 23 [u]) (hm : RdC w 0 w.heap.size 1 u m.length (m.map u16v)) : Ret Try.prog 49 #[v, (Value.func (.func 50) #[] #[(ptr bc 0)])] w (fun v' w' => Below w.heap.size w w' ∧ Own w' w.heap.size 35 1 v' (l.filter (fun x => inL x m)).length ((l.filter (fun x => inL x m)).map u16v)) := by
 have hbc_lt := hbc.lt
 have hb := Below.refl w.heap.size w
 refine enter (N := 23) Try.func49 rfl rfl (by simp) fun a0 hN hd hA => ?_
 have s0 : a0.tmps.getD 0 undef = v := hA 0 (by simp)
 have s1 : a0.tmps.getD 1 undef = (Value.func (.func 50) #[] #[(ptr bc 0)]) := hA 1 (by simp)
 clear hA
 refine seq_any fun K698 hK698 => ?_
 refine one_reg ?_
 refine op_assign rfl ?_
 refine reg_nil ?_
 refine hK698 _ _ ?_
 refine seq_any fun K699 hK699 => ?_
 refine one_reg ?_
 refine op_assign rfl ?_
 refine reg_nil ?_
 refine hK699 _ _ ?_
 refine seq_any fun K700 hK700 => ?_
 refine seq_any fun K701 hK701 => ?_
 refine one_reg ?_
 refine op_move (ev_base hN rfl s0) ?_
 refine op_len_rd Try.underlying22 (ev_hit hN rfl) hl ?_
 refine op_move rfl ?_
 refine reg_nil ?_
 refine hK701 _ _ ?_
 refine wp_block ?_
 refine loop_m (fun mz_ az_ w' => ∃ (i : Nat) (r : Value), mz_ = l.length - i ∧ (az_.tmps.getD 1 undef = (Value.func (.func 50) #[] #[(ptr bc 0)])) ∧ (az_.tmps.getD 4 undef = (Value.slice none 0 0)) ∧ (az_.tmps.getD 8 undef = v) ∧ (az_.tmps.getD 9 undef = (Value.int .i64 ((l.length : Nat) : Int))) ∧ (az_.tmps.getD 10 undef = (Value.int .i64 ((i : Nat) : Int))) ∧ (az_.tmps.getD 5 undef = r) ∧ (i ≤ l.length) ∧ (((l.take i).filter (fun x => inL x m)).length ≤ i) ∧ (Below w.heap.size w w') ∧ (w.heap.size ≤ w'.heap.size) ∧ (RdC w' 0 w.heap.size 1 v l.length (l.map u16v)) ∧ (Bx w' bc 23 [u]) ∧ (RdC w' 0 w.heap.size 1 u m.length (m.map u16v)) ∧ (Own w' w.heap.size 35 1 r ((l.take i).filter (fun x => inL x m)).length (((l.take i).filter (fun x => inL x m)).map u16v))) _ hN hd ⟨0, _, rfl, (sl_base hN rfl s1), (sl_hit hN rfl), (sl_hit hN rfl), (sl_hit hN rfl), (sl_hit hN rfl), (sl_hit hN rfl), Nat.zero_le _, (by simp), hb, (Nat.le_refl _), hl, hbc, hm, (Own.nil _ _ _ _)⟩ ?_
 rintro _ a702 w702 hN702 hd702 ⟨i, r, rfl, s702_1, s702_4, s702_8, s702_9, s702_10, s702_5, hi, hfl, hb, zl_w702, hl, hbc, hm, hO703⟩
 have z_w702 := hb.size
 refine seq_any fun K704 hK704 => ?_
 refine one_reg ?_
 refine op_lss (ev_base hN702 rfl s702_10) (ev_base hN702 rfl s702_9) (fun c11 => ?_) (fun c11 => ?_)
 · -- 11T
  refine reg_nil ?_
  refine hK704 _ _ ?_
  refine seq_any fun K705 hK705 => ?_
  refine wp_cond_true (ev_hit hN702 rfl) ?_
  refine wp_skip ?_
  refine hK705 _ _ ?_
  refine seq_any fun K706 hK706 => ?_
  refine wp_block ?_
  refine seq_any fun K707 hK707 => ?_
  refine one_reg ?_
  refine op_index_rd slt22 (ev_base hN702 rfl s702_8) hl (ev_base hN702 rfl s702_10) (by omega) (by omega) ?_
  intro b708 o709 h0b708 h1b708 hc710
  refine op_load1 (v := (Value.int .u16 ((l.getD i 0).toNat : Int))) one35 (ev_hit hN702 rfl) (by have := hc710 0 (Value.int .u16 ((l.getD i 0).toNat : Int)) (by decide) (el_u16 (i := i) (by omega) (by omega)); simpa using this) ?_
  refine op_assign (ev_hit hN702 rfl) ?_
  refine reg_nil ?_
  refine hK707 _ _ ?_
  refine seq_any fun K711 hK711 => ?_
  refine one_reg ?_
  refine op_move (ev_base hN702 rfl s702_1) ?_
  refine op_move (ev_hit hN702 rfl) ?_
  refine op_fnv (fs := []) (vs := [(Value.int .u16 ((l.getD i 0).toNat : Int))]) (cs := [(ptr bc 0)]) (ev_hit hN702 rfl) ok50 ⟨(ev_hit hN702 rfl), trivial⟩ (Ret.flip (meet1W_ret (l.getD i 0) m _ _ _ (by omega) hbc (show RdC w702 0 w702.heap.size 1 u m.length (m.map u16v) from by have hh : RdC w702 0 w702.heap.size 1 _ _ _ := (hm.mono (L' := 0) (B' := w702.heap.size) (Nat.zero_le _) (by omega)); first | exact hh | exact hh.cast (by first | omega | (simp; try omega)) (by first | rfl | simp [u16v])))) ?_
  rintro _ _ ⟨rfl, rfl⟩
  rcases Bool.eq_false_or_eq_true ((inL (l.getD i 0) m)) with c16 | c16
  · -- 16T
   rw [c16]
   refine reg_nil ?_
   refine hK711 _ _ ?_
   refine wp_cond_true (ev_hit hN702 rfl) ?_
   refine one_reg ?_
   refine op_move (ev_base hN702 rfl s702_5) ?_
   refine op_move (ev_hit hN702 rfl) ?_
   refine op_bslice (e := 35) (pv := [(0, (Value.int .u16 ((l.getD i 0).toNat : Int)))]) (cs := [(Value.int .u16 ((l.getD i 0).toNat : Int))]) ⟨rfl, (ev_hit hN702 rfl), trivial⟩ (by kernel_rfl) ?_
   intro w712 b713 lo_b713 hi_b713 hB715 E714
   have ne_b713_r : r.ownBlock ≠ some b713 := fun hh => by have := (hO703.lt _ hh).2; omega
   have z_w712 := E714.size
   have hl := hl.keep0 E714
   have hbc := hbc.keep0 E714
   have hm := hm.keep0 E714
   have hO703 := hO703.keep0 E714
   have hb := below_step0 hb E714 hb.size
   have hP721 := hO703
   refine op_append slt22 (ev_hit hN702 rfl) hP721 (ev_hit hN702 rfl) (Src.ofRd Try.underlying22 (by decide) (RdC.ofBx (sz := 1) (n := 1) hB715 rfl (by decide)) (by simp [Value.oneCell', u8v])) (by unfold maxLen; omega) (by omega) hb.size ?_
   intro v716 w717 hO719 E718 hm720
   have z_w717 := E718.size
   have hl := hl.keepO hP721 E718 (by omega)
   have hbc := hbc.keepO hP721 E718 (by decide)
   have hm := hm.keepO hP721 E718 (by omega)
   have hB715 := hB715.keep E718 (fun hh => ne_b713_r hh.symm)
   have hb := below_stepO hb hP721 E718 hb.size (by omega)
   have hO719 : Own w717 w.heap.size 35 1 v716 (((l.take i).filter (fun x => inL x m)).length + 1) (((((l.take i).filter (fun x => inL x m)) ++ [(l.getD i 0)])).map u16v) := by simpa [u8v, u16v, cellsV] using hO719
   have ne_b713_v716 : v716.ownBlock ≠ some b713 := ne_step (w1 := w712) ⟨E718, hm720⟩ (by omega) ne_b713_r
   refine op_assign (ev_hit hN702 rfl) ?_
   refine reg_nil ?_
   refine hK706 _ _ ?_
   refine one_reg ?_
   refine op_add (ev_base hN702 rfl s702_10) rfl (add64 (by omega)) ?_
   refine op_move (ev_hit hN702 rfl) ?_
   refine reg_nil ?_
   -- round 11T 16T
   exact loop_next _ hN702 hd702 ⟨i + 1, _, rfl, (sl_base hN702 rfl s702_1), (sl_base hN702 rfl s702_4), (sl_base hN702 rfl s702_8), (sl_base hN702 rfl s702_9), (sl_hit hN702 rfl).trans (congrArg (Value.int .i64) (by omega)), (sl_hit hN702 rfl), (by omega), (by first | exact filter_le), hb, (by omega), hl, hbc, hm, (hO719.cast (by rw [filter_t (by omega) c16]; try simp) (by rw [filter_t (by omega) c16]; try simp [u16v]))⟩ (by omega)
  · -- 16F
   rw [c16]
   refine reg_nil ?_
   refine hK711 _ _ ?_
   refine wp_cond_false (ev_hit hN702 rfl) ?_
   refine wp_skip ?_
   refine hK706 _ _ ?_
   refine one_reg ?_
   refine op_add (ev_base hN702 rfl s702_10) rfl (add64 (by omega)) ?_
   refine op_move (ev_hit hN702 rfl) ?_
   refine reg_nil ?_
   -- round 11T 16F
   exact loop_next _ hN702 hd702 ⟨i + 1, _, rfl, (sl_base hN702 rfl s702_1), (sl_base hN702 rfl s702_4), (sl_base hN702 rfl s702_8), (sl_base hN702 rfl s702_9), (sl_hit hN702 rfl).trans (congrArg (Value.int .i64) (by omega)), (sl_base hN702 rfl s702_5), (by omega), (by first | exact filter_le), hb, (by omega), hl, hbc, hm, (hO703.cast (by rw [filter_f (by omega) c16]) (by rw [filter_f (by omega) c16]))⟩ (by omega)
 · -- 11F
  refine reg_nil ?_
  refine hK704 _ _ ?_
  refine seq_any fun K722 hK722 => ?_
  refine wp_cond_false (ev_hit hN702 rfl) ?_
  refine wp_exit (then_exit (then_exit (blk_hit ?_)))
  refine hK700 _ _ ?_
  refine seq_any fun K723 hK723 => ?_
  refine one_reg ?_
  refine op_move (ev_base hN702 rfl s702_5) ?_
  refine op_assign (ev_hit hN702 rfl) ?_
  refine reg_nil ?_
  refine hK723 _ _ ?_
  refine wp_ret ?_
  refine ret1 rfl hd702 (ev_hit hN702 rfl) ⟨_, rfl, ?_⟩
  -- path 11F
  rw [take_all l (by omega)] at hO703
  exact ⟨hb, hO703⟩

theorem those52_ret (l : Lb) (v : Value) (m : Lb) (u : Value) (bc : Nat) (w : World) (hz : l.length ≤ 1000000000000) (hl : RdC w 0 w.heap.size 1 v l.length (l.map u16v)) (hzm : m.length ≤ 1000000000000) (hbc : Bx w bc 23 [u]) (hm : RdC w 0 w.heap.size 1 u m.length (m.map u16v)) : Ret Try.prog 49 #[v, (Value.func (.func 52) #[] #[(ptr bc 0)])] w (fun v' w' => Below w.heap.size w w' ∧ Own w' w.heap.size 35 1 v' (l.filter (fun x => ninL x m)).length ((l.filter (fun x => ninL x m)).map u16v)) := by
 have hbc_lt := hbc.lt
 have hb := Below.refl w.heap.size w
 refine enter (N := 23) Try.func49 rfl rfl (by simp) fun a0 hN hd hA => ?_
 have s0 : a0.tmps.getD 0 undef = v := hA 0 (by simp)
 have s1 : a0.tmps.getD 1 undef = (Value.func (.func 52) #[] #[(ptr bc 0)]) := hA 1 (by simp)
 clear hA
 refine seq_any fun K724 hK724 => ?_
 refine one_reg ?_
 refine op_assign rfl ?_
 refine reg_nil ?_
 refine hK724 _ _ ?_
 refine seq_any fun K725 hK725 => ?_
 refine one_reg ?_
 refine op_assign rfl ?_
 refine reg_nil ?_
 refine hK725 _ _ ?_
 refine seq_any fun K726 hK726 => ?_
 refine seq_any fun K727 hK727 => ?_
 refine one_reg ?_
 refine op_move (ev_base hN rfl s0) ?_
 refine op_len_rd Try.underlying22 (ev_hit hN rfl) hl ?_
 refine op_move rfl ?_
 refine reg_nil ?_
 refine hK727 _ _ ?_
 refine wp_block ?_
 refine loop_m (fun mz_ az_ w' => ∃ (i : Nat) (r : Value), mz_ = l.length - i ∧ (az_.tmps.getD 1 undef = (Value.func (.func 52) #[] #[(ptr bc 0)])) ∧ (az_.tmps.getD 4 undef = (Value.slice none 0 0)) ∧ (az_.tmps.getD 8 undef = v) ∧ (az_.tmps.getD 9 undef = (Value.int .i64 ((l.length : Nat) : Int))) ∧ (az_.tmps.getD 10 undef = (Value.int .i64 ((i : Nat) : Int))) ∧ (az_.tmps.getD 5 undef = r) ∧ (i ≤ l.length) ∧ (((l.take i).filter (fun x => ninL x m)).length ≤ i) ∧ (Below w.heap.size w w') ∧ (w.heap.size ≤ w'.heap.size) ∧ (RdC w' 0 w.heap.size 1 v l.length (l.map u16v)) ∧ (Bx w' bc 23 [u]) ∧ (RdC w' 0 w.heap.size 1 u m.length (m.map u16v)) ∧ (Own w' w.heap.size 35 1 r ((l.take i).filter (fun x => ninL x m)).length (((l.take i).filter (fun x => ninL x m)).map u16v))) _ hN hd ⟨0, _, rfl, (sl_base hN rfl s1), (sl_hit hN rfl), (sl_hit hN rfl), (sl_hit hN rfl), (sl_hit hN rfl), (sl_hit hN rfl), Nat.zero_le _, (by simp), hb, (Nat.le_refl _), hl, hbc, hm, (Own.nil _ _ _ _)⟩ ?_
 rintro _ a728 w728 hN728 hd728 ⟨i, r, rfl, s728_1, s728_4, s728_8, s728_9, s728_10, s728_5, hi, hfl, hb, zl_w728, hl, hbc, hm, hO729⟩
 have z_w728 := hb.size
 refine seq_any fun K730 hK730 => ?_
 refine one_reg ?_
 refine op_lss (ev_base hN728 rfl s728_10) (ev_base hN728 rfl s728_9) (fun c11 => ?_) (fun c11 => ?_)
 · -- 11T
  refine reg_nil ?_
  refine hK730 _ _ ?_
  refine seq_any fun K731 hK731 => ?_
  refine wp_cond_true (ev_hit hN728 rfl) ?_
  refine wp_skip ?_
  refine hK731 _ _ ?_
  refine seq_any fun K732 hK732 => ?_
  refine wp_block ?_
  refine seq_any fun K733 hK733 => ?_
  refine one_reg ?_
  refine op_index_rd slt22 (ev_base hN728 rfl s728_8) hl (ev_base hN728 rfl s728_10) (by omega) (by omega) ?_
  intro b734 o735 h0b734 h1b734 hc736
  refine op_load1 (v := (Value.int .u16 ((l.getD i 0).toNat : Int))) one35 (ev_hit hN728 rfl) (by have := hc736 0 (Value.int .u16 ((l.getD i 0).toNat : Int)) (by decide) (el_u16 (i := i) (by omega) (by omega)); simpa using this) ?_
  refine op_assign (ev_hit hN728 rfl) ?_
  refine reg_nil ?_
  refine hK733 _ _ ?_
  refine seq_any fun K737 hK737 => ?_
  refine one_reg ?_
  refine op_move (ev_base hN728 rfl s728_1) ?_
  refine op_move (ev_hit hN728 rfl) ?_
  refine op_fnv (fs := []) (vs := [(Value.int .u16 ((l.getD i 0).toNat : Int))]) (cs := [(ptr bc 0)]) (ev_hit hN728 rfl) ok52 ⟨(ev_hit hN728 rfl), trivial⟩ (Ret.flip (minus1W_ret (l.getD i 0) m _ _ _ (by omega) hbc (show RdC w728 0 w728.heap.size 1 u m.length (m.map u16v) from by have hh : RdC w728 0 w728.heap.size 1 _ _ _ := (hm.mono (L' := 0) (B' := w728.heap.size) (Nat.zero_le _) (by omega)); first | exact hh | exact hh.cast (by first | omega | (simp; try omega)) (by first | rfl | simp [u16v])))) ?_
  rintro _ _ ⟨rfl, rfl⟩
  rcases Bool.eq_false_or_eq_true ((ninL (l.getD i 0) m)) with c16 | c16
  · -- 16T
   rw [c16]
   refine reg_nil ?_
   refine hK737 _ _ ?_
   refine wp_cond_true (ev_hit hN728 rfl) ?_
   refine one_reg ?_
   refine op_move (ev_base hN728 rfl s728_5) ?_
   refine op_move (ev_hit hN728 rfl) ?_
   refine op_bslice (e := 35) (pv := [(0, (Value.int .u16 ((l.getD i 0).toNat : Int)))]) (cs := [(Value.int .u16 ((l.getD i 0).toNat : Int))]) ⟨rfl, (ev_hit hN728 rfl), trivial⟩ (by kernel_rfl) ?_
   intro w738 b739 lo_b739 hi_b739 hB741 E740
   have ne_b739_r : r.ownBlock ≠ some b739 := fun hh => by have := (hO729.lt _ hh).2; omega
   have z_w738 := E740.size
   have hl := hl.keep0 E740
   have hbc := hbc.keep0 E740
   have hm := hm.keep0 E740
   have hO729 := hO729.keep0 E740
   have hb := below_step0 hb E740 hb.size
   have hP747 := hO729
   refine op_append slt22 (ev_hit hN728 rfl) hP747 (ev_hit hN728 rfl) (Src.ofRd Try.underlying22 (by decide) (RdC.ofBx (sz := 1) (n := 1) hB741 rfl (by decide)) (by simp [Value.oneCell', u8v])) (by unfold maxLen; omega) (by omega) hb.size ?_
   intro v742 w743 hO745 E744 hm746
   have z_w743 := E744.size
   have hl := hl.keepO hP747 E744 (by omega)
   have hbc := hbc.keepO hP747 E744 (by decide)
   have hm := hm.keepO hP747 E744 (by omega)
   have hB741 := hB741.keep E744 (fun hh => ne_b739_r hh.symm)
   have hb := below_stepO hb hP747 E744 hb.size (by omega)
   have hO745 : Own w743 w.heap.size 35 1 v742 (((l.take i).filter (fun x => ninL x m)).length + 1) (((((l.take i).filter (fun x => ninL x m)) ++ [(l.getD i 0)])).map u16v) := by simpa [u8v, u16v, cellsV] using hO745
   have ne_b739_v742 : v742.ownBlock ≠ some b739 := ne_step (w1 := w738) ⟨E744, hm746⟩ (by omega) ne_b739_r
   refine op_assign (ev_hit hN728 rfl) ?_
   refine reg_nil ?_
   refine hK732 _ _ ?_
   refine one_reg ?_
   refine op_add (ev_base hN728 rfl s728_10) rfl (add64 (by omega)) ?_
   refine op_move (ev_hit hN728 rfl) ?_
   refine reg_nil ?_
   -- round 11T 16T
   exact loop_next _ hN728 hd728 ⟨i + 1, _, rfl, (sl_base hN728 rfl s728_1), (sl_base hN728 rfl s728_4), (sl_base hN728 rfl s728_8), (sl_base hN728 rfl s728_9), (sl_hit hN728 rfl).trans (congrArg (Value.int .i64) (by omega)), (sl_hit hN728 rfl), (by omega), (by first | exact filter_le), hb, (by omega), hl, hbc, hm, (hO745.cast (by rw [filter_t (by omega) c16]; try simp) (by rw [filter_t (by omega) c16]; try simp [u16v]))⟩ (by omega)
  · -- 16F
   rw [c16]
   refine reg_nil ?_
   refine hK737 _ _ ?_
   refine wp_cond_false (ev_hit hN728 rfl) ?_
   refine wp_skip ?_
   refine hK732 _ _ ?_
   refine one_reg ?_
   refine op_add (ev_base hN728 rfl s728_10) rfl (add64 (by omega)) ?_
   refine op_move (ev_hit hN728 rfl) ?_
   refine reg_nil ?_
   -- round 11T 16F
   exact loop_next _ hN728 hd728 ⟨i + 1, _, rfl, (sl_base hN728 rfl s728_1), (sl_base hN728 rfl s728_4), (sl_base hN728 rfl s728_8), (sl_base hN728 rfl s728_9), (sl_hit hN728 rfl).trans (congrArg (Value.int .i64) (by omega)), (sl_base hN728 rfl s728_5), (by omega), (by first | exact filter_le), hb, (by omega), hl, hbc, hm, (hO729.cast (by rw [filter_f (by omega) c16]) (by rw [filter_f (by omega) c16]))⟩ (by omega)
 · -- 11F
  refine reg_nil ?_
  refine hK730 _ _ ?_
  refine seq_any fun K748 hK748 => ?_
  refine wp_cond_false (ev_hit hN728 rfl) ?_
  refine wp_exit (then_exit (then_exit (blk_hit ?_)))
  refine hK726 _ _ ?_
  refine seq_any fun K749 hK749 => ?_
  refine one_reg ?_
  refine op_move (ev_base hN728 rfl s728_5) ?_
  refine op_assign (ev_hit hN728 rfl) ?_
  refine reg_nil ?_
  refine hK749 _ _ ?_
  refine wp_ret ?_
  refine ret1 rfl hd728 (ev_hit hN728 rfl) ⟨_, rfl, ?_⟩
  -- path 11F
  rw [take_all l (by omega)] at hO729
  exact ⟨hb, hO729⟩

theorem minusW_ret (l m : Lb) (v u : Value) (w : World) (hz : l.length ≤ 1000000000000) (hzm : m.length ≤ 1000000000000) (hl : RdC w 0 w.heap.size 1 v l.length (l.map u16v)) (hm : RdC w 0 w.heap.size 1 u m.length (m.map u16v)) : Ret Try.prog 30 #[v, u] w (fun v' w' => Below w.heap.size w w' ∧ Own w' w.heap.size 35 1 v' (minusL l m).length ((minusL l m).map u16v)) := by
 have hb := Below.refl w.heap.size w
 refine enter (N := 8) Try.func30 rfl rfl (by simp) fun a0 hN hd hA => ?_
 have s0 : a0.tmps.getD 0 undef = v := hA 0 (by simp)
 have s1 : a0.tmps.getD 1 undef = u := hA 1 (by simp)
 clear hA
 refine seq_any fun K750 hK750 => ?_
 refine one_reg ?_
 refine op_box (cs := [u]) (ev_base hN rfl s1) (RdC.cells hm) ?_
 intro w751 b752 lo_b752 hi_b752 hB754 E753
 have z_w751 := E753.size
 have hl := hl.keep0 E753
 have hm := hm.keep0 E753
 have hb := below_step0 hb E753 hb.size
 refine op_assign rfl ?_
 refine reg_nil ?_
 refine hK750 _ _ ?_
 refine seq_any fun K755 hK755 => ?_
 refine one_reg ?_
 refine op_move (ev_base hN rfl s0) ?_
 refine op_mkfn (cv := [(ptr b752 0)]) ⟨(ev_hit hN rfl), trivial⟩ ?_
 refine op_fn (vs := [v, (Value.func (.func 52) #[] #[(ptr b752 0)])]) ok49 ⟨(ev_hit hN rfl), ⟨(ev_hit hN rfl), trivial⟩⟩ (those52_ret l _ m _ _ _ (by omega) (show RdC w751 0 w751.heap.size 1 v l.length (l.map u16v) from by have hh : RdC w751 0 w751.heap.size 1 _ _ _ := (hl.mono (L' := 0) (B' := w751.heap.size) (Nat.zero_le _) (by omega)); first | exact hh | exact hh.cast (by first | omega | (simp; try omega)) (by first | rfl | simp [u16v])) (by omega) hB754 (show RdC w751 0 w751.heap.size 1 u m.length (m.map u16v) from by have hh : RdC w751 0 w751.heap.size 1 _ _ _ := (hm.mono (L' := 0) (B' := w751.heap.size) (Nat.zero_le _) (by omega)); first | exact hh | exact hh.cast (by first | omega | (simp; try omega)) (by first | rfl | simp [u16v]))) ?_
 rintro v756 w757 ⟨E758, hO756⟩
 have E758 := grown_of_below E758
 have z_w757 := E758.size
 have hl := hl.keep0 E758
 have hm := hm.keep0 E758
 have hB754 := hB754.keep0 E758
 have hb := below_step0 hb E758 hb.size
 have hO756 := hO756.mono (base' := w.heap.size) (by omega)
 refine op_assign (ev_hit hN rfl) ?_
 refine reg_nil ?_
 refine hK755 _ _ ?_
 refine wp_ret ?_
 refine ret1 rfl hd (ev_hit hN rfl) ⟨_, rfl, ?_⟩
 -- path
 exact ⟨hb, hO756⟩

theorem meetW_ret (l m : Lb) (v u : Value) (w : World) (hz : l.length ≤ 1000000000000) (hzm : m.length ≤ 1000000000000) (hl : RdC w 0 w.heap.size 1 v l.length (l.map u16v)) (hm : RdC w 0 w.heap.size 1 u m.length (m.map u16v)) : Ret Try.prog 29 #[v, u] w (fun v' w' => Below w.heap.size w w' ∧ Own w' w.heap.size 35 1 v' (meetL l m).length ((meetL l m).map u16v)) := by
 have hb := Below.refl w.heap.size w
 refine enter (N := 8) Try.func29 rfl rfl (by simp) fun a0 hN hd hA => ?_
 have s0 : a0.tmps.getD 0 undef = v := hA 0 (by simp)
 have s1 : a0.tmps.getD 1 undef = u := hA 1 (by simp)
 clear hA
 refine seq_any fun K759 hK759 => ?_
 refine one_reg ?_
 refine op_box (cs := [u]) (ev_base hN rfl s1) (RdC.cells hm) ?_
 intro w760 b761 lo_b761 hi_b761 hB763 E762
 have z_w760 := E762.size
 have hl := hl.keep0 E762
 have hm := hm.keep0 E762
 have hb := below_step0 hb E762 hb.size
 refine op_assign rfl ?_
 refine reg_nil ?_
 refine hK759 _ _ ?_
 refine seq_any fun K764 hK764 => ?_
 refine one_reg ?_
 refine op_move (ev_base hN rfl s0) ?_
 refine op_mkfn (cv := [(ptr b761 0)]) ⟨(ev_hit hN rfl), trivial⟩ ?_
 refine op_fn (vs := [v, (Value.func (.func 50) #[] #[(ptr b761 0)])]) ok49 ⟨(ev_hit hN rfl), ⟨(ev_hit hN rfl), trivial⟩⟩ (those50_ret l _ m _ _ _ (by omega) (show RdC w760 0 w760.heap.size 1 v l.length (l.map u16v) from by have hh : RdC w760 0 w760.heap.size 1 _ _ _ := (hl.mono (L' := 0) (B' := w760.heap.size) (Nat.zero_le _) (by omega)); first | exact hh | exact hh.cast (by first | omega | (simp; try omega)) (by first | rfl | simp [u16v])) (by omega) hB763 (show RdC w760 0 w760.heap.size 1 u m.length (m.map u16v) from by have hh : RdC w760 0 w760.heap.size 1 _ _ _ := (hm.mono (L' := 0) (B' := w760.heap.size) (Nat.zero_le _) (by omega)); first | exact hh | exact hh.cast (by first | omega | (simp; try omega)) (by first | rfl | simp [u16v]))) ?_
 rintro v765 w766 ⟨E767, hO765⟩
 have E767 := grown_of_below E767
 have z_w766 := E767.size
 have hl := hl.keep0 E767
 have hm := hm.keep0 E767
 have hB763 := hB763.keep0 E767
 have hb := below_step0 hb E767 hb.size
 have hO765 := hO765.mono (base' := w.heap.size) (by omega)
 refine op_assign (ev_hit hN rfl) ?_
 refine reg_nil ?_
 refine hK764 _ _ ?_
 refine wp_ret ?_
 refine ret1 rfl hd (ev_hit hN rfl) ⟨_, rfl, ?_⟩
 -- path
 exact ⟨hb, hO765⟩

theorem flowsW_ret (l m : Lb) (v u : Value) (w : World) (hz : l.length ≤ 1000000000000) (hzm : m.length ≤ 1000000000000) (hl : RdC w 0 w.heap.size 1 v l.length (l.map u16v)) (hm : RdC w 0 w.heap.size 1 u m.length (m.map u16v)) : Ret Try.prog 27 #[v, u] w (fun v' w' => Below w.heap.size w w' ∧ v' = .bool (flowsL l m)) := by
 have hb := Below.refl w.heap.size w
 refine enter (N := 10) Try.func27 rfl rfl (by simp) fun a0 hN hd hA => ?_
 have s0 : a0.tmps.getD 0 undef = v := hA 0 (by simp)
 have s1 : a0.tmps.getD 1 undef = u := hA 1 (by simp)
 clear hA
 refine seq_any fun K768 hK768 => ?_
 refine one_reg ?_
 refine op_assign rfl ?_
 refine reg_nil ?_
 refine hK768 _ _ ?_
 refine seq_any fun K769 hK769 => ?_
 refine one_reg ?_
 refine op_move (ev_base hN rfl s0) ?_
 refine op_move (ev_base hN rfl s1) ?_
 refine op_fn (vs := [v, u]) ok30 ⟨(ev_hit hN rfl), ⟨(ev_hit hN rfl), trivial⟩⟩ (minusW_ret l m _ _ _ (by first | assumption | omega | (simp only [List.length_append, List.length_cons, List.length_nil, List.length_drop, List.length_take]; omega) | (dsimp only; omega) | decide | (simp [keyV, be8_len]; done)) (by first | assumption | omega | (simp only [List.length_append, List.length_cons, List.length_nil, List.length_drop, List.length_take]; omega) | (dsimp only; omega) | decide | (simp [keyV, be8_len]; done)) (show RdC w 0 w.heap.size 1 v l.length (l.map u16v) from by have hh : RdC w 0 w.heap.size 1 _ _ _ := (hl.mono (L' := 0) (B' := w.heap.size) (Nat.zero_le _) (by omega)); first | exact hh | exact hh.cast (by first | omega | (simp; try omega)) (by first | rfl | simp [u16v])) (show RdC w 0 w.heap.size 1 u m.length (m.map u16v) from by have hh : RdC w 0 w.heap.size 1 _ _ _ := (hm.mono (L' := 0) (B' := w.heap.size) (Nat.zero_le _) (by omega)); first | exact hh | exact hh.cast (by first | omega | (simp; try omega)) (by first | rfl | simp [u16v]))) ?_
 rintro v770 w771 ⟨E772, hO770⟩
 have E772 := grown_of_below E772
 have z_w771 := E772.size
 have hl := hl.keep0 E772
 have hm := hm.keep0 E772
 have hb := below_step0 hb E772 hb.size
 have hO770 := hO770.mono (base' := w.heap.size) (by omega)
 refine op_len_rd Try.underlying23 (ev_hit hN rfl) hO770.rdw ?_
 refine op_eql (ev_hit hN rfl) rfl (fun c9 => ?_) (fun c9 => ?_)
 · -- 9T
  refine op_assign (ev_hit hN rfl) ?_
  refine reg_nil ?_
  refine hK769 _ _ ?_
  refine wp_ret ?_
  refine ret1 rfl hd (ev_hit hN rfl) ⟨_, rfl, ?_⟩
  -- path 9T
  exact ⟨hb, congrArg Value.bool (by rw [flows_minus]; symm; first | exact decide_eq_true (by omega) | exact decide_eq_false (by omega))⟩
 · -- 9F
  refine op_assign (ev_hit hN rfl) ?_
  refine reg_nil ?_
  refine hK769 _ _ ?_
  refine wp_ret ?_
  refine ret1 rfl hd (ev_hit hN rfl) ⟨_, rfl, ?_⟩
  -- path 9F
  exact ⟨hb, congrArg Value.bool (by rw [flows_minus]; symm; first | exact decide_eq_true (by omega) | exact decide_eq_false (by omega))⟩

end Go.Proofs.Ytpmnljffdofkeaa

/- Walks, written by a program: what each function of the translation hands back. -/
namespace Go.Proofs.Ytpmnljffdofkeaa
open Go.Gx Go.RowKit
attribute [local irreducible] wpList wpStill Code.wp Calls
open Go.Sort (bitsLen)
theorem rminusW_ret (l m : Lb) (v u : Value) (w : World) (hz : l.length ≤ 1000000000000) (hzm : m.length ≤ 1000000000000) (hl : RdC w 0 w.heap.size 1 v l.length (l.map u16v)) (hm : RdC w 0 w.heap.size 1 u m.length (m.map u16v)) : Ret Try.prog 18 #[v, u] w (fun v' w' => Below w.heap.size w w' ∧ Own w' w.heap.size 35 1 v' (minusL l m).length ((minusL l m).map u16v)) := by
 have hb := Below.refl w.heap.size w
 refine enter (N := 28) Try.func18 rfl rfl (by simp) fun a0 hN hd hA => ?_
 have s0 : a0.tmps.getD 0 undef = v := hA 0 (by simp)
 have s1 : a0.tmps.getD 1 undef = u := hA 1 (by simp)
 clear hA
 refine seq_any fun K773 hK773 => ?_
 refine one_reg ?_
 refine op_assign rfl ?_
 refine reg_nil ?_
 refine hK773 _ _ ?_
 refine seq_any fun K774 hK774 => ?_
 refine one_reg ?_
 refine op_assign rfl ?_
 refine reg_nil ?_
 refine hK774 _ _ ?_
 refine seq_any fun K775 hK775 => ?_
 refine seq_any fun K776 hK776 => ?_
 refine one_reg ?_
 refine op_assign rfl ?_
 refine reg_nil ?_
 refine hK776 _ _ ?_
 refine wp_block ?_
 refine loop_m (fun mz_ az_ w' => ∃ (i : Nat) (r : Value), mz_ = l.length - i ∧ (az_.tmps.getD 0 undef = v) ∧ (az_.tmps.getD 1 undef = u) ∧ (az_.tmps.getD 4 undef = (Value.slice none 0 0)) ∧ (az_.tmps.getD 6 undef = (Value.int .i64 ((i : Nat) : Int))) ∧ (az_.tmps.getD 5 undef = r) ∧ (i ≤ l.length) ∧ (((l.take i).filter (fun x => ninL x m)).length ≤ i) ∧ (Below w.heap.size w w') ∧ (w.heap.size ≤ w'.heap.size) ∧ (RdC w' 0 w.heap.size 1 v l.length (l.map u16v)) ∧ (RdC w' 0 w.heap.size 1 u m.length (m.map u16v)) ∧ (Own w' w.heap.size 35 1 r ((l.take i).filter (fun x => ninL x m)).length (((l.take i).filter (fun x => ninL x m)).map u16v))) _ hN hd ⟨0, _, rfl, (sl_base hN rfl s0), (sl_base hN rfl s1), (sl_hit hN rfl), (sl_hit hN rfl).trans (congrArg (Value.int .i64) (by omega)), (sl_hit hN rfl), Nat.zero_le _, (by simp), hb, (Nat.le_refl _), hl, hm, (Own.nil _ _ _ _)⟩ ?_
 rintro _ a777 w777 hN777 hd777 ⟨i, r, rfl, s777_0, s777_1, s777_4, s777_6, s777_5, hi, hfl, hb, zl_w777, hl, hm, hO778⟩
 have z_w777 := hb.size
 refine seq_any fun K779 hK779 => ?_
 refine seq_any fun K780 hK780 => ?_
 refine one_reg ?_
 refine op_move (ev_base hN777 rfl s777_6) ?_
 refine op_move (ev_base hN777 rfl s777_0) ?_
 refine op_len_rd Try.underlying23 (ev_hit hN777 rfl) hl ?_
 refine op_lss (ev_hit hN777 rfl) (ev_hit hN777 rfl) (fun c10 => ?_) (fun c10 => ?_)
 · -- 10T
  refine reg_nil ?_
  refine hK780 _ _ ?_
  refine wp_cond_true (ev_hit hN777 rfl) ?_
  refine wp_skip ?_
  refine hK779 _ _ ?_
  refine seq_any fun K781 hK781 => ?_
  refine wp_block ?_
  refine seq_any fun K782 hK782 => ?_
  refine one_reg ?_
  refine op_move (ev_base hN777 rfl s777_1) ?_
  refine op_move (ev_base hN777 rfl s777_0) ?_
  refine op_move (ev_base hN777 rfl s777_6) ?_
  refine op_index_rd slt23 (ev_hit hN777 rfl) hl (ev_hit hN777 rfl) (by omega) (by omega) ?_
  intro b783 o784 h0b783 h1b783 hc785
  refine op_load1 (v := (Value.int .u16 ((l.getD i 0).toNat : Int))) one35 (ev_hit hN777 rfl) (by have := hc785 0 (Value.int .u16 ((l.getD i 0).toNat : Int)) (by decide) (el_u16 (i := i) (by omega) (by omega)); simpa using this) ?_
  refine op_fn (vs := [u, (Value.int .u16 ((l.getD i 0).toNat : Int))]) ok44 ⟨(ev_hit hN777 rfl), ⟨(ev_hit hN777 rfl), trivial⟩⟩ (Ret.flip (rinW_ret m (l.getD i 0) _ _ (by omega) (show RdC w777 0 w777.heap.size 1 u m.length (m.map u16v) from by have hh : RdC w777 0 w777.heap.size 1 _ _ _ := (hm.mono (L' := 0) (B' := w777.heap.size) (Nat.zero_le _) (by omega)); first | exact hh | exact hh.cast (by first | omega | (simp; try omega)) (by first | rfl | simp [u16v])))) ?_
  rintro _ _ ⟨rfl, rfl⟩
  rcases Bool.eq_false_or_eq_true ((inL (l.getD i 0) m)) with c18 | c18
  · -- 18T
   rw [c18]
   refine op_not (ev_hit hN777 rfl) ?_
   refine reg_nil ?_
   refine hK782 _ _ ?_
   refine wp_cond_false (ev_hit hN777 rfl) ?_
   refine wp_skip ?_
   refine hK781 _ _ ?_
   refine one_reg ?_
   refine op_move (ev_base hN777 rfl s777_6) ?_
   refine op_add (ev_hit hN777 rfl) rfl (add64 (by omega)) ?_
   refine op_assign (ev_hit hN777 rfl) ?_
   refine reg_nil ?_
   -- round 10T 18T
   exact loop_next _ hN777 hd777 ⟨i + 1, _, rfl, (sl_base hN777 rfl s777_0), (sl_base hN777 rfl s777_1), (sl_base hN777 rfl s777_4), (sl_hit hN777 rfl).trans (congrArg (Value.int .i64) (by omega)), (sl_base hN777 rfl s777_5), (by omega), (by first | exact filter_le), hb, (by omega), hl, hm, (hO778.cast (by rw [filter_f (by omega) (nin_f c18)]) (by rw [filter_f (by omega) (nin_f c18)]))⟩ (by omega)
  · -- 18F
   rw [c18]
   refine op_not (ev_hit hN777 rfl) ?_
   refine reg_nil ?_
   refine hK782 _ _ ?_
   refine wp_cond_true (ev_hit hN777 rfl) ?_
   refine one_reg ?_
   refine op_move (ev_base hN777 rfl s777_5) ?_
   refine op_move (ev_base hN777 rfl s777_0) ?_
   refine op_move (ev_base hN777 rfl s777_6) ?_
   refine op_index_rd slt23 (ev_hit hN777 rfl) hl (ev_hit hN777 rfl) (by omega) (by omega) ?_
   intro b786 o787 h0b786 h1b786 hc788
   refine op_load1 (v := (Value.int .u16 ((l.getD i 0).toNat : Int))) one35 (ev_hit hN777 rfl) (by have := hc788 0 (Value.int .u16 ((l.getD i 0).toNat : Int)) (by decide) (el_u16 (i := i) (by omega) (by omega)); simpa using this) ?_
   refine op_bslice (e := 35) (pv := [(0, (Value.int .u16 ((l.getD i 0).toNat : Int)))]) (cs := [(Value.int .u16 ((l.getD i 0).toNat : Int))]) ⟨rfl, (ev_hit hN777 rfl), trivial⟩ (by kernel_rfl) ?_
   intro w789 b790 lo_b790 hi_b790 hB792 E791
   have ne_b790_r : r.ownBlock ≠ some b790 := fun hh => by have := (hO778.lt _ hh).2; omega
   have z_w789 := E791.size
   have hl := hl.keep0 E791
   have hm := hm.keep0 E791
   have hO778 := hO778.keep0 E791
   have hb := below_step0 hb E791 hb.size
   have hP798 := hO778
   refine op_append slt23 (ev_hit hN777 rfl) hP798 (ev_hit hN777 rfl) (Src.ofRd Try.underlying23 (by decide) (RdC.ofBx (sz := 1) (n := 1) hB792 rfl (by decide)) (by simp [Value.oneCell', u8v])) (by unfold maxLen; omega) (by omega) hb.size ?_
   intro v793 w794 hO796 E795 hm797
   have z_w794 := E795.size
   have hl := hl.keepO hP798 E795 (by omega)
   have hm := hm.keepO hP798 E795 (by omega)
   have hB792 := hB792.keep E795 (fun hh => ne_b790_r hh.symm)
   have hb := below_stepO hb hP798 E795 hb.size (by omega)
   have hO796 : Own w794 w.heap.size 35 1 v793 (((l.take i).filter (fun x => ninL x m)).length + 1) (((((l.take i).filter (fun x => ninL x m)) ++ [(l.getD i 0)])).map u16v) := by simpa [u8v, u16v, cellsV] using hO796
   have ne_b790_v793 : v793.ownBlock ≠ some b790 := ne_step (w1 := w789) ⟨E795, hm797⟩ (by omega) ne_b790_r
   refine op_assign (ev_hit hN777 rfl) ?_
   refine reg_nil ?_
   refine hK781 _ _ ?_
   refine one_reg ?_
   refine op_move (ev_base hN777 rfl s777_6) ?_
   refine op_add (ev_hit hN777 rfl) rfl (add64 (by omega)) ?_
   refine op_assign (ev_hit hN777 rfl) ?_
   refine reg_nil ?_
   -- round 10T 18F
   exact loop_next _ hN777 hd777 ⟨i + 1, _, rfl, (sl_base hN777 rfl s777_0), (sl_base hN777 rfl s777_1), (sl_base hN777 rfl s777_4), (sl_hit hN777 rfl).trans (congrArg (Value.int .i64) (by omega)), (sl_hit hN777 rfl), (by omega), (by first | exact filter_le), hb, (by omega), hl, hm, (hO796.cast (by rw [filter_t (by omega) (nin_t c18)]; try simp) (by rw [filter_t (by omega) (nin_t c18)]; try simp [u16v]))⟩ (by omega)
 · -- 10F
  refine reg_nil ?_
  refine hK780 _ _ ?_
  refine wp_cond_false (ev_hit hN777 rfl) ?_
  refine wp_exit (then_exit (then_exit (blk_hit ?_)))
  refine hK775 _ _ ?_
  refine seq_any fun K799 hK799 => ?_
  refine one_reg ?_
  refine op_move (ev_base hN777 rfl s777_5) ?_
  refine op_assign (ev_hit hN777 rfl) ?_
  refine reg_nil ?_
  refine hK799 _ _ ?_
  refine wp_ret ?_
  refine ret1 rfl hd777 (ev_hit hN777 rfl) ⟨_, rfl, ?_⟩
  -- path 10F
  rw [take_all l (by omega)] at hO778
  exact ⟨hb, hO778⟩

theorem rmeetW_ret (l m : Lb) (v u : Value) (w : World) (hz : l.length ≤ 1000000000000) (hzm : m.length ≤ 1000000000000) (hl : RdC w 0 w.heap.size 1 v l.length (l.map u16v)) (hm : RdC w 0 w.heap.size 1 u m.length (m.map u16v)) : Ret Try.prog 22 #[v, u] w (fun v' w' => Below w.heap.size w w' ∧ Own w' w.heap.size 35 1 v' (meetL l m).length ((meetL l m).map u16v)) := by
 have hb := Below.refl w.heap.size w
 refine enter (N := 27) Try.func22 rfl rfl (by simp) fun a0 hN hd hA => ?_
 have s0 : a0.tmps.getD 0 undef = v := hA 0 (by simp)
 have s1 : a0.tmps.getD 1 undef = u := hA 1 (by simp)
 clear hA
 refine seq_any fun K800 hK800 => ?_
 refine one_reg ?_
 refine op_assign rfl ?_
 refine reg_nil ?_
 refine hK800 _ _ ?_
 refine seq_any fun K801 hK801 => ?_
 refine one_reg ?_
 refine op_assign rfl ?_
 refine reg_nil ?_
 refine hK801 _ _ ?_
 refine seq_any fun K802 hK802 => ?_
 refine seq_any fun K803 hK803 => ?_
 refine one_reg ?_
 refine op_assign rfl ?_
 refine reg_nil ?_
 refine hK803 _ _ ?_
 refine wp_block ?_
 refine loop_m (fun mz_ az_ w' => ∃ (i : Nat) (r : Value), mz_ = l.length - i ∧ (az_.tmps.getD 0 undef = v) ∧ (az_.tmps.getD 1 undef = u) ∧ (az_.tmps.getD 4 undef = (Value.slice none 0 0)) ∧ (az_.tmps.getD 6 undef = (Value.int .i64 ((i : Nat) : Int))) ∧ (az_.tmps.getD 5 undef = r) ∧ (i ≤ l.length) ∧ (((l.take i).filter (fun x => inL x m)).length ≤ i) ∧ (Below w.heap.size w w') ∧ (w.heap.size ≤ w'.heap.size) ∧ (RdC w' 0 w.heap.size 1 v l.length (l.map u16v)) ∧ (RdC w' 0 w.heap.size 1 u m.length (m.map u16v)) ∧ (Own w' w.heap.size 35 1 r ((l.take i).filter (fun x => inL x m)).length (((l.take i).filter (fun x => inL x m)).map u16v))) _ hN hd ⟨0, _, rfl, (sl_base hN rfl s0), (sl_base hN rfl s1), (sl_hit hN rfl), (sl_hit hN rfl).trans (congrArg (Value.int .i64) (by omega)), (sl_hit hN rfl), Nat.zero_le _, (by simp), hb, (Nat.le_refl _), hl, hm, (Own.nil _ _ _ _)⟩ ?_
 rintro _ a804 w804 hN804 hd804 ⟨i, r, rfl, s804_0, s804_1, s804_4, s804_6, s804_5, hi, hfl, hb, zl_w804, hl, hm, hO805⟩
 have z_w804 := hb.size
 refine seq_any fun K806 hK806 => ?_
 refine seq_any fun K807 hK807 => ?_
 refine one_reg ?_
 refine op_move (ev_base hN804 rfl s804_6) ?_
 refine op_move (ev_base hN804 rfl s804_0) ?_
 refine op_len_rd Try.underlying23 (ev_hit hN804 rfl) hl ?_
 refine op_lss (ev_hit hN804 rfl) (ev_hit hN804 rfl) (fun c10 => ?_) (fun c10 => ?_)
 · -- 10T
  refine reg_nil ?_
  refine hK807 _ _ ?_
  refine wp_cond_true (ev_hit hN804 rfl) ?_
  refine wp_skip ?_
  refine hK806 _ _ ?_
  refine seq_any fun K808 hK808 => ?_
  refine wp_block ?_
  refine seq_any fun K809 hK809 => ?_
  refine one_reg ?_
  refine op_move (ev_base hN804 rfl s804_1) ?_
  refine op_move (ev_base hN804 rfl s804_0) ?_
  refine op_move (ev_base hN804 rfl s804_6) ?_
  refine op_index_rd slt23 (ev_hit hN804 rfl) hl (ev_hit hN804 rfl) (by omega) (by omega) ?_
  intro b810 o811 h0b810 h1b810 hc812
  refine op_load1 (v := (Value.int .u16 ((l.getD i 0).toNat : Int))) one35 (ev_hit hN804 rfl) (by have := hc812 0 (Value.int .u16 ((l.getD i 0).toNat : Int)) (by decide) (el_u16 (i := i) (by omega) (by omega)); simpa using this) ?_
  refine op_fn (vs := [u, (Value.int .u16 ((l.getD i 0).toNat : Int))]) ok44 ⟨(ev_hit hN804 rfl), ⟨(ev_hit hN804 rfl), trivial⟩⟩ (Ret.flip (rinW_ret m (l.getD i 0) _ _ (by omega) (show RdC w804 0 w804.heap.size 1 u m.length (m.map u16v) from by have hh : RdC w804 0 w804.heap.size 1 _ _ _ := (hm.mono (L' := 0) (B' := w804.heap.size) (Nat.zero_le _) (by omega)); first | exact hh | exact hh.cast (by first | omega | (simp; try omega)) (by first | rfl | simp [u16v])))) ?_
  rintro _ _ ⟨rfl, rfl⟩
  rcases Bool.eq_false_or_eq_true ((inL (l.getD i 0) m)) with c18 | c18
  · -- 18T
   rw [c18]
   refine reg_nil ?_
   refine hK809 _ _ ?_
   refine wp_cond_true (ev_hit hN804 rfl) ?_
   refine one_reg ?_
   refine op_move (ev_base hN804 rfl s804_5) ?_
   refine op_move (ev_base hN804 rfl s804_0) ?_
   refine op_move (ev_base hN804 rfl s804_6) ?_
   refine op_index_rd slt23 (ev_hit hN804 rfl) hl (ev_hit hN804 rfl) (by omega) (by omega) ?_
   intro b813 o814 h0b813 h1b813 hc815
   refine op_load1 (v := (Value.int .u16 ((l.getD i 0).toNat : Int))) one35 (ev_hit hN804 rfl) (by have := hc815 0 (Value.int .u16 ((l.getD i 0).toNat : Int)) (by decide) (el_u16 (i := i) (by omega) (by omega)); simpa using this) ?_
   refine op_bslice (e := 35) (pv := [(0, (Value.int .u16 ((l.getD i 0).toNat : Int)))]) (cs := [(Value.int .u16 ((l.getD i 0).toNat : Int))]) ⟨rfl, (ev_hit hN804 rfl), trivial⟩ (by kernel_rfl) ?_
   intro w816 b817 lo_b817 hi_b817 hB819 E818
   have ne_b817_r : r.ownBlock ≠ some b817 := fun hh => by have := (hO805.lt _ hh).2; omega
   have z_w816 := E818.size
   have hl := hl.keep0 E818
   have hm := hm.keep0 E818
   have hO805 := hO805.keep0 E818
   have hb := below_step0 hb E818 hb.size
   have hP825 := hO805
   refine op_append slt23 (ev_hit hN804 rfl) hP825 (ev_hit hN804 rfl) (Src.ofRd Try.underlying23 (by decide) (RdC.ofBx (sz := 1) (n := 1) hB819 rfl (by decide)) (by simp [Value.oneCell', u8v])) (by unfold maxLen; omega) (by omega) hb.size ?_
   intro v820 w821 hO823 E822 hm824
   have z_w821 := E822.size
   have hl := hl.keepO hP825 E822 (by omega)
   have hm := hm.keepO hP825 E822 (by omega)
   have hB819 := hB819.keep E822 (fun hh => ne_b817_r hh.symm)
   have hb := below_stepO hb hP825 E822 hb.size (by omega)
   have hO823 : Own w821 w.heap.size 35 1 v820 (((l.take i).filter (fun x => inL x m)).length + 1) (((((l.take i).filter (fun x => inL x m)) ++ [(l.getD i 0)])).map u16v) := by simpa [u8v, u16v, cellsV] using hO823
   have ne_b817_v820 : v820.ownBlock ≠ some b817 := ne_step (w1 := w816) ⟨E822, hm824⟩ (by omega) ne_b817_r
   refine op_assign (ev_hit hN804 rfl) ?_
   refine reg_nil ?_
   refine hK808 _ _ ?_
   refine one_reg ?_
   refine op_move (ev_base hN804 rfl s804_6) ?_
   refine op_add (ev_hit hN804 rfl) rfl (add64 (by omega)) ?_
   refine op_assign (ev_hit hN804 rfl) ?_
   refine reg_nil ?_
   -- round 10T 18T
   exact loop_next _ hN804 hd804 ⟨i + 1, _, rfl, (sl_base hN804 rfl s804_0), (sl_base hN804 rfl s804_1), (sl_base hN804 rfl s804_4), (sl_hit hN804 rfl).trans (congrArg (Value.int .i64) (by omega)), (sl_hit hN804 rfl), (by omega), (by first | exact filter_le), hb, (by omega), hl, hm, (hO823.cast (by rw [filter_t (by omega) c18]; try simp) (by rw [filter_t (by omega) c18]; try simp [u16v]))⟩ (by omega)
  · -- 18F
   rw [c18]
   refine reg_nil ?_
   refine hK809 _ _ ?_
   refine wp_cond_false (ev_hit hN804 rfl) ?_
   refine wp_skip ?_
   refine hK808 _ _ ?_
   refine one_reg ?_
   refine op_move (ev_base hN804 rfl s804_6) ?_
   refine op_add (ev_hit hN804 rfl) rfl (add64 (by omega)) ?_
   refine op_assign (ev_hit hN804 rfl) ?_
   refine reg_nil ?_
   -- round 10T 18F
   exact loop_next _ hN804 hd804 ⟨i + 1, _, rfl, (sl_base hN804 rfl s804_0), (sl_base hN804 rfl s804_1), (sl_base hN804 rfl s804_4), (sl_hit hN804 rfl).trans (congrArg (Value.int .i64) (by omega)), (sl_base hN804 rfl s804_5), (by omega), (by first | exact filter_le), hb, (by omega), hl, hm, (hO805.cast (by rw [filter_f (by omega) c18]) (by rw [filter_f (by omega) c18]))⟩ (by omega)
 · -- 10F
  refine reg_nil ?_
  refine hK807 _ _ ?_
  refine wp_cond_false (ev_hit hN804 rfl) ?_
  refine wp_exit (then_exit (then_exit (blk_hit ?_)))
  refine hK802 _ _ ?_
  refine seq_any fun K826 hK826 => ?_
  refine one_reg ?_
  refine op_move (ev_base hN804 rfl s804_5) ?_
  refine op_assign (ev_hit hN804 rfl) ?_
  refine reg_nil ?_
  refine hK826 _ _ ?_
  refine wp_ret ?_
  refine ret1 rfl hd804 (ev_hit hN804 rfl) ⟨_, rfl, ?_⟩
  -- path 10F
  rw [take_all l (by omega)] at hO805
  exact ⟨hb, hO805⟩

theorem rflowsW_ret (l m : Lb) (v u : Value) (w : World) (hz : l.length ≤ 1000000000000) (hzm : m.length ≤ 1000000000000) (hl : RdC w 0 w.heap.size 1 v l.length (l.map u16v)) (hm : RdC w 0 w.heap.size 1 u m.length (m.map u16v)) : Ret Try.prog 17 #[v, u] w (fun v' w' => Below w.heap.size w w' ∧ v' = .bool (flowsL l m)) := by
 have hb := Below.refl w.heap.size w
 refine enter (N := 19) Try.func17 rfl rfl (by simp) fun a0 hN hd hA => ?_
 have s0 : a0.tmps.getD 0 undef = v := hA 0 (by simp)
 have s1 : a0.tmps.getD 1 undef = u := hA 1 (by simp)
 clear hA
 refine seq_any fun K827 hK827 => ?_
 refine one_reg ?_
 refine op_assign rfl ?_
 refine reg_nil ?_
 refine hK827 _ _ ?_
 refine seq_any fun K828 hK828 => ?_
 refine seq_any fun K829 hK829 => ?_
 refine one_reg ?_
 refine op_assign rfl ?_
 refine reg_nil ?_
 refine hK829 _ _ ?_
 refine wp_block ?_
 refine loop_m (fun mz_ az_ w' => ∃ (i : Nat), mz_ = l.length - i ∧ (az_.tmps.getD 0 undef = v) ∧ (az_.tmps.getD 1 undef = u) ∧ (az_.tmps.getD 5 undef = (Value.int .i64 ((i : Nat) : Int))) ∧ (i ≤ l.length) ∧ ((l.take i).all (fun x => inL x m) = true) ∧ w = w') _ hN hd ⟨0, rfl, (sl_base hN rfl s0), (sl_base hN rfl s1), (sl_hit hN rfl).trans (congrArg (Value.int .i64) (by omega)), Nat.zero_le _, rfl, rfl⟩ ?_
 rintro _ a830 _ hN830 hd830 ⟨i, rfl, s830_0, s830_1, s830_5, hi, hall, rfl⟩
 refine seq_any fun K831 hK831 => ?_
 refine seq_any fun K832 hK832 => ?_
 refine one_reg ?_
 refine op_move (ev_base hN830 rfl s830_5) ?_
 refine op_move (ev_base hN830 rfl s830_0) ?_
 refine op_len_rd Try.underlying23 (ev_hit hN830 rfl) hl ?_
 refine op_lss (ev_hit hN830 rfl) (ev_hit hN830 rfl) (fun c9 => ?_) (fun c9 => ?_)
 · -- 9T
  refine reg_nil ?_
  refine hK832 _ _ ?_
  refine wp_cond_true (ev_hit hN830 rfl) ?_
  refine wp_skip ?_
  refine hK831 _ _ ?_
  refine seq_any fun K833 hK833 => ?_
  refine wp_block ?_
  refine seq_any fun K834 hK834 => ?_
  refine one_reg ?_
  refine op_move (ev_base hN830 rfl s830_1) ?_
  refine op_move (ev_base hN830 rfl s830_0) ?_
  refine op_move (ev_base hN830 rfl s830_5) ?_
  refine op_index_rd slt23 (ev_hit hN830 rfl) hl (ev_hit hN830 rfl) (by omega) (by omega) ?_
  intro b835 o836 h0b835 h1b835 hc837
  refine op_load1 (v := (Value.int .u16 ((l.getD i 0).toNat : Int))) one35 (ev_hit hN830 rfl) (by have := hc837 0 (Value.int .u16 ((l.getD i 0).toNat : Int)) (by decide) (el_u16 (i := i) (by omega) (by omega)); simpa using this) ?_
  refine op_fn (vs := [u, (Value.int .u16 ((l.getD i 0).toNat : Int))]) ok44 ⟨(ev_hit hN830 rfl), ⟨(ev_hit hN830 rfl), trivial⟩⟩ (Ret.flip (rinW_ret m (l.getD i 0) _ _ (by omega) (show RdC w 0 w.heap.size 1 u m.length (m.map u16v) from by have hh : RdC w 0 w.heap.size 1 _ _ _ := (hm.mono (L' := 0) (B' := w.heap.size) (Nat.zero_le _) (by omega)); first | exact hh | exact hh.cast (by first | omega | (simp; try omega)) (by first | rfl | simp [u16v])))) ?_
  rintro _ _ ⟨rfl, rfl⟩
  rcases Bool.eq_false_or_eq_true ((inL (l.getD i 0) m)) with c17 | c17
  · -- 17T
   rw [c17]
   refine op_not (ev_hit hN830 rfl) ?_
   refine reg_nil ?_
   refine hK834 _ _ ?_
   refine wp_cond_false (ev_hit hN830 rfl) ?_
   refine wp_skip ?_
   refine hK833 _ _ ?_
   refine one_reg ?_
   refine op_move (ev_base hN830 rfl s830_5) ?_
   refine op_add (ev_hit hN830 rfl) rfl (add64 (by omega)) ?_
   refine op_assign (ev_hit hN830 rfl) ?_
   refine reg_nil ?_
   -- round 9T 17T
   exact loop_next _ hN830 hd830 ⟨i + 1, rfl, (sl_base hN830 rfl s830_0), (sl_base hN830 rfl s830_1), (sl_hit hN830 rfl).trans (congrArg (Value.int .i64) (by omega)), (by omega), (all_step (by omega) hall c17), rfl⟩ (by omega)
  · -- 17F
   rw [c17]
   refine op_not (ev_hit hN830 rfl) ?_
   refine reg_nil ?_
   refine hK834 _ _ ?_
   refine wp_cond_true (ev_hit hN830 rfl) ?_
   refine seq_any fun K838 hK838 => ?_
   refine one_reg ?_
   refine op_assign rfl ?_
   refine reg_nil ?_
   refine hK838 _ _ ?_
   refine wp_ret (blk_ret (then_ret (then_ret (blk_ret (then_ret ( ?_))))))
   refine ret1 rfl hd830 (ev_hit hN830 rfl) ⟨_, rfl, ?_⟩
   -- path 9T 17F
   exact ⟨hb, congrArg Value.bool (all_f (i := i) (by omega) c17).symm⟩
 · -- 9F
  refine reg_nil ?_
  refine hK832 _ _ ?_
  refine wp_cond_false (ev_hit hN830 rfl) ?_
  refine wp_exit (then_exit (then_exit (blk_hit ?_)))
  refine hK828 _ _ ?_
  refine seq_any fun K839 hK839 => ?_
  refine one_reg ?_
  refine op_assign rfl ?_
  refine reg_nil ?_
  refine hK839 _ _ ?_
  refine wp_ret ?_
  refine ret1 rfl hd830 (ev_hit hN830 rfl) ⟨_, rfl, ?_⟩
  -- path 9F
  exact ⟨hb, congrArg Value.bool (all_end (i := i) (by omega) hall).symm⟩

end Go.Proofs.Ytpmnljffdofkeaa

/- Walks, written by a program: what each function of the translation hands back. -/
namespace Go.Proofs.Ytpmnljffdofkeaa
open Go.Gx Go.RowKit
attribute [local irreducible] wpList wpStill Code.wp Calls
open Go.Sort (bitsLen)
set_option maxHeartbeats 2000000 in
theorem rallW_ret (l : Lb) (v : Value) (w : World) (hz : l.length ≤ 1000000000000) (hl : RdC w 0 w.heap.size 1 v l.length (l.map u16v)) : Ret Try.prog 45 #[v] w (fun v' w' => Below w.heap.size w w' ∧ Own w' w.heap.size 35 1 v' (nrm l).length ((nrm l).map u16v)) := by
 have hb := Below.refl w.heap.size w
 refine enter (N := 60) Try.func45 rfl rfl (by simp) fun a0 hN hd hA => ?_
 have s0 : a0.tmps.getD 0 undef = v := hA 0 (by simp)
 clear hA
 refine seq_any fun K840 hK840 => ?_
 refine one_reg ?_
 refine op_assign rfl ?_
 refine reg_nil ?_
 refine hK840 _ _ ?_
 refine seq_any fun K841 hK841 => ?_
 refine one_reg ?_
 refine op_assign rfl ?_
 refine reg_nil ?_
 refine hK841 _ _ ?_
 refine seq_any fun K842 hK842 => ?_
 refine seq_any fun K843 hK843 => ?_
 refine one_reg ?_
 refine op_assign rfl ?_
 refine reg_nil ?_
 refine hK843 _ _ ?_
 refine wp_block ?_
 refine loop_m (fun mz_ az_ w' => ∃ (i : Nat) (r : Value), mz_ = l.length - i ∧ (az_.tmps.getD 0 undef = v) ∧ (az_.tmps.getD 2 undef = (Value.slice none 0 0)) ∧ (az_.tmps.getD 4 undef = (Value.int .i64 ((i : Nat) : Int))) ∧ (az_.tmps.getD 3 undef = r) ∧ (i ≤ l.length) ∧ ((nrm (l.take i)).length ≤ i) ∧ (Below w.heap.size w w') ∧ (w.heap.size ≤ w'.heap.size) ∧ (RdC w' 0 w.heap.size 1 v l.length (l.map u16v)) ∧ (Own w' w.heap.size 35 1 r (nrm (l.take i)).length ((nrm (l.take i)).map u16v))) _ hN hd ⟨0, _, rfl, (sl_base hN rfl s0), (sl_hit hN rfl), (sl_hit hN rfl).trans (congrArg (Value.int .i64) (by omega)), (sl_hit hN rfl), Nat.zero_le _, (by simp [nrm]), hb, (Nat.le_refl _), hl, (Own.nil _ _ _ _)⟩ ?_
 rintro _ a844 w844 hN844 hd844 ⟨i, r, rfl, s844_0, s844_2, s844_4, s844_3, hi, hfl, hb, zl_w844, hl, hO845⟩
 have z_w844 := hb.size
 refine seq_any fun K846 hK846 => ?_
 refine seq_any fun K847 hK847 => ?_
 refine one_reg ?_
 refine op_move (ev_base hN844 rfl s844_4) ?_
 refine op_move (ev_base hN844 rfl s844_0) ?_
 refine op_len_rd Try.underlying22 (ev_hit hN844 rfl) hl ?_
 refine op_lss (ev_hit hN844 rfl) (ev_hit hN844 rfl) (fun c9 => ?_) (fun c9 => ?_)
 · -- 9T
  refine reg_nil ?_
  refine hK847 _ _ ?_
  refine wp_cond_true (ev_hit hN844 rfl) ?_
  refine wp_skip ?_
  refine hK846 _ _ ?_
  refine seq_any fun K848 hK848 => ?_
  refine wp_block ?_
  refine seq_any fun K849 hK849 => ?_
  refine one_reg ?_
  refine op_assign rfl ?_
  refine reg_nil ?_
  refine hK849 _ _ ?_
  refine seq_any fun K850 hK850 => ?_
  refine wp_block ?_
  refine loop_m (fun mz_ az_ w' => ∃ (jj : Nat), mz_ = (nrm (l.take i)).length - jj ∧ (az_.tmps.getD 0 undef = v) ∧ (az_.tmps.getD 2 undef = (Value.slice none 0 0)) ∧ (az_.tmps.getD 3 undef = r) ∧ (az_.tmps.getD 4 undef = (Value.int .i64 ((i : Nat) : Int))) ∧ (az_.tmps.getD 5 undef = (Value.int .i64 ((jj : Nat) : Int))) ∧ (jj ≤ (nrm (l.take i)).length) ∧ (∀ k9, k9 < jj → ((nrm (l.take i)).getD k9 0).toNat < (l.getD i 0).toNat) ∧ (Below w.heap.size w w') ∧ (w844.heap.size ≤ w'.heap.size) ∧ (RdC w' 0 w.heap.size 1 v l.length (l.map u16v)) ∧ (Own w' w.heap.size 35 1 r (nrm (l.take i)).length ((nrm (l.take i)).map u16v))) _ hN844 hd844 ⟨0, rfl, (sl_base hN844 rfl s844_0), (sl_base hN844 rfl s844_2), (sl_base hN844 rfl s844_3), (sl_base hN844 rfl s844_4), (sl_hit hN844 rfl).trans (congrArg (Value.int .i64) (by omega)), Nat.zero_le _, (fun k9 h9 => absurd h9 (Nat.not_lt_zero _)), hb, (Nat.le_refl _), hl, hO845⟩ ?_
  rintro _ a851 w851 hN851 hd851 ⟨jj, rfl, s851_0, s851_2, s851_3, s851_4, s851_5, hj, hlt, hb, zl_w851, hl, hO845⟩
  have z_w851 := hb.size
  refine seq_any fun K852 hK852 => ?_
  refine seq_any fun K853 hK853 => ?_
  refine reg_still mixed (by kernel_rfl) ?_
  intro w855 E854
  have z_w855 := E854.size
  have hl := hl.keep0 E854
  have hO845 := hO845.keep0 E854
  have hb := below_step0 hb E854 hb.size
  refine st_step rfl (fun _ h9 => op_move (ev_base hN851 rfl s851_5) h9) ?_
  refine st_step rfl (fun _ h9 => op_move (ev_base hN851 rfl s851_3) h9) ?_
  refine st_step rfl (fun _ h9 => op_len_rd Try.underlying23 (ev_hit hN851 rfl) hO845.rdw h9) ?_
  by_cases g15 : ((jj : Nat) : Int) < (((nrm (l.take i)).length : Nat) : Int)
  · -- 15T
   refine st_step rfl (fun _ h9 => op_cmp (b := true) (ev_hit hN851 rfl) (ev_hit hN851 rfl) (b_lss (decide_eq_true g15)) h9) ?_
   refine st_step rfl (fun _ h9 => op_move (ev_hit hN851 rfl) h9) ?_
   refine st_g_true (j := 4) (dj := 16) (b := true) rfl rfl rfl (ev_hit hN851 rfl) ?_
   refine st_step rfl (fun _ h9 => op_move (ev_base hN851 rfl s851_3) h9) ?_
   refine st_g_true (j := 4) (dj := 16) (b := true) rfl rfl rfl (ev_hit hN851 rfl) ?_
   refine st_step rfl (fun _ h9 => op_move (ev_base hN851 rfl s851_5) h9) ?_
   refine st_g_true (j := 4) (dj := 16) (b := true) rfl rfl rfl (ev_hit hN851 rfl) ?_
   refine st_index_rd slt23 (ev_hit hN851 rfl) hO845.rdw (ev_hit hN851 rfl) (by omega) (by omega) ?_
   intro b856 o857 h0b856 h1b856 hc858
   refine st_g_true (j := 4) (dj := 16) (b := true) rfl rfl rfl (ev_hit hN851 rfl) ?_
   refine st_step rfl (fun _ h9 => op_load1 (v := (Value.int .u16 (((nrm (l.take i)).getD jj 0).toNat : Int))) one35 (ev_hit hN851 rfl) (by have := hc858 0 (Value.int .u16 (((nrm (l.take i)).getD jj 0).toNat : Int)) (by decide) (el_u16 (i := jj) (by omega) (by omega)); simpa using this) h9) ?_
   refine st_g_true (j := 4) (dj := 16) (b := true) rfl rfl rfl (ev_hit hN851 rfl) ?_
   refine st_step rfl (fun _ h9 => op_move (ev_base hN851 rfl s851_0) h9) ?_
   refine st_g_true (j := 4) (dj := 16) (b := true) rfl rfl rfl (ev_hit hN851 rfl) ?_
   refine st_step rfl (fun _ h9 => op_move (ev_base hN851 rfl s851_4) h9) ?_
   refine st_g_true (j := 4) (dj := 16) (b := true) rfl rfl rfl (ev_hit hN851 rfl) ?_
   refine st_index_rd slt22 (ev_hit hN851 rfl) hl (ev_hit hN851 rfl) (by omega) (by omega) ?_
   intro b859 o860 h0b859 h1b859 hc861
   refine st_g_true (j := 4) (dj := 16) (b := true) rfl rfl rfl (ev_hit hN851 rfl) ?_
   refine st_step rfl (fun _ h9 => op_load1 (v := (Value.int .u16 ((l.getD i 0).toNat : Int))) one35 (ev_hit hN851 rfl) (by have := hc861 0 (Value.int .u16 ((l.getD i 0).toNat : Int)) (by decide) (el_u16 (i := i) (by omega) (by omega)); simpa using this) h9) ?_
   refine st_g_true (j := 4) (dj := 16) (b := true) rfl rfl rfl (ev_hit hN851 rfl) ?_
   refine st_step rfl (fun _ h9 => op_cmp (b := (decide ((((nrm (l.take i)).getD jj 0).toNat : Int) < ((l.getD i 0).toNat : Int)))) (ev_hit hN851 rfl) (ev_hit hN851 rfl) (b_lss rfl) h9) ?_
   refine st_step rfl (fun _ h9 => op_pick_t (ev_hit hN851 rfl) (ev_hit hN851 rfl) h9) ?_
   refine st_nil ?_
   refine hK853 _ _ ?_
   refine wp_cond_split (ev_hit hN851 rfl) (fun c26 => ?_) (fun c26 => ?_)
   · -- 26T
    have c26 := of_decide_eq_true c26
    refine wp_skip ?_
    refine hK852 _ _ ?_
    refine wp_block ?_
    refine one_reg ?_
    refine op_move (ev_base hN851 rfl s851_5) ?_
    refine op_add (ev_hit hN851 rfl) rfl (add64 (by omega)) ?_
    refine op_assign (ev_hit hN851 rfl) ?_
    refine reg_nil ?_
    refine blk_normal ?_
    -- round 9T 15T 26T
    exact loop_next _ hN851 hd851 ⟨jj + 1, rfl, (sl_base hN851 rfl s851_0), (sl_base hN851 rfl s851_2), (sl_base hN851 rfl s851_3), (sl_base hN851 rfl s851_4), (sl_hit hN851 rfl).trans (congrArg (Value.int .i64) (by omega)), (by omega), (lt_step hlt (by omega)), hb, (by omega), hl, hO845⟩ (by omega)
   · -- 26F
    have c26 := of_decide_eq_false c26
    refine wp_exit (then_exit (then_exit (blk_hit ?_)))
    refine hK850 _ _ ?_
    refine seq_any fun K862 hK862 => ?_
    refine reg_still mixed (by kernel_rfl) ?_
    intro w864 E863
    have z_w864 := E863.size
    have hl := hl.keep0 E863
    have hO845 := hO845.keep0 E863
    have hb := below_step0 hb E863 hb.size
    refine st_step rfl (fun _ h9 => op_move (ev_base hN851 rfl s851_5) h9) ?_
    refine st_step rfl (fun _ h9 => op_move (ev_base hN851 rfl s851_3) h9) ?_
    refine st_step rfl (fun _ h9 => op_len_rd Try.underlying23 (ev_hit hN851 rfl) hO845.rdw h9) ?_
    by_cases g32 : ((jj : Nat) : Int) = (((nrm (l.take i)).length : Nat) : Int)
    · -- 32T
     refine st_step rfl (fun _ h9 => op_cmp (b := true) (ev_hit hN851 rfl) (ev_hit hN851 rfl) (b_eql (decide_eq_true g32)) h9) ?_
     refine st_step rfl (fun _ h9 => op_move (ev_hit hN851 rfl) h9) ?_
     refine st_g_false (j := 4) (dj := 33) (b := false) rfl rfl rfl (ev_hit hN851 rfl) rfl rfl ?_
     refine st_g_false (j := 4) (dj := 33) (b := false) rfl rfl rfl (ev_hit hN851 rfl) rfl rfl ?_
     refine st_g_false (j := 4) (dj := 33) (b := false) rfl rfl rfl (ev_hit hN851 rfl) rfl rfl ?_
     refine st_g_false (j := 4) (dj := 33) (b := false) rfl rfl rfl (ev_hit hN851 rfl) rfl rfl ?_
     refine st_g_false (j := 4) (dj := 33) (b := false) rfl rfl rfl (ev_hit hN851 rfl) rfl rfl ?_
     refine st_g_false (j := 4) (dj := 33) (b := false) rfl rfl rfl (ev_hit hN851 rfl) rfl rfl ?_
     refine st_g_false (j := 4) (dj := 33) (b := false) rfl rfl rfl (ev_hit hN851 rfl) rfl rfl ?_
     refine st_g_false (j := 4) (dj := 33) (b := false) rfl rfl rfl (ev_hit hN851 rfl) rfl rfl ?_
     refine st_g_false (j := 4) (dj := 33) (b := false) rfl rfl rfl (ev_hit hN851 rfl) rfl rfl ?_
     refine st_step rfl (fun _ h9 => op_pick_t (ev_hit hN851 rfl) rfl h9) ?_
     refine st_nil ?_
     refine hK862 _ _ ?_
     refine wp_cond_true (ev_hit hN851 rfl) ?_
     have hO845_s := hO845
     refine reg_split (hd := [_, _, _, _, _, _, _, _, _, _, _, _, _, _]) (tl := _) 14 mixed (by kernel_rfl) rfl rfl ?_
     refine any_chain (Φ := phiC [chP 0, (fun _ _ uz _ => uz = r), (fun _ _ uz _ => uz = (Value.int .i64 ((jj : Nat) : Int))), (fun _ vz uz w' => ∃ (v869 : Value), uz = v869 ∧ RdC w' w.heap.size w864.heap.size 1 v869 jj ((((nrm (l.take i)).take jj)).map u16v) ∧ (w864.heap.size ≤ w'.heap.size ∧ ∀ k, vz.ownBlock = some k → w864.heap.size ≤ k)), chP 1, (fun _ _ uz _ => uz = v), (fun _ _ uz _ => uz = (Value.int .i64 ((i : Nat) : Int))), (fun _ vz uz w' => ∃ (b878 : (Nat)) (o879 : (Nat)), uz = (ptr b878 o879) ∧ PtC w' 0 w.heap.size b878 o879 [(Value.int .u16 ((l.getD i 0).toNat : Int))] ∧ (w.heap.size ≤ w'.heap.size ∧ ∀ k, vz.ownBlock = some k → w.heap.size ≤ k)), (fun _ _ uz _ => uz = (Value.int .u16 ((l.getD i 0).toNat : Int))), (fun _ vz uz w' => ∃ (b883 : Nat), uz = (Value.slice (some ⟨b883, 0, none⟩) 1 1) ∧ w864.heap.size ≤ b883 ∧ Bx w' b883 35 [(Value.int .u16 ((l.getD i 0).toNat : Int))] ∧ vz.ownBlock ≠ some b883), chP 2, (fun _ _ uz _ => uz = r), (fun _ _ uz _ => uz = (Value.int .i64 ((jj : Nat) : Int))), (fun _ vz uz w' => ∃ (v893 : Value), uz = v893 ∧ RdC w' w.heap.size w864.heap.size 1 v893 ((nrm (l.take i)).length - jj) ((((nrm (l.take i)).drop jj)).map u16v) ∧ (w864.heap.size ≤ w'.heap.size ∧ ∀ k, vz.ownBlock = some k → w864.heap.size ≤ k))]) (C := CL [(fun vz w' => Own w' w.heap.size 35 1 vz 0 ([])), (fun vz w' => Own w' w.heap.size 35 1 vz 0 ([])), (fun vz w' => Own w' w.heap.size 35 1 vz (0 + jj) ((((nrm (l.take i)).take jj)).map u16v)), (fun vz w' => Own w' w.heap.size 35 1 vz ((0 + jj) + 1) (((((nrm (l.take i)).take jj) ++ [(l.getD i 0)])).map u16v))]) ⟨[0, 4, 10], fun c => [60, 44, 48, 54].getD c 60⟩ (Value.slice none 0 0) (by kernel_rfl) (by kernel_rfl) (by kernel_rfl) (by kernel_rfl) hN851 (StK.get0 (n := 3) (StK.ch (StK.eq (StK.eq (StK.cons (fun c v u w1 w2 E h => by obtain ⟨x0, hv, f0, q0⟩ := h; exact ⟨x0, hv, f0.keep0 E, ⟨Nat.le_trans q0.1 E.size, q0.2⟩⟩) (fun c v v' u w1 w2 _ E h => by obtain ⟨x0, hv, f0, q0⟩ := h; exact ⟨x0, hv, f0.keep E.1 (fun k hk => .inr (q0.2 k hk)), ⟨Nat.le_trans q0.1 E.1.size, ge_step E q0.1 q0.2⟩⟩) (StK.ch (StK.eq (StK.eq (StK.cons (fun c v u w1 w2 E h => by obtain ⟨x0, x1, hv, f0, q0⟩ := h; exact ⟨x0, x1, hv, f0.keep0 E, ⟨Nat.le_trans q0.1 E.size, q0.2⟩⟩) (fun c v v' u w1 w2 _ E h => by obtain ⟨x0, x1, hv, f0, q0⟩ := h; exact ⟨x0, x1, hv, f0.keep E.1 (fun k hk => .inr (q0.2 k hk)), ⟨Nat.le_trans q0.1 E.1.size, ge_step E q0.1 q0.2⟩⟩) (StK.eq (StK.cons (fun c v u w1 w2 E h => by obtain ⟨x0, hv, l0, f0, q0⟩ := h; exact ⟨x0, hv, l0, f0.keep0 E, q0⟩) (fun c v v' u w1 w2 _ E h => by obtain ⟨x0, hv, l0, f0, q0⟩ := h; exact ⟨x0, hv, l0, f0.keep E.1 (fun hh => q0 hh.symm), ne_step E f0.lt q0⟩) (StK.ch (StK.eq (StK.eq (StK.cons (fun c v u w1 w2 E h => by obtain ⟨x0, hv, f0, q0⟩ := h; exact ⟨x0, hv, f0.keep0 E, ⟨Nat.le_trans q0.1 E.size, q0.2⟩⟩) (fun c v v' u w1 w2 _ E h => by obtain ⟨x0, hv, f0, q0⟩ := h; exact ⟨x0, hv, f0.keep E.1 (fun k hk => .inr (q0.2 k hk)), ⟨Nat.le_trans q0.1 E.1.size, ge_step E q0.1 q0.2⟩⟩) (StK.nil)))))))))))))))) (StK.get1 (n := 3) (StK.ch (StK.eq (StK.eq (StK.cons (fun c v u w1 w2 E h => by obtain ⟨x0, hv, f0, q0⟩ := h; exact ⟨x0, hv, f0.keep0 E, ⟨Nat.le_trans q0.1 E.size, q0.2⟩⟩) (fun c v v' u w1 w2 _ E h => by obtain ⟨x0, hv, f0, q0⟩ := h; exact ⟨x0, hv, f0.keep E.1 (fun k hk => .inr (q0.2 k hk)), ⟨Nat.le_trans q0.1 E.1.size, ge_step E q0.1 q0.2⟩⟩) (StK.ch (StK.eq (StK.eq (StK.cons (fun c v u w1 w2 E h => by obtain ⟨x0, x1, hv, f0, q0⟩ := h; exact ⟨x0, x1, hv, f0.keep0 E, ⟨Nat.le_trans q0.1 E.size, q0.2⟩⟩) (fun c v v' u w1 w2 _ E h => by obtain ⟨x0, x1, hv, f0, q0⟩ := h; exact ⟨x0, x1, hv, f0.keep E.1 (fun k hk => .inr (q0.2 k hk)), ⟨Nat.le_trans q0.1 E.1.size, ge_step E q0.1 q0.2⟩⟩) (StK.eq (StK.cons (fun c v u w1 w2 E h => by obtain ⟨x0, hv, l0, f0, q0⟩ := h; exact ⟨x0, hv, l0, f0.keep0 E, q0⟩) (fun c v v' u w1 w2 _ E h => by obtain ⟨x0, hv, l0, f0, q0⟩ := h; exact ⟨x0, hv, l0, f0.keep E.1 (fun hh => q0 hh.symm), ne_step E f0.lt q0⟩) (StK.ch (StK.eq (StK.eq (StK.cons (fun c v u w1 w2 E h => by obtain ⟨x0, hv, f0, q0⟩ := h; exact ⟨x0, hv, f0.keep0 E, ⟨Nat.le_trans q0.1 E.size, q0.2⟩⟩) (fun c v v' u w1 w2 _ E h => by obtain ⟨x0, hv, f0, q0⟩ := h; exact ⟨x0, hv, f0.keep E.1 (fun k hk => .inr (q0.2 k hk)), ⟨Nat.le_trans q0.1 E.1.size, ge_step E q0.1 q0.2⟩⟩) (StK.nil)))))))))))))))) (StL2.get0 (StL2.own (StL2.own (StL2.own (StL2.own (StL2.nil)))))) (StL2.get1 (StL2.own (StL2.own (StL2.own (StL2.own (StL2.nil)))))) (Own.nil w864 w.heap.size 35 1) (ObLn.get (ObLn.pass rfl (ObLn.cons ?_ (ObLn.cons ?_ (ObLn.cons ?_ (ObLn.pass rfl (ObLn.cons ?_ (ObLn.cons ?_ (ObLn.cons ?_ (ObLn.cons ?_ (ObLn.cons ?_ (ObLn.pass rfl (ObLn.cons ?_ (ObLn.cons ?_ (ObLn.cons ?_ (ObLn.nil)))))))))))))))) (ObLc.get (ObLc.cons ?_ (ObLc.cons ?_ (ObLc.cons ?_ (ObLc.nil))))) ?_
     ·
      intro aA wA ccA cvA hNA hclA hRA hltA hvoA hbsA hdpA
      have qA_3 := (hbsA 3 rfl).trans (sl_base hN851 rfl s851_3)
      refine op_move (ev_base hNA rfl qA_3) ?_
      exact obNc_end rfl rfl (grown_refl _ _)
     ·
      intro aA wA ccA cvA hNA hclA hRA hltA hvoA hbsA hdpA
      have qA_5 := (hbsA 5 rfl).trans (sl_base hN851 rfl s851_5)
      refine op_move (ev_base hNA rfl qA_5) ?_
      exact obNc_end rfl rfl (grown_refl _ _)
     ·
      intro aA wA ccA cvA hNA hclA hRA hltA hvoA hbsA hdpA
      have hRA : w864.grownBy wA (Value.slice none 0 0).ownBlock := hRA
      have hnil_o := (Own.nil w864 w.heap.size 35 1)
      have z_wA := hRA.size
      have hb := below_stepO hb (Own.nil w864 w.heap.size 35 1) hRA hb.size (by omega)
      have hl := hl.keep0 hRA
      have hO845 := hO845.keep0 hRA
      have qA_45 : Sl aA 45 r := hdpA 1 _ 45 (by kernel_rfl) rfl rfl
      have qA_46 : Sl aA 46 (Value.int .i64 ((jj : Nat) : Int)) := hdpA 2 _ 46 (by kernel_rfl) rfl rfl
      clear hbsA hdpA
      refine op_slice_rd (lo := 0) (hi := jj) slt23 (ev_base hNA rfl qA_45) (Own.rdB hO845 hO845_s) (.inl ⟨rfl, rfl⟩) (.inr ⟨_, _, rfl, (ev_base hNA rfl qA_46)⟩) (by omega) (by omega) ?_
      intro v865 hR866
      have hR866 : RdC wA w.heap.size w864.heap.size 1 v865 jj ((((nrm (l.take i)).take jj)).map u16v) := by simpa [List.map_drop, List.map_take] using hR866
      exact obNc_end rfl ⟨v865, rfl, hR866, ⟨by omega, ge_of hvoA (fun k hk => by simp [Value.ownBlock] at hk) (by omega)⟩⟩ (grown_refl _ _)
     ·
      intro aA wA ccA cvA hNA hclA hRA hltA hvoA hbsA hdpA
      have qA_0 := (hbsA 0 rfl).trans (sl_base hN851 rfl s851_0)
      refine op_move (ev_base hNA rfl qA_0) ?_
      exact obNc_end rfl rfl (grown_refl _ _)
     ·
      intro aA wA ccA cvA hNA hclA hRA hltA hvoA hbsA hdpA
      have qA_4 := (hbsA 4 rfl).trans (sl_base hN851 rfl s851_4)
      refine op_move (ev_base hNA rfl qA_4) ?_
      exact obNc_end rfl rfl (grown_refl _ _)
     ·
      intro aA wA ccA cvA hNA hclA hRA hltA hvoA hbsA hdpA
      have hRA : w864.grownBy wA (Value.slice none 0 0).ownBlock := hRA
      have hnil_o := (Own.nil w864 w.heap.size 35 1)
      have z_wA := hRA.size
      have hb := below_stepO hb (Own.nil w864 w.heap.size 35 1) hRA hb.size (by omega)
      have hl := hl.keep0 hRA
      have hO845 := hO845.keep0 hRA
      have qA_49 : Sl aA 49 v := hdpA 5 _ 49 (by kernel_rfl) rfl rfl
      have qA_50 : Sl aA 50 (Value.int .i64 ((i : Nat) : Int)) := hdpA 6 _ 50 (by kernel_rfl) rfl rfl
      clear hbsA hdpA
      refine op_index_rd slt22 (ev_base hNA rfl qA_49) hl (ev_base hNA rfl qA_50) (by omega) (by omega) ?_
      intro b867 o868 h0b867 h1b867 hc869
      have hp870 : PtC wA 0 w.heap.size b867 o868 [(Value.int .u16 ((l.getD i 0).toNat : Int))] := ⟨by omega, by omega, fun j u hu => hc869 j u (by have := (List.getElem?_eq_some_iff.1 hu).1; simpa using this) ((fun j u hu => one_at (el_u16 (i := i) (by omega) (by omega)) hu) j u hu)⟩
      exact obNc_end rfl ⟨b867, o868, rfl, hp870, ⟨by omega, ge_of hvoA (fun k hk => by simp [Value.ownBlock] at hk) (by omega)⟩⟩ (grown_refl _ _)
     ·
      intro aA wA ccA cvA hNA hclA hRA hltA hvoA hbsA hdpA
      have hRA : w864.grownBy wA (Value.slice none 0 0).ownBlock := hRA
      have hnil_o := (Own.nil w864 w.heap.size 35 1)
      have z_wA := hRA.size
      have hb := below_stepO hb (Own.nil w864 w.heap.size 35 1) hRA hb.size (by omega)
      have hl := hl.keep0 hRA
      have hO845 := hO845.keep0 hRA
      obtain ⟨b878, o879, qA_51, hp881, xqA_51_0⟩ := hdpA 7 _ 51 (by kernel_rfl) rfl rfl
      have hp881 : PtC wA 0 w.heap.size b878 o879 [(Value.int .u16 ((l.getD i 0).toNat : Int))] := hp881
      clear hbsA hdpA
      refine op_load1 (v := (Value.int .u16 ((l.getD i 0).toNat : Int))) one35 (ev_base hNA rfl qA_51) (hp881.2.2 0 _ rfl) ?_
      exact obNc_end rfl rfl (grown_refl _ _)
     ·
      intro aA wA ccA cvA hNA hclA hRA hltA hvoA hbsA hdpA
      have hRA : w864.grownBy wA (Value.slice none 0 0).ownBlock := hRA
      have hnil_o := (Own.nil w864 w.heap.size 35 1)
      have z_wA := hRA.size
      have hb := below_stepO hb (Own.nil w864 w.heap.size 35 1) hRA hb.size (by omega)
      have hl := hl.keep0 hRA
      have hO845 := hO845.keep0 hRA
      have qA_52 : Sl aA 52 (Value.int .u16 ((l.getD i 0).toNat : Int)) := hdpA 8 _ 52 (by kernel_rfl) rfl rfl
      clear hbsA hdpA
      refine op_bslice (e := 35) (pv := [(0, (Value.int .u16 ((l.getD i 0).toNat : Int)))]) (cs := [(Value.int .u16 ((l.getD i 0).toNat : Int))]) ⟨rfl, (ev_base hNA rfl qA_52), trivial⟩ (by kernel_rfl) ?_
      intro w871 b872 lo_b872 hi_b872 hB874 E873
      have ne_b872_r : r.ownBlock ≠ some b872 := fun hh => by have := (hO845.lt _ hh).2; omega
      have z_w871 := E873.size
      have hl := hl.keep0 E873
      have hO845 := hO845.keep0 E873
      have hb := below_step0 hb E873 hb.size
      exact obNc_end rfl ⟨b872, rfl, (by omega), hB874, (fun hh => by have := hltA _ hh; omega)⟩ (E873)
     ·
      intro aA wA ccA cvA hNA hclA hRA hltA hvoA hbsA hdpA
      have qA_3 := (hbsA 3 rfl).trans (sl_base hN851 rfl s851_3)
      refine op_move (ev_base hNA rfl qA_3) ?_
      exact obNc_end rfl rfl (grown_refl _ _)
     ·
      intro aA wA ccA cvA hNA hclA hRA hltA hvoA hbsA hdpA
      have qA_5 := (hbsA 5 rfl).trans (sl_base hN851 rfl s851_5)
      refine op_move (ev_base hNA rfl qA_5) ?_
      exact obNc_end rfl rfl (grown_refl _ _)
     ·
      intro aA wA ccA cvA hNA hclA hRA hltA hvoA hbsA hdpA
      have hRA : w864.grownBy wA (Value.slice none 0 0).ownBlock := hRA
      have hnil_o := (Own.nil w864 w.heap.size 35 1)
      have z_wA := hRA.size
      have hb := below_stepO hb (Own.nil w864 w.heap.size 35 1) hRA hb.size (by omega)
      have hl := hl.keep0 hRA
      have hO845 := hO845.keep0 hRA
      have qA_55 : Sl aA 55 r := hdpA 11 _ 55 (by kernel_rfl) rfl rfl
      have qA_56 : Sl aA 56 (Value.int .i64 ((jj : Nat) : Int)) := hdpA 12 _ 56 (by kernel_rfl) rfl rfl
      clear hbsA hdpA
      refine op_slice_rd (lo := jj) (hi := (nrm (l.take i)).length) slt23 (ev_base hNA rfl qA_55) (Own.rdB hO845 hO845_s) (.inr ⟨_, _, rfl, (ev_base hNA rfl qA_56)⟩) (.inl ⟨rfl, rfl⟩) (by omega) (by omega) ?_
      intro v875 hR876
      have hR876 : RdC wA w.heap.size w864.heap.size 1 v875 ((nrm (l.take i)).length - jj) ((((nrm (l.take i)).drop jj)).map u16v) := by simpa [List.map_drop, List.map_take, List.take_of_length_le] using hR876
      exact obNc_end rfl ⟨v875, rfl, hR876, ⟨by omega, ge_of hvoA (fun k hk => by simp [Value.ownBlock] at hk) (by omega)⟩⟩ (grown_refl _ _)
     ·
      intro o_ ho_; obtain rfl := Option.some.inj ho_; intro aA wA cvA hNA hRA hcv0A hbsA hdpA hCA
      have hRA : w864.grownBy wA (Value.slice none 0 0).ownBlock := hRA
      have hnil_o := (Own.nil w864 w.heap.size 35 1)
      have z_wA := hRA.size
      have hb := below_stepO hb (Own.nil w864 w.heap.size 35 1) hRA hb.size (by omega)
      have hl := hl.keep0 hRA
      have hO845 := hO845.keep0 hRA
      have hcvA : (Value.slice none 0 0) = cvA := (hcv0A rfl).symm
      subst hcvA
      have hCA : Own wA w.heap.size 35 1 (Value.slice none 0 0) 0 ([]) := hCA
      clear hbsA hdpA
      refine op_bslice (e := 35) (pv := []) (cs := []) trivial (by kernel_rfl) ?_
      intro w877 b878 lo_b878 hi_b878 hB880 E879
      have ne_b878_r : r.ownBlock ≠ some b878 := fun hh => by have := (hO845.lt _ hh).2; omega
      have z_w877 := E879.size
      have hl := hl.keep0 E879
      have hO845 := hO845.keep0 E879
      have hCA := hCA.keep0 E879
      have hb := below_step0 hb E879 hb.size
      exact obCc_end rfl rfl (chP_now (w := w877)) (Own.ofBx (base := w.heap.size) (sz := 1) (n := 0) hB880 rfl (by decide) (by omega)) ⟨E879, .inr (fun k hk => by simp [Value.ownBlock] at hk; omega)⟩
     ·
      intro o_ ho_; obtain rfl := Option.some.inj ho_; intro aA wA cvA hNA hRA hcv0A hbsA hdpA hCA
      have hRA : w864.grownBy wA (Value.slice none 0 0).ownBlock := hRA
      have hnil_o := (Own.nil w864 w.heap.size 35 1)
      have z_wA := hRA.size
      have hb := below_stepO hb (Own.nil w864 w.heap.size 35 1) hRA hb.size (by omega)
      have hl := hl.keep0 hRA
      have hO845 := hO845.keep0 hRA
      have hCA : Own wA w.heap.size 35 1 cvA 0 ([]) := hCA
      have qA_44 : aA.tmps.getD 44 undef = cvA := (show chP 0 1 cvA (aA.tmps.getD 44 undef) wA from hdpA 0 _ 44 (by kernel_rfl) rfl rfl).2 rfl
      obtain ⟨v869, qA_47, hR870, xqA_47_0⟩ := hdpA 3 _ 47 (by kernel_rfl) rfl rfl
      have hR870 : RdC wA w.heap.size w864.heap.size 1 v869 jj ((((nrm (l.take i)).take jj)).map u16v) := hR870
      clear hbsA hdpA
      have hP886 := hCA
      refine op_append slt23 (ev_base hNA rfl qA_44) hP886 (ev_base hNA rfl qA_47) (Src.ofRd Try.underlying23 (by decide) hR870 (one_u16 _)) (by unfold maxLen; omega) (by omega) hb.size ?_
      intro v881 w882 hO884 E883 hm885
      have z_w882 := E883.size
      have hl := hl.keepO hP886 E883 (by omega)
      have hR870 := hR870.keep E883 (fun k hk => .inr (xqA_47_0.2 k hk))
      have hb := below_stepO hb hP886 E883 hb.size (by omega)
      have hO884 : Own w882 w.heap.size 35 1 v881 (0 + jj) ((((nrm (l.take i)).take jj)).map u16v) := by simpa [u8v, u16v, cellsV] using hO884
      exact obCc_end rfl rfl (chP_now (w := w882)) hO884 ⟨E883, hm885⟩
     ·
      intro o_ ho_; obtain rfl := Option.some.inj ho_; intro aA wA cvA hNA hRA hcv0A hbsA hdpA hCA
      have hRA : w864.grownBy wA (Value.slice none 0 0).ownBlock := hRA
      have hnil_o := (Own.nil w864 w.heap.size 35 1)
      have z_wA := hRA.size
      have hb := below_stepO hb (Own.nil w864 w.heap.size 35 1) hRA hb.size (by omega)
      have hl := hl.keep0 hRA
      have hO845 := hO845.keep0 hRA
      have hCA : Own wA w.heap.size 35 1 cvA (0 + jj) ((((nrm (l.take i)).take jj)).map u16v) := hCA
      have qA_48 : aA.tmps.getD 48 undef = cvA := (show chP 1 2 cvA (aA.tmps.getD 48 undef) wA from hdpA 4 _ 48 (by kernel_rfl) rfl rfl).2 rfl
      obtain ⟨b883, qA_53, loA_0, hB885, xqA_53_0⟩ := hdpA 9 _ 53 (by kernel_rfl) rfl rfl
      have hB885 : Bx wA b883 35 [(Value.int .u16 ((l.getD i 0).toNat : Int))] := hB885
      clear hbsA hdpA
      have hP892 := hCA
      refine op_append slt23 (ev_base hNA rfl qA_48) hP892 (ev_base hNA rfl qA_53) (Src.ofRd Try.underlying23 (by decide) (RdC.ofBx (sz := 1) (n := 1) hB885 rfl (by decide)) (by simp [Value.oneCell', u8v])) (by unfold maxLen; omega) (by omega) hb.size ?_
      intro v887 w888 hO890 E889 hm891
      have z_w888 := E889.size
      have hl := hl.keepO hP892 E889 (by omega)
      have hB885 := hB885.keep E889 (fun hh => xqA_53_0 hh.symm)
      have hb := below_stepO hb hP892 E889 hb.size (by omega)
      have hO890 : Own w888 w.heap.size 35 1 v887 ((0 + jj) + 1) (((((nrm (l.take i)).take jj) ++ [(l.getD i 0)])).map u16v) := by simpa [u8v, u16v, cellsV] using hO890
      exact obCc_end rfl rfl (chP_now (w := w888)) hO890 ⟨E889, hm891⟩
     ·
      intro a893 w893 v886 hN893 hd893 hbs893 hph893 hC893 E893 hm893
      have hd893 := hd893.trans hd851
      have s893_0 := (hbs893 0 rfl).trans (sl_base hN851 rfl s851_0)
      have s893_2 := (hbs893 2 rfl).trans (sl_base hN851 rfl s851_2)
      have s893_3 := (hbs893 3 rfl).trans (sl_base hN851 rfl s851_3)
      have s893_4 := (hbs893 4 rfl).trans (sl_base hN851 rfl s851_4)
      have s893_54 : a893.tmps.getD 54 undef = v886 := (show chP 2 3 v886 (a893.tmps.getD 54 undef) w893 from hph893 10 _ 54 rfl rfl).2 rfl
      obtain ⟨v893, s893_57, hR894, xq893_57_0⟩ := hph893 13 _ 57 rfl rfl
      have hR894 : RdC w893 w.heap.size w864.heap.size 1 v893 ((nrm (l.take i)).length - jj) ((((nrm (l.take i)).drop jj)).map u16v) := hR894
      clear hbs893 hph893
      have E893 : w864.grownBy w893 (Value.slice none 0 0).ownBlock := E893
      have hC893 : Own w893 w.heap.size 35 1 v886 ((0 + jj) + 1) (((((nrm (l.take i)).take jj) ++ [(l.getD i 0)])).map u16v) := hC893
      have dj894 : DJ r v886 := fun k hk hg => by have q1 := (hO845.lt k hk).2; rcases hm893 with h7 | h7; (rw [h7] at hg; simp [Value.ownBlock] at hg); (have := h7 k hg; omega)
      have E893 : w864.grownBy w893 none := E893
      have z_w893 := E893.size
      have hl := hl.keep0 E893
      have hO845 := hO845.keep0 E893
      have hb := below_step0 hb E893 hb.size
      refine split_end ?_
      refine from_seq (tl := [_, _]) (by decide) (by kernel_rfl) rfl ?_
      have hP900 := hC893
      refine op_append slt23 (ev_base hN893 rfl s893_54) hP900 (ev_base hN893 rfl s893_57) (Src.ofRd Try.underlying23 (by decide) hR894 (one_u16 _)) (by unfold maxLen; omega) (by omega) hb.size ?_
      intro v895 w896 hO898 E897 hm899
      have dj901 : DJ r v895 := DJ.step hm899 (fun k hk => (hO845.lt k hk).2) dj894
      have z_w896 := E897.size
      have hl := hl.keepO hP900 E897 (by omega)
      have hO845 := hO845.keepD E897 dj894
      have hR894 := hR894.keep E897 (fun k hk => .inr (xq893_57_0.2 k hk))
      have hb := below_stepO hb hP900 E897 hb.size (by omega)
      have hO898 : Own w896 w.heap.size 35 1 v895 (((0 + jj) + 1) + ((nrm (l.take i)).length - jj)) ((((((nrm (l.take i)).take jj) ++ [(l.getD i 0)]) ++ ((nrm (l.take i)).drop jj))).map u16v) := by simpa [u8v, u16v, cellsV] using hO898
      refine op_assign (ev_hit hN893 rfl) ?_
      refine reg_nil ?_
      refine hK848 _ _ ?_
      refine one_reg ?_
      refine op_move (ev_base hN893 rfl s893_4) ?_
      refine op_add (ev_hit hN893 rfl) rfl (add64 (by omega)) ?_
      refine op_assign (ev_hit hN893 rfl) ?_
      refine reg_nil ?_
      -- round 9T 15T 26F 32T
      have hins := insT_at (x := l.getD i 0) (acc := (nrm (l.take i))) (j := jj) hlt (by omega) (by omega)
      exact loop_next _ hN893 hd893 ⟨i + 1, _, rfl, (sl_base hN893 rfl s893_0), (sl_base hN893 rfl s893_2), (sl_hit hN893 rfl).trans (congrArg (Value.int .i64) (by omega)), (sl_hit hN893 rfl), (by omega), (nrm_len (by omega)), hb, (by omega), hl, (hO898.cast (by rw [take_nrm (by omega), hins.2 (.inl (by omega))]; simp; omega) (by rw [take_nrm (by omega), hins.2 (.inl (by omega))]; try simp [u16v]))⟩ (by omega)
    · -- 32F
     refine st_step rfl (fun _ h9 => op_cmp (b := false) (ev_hit hN851 rfl) (ev_hit hN851 rfl) (b_eql (decide_eq_false g32)) h9) ?_
     refine st_step rfl (fun _ h9 => op_move (ev_hit hN851 rfl) h9) ?_
     refine st_g_true (j := 4) (dj := 33) (b := false) rfl rfl rfl (ev_hit hN851 rfl) ?_
     refine st_step rfl (fun _ h9 => op_move (ev_base hN851 rfl s851_3) h9) ?_
     refine st_g_true (j := 4) (dj := 33) (b := false) rfl rfl rfl (ev_hit hN851 rfl) ?_
     refine st_step rfl (fun _ h9 => op_move (ev_base hN851 rfl s851_5) h9) ?_
     refine st_g_true (j := 4) (dj := 33) (b := false) rfl rfl rfl (ev_hit hN851 rfl) ?_
     refine st_index_rd slt23 (ev_hit hN851 rfl) hO845.rdw (ev_hit hN851 rfl) (by omega) (by omega) ?_
     intro b902 o903 h0b902 h1b902 hc904
     refine st_g_true (j := 4) (dj := 33) (b := false) rfl rfl rfl (ev_hit hN851 rfl) ?_
     refine st_step rfl (fun _ h9 => op_load1 (v := (Value.int .u16 (((nrm (l.take i)).getD jj 0).toNat : Int))) one35 (ev_hit hN851 rfl) (by have := hc904 0 (Value.int .u16 (((nrm (l.take i)).getD jj 0).toNat : Int)) (by decide) (el_u16 (i := jj) (by omega) (by omega)); simpa using this) h9) ?_
     refine st_g_true (j := 4) (dj := 33) (b := false) rfl rfl rfl (ev_hit hN851 rfl) ?_
     refine st_step rfl (fun _ h9 => op_move (ev_base hN851 rfl s851_0) h9) ?_
     refine st_g_true (j := 4) (dj := 33) (b := false) rfl rfl rfl (ev_hit hN851 rfl) ?_
     refine st_step rfl (fun _ h9 => op_move (ev_base hN851 rfl s851_4) h9) ?_
     refine st_g_true (j := 4) (dj := 33) (b := false) rfl rfl rfl (ev_hit hN851 rfl) ?_
     refine st_index_rd slt22 (ev_hit hN851 rfl) hl (ev_hit hN851 rfl) (by omega) (by omega) ?_
     intro b905 o906 h0b905 h1b905 hc907
     refine st_g_true (j := 4) (dj := 33) (b := false) rfl rfl rfl (ev_hit hN851 rfl) ?_
     refine st_step rfl (fun _ h9 => op_load1 (v := (Value.int .u16 ((l.getD i 0).toNat : Int))) one35 (ev_hit hN851 rfl) (by have := hc907 0 (Value.int .u16 ((l.getD i 0).toNat : Int)) (by decide) (el_u16 (i := i) (by omega) (by omega)); simpa using this) h9) ?_
     refine st_g_true (j := 4) (dj := 33) (b := false) rfl rfl rfl (ev_hit hN851 rfl) ?_
     refine st_step rfl (fun _ h9 => op_cmp (b := (decide ((((nrm (l.take i)).getD jj 0).toNat : Int) ≠ ((l.getD i 0).toNat : Int)))) (ev_hit hN851 rfl) (ev_hit hN851 rfl) (b_neq rfl) h9) ?_
     refine st_step rfl (fun _ h9 => op_pick_f (ev_hit hN851 rfl) (ev_hit hN851 rfl) h9) ?_
     refine st_nil ?_
     refine hK862 _ _ ?_
     refine wp_cond_split (ev_hit hN851 rfl) (fun c43 => ?_) (fun c43 => ?_)
     · -- 43T
      have c43 := of_decide_eq_true c43
      have hO845_s := hO845
      refine reg_split (hd := [_, _, _, _, _, _, _, _, _, _, _, _, _, _]) (tl := _) 14 mixed (by kernel_rfl) rfl rfl ?_
      refine any_chain (Φ := phiC [chP 0, (fun _ _ uz _ => uz = r), (fun _ _ uz _ => uz = (Value.int .i64 ((jj : Nat) : Int))), (fun _ vz uz w' => ∃ (v912 : Value), uz = v912 ∧ RdC w' w.heap.size w864.heap.size 1 v912 jj ((((nrm (l.take i)).take jj)).map u16v) ∧ (w864.heap.size ≤ w'.heap.size ∧ ∀ k, vz.ownBlock = some k → w864.heap.size ≤ k)), chP 1, (fun _ _ uz _ => uz = v), (fun _ _ uz _ => uz = (Value.int .i64 ((i : Nat) : Int))), (fun _ vz uz w' => ∃ (b921 : (Nat)) (o922 : (Nat)), uz = (ptr b921 o922) ∧ PtC w' 0 w.heap.size b921 o922 [(Value.int .u16 ((l.getD i 0).toNat : Int))] ∧ (w.heap.size ≤ w'.heap.size ∧ ∀ k, vz.ownBlock = some k → w.heap.size ≤ k)), (fun _ _ uz _ => uz = (Value.int .u16 ((l.getD i 0).toNat : Int))), (fun _ vz uz w' => ∃ (b926 : Nat), uz = (Value.slice (some ⟨b926, 0, none⟩) 1 1) ∧ w864.heap.size ≤ b926 ∧ Bx w' b926 35 [(Value.int .u16 ((l.getD i 0).toNat : Int))] ∧ vz.ownBlock ≠ some b926), chP 2, (fun _ _ uz _ => uz = r), (fun _ _ uz _ => uz = (Value.int .i64 ((jj : Nat) : Int))), (fun _ vz uz w' => ∃ (v936 : Value), uz = v936 ∧ RdC w' w.heap.size w864.heap.size 1 v936 ((nrm (l.take i)).length - jj) ((((nrm (l.take i)).drop jj)).map u16v) ∧ (w864.heap.size ≤ w'.heap.size ∧ ∀ k, vz.ownBlock = some k → w864.heap.size ≤ k))]) (C := CL [(fun vz w' => Own w' w.heap.size 35 1 vz 0 ([])), (fun vz w' => Own w' w.heap.size 35 1 vz 0 ([])), (fun vz w' => Own w' w.heap.size 35 1 vz (0 + jj) ((((nrm (l.take i)).take jj)).map u16v)), (fun vz w' => Own w' w.heap.size 35 1 vz ((0 + jj) + 1) (((((nrm (l.take i)).take jj) ++ [(l.getD i 0)])).map u16v))]) ⟨[0, 4, 10], fun c => [60, 44, 48, 54].getD c 60⟩ (Value.slice none 0 0) (by kernel_rfl) (by kernel_rfl) (by kernel_rfl) (by kernel_rfl) hN851 (StK.get0 (n := 3) (StK.ch (StK.eq (StK.eq (StK.cons (fun c v u w1 w2 E h => by obtain ⟨x0, hv, f0, q0⟩ := h; exact ⟨x0, hv, f0.keep0 E, ⟨Nat.le_trans q0.1 E.size, q0.2⟩⟩) (fun c v v' u w1 w2 _ E h => by obtain ⟨x0, hv, f0, q0⟩ := h; exact ⟨x0, hv, f0.keep E.1 (fun k hk => .inr (q0.2 k hk)), ⟨Nat.le_trans q0.1 E.1.size, ge_step E q0.1 q0.2⟩⟩) (StK.ch (StK.eq (StK.eq (StK.cons (fun c v u w1 w2 E h => by obtain ⟨x0, x1, hv, f0, q0⟩ := h; exact ⟨x0, x1, hv, f0.keep0 E, ⟨Nat.le_trans q0.1 E.size, q0.2⟩⟩) (fun c v v' u w1 w2 _ E h => by obtain ⟨x0, x1, hv, f0, q0⟩ := h; exact ⟨x0, x1, hv, f0.keep E.1 (fun k hk => .inr (q0.2 k hk)), ⟨Nat.le_trans q0.1 E.1.size, ge_step E q0.1 q0.2⟩⟩) (StK.eq (StK.cons (fun c v u w1 w2 E h => by obtain ⟨x0, hv, l0, f0, q0⟩ := h; exact ⟨x0, hv, l0, f0.keep0 E, q0⟩) (fun c v v' u w1 w2 _ E h => by obtain ⟨x0, hv, l0, f0, q0⟩ := h; exact ⟨x0, hv, l0, f0.keep E.1 (fun hh => q0 hh.symm), ne_step E f0.lt q0⟩) (StK.ch (StK.eq (StK.eq (StK.cons (fun c v u w1 w2 E h => by obtain ⟨x0, hv, f0, q0⟩ := h; exact ⟨x0, hv, f0.keep0 E, ⟨Nat.le_trans q0.1 E.size, q0.2⟩⟩) (fun c v v' u w1 w2 _ E h => by obtain ⟨x0, hv, f0, q0⟩ := h; exact ⟨x0, hv, f0.keep E.1 (fun k hk => .inr (q0.2 k hk)), ⟨Nat.le_trans q0.1 E.1.size, ge_step E q0.1 q0.2⟩⟩) (StK.nil)))))))))))))))) (StK.get1 (n := 3) (StK.ch (StK.eq (StK.eq (StK.cons (fun c v u w1 w2 E h => by obtain ⟨x0, hv, f0, q0⟩ := h; exact ⟨x0, hv, f0.keep0 E, ⟨Nat.le_trans q0.1 E.size, q0.2⟩⟩) (fun c v v' u w1 w2 _ E h => by obtain ⟨x0, hv, f0, q0⟩ := h; exact ⟨x0, hv, f0.keep E.1 (fun k hk => .inr (q0.2 k hk)), ⟨Nat.le_trans q0.1 E.1.size, ge_step E q0.1 q0.2⟩⟩) (StK.ch (StK.eq (StK.eq (StK.cons (fun c v u w1 w2 E h => by obtain ⟨x0, x1, hv, f0, q0⟩ := h; exact ⟨x0, x1, hv, f0.keep0 E, ⟨Nat.le_trans q0.1 E.size, q0.2⟩⟩) (fun c v v' u w1 w2 _ E h => by obtain ⟨x0, x1, hv, f0, q0⟩ := h; exact ⟨x0, x1, hv, f0.keep E.1 (fun k hk => .inr (q0.2 k hk)), ⟨Nat.le_trans q0.1 E.1.size, ge_step E q0.1 q0.2⟩⟩) (StK.eq (StK.cons (fun c v u w1 w2 E h => by obtain ⟨x0, hv, l0, f0, q0⟩ := h; exact ⟨x0, hv, l0, f0.keep0 E, q0⟩) (fun c v v' u w1 w2 _ E h => by obtain ⟨x0, hv, l0, f0, q0⟩ := h; exact ⟨x0, hv, l0, f0.keep E.1 (fun hh => q0 hh.symm), ne_step E f0.lt q0⟩) (StK.ch (StK.eq (StK.eq (StK.cons (fun c v u w1 w2 E h => by obtain ⟨x0, hv, f0, q0⟩ := h; exact ⟨x0, hv, f0.keep0 E, ⟨Nat.le_trans q0.1 E.size, q0.2⟩⟩) (fun c v v' u w1 w2 _ E h => by obtain ⟨x0, hv, f0, q0⟩ := h; exact ⟨x0, hv, f0.keep E.1 (fun k hk => .inr (q0.2 k hk)), ⟨Nat.le_trans q0.1 E.1.size, ge_step E q0.1 q0.2⟩⟩) (StK.nil)))))))))))))))) (StL2.get0 (StL2.own (StL2.own (StL2.own (StL2.own (StL2.nil)))))) (StL2.get1 (StL2.own (StL2.own (StL2.own (StL2.own (StL2.nil)))))) (Own.nil w864 w.heap.size 35 1) (ObLn.get (ObLn.pass rfl (ObLn.cons ?_ (ObLn.cons ?_ (ObLn.cons ?_ (ObLn.pass rfl (ObLn.cons ?_ (ObLn.cons ?_ (ObLn.cons ?_ (ObLn.cons ?_ (ObLn.cons ?_ (ObLn.pass rfl (ObLn.cons ?_ (ObLn.cons ?_ (ObLn.cons ?_ (ObLn.nil)))))))))))))))) (ObLc.get (ObLc.cons ?_ (ObLc.cons ?_ (ObLc.cons ?_ (ObLc.nil))))) ?_
      ·
       intro aA wA ccA cvA hNA hclA hRA hltA hvoA hbsA hdpA
       have qA_3 := (hbsA 3 rfl).trans (sl_base hN851 rfl s851_3)
       refine op_move (ev_base hNA rfl qA_3) ?_
       exact obNc_end rfl rfl (grown_refl _ _)
      ·
       intro aA wA ccA cvA hNA hclA hRA hltA hvoA hbsA hdpA
       have qA_5 := (hbsA 5 rfl).trans (sl_base hN851 rfl s851_5)
       refine op_move (ev_base hNA rfl qA_5) ?_
       exact obNc_end rfl rfl (grown_refl _ _)
      ·
       intro aA wA ccA cvA hNA hclA hRA hltA hvoA hbsA hdpA
       have hRA : w864.grownBy wA (Value.slice none 0 0).ownBlock := hRA
       have hnil_o := (Own.nil w864 w.heap.size 35 1)
       have z_wA := hRA.size
       have hb := below_stepO hb (Own.nil w864 w.heap.size 35 1) hRA hb.size (by omega)
       have hl := hl.keep0 hRA
       have hO845 := hO845.keep0 hRA
       have qA_45 : Sl aA 45 r := hdpA 1 _ 45 (by kernel_rfl) rfl rfl
       have qA_46 : Sl aA 46 (Value.int .i64 ((jj : Nat) : Int)) := hdpA 2 _ 46 (by kernel_rfl) rfl rfl
       clear hbsA hdpA
       refine op_slice_rd (lo := 0) (hi := jj) slt23 (ev_base hNA rfl qA_45) (Own.rdB hO845 hO845_s) (.inl ⟨rfl, rfl⟩) (.inr ⟨_, _, rfl, (ev_base hNA rfl qA_46)⟩) (by omega) (by omega) ?_
       intro v908 hR909
       have hR909 : RdC wA w.heap.size w864.heap.size 1 v908 jj ((((nrm (l.take i)).take jj)).map u16v) := by simpa [List.map_drop, List.map_take] using hR909
       exact obNc_end rfl ⟨v908, rfl, hR909, ⟨by omega, ge_of hvoA (fun k hk => by simp [Value.ownBlock] at hk) (by omega)⟩⟩ (grown_refl _ _)
      ·
       intro aA wA ccA cvA hNA hclA hRA hltA hvoA hbsA hdpA
       have qA_0 := (hbsA 0 rfl).trans (sl_base hN851 rfl s851_0)
       refine op_move (ev_base hNA rfl qA_0) ?_
       exact obNc_end rfl rfl (grown_refl _ _)
      ·
       intro aA wA ccA cvA hNA hclA hRA hltA hvoA hbsA hdpA
       have qA_4 := (hbsA 4 rfl).trans (sl_base hN851 rfl s851_4)
       refine op_move (ev_base hNA rfl qA_4) ?_
       exact obNc_end rfl rfl (grown_refl _ _)
      ·
       intro aA wA ccA cvA hNA hclA hRA hltA hvoA hbsA hdpA
       have hRA : w864.grownBy wA (Value.slice none 0 0).ownBlock := hRA
       have hnil_o := (Own.nil w864 w.heap.size 35 1)
       have z_wA := hRA.size
       have hb := below_stepO hb (Own.nil w864 w.heap.size 35 1) hRA hb.size (by omega)
       have hl := hl.keep0 hRA
       have hO845 := hO845.keep0 hRA
       have qA_49 : Sl aA 49 v := hdpA 5 _ 49 (by kernel_rfl) rfl rfl
       have qA_50 : Sl aA 50 (Value.int .i64 ((i : Nat) : Int)) := hdpA 6 _ 50 (by kernel_rfl) rfl rfl
       clear hbsA hdpA
       refine op_index_rd slt22 (ev_base hNA rfl qA_49) hl (ev_base hNA rfl qA_50) (by omega) (by omega) ?_
       intro b910 o911 h0b910 h1b910 hc912
       have hp913 : PtC wA 0 w.heap.size b910 o911 [(Value.int .u16 ((l.getD i 0).toNat : Int))] := ⟨by omega, by omega, fun j u hu => hc912 j u (by have := (List.getElem?_eq_some_iff.1 hu).1; simpa using this) ((fun j u hu => one_at (el_u16 (i := i) (by omega) (by omega)) hu) j u hu)⟩
       exact obNc_end rfl ⟨b910, o911, rfl, hp913, ⟨by omega, ge_of hvoA (fun k hk => by simp [Value.ownBlock] at hk) (by omega)⟩⟩ (grown_refl _ _)
      ·
       intro aA wA ccA cvA hNA hclA hRA hltA hvoA hbsA hdpA
       have hRA : w864.grownBy wA (Value.slice none 0 0).ownBlock := hRA
       have hnil_o := (Own.nil w864 w.heap.size 35 1)
       have z_wA := hRA.size
       have hb := below_stepO hb (Own.nil w864 w.heap.size 35 1) hRA hb.size (by omega)
       have hl := hl.keep0 hRA
       have hO845 := hO845.keep0 hRA
       obtain ⟨b921, o922, qA_51, hp924, xqA_51_0⟩ := hdpA 7 _ 51 (by kernel_rfl) rfl rfl
       have hp924 : PtC wA 0 w.heap.size b921 o922 [(Value.int .u16 ((l.getD i 0).toNat : Int))] := hp924
       clear hbsA hdpA
       refine op_load1 (v := (Value.int .u16 ((l.getD i 0).toNat : Int))) one35 (ev_base hNA rfl qA_51) (hp924.2.2 0 _ rfl) ?_
       exact obNc_end rfl rfl (grown_refl _ _)
      ·
       intro aA wA ccA cvA hNA hclA hRA hltA hvoA hbsA hdpA
       have hRA : w864.grownBy wA (Value.slice none 0 0).ownBlock := hRA
       have hnil_o := (Own.nil w864 w.heap.size 35 1)
       have z_wA := hRA.size
       have hb := below_stepO hb (Own.nil w864 w.heap.size 35 1) hRA hb.size (by omega)
       have hl := hl.keep0 hRA
       have hO845 := hO845.keep0 hRA
       have qA_52 : Sl aA 52 (Value.int .u16 ((l.getD i 0).toNat : Int)) := hdpA 8 _ 52 (by kernel_rfl) rfl rfl
       clear hbsA hdpA
       refine op_bslice (e := 35) (pv := [(0, (Value.int .u16 ((l.getD i 0).toNat : Int)))]) (cs := [(Value.int .u16 ((l.getD i 0).toNat : Int))]) ⟨rfl, (ev_base hNA rfl qA_52), trivial⟩ (by kernel_rfl) ?_
       intro w914 b915 lo_b915 hi_b915 hB917 E916
       have ne_b915_r : r.ownBlock ≠ some b915 := fun hh => by have := (hO845.lt _ hh).2; omega
       have z_w914 := E916.size
       have hl := hl.keep0 E916
       have hO845 := hO845.keep0 E916
       have hb := below_step0 hb E916 hb.size
       exact obNc_end rfl ⟨b915, rfl, (by omega), hB917, (fun hh => by have := hltA _ hh; omega)⟩ (E916)
      ·
       intro aA wA ccA cvA hNA hclA hRA hltA hvoA hbsA hdpA
       have qA_3 := (hbsA 3 rfl).trans (sl_base hN851 rfl s851_3)
       refine op_move (ev_base hNA rfl qA_3) ?_
       exact obNc_end rfl rfl (grown_refl _ _)
      ·
       intro aA wA ccA cvA hNA hclA hRA hltA hvoA hbsA hdpA
       have qA_5 := (hbsA 5 rfl).trans (sl_base hN851 rfl s851_5)
       refine op_move (ev_base hNA rfl qA_5) ?_
       exact obNc_end rfl rfl (grown_refl _ _)
      ·
       intro aA wA ccA cvA hNA hclA hRA hltA hvoA hbsA hdpA
       have hRA : w864.grownBy wA (Value.slice none 0 0).ownBlock := hRA
       have hnil_o := (Own.nil w864 w.heap.size 35 1)
       have z_wA := hRA.size
       have hb := below_stepO hb (Own.nil w864 w.heap.size 35 1) hRA hb.size (by omega)
       have hl := hl.keep0 hRA
       have hO845 := hO845.keep0 hRA
       have qA_55 : Sl aA 55 r := hdpA 11 _ 55 (by kernel_rfl) rfl rfl
       have qA_56 : Sl aA 56 (Value.int .i64 ((jj : Nat) : Int)) := hdpA 12 _ 56 (by kernel_rfl) rfl rfl
       clear hbsA hdpA
       refine op_slice_rd (lo := jj) (hi := (nrm (l.take i)).length) slt23 (ev_base hNA rfl qA_55) (Own.rdB hO845 hO845_s) (.inr ⟨_, _, rfl, (ev_base hNA rfl qA_56)⟩) (.inl ⟨rfl, rfl⟩) (by omega) (by omega) ?_
       intro v918 hR919
       have hR919 : RdC wA w.heap.size w864.heap.size 1 v918 ((nrm (l.take i)).length - jj) ((((nrm (l.take i)).drop jj)).map u16v) := by simpa [List.map_drop, List.map_take, List.take_of_length_le] using hR919
       exact obNc_end rfl ⟨v918, rfl, hR919, ⟨by omega, ge_of hvoA (fun k hk => by simp [Value.ownBlock] at hk) (by omega)⟩⟩ (grown_refl _ _)
      ·
       intro o_ ho_; obtain rfl := Option.some.inj ho_; intro aA wA cvA hNA hRA hcv0A hbsA hdpA hCA
       have hRA : w864.grownBy wA (Value.slice none 0 0).ownBlock := hRA
       have hnil_o := (Own.nil w864 w.heap.size 35 1)
       have z_wA := hRA.size
       have hb := below_stepO hb (Own.nil w864 w.heap.size 35 1) hRA hb.size (by omega)
       have hl := hl.keep0 hRA
       have hO845 := hO845.keep0 hRA
       have hcvA : (Value.slice none 0 0) = cvA := (hcv0A rfl).symm
       subst hcvA
       have hCA : Own wA w.heap.size 35 1 (Value.slice none 0 0) 0 ([]) := hCA
       clear hbsA hdpA
       refine op_bslice (e := 35) (pv := []) (cs := []) trivial (by kernel_rfl) ?_
       intro w920 b921 lo_b921 hi_b921 hB923 E922
       have ne_b921_r : r.ownBlock ≠ some b921 := fun hh => by have := (hO845.lt _ hh).2; omega
       have z_w920 := E922.size
       have hl := hl.keep0 E922
       have hO845 := hO845.keep0 E922
       have hCA := hCA.keep0 E922
       have hb := below_step0 hb E922 hb.size
       exact obCc_end rfl rfl (chP_now (w := w920)) (Own.ofBx (base := w.heap.size) (sz := 1) (n := 0) hB923 rfl (by decide) (by omega)) ⟨E922, .inr (fun k hk => by simp [Value.ownBlock] at hk; omega)⟩
      ·
       intro o_ ho_; obtain rfl := Option.some.inj ho_; intro aA wA cvA hNA hRA hcv0A hbsA hdpA hCA
       have hRA : w864.grownBy wA (Value.slice none 0 0).ownBlock := hRA
       have hnil_o := (Own.nil w864 w.heap.size 35 1)
       have z_wA := hRA.size
       have hb := below_stepO hb (Own.nil w864 w.heap.size 35 1) hRA hb.size (by omega)
       have hl := hl.keep0 hRA
       have hO845 := hO845.keep0 hRA
       have hCA : Own wA w.heap.size 35 1 cvA 0 ([]) := hCA
       have qA_44 : aA.tmps.getD 44 undef = cvA := (show chP 0 1 cvA (aA.tmps.getD 44 undef) wA from hdpA 0 _ 44 (by kernel_rfl) rfl rfl).2 rfl
       obtain ⟨v912, qA_47, hR913, xqA_47_0⟩ := hdpA 3 _ 47 (by kernel_rfl) rfl rfl
       have hR913 : RdC wA w.heap.size w864.heap.size 1 v912 jj ((((nrm (l.take i)).take jj)).map u16v) := hR913
       clear hbsA hdpA
       have hP929 := hCA
       refine op_append slt23 (ev_base hNA rfl qA_44) hP929 (ev_base hNA rfl qA_47) (Src.ofRd Try.underlying23 (by decide) hR913 (one_u16 _)) (by unfold maxLen; omega) (by omega) hb.size ?_
       intro v924 w925 hO927 E926 hm928
       have z_w925 := E926.size
       have hl := hl.keepO hP929 E926 (by omega)
       have hR913 := hR913.keep E926 (fun k hk => .inr (xqA_47_0.2 k hk))
       have hb := below_stepO hb hP929 E926 hb.size (by omega)
       have hO927 : Own w925 w.heap.size 35 1 v924 (0 + jj) ((((nrm (l.take i)).take jj)).map u16v) := by simpa [u8v, u16v, cellsV] using hO927
       exact obCc_end rfl rfl (chP_now (w := w925)) hO927 ⟨E926, hm928⟩
      ·
       intro o_ ho_; obtain rfl := Option.some.inj ho_; intro aA wA cvA hNA hRA hcv0A hbsA hdpA hCA
       have hRA : w864.grownBy wA (Value.slice none 0 0).ownBlock := hRA
       have hnil_o := (Own.nil w864 w.heap.size 35 1)
       have z_wA := hRA.size
       have hb := below_stepO hb (Own.nil w864 w.heap.size 35 1) hRA hb.size (by omega)
       have hl := hl.keep0 hRA
       have hO845 := hO845.keep0 hRA
       have hCA : Own wA w.heap.size 35 1 cvA (0 + jj) ((((nrm (l.take i)).take jj)).map u16v) := hCA
       have qA_48 : aA.tmps.getD 48 undef = cvA := (show chP 1 2 cvA (aA.tmps.getD 48 undef) wA from hdpA 4 _ 48 (by kernel_rfl) rfl rfl).2 rfl
       obtain ⟨b926, qA_53, loA_0, hB928, xqA_53_0⟩ := hdpA 9 _ 53 (by kernel_rfl) rfl rfl
       have hB928 : Bx wA b926 35 [(Value.int .u16 ((l.getD i 0).toNat : Int))] := hB928
       clear hbsA hdpA
       have hP935 := hCA
       refine op_append slt23 (ev_base hNA rfl qA_48) hP935 (ev_base hNA rfl qA_53) (Src.ofRd Try.underlying23 (by decide) (RdC.ofBx (sz := 1) (n := 1) hB928 rfl (by decide)) (by simp [Value.oneCell', u8v])) (by unfold maxLen; omega) (by omega) hb.size ?_
       intro v930 w931 hO933 E932 hm934
       have z_w931 := E932.size
       have hl := hl.keepO hP935 E932 (by omega)
       have hB928 := hB928.keep E932 (fun hh => xqA_53_0 hh.symm)
       have hb := below_stepO hb hP935 E932 hb.size (by omega)
       have hO933 : Own w931 w.heap.size 35 1 v930 ((0 + jj) + 1) (((((nrm (l.take i)).take jj) ++ [(l.getD i 0)])).map u16v) := by simpa [u8v, u16v, cellsV] using hO933
       exact obCc_end rfl rfl (chP_now (w := w931)) hO933 ⟨E932, hm934⟩
      ·
       intro a936 w936 v929 hN936 hd936 hbs936 hph936 hC936 E936 hm936
       have hd936 := hd936.trans hd851
       have s936_0 := (hbs936 0 rfl).trans (sl_base hN851 rfl s851_0)
       have s936_2 := (hbs936 2 rfl).trans (sl_base hN851 rfl s851_2)
       have s936_3 := (hbs936 3 rfl).trans (sl_base hN851 rfl s851_3)
       have s936_4 := (hbs936 4 rfl).trans (sl_base hN851 rfl s851_4)
       have s936_54 : a936.tmps.getD 54 undef = v929 := (show chP 2 3 v929 (a936.tmps.getD 54 undef) w936 from hph936 10 _ 54 rfl rfl).2 rfl
       obtain ⟨v936, s936_57, hR937, xq936_57_0⟩ := hph936 13 _ 57 rfl rfl
       have hR937 : RdC w936 w.heap.size w864.heap.size 1 v936 ((nrm (l.take i)).length - jj) ((((nrm (l.take i)).drop jj)).map u16v) := hR937
       clear hbs936 hph936
       have E936 : w864.grownBy w936 (Value.slice none 0 0).ownBlock := E936
       have hC936 : Own w936 w.heap.size 35 1 v929 ((0 + jj) + 1) (((((nrm (l.take i)).take jj) ++ [(l.getD i 0)])).map u16v) := hC936
       have dj937 : DJ r v929 := fun k hk hg => by have q1 := (hO845.lt k hk).2; rcases hm936 with h7 | h7; (rw [h7] at hg; simp [Value.ownBlock] at hg); (have := h7 k hg; omega)
       have E936 : w864.grownBy w936 none := E936
       have z_w936 := E936.size
       have hl := hl.keep0 E936
       have hO845 := hO845.keep0 E936
       have hb := below_step0 hb E936 hb.size
       refine split_end ?_
       refine from_seq (tl := [_, _]) (by decide) (by kernel_rfl) rfl ?_
       have hP943 := hC936
       refine op_append slt23 (ev_base hN936 rfl s936_54) hP943 (ev_base hN936 rfl s936_57) (Src.ofRd Try.underlying23 (by decide) hR937 (one_u16 _)) (by unfold maxLen; omega) (by omega) hb.size ?_
       intro v938 w939 hO941 E940 hm942
       have dj944 : DJ r v938 := DJ.step hm942 (fun k hk => (hO845.lt k hk).2) dj937
       have z_w939 := E940.size
       have hl := hl.keepO hP943 E940 (by omega)
       have hO845 := hO845.keepD E940 dj937
       have hR937 := hR937.keep E940 (fun k hk => .inr (xq936_57_0.2 k hk))
       have hb := below_stepO hb hP943 E940 hb.size (by omega)
       have hO941 : Own w939 w.heap.size 35 1 v938 (((0 + jj) + 1) + ((nrm (l.take i)).length - jj)) ((((((nrm (l.take i)).take jj) ++ [(l.getD i 0)]) ++ ((nrm (l.take i)).drop jj))).map u16v) := by simpa [u8v, u16v, cellsV] using hO941
       refine op_assign (ev_hit hN936 rfl) ?_
       refine reg_nil ?_
       refine hK848 _ _ ?_
       refine one_reg ?_
       refine op_move (ev_base hN936 rfl s936_4) ?_
       refine op_add (ev_hit hN936 rfl) rfl (add64 (by omega)) ?_
       refine op_assign (ev_hit hN936 rfl) ?_
       refine reg_nil ?_
       -- round 9T 15T 26F 32F 43T
       have hins := insT_at (x := l.getD i 0) (acc := (nrm (l.take i))) (j := jj) hlt (by omega) (by omega)
       exact loop_next _ hN936 hd936 ⟨i + 1, _, rfl, (sl_base hN936 rfl s936_0), (sl_base hN936 rfl s936_2), (sl_hit hN936 rfl).trans (congrArg (Value.int .i64) (by omega)), (sl_hit hN936 rfl), (by omega), (nrm_len (by omega)), hb, (by omega), hl, (hO941.cast (by rw [take_nrm (by omega), hins.2 (.inr (fun e => c43 (by rw [e])))]; simp; omega) (by rw [take_nrm (by omega), hins.2 (.inr (fun e => c43 (by rw [e])))]; try simp [u16v]))⟩ (by omega)
     · -- 43F
      have c43 := of_decide_eq_false c43
      refine wp_skip ?_
      refine hK848 _ _ ?_
      refine one_reg ?_
      refine op_move (ev_base hN851 rfl s851_4) ?_
      refine op_add (ev_hit hN851 rfl) rfl (add64 (by omega)) ?_
      refine op_assign (ev_hit hN851 rfl) ?_
      refine reg_nil ?_
      -- round 9T 15T 26F 32F 43F
      have hins := insT_at (x := l.getD i 0) (acc := (nrm (l.take i))) (j := jj) hlt (by omega) (by omega)
      exact loop_next _ hN851 hd851 ⟨i + 1, _, rfl, (sl_base hN851 rfl s851_0), (sl_base hN851 rfl s851_2), (sl_hit hN851 rfl).trans (congrArg (Value.int .i64) (by omega)), (sl_base hN851 rfl s851_3), (by omega), (nrm_len (by omega)), hb, (by omega), hl, (hO845.cast (by rw [take_nrm (by omega), hins.1 ⟨by omega, u16_eq (by omega)⟩]) (by rw [take_nrm (by omega), hins.1 ⟨by omega, u16_eq (by omega)⟩]))⟩ (by omega)
  · -- 15F
   refine st_step rfl (fun _ h9 => op_cmp (b := false) (ev_hit hN851 rfl) (ev_hit hN851 rfl) (b_lss (decide_eq_false g15)) h9) ?_
   refine st_step rfl (fun _ h9 => op_move (ev_hit hN851 rfl) h9) ?_
   refine st_g_false (j := 4) (dj := 16) (b := true) rfl rfl rfl (ev_hit hN851 rfl) rfl rfl ?_
   refine st_g_false (j := 4) (dj := 16) (b := true) rfl rfl rfl (ev_hit hN851 rfl) rfl rfl ?_
   refine st_g_false (j := 4) (dj := 16) (b := true) rfl rfl rfl (ev_hit hN851 rfl) rfl rfl ?_
   refine st_g_false (j := 4) (dj := 16) (b := true) rfl rfl rfl (ev_hit hN851 rfl) rfl rfl ?_
   refine st_g_false (j := 4) (dj := 16) (b := true) rfl rfl rfl (ev_hit hN851 rfl) rfl rfl ?_
   refine st_g_false (j := 4) (dj := 16) (b := true) rfl rfl rfl (ev_hit hN851 rfl) rfl rfl ?_
   refine st_g_false (j := 4) (dj := 16) (b := true) rfl rfl rfl (ev_hit hN851 rfl) rfl rfl ?_
   refine st_g_false (j := 4) (dj := 16) (b := true) rfl rfl rfl (ev_hit hN851 rfl) rfl rfl ?_
   refine st_g_false (j := 4) (dj := 16) (b := true) rfl rfl rfl (ev_hit hN851 rfl) rfl rfl ?_
   refine st_step rfl (fun _ h9 => op_pick_f (ev_hit hN851 rfl) rfl h9) ?_
   refine st_nil ?_
   refine hK853 _ _ ?_
   refine wp_cond_false (ev_hit hN851 rfl) ?_
   refine wp_exit (then_exit (then_exit (blk_hit ?_)))
   refine hK850 _ _ ?_
   refine seq_any fun K945 hK945 => ?_
   refine reg_still mixed (by kernel_rfl) ?_
   intro w947 E946
   have z_w947 := E946.size
   have hl := hl.keep0 E946
   have hO845 := hO845.keep0 E946
   have hb := below_step0 hb E946 hb.size
   refine st_step rfl (fun _ h9 => op_move (ev_base hN851 rfl s851_5) h9) ?_
   refine st_step rfl (fun _ h9 => op_move (ev_base hN851 rfl s851_3) h9) ?_
   refine st_step rfl (fun _ h9 => op_len_rd Try.underlying23 (ev_hit hN851 rfl) hO845.rdw h9) ?_
   by_cases g32 : ((jj : Nat) : Int) = (((nrm (l.take i)).length : Nat) : Int)
   · -- 32T
    refine st_step rfl (fun _ h9 => op_cmp (b := true) (ev_hit hN851 rfl) (ev_hit hN851 rfl) (b_eql (decide_eq_true g32)) h9) ?_
    refine st_step rfl (fun _ h9 => op_move (ev_hit hN851 rfl) h9) ?_
    refine st_g_false (j := 4) (dj := 33) (b := false) rfl rfl rfl (ev_hit hN851 rfl) rfl rfl ?_
    refine st_g_false (j := 4) (dj := 33) (b := false) rfl rfl rfl (ev_hit hN851 rfl) rfl rfl ?_
    refine st_g_false (j := 4) (dj := 33) (b := false) rfl rfl rfl (ev_hit hN851 rfl) rfl rfl ?_
    refine st_g_false (j := 4) (dj := 33) (b := false) rfl rfl rfl (ev_hit hN851 rfl) rfl rfl ?_
    refine st_g_false (j := 4) (dj := 33) (b := false) rfl rfl rfl (ev_hit hN851 rfl) rfl rfl ?_
    refine st_g_false (j := 4) (dj := 33) (b := false) rfl rfl rfl (ev_hit hN851 rfl) rfl rfl ?_
    refine st_g_false (j := 4) (dj := 33) (b := false) rfl rfl rfl (ev_hit hN851 rfl) rfl rfl ?_
    refine st_g_false (j := 4) (dj := 33) (b := false) rfl rfl rfl (ev_hit hN851 rfl) rfl rfl ?_
    refine st_g_false (j := 4) (dj := 33) (b := false) rfl rfl rfl (ev_hit hN851 rfl) rfl rfl ?_
    refine st_step rfl (fun _ h9 => op_pick_t (ev_hit hN851 rfl) rfl h9) ?_
    refine st_nil ?_
    refine hK945 _ _ ?_
    refine wp_cond_true (ev_hit hN851 rfl) ?_
    have hO845_s := hO845
    refine reg_split (hd := [_, _, _, _, _, _, _, _, _, _, _, _, _, _]) (tl := _) 14 mixed (by kernel_rfl) rfl rfl ?_
    refine any_chain (Φ := phiC [chP 0, (fun _ _ uz _ => uz = r), (fun _ _ uz _ => uz = (Value.int .i64 ((jj : Nat) : Int))), (fun _ vz uz w' => ∃ (v952 : Value), uz = v952 ∧ RdC w' w.heap.size w947.heap.size 1 v952 jj ((((nrm (l.take i)).take jj)).map u16v) ∧ (w947.heap.size ≤ w'.heap.size ∧ ∀ k, vz.ownBlock = some k → w947.heap.size ≤ k)), chP 1, (fun _ _ uz _ => uz = v), (fun _ _ uz _ => uz = (Value.int .i64 ((i : Nat) : Int))), (fun _ vz uz w' => ∃ (b961 : (Nat)) (o962 : (Nat)), uz = (ptr b961 o962) ∧ PtC w' 0 w.heap.size b961 o962 [(Value.int .u16 ((l.getD i 0).toNat : Int))] ∧ (w.heap.size ≤ w'.heap.size ∧ ∀ k, vz.ownBlock = some k → w.heap.size ≤ k)), (fun _ _ uz _ => uz = (Value.int .u16 ((l.getD i 0).toNat : Int))), (fun _ vz uz w' => ∃ (b966 : Nat), uz = (Value.slice (some ⟨b966, 0, none⟩) 1 1) ∧ w947.heap.size ≤ b966 ∧ Bx w' b966 35 [(Value.int .u16 ((l.getD i 0).toNat : Int))] ∧ vz.ownBlock ≠ some b966), chP 2, (fun _ _ uz _ => uz = r), (fun _ _ uz _ => uz = (Value.int .i64 ((jj : Nat) : Int))), (fun _ vz uz w' => ∃ (v976 : Value), uz = v976 ∧ RdC w' w.heap.size w947.heap.size 1 v976 ((nrm (l.take i)).length - jj) ((((nrm (l.take i)).drop jj)).map u16v) ∧ (w947.heap.size ≤ w'.heap.size ∧ ∀ k, vz.ownBlock = some k → w947.heap.size ≤ k))]) (C := CL [(fun vz w' => Own w' w.heap.size 35 1 vz 0 ([])), (fun vz w' => Own w' w.heap.size 35 1 vz 0 ([])), (fun vz w' => Own w' w.heap.size 35 1 vz (0 + jj) ((((nrm (l.take i)).take jj)).map u16v)), (fun vz w' => Own w' w.heap.size 35 1 vz ((0 + jj) + 1) (((((nrm (l.take i)).take jj) ++ [(l.getD i 0)])).map u16v))]) ⟨[0, 4, 10], fun c => [60, 44, 48, 54].getD c 60⟩ (Value.slice none 0 0) (by kernel_rfl) (by kernel_rfl) (by kernel_rfl) (by kernel_rfl) hN851 (StK.get0 (n := 3) (StK.ch (StK.eq (StK.eq (StK.cons (fun c v u w1 w2 E h => by obtain ⟨x0, hv, f0, q0⟩ := h; exact ⟨x0, hv, f0.keep0 E, ⟨Nat.le_trans q0.1 E.size, q0.2⟩⟩) (fun c v v' u w1 w2 _ E h => by obtain ⟨x0, hv, f0, q0⟩ := h; exact ⟨x0, hv, f0.keep E.1 (fun k hk => .inr (q0.2 k hk)), ⟨Nat.le_trans q0.1 E.1.size, ge_step E q0.1 q0.2⟩⟩) (StK.ch (StK.eq (StK.eq (StK.cons (fun c v u w1 w2 E h => by obtain ⟨x0, x1, hv, f0, q0⟩ := h; exact ⟨x0, x1, hv, f0.keep0 E, ⟨Nat.le_trans q0.1 E.size, q0.2⟩⟩) (fun c v v' u w1 w2 _ E h => by obtain ⟨x0, x1, hv, f0, q0⟩ := h; exact ⟨x0, x1, hv, f0.keep E.1 (fun k hk => .inr (q0.2 k hk)), ⟨Nat.le_trans q0.1 E.1.size, ge_step E q0.1 q0.2⟩⟩) (StK.eq (StK.cons (fun c v u w1 w2 E h => by obtain ⟨x0, hv, l0, f0, q0⟩ := h; exact ⟨x0, hv, l0, f0.keep0 E, q0⟩) (fun c v v' u w1 w2 _ E h => by obtain ⟨x0, hv, l0, f0, q0⟩ := h; exact ⟨x0, hv, l0, f0.keep E.1 (fun hh => q0 hh.symm), ne_step E f0.lt q0⟩) (StK.ch (StK.eq (StK.eq (StK.cons (fun c v u w1 w2 E h => by obtain ⟨x0, hv, f0, q0⟩ := h; exact ⟨x0, hv, f0.keep0 E, ⟨Nat.le_trans q0.1 E.size, q0.2⟩⟩) (fun c v v' u w1 w2 _ E h => by obtain ⟨x0, hv, f0, q0⟩ := h; exact ⟨x0, hv, f0.keep E.1 (fun k hk => .inr (q0.2 k hk)), ⟨Nat.le_trans q0.1 E.1.size, ge_step E q0.1 q0.2⟩⟩) (StK.nil)))))))))))))))) (StK.get1 (n := 3) (StK.ch (StK.eq (StK.eq (StK.cons (fun c v u w1 w2 E h => by obtain ⟨x0, hv, f0, q0⟩ := h; exact ⟨x0, hv, f0.keep0 E, ⟨Nat.le_trans q0.1 E.size, q0.2⟩⟩) (fun c v v' u w1 w2 _ E h => by obtain ⟨x0, hv, f0, q0⟩ := h; exact ⟨x0, hv, f0.keep E.1 (fun k hk => .inr (q0.2 k hk)), ⟨Nat.le_trans q0.1 E.1.size, ge_step E q0.1 q0.2⟩⟩) (StK.ch (StK.eq (StK.eq (StK.cons (fun c v u w1 w2 E h => by obtain ⟨x0, x1, hv, f0, q0⟩ := h; exact ⟨x0, x1, hv, f0.keep0 E, ⟨Nat.le_trans q0.1 E.size, q0.2⟩⟩) (fun c v v' u w1 w2 _ E h => by obtain ⟨x0, x1, hv, f0, q0⟩ := h; exact ⟨x0, x1, hv, f0.keep E.1 (fun k hk => .inr (q0.2 k hk)), ⟨Nat.le_trans q0.1 E.1.size, ge_step E q0.1 q0.2⟩⟩) (StK.eq (StK.cons (fun c v u w1 w2 E h => by obtain ⟨x0, hv, l0, f0, q0⟩ := h; exact ⟨x0, hv, l0, f0.keep0 E, q0⟩) (fun c v v' u w1 w2 _ E h => by obtain ⟨x0, hv, l0, f0, q0⟩ := h; exact ⟨x0, hv, l0, f0.keep E.1 (fun hh => q0 hh.symm), ne_step E f0.lt q0⟩) (StK.ch (StK.eq (StK.eq (StK.cons (fun c v u w1 w2 E h => by obtain ⟨x0, hv, f0, q0⟩ := h; exact ⟨x0, hv, f0.keep0 E, ⟨Nat.le_trans q0.1 E.size, q0.2⟩⟩) (fun c v v' u w1 w2 _ E h => by obtain ⟨x0, hv, f0, q0⟩ := h; exact ⟨x0, hv, f0.keep E.1 (fun k hk => .inr (q0.2 k hk)), ⟨Nat.le_trans q0.1 E.1.size, ge_step E q0.1 q0.2⟩⟩) (StK.nil)))))))))))))))) (StL2.get0 (StL2.own (StL2.own (StL2.own (StL2.own (StL2.nil)))))) (StL2.get1 (StL2.own (StL2.own (StL2.own (StL2.own (StL2.nil)))))) (Own.nil w947 w.heap.size 35 1) (ObLn.get (ObLn.pass rfl (ObLn.cons ?_ (ObLn.cons ?_ (ObLn.cons ?_ (ObLn.pass rfl (ObLn.cons ?_ (ObLn.cons ?_ (ObLn.cons ?_ (ObLn.cons ?_ (ObLn.cons ?_ (ObLn.pass rfl (ObLn.cons ?_ (ObLn.cons ?_ (ObLn.cons ?_ (ObLn.nil)))))))))))))))) (ObLc.get (ObLc.cons ?_ (ObLc.cons ?_ (ObLc.cons ?_ (ObLc.nil))))) ?_
    ·
     intro aA wA ccA cvA hNA hclA hRA hltA hvoA hbsA hdpA
     have qA_3 := (hbsA 3 rfl).trans (sl_base hN851 rfl s851_3)
     refine op_move (ev_base hNA rfl qA_3) ?_
     exact obNc_end rfl rfl (grown_refl _ _)
    ·
     intro aA wA ccA cvA hNA hclA hRA hltA hvoA hbsA hdpA
     have qA_5 := (hbsA 5 rfl).trans (sl_base hN851 rfl s851_5)
     refine op_move (ev_base hNA rfl qA_5) ?_
     exact obNc_end rfl rfl (grown_refl _ _)
    ·
     intro aA wA ccA cvA hNA hclA hRA hltA hvoA hbsA hdpA
     have hRA : w947.grownBy wA (Value.slice none 0 0).ownBlock := hRA
     have hnil_o := (Own.nil w947 w.heap.size 35 1)
     have z_wA := hRA.size
     have hb := below_stepO hb (Own.nil w947 w.heap.size 35 1) hRA hb.size (by omega)
     have hl := hl.keep0 hRA
     have hO845 := hO845.keep0 hRA
     have qA_45 : Sl aA 45 r := hdpA 1 _ 45 (by kernel_rfl) rfl rfl
     have qA_46 : Sl aA 46 (Value.int .i64 ((jj : Nat) : Int)) := hdpA 2 _ 46 (by kernel_rfl) rfl rfl
     clear hbsA hdpA
     refine op_slice_rd (lo := 0) (hi := jj) slt23 (ev_base hNA rfl qA_45) (Own.rdB hO845 hO845_s) (.inl ⟨rfl, rfl⟩) (.inr ⟨_, _, rfl, (ev_base hNA rfl qA_46)⟩) (by omega) (by omega) ?_
     intro v948 hR949
     have hR949 : RdC wA w.heap.size w947.heap.size 1 v948 jj ((((nrm (l.take i)).take jj)).map u16v) := by simpa [List.map_drop, List.map_take] using hR949
     exact obNc_end rfl ⟨v948, rfl, hR949, ⟨by omega, ge_of hvoA (fun k hk => by simp [Value.ownBlock] at hk) (by omega)⟩⟩ (grown_refl _ _)
    ·
     intro aA wA ccA cvA hNA hclA hRA hltA hvoA hbsA hdpA
     have qA_0 := (hbsA 0 rfl).trans (sl_base hN851 rfl s851_0)
     refine op_move (ev_base hNA rfl qA_0) ?_
     exact obNc_end rfl rfl (grown_refl _ _)
    ·
     intro aA wA ccA cvA hNA hclA hRA hltA hvoA hbsA hdpA
     have qA_4 := (hbsA 4 rfl).trans (sl_base hN851 rfl s851_4)
     refine op_move (ev_base hNA rfl qA_4) ?_
     exact obNc_end rfl rfl (grown_refl _ _)
    ·
     intro aA wA ccA cvA hNA hclA hRA hltA hvoA hbsA hdpA
     have hRA : w947.grownBy wA (Value.slice none 0 0).ownBlock := hRA
     have hnil_o := (Own.nil w947 w.heap.size 35 1)
     have z_wA := hRA.size
     have hb := below_stepO hb (Own.nil w947 w.heap.size 35 1) hRA hb.size (by omega)
     have hl := hl.keep0 hRA
     have hO845 := hO845.keep0 hRA
     have qA_49 : Sl aA 49 v := hdpA 5 _ 49 (by kernel_rfl) rfl rfl
     have qA_50 : Sl aA 50 (Value.int .i64 ((i : Nat) : Int)) := hdpA 6 _ 50 (by kernel_rfl) rfl rfl
     clear hbsA hdpA
     refine op_index_rd slt22 (ev_base hNA rfl qA_49) hl (ev_base hNA rfl qA_50) (by omega) (by omega) ?_
     intro b950 o951 h0b950 h1b950 hc952
     have hp953 : PtC wA 0 w.heap.size b950 o951 [(Value.int .u16 ((l.getD i 0).toNat : Int))] := ⟨by omega, by omega, fun j u hu => hc952 j u (by have := (List.getElem?_eq_some_iff.1 hu).1; simpa using this) ((fun j u hu => one_at (el_u16 (i := i) (by omega) (by omega)) hu) j u hu)⟩
     exact obNc_end rfl ⟨b950, o951, rfl, hp953, ⟨by omega, ge_of hvoA (fun k hk => by simp [Value.ownBlock] at hk) (by omega)⟩⟩ (grown_refl _ _)
    ·
     intro aA wA ccA cvA hNA hclA hRA hltA hvoA hbsA hdpA
     have hRA : w947.grownBy wA (Value.slice none 0 0).ownBlock := hRA
     have hnil_o := (Own.nil w947 w.heap.size 35 1)
     have z_wA := hRA.size
     have hb := below_stepO hb (Own.nil w947 w.heap.size 35 1) hRA hb.size (by omega)
     have hl := hl.keep0 hRA
     have hO845 := hO845.keep0 hRA
     obtain ⟨b961, o962, qA_51, hp964, xqA_51_0⟩ := hdpA 7 _ 51 (by kernel_rfl) rfl rfl
     have hp964 : PtC wA 0 w.heap.size b961 o962 [(Value.int .u16 ((l.getD i 0).toNat : Int))] := hp964
     clear hbsA hdpA
     refine op_load1 (v := (Value.int .u16 ((l.getD i 0).toNat : Int))) one35 (ev_base hNA rfl qA_51) (hp964.2.2 0 _ rfl) ?_
     exact obNc_end rfl rfl (grown_refl _ _)
    ·
     intro aA wA ccA cvA hNA hclA hRA hltA hvoA hbsA hdpA
     have hRA : w947.grownBy wA (Value.slice none 0 0).ownBlock := hRA
     have hnil_o := (Own.nil w947 w.heap.size 35 1)
     have z_wA := hRA.size
     have hb := below_stepO hb (Own.nil w947 w.heap.size 35 1) hRA hb.size (by omega)
     have hl := hl.keep0 hRA
     have hO845 := hO845.keep0 hRA
     have qA_52 : Sl aA 52 (Value.int .u16 ((l.getD i 0).toNat : Int)) := hdpA 8 _ 52 (by kernel_rfl) rfl rfl
     clear hbsA hdpA
     refine op_bslice (e := 35) (pv := [(0, (Value.int .u16 ((l.getD i 0).toNat : Int)))]) (cs := [(Value.int .u16 ((l.getD i 0).toNat : Int))]) ⟨rfl, (ev_base hNA rfl qA_52), trivial⟩ (by kernel_rfl) ?_
     intro w954 b955 lo_b955 hi_b955 hB957 E956
     have ne_b955_r : r.ownBlock ≠ some b955 := fun hh => by have := (hO845.lt _ hh).2; omega
     have z_w954 := E956.size
     have hl := hl.keep0 E956
     have hO845 := hO845.keep0 E956
     have hb := below_step0 hb E956 hb.size
     exact obNc_end rfl ⟨b955, rfl, (by omega), hB957, (fun hh => by have := hltA _ hh; omega)⟩ (E956)
    ·
     intro aA wA ccA cvA hNA hclA hRA hltA hvoA hbsA hdpA
     have qA_3 := (hbsA 3 rfl).trans (sl_base hN851 rfl s851_3)
     refine op_move (ev_base hNA rfl qA_3) ?_
     exact obNc_end rfl rfl (grown_refl _ _)
    ·
     intro aA wA ccA cvA hNA hclA hRA hltA hvoA hbsA hdpA
     have qA_5 := (hbsA 5 rfl).trans (sl_base hN851 rfl s851_5)
     refine op_move (ev_base hNA rfl qA_5) ?_
     exact obNc_end rfl rfl (grown_refl _ _)
    ·
     intro aA wA ccA cvA hNA hclA hRA hltA hvoA hbsA hdpA
     have hRA : w947.grownBy wA (Value.slice none 0 0).ownBlock := hRA
     have hnil_o := (Own.nil w947 w.heap.size 35 1)
     have z_wA := hRA.size
     have hb := below_stepO hb (Own.nil w947 w.heap.size 35 1) hRA hb.size (by omega)
     have hl := hl.keep0 hRA
     have hO845 := hO845.keep0 hRA
     have qA_55 : Sl aA 55 r := hdpA 11 _ 55 (by kernel_rfl) rfl rfl
     have qA_56 : Sl aA 56 (Value.int .i64 ((jj : Nat) : Int)) := hdpA 12 _ 56 (by kernel_rfl) rfl rfl
     clear hbsA hdpA
     refine op_slice_rd (lo := jj) (hi := (nrm (l.take i)).length) slt23 (ev_base hNA rfl qA_55) (Own.rdB hO845 hO845_s) (.inr ⟨_, _, rfl, (ev_base hNA rfl qA_56)⟩) (.inl ⟨rfl, rfl⟩) (by omega) (by omega) ?_
     intro v958 hR959
     have hR959 : RdC wA w.heap.size w947.heap.size 1 v958 ((nrm (l.take i)).length - jj) ((((nrm (l.take i)).drop jj)).map u16v) := by simpa [List.map_drop, List.map_take, List.take_of_length_le] using hR959
     exact obNc_end rfl ⟨v958, rfl, hR959, ⟨by omega, ge_of hvoA (fun k hk => by simp [Value.ownBlock] at hk) (by omega)⟩⟩ (grown_refl _ _)
    ·
     intro o_ ho_; obtain rfl := Option.some.inj ho_; intro aA wA cvA hNA hRA hcv0A hbsA hdpA hCA
     have hRA : w947.grownBy wA (Value.slice none 0 0).ownBlock := hRA
     have hnil_o := (Own.nil w947 w.heap.size 35 1)
     have z_wA := hRA.size
     have hb := below_stepO hb (Own.nil w947 w.heap.size 35 1) hRA hb.size (by omega)
     have hl := hl.keep0 hRA
     have hO845 := hO845.keep0 hRA
     have hcvA : (Value.slice none 0 0) = cvA := (hcv0A rfl).symm
     subst hcvA
     have hCA : Own wA w.heap.size 35 1 (Value.slice none 0 0) 0 ([]) := hCA
     clear hbsA hdpA
     refine op_bslice (e := 35) (pv := []) (cs := []) trivial (by kernel_rfl) ?_
     intro w960 b961 lo_b961 hi_b961 hB963 E962
     have ne_b961_r : r.ownBlock ≠ some b961 := fun hh => by have := (hO845.lt _ hh).2; omega
     have z_w960 := E962.size
     have hl := hl.keep0 E962
     have hO845 := hO845.keep0 E962
     have hCA := hCA.keep0 E962
     have hb := below_step0 hb E962 hb.size
     exact obCc_end rfl rfl (chP_now (w := w960)) (Own.ofBx (base := w.heap.size) (sz := 1) (n := 0) hB963 rfl (by decide) (by omega)) ⟨E962, .inr (fun k hk => by simp [Value.ownBlock] at hk; omega)⟩
    ·
     intro o_ ho_; obtain rfl := Option.some.inj ho_; intro aA wA cvA hNA hRA hcv0A hbsA hdpA hCA
     have hRA : w947.grownBy wA (Value.slice none 0 0).ownBlock := hRA
     have hnil_o := (Own.nil w947 w.heap.size 35 1)
     have z_wA := hRA.size
     have hb := below_stepO hb (Own.nil w947 w.heap.size 35 1) hRA hb.size (by omega)
     have hl := hl.keep0 hRA
     have hO845 := hO845.keep0 hRA
     have hCA : Own wA w.heap.size 35 1 cvA 0 ([]) := hCA
     have qA_44 : aA.tmps.getD 44 undef = cvA := (show chP 0 1 cvA (aA.tmps.getD 44 undef) wA from hdpA 0 _ 44 (by kernel_rfl) rfl rfl).2 rfl
     obtain ⟨v952, qA_47, hR953, xqA_47_0⟩ := hdpA 3 _ 47 (by kernel_rfl) rfl rfl
     have hR953 : RdC wA w.heap.size w947.heap.size 1 v952 jj ((((nrm (l.take i)).take jj)).map u16v) := hR953
     clear hbsA hdpA
     have hP969 := hCA
     refine op_append slt23 (ev_base hNA rfl qA_44) hP969 (ev_base hNA rfl qA_47) (Src.ofRd Try.underlying23 (by decide) hR953 (one_u16 _)) (by unfold maxLen; omega) (by omega) hb.size ?_
     intro v964 w965 hO967 E966 hm968
     have z_w965 := E966.size
     have hl := hl.keepO hP969 E966 (by omega)
     have hR953 := hR953.keep E966 (fun k hk => .inr (xqA_47_0.2 k hk))
     have hb := below_stepO hb hP969 E966 hb.size (by omega)
     have hO967 : Own w965 w.heap.size 35 1 v964 (0 + jj) ((((nrm (l.take i)).take jj)).map u16v) := by simpa [u8v, u16v, cellsV] using hO967
     exact obCc_end rfl rfl (chP_now (w := w965)) hO967 ⟨E966, hm968⟩
    ·
     intro o_ ho_; obtain rfl := Option.some.inj ho_; intro aA wA cvA hNA hRA hcv0A hbsA hdpA hCA
     have hRA : w947.grownBy wA (Value.slice none 0 0).ownBlock := hRA
     have hnil_o := (Own.nil w947 w.heap.size 35 1)
     have z_wA := hRA.size
     have hb := below_stepO hb (Own.nil w947 w.heap.size 35 1) hRA hb.size (by omega)
     have hl := hl.keep0 hRA
     have hO845 := hO845.keep0 hRA
     have hCA : Own wA w.heap.size 35 1 cvA (0 + jj) ((((nrm (l.take i)).take jj)).map u16v) := hCA
     have qA_48 : aA.tmps.getD 48 undef = cvA := (show chP 1 2 cvA (aA.tmps.getD 48 undef) wA from hdpA 4 _ 48 (by kernel_rfl) rfl rfl).2 rfl
     obtain ⟨b966, qA_53, loA_0, hB968, xqA_53_0⟩ := hdpA 9 _ 53 (by kernel_rfl) rfl rfl
     have hB968 : Bx wA b966 35 [(Value.int .u16 ((l.getD i 0).toNat : Int))] := hB968
     clear hbsA hdpA
     have hP975 := hCA
     refine op_append slt23 (ev_base hNA rfl qA_48) hP975 (ev_base hNA rfl qA_53) (Src.ofRd Try.underlying23 (by decide) (RdC.ofBx (sz := 1) (n := 1) hB968 rfl (by decide)) (by simp [Value.oneCell', u8v])) (by unfold maxLen; omega) (by omega) hb.size ?_
     intro v970 w971 hO973 E972 hm974
     have z_w971 := E972.size
     have hl := hl.keepO hP975 E972 (by omega)
     have hB968 := hB968.keep E972 (fun hh => xqA_53_0 hh.symm)
     have hb := below_stepO hb hP975 E972 hb.size (by omega)
     have hO973 : Own w971 w.heap.size 35 1 v970 ((0 + jj) + 1) (((((nrm (l.take i)).take jj) ++ [(l.getD i 0)])).map u16v) := by simpa [u8v, u16v, cellsV] using hO973
     exact obCc_end rfl rfl (chP_now (w := w971)) hO973 ⟨E972, hm974⟩
    ·
     intro a976 w976 v969 hN976 hd976 hbs976 hph976 hC976 E976 hm976
     have hd976 := hd976.trans hd851
     have s976_0 := (hbs976 0 rfl).trans (sl_base hN851 rfl s851_0)
     have s976_2 := (hbs976 2 rfl).trans (sl_base hN851 rfl s851_2)
     have s976_3 := (hbs976 3 rfl).trans (sl_base hN851 rfl s851_3)
     have s976_4 := (hbs976 4 rfl).trans (sl_base hN851 rfl s851_4)
     have s976_54 : a976.tmps.getD 54 undef = v969 := (show chP 2 3 v969 (a976.tmps.getD 54 undef) w976 from hph976 10 _ 54 rfl rfl).2 rfl
     obtain ⟨v976, s976_57, hR977, xq976_57_0⟩ := hph976 13 _ 57 rfl rfl
     have hR977 : RdC w976 w.heap.size w947.heap.size 1 v976 ((nrm (l.take i)).length - jj) ((((nrm (l.take i)).drop jj)).map u16v) := hR977
     clear hbs976 hph976
     have E976 : w947.grownBy w976 (Value.slice none 0 0).ownBlock := E976
     have hC976 : Own w976 w.heap.size 35 1 v969 ((0 + jj) + 1) (((((nrm (l.take i)).take jj) ++ [(l.getD i 0)])).map u16v) := hC976
     have dj977 : DJ r v969 := fun k hk hg => by have q1 := (hO845.lt k hk).2; rcases hm976 with h7 | h7; (rw [h7] at hg; simp [Value.ownBlock] at hg); (have := h7 k hg; omega)
     have E976 : w947.grownBy w976 none := E976
     have z_w976 := E976.size
     have hl := hl.keep0 E976
     have hO845 := hO845.keep0 E976
     have hb := below_step0 hb E976 hb.size
     refine split_end ?_
     refine from_seq (tl := [_, _]) (by decide) (by kernel_rfl) rfl ?_
     have hP983 := hC976
     refine op_append slt23 (ev_base hN976 rfl s976_54) hP983 (ev_base hN976 rfl s976_57) (Src.ofRd Try.underlying23 (by decide) hR977 (one_u16 _)) (by unfold maxLen; omega) (by omega) hb.size ?_
     intro v978 w979 hO981 E980 hm982
     have dj984 : DJ r v978 := DJ.step hm982 (fun k hk => (hO845.lt k hk).2) dj977
     have z_w979 := E980.size
     have hl := hl.keepO hP983 E980 (by omega)
     have hO845 := hO845.keepD E980 dj977
     have hR977 := hR977.keep E980 (fun k hk => .inr (xq976_57_0.2 k hk))
     have hb := below_stepO hb hP983 E980 hb.size (by omega)
     have hO981 : Own w979 w.heap.size 35 1 v978 (((0 + jj) + 1) + ((nrm (l.take i)).length - jj)) ((((((nrm (l.take i)).take jj) ++ [(l.getD i 0)]) ++ ((nrm (l.take i)).drop jj))).map u16v) := by simpa [u8v, u16v, cellsV] using hO981
     refine op_assign (ev_hit hN976 rfl) ?_
     refine reg_nil ?_
     refine hK848 _ _ ?_
     refine one_reg ?_
     refine op_move (ev_base hN976 rfl s976_4) ?_
     refine op_add (ev_hit hN976 rfl) rfl (add64 (by omega)) ?_
     refine op_assign (ev_hit hN976 rfl) ?_
     refine reg_nil ?_
     -- round 9T 15F 32T
     have hins := insT_at (x := l.getD i 0) (acc := (nrm (l.take i))) (j := jj) hlt (by omega) (by omega)
     exact loop_next _ hN976 hd976 ⟨i + 1, _, rfl, (sl_base hN976 rfl s976_0), (sl_base hN976 rfl s976_2), (sl_hit hN976 rfl).trans (congrArg (Value.int .i64) (by omega)), (sl_hit hN976 rfl), (by omega), (nrm_len (by omega)), hb, (by omega), hl, (hO981.cast (by rw [take_nrm (by omega), hins.2 (.inl (by omega))]; simp; omega) (by rw [take_nrm (by omega), hins.2 (.inl (by omega))]; try simp [u16v]))⟩ (by omega)
   · -- 32F
    refine st_step rfl (fun _ h9 => op_cmp (b := false) (ev_hit hN851 rfl) (ev_hit hN851 rfl) (b_eql (decide_eq_false g32)) h9) ?_
    refine st_step rfl (fun _ h9 => op_move (ev_hit hN851 rfl) h9) ?_
    refine st_g_true (j := 4) (dj := 33) (b := false) rfl rfl rfl (ev_hit hN851 rfl) ?_
    refine st_step rfl (fun _ h9 => op_move (ev_base hN851 rfl s851_3) h9) ?_
    refine st_g_true (j := 4) (dj := 33) (b := false) rfl rfl rfl (ev_hit hN851 rfl) ?_
    refine st_step rfl (fun _ h9 => op_move (ev_base hN851 rfl s851_5) h9) ?_
    refine st_g_true (j := 4) (dj := 33) (b := false) rfl rfl rfl (ev_hit hN851 rfl) ?_
    refine st_index_rd slt23 (ev_hit hN851 rfl) hO845.rdw (ev_hit hN851 rfl) (by omega) (by omega) ?_
    intro b985 o986 h0b985 h1b985 hc987
    refine st_g_true (j := 4) (dj := 33) (b := false) rfl rfl rfl (ev_hit hN851 rfl) ?_
    refine st_step rfl (fun _ h9 => op_load1 (v := (Value.int .u16 (((nrm (l.take i)).getD jj 0).toNat : Int))) one35 (ev_hit hN851 rfl) (by have := hc987 0 (Value.int .u16 (((nrm (l.take i)).getD jj 0).toNat : Int)) (by decide) (el_u16 (i := jj) (by omega) (by omega)); simpa using this) h9) ?_
    refine st_g_true (j := 4) (dj := 33) (b := false) rfl rfl rfl (ev_hit hN851 rfl) ?_
    refine st_step rfl (fun _ h9 => op_move (ev_base hN851 rfl s851_0) h9) ?_
    refine st_g_true (j := 4) (dj := 33) (b := false) rfl rfl rfl (ev_hit hN851 rfl) ?_
    refine st_step rfl (fun _ h9 => op_move (ev_base hN851 rfl s851_4) h9) ?_
    refine st_g_true (j := 4) (dj := 33) (b := false) rfl rfl rfl (ev_hit hN851 rfl) ?_
    refine st_index_rd slt22 (ev_hit hN851 rfl) hl (ev_hit hN851 rfl) (by omega) (by omega) ?_
    intro b988 o989 h0b988 h1b988 hc990
    refine st_g_true (j := 4) (dj := 33) (b := false) rfl rfl rfl (ev_hit hN851 rfl) ?_
    refine st_step rfl (fun _ h9 => op_load1 (v := (Value.int .u16 ((l.getD i 0).toNat : Int))) one35 (ev_hit hN851 rfl) (by have := hc990 0 (Value.int .u16 ((l.getD i 0).toNat : Int)) (by decide) (el_u16 (i := i) (by omega) (by omega)); simpa using this) h9) ?_
    refine st_g_true (j := 4) (dj := 33) (b := false) rfl rfl rfl (ev_hit hN851 rfl) ?_
    refine st_step rfl (fun _ h9 => op_cmp (b := (decide ((((nrm (l.take i)).getD jj 0).toNat : Int) ≠ ((l.getD i 0).toNat : Int)))) (ev_hit hN851 rfl) (ev_hit hN851 rfl) (b_neq rfl) h9) ?_
    refine st_step rfl (fun _ h9 => op_pick_f (ev_hit hN851 rfl) (ev_hit hN851 rfl) h9) ?_
    refine st_nil ?_
    refine hK945 _ _ ?_
    refine wp_cond_split (ev_hit hN851 rfl) (fun c43 => ?_) (fun c43 => ?_)
    · -- 43T
     have c43 := of_decide_eq_true c43
     have hO845_s := hO845
     refine reg_split (hd := [_, _, _, _, _, _, _, _, _, _, _, _, _, _]) (tl := _) 14 mixed (by kernel_rfl) rfl rfl ?_
     refine any_chain (Φ := phiC [chP 0, (fun _ _ uz _ => uz = r), (fun _ _ uz _ => uz = (Value.int .i64 ((jj : Nat) : Int))), (fun _ vz uz w' => ∃ (v995 : Value), uz = v995 ∧ RdC w' w.heap.size w947.heap.size 1 v995 jj ((((nrm (l.take i)).take jj)).map u16v) ∧ (w947.heap.size ≤ w'.heap.size ∧ ∀ k, vz.ownBlock = some k → w947.heap.size ≤ k)), chP 1, (fun _ _ uz _ => uz = v), (fun _ _ uz _ => uz = (Value.int .i64 ((i : Nat) : Int))), (fun _ vz uz w' => ∃ (b1004 : (Nat)) (o1005 : (Nat)), uz = (ptr b1004 o1005) ∧ PtC w' 0 w.heap.size b1004 o1005 [(Value.int .u16 ((l.getD i 0).toNat : Int))] ∧ (w.heap.size ≤ w'.heap.size ∧ ∀ k, vz.ownBlock = some k → w.heap.size ≤ k)), (fun _ _ uz _ => uz = (Value.int .u16 ((l.getD i 0).toNat : Int))), (fun _ vz uz w' => ∃ (b1009 : Nat), uz = (Value.slice (some ⟨b1009, 0, none⟩) 1 1) ∧ w947.heap.size ≤ b1009 ∧ Bx w' b1009 35 [(Value.int .u16 ((l.getD i 0).toNat : Int))] ∧ vz.ownBlock ≠ some b1009), chP 2, (fun _ _ uz _ => uz = r), (fun _ _ uz _ => uz = (Value.int .i64 ((jj : Nat) : Int))), (fun _ vz uz w' => ∃ (v1019 : Value), uz = v1019 ∧ RdC w' w.heap.size w947.heap.size 1 v1019 ((nrm (l.take i)).length - jj) ((((nrm (l.take i)).drop jj)).map u16v) ∧ (w947.heap.size ≤ w'.heap.size ∧ ∀ k, vz.ownBlock = some k → w947.heap.size ≤ k))]) (C := CL [(fun vz w' => Own w' w.heap.size 35 1 vz 0 ([])), (fun vz w' => Own w' w.heap.size 35 1 vz 0 ([])), (fun vz w' => Own w' w.heap.size 35 1 vz (0 + jj) ((((nrm (l.take i)).take jj)).map u16v)), (fun vz w' => Own w' w.heap.size 35 1 vz ((0 + jj) + 1) (((((nrm (l.take i)).take jj) ++ [(l.getD i 0)])).map u16v))]) ⟨[0, 4, 10], fun c => [60, 44, 48, 54].getD c 60⟩ (Value.slice none 0 0) (by kernel_rfl) (by kernel_rfl) (by kernel_rfl) (by kernel_rfl) hN851 (StK.get0 (n := 3) (StK.ch (StK.eq (StK.eq (StK.cons (fun c v u w1 w2 E h => by obtain ⟨x0, hv, f0, q0⟩ := h; exact ⟨x0, hv, f0.keep0 E, ⟨Nat.le_trans q0.1 E.size, q0.2⟩⟩) (fun c v v' u w1 w2 _ E h => by obtain ⟨x0, hv, f0, q0⟩ := h; exact ⟨x0, hv, f0.keep E.1 (fun k hk => .inr (q0.2 k hk)), ⟨Nat.le_trans q0.1 E.1.size, ge_step E q0.1 q0.2⟩⟩) (StK.ch (StK.eq (StK.eq (StK.cons (fun c v u w1 w2 E h => by obtain ⟨x0, x1, hv, f0, q0⟩ := h; exact ⟨x0, x1, hv, f0.keep0 E, ⟨Nat.le_trans q0.1 E.size, q0.2⟩⟩) (fun c v v' u w1 w2 _ E h => by obtain ⟨x0, x1, hv, f0, q0⟩ := h; exact ⟨x0, x1, hv, f0.keep E.1 (fun k hk => .inr (q0.2 k hk)), ⟨Nat.le_trans q0.1 E.1.size, ge_step E q0.1 q0.2⟩⟩) (StK.eq (StK.cons (fun c v u w1 w2 E h => by obtain ⟨x0, hv, l0, f0, q0⟩ := h; exact ⟨x0, hv, l0, f0.keep0 E, q0⟩) (fun c v v' u w1 w2 _ E h => by obtain ⟨x0, hv, l0, f0, q0⟩ := h; exact ⟨x0, hv, l0, f0.keep E.1 (fun hh => q0 hh.symm), ne_step E f0.lt q0⟩) (StK.ch (StK.eq (StK.eq (StK.cons (fun c v u w1 w2 E h => by obtain ⟨x0, hv, f0, q0⟩ := h; exact ⟨x0, hv, f0.keep0 E, ⟨Nat.le_trans q0.1 E.size, q0.2⟩⟩) (fun c v v' u w1 w2 _ E h => by obtain ⟨x0, hv, f0, q0⟩ := h; exact ⟨x0, hv, f0.keep E.1 (fun k hk => .inr (q0.2 k hk)), ⟨Nat.le_trans q0.1 E.1.size, ge_step E q0.1 q0.2⟩⟩) (StK.nil)))))))))))))))) (StK.get1 (n := 3) (StK.ch (StK.eq (StK.eq (StK.cons (fun c v u w1 w2 E h => by obtain ⟨x0, hv, f0, q0⟩ := h; exact ⟨x0, hv, f0.keep0 E, ⟨Nat.le_trans q0.1 E.size, q0.2⟩⟩) (fun c v v' u w1 w2 _ E h => by obtain ⟨x0, hv, f0, q0⟩ := h; exact ⟨x0, hv, f0.keep E.1 (fun k hk => .inr (q0.2 k hk)), ⟨Nat.le_trans q0.1 E.1.size, ge_step E q0.1 q0.2⟩⟩) (StK.ch (StK.eq (StK.eq (StK.cons (fun c v u w1 w2 E h => by obtain ⟨x0, x1, hv, f0, q0⟩ := h; exact ⟨x0, x1, hv, f0.keep0 E, ⟨Nat.le_trans q0.1 E.size, q0.2⟩⟩) (fun c v v' u w1 w2 _ E h => by obtain ⟨x0, x1, hv, f0, q0⟩ := h; exact ⟨x0, x1, hv, f0.keep E.1 (fun k hk => .inr (q0.2 k hk)), ⟨Nat.le_trans q0.1 E.1.size, ge_step E q0.1 q0.2⟩⟩) (StK.eq (StK.cons (fun c v u w1 w2 E h => by obtain ⟨x0, hv, l0, f0, q0⟩ := h; exact ⟨x0, hv, l0, f0.keep0 E, q0⟩) (fun c v v' u w1 w2 _ E h => by obtain ⟨x0, hv, l0, f0, q0⟩ := h; exact ⟨x0, hv, l0, f0.keep E.1 (fun hh => q0 hh.symm), ne_step E f0.lt q0⟩) (StK.ch (StK.eq (StK.eq (StK.cons (fun c v u w1 w2 E h => by obtain ⟨x0, hv, f0, q0⟩ := h; exact ⟨x0, hv, f0.keep0 E, ⟨Nat.le_trans q0.1 E.size, q0.2⟩⟩) (fun c v v' u w1 w2 _ E h => by obtain ⟨x0, hv, f0, q0⟩ := h; exact ⟨x0, hv, f0.keep E.1 (fun k hk => .inr (q0.2 k hk)), ⟨Nat.le_trans q0.1 E.1.size, ge_step E q0.1 q0.2⟩⟩) (StK.nil)))))))))))))))) (StL2.get0 (StL2.own (StL2.own (StL2.own (StL2.own (StL2.nil)))))) (StL2.get1 (StL2.own (StL2.own (StL2.own (StL2.own (StL2.nil)))))) (Own.nil w947 w.heap.size 35 1) (ObLn.get (ObLn.pass rfl (ObLn.cons ?_ (ObLn.cons ?_ (ObLn.cons ?_ (ObLn.pass rfl (ObLn.cons ?_ (ObLn.cons ?_ (ObLn.cons ?_ (ObLn.cons ?_ (ObLn.cons ?_ (ObLn.pass rfl (ObLn.cons ?_ (ObLn.cons ?_ (ObLn.cons ?_ (ObLn.nil)))))))))))))))) (ObLc.get (ObLc.cons ?_ (ObLc.cons ?_ (ObLc.cons ?_ (ObLc.nil))))) ?_
     ·
      intro aA wA ccA cvA hNA hclA hRA hltA hvoA hbsA hdpA
      have qA_3 := (hbsA 3 rfl).trans (sl_base hN851 rfl s851_3)
      refine op_move (ev_base hNA rfl qA_3) ?_
      exact obNc_end rfl rfl (grown_refl _ _)
     ·
      intro aA wA ccA cvA hNA hclA hRA hltA hvoA hbsA hdpA
      have qA_5 := (hbsA 5 rfl).trans (sl_base hN851 rfl s851_5)
      refine op_move (ev_base hNA rfl qA_5) ?_
      exact obNc_end rfl rfl (grown_refl _ _)
     ·
      intro aA wA ccA cvA hNA hclA hRA hltA hvoA hbsA hdpA
      have hRA : w947.grownBy wA (Value.slice none 0 0).ownBlock := hRA
      have hnil_o := (Own.nil w947 w.heap.size 35 1)
      have z_wA := hRA.size
      have hb := below_stepO hb (Own.nil w947 w.heap.size 35 1) hRA hb.size (by omega)
      have hl := hl.keep0 hRA
      have hO845 := hO845.keep0 hRA
      have qA_45 : Sl aA 45 r := hdpA 1 _ 45 (by kernel_rfl) rfl rfl
      have qA_46 : Sl aA 46 (Value.int .i64 ((jj : Nat) : Int)) := hdpA 2 _ 46 (by kernel_rfl) rfl rfl
      clear hbsA hdpA
      refine op_slice_rd (lo := 0) (hi := jj) slt23 (ev_base hNA rfl qA_45) (Own.rdB hO845 hO845_s) (.inl ⟨rfl, rfl⟩) (.inr ⟨_, _, rfl, (ev_base hNA rfl qA_46)⟩) (by omega) (by omega) ?_
      intro v991 hR992
      have hR992 : RdC wA w.heap.size w947.heap.size 1 v991 jj ((((nrm (l.take i)).take jj)).map u16v) := by simpa [List.map_drop, List.map_take] using hR992
      exact obNc_end rfl ⟨v991, rfl, hR992, ⟨by omega, ge_of hvoA (fun k hk => by simp [Value.ownBlock] at hk) (by omega)⟩⟩ (grown_refl _ _)
     ·
      intro aA wA ccA cvA hNA hclA hRA hltA hvoA hbsA hdpA
      have qA_0 := (hbsA 0 rfl).trans (sl_base hN851 rfl s851_0)
      refine op_move (ev_base hNA rfl qA_0) ?_
      exact obNc_end rfl rfl (grown_refl _ _)
     ·
      intro aA wA ccA cvA hNA hclA hRA hltA hvoA hbsA hdpA
      have qA_4 := (hbsA 4 rfl).trans (sl_base hN851 rfl s851_4)
      refine op_move (ev_base hNA rfl qA_4) ?_
      exact obNc_end rfl rfl (grown_refl _ _)
     ·
      intro aA wA ccA cvA hNA hclA hRA hltA hvoA hbsA hdpA
      have hRA : w947.grownBy wA (Value.slice none 0 0).ownBlock := hRA
      have hnil_o := (Own.nil w947 w.heap.size 35 1)
      have z_wA := hRA.size
      have hb := below_stepO hb (Own.nil w947 w.heap.size 35 1) hRA hb.size (by omega)
      have hl := hl.keep0 hRA
      have hO845 := hO845.keep0 hRA
      have qA_49 : Sl aA 49 v := hdpA 5 _ 49 (by kernel_rfl) rfl rfl
      have qA_50 : Sl aA 50 (Value.int .i64 ((i : Nat) : Int)) := hdpA 6 _ 50 (by kernel_rfl) rfl rfl
      clear hbsA hdpA
      refine op_index_rd slt22 (ev_base hNA rfl qA_49) hl (ev_base hNA rfl qA_50) (by omega) (by omega) ?_
      intro b993 o994 h0b993 h1b993 hc995
      have hp996 : PtC wA 0 w.heap.size b993 o994 [(Value.int .u16 ((l.getD i 0).toNat : Int))] := ⟨by omega, by omega, fun j u hu => hc995 j u (by have := (List.getElem?_eq_some_iff.1 hu).1; simpa using this) ((fun j u hu => one_at (el_u16 (i := i) (by omega) (by omega)) hu) j u hu)⟩
      exact obNc_end rfl ⟨b993, o994, rfl, hp996, ⟨by omega, ge_of hvoA (fun k hk => by simp [Value.ownBlock] at hk) (by omega)⟩⟩ (grown_refl _ _)
     ·
      intro aA wA ccA cvA hNA hclA hRA hltA hvoA hbsA hdpA
      have hRA : w947.grownBy wA (Value.slice none 0 0).ownBlock := hRA
      have hnil_o := (Own.nil w947 w.heap.size 35 1)
      have z_wA := hRA.size
      have hb := below_stepO hb (Own.nil w947 w.heap.size 35 1) hRA hb.size (by omega)
      have hl := hl.keep0 hRA
      have hO845 := hO845.keep0 hRA
      obtain ⟨b1004, o1005, qA_51, hp1007, xqA_51_0⟩ := hdpA 7 _ 51 (by kernel_rfl) rfl rfl
      have hp1007 : PtC wA 0 w.heap.size b1004 o1005 [(Value.int .u16 ((l.getD i 0).toNat : Int))] := hp1007
      clear hbsA hdpA
      refine op_load1 (v := (Value.int .u16 ((l.getD i 0).toNat : Int))) one35 (ev_base hNA rfl qA_51) (hp1007.2.2 0 _ rfl) ?_
      exact obNc_end rfl rfl (grown_refl _ _)
     ·
      intro aA wA ccA cvA hNA hclA hRA hltA hvoA hbsA hdpA
      have hRA : w947.grownBy wA (Value.slice none 0 0).ownBlock := hRA
      have hnil_o := (Own.nil w947 w.heap.size 35 1)
      have z_wA := hRA.size
      have hb := below_stepO hb (Own.nil w947 w.heap.size 35 1) hRA hb.size (by omega)
      have hl := hl.keep0 hRA
      have hO845 := hO845.keep0 hRA
      have qA_52 : Sl aA 52 (Value.int .u16 ((l.getD i 0).toNat : Int)) := hdpA 8 _ 52 (by kernel_rfl) rfl rfl
      clear hbsA hdpA
      refine op_bslice (e := 35) (pv := [(0, (Value.int .u16 ((l.getD i 0).toNat : Int)))]) (cs := [(Value.int .u16 ((l.getD i 0).toNat : Int))]) ⟨rfl, (ev_base hNA rfl qA_52), trivial⟩ (by kernel_rfl) ?_
      intro w997 b998 lo_b998 hi_b998 hB1000 E999
      have ne_b998_r : r.ownBlock ≠ some b998 := fun hh => by have := (hO845.lt _ hh).2; omega
      have z_w997 := E999.size
      have hl := hl.keep0 E999
      have hO845 := hO845.keep0 E999
      have hb := below_step0 hb E999 hb.size
      exact obNc_end rfl ⟨b998, rfl, (by omega), hB1000, (fun hh => by have := hltA _ hh; omega)⟩ (E999)
     ·
      intro aA wA ccA cvA hNA hclA hRA hltA hvoA hbsA hdpA
      have qA_3 := (hbsA 3 rfl).trans (sl_base hN851 rfl s851_3)
      refine op_move (ev_base hNA rfl qA_3) ?_
      exact obNc_end rfl rfl (grown_refl _ _)
     ·
      intro aA wA ccA cvA hNA hclA hRA hltA hvoA hbsA hdpA
      have qA_5 := (hbsA 5 rfl).trans (sl_base hN851 rfl s851_5)
      refine op_move (ev_base hNA rfl qA_5) ?_
      exact obNc_end rfl rfl (grown_refl _ _)
     ·
      intro aA wA ccA cvA hNA hclA hRA hltA hvoA hbsA hdpA
      have hRA : w947.grownBy wA (Value.slice none 0 0).ownBlock := hRA
      have hnil_o := (Own.nil w947 w.heap.size 35 1)
      have z_wA := hRA.size
      have hb := below_stepO hb (Own.nil w947 w.heap.size 35 1) hRA hb.size (by omega)
      have hl := hl.keep0 hRA
      have hO845 := hO845.keep0 hRA
      have qA_55 : Sl aA 55 r := hdpA 11 _ 55 (by kernel_rfl) rfl rfl
      have qA_56 : Sl aA 56 (Value.int .i64 ((jj : Nat) : Int)) := hdpA 12 _ 56 (by kernel_rfl) rfl rfl
      clear hbsA hdpA
      refine op_slice_rd (lo := jj) (hi := (nrm (l.take i)).length) slt23 (ev_base hNA rfl qA_55) (Own.rdB hO845 hO845_s) (.inr ⟨_, _, rfl, (ev_base hNA rfl qA_56)⟩) (.inl ⟨rfl, rfl⟩) (by omega) (by omega) ?_
      intro v1001 hR1002
      have hR1002 : RdC wA w.heap.size w947.heap.size 1 v1001 ((nrm (l.take i)).length - jj) ((((nrm (l.take i)).drop jj)).map u16v) := by simpa [List.map_drop, List.map_take, List.take_of_length_le] using hR1002
      exact obNc_end rfl ⟨v1001, rfl, hR1002, ⟨by omega, ge_of hvoA (fun k hk => by simp [Value.ownBlock] at hk) (by omega)⟩⟩ (grown_refl _ _)
     ·
      intro o_ ho_; obtain rfl := Option.some.inj ho_; intro aA wA cvA hNA hRA hcv0A hbsA hdpA hCA
      have hRA : w947.grownBy wA (Value.slice none 0 0).ownBlock := hRA
      have hnil_o := (Own.nil w947 w.heap.size 35 1)
      have z_wA := hRA.size
      have hb := below_stepO hb (Own.nil w947 w.heap.size 35 1) hRA hb.size (by omega)
      have hl := hl.keep0 hRA
      have hO845 := hO845.keep0 hRA
      have hcvA : (Value.slice none 0 0) = cvA := (hcv0A rfl).symm
      subst hcvA
      have hCA : Own wA w.heap.size 35 1 (Value.slice none 0 0) 0 ([]) := hCA
      clear hbsA hdpA
      refine op_bslice (e := 35) (pv := []) (cs := []) trivial (by kernel_rfl) ?_
      intro w1003 b1004 lo_b1004 hi_b1004 hB1006 E1005
      have ne_b1004_r : r.ownBlock ≠ some b1004 := fun hh => by have := (hO845.lt _ hh).2; omega
      have z_w1003 := E1005.size
      have hl := hl.keep0 E1005
      have hO845 := hO845.keep0 E1005
      have hCA := hCA.keep0 E1005
      have hb := below_step0 hb E1005 hb.size
      exact obCc_end rfl rfl (chP_now (w := w1003)) (Own.ofBx (base := w.heap.size) (sz := 1) (n := 0) hB1006 rfl (by decide) (by omega)) ⟨E1005, .inr (fun k hk => by simp [Value.ownBlock] at hk; omega)⟩
     ·
      intro o_ ho_; obtain rfl := Option.some.inj ho_; intro aA wA cvA hNA hRA hcv0A hbsA hdpA hCA
      have hRA : w947.grownBy wA (Value.slice none 0 0).ownBlock := hRA
      have hnil_o := (Own.nil w947 w.heap.size 35 1)
      have z_wA := hRA.size
      have hb := below_stepO hb (Own.nil w947 w.heap.size 35 1) hRA hb.size (by omega)
      have hl := hl.keep0 hRA
      have hO845 := hO845.keep0 hRA
      have hCA : Own wA w.heap.size 35 1 cvA 0 ([]) := hCA
      have qA_44 : aA.tmps.getD 44 undef = cvA := (show chP 0 1 cvA (aA.tmps.getD 44 undef) wA from hdpA 0 _ 44 (by kernel_rfl) rfl rfl).2 rfl
      obtain ⟨v995, qA_47, hR996, xqA_47_0⟩ := hdpA 3 _ 47 (by kernel_rfl) rfl rfl
      have hR996 : RdC wA w.heap.size w947.heap.size 1 v995 jj ((((nrm (l.take i)).take jj)).map u16v) := hR996
      clear hbsA hdpA
      have hP1012 := hCA
      refine op_append slt23 (ev_base hNA rfl qA_44) hP1012 (ev_base hNA rfl qA_47) (Src.ofRd Try.underlying23 (by decide) hR996 (one_u16 _)) (by unfold maxLen; omega) (by omega) hb.size ?_
      intro v1007 w1008 hO1010 E1009 hm1011
      have z_w1008 := E1009.size
      have hl := hl.keepO hP1012 E1009 (by omega)
      have hR996 := hR996.keep E1009 (fun k hk => .inr (xqA_47_0.2 k hk))
      have hb := below_stepO hb hP1012 E1009 hb.size (by omega)
      have hO1010 : Own w1008 w.heap.size 35 1 v1007 (0 + jj) ((((nrm (l.take i)).take jj)).map u16v) := by simpa [u8v, u16v, cellsV] using hO1010
      exact obCc_end rfl rfl (chP_now (w := w1008)) hO1010 ⟨E1009, hm1011⟩
     ·
      intro o_ ho_; obtain rfl := Option.some.inj ho_; intro aA wA cvA hNA hRA hcv0A hbsA hdpA hCA
      have hRA : w947.grownBy wA (Value.slice none 0 0).ownBlock := hRA
      have hnil_o := (Own.nil w947 w.heap.size 35 1)
      have z_wA := hRA.size
      have hb := below_stepO hb (Own.nil w947 w.heap.size 35 1) hRA hb.size (by omega)
      have hl := hl.keep0 hRA
      have hO845 := hO845.keep0 hRA
      have hCA : Own wA w.heap.size 35 1 cvA (0 + jj) ((((nrm (l.take i)).take jj)).map u16v) := hCA
      have qA_48 : aA.tmps.getD 48 undef = cvA := (show chP 1 2 cvA (aA.tmps.getD 48 undef) wA from hdpA 4 _ 48 (by kernel_rfl) rfl rfl).2 rfl
      obtain ⟨b1009, qA_53, loA_0, hB1011, xqA_53_0⟩ := hdpA 9 _ 53 (by kernel_rfl) rfl rfl
      have hB1011 : Bx wA b1009 35 [(Value.int .u16 ((l.getD i 0).toNat : Int))] := hB1011
      clear hbsA hdpA
      have hP1018 := hCA
      refine op_append slt23 (ev_base hNA rfl qA_48) hP1018 (ev_base hNA rfl qA_53) (Src.ofRd Try.underlying23 (by decide) (RdC.ofBx (sz := 1) (n := 1) hB1011 rfl (by decide)) (by simp [Value.oneCell', u8v])) (by unfold maxLen; omega) (by omega) hb.size ?_
      intro v1013 w1014 hO1016 E1015 hm1017
      have z_w1014 := E1015.size
      have hl := hl.keepO hP1018 E1015 (by omega)
      have hB1011 := hB1011.keep E1015 (fun hh => xqA_53_0 hh.symm)
      have hb := below_stepO hb hP1018 E1015 hb.size (by omega)
      have hO1016 : Own w1014 w.heap.size 35 1 v1013 ((0 + jj) + 1) (((((nrm (l.take i)).take jj) ++ [(l.getD i 0)])).map u16v) := by simpa [u8v, u16v, cellsV] using hO1016
      exact obCc_end rfl rfl (chP_now (w := w1014)) hO1016 ⟨E1015, hm1017⟩
     ·
      intro a1019 w1019 v1012 hN1019 hd1019 hbs1019 hph1019 hC1019 E1019 hm1019
      have hd1019 := hd1019.trans hd851
      have s1019_0 := (hbs1019 0 rfl).trans (sl_base hN851 rfl s851_0)
      have s1019_2 := (hbs1019 2 rfl).trans (sl_base hN851 rfl s851_2)
      have s1019_3 := (hbs1019 3 rfl).trans (sl_base hN851 rfl s851_3)
      have s1019_4 := (hbs1019 4 rfl).trans (sl_base hN851 rfl s851_4)
      have s1019_54 : a1019.tmps.getD 54 undef = v1012 := (show chP 2 3 v1012 (a1019.tmps.getD 54 undef) w1019 from hph1019 10 _ 54 rfl rfl).2 rfl
      obtain ⟨v1019, s1019_57, hR1020, xq1019_57_0⟩ := hph1019 13 _ 57 rfl rfl
      have hR1020 : RdC w1019 w.heap.size w947.heap.size 1 v1019 ((nrm (l.take i)).length - jj) ((((nrm (l.take i)).drop jj)).map u16v) := hR1020
      clear hbs1019 hph1019
      have E1019 : w947.grownBy w1019 (Value.slice none 0 0).ownBlock := E1019
      have hC1019 : Own w1019 w.heap.size 35 1 v1012 ((0 + jj) + 1) (((((nrm (l.take i)).take jj) ++ [(l.getD i 0)])).map u16v) := hC1019
      have dj1020 : DJ r v1012 := fun k hk hg => by have q1 := (hO845.lt k hk).2; rcases hm1019 with h7 | h7; (rw [h7] at hg; simp [Value.ownBlock] at hg); (have := h7 k hg; omega)
      have E1019 : w947.grownBy w1019 none := E1019
      have z_w1019 := E1019.size
      have hl := hl.keep0 E1019
      have hO845 := hO845.keep0 E1019
      have hb := below_step0 hb E1019 hb.size
      refine split_end ?_
      refine from_seq (tl := [_, _]) (by decide) (by kernel_rfl) rfl ?_
      have hP1026 := hC1019
      refine op_append slt23 (ev_base hN1019 rfl s1019_54) hP1026 (ev_base hN1019 rfl s1019_57) (Src.ofRd Try.underlying23 (by decide) hR1020 (one_u16 _)) (by unfold maxLen; omega) (by omega) hb.size ?_
      intro v1021 w1022 hO1024 E1023 hm1025
      have dj1027 : DJ r v1021 := DJ.step hm1025 (fun k hk => (hO845.lt k hk).2) dj1020
      have z_w1022 := E1023.size
      have hl := hl.keepO hP1026 E1023 (by omega)
      have hO845 := hO845.keepD E1023 dj1020
      have hR1020 := hR1020.keep E1023 (fun k hk => .inr (xq1019_57_0.2 k hk))
      have hb := below_stepO hb hP1026 E1023 hb.size (by omega)
      have hO1024 : Own w1022 w.heap.size 35 1 v1021 (((0 + jj) + 1) + ((nrm (l.take i)).length - jj)) ((((((nrm (l.take i)).take jj) ++ [(l.getD i 0)]) ++ ((nrm (l.take i)).drop jj))).map u16v) := by simpa [u8v, u16v, cellsV] using hO1024
      refine op_assign (ev_hit hN1019 rfl) ?_
      refine reg_nil ?_
      refine hK848 _ _ ?_
      refine one_reg ?_
      refine op_move (ev_base hN1019 rfl s1019_4) ?_
      refine op_add (ev_hit hN1019 rfl) rfl (add64 (by omega)) ?_
      refine op_assign (ev_hit hN1019 rfl) ?_
      refine reg_nil ?_
      -- round 9T 15F 32F 43T
      have hins := insT_at (x := l.getD i 0) (acc := (nrm (l.take i))) (j := jj) hlt (by omega) (by omega)
      exact loop_next _ hN1019 hd1019 ⟨i + 1, _, rfl, (sl_base hN1019 rfl s1019_0), (sl_base hN1019 rfl s1019_2), (sl_hit hN1019 rfl).trans (congrArg (Value.int .i64) (by omega)), (sl_hit hN1019 rfl), (by omega), (nrm_len (by omega)), hb, (by omega), hl, (hO1024.cast (by rw [take_nrm (by omega), hins.2 (.inr (fun e => c43 (by rw [e])))]; simp; omega) (by rw [take_nrm (by omega), hins.2 (.inr (fun e => c43 (by rw [e])))]; try simp [u16v]))⟩ (by omega)
    · -- 43F
     have c43 := of_decide_eq_false c43
     refine wp_skip ?_
     refine hK848 _ _ ?_
     refine one_reg ?_
     refine op_move (ev_base hN851 rfl s851_4) ?_
     refine op_add (ev_hit hN851 rfl) rfl (add64 (by omega)) ?_
     refine op_assign (ev_hit hN851 rfl) ?_
     refine reg_nil ?_
     -- round 9T 15F 32F 43F
     have hins := insT_at (x := l.getD i 0) (acc := (nrm (l.take i))) (j := jj) hlt (by omega) (by omega)
     exact loop_next _ hN851 hd851 ⟨i + 1, _, rfl, (sl_base hN851 rfl s851_0), (sl_base hN851 rfl s851_2), (sl_hit hN851 rfl).trans (congrArg (Value.int .i64) (by omega)), (sl_base hN851 rfl s851_3), (by omega), (nrm_len (by omega)), hb, (by omega), hl, (hO845.cast (by rw [take_nrm (by omega), hins.1 ⟨by omega, u16_eq (by omega)⟩]) (by rw [take_nrm (by omega), hins.1 ⟨by omega, u16_eq (by omega)⟩]))⟩ (by omega)
 · -- 9F
  refine reg_nil ?_
  refine hK847 _ _ ?_
  refine wp_cond_false (ev_hit hN844 rfl) ?_
  refine wp_exit (then_exit (then_exit (blk_hit ?_)))
  refine hK842 _ _ ?_
  refine seq_any fun K1028 hK1028 => ?_
  refine one_reg ?_
  refine op_move (ev_base hN844 rfl s844_3) ?_
  refine op_assign (ev_hit hN844 rfl) ?_
  refine reg_nil ?_
  refine hK1028 _ _ ?_
  refine wp_ret ?_
  refine ret1 rfl hd844 (ev_hit hN844 rfl) ⟨_, rfl, ?_⟩
  -- path 9F
  rw [take_all l (by omega)] at hO845
  exact ⟨hb, hO845⟩

end Go.Proofs.Ytpmnljffdofkeaa

/- How lists of tags stand, plainly; labels made together. -/
namespace Go.Proofs.Ytpmnljffdofkeaa
open Go.Gx Go.RowKit
theorem cmpG_gt {a b : Lb} {i : Nat} (ha : i < a.length) (hb : b.length ≤ i) : cmpG (a.drop i) (b.drop i) = 1 := by
  rw [List.drop_eq_getElem_cons ha, List.drop_of_length_le hb]; rfl
theorem cmpG_lt {a b : Lb} {i : Nat} (ha : a.length ≤ i) (hb : i < b.length) : cmpG (a.drop i) (b.drop i) = -1 := by
  rw [List.drop_eq_getElem_cons hb, List.drop_of_length_le ha]; rfl
theorem cmpL_or {a b : Lb} : (if cmpI (a.length : Int) (b.length : Int) = 0 then cmpG a b else cmpI (a.length : Int) (b.length : Int)) = cmpL a b := by
  unfold cmpI cmpL; (repeat' split) <;> omega
def joinL (a b : Lb) : Lb := nrm (a ++ b)
/-- the label of tags, or why there is none -/
def normE (l : Lb) : Int := if 8 < (nrm l).length then 7 else 0
def normL (l : Lb) : Lb := if 8 < (nrm l).length then [] else nrm l
theorem normE_bad {l : Lb} (h : 8 < (nrm l).length) : normE l = 7 := if_pos h
theorem normE_ok {l : Lb} (h : ¬ 8 < (nrm l).length) : normE l = 0 := if_neg h
theorem normL_bad {l : Lb} (h : 8 < (nrm l).length) : normL l = [] := if_pos h
theorem normL_ok {l : Lb} (h : ¬ 8 < (nrm l).length) : normL l = nrm l := if_neg h
theorem mayL_nrm (l : Lb) : mayL (nrm l) = decide ((nrm l).length ≤ 8) := by unfold mayL; rw [decide_eq_true (nrm_rise l), Bool.true_and]
/-- whether a door may be made -/
def ownE (owns l : Lb) : Int := if normE l ≠ 0 then normE l else if flowsL (normL l) owns then 0 else 17
theorem ownE_bad {o l : Lb} (h : normE l ≠ 0) : ownE o l = normE l := if_pos h
theorem ownE_ok {o l : Lb} (h : ¬ normE l ≠ 0) (hf : flowsL (normL l) o = true) : ownE o l = 0 := by rw [ownE, if_neg h, if_pos hf]
theorem ownE_not {o l : Lb} (h : ¬ normE l ≠ 0) (hf : flowsL (normL l) o = false) : ownE o l = 17 := by rw [ownE, if_neg h, if_neg (by rw [hf]; decide)]
theorem flows_one (x : UInt16) (o : Lb) : flowsL [x] o = inL x o := by simp [flowsL]
theorem normL_len (l : Lb) : (normL l).length ≤ 8 := by
  unfold normL
  split
  · simp
  · omega
end Go.Proofs.Ytpmnljffdofkeaa
