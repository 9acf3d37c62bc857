/- Plain laws of rows: what is written is read, cut off it is short, with more behind it is none, and what is read is what is written. -/
import Derived.Test.YtkkongnmcfdioaaRSpec
namespace Go.Proofs.Ytkkongnmcfdioaa
open Go.Gx
theorem be8_of : ∀ {l : List UInt8}, l.length = 8 → be8 (ofBe l) = l := by
  intro l h
  match l, h with
  | [a, b, c, d, e, f, g, i], _ =>
    have ha := a.toNat_lt; have hb := b.toNat_lt; have hc := c.toNat_lt; have hd := d.toNat_lt; have he := e.toNat_lt; have hf := f.toNat_lt; have hg := g.toNat_lt; have hi := i.toNat_lt
    have e1 : be8 (ofBe [a, b, c, d, e, f, g, i]) = (List.range 8).map fun k => UInt8.ofNat (ofBe [a, b, c, d, e, f, g, i] / 2 ^ (56 - 8 * k)) := rfl
    rw [e1]
    have e2 : ofBe [a, b, c, d, e, f, g, i] = ((((((a.toNat * 256 + b.toNat) * 256 + c.toNat) * 256 + d.toNat) * 256 + e.toNat) * 256 + f.toNat) * 256 + g.toNat) * 256 + i.toNat := by simp [ofBe]
    generalize ofBe [a, b, c, d, e, f, g, i] = m at e2
    have key : ∀ (x : UInt8) (k : Nat), k % 256 = x.toNat → UInt8.ofNat k = x := by
      intro x k hk
      apply UInt8.toNat_inj.1
      rw [UInt8.toNat_ofNat']; omega
    have h0 := key a (m / 2 ^ 56) (by have : (2 : Nat) ^ 56 = 72057594037927936 := by decide
                                      omega)
    have h1 := key b (m / 2 ^ 48) (by have : (2 : Nat) ^ 48 = 281474976710656 := by decide
                                      omega)
    have h2 := key c (m / 2 ^ 40) (by have : (2 : Nat) ^ 40 = 1099511627776 := by decide
                                      omega)
    have h3 := key d (m / 2 ^ 32) (by have : (2 : Nat) ^ 32 = 4294967296 := by decide
                                      omega)
    have h4 := key e (m / 2 ^ 24) (by have : (2 : Nat) ^ 24 = 16777216 := by decide
                                      omega)
    have h5 := key f (m / 2 ^ 16) (by have : (2 : Nat) ^ 16 = 65536 := by decide
                                      omega)
    have h6 := key g (m / 2 ^ 8) (by have : (2 : Nat) ^ 8 = 256 := by decide
                                     omega)
    have h7 := key i (m / 2 ^ 0) (by have : (2 : Nat) ^ 0 = 1 := by decide
                                     omega)
    simp only [List.range, List.range.loop, List.map_cons, List.map_nil]
    rw [show 56 - 8 * 0 = 56 from rfl, show 56 - 8 * 1 = 48 from rfl, show 56 - 8 * 2 = 40 from rfl, show 56 - 8 * 3 = 32 from rfl, show 56 - 8 * 4 = 24 from rfl, show 56 - 8 * 5 = 16 from rfl, show 56 - 8 * 6 = 8 from rfl, show 56 - 8 * 7 = 0 from rfl, h0, h1, h2, h3, h4, h5, h6, h7]
theorem scanT_inr : ∀ {b : List UInt8} {i j : Nat}, i ≤ 30 → scanT b i = .inr j → i ≤ j ∧ j ≤ 30 ∧ (b.take (j - i)).all okB = true ∧ b.take (j - i + 1) = b.take (j - i) ++ [0]
  | [], i, j, _, h => by simp [scanT] at h
  | c :: r, i, j, hi, h => by
    unfold scanT at h
    split at h
    · rename_i hc
      have : i = j := by simpa using h
      subst this
      have hc0 : c = 0 := UInt8.toNat_inj.1 (by simpa using hc)
      exact ⟨Nat.le_refl _, hi, by simp, by simp [hc0]⟩
    · split at h
      · cases h
      · rename_i hz hn
        obtain ⟨h1, h2, h3, h4⟩ := scanT_inr (by omega) h
        have e : j - i = (j - (i + 1)) + 1 := by omega
        have ho : okB c = true := by
          rcases hq : okB c with _ | _
          · exact absurd (.inr hq) hn
          · rfl
        refine ⟨by omega, h2, ?_, ?_⟩
        · rw [e, List.take_succ_cons, List.all_cons, ho, h3]; rfl
        · rw [e, List.take_succ_cons, List.take_succ_cons, h4]; rfl
/-- What is read of bytes is a value that may be, and the bytes are its key. -/
theorem takeV_back {b : List UInt8} (h : (takeV b).2.2 = 0) : mayV (takeV b).1 = true ∧ OkV (takeV b).1 ∧ 0 < (takeV b).2.1 ∧ b = keyV (takeV b).1 ++ b.drop (takeV b).2.1.toNat := by
  cases b with
  | nil => simp [takeV] at h
  | cons c r =>
    have h' := h
    unfold takeV at h' ⊢
    simp only at h' ⊢
    by_cases h1 : c.toNat = 1
    · rw [if_pos h1] at h' ⊢
      by_cases h2 : (c :: r).length < 9
      · rw [if_pos h2] at h'; simp at h'
      · rw [if_neg h2]
        have hl : (r.take 8).length = 8 := by simp at h2 ⊢; omega
        have hb := ofBe_8 (l := r.take 8) (by omega)
        have hc1 : c = 1 := UInt8.toNat_inj.1 (by simpa using h1)
        refine ⟨by simp [mayV], ⟨by simp, by simp only; omega, by simp⟩, by simp, ?_⟩
        have e : upN ((ofBe (r.take 8) : Int) - 9223372036854775808) = ofBe (r.take 8) := by unfold upN; omega
        simp only [keyV, if_true, e, be8_of hl, hc1]
        show (1 : UInt8) :: r = 1 :: r.take 8 ++ (1 :: r).drop 9
        simp
    · rw [if_neg h1] at h' ⊢
      by_cases h2 : c.toNat = 2
      · rw [if_pos h2] at h' ⊢
        have hc2 : c = 2 := UInt8.toNat_inj.1 (by simpa using h2)
        unfold textR at h' ⊢
        rcases hs : scanT r 0 with e | i
        · rcases scanT_val r 0 with ⟨j, g1, _, _⟩ | g | g
          · rw [g1] at hs; cases hs
          · rw [g] at h'; simp [triT] at h'
          · rw [g] at h'; simp [triT] at h'
        · obtain ⟨g1, g2, g3, g4⟩ := scanT_inr (by omega) hs
          simp only [Nat.sub_zero] at g3 g4
          simp only [triT]
          have hil : i < r.length := by
            have := congrArg List.length g4
            simp at this
            omega
          have hlen : (r.take i).length = i := by simp; omega
          refine ⟨by simp [mayV, g3]; omega, ⟨by simp, by simp, by simp; omega⟩, by omega, ?_⟩
          have en : ((i : Int) + 2).toNat = i + 2 := by omega
          rw [en]
          simp only [keyV, hc2]
          rw [if_neg (by decide), ← g4]
          simp
      · rw [if_neg h2] at h'; simp at h'
theorem keyV_pos (x : Vl) : 0 < (keyV x).length := by unfold keyV; split <;> simp
theorem keyV_32 {x : Vl} (h : mayV x = true) : (keyV x).length ≤ 32 := by
  have := may_len h
  unfold keyV; split
  · simp [be8_len]
  · simp; omega
theorem scan_cut : ∀ {s : List UInt8} {i k : Nat}, s.all okB = true → i + s.length ≤ 30 → scanT (s.take k) i = .inl 2
  | [], i, k, _, _ => by simp [scanT]
  | c :: s, i, 0, _, _ => by simp [scanT]
  | c :: s, i, k + 1, h, hl => by
    simp only [List.all_cons, Bool.and_eq_true] at h
    have hc : 32 ≤ c.toNat ∧ c.toNat ≤ 126 := of_decide_eq_true h.1
    simp only [List.length_cons] at hl
    rw [List.take_succ_cons, scanT, if_neg (by omega), if_neg (fun hh => by rcases hh with hh | hh; · omega
                                                                            · rw [h.1] at hh; cases hh)]
    exact scan_cut h.2 (by omega)
/-- A key that is cut off is short. -/
theorem takeV_cut {x : Vl} (hx : mayV x = true) {k : Nat} (hk : k < (keyV x).length) : (takeV ((keyV x).take k)).2.2 = 2 := by
  cases k with
  | zero => simp [takeV]
  | succ k =>
    rcases may_cases hx with ⟨h1, h2⟩ | ⟨h1, h2, h3, h4⟩
    · have e : keyV x = 1 :: be8 (upN x.n) := by rw [keyV, if_pos h1]
      rw [e] at hk ⊢
      rw [List.take_succ_cons, takeV, if_pos (by decide), if_pos (by simp [be8_len] at hk ⊢; omega)]
    · have e : keyV x = 2 :: (x.s ++ [0]) := by rw [keyV, if_neg (by omega)]
      rw [e] at hk ⊢
      rw [List.take_succ_cons, takeV, if_neg (by decide), if_pos (by decide)]
      have hk' : k ≤ x.s.length := by simp at hk; omega
      rw [List.take_append_of_le_length hk', textR, scan_cut h3 (by omega)]
      rfl
theorem many_put : ∀ (l acc : List Vl) (r : List UInt8), (∀ x ∈ l, mayV x = true) → (∀ x ∈ l, OkV x) → manyA acc l.length (l.flatMap keyV ++ r) = (acc ++ l, r, 0)
  | [], acc, r, _, _ => by simp [manyA]
  | x :: l, acc, r, hm, ho => by
    have h := take_key (hm x (by simp)) (ho x (by simp)) (l.flatMap keyV ++ r)
    have e : (x :: l).flatMap keyV ++ r = keyV x ++ (l.flatMap keyV ++ r) := by rw [List.flatMap_cons, List.append_assoc]
    rw [e, List.length_cons, manyA, h]
    simp only [ne_eq, not_true_eq_false, if_false, Int.toNat_natCast, List.drop_left']
    rw [many_put l (acc ++ [x]) r (fun y hy => hm y (by simp [hy])) (fun y hy => ho y (by simp [hy]))]
    simp
theorem many_cut : ∀ (l acc : List Vl) (k : Nat), (∀ x ∈ l, mayV x = true) → (∀ x ∈ l, OkV x) → k < (l.flatMap keyV).length → (manyA acc l.length ((l.flatMap keyV).take k)).2.2 = 2
  | [], acc, k, _, _, hk => by simp at hk
  | x :: l, acc, k, hm, ho, hk => by
    have hx := hm x (by simp)
    rw [List.flatMap_cons, List.length_cons, manyA]
    by_cases hlt : k < (keyV x).length
    · have e : (keyV x ++ l.flatMap keyV).take k = (keyV x).take k := List.take_append_of_le_length (by omega)
      have h2 := takeV_cut hx hlt
      rw [e, if_pos (by rw [h2]; decide), h2]
    · have e : (keyV x ++ l.flatMap keyV).take k = keyV x ++ (l.flatMap keyV).take (k - (keyV x).length) := by
        rw [List.take_append, List.take_of_length_le (by omega)]
      have h := take_key hx (ho x (by simp)) ((l.flatMap keyV).take (k - (keyV x).length))
      rw [e, h]
      simp only [ne_eq, not_true_eq_false, if_false, Int.toNat_natCast]
      rw [List.drop_left]
      refine many_cut l _ _ (fun y hy => hm y (by simp [hy])) (fun y hy => ho y (by simp [hy])) ?_
      rw [List.flatMap_cons, List.length_append] at hk
      omega
theorem many_back : ∀ (n : Nat) (acc : List Vl) (b : List UInt8), (manyA acc n b).2.2 = 0 → ∃ l, (manyA acc n b).1 = acc ++ l ∧ l.length = n ∧ (∀ x ∈ l, mayV x = true) ∧ b = l.flatMap keyV ++ (manyA acc n b).2.1
  | 0, acc, b, _ => ⟨[], by simp [manyA]⟩
  | n + 1, acc, b, h => by
    rw [manyA] at h ⊢
    by_cases he : (takeV b).2.2 ≠ 0
    · rw [if_pos he] at h; exact absurd h he
    · rw [if_neg he] at h ⊢
      have he0 : (takeV b).2.2 = 0 := by simpa using he
      obtain ⟨g1, _, _, g4⟩ := takeV_back he0
      obtain ⟨l, h1, h2, h3, h4⟩ := many_back n _ _ h
      refine ⟨(takeV b).1 :: l, by rw [h1]; simp, by simp [h2], ?_, ?_⟩
      · intro x hx
        rcases List.mem_cons.1 hx with rfl | hx
        · exact g1
        · exact h3 x hx
      · rw [List.flatMap_cons, List.append_assoc, ← h4]; exact g4
theorem putR_eq {l : List Vl} (h : mayR l = true) : putR l = UInt8.ofNat l.length :: l.flatMap keyV := by rw [putR, h]; rfl
theorem ofNat_len {l : List Vl} (h : mayR l = true) : (UInt8.ofNat l.length).toNat = l.length := by
  have := mayR_len h
  rw [UInt8.toNat_ofNat']; omega
/-- What is written is read. -/
theorem take_put {l : List Vl} (h : mayR l = true) (ho : ∀ x ∈ l, OkV x) (r : List UInt8) : takeR (putR l ++ r) = if r.length = 0 then (l, 0) else ([], 3) := by
  have hl := mayR_len h
  have hn := ofNat_len h
  have hm := many_put l [] r (may_of h) ho
  rw [putR_eq h, takeR]
  have e0 : ((UInt8.ofNat l.length :: l.flatMap keyV) ++ r).getD 0 0 = UInt8.ofNat l.length := rfl
  have e1 : ((UInt8.ofNat l.length :: l.flatMap keyV) ++ r).drop 1 = l.flatMap keyV ++ r := rfl
  rw [if_neg (by simp), e0, e1, hn, hm, if_neg (by omega), if_neg (by simp)]
  by_cases hr : r.length = 0
  · rw [if_pos hr, if_neg (by simp only; omega)]; rfl
  · rw [if_neg hr, if_pos (by simp only; omega)]
theorem take_put0 {l : List Vl} (h : mayR l = true) (ho : ∀ x ∈ l, OkV x) : takeR (putR l) = (l, 0) := by
  have := take_put h ho []
  simpa using this
theorem take_more {l : List Vl} (h : mayR l = true) (ho : ∀ x ∈ l, OkV x) (c : UInt8) : (takeR (putR l ++ [c])).2 = 3 := by
  rw [take_put h ho [c]]; rfl
theorem take_cut {l : List Vl} (h : mayR l = true) (ho : ∀ x ∈ l, OkV x) {k : Nat} (hk : k < (putR l).length) : (takeR ((putR l).take k)).2 = 2 := by
  rw [putR_eq h] at hk ⊢
  cases k with
  | zero => rfl
  | succ k =>
    have hl := mayR_len h
    have hn := ofNat_len h
    have hm := many_cut l [] k (may_of h) ho (by simpa using hk)
    rw [List.take_succ_cons, takeR, if_neg (by simp)]
    have e0 : (UInt8.ofNat l.length :: (l.flatMap keyV).take k).getD 0 0 = UInt8.ofNat l.length := rfl
    have e1 : (UInt8.ofNat l.length :: (l.flatMap keyV).take k).drop 1 = (l.flatMap keyV).take k := rfl
    rw [e0, e1, hn, if_neg (by omega), if_pos (by rw [hm]; decide), hm]
/-- What is read is what is written. -/
theorem put_take {b : List UInt8} (h : (takeR b).2 = 0) : putR (takeR b).1 = b := by
  unfold takeR at h ⊢
  by_cases h0 : b.length = 0
  · rw [if_pos h0] at h; simp at h
  · rw [if_neg h0] at h ⊢
    by_cases h1 : (b.getD 0 0).toNat < 1 ∨ 6 < (b.getD 0 0).toNat
    · rw [if_pos h1] at h; simp at h
    · rw [if_neg h1] at h ⊢
      by_cases h2 : (manyA [] (b.getD 0 0).toNat (b.drop 1)).2.2 ≠ 0
      · rw [if_pos h2] at h; exact absurd h h2
      · rw [if_neg h2] at h ⊢
        by_cases h3 : 0 < (manyA [] (b.getD 0 0).toNat (b.drop 1)).2.1.length
        · rw [if_pos h3] at h; simp at h
        · rw [if_neg h3]
          obtain ⟨l, g1, g2, g3, g4⟩ := many_back (b.getD 0 0).toNat [] (b.drop 1) (Decidable.not_not.1 h2)
          have e : (manyA [] (b.getD 0 0).toNat (b.drop 1)).2.1 = [] := List.length_eq_zero_iff.1 (by omega)
          rw [e, List.append_nil] at g4
          rw [List.nil_append] at g1
          show putR (manyA [] (b.getD 0 0).toNat (b.drop 1)).1 = b
          rw [g1]
          have hm : mayR l = true := by
            unfold mayR
            simp only [Bool.and_eq_true, List.all_eq_true, decide_eq_true_eq]
            exact ⟨g3, by omega⟩
          rw [putR_eq hm, ← g4, g2]
          cases b with
          | nil => simp at h0
          | cons c r => simp
theorem putR_200 {l : List Vl} (h : mayR l = true) : (putR l).length < 200 := by
  have h1 := flat_le (key := keyV) (n := 32) (l := l) fun x hx => keyV_32 (may_of h x hx)
  have h2 := mayR_len h
  rw [putR_eq h, List.length_cons]
  omega
theorem putR_inj {a b : List Vl} (ha : mayR a = true) (hb : mayR b = true) (oa : ∀ x ∈ a, OkV x) (ob : ∀ x ∈ b, OkV x) (h : putR a = putR b) : a = b := by
  have h1 := take_put0 ha oa
  have h2 := take_put0 hb ob
  rw [h, h2] at h1
  exact (congrArg Prod.fst h1).symm
theorem mayR_set {a : List Vl} {v : Vl} {k : Nat} (ha : mayR a = true) (hv : mayV v = true) : mayR (a.set k v) = true := by
  have h1 := may_of ha
  have h2 := mayR_len ha
  unfold mayR
  simp only [Bool.and_eq_true, List.all_eq_true, decide_eq_true_eq, List.length_set]
  refine ⟨fun x hx => ?_, h2⟩
  rcases List.mem_or_eq_of_mem_set hx with h | rfl
  · exact h1 x h
  · exact hv
theorem ok_set {a : List Vl} {v : Vl} {k : Nat} (ha : ∀ x ∈ a, OkV x) (hv : OkV v) : ∀ x ∈ a.set k v, OkV x := by
  intro x hx
  rcases List.mem_or_eq_of_mem_set hx with h | rfl
  · exact ha x h
  · exact hv
theorem set_same {a : List Vl} {v : Vl} {k : Nat} (hk : k < a.length) : a = a.set k v ↔ a.getD k V0 = v := by
  constructor
  · intro h
    rw [h, List.getD_eq_getElem?_getD, List.getElem?_set_self hk]; rfl
  · intro h
    rw [List.getD_eq_getElem?_getD, List.getElem?_eq_getElem hk] at h
    have h : a[k] = v := h
    rw [← h, List.set_getElem_self]
theorem putR_pos {l : List Vl} (h : mayR l = true) : 1 ≤ ((putR l).length : Int) := by rw [putR_eq h, List.length_cons]; omega
def placeI (k n : Int) : Int := if n < 1 then 0 else k % n
theorem place_rng (k n : Int) (h : 1 ≤ n) : 0 ≤ placeI k n ∧ placeI k n < n := by
  unfold placeI; rw [if_neg (by omega)]
  exact ⟨Int.emod_nonneg _ (by omega), Int.emod_lt_of_pos _ (by omega)⟩
theorem tmod_rng {k n : Int} (h : 1 ≤ n) : -n < k.tmod n ∧ k.tmod n < n := by
  rcases Int.le_total 0 k with hk | hk
  · have h1 := Int.tmod_nonneg n hk
    have h2 := Int.tmod_lt_of_pos k (show 0 < n by omega)
    omega
  · have h1 := Int.tmod_nonneg n (show 0 ≤ -k by omega)
    have h2 := Int.tmod_lt_of_pos (-k) (show 0 < n by omega)
    rw [Int.neg_tmod] at h1 h2
    omega
theorem wrap_tmod {k n : Int} (hk : -9223372036854775808 ≤ k ∧ k ≤ 9223372036854775807) (hn : n ≤ 9223372036854775807) (h : 1 ≤ n) : IntKind.i64.wrap (k.tmod n) = k.tmod n := by
  have := tmod_rng (k := k) h
  rw [IntKind.wrap_i64]; omega
theorem tmod_pos {k n : Int} (h : 1 ≤ n) (h2 : 0 ≤ k.tmod n) : k.tmod n = k % n := by
  have h3 := tmod_rng (k := k) h
  have e := Int.mul_tdiv_add_tmod k n
  rw [← Int.emod_eq_of_lt h2 h3.2]
  conv => rhs; rw [← e]
  simp
theorem tmod_neg {k n : Int} (h : 1 ≤ n) (h2 : k.tmod n < 0) : k.tmod n + n = k % n := by
  have h3 := tmod_rng (k := k) h
  have e := Int.mul_tdiv_add_tmod k n
  rw [← Int.emod_eq_of_lt (show 0 ≤ k.tmod n + n by omega) (show k.tmod n + n < n by omega)]
  conv => rhs; rw [← e]
  simp
theorem flat_set {a : List Vl} {v : Vl} {k : Nat} (hk : k < a.length) : (a.flatMap cellsV).take (k * 3) ++ cellsV v ++ (a.flatMap cellsV).drop (k * 3 + 3) = (a.set k v).flatMap cellsV := by
  have hl : ∀ (l : List Vl), (l.flatMap cellsV).length = l.length * 3 := fun l => flat_len l fun _ _ => rfl
  have e : a = a.take k ++ a[k] :: a.drop (k + 1) := by rw [List.getElem_cons_drop, List.take_append_drop]
  have h1 : ((a.take k).flatMap cellsV).length = k * 3 := by rw [hl]; simp; omega
  have h2 : (a.flatMap cellsV).take (k * 3) = (a.take k).flatMap cellsV := by
    conv => lhs; rw [e]
    rw [List.flatMap_append, List.take_append_of_le_length (by omega), List.take_of_length_le (by omega)]
  have h3 : (a.flatMap cellsV).drop (k * 3 + 3) = (a.drop (k + 1)).flatMap cellsV := by
    conv => lhs; rw [e]
    rw [List.flatMap_append, List.flatMap_cons, ← List.append_assoc, List.drop_append_of_le_length (by simp [h1, cellsV]), List.drop_of_length_le (by simp [h1, cellsV]), List.nil_append]
  rw [h2, h3, List.set_eq_take_append_cons_drop, if_pos hk, List.flatMap_append, List.flatMap_cons, List.append_assoc]
theorem eqd {p q : Prop} [Decidable p] [Decidable q] (h : p ↔ q) : (decide p == decide q) = true := by
  by_cases hp : p
  · simp [hp, h.1 hp]
  · have hq : ¬q := fun hq => hp (h.2 hq)
    simp [hp, hq]
theorem tmod_nat {m n : Nat} : ((m : Int).tmod (n : Int)) = ((m % n : Nat) : Int) := by
  rw [Int.tmod_eq_emod_of_nonneg (by omega)]; simp
theorem putR_iff {a b : List Vl} (ha : mayR a = true) (hb : mayR b = true) (oa : ∀ x ∈ a, OkV x) (ob : ∀ x ∈ b, OkV x) : putR a = putR b ↔ a = b := ⟨putR_inj ha hb oa ob, congrArg putR⟩
theorem putR_set {a : List Vl} {v : Vl} {k : Nat} (ha : mayR a = true) (hv : mayV v = true) (oa : ∀ x ∈ a, OkV x) (ov : OkV v) (hk : k < a.length) :
    putR a = putR (a.set k v) ↔ (a.getD k V0).k = v.k ∧ (a.getD k V0).n = v.n ∧ (a.getD k V0).s = v.s := by
  rw [putR_iff ha (mayR_set ha hv) oa (ok_set oa ov), set_same hk]
  exact ⟨veq_of, vl_ext⟩
end Go.Proofs.Ytkkongnmcfdioaa
