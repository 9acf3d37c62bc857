/- Plain laws of rows: what is written is read, cut off it is short, with more behind it is none, and what is read is what is written. -/
import Derived.Test.YtpmnljffdofkeaaB5
namespace Go.Proofs.Ytpmnljffdofkeaa
open Go.Gx
theorem be8_of : ∀ {l : List UInt8}, l.length = 8 → be8 (ofBe l) = l := by
  intro l h
  match l, h with
  | [a, b, c, d, e, f, g, i], _ =>
    have ha := a.toNat_lt; have hb := b.toNat_lt; have hc := c.toNat_lt; have hd := d.toNat_lt; have he := e.toNat_lt; have hf := f.toNat_lt; have hg := g.toNat_lt; have hi := i.toNat_lt
    have e1 : be8 (ofBe [a, b, c, d, e, f, g, i]) = (List.range 8).map fun k => UInt8.ofNat (ofBe [a, b, c, d, e, f, g, i] / 2 ^ (56 - 8 * k)) := rfl
    rw [e1]
    have e2 : ofBe [a, b, c, d, e, f, g, i] = ((((((a.toNat * 256 + b.toNat) * 256 + c.toNat) * 256 + d.toNat) * 256 + e.toNat) * 256 + f.toNat) * 256 + g.toNat) * 256 + i.toNat := by simp [ofBe]
    generalize ofBe [a, b, c, d, e, f, g, i] = m at e2
    have key : ∀ (x : UInt8) (k : Nat), k % 256 = x.toNat → UInt8.ofNat k = x := by
      intro x k hk
      apply UInt8.toNat_inj.1
      rw [UInt8.toNat_ofNat']; omega
    have h0 := key a (m / 2 ^ 56) (by have : (2 : Nat) ^ 56 = 72057594037927936 := by decide
                                      omega)
    have h1 := key b (m / 2 ^ 48) (by have : (2 : Nat) ^ 48 = 281474976710656 := by decide
                                      omega)
    have h2 := key c (m / 2 ^ 40) (by have : (2 : Nat) ^ 40 = 1099511627776 := by decide
                                      omega)
    have h3 := key d (m / 2 ^ 32) (by have : (2 : Nat) ^ 32 = 4294967296 := by decide
                                      omega)
    have h4 := key e (m / 2 ^ 24) (by have : (2 : Nat) ^ 24 = 16777216 := by decide
                                      omega)
    have h5 := key f (m / 2 ^ 16) (by have : (2 : Nat) ^ 16 = 65536 := by decide
                                      omega)
    have h6 := key g (m / 2 ^ 8) (by have : (2 : Nat) ^ 8 = 256 := by decide
                                     omega)
    have h7 := key i (m / 2 ^ 0) (by have : (2 : Nat) ^ 0 = 1 := by decide
                                     omega)
    simp only [List.range, List.range.loop, List.map_cons, List.map_nil]
    rw [show 56 - 8 * 0 = 56 from rfl, show 56 - 8 * 1 = 48 from rfl, show 56 - 8 * 2 = 40 from rfl, show 56 - 8 * 3 = 32 from rfl, show 56 - 8 * 4 = 24 from rfl, show 56 - 8 * 5 = 16 from rfl, show 56 - 8 * 6 = 8 from rfl, show 56 - 8 * 7 = 0 from rfl, h0, h1, h2, h3, h4, h5, h6, h7]
theorem scanT_inr : ∀ {b : List UInt8} {i j : Nat}, i ≤ 30 → scanT b i = .inr j → i ≤ j ∧ j ≤ 30 ∧ (b.take (j - i)).all okB = true ∧ b.take (j - i + 1) = b.take (j - i) ++ [0]
  | [], i, j, _, h => by simp [scanT] at h
  | c :: r, i, j, hi, h => by
    unfold scanT at h
    split at h
    · rename_i hc
      have : i = j := by simpa using h
      subst this
      have hc0 : c = 0 := UInt8.toNat_inj.1 (by simpa using hc)
      exact ⟨Nat.le_refl _, hi, by simp, by simp [hc0]⟩
    · split at h
      · cases h
      · rename_i hz hn
        obtain ⟨h1, h2, h3, h4⟩ := scanT_inr (by omega) h
        have e : j - i = (j - (i + 1)) + 1 := by omega
        have ho : okB c = true := by
          rcases hq : okB c with _ | _
          · exact absurd (.inr hq) hn
          · rfl
        refine ⟨by omega, h2, ?_, ?_⟩
        · rw [e, List.take_succ_cons, List.all_cons, ho, h3]; rfl
        · rw [e, List.take_succ_cons, List.take_succ_cons, h4]; rfl
/-- What is read of bytes is a value that may be, and the bytes are its key. -/
theorem takeV_back {b : List UInt8} (h : (takeV b).2.2 = 0) : mayV (takeV b).1 = true ∧ OkV (takeV b).1 ∧ 0 < (takeV b).2.1 ∧ b = keyV (takeV b).1 ++ b.drop (takeV b).2.1.toNat := by
  cases b with
  | nil => simp [takeV] at h
  | cons c r =>
    have h' := h
    unfold takeV at h' ⊢
    simp only at h' ⊢
    by_cases h1 : c.toNat = 1
    · rw [if_pos h1] at h' ⊢
      by_cases h2 : (c :: r).length < 9
      · rw [if_pos h2] at h'; simp at h'
      · rw [if_neg h2]
        have hl : (r.take 8).length = 8 := by simp at h2 ⊢; omega
        have hb := ofBe_8 (l := r.take 8) (by omega)
        have hc1 : c = 1 := UInt8.toNat_inj.1 (by simpa using h1)
        refine ⟨by simp [mayV], ⟨by simp, by simp only; omega, by simp⟩, by simp, ?_⟩
        have e : upN ((ofBe (r.take 8) : Int) - 9223372036854775808) = ofBe (r.take 8) := by unfold upN; omega
        simp only [keyV, if_true, e, be8_of hl, hc1]
        show (1 : UInt8) :: r = 1 :: r.take 8 ++ (1 :: r).drop 9
        simp
    · rw [if_neg h1] at h' ⊢
      by_cases h2 : c.toNat = 2
      · rw [if_pos h2] at h' ⊢
        have hc2 : c = 2 := UInt8.toNat_inj.1 (by simpa using h2)
        unfold textR at h' ⊢
        rcases hs : scanT r 0 with e | i
        · rcases scanT_val r 0 with ⟨j, g1, _, _⟩ | g | g
          · rw [g1] at hs; cases hs
          · rw [g] at h'; simp [triT] at h'
          · rw [g] at h'; simp [triT] at h'
        · obtain ⟨g1, g2, g3, g4⟩ := scanT_inr (by omega) hs
          simp only [Nat.sub_zero] at g3 g4
          simp only [triT]
          have hil : i < r.length := by
            have := congrArg List.length g4
            simp at this
            omega
          have hlen : (r.take i).length = i := by simp; omega
          refine ⟨by simp [mayV, g3]; omega, ⟨by simp, by simp, by simp; omega⟩, by omega, ?_⟩
          have en : ((i : Int) + 2).toNat = i + 2 := by omega
          rw [en]
          simp only [keyV, hc2]
          rw [if_neg (by decide), ← g4]
          simp
      · rw [if_neg h2] at h'; simp at h'
theorem keyV_pos (x : Vl) : 0 < (keyV x).length := by unfold keyV; split <;> simp
theorem keyV_32 {x : Vl} (h : mayV x = true) : (keyV x).length ≤ 32 := by
  have := may_len h
  unfold keyV; split
  · simp [be8_len]
  · simp; omega
theorem scan_cut : ∀ {s : List UInt8} {i k : Nat}, s.all okB = true → i + s.length ≤ 30 → scanT (s.take k) i = .inl 2
  | [], i, k, _, _ => by simp [scanT]
  | c :: s, i, 0, _, _ => by simp [scanT]
  | c :: s, i, k + 1, h, hl => by
    simp only [List.all_cons, Bool.and_eq_true] at h
    have hc : 32 ≤ c.toNat ∧ c.toNat ≤ 126 := of_decide_eq_true h.1
    simp only [List.length_cons] at hl
    rw [List.take_succ_cons, scanT, if_neg (by omega), if_neg (fun hh => by rcases hh with hh | hh; · omega
                                                                            · rw [h.1] at hh; cases hh)]
    exact scan_cut h.2 (by omega)
/-- A key that is cut off is short. -/
theorem takeV_cut {x : Vl} (hx : mayV x = true) {k : Nat} (hk : k < (keyV x).length) : (takeV ((keyV x).take k)).2.2 = 2 := by
  cases k with
  | zero => simp [takeV]
  | succ k =>
    rcases may_cases hx with ⟨h1, h2⟩ | ⟨h1, h2, h3, h4⟩
    · have e : keyV x = 1 :: be8 (upN x.n) := by rw [keyV, if_pos h1]
      rw [e] at hk ⊢
      rw [List.take_succ_cons, takeV, if_pos (by decide), if_pos (by simp [be8_len] at hk ⊢; omega)]
    · have e : keyV x = 2 :: (x.s ++ [0]) := by rw [keyV, if_neg (by omega)]
      rw [e] at hk ⊢
      rw [List.take_succ_cons, takeV, if_neg (by decide), if_pos (by decide)]
      have hk' : k ≤ x.s.length := by simp at hk; omega
      rw [List.take_append_of_le_length hk', textR, scan_cut h3 (by omega)]
      rfl
theorem many_put : ∀ (l acc : List Vl) (r : List UInt8), (∀ x ∈ l, mayV x = true) → (∀ x ∈ l, OkV x) → manyA acc l.length (l.flatMap keyV ++ r) = (acc ++ l, r, 0)
  | [], acc, r, _, _ => by simp [manyA]
  | x :: l, acc, r, hm, ho => by
    have h := take_key (hm x (by simp)) (ho x (by simp)) (l.flatMap keyV ++ r)
    have e : (x :: l).flatMap keyV ++ r = keyV x ++ (l.flatMap keyV ++ r) := by rw [List.flatMap_cons, List.append_assoc]
    rw [e, List.length_cons, manyA, h]
    simp only [ne_eq, not_true_eq_false, if_false, Int.toNat_natCast, List.drop_left']
    rw [many_put l (acc ++ [x]) r (fun y hy => hm y (by simp [hy])) (fun y hy => ho y (by simp [hy]))]
    simp
theorem many_cut : ∀ (l acc : List Vl) (k : Nat), (∀ x ∈ l, mayV x = true) → (∀ x ∈ l, OkV x) → k < (l.flatMap keyV).length → (manyA acc l.length ((l.flatMap keyV).take k)).2.2 = 2
  | [], acc, k, _, _, hk => by simp at hk
  | x :: l, acc, k, hm, ho, hk => by
    have hx := hm x (by simp)
    rw [List.flatMap_cons, List.length_cons, manyA]
    by_cases hlt : k < (keyV x).length
    · have e : (keyV x ++ l.flatMap keyV).take k = (keyV x).take k := List.take_append_of_le_length (by omega)
      have h2 := takeV_cut hx hlt
      rw [e, if_pos (by rw [h2]; decide), h2]
    · have e : (keyV x ++ l.flatMap keyV).take k = keyV x ++ (l.flatMap keyV).take (k - (keyV x).length) := by
        rw [List.take_append, List.take_of_length_le (by omega)]
      have h := take_key hx (ho x (by simp)) ((l.flatMap keyV).take (k - (keyV x).length))
      rw [e, h]
      simp only [ne_eq, not_true_eq_false, if_false, Int.toNat_natCast]
      rw [List.drop_left]
      refine many_cut l _ _ (fun y hy => hm y (by simp [hy])) (fun y hy => ho y (by simp [hy])) ?_
      rw [List.flatMap_cons, List.length_append] at hk
      omega
theorem many_back : ∀ (n : Nat) (acc : List Vl) (b : List UInt8), (manyA acc n b).2.2 = 0 → ∃ l, (manyA acc n b).1 = acc ++ l ∧ l.length = n ∧ (∀ x ∈ l, mayV x = true) ∧ b = l.flatMap keyV ++ (manyA acc n b).2.1
  | 0, acc, b, _ => ⟨[], by simp [manyA]⟩
  | n + 1, acc, b, h => by
    rw [manyA] at h ⊢
    by_cases he : (takeV b).2.2 ≠ 0
    · rw [if_pos he] at h; exact absurd h he
    · rw [if_neg he] at h ⊢
      have he0 : (takeV b).2.2 = 0 := by simpa using he
      obtain ⟨g1, _, _, g4⟩ := takeV_back he0
      obtain ⟨l, h1, h2, h3, h4⟩ := many_back n _ _ h
      refine ⟨(takeV b).1 :: l, by rw [h1]; simp, by simp [h2], ?_, ?_⟩
      · intro x hx
        rcases List.mem_cons.1 hx with rfl | hx
        · exact g1
        · exact h3 x hx
      · rw [List.flatMap_cons, List.append_assoc, ← h4]; exact g4
theorem putR_eq {l : List Vl} (h : mayR l = true) : putR l = UInt8.ofNat l.length :: l.flatMap keyV := by rw [putR, h]; rfl
theorem ofNat_len {l : List Vl} (h : mayR l = true) : (UInt8.ofNat l.length).toNat = l.length := by
  have := mayR_len h
  rw [UInt8.toNat_ofNat']; omega
/-- What is written is read. -/
theorem take_put {l : List Vl} (h : mayR l = true) (ho : ∀ x ∈ l, OkV x) (r : List UInt8) : takeR (putR l ++ r) = if r.length = 0 then (l, 0) else ([], 3) := by
  have hl := mayR_len h
  have hn := ofNat_len h
  have hm := many_put l [] r (may_of h) ho
  rw [putR_eq h, takeR]
  have e0 : ((UInt8.ofNat l.length :: l.flatMap keyV) ++ r).getD 0 0 = UInt8.ofNat l.length := rfl
  have e1 : ((UInt8.ofNat l.length :: l.flatMap keyV) ++ r).drop 1 = l.flatMap keyV ++ r := rfl
  rw [if_neg (by simp), e0, e1, hn, hm, if_neg (by omega), if_neg (by simp)]
  by_cases hr : r.length = 0
  · rw [if_pos hr, if_neg (by simp only; omega)]; rfl
  · rw [if_neg hr, if_pos (by simp only; omega)]
theorem take_put0 {l : List Vl} (h : mayR l = true) (ho : ∀ x ∈ l, OkV x) : takeR (putR l) = (l, 0) := by
  have := take_put h ho []
  simpa using this
theorem take_more {l : List Vl} (h : mayR l = true) (ho : ∀ x ∈ l, OkV x) (c : UInt8) : (takeR (putR l ++ [c])).2 = 3 := by
  rw [take_put h ho [c]]; rfl
theorem take_cut {l : List Vl} (h : mayR l = true) (ho : ∀ x ∈ l, OkV x) {k : Nat} (hk : k < (putR l).length) : (takeR ((putR l).take k)).2 = 2 := by
  rw [putR_eq h] at hk ⊢
  cases k with
  | zero => rfl
  | succ k =>
    have hl := mayR_len h
    have hn := ofNat_len h
    have hm := many_cut l [] k (may_of h) ho (by simpa using hk)
    rw [List.take_succ_cons, takeR, if_neg (by simp)]
    have e0 : (UInt8.ofNat l.length :: (l.flatMap keyV).take k).getD 0 0 = UInt8.ofNat l.length := rfl
    have e1 : (UInt8.ofNat l.length :: (l.flatMap keyV).take k).drop 1 = (l.flatMap keyV).take k := rfl
    rw [e0, e1, hn, if_neg (by omega), if_pos (by rw [hm]; decide), hm]
/-- What is read is what is written. -/
theorem put_take {b : List UInt8} (h : (takeR b).2 = 0) : putR (takeR b).1 = b := by
  unfold takeR at h ⊢
  by_cases h0 : b.length = 0
  · rw [if_pos h0] at h; simp at h
  · rw [if_neg h0] at h ⊢
    by_cases h1 : (b.getD 0 0).toNat < 1 ∨ 6 < (b.getD 0 0).toNat
    · rw [if_pos h1] at h; simp at h
    · rw [if_neg h1] at h ⊢
      by_cases h2 : (manyA [] (b.getD 0 0).toNat (b.drop 1)).2.2 ≠ 0
      · rw [if_pos h2] at h; exact absurd h h2
      · rw [if_neg h2] at h ⊢
        by_cases h3 : 0 < (manyA [] (b.getD 0 0).toNat (b.drop 1)).2.1.length
        · rw [if_pos h3] at h; simp at h
        · rw [if_neg h3]
          obtain ⟨l, g1, g2, g3, g4⟩ := many_back (b.getD 0 0).toNat [] (b.drop 1) (Decidable.not_not.1 h2)
          have e : (manyA [] (b.getD 0 0).toNat (b.drop 1)).2.1 = [] := List.length_eq_zero_iff.1 (by omega)
          rw [e, List.append_nil] at g4
          rw [List.nil_append] at g1
          show putR (manyA [] (b.getD 0 0).toNat (b.drop 1)).1 = b
          rw [g1]
          have hm : mayR l = true := by
            unfold mayR
            simp only [Bool.and_eq_true, List.all_eq_true, decide_eq_true_eq]
            exact ⟨g3, by omega⟩
          rw [putR_eq hm, ← g4, g2]
          cases b with
          | nil => simp at h0
          | cons c r => simp
theorem putR_200 {l : List Vl} (h : mayR l = true) : (putR l).length < 200 := by
  have h1 := flat_le (key := keyV) (n := 32) (l := l) fun x hx => keyV_32 (may_of h x hx)
  have h2 := mayR_len h
  rw [putR_eq h, List.length_cons]
  omega
theorem putR_inj {a b : List Vl} (ha : mayR a = true) (hb : mayR b = true) (oa : ∀ x ∈ a, OkV x) (ob : ∀ x ∈ b, OkV x) (h : putR a = putR b) : a = b := by
  have h1 := take_put0 ha oa
  have h2 := take_put0 hb ob
  rw [h, h2] at h1
  exact (congrArg Prod.fst h1).symm
theorem mayR_set {a : List Vl} {v : Vl} {k : Nat} (ha : mayR a = true) (hv : mayV v = true) : mayR (a.set k v) = true := by
  have h1 := may_of ha
  have h2 := mayR_len ha
  unfold mayR
  simp only [Bool.and_eq_true, List.all_eq_true, decide_eq_true_eq, List.length_set]
  refine ⟨fun x hx => ?_, h2⟩
  rcases List.mem_or_eq_of_mem_set hx with h | rfl
  · exact h1 x h
  · exact hv
theorem ok_set {a : List Vl} {v : Vl} {k : Nat} (ha : ∀ x ∈ a, OkV x) (hv : OkV v) : ∀ x ∈ a.set k v, OkV x := by
  intro x hx
  rcases List.mem_or_eq_of_mem_set hx with h | rfl
  · exact ha x h
  · exact hv
theorem set_same {a : List Vl} {v : Vl} {k : Nat} (hk : k < a.length) : a = a.set k v ↔ a.getD k V0 = v := by
  constructor
  · intro h
    rw [h, List.getD_eq_getElem?_getD, List.getElem?_set_self hk]; rfl
  · intro h
    rw [List.getD_eq_getElem?_getD, List.getElem?_eq_getElem hk] at h
    have h : a[k] = v := h
    rw [← h, List.set_getElem_self]
theorem putR_pos {l : List Vl} (h : mayR l = true) : 1 ≤ ((putR l).length : Int) := by rw [putR_eq h, List.length_cons]; omega
def placeI (k n : Int) : Int := if n < 1 then 0 else k % n
theorem place_rng (k n : Int) (h : 1 ≤ n) : 0 ≤ placeI k n ∧ placeI k n < n := by
  unfold placeI; rw [if_neg (by omega)]
  exact ⟨Int.emod_nonneg _ (by omega), Int.emod_lt_of_pos _ (by omega)⟩
theorem tmod_rng {k n : Int} (h : 1 ≤ n) : -n < k.tmod n ∧ k.tmod n < n := by
  rcases Int.le_total 0 k with hk | hk
  · have h1 := Int.tmod_nonneg n hk
    have h2 := Int.tmod_lt_of_pos k (show 0 < n by omega)
    omega
  · have h1 := Int.tmod_nonneg n (show 0 ≤ -k by omega)
    have h2 := Int.tmod_lt_of_pos (-k) (show 0 < n by omega)
    rw [Int.neg_tmod] at h1 h2
    omega
theorem wrap_tmod {k n : Int} (hk : -9223372036854775808 ≤ k ∧ k ≤ 9223372036854775807) (hn : n ≤ 9223372036854775807) (h : 1 ≤ n) : IntKind.i64.wrap (k.tmod n) = k.tmod n := by
  have := tmod_rng (k := k) h
  rw [IntKind.wrap_i64]; omega
theorem tmod_pos {k n : Int} (h : 1 ≤ n) (h2 : 0 ≤ k.tmod n) : k.tmod n = k % n := by
  have h3 := tmod_rng (k := k) h
  have e := Int.mul_tdiv_add_tmod k n
  rw [← Int.emod_eq_of_lt h2 h3.2]
  conv => rhs; rw [← e]
  simp
theorem tmod_neg {k n : Int} (h : 1 ≤ n) (h2 : k.tmod n < 0) : k.tmod n + n = k % n := by
  have h3 := tmod_rng (k := k) h
  have e := Int.mul_tdiv_add_tmod k n
  rw [← Int.emod_eq_of_lt (show 0 ≤ k.tmod n + n by omega) (show k.tmod n + n < n by omega)]
  conv => rhs; rw [← e]
  simp
theorem flat_set {a : List Vl} {v : Vl} {k : Nat} (hk : k < a.length) : (a.flatMap cellsV).take (k * 3) ++ cellsV v ++ (a.flatMap cellsV).drop (k * 3 + 3) = (a.set k v).flatMap cellsV := by
  have hl : ∀ (l : List Vl), (l.flatMap cellsV).length = l.length * 3 := fun l => flat_len l fun _ _ => rfl
  have e : a = a.take k ++ a[k] :: a.drop (k + 1) := by rw [List.getElem_cons_drop, List.take_append_drop]
  have h1 : ((a.take k).flatMap cellsV).length = k * 3 := by rw [hl]; simp; omega
  have h2 : (a.flatMap cellsV).take (k * 3) = (a.take k).flatMap cellsV := by
    conv => lhs; rw [e]
    rw [List.flatMap_append, List.take_append_of_le_length (by omega), List.take_of_length_le (by omega)]
  have h3 : (a.flatMap cellsV).drop (k * 3 + 3) = (a.drop (k + 1)).flatMap cellsV := by
    conv => lhs; rw [e]
    rw [List.flatMap_append, List.flatMap_cons, ← List.append_assoc, List.drop_append_of_le_length (by simp [h1, cellsV]), List.drop_of_length_le (by simp [h1, cellsV]), List.nil_append]
  rw [h2, h3, List.set_eq_take_append_cons_drop, if_pos hk, List.flatMap_append, List.flatMap_cons, List.append_assoc]
theorem eqd {p q : Prop} [Decidable p] [Decidable q] (h : p ↔ q) : (decide p == decide q) = true := by
  by_cases hp : p
  · simp [hp, h.1 hp]
  · have hq : ¬q := fun hq => hp (h.2 hq)
    simp [hp, hq]
theorem tmod_nat {m n : Nat} : ((m : Int).tmod (n : Int)) = ((m % n : Nat) : Int) := by
  rw [Int.tmod_eq_emod_of_nonneg (by omega)]; simp
theorem putR_iff {a b : List Vl} (ha : mayR a = true) (hb : mayR b = true) (oa : ∀ x ∈ a, OkV x) (ob : ∀ x ∈ b, OkV x) : putR a = putR b ↔ a = b := ⟨putR_inj ha hb oa ob, congrArg putR⟩
theorem putR_set {a : List Vl} {v : Vl} {k : Nat} (ha : mayR a = true) (hv : mayV v = true) (oa : ∀ x ∈ a, OkV x) (ov : OkV v) (hk : k < a.length) :
    putR a = putR (a.set k v) ↔ (a.getD k V0).k = v.k ∧ (a.getD k V0).n = v.n ∧ (a.getD k V0).s = v.s := by
  rw [putR_iff ha (mayR_set ha hv) oa (ok_set oa ov), set_same hk]
  exact ⟨veq_of, vl_ext⟩
end Go.Proofs.Ytpmnljffdofkeaa

/- Plain laws of labels' bytes and of index keys. -/
namespace Go.Proofs.Ytpmnljffdofkeaa
open Go.Gx
theorem flat_be2_get : ∀ (l : Lb) (r : List UInt8) (i : Nat), i < l.length → (l.flatMap be2 ++ r).getD (2 * i) 0 = UInt8.ofNat ((l.getD i 0).toNat / 256) ∧ (l.flatMap be2 ++ r).getD (2 * i + 1) 0 = UInt8.ofNat (l.getD i 0).toNat
  | [], r, i, h => by simp at h
  | a :: l, r, 0, _ => ⟨rfl, rfl⟩
  | a :: l, r, i + 1, h => by
    have := flat_be2_get l r i (by simpa using h)
    rw [show 2 * (i + 1) = 2 * i + 1 + 1 by omega]
    exact this
theorem of_be2 (t : UInt16) : UInt16.ofNat ((UInt8.ofNat (t.toNat / 256)).toNat * 256 + (UInt8.ofNat t.toNat).toNat) = t := by
  apply UInt16.toNat_inj.1
  have := t.toNat_lt
  rw [UInt16.toNat_ofNat', UInt8.toNat_ofNat', UInt8.toNat_ofNat']; omega
theorem tags_put (l : Lb) (r : List UInt8) : tagsL l.length (putL l ++ r) = l := by
  apply List.ext_getElem
  · rw [tags_len]
  · intro i h1 h2
    obtain ⟨g1, g2⟩ := flat_be2_get l r i h2
    have e1 : (putL l ++ r).getD (1 + 2 * i) 0 = (l.flatMap be2 ++ r).getD (2 * i) 0 := by rw [show 1 + 2 * i = 2 * i + 1 by omega]; rfl
    have e2 : (putL l ++ r).getD (2 + 2 * i) 0 = (l.flatMap be2 ++ r).getD (2 * i + 1) 0 := by rw [show 2 + 2 * i = 2 * i + 1 + 1 by omega]; rfl
    simp only [tagsL, List.getElem_map, List.getElem_range]
    rw [e1, e2, g1, g2, of_be2]
    simp [List.getD_eq_getElem?_getD, h2]
theorem putL_head {l : Lb} (h : l.length ≤ 255) (r : List UInt8) : ((putL l ++ r).getD 0 0).toNat = l.length := by
  show (UInt8.ofNat l.length).toNat = l.length
  rw [UInt8.toNat_ofNat']; omega
theorem takeL_put {l : Lb} (h : mayL l = true) (r : List UInt8) : takeL (putL l ++ r) = (l, (((putL l).length : Nat) : Int), 0) := by
  have h8 := mayL_len h
  have hn := putL_head (l := l) (by omega) r
  have hl : (putL l ++ r).length = 1 + l.length * 2 + r.length := by rw [List.length_append, putL_len]
  rw [takeL, if_neg (by omega), if_neg (by omega), if_neg (by omega), hn, tags_put, if_pos (mayL_rise h), putL_len, Nat.mul_comm]
theorem takeL_cut {l : Lb} (h : mayL l = true) {k : Nat} (hk : k < (putL l).length) : (takeL ((putL l).take k)).2.2 = 2 := by
  have h8 := mayL_len h
  rw [putL_len] at hk
  cases k with
  | zero => rfl
  | succ k =>
    have e0 : (((putL l).take (k + 1)).getD 0 0).toNat = l.length := by
      show (UInt8.ofNat l.length).toNat = l.length
      rw [UInt8.toNat_ofNat']; omega
    have el : ((putL l).take (k + 1)).length = k + 1 := by rw [List.length_take, putL_len]; omega
    rw [takeL, if_neg (by omega), if_neg (by omega), if_pos (by omega)]
theorem keyX_len (x : Vl) (l : Lb) (n : Nat) : (keyX x l n).length = (keyV x).length + (1 + l.length * 2) + 8 := by
  simp only [keyX, List.length_append, be8_len, putL_len]
theorem takeX_put {x : Vl} {l : Lb} {n : Nat} (hx : mayV x = true) (ox : OkV x) (hl : mayL l = true) (r : List UInt8) :
    takeX (keyX x l n ++ r) = if r.length = 0 then (x, l, ofBe (be8 n), 0) else (V0, [], 0, 3) := by
  have e : keyX x l n ++ r = keyV x ++ (putL l ++ (be8 n ++ r)) := by simp only [keyX, List.append_assoc]
  have h1 := take_key hx ox (putL l ++ (be8 n ++ r))
  have h2 := takeL_put hl (be8 n ++ r)
  have d1 : (keyV x ++ (putL l ++ (be8 n ++ r))).drop (keyV x).length = putL l ++ (be8 n ++ r) := List.drop_left
  have d2 : (keyV x ++ (putL l ++ (be8 n ++ r))).drop ((keyV x).length + (putL l).length) = be8 n ++ r := by
    rw [← List.drop_drop, List.drop_left, List.drop_left]
  rw [e, takeX, h1]
  simp only [ne_eq, not_true_eq_false, if_false, Int.toNat_natCast]
  rw [d1, h2]
  simp only [ne_eq, not_true_eq_false, if_false, Int.toNat_natCast]
  rw [d2]
  have hb := be8_len n
  rw [if_neg (by rw [List.length_append]; omega)]
  by_cases hr : r.length = 0
  · have : r = [] := List.length_eq_zero_iff.1 hr
    subst this
    rw [if_neg (by rw [List.length_append]; simp; omega), if_pos hr, List.append_nil]
  · rw [if_pos (by rw [List.length_append]; omega), if_neg hr]
theorem takeX_put0 {x : Vl} {l : Lb} {n : Nat} (hx : mayV x = true) (ox : OkV x) (hl : mayL l = true) (hn : n < 18446744073709551616) : takeX (keyX x l n) = (x, l, n, 0) := by
  have := takeX_put (n := n) hx ox hl []
  rw [List.append_nil, if_pos (show ([] : List UInt8).length = 0 from rfl), ofBe_be8 hn] at this
  exact this
theorem takeX_more {x : Vl} {l : Lb} {n : Nat} (hx : mayV x = true) (ox : OkV x) (hl : mayL l = true) (c : UInt8) : (takeX (keyX x l n ++ [c])).2.2.2 = 3 := by
  rw [takeX_put hx ox hl [c]]; rfl
theorem takeX_cut {x : Vl} {l : Lb} {n : Nat} (hx : mayV x = true) (ox : OkV x) (hl : mayL l = true) {k : Nat} (hk : k < (keyX x l n).length) : (takeX ((keyX x l n).take k)).2.2.2 = 2 := by
  have e : keyX x l n = keyV x ++ (putL l ++ be8 n) := by simp only [keyX, List.append_assoc]
  have hb := be8_len n
  rw [e] at hk ⊢
  simp only [List.length_append] at hk
  by_cases h1 : k < (keyV x).length
  · rw [List.take_append_of_le_length (by omega)]
    have h2 := takeV_cut hx h1
    rw [takeX, if_pos (by rw [h2]; decide), h2]
  · have e1 : (keyV x ++ (putL l ++ be8 n)).take k = keyV x ++ (putL l ++ be8 n).take (k - (keyV x).length) := by
      rw [List.take_append, List.take_of_length_le (by omega)]
    have t1 := take_key hx ox ((putL l ++ be8 n).take (k - (keyV x).length))
    have d1 : (keyV x ++ (putL l ++ be8 n).take (k - (keyV x).length)).drop (keyV x).length = (putL l ++ be8 n).take (k - (keyV x).length) := List.drop_left
    rw [e1, takeX, t1]
    simp only [ne_eq, not_true_eq_false, if_false, Int.toNat_natCast]
    rw [d1]
    by_cases h2 : k - (keyV x).length < (putL l).length
    · rw [List.take_append_of_le_length (by omega)]
      have h3 := takeL_cut hl h2
      rw [if_pos (by rw [h3]; decide), h3]
    · have e2 : (putL l ++ be8 n).take (k - (keyV x).length) = putL l ++ (be8 n).take (k - (keyV x).length - (putL l).length) := by
        rw [List.take_append, List.take_of_length_le (by omega)]
      have t2 := takeL_put hl ((be8 n).take (k - (keyV x).length - (putL l).length))
      rw [e2, t2]
      simp only [ne_eq, not_true_eq_false, if_false, Int.toNat_natCast]
      rw [← List.drop_drop, List.drop_left, List.drop_left, if_pos (by rw [List.length_take]; omega)]
/-! how keys stand -/
theorem cmpT_left : ∀ (a p q : List UInt8), cmpT (a ++ p) (a ++ q) = cmpT p q
  | [], p, q => rfl
  | c :: a, p, q => by rw [List.cons_append, List.cons_append, cmpT_cons, cmpT_left a p q]
theorem cmpT_apart : ∀ {a b : List UInt8} (p q : List UInt8), ¬ a <+: b → ¬ b <+: a → cmpT (a ++ p) (b ++ q) = cmpT a b
  | [], b, p, q, h, _ => absurd (List.nil_prefix) h
  | a :: l, [], p, q, _, h => absurd (List.nil_prefix) h
  | a :: l, b :: m, p, q, h1, h2 => by
    by_cases hab : a = b
    · subst hab
      rw [List.cons_append, List.cons_append, cmpT_cons, cmpT_cons]
      exact cmpT_apart p q (fun h => h1 (by simpa [List.cons_prefix_cons] using h)) (fun h => h2 (by simpa [List.cons_prefix_cons] using h))
    · have : a.toNat ≠ b.toNat := fun h => hab (UInt8.toNat_inj.1 h)
      simp only [List.cons_append, cmpT]
      split
      · rfl
      · split
        · rfl
        · omega
theorem prefix_take {a b : List UInt8} (h : a <+: b) : b.take a.length = a := by
  obtain ⟨t, rfl⟩ := h; simp
theorem keys_begin {x y : Vl} (hx : mayV x = true) (hy : mayV y = true) (ox : OkV x) (oy : OkV y) (h : keyV x <+: keyV y) : x = y := key_prefix hx hy ox oy (prefix_take h)
theorem cmp_keys {x y : Vl} (hx : mayV x = true) (hy : mayV y = true) (ox : OkV x) (oy : OkV y) (p q : List UInt8) : cmpT (keyV x ++ p) (keyV y ++ q) = if cmpV x y = 0 then cmpT p q else cmpV x y := by
  have hw := cmpW_cmpV hx hy
  by_cases h : x = y
  · subst h
    have : cmpV x x = 0 := by rw [← hw]; exact cmpW_zero.2 rfl
    rw [if_pos this, cmpT_left]
  · have hne : cmpV x y ≠ 0 := by rw [← hw]; exact fun hh => h (cmpW_zero.1 hh)
    rw [if_neg hne, cmpT_apart p q (fun hh => h (keys_begin hx hy ox oy hh)) (fun hh => h (keys_begin hy hx oy ox hh).symm), keys_stand hx hy ox oy, hw]
theorem cmp_be2 : ∀ {a b : Lb} (p q : List UInt8), a.length = b.length → cmpT (a.flatMap be2 ++ p) (b.flatMap be2 ++ q) = if cmpG a b = 0 then cmpT p q else cmpG a b
  | [], [], p, q, _ => by simp [cmpG]
  | [], _ :: _, p, q, h => by simp at h
  | _ :: _, [], p, q, h => by simp at h
  | a :: l, b :: m, p, q, h => by
    have ih := cmp_be2 (a := l) (b := m) p q (by simpa using h)
    have ha := a.toNat_lt; have hb := b.toNat_lt
    have e : ∀ (t : UInt16) (l : Lb) (r : List UInt8), (t :: l).flatMap be2 ++ r = UInt8.ofNat (t.toNat / 256) :: UInt8.ofNat t.toNat :: (l.flatMap be2 ++ r) := fun _ _ _ => rfl
    rw [e, e]
    simp only [cmpT, UInt8.toNat_ofNat']
    by_cases h1 : a.toNat < b.toNat
    · have hv : cmpG (a :: l) (b :: m) = -1 := by rw [cmpG, if_pos h1]
      rw [hv, if_neg (show ¬ ((-1 : Int) = 0) by decide)]
      by_cases h2 : a.toNat / 256 % 2 ^ 8 < b.toNat / 256 % 2 ^ 8
      · rw [if_pos h2]
      · rw [if_neg h2, if_neg (by omega), if_pos (by omega)]
    · by_cases h3 : b.toNat < a.toNat
      · have hv : cmpG (a :: l) (b :: m) = 1 := by rw [cmpG, if_neg h1, if_pos h3]
        rw [hv, if_neg (show ¬ ((1 : Int) = 0) by decide)]
        by_cases h2 : b.toNat / 256 % 2 ^ 8 < a.toNat / 256 % 2 ^ 8
        · rw [if_neg (by omega), if_pos h2]
        · rw [if_neg (by omega), if_neg (by omega), if_neg (by omega), if_pos (by omega)]
      · have hv : cmpG (a :: l) (b :: m) = cmpG l m := by rw [cmpG, if_neg h1, if_neg h3]
        rw [hv, if_neg (by omega), if_neg (by omega), if_neg (by omega), if_neg (by omega), ih]
theorem cmp_labels {a b : Lb} (ha : a.length ≤ 255) (hb : b.length ≤ 255) (p q : List UInt8) : cmpT (putL a ++ p) (putL b ++ q) = if cmpL a b = 0 then cmpT p q else cmpL a b := by
  have e : ∀ (l : Lb) (r : List UInt8), putL l ++ r = UInt8.ofNat l.length :: (l.flatMap be2 ++ r) := fun _ _ => rfl
  rw [e, e]
  simp only [cmpT, UInt8.toNat_ofNat']
  by_cases h1 : a.length < b.length
  · have hv : cmpL a b = -1 := by rw [cmpL, if_pos h1]
    rw [hv, if_pos (by omega), if_neg (by decide)]
  · by_cases h2 : b.length < a.length
    · have hv : cmpL a b = 1 := by rw [cmpL, if_neg h1, if_pos h2]
      rw [hv, if_neg (by omega), if_pos (by omega), if_neg (by decide)]
    · have hv : cmpL a b = cmpG a b := by rw [cmpL, if_neg h1, if_neg h2]
      rw [hv, if_neg (by omega), if_neg (by omega), cmp_be2 p q (by omega)]
/-- How index keys stand: by value, then label, then number. -/
def wantX (x y : Vl) (a b : Lb) (i k : Nat) : Int := if cmpV x y ≠ 0 then cmpV x y else if cmpL a b ≠ 0 then cmpL a b else cmpI i k
theorem want1 {x y : Vl} {a b : Lb} {i k : Nat} (h : ¬ cmpV x y = 0) : cmpV x y = wantX x y a b i k := by rw [wantX, if_pos h]
theorem want2 {x y : Vl} {a b : Lb} {i k : Nat} (h : cmpV x y = 0) (h2 : ¬ cmpL a b = 0) : cmpL a b = wantX x y a b i k := by rw [wantX, if_neg (fun hh => hh h), if_pos h2]
theorem want3 {x y : Vl} {a b : Lb} {i k : Nat} (h : cmpV x y = 0) (h2 : cmpL a b = 0) (h3 : (i : Int) = (k : Int)) : cmpL a b = wantX x y a b i k := by
  rw [wantX, if_neg (fun hh => hh h), if_neg (fun hh => hh h2), h2]; unfold cmpI; rw [if_neg (by omega), if_neg (by omega)]
theorem want4 {x y : Vl} {a b : Lb} {i k : Nat} (h : cmpV x y = 0) (h2 : cmpL a b = 0) (h4 : (i : Int) < (k : Int)) : -1 = wantX x y a b i k := by
  rw [wantX, if_neg (fun hh => hh h), if_neg (fun hh => hh h2)]; unfold cmpI; rw [if_pos h4]
theorem want5 {x y : Vl} {a b : Lb} {i k : Nat} (h : cmpV x y = 0) (h2 : cmpL a b = 0) (h3 : (i : Int) ≠ (k : Int)) (h4 : ¬ (i : Int) < (k : Int)) : 1 = wantX x y a b i k := by
  rw [wantX, if_neg (fun hh => hh h), if_neg (fun hh => hh h2)]; unfold cmpI; rw [if_neg h4, if_pos (by omega)]
theorem cmp_index {x y : Vl} {a b : Lb} {i k : Nat} (hx : mayV x = true) (hy : mayV y = true) (ox : OkV x) (oy : OkV y) (ha : mayL a = true) (hb : mayL b = true) (hi : i < 18446744073709551616) (hk : k < 18446744073709551616) :
    cmpT (keyX x a i) (keyX y b k) = wantX x y a b i k := by
  have e : ∀ x l n, keyX x l n = keyV x ++ (putL l ++ be8 n) := fun x l n => by simp only [keyX, List.append_assoc]
  rw [e, e, cmp_keys hx hy ox oy, wantX]
  by_cases h1 : cmpV x y = 0
  · rw [if_pos h1, if_neg (fun h => h h1), cmp_labels (by have := mayL_len ha; omega) (by have := mayL_len hb; omega)]
    by_cases h2 : cmpL a b = 0
    · rw [if_pos h2, if_neg (fun h => h h2), cmpT_be8 hi hk]
    · rw [if_neg h2, if_pos h2]
  · rw [if_neg h1, if_pos h1]
theorem keyX_take (x : Vl) (l : Lb) (n : Nat) : (keyX x l n).take (keyV x).length = keyV x := by
  simp only [keyX, List.append_assoc]; exact List.take_left
theorem prefix_of_take {a b : List UInt8} (h : b.take a.length = a) : a <+: b := by
  have h2 := List.take_prefix a.length b
  rwa [h] at h2
/-- Whether another key begins with a value's bytes. -/
theorem begins_iff {x y : Vl} (hx : mayV x = true) (hy : mayV y = true) (ox : OkV x) (oy : OkV y) (l : Lb) (n : Nat) : (keyX y l n).take (keyV x).length = keyV x ↔ x = y := by
  constructor
  · intro h
    have h1 : keyV x <+: keyX y l n := prefix_of_take h
    have h2 : keyV y <+: keyX y l n := ⟨putL l ++ be8 n, by simp only [keyX, List.append_assoc]⟩
    rcases List.prefix_or_prefix_of_prefix h1 h2 with h | h
    · exact keys_begin hx hy ox oy h
    · exact (keys_begin hy hx oy ox h).symm
  · rintro rfl; exact keyX_take x l n
theorem begT {x y : Vl} (hx : mayV x = true) (hy : mayV y = true) (ox : OkV x) (oy : OkV y) (l : Lb) (n : Nat) : (decide ((keyX y l n).take (keyV x).length = keyV x) == decide (x.k = y.k ∧ x.n = y.n ∧ x.s = y.s)) = true :=
  eqd ((begins_iff hx hy ox oy l n).trans ⟨veq_of, vl_ext⟩)
theorem begF {x y : Vl} {l : Lb} {n : Nat} (h : ¬ ((keyV x).length : Int) ≤ ((keyX y l n).length : Int)) : (false == decide (x.k = y.k ∧ x.n = y.n ∧ x.s = y.s)) = true := by
  have : ¬ (x.k = y.k ∧ x.n = y.n ∧ x.s = y.s) := by
    intro hh
    have := vl_ext hh
    subst this
    have := keyX_len x l n
    omega
  rw [decide_eq_false this]; rfl
end Go.Proofs.Ytpmnljffdofkeaa

/- Walks, written by a program: what each function of the translation hands back. -/
namespace Go.Proofs.Ytpmnljffdofkeaa
open Go.Gx Go.RowKit
attribute [local irreducible] wpList wpStill Code.wp Calls

theorem refMay_ret (l : Lb) (v : Value) (w : World) (hl : l.length ≤ 9223372036854775807) (h : RdC w 0 w.heap.size 1 v l.length (l.map u16v)) : Ret Try.prog 13 #[v] w (fun v' w' => Below w.heap.size w w' ∧ v' = .bool (mayL l)) := by
 have hb := Below.refl w.heap.size w
 refine enter (N := 23) Try.func13 rfl rfl (by simp) fun a0 hN hd hA => ?_
 have s0 : a0.tmps.getD 0 undef = v := hA 0 (by simp)
 clear hA
 refine seq_any fun K1029 hK1029 => ?_
 refine one_reg ?_
 refine op_assign rfl ?_
 refine reg_nil ?_
 refine hK1029 _ _ ?_
 refine seq_any fun K1030 hK1030 => ?_
 refine seq_any fun K1031 hK1031 => ?_
 refine one_reg ?_
 refine op_assign rfl ?_
 refine reg_nil ?_
 refine hK1031 _ _ ?_
 refine wp_block ?_
 refine loop_m (fun mz_ az_ w' => ∃ (i : Nat), mz_ = l.length - i ∧ (az_.tmps.getD 0 undef = v) ∧ (az_.tmps.getD 3 undef = (Value.int .i64 ((i : Nat) : Int))) ∧ (1 ≤ i ∧ (i ≤ l.length ∨ i = 1)) ∧ (Rise (l.take i)) ∧ (Below w.heap.size w w') ∧ (w.heap.size ≤ w'.heap.size) ∧ (RdC w' 0 w.heap.size 1 v l.length (l.map u16v))) _ hN hd ⟨1, rfl, (sl_base hN rfl s0), (sl_hit hN rfl).trans (congrArg (Value.int .i64) (by omega)), ⟨Nat.le_refl _, .inr rfl⟩, rise_one, hb, (Nat.le_refl _), h⟩ ?_
 rintro _ a1032 w1032 hN1032 hd1032 ⟨i, rfl, s1032_0, s1032_3, hi, hr, hb, zl_w1032, h⟩
 have z_w1032 := hb.size
 refine seq_any fun K1033 hK1033 => ?_
 refine seq_any fun K1034 hK1034 => ?_
 refine one_reg ?_
 refine op_move (ev_base hN1032 rfl s1032_3) ?_
 refine op_move (ev_base hN1032 rfl s1032_0) ?_
 refine op_len_rd Try.underlying23 (ev_hit hN1032 rfl) h ?_
 refine op_lss (ev_hit hN1032 rfl) (ev_hit hN1032 rfl) (fun c7 => ?_) (fun c7 => ?_)
 · -- 7T
  refine reg_nil ?_
  refine hK1034 _ _ ?_
  refine wp_cond_true (ev_hit hN1032 rfl) ?_
  refine wp_skip ?_
  refine hK1033 _ _ ?_
  refine seq_any fun K1035 hK1035 => ?_
  refine wp_block ?_
  refine seq_any fun K1036 hK1036 => ?_
  refine reg_still mixed (by kernel_rfl) ?_
  intro w1038 E1037
  have z_w1038 := E1037.size
  have h := h.keep0 E1037
  have hb := below_step0 hb E1037 hb.size
  refine st_step rfl (fun _ h9 => op_move (ev_base hN1032 rfl s1032_0) h9) ?_
  refine st_step rfl (fun _ h9 => op_move (ev_base hN1032 rfl s1032_3) h9) ?_
  refine st_step rfl (fun _ h9 => op_sub (ev_hit hN1032 rfl) rfl (sub64 (by omega)) h9) ?_
  refine st_index_rd slt23 (ev_hit hN1032 rfl) h (ev_hit hN1032 rfl) (by omega) (by omega) ?_
  intro b1039 o1040 h0b1039 h1b1039 hc1041
  refine st_step rfl (fun _ h9 => op_load1 (v := (Value.int .u16 ((l.getD (i - 1) 0).toNat : Int))) one35 (ev_hit hN1032 rfl) (by have := hc1041 0 (Value.int .u16 ((l.getD (i - 1) 0).toNat : Int)) (by decide) (el_u16 (i := (i - 1)) (by omega) (by omega)); simpa using this) h9) ?_
  refine st_step rfl (fun _ h9 => op_move (ev_base hN1032 rfl s1032_0) h9) ?_
  refine st_step rfl (fun _ h9 => op_move (ev_base hN1032 rfl s1032_3) h9) ?_
  refine st_index_rd slt23 (ev_hit hN1032 rfl) h (ev_hit hN1032 rfl) (by omega) (by omega) ?_
  intro b1042 o1043 h0b1042 h1b1042 hc1044
  refine st_step rfl (fun _ h9 => op_load1 (v := (Value.int .u16 ((l.getD i 0).toNat : Int))) one35 (ev_hit hN1032 rfl) (by have := hc1044 0 (Value.int .u16 ((l.getD i 0).toNat : Int)) (by decide) (el_u16 (i := i) (by omega) (by omega)); simpa using this) h9) ?_
  refine st_step rfl (fun _ h9 => op_cmp (b := (decide (((l.getD i 0).toNat : Int) ≤ ((l.getD (i - 1) 0).toNat : Int)))) (ev_hit hN1032 rfl) (ev_hit hN1032 rfl) (b_geq rfl) h9) ?_
  refine st_nil ?_
  refine hK1036 _ _ ?_
  refine wp_cond_split (ev_hit hN1032 rfl) (fun c19 => ?_) (fun c19 => ?_)
  · -- 19T
   have c19 := of_decide_eq_true c19
   refine seq_any fun K1045 hK1045 => ?_
   refine one_reg ?_
   refine op_assign rfl ?_
   refine reg_nil ?_
   refine hK1045 _ _ ?_
   refine wp_ret (blk_ret (then_ret (then_ret (blk_ret (then_ret ( ?_))))))
   refine ret1 rfl hd1032 (ev_hit hN1032 rfl) ⟨_, rfl, ?_⟩
   -- path 7T 19T
   exact ⟨hb, congrArg Value.bool (by rw [mayL, decide_eq_false (rise_bad (i := i) (by omega) (by omega) (by omega)), Bool.false_and])⟩
  · -- 19F
   have c19 := of_decide_eq_false c19
   refine wp_skip ?_
   refine hK1035 _ _ ?_
   refine one_reg ?_
   refine op_move (ev_base hN1032 rfl s1032_3) ?_
   refine op_add (ev_hit hN1032 rfl) rfl (add64 (by omega)) ?_
   refine op_assign (ev_hit hN1032 rfl) ?_
   refine reg_nil ?_
   -- round 7T 19F
   exact loop_next _ hN1032 hd1032 ⟨i + 1, rfl, (sl_base hN1032 rfl s1032_0), (sl_hit hN1032 rfl).trans (congrArg (Value.int .i64) (by omega)), (by omega), (rise_step (by omega) (by omega) hr (by omega)), hb, (by omega), h⟩ (by omega)
 · -- 7F
  refine reg_nil ?_
  refine hK1034 _ _ ?_
  refine wp_cond_false (ev_hit hN1032 rfl) ?_
  refine wp_exit (then_exit (then_exit (blk_hit ?_)))
  refine hK1030 _ _ ?_
  refine seq_any fun K1046 hK1046 => ?_
  refine one_reg ?_
  refine op_move (ev_base hN1032 rfl s1032_0) ?_
  refine op_len_rd Try.underlying23 (ev_hit hN1032 rfl) h ?_
  refine op_leq (ev_hit hN1032 rfl) rfl (fun c22 => ?_) (fun c22 => ?_)
  · -- 22T
   refine op_assign (ev_hit hN1032 rfl) ?_
   refine reg_nil ?_
   refine hK1046 _ _ ?_
   refine wp_ret ?_
   refine ret1 rfl hd1032 (ev_hit hN1032 rfl) ⟨_, rfl, ?_⟩
   -- path 7F 22T
   have hr2 : Rise l := by rwa [List.take_of_length_le (by omega)] at hr
   exact ⟨hb, congrArg Value.bool (by rw [mayL, decide_eq_true hr2, Bool.true_and]; exact (decide_eq_true (by omega)).symm)⟩
  · -- 22F
   refine op_assign (ev_hit hN1032 rfl) ?_
   refine reg_nil ?_
   refine hK1046 _ _ ?_
   refine wp_ret ?_
   refine ret1 rfl hd1032 (ev_hit hN1032 rfl) ⟨_, rfl, ?_⟩
   -- path 7F 22F
   have hr2 : Rise l := by rwa [List.take_of_length_le (by omega)] at hr
   exact ⟨hb, congrArg Value.bool (by rw [mayL, decide_eq_true hr2, Bool.true_and]; exact (decide_eq_false (by omega)).symm)⟩

theorem rises_ret (l : Lb) (v : Value) (w : World) (hl : l.length ≤ 9223372036854775807) (h : RdC w 0 w.heap.size 1 v l.length (l.map u16v)) : Ret Try.prog 47 #[v] w (fun v' w' => Below w.heap.size w w' ∧ v' = .bool (decide (Rise l))) := by
 have hb := Below.refl w.heap.size w
 refine enter (N := 20) Try.func47 rfl rfl (by simp) fun a0 hN hd hA => ?_
 have s0 : a0.tmps.getD 0 undef = v := hA 0 (by simp)
 clear hA
 refine seq_any fun K1047 hK1047 => ?_
 refine one_reg ?_
 refine op_assign rfl ?_
 refine reg_nil ?_
 refine hK1047 _ _ ?_
 refine seq_any fun K1048 hK1048 => ?_
 refine seq_any fun K1049 hK1049 => ?_
 refine one_reg ?_
 refine op_assign rfl ?_
 refine reg_nil ?_
 refine hK1049 _ _ ?_
 refine wp_block ?_
 refine loop_m (fun mz_ az_ w' => ∃ (i : Nat), mz_ = l.length - i ∧ (az_.tmps.getD 0 undef = v) ∧ (az_.tmps.getD 3 undef = (Value.int .i64 ((i : Nat) : Int))) ∧ (1 ≤ i ∧ (i ≤ l.length ∨ i = 1)) ∧ (Rise (l.take i)) ∧ (Below w.heap.size w w') ∧ (w.heap.size ≤ w'.heap.size) ∧ (RdC w' 0 w.heap.size 1 v l.length (l.map u16v))) _ hN hd ⟨1, rfl, (sl_base hN rfl s0), (sl_hit hN rfl).trans (congrArg (Value.int .i64) (by omega)), ⟨Nat.le_refl _, .inr rfl⟩, rise_one, hb, (Nat.le_refl _), h⟩ ?_
 rintro _ a1050 w1050 hN1050 hd1050 ⟨i, rfl, s1050_0, s1050_3, hi, hr, hb, zl_w1050, h⟩
 have z_w1050 := hb.size
 refine seq_any fun K1051 hK1051 => ?_
 refine seq_any fun K1052 hK1052 => ?_
 refine one_reg ?_
 refine op_move (ev_base hN1050 rfl s1050_3) ?_
 refine op_move (ev_base hN1050 rfl s1050_0) ?_
 refine op_len_rd Try.underlying22 (ev_hit hN1050 rfl) h ?_
 refine op_lss (ev_hit hN1050 rfl) (ev_hit hN1050 rfl) (fun c7 => ?_) (fun c7 => ?_)
 · -- 7T
  refine reg_nil ?_
  refine hK1052 _ _ ?_
  refine wp_cond_true (ev_hit hN1050 rfl) ?_
  refine wp_skip ?_
  refine hK1051 _ _ ?_
  refine seq_any fun K1053 hK1053 => ?_
  refine wp_block ?_
  refine seq_any fun K1054 hK1054 => ?_
  refine reg_still mixed (by kernel_rfl) ?_
  intro w1056 E1055
  have z_w1056 := E1055.size
  have h := h.keep0 E1055
  have hb := below_step0 hb E1055 hb.size
  refine st_step rfl (fun _ h9 => op_move (ev_base hN1050 rfl s1050_0) h9) ?_
  refine st_step rfl (fun _ h9 => op_move (ev_base hN1050 rfl s1050_3) h9) ?_
  refine st_step rfl (fun _ h9 => op_sub (ev_hit hN1050 rfl) rfl (sub64 (by omega)) h9) ?_
  refine st_index_rd slt22 (ev_hit hN1050 rfl) h (ev_hit hN1050 rfl) (by omega) (by omega) ?_
  intro b1057 o1058 h0b1057 h1b1057 hc1059
  refine st_step rfl (fun _ h9 => op_load1 (v := (Value.int .u16 ((l.getD (i - 1) 0).toNat : Int))) one35 (ev_hit hN1050 rfl) (by have := hc1059 0 (Value.int .u16 ((l.getD (i - 1) 0).toNat : Int)) (by decide) (el_u16 (i := (i - 1)) (by omega) (by omega)); simpa using this) h9) ?_
  refine st_step rfl (fun _ h9 => op_move (ev_base hN1050 rfl s1050_0) h9) ?_
  refine st_step rfl (fun _ h9 => op_move (ev_base hN1050 rfl s1050_3) h9) ?_
  refine st_index_rd slt22 (ev_hit hN1050 rfl) h (ev_hit hN1050 rfl) (by omega) (by omega) ?_
  intro b1060 o1061 h0b1060 h1b1060 hc1062
  refine st_step rfl (fun _ h9 => op_load1 (v := (Value.int .u16 ((l.getD i 0).toNat : Int))) one35 (ev_hit hN1050 rfl) (by have := hc1062 0 (Value.int .u16 ((l.getD i 0).toNat : Int)) (by decide) (el_u16 (i := i) (by omega) (by omega)); simpa using this) h9) ?_
  refine st_step rfl (fun _ h9 => op_cmp (b := (decide (((l.getD i 0).toNat : Int) ≤ ((l.getD (i - 1) 0).toNat : Int)))) (ev_hit hN1050 rfl) (ev_hit hN1050 rfl) (b_geq rfl) h9) ?_
  refine st_nil ?_
  refine hK1054 _ _ ?_
  refine wp_cond_split (ev_hit hN1050 rfl) (fun c19 => ?_) (fun c19 => ?_)
  · -- 19T
   have c19 := of_decide_eq_true c19
   refine seq_any fun K1063 hK1063 => ?_
   refine one_reg ?_
   refine op_assign rfl ?_
   refine reg_nil ?_
   refine hK1063 _ _ ?_
   refine wp_ret (blk_ret (then_ret (then_ret (blk_ret (then_ret ( ?_))))))
   refine ret1 rfl hd1050 (ev_hit hN1050 rfl) ⟨_, rfl, ?_⟩
   -- path 7T 19T
   exact ⟨hb, congrArg Value.bool (by rw [decide_eq_false (rise_bad (i := i) (by omega) (by omega) (by omega))])⟩
  · -- 19F
   have c19 := of_decide_eq_false c19
   refine wp_skip ?_
   refine hK1053 _ _ ?_
   refine one_reg ?_
   refine op_move (ev_base hN1050 rfl s1050_3) ?_
   refine op_add (ev_hit hN1050 rfl) rfl (add64 (by omega)) ?_
   refine op_assign (ev_hit hN1050 rfl) ?_
   refine reg_nil ?_
   -- round 7T 19F
   exact loop_next _ hN1050 hd1050 ⟨i + 1, rfl, (sl_base hN1050 rfl s1050_0), (sl_hit hN1050 rfl).trans (congrArg (Value.int .i64) (by omega)), (by omega), (rise_step (by omega) (by omega) hr (by omega)), hb, (by omega), h⟩ (by omega)
 · -- 7F
  refine reg_nil ?_
  refine hK1052 _ _ ?_
  refine wp_cond_false (ev_hit hN1050 rfl) ?_
  refine wp_exit (then_exit (then_exit (blk_hit ?_)))
  refine hK1048 _ _ ?_
  refine seq_any fun K1064 hK1064 => ?_
  refine one_reg ?_
  refine op_assign rfl ?_
  refine reg_nil ?_
  refine hK1064 _ _ ?_
  refine wp_ret ?_
  refine ret1 rfl hd1050 (ev_hit hN1050 rfl) ⟨_, rfl, ?_⟩
  -- path 7F
  have hr2 : Rise l := by rwa [List.take_of_length_le (by omega)] at hr
  exact ⟨hb, congrArg Value.bool (by rw [decide_eq_true hr2])⟩

theorem cmpL_ret (l m : Lb) (v u : Value) (w : World) (hl : l.length ≤ 9223372036854775807) (hm : m.length ≤ 9223372036854775807) (h : RdC w 0 w.heap.size 1 v l.length (l.map u16v)) (h2 : RdC w 0 w.heap.size 1 u m.length (m.map u16v)) : Ret Try.prog 32 #[v, u] w (fun v' w' => Below w.heap.size w w' ∧ v' = .int .i64 (cmpL l m)) := by
 have hb := Below.refl w.heap.size w
 refine enter (N := 40) Try.func32 rfl rfl (by simp) fun a0 hN hd hA => ?_
 have s0 : a0.tmps.getD 0 undef = v := hA 0 (by simp)
 have s1 : a0.tmps.getD 1 undef = u := hA 1 (by simp)
 clear hA
 refine seq_any fun K1065 hK1065 => ?_
 refine one_reg ?_
 refine op_assign rfl ?_
 refine reg_nil ?_
 refine hK1065 _ _ ?_
 refine seq_any fun K1066 hK1066 => ?_
 refine seq_any fun K1067 hK1067 => ?_
 refine one_reg ?_
 refine op_move (ev_base hN rfl s0) ?_
 refine op_len_rd Try.underlying23 (ev_hit hN rfl) h ?_
 refine op_move (ev_base hN rfl s1) ?_
 refine op_len_rd Try.underlying23 (ev_hit hN rfl) h2 ?_
 refine op_neq (ev_hit hN rfl) (ev_hit hN rfl) (fun c10 => ?_) (fun c10 => ?_)
 · -- 10T
  refine reg_nil ?_
  refine hK1067 _ _ ?_
  refine wp_cond_true (ev_hit hN rfl) ?_
  refine seq_any fun K1068 hK1068 => ?_
  refine seq_any fun K1069 hK1069 => ?_
  refine one_reg ?_
  refine op_move (ev_base hN rfl s0) ?_
  refine op_len_rd Try.underlying23 (ev_hit hN rfl) h ?_
  refine op_move (ev_base hN rfl s1) ?_
  refine op_len_rd Try.underlying23 (ev_hit hN rfl) h2 ?_
  refine op_lss (ev_hit hN rfl) (ev_hit hN rfl) (fun c15 => ?_) (fun c15 => ?_)
  · -- 15T
   refine reg_nil ?_
   refine hK1069 _ _ ?_
   refine wp_cond_true (ev_hit hN rfl) ?_
   refine seq_any fun K1070 hK1070 => ?_
   refine one_reg ?_
   refine op_assign rfl ?_
   refine reg_nil ?_
   refine hK1070 _ _ ?_
   refine wp_ret (then_ret (then_ret ( ?_)))
   refine ret1 rfl hd (ev_hit hN rfl) ⟨_, rfl, ?_⟩
   -- path 10T 15T
   exact ⟨hb, congrArg (Value.int .i64) (by rw [cmpL, if_pos (by omega)])⟩
  · -- 15F
   refine reg_nil ?_
   refine hK1069 _ _ ?_
   refine wp_cond_false (ev_hit hN rfl) ?_
   refine wp_skip ?_
   refine hK1068 _ _ ?_
   refine seq_any fun K1071 hK1071 => ?_
   refine one_reg ?_
   refine op_assign rfl ?_
   refine reg_nil ?_
   refine hK1071 _ _ ?_
   refine wp_ret (then_ret ( ?_))
   refine ret1 rfl hd (ev_hit hN rfl) ⟨_, rfl, ?_⟩
   -- path 10T 15F
   exact ⟨hb, congrArg (Value.int .i64) (by rw [cmpL, if_neg (by omega), if_pos (by omega)])⟩
 · -- 10F
  refine reg_nil ?_
  refine hK1067 _ _ ?_
  refine wp_cond_false (ev_hit hN rfl) ?_
  refine wp_skip ?_
  refine hK1066 _ _ ?_
  refine seq_any fun K1072 hK1072 => ?_
  refine seq_any fun K1073 hK1073 => ?_
  refine one_reg ?_
  refine op_assign rfl ?_
  refine reg_nil ?_
  refine hK1073 _ _ ?_
  refine wp_block ?_
  refine loop_m (fun mz_ az_ w' => ∃ (i : Nat), mz_ = l.length - i ∧ (az_.tmps.getD 0 undef = v) ∧ (az_.tmps.getD 1 undef = u) ∧ (az_.tmps.getD 5 undef = (Value.int .i64 ((i : Nat) : Int))) ∧ (i ≤ l.length) ∧ (cmpG l m = cmpG (l.drop i) (m.drop i)) ∧ (Below w.heap.size w w') ∧ (w.heap.size ≤ w'.heap.size) ∧ (RdC w' 0 w.heap.size 1 v l.length (l.map u16v)) ∧ (RdC w' 0 w.heap.size 1 u m.length (m.map u16v))) _ hN hd ⟨0, rfl, (sl_base hN rfl s0), (sl_base hN rfl s1), (sl_hit hN rfl), Nat.zero_le _, rfl, hb, (Nat.le_refl _), h, h2⟩ ?_
  rintro _ a1074 w1074 hN1074 hd1074 ⟨i, rfl, s1074_0, s1074_1, s1074_5, hi, he, hb, zl_w1074, h, h2⟩
  have z_w1074 := hb.size
  refine seq_any fun K1075 hK1075 => ?_
  refine seq_any fun K1076 hK1076 => ?_
  refine one_reg ?_
  refine op_move (ev_base hN1074 rfl s1074_5) ?_
  refine op_move (ev_base hN1074 rfl s1074_0) ?_
  refine op_len_rd Try.underlying23 (ev_hit hN1074 rfl) h ?_
  refine op_lss (ev_hit hN1074 rfl) (ev_hit hN1074 rfl) (fun c19 => ?_) (fun c19 => ?_)
  · -- 19T
   refine reg_nil ?_
   refine hK1076 _ _ ?_
   refine wp_cond_true (ev_hit hN1074 rfl) ?_
   refine wp_skip ?_
   refine hK1075 _ _ ?_
   refine seq_any fun K1077 hK1077 => ?_
   refine wp_block ?_
   refine seq_any fun K1078 hK1078 => ?_
   refine seq_any fun K1079 hK1079 => ?_
   refine reg_still mixed (by kernel_rfl) ?_
   intro w1081 E1080
   have z_w1081 := E1080.size
   have h := h.keep0 E1080
   have h2 := h2.keep0 E1080
   have hb := below_step0 hb E1080 hb.size
   refine st_step rfl (fun _ h9 => op_move (ev_base hN1074 rfl s1074_0) h9) ?_
   refine st_step rfl (fun _ h9 => op_move (ev_base hN1074 rfl s1074_5) h9) ?_
   refine st_index_rd slt23 (ev_hit hN1074 rfl) h (ev_hit hN1074 rfl) (by omega) (by omega) ?_
   intro b1082 o1083 h0b1082 h1b1082 hc1084
   refine st_step rfl (fun _ h9 => op_load1 (v := (Value.int .u16 ((l.getD i 0).toNat : Int))) one35 (ev_hit hN1074 rfl) (by have := hc1084 0 (Value.int .u16 ((l.getD i 0).toNat : Int)) (by decide) (el_u16 (i := i) (by omega) (by omega)); simpa using this) h9) ?_
   refine st_step rfl (fun _ h9 => op_move (ev_base hN1074 rfl s1074_1) h9) ?_
   refine st_step rfl (fun _ h9 => op_move (ev_base hN1074 rfl s1074_5) h9) ?_
   refine st_index_rd slt23 (ev_hit hN1074 rfl) h2 (ev_hit hN1074 rfl) (by omega) (by omega) ?_
   intro b1085 o1086 h0b1085 h1b1085 hc1087
   refine st_step rfl (fun _ h9 => op_load1 (v := (Value.int .u16 ((m.getD i 0).toNat : Int))) one35 (ev_hit hN1074 rfl) (by have := hc1087 0 (Value.int .u16 ((m.getD i 0).toNat : Int)) (by decide) (el_u16 (i := i) (by omega) (by omega)); simpa using this) h9) ?_
   refine st_step rfl (fun _ h9 => op_cmp (b := (decide (((l.getD i 0).toNat : Int) < ((m.getD i 0).toNat : Int)))) (ev_hit hN1074 rfl) (ev_hit hN1074 rfl) (b_lss rfl) h9) ?_
   refine st_nil ?_
   refine hK1079 _ _ ?_
   refine wp_cond_split (ev_hit hN1074 rfl) (fun c30 => ?_) (fun c30 => ?_)
   · -- 30T
    have c30 := of_decide_eq_true c30
    refine seq_any fun K1088 hK1088 => ?_
    refine one_reg ?_
    refine op_assign rfl ?_
    refine reg_nil ?_
    refine hK1088 _ _ ?_
    refine wp_ret (then_ret (blk_ret (then_ret (then_ret (blk_ret (then_ret ( ?_)))))))
    refine ret1 rfl hd1074 (ev_hit hN1074 rfl) ⟨_, rfl, ?_⟩
    -- path 10F 19T 30T
    exact ⟨hb, congrArg (Value.int .i64) (by rw [cmpL, if_neg (by omega), if_neg (by omega), he, cmpG_step (by omega) (by omega), if_pos (by omega)])⟩
   · -- 30F
    have c30 := of_decide_eq_false c30
    refine wp_skip ?_
    refine hK1078 _ _ ?_
    refine seq_any fun K1089 hK1089 => ?_
    refine reg_still mixed (by kernel_rfl) ?_
    intro w1091 E1090
    have z_w1091 := E1090.size
    have h := h.keep0 E1090
    have h2 := h2.keep0 E1090
    have hb := below_step0 hb E1090 hb.size
    refine st_step rfl (fun _ h9 => op_move (ev_base hN1074 rfl s1074_0) h9) ?_
    refine st_step rfl (fun _ h9 => op_move (ev_base hN1074 rfl s1074_5) h9) ?_
    refine st_index_rd slt23 (ev_hit hN1074 rfl) h (ev_hit hN1074 rfl) (by omega) (by omega) ?_
    intro b1092 o1093 h0b1092 h1b1092 hc1094
    refine st_step rfl (fun _ h9 => op_load1 (v := (Value.int .u16 ((l.getD i 0).toNat : Int))) one35 (ev_hit hN1074 rfl) (by have := hc1094 0 (Value.int .u16 ((l.getD i 0).toNat : Int)) (by decide) (el_u16 (i := i) (by omega) (by omega)); simpa using this) h9) ?_
    refine st_step rfl (fun _ h9 => op_move (ev_base hN1074 rfl s1074_1) h9) ?_
    refine st_step rfl (fun _ h9 => op_move (ev_base hN1074 rfl s1074_5) h9) ?_
    refine st_index_rd slt23 (ev_hit hN1074 rfl) h2 (ev_hit hN1074 rfl) (by omega) (by omega) ?_
    intro b1095 o1096 h0b1095 h1b1095 hc1097
    refine st_step rfl (fun _ h9 => op_load1 (v := (Value.int .u16 ((m.getD i 0).toNat : Int))) one35 (ev_hit hN1074 rfl) (by have := hc1097 0 (Value.int .u16 ((m.getD i 0).toNat : Int)) (by decide) (el_u16 (i := i) (by omega) (by omega)); simpa using this) h9) ?_
    refine st_step rfl (fun _ h9 => op_cmp (b := (decide (((m.getD i 0).toNat : Int) < ((l.getD i 0).toNat : Int)))) (ev_hit hN1074 rfl) (ev_hit hN1074 rfl) (b_gtr rfl) h9) ?_
    refine st_nil ?_
    refine hK1089 _ _ ?_
    refine wp_cond_split (ev_hit hN1074 rfl) (fun c39 => ?_) (fun c39 => ?_)
    · -- 39T
     have c39 := of_decide_eq_true c39
     refine seq_any fun K1098 hK1098 => ?_
     refine one_reg ?_
     refine op_assign rfl ?_
     refine reg_nil ?_
     refine hK1098 _ _ ?_
     refine wp_ret (blk_ret (then_ret (then_ret (blk_ret (then_ret ( ?_))))))
     refine ret1 rfl hd1074 (ev_hit hN1074 rfl) ⟨_, rfl, ?_⟩
     -- path 10F 19T 30F 39T
     exact ⟨hb, congrArg (Value.int .i64) (by rw [cmpL, if_neg (by omega), if_neg (by omega), he, cmpG_step (by omega) (by omega), if_neg (by omega), if_pos (by omega)])⟩
    · -- 39F
     have c39 := of_decide_eq_false c39
     refine wp_skip ?_
     refine hK1077 _ _ ?_
     refine one_reg ?_
     refine op_move (ev_base hN1074 rfl s1074_5) ?_
     refine op_add (ev_hit hN1074 rfl) rfl (add64 (by omega)) ?_
     refine op_assign (ev_hit hN1074 rfl) ?_
     refine reg_nil ?_
     -- round 10F 19T 30F 39F
     exact loop_next _ hN1074 hd1074 ⟨i + 1, rfl, (sl_base hN1074 rfl s1074_0), (sl_base hN1074 rfl s1074_1), (sl_hit hN1074 rfl).trans (congrArg (Value.int .i64) (by omega)), (by omega), (he.trans ((cmpG_step (by omega) (by omega)).trans (by rw [if_neg (by omega), if_neg (by omega)]))), hb, (by omega), h, h2⟩ (by omega)
  · -- 19F
   refine reg_nil ?_
   refine hK1076 _ _ ?_
   refine wp_cond_false (ev_hit hN1074 rfl) ?_
   refine wp_exit (then_exit (then_exit (blk_hit ?_)))
   refine hK1072 _ _ ?_
   refine seq_any fun K1099 hK1099 => ?_
   refine one_reg ?_
   refine op_assign rfl ?_
   refine reg_nil ?_
   refine hK1099 _ _ ?_
   refine wp_ret ?_
   refine ret1 rfl hd1074 (ev_hit hN1074 rfl) ⟨_, rfl, ?_⟩
   -- path 10F 19F
   exact ⟨hb, congrArg (Value.int .i64) (by rw [cmpL, if_neg (by omega), if_neg (by omega), he, cmpG_end (by omega) (by omega)])⟩

theorem sameL_ret (l m : Lb) (v u : Value) (w : World) (hl : l.length ≤ 9223372036854775807) (hm : m.length ≤ 9223372036854775807) (h : RdC w 0 w.heap.size 1 v l.length (l.map u16v)) (h2 : RdC w 0 w.heap.size 1 u m.length (m.map u16v)) : Ret Try.prog 19 #[v, u] w (fun v' w' => Below w.heap.size w w' ∧ v' = .bool (decide (l = m))) := by
 have hb := Below.refl w.heap.size w
 refine enter (N := 9) Try.func19 rfl rfl (by simp) fun a0 hN hd hA => ?_
 have s0 : a0.tmps.getD 0 undef = v := hA 0 (by simp)
 have s1 : a0.tmps.getD 1 undef = u := hA 1 (by simp)
 clear hA
 refine seq_any fun K1100 hK1100 => ?_
 refine one_reg ?_
 refine op_assign rfl ?_
 refine reg_nil ?_
 refine hK1100 _ _ ?_
 refine seq_any fun K1101 hK1101 => ?_
 refine one_reg ?_
 refine op_move (ev_base hN rfl s0) ?_
 refine op_move (ev_base hN rfl s1) ?_
 refine op_fn (vs := [v, u]) ok32 ⟨(ev_hit hN rfl), ⟨(ev_hit hN rfl), trivial⟩⟩ (cmpL_ret l m _ _ _ (by first | assumption | omega | (simp only [List.length_append, List.length_cons, List.length_nil, List.length_drop, List.length_take]; omega) | (dsimp only; omega) | decide | (simp [keyV, be8_len]; done)) (by first | assumption | omega | (simp only [List.length_append, List.length_cons, List.length_nil, List.length_drop, List.length_take]; omega) | (dsimp only; omega) | decide | (simp [keyV, be8_len]; done)) (show RdC w 0 w.heap.size 1 v l.length (l.map u16v) from by have hh : RdC w 0 w.heap.size 1 _ _ _ := (h.mono (L' := 0) (B' := w.heap.size) (Nat.zero_le _) (by omega)); first | exact hh | exact hh.cast (by first | omega | (simp; try omega)) (by first | rfl | simp [u16v])) (show RdC w 0 w.heap.size 1 u m.length (m.map u16v) from by have hh : RdC w 0 w.heap.size 1 _ _ _ := (h2.mono (L' := 0) (B' := w.heap.size) (Nat.zero_le _) (by omega)); first | exact hh | exact hh.cast (by first | omega | (simp; try omega)) (by first | rfl | simp [u16v]))) ?_
 rintro _ w1102 ⟨E1103, rfl⟩
 have E1103 := grown_of_below E1103
 have z_w1102 := E1103.size
 have h := h.keep0 E1103
 have h2 := h2.keep0 E1103
 have hb := below_step0 hb E1103 hb.size
 refine op_eql (ev_hit hN rfl) rfl (fun c8 => ?_) (fun c8 => ?_)
 · -- 8T
  refine op_assign (ev_hit hN rfl) ?_
  refine reg_nil ?_
  refine hK1101 _ _ ?_
  refine wp_ret ?_
  refine ret1 rfl hd (ev_hit hN rfl) ⟨_, rfl, ?_⟩
  -- path 8T
  exact ⟨hb, congrArg Value.bool (decide_eq_true (cmpL_zero.1 c8)).symm⟩
 · -- 8F
  refine op_assign (ev_hit hN rfl) ?_
  refine reg_nil ?_
  refine hK1101 _ _ ?_
  refine wp_ret ?_
  refine ret1 rfl hd (ev_hit hN rfl) ⟨_, rfl, ?_⟩
  -- path 8F
  exact ⟨hb, congrArg Value.bool (decide_eq_false (fun hh => c8 (cmpL_zero.2 hh))).symm⟩

end Go.Proofs.Ytpmnljffdofkeaa

/- Walks, written by a program: what each function of the translation hands back. -/
namespace Go.Proofs.Ytpmnljffdofkeaa
open Go.Gx Go.RowKit
attribute [local irreducible] wpList wpStill Code.wp Calls

theorem isNaN_int_ret (m : Int) (w : World) : Ret Try.prog 61 #[(Value.int .i64 m)] w (fun v' w' => v' = .bool false ∧ w' = w) := by
 have hb := Below.refl w.heap.size w
 refine enter (N := 6) Try.func61 rfl rfl (by simp) fun a0 hN hd hA => ?_
 have s0 : a0.tmps.getD 0 undef = (Value.int .i64 m) := hA 0 (by simp)
 clear hA
 refine seq_any fun K1291 hK1291 => ?_
 refine one_reg ?_
 refine op_assign rfl ?_
 refine reg_nil ?_
 refine hK1291 _ _ ?_
 refine seq_any fun K1292 hK1292 => ?_
 refine one_reg ?_
 refine op_move (ev_base hN rfl s0) ?_
 refine op_move (ev_base hN rfl s0) ?_
 refine op_neq (ev_hit hN rfl) (ev_hit hN rfl) (fun c5 => ?_) (fun c5 => ?_)
 · -- 5T
  refine op_assign (ev_hit hN rfl) ?_
  refine reg_nil ?_
  refine hK1292 _ _ ?_
  refine wp_ret ?_
  refine ret1 rfl hd (ev_hit hN rfl) ⟨_, rfl, ?_⟩
  -- path 5T
  exact (c5 rfl).elim
 · -- 5F
  refine op_assign (ev_hit hN rfl) ?_
  refine reg_nil ?_
  refine hK1292 _ _ ?_
  refine wp_ret ?_
  refine ret1 rfl hd (ev_hit hN rfl) ⟨_, rfl, ?_⟩
  -- path 5F
  exact ⟨rfl, rfl⟩

theorem cmpCompare_int_ret (m n : Int) (w : World) : Ret Try.prog 54 #[(Value.int .i64 m), (Value.int .i64 n)] w (fun v' w' => v' = .int .i64 (cmpI m n) ∧ w' = w) := by
 have hb := Below.refl w.heap.size w
 refine enter (N := 20) Try.func54 rfl rfl (by simp) fun a0 hN hd hA => ?_
 have s0 : a0.tmps.getD 0 undef = (Value.int .i64 m) := hA 0 (by simp)
 have s1 : a0.tmps.getD 1 undef = (Value.int .i64 n) := hA 1 (by simp)
 clear hA
 refine seq_any fun K1293 hK1293 => ?_
 refine one_reg ?_
 refine op_assign rfl ?_
 refine reg_nil ?_
 refine hK1293 _ _ ?_
 refine seq_any fun K1294 hK1294 => ?_
 refine one_reg ?_
 refine op_move (ev_base hN rfl s0) ?_
 refine op_fn (vs := [(Value.int .i64 m)]) ok61 ⟨(ev_hit hN rfl), trivial⟩ (Ret.flip (isNaN_int_ret m _)) ?_
 rintro _ _ ⟨rfl, rfl⟩
 refine op_assign (ev_hit hN rfl) ?_
 refine reg_nil ?_
 refine hK1294 _ _ ?_
 refine seq_any fun K1295 hK1295 => ?_
 refine one_reg ?_
 refine op_move (ev_base hN rfl s1) ?_
 refine op_fn (vs := [(Value.int .i64 n)]) ok61 ⟨(ev_hit hN rfl), trivial⟩ (Ret.flip (isNaN_int_ret n _)) ?_
 rintro _ _ ⟨rfl, rfl⟩
 refine op_assign (ev_hit hN rfl) ?_
 refine reg_nil ?_
 refine hK1295 _ _ ?_
 refine seq_any fun K1296 hK1296 => ?_
 refine seq_any fun K1297 hK1297 => ?_
 refine one_reg ?_
 refine op_move (ev_hit hN rfl) ?_
 refine reg_nil ?_
 refine hK1297 _ _ ?_
 refine wp_cond_false (ev_hit hN rfl) ?_
 refine wp_skip ?_
 refine hK1296 _ _ ?_
 refine seq_any fun K1298 hK1298 => ?_
 refine seq_any fun K1299 hK1299 => ?_
 refine one_reg ?_
 refine op_move (ev_hit hN rfl) ?_
 refine reg_nil ?_
 refine hK1299 _ _ ?_
 refine wp_cond_false (ev_hit hN rfl) ?_
 refine wp_skip ?_
 refine hK1298 _ _ ?_
 refine seq_any fun K1300 hK1300 => ?_
 refine seq_any fun K1301 hK1301 => ?_
 refine one_reg ?_
 refine op_move (ev_base hN rfl s0) ?_
 refine op_move (ev_base hN rfl s1) ?_
 refine op_lss (ev_hit hN rfl) (ev_hit hN rfl) (fun c16 => ?_) (fun c16 => ?_)
 · -- 16T
  refine reg_nil ?_
  refine hK1301 _ _ ?_
  refine wp_cond_true (ev_hit hN rfl) ?_
  refine seq_any fun K1302 hK1302 => ?_
  refine one_reg ?_
  refine op_assign rfl ?_
  refine reg_nil ?_
  refine hK1302 _ _ ?_
  refine wp_ret (then_ret ( ?_))
  refine ret1 rfl hd (ev_hit hN rfl) ⟨_, rfl, ?_⟩
  -- path 16T
  exact ⟨congrArg (Value.int .i64) (by simp only [cmpI]; (repeat' split) <;> omega), rfl⟩
 · -- 16F
  refine reg_nil ?_
  refine hK1301 _ _ ?_
  refine wp_cond_false (ev_hit hN rfl) ?_
  refine wp_skip ?_
  refine hK1300 _ _ ?_
  refine seq_any fun K1303 hK1303 => ?_
  refine seq_any fun K1304 hK1304 => ?_
  refine one_reg ?_
  refine op_move (ev_base hN rfl s0) ?_
  refine op_move (ev_base hN rfl s1) ?_
  refine op_gtr (ev_hit hN rfl) (ev_hit hN rfl) (fun c19 => ?_) (fun c19 => ?_)
  · -- 19T
   refine reg_nil ?_
   refine hK1304 _ _ ?_
   refine wp_cond_true (ev_hit hN rfl) ?_
   refine seq_any fun K1305 hK1305 => ?_
   refine one_reg ?_
   refine op_assign rfl ?_
   refine reg_nil ?_
   refine hK1305 _ _ ?_
   refine wp_ret (then_ret ( ?_))
   refine ret1 rfl hd (ev_hit hN rfl) ⟨_, rfl, ?_⟩
   -- path 16F 19T
   exact ⟨congrArg (Value.int .i64) (by simp only [cmpI]; (repeat' split) <;> omega), rfl⟩
  · -- 19F
   refine reg_nil ?_
   refine hK1304 _ _ ?_
   refine wp_cond_false (ev_hit hN rfl) ?_
   refine wp_skip ?_
   refine hK1303 _ _ ?_
   refine seq_any fun K1306 hK1306 => ?_
   refine one_reg ?_
   refine op_assign rfl ?_
   refine reg_nil ?_
   refine hK1306 _ _ ?_
   refine wp_ret ?_
   refine ret1 rfl hd (ev_hit hN rfl) ⟨_, rfl, ?_⟩
   -- path 16F 19F
   exact ⟨congrArg (Value.int .i64) (by simp only [cmpI]; (repeat' split) <;> omega), rfl⟩

theorem Or_ret (m n : Int) (v : Value) (w : World) (hv : RdC w 0 w.heap.size 1 v 2 [(Value.int .i64 m), (Value.int .i64 n)]) : Ret Try.prog 53 #[v] w (fun v' w' => Below w.heap.size w w' ∧ v' = .int .i64 (if m = 0 then n else m)) := by
 have hb := Below.refl w.heap.size w
 refine enter (N := 18) Try.func53 rfl rfl (by simp) fun a0 hN hd hA => ?_
 have s0 : a0.tmps.getD 0 undef = v := hA 0 (by simp)
 clear hA
 refine seq_any fun K1307 hK1307 => ?_
 refine one_reg ?_
 refine op_assign rfl ?_
 refine reg_nil ?_
 refine hK1307 _ _ ?_
 refine seq_any fun K1308 hK1308 => ?_
 refine one_reg ?_
 refine op_assign rfl ?_
 refine reg_nil ?_
 refine hK1308 _ _ ?_
 refine seq_any fun K1309 hK1309 => ?_
 refine seq_any fun K1310 hK1310 => ?_
 refine one_reg ?_
 refine op_move (ev_base hN rfl s0) ?_
 refine op_len_rd Try.underlying64 (ev_hit hN rfl) hv ?_
 refine op_move rfl ?_
 refine reg_nil ?_
 refine hK1310 _ _ ?_
 refine wp_block ?_
 refine wp_loop_rounds 3 ?_
 refine rounds_any fun K1311 hK1311 => ?_
 refine seq_any fun K1312 hK1312 => ?_
 refine one_reg ?_
 refine op_bin (v := .bool true) (ev_hit hN rfl) (ev_hit hN rfl) (by rw [binOp_lss]; rfl) ?_
 refine reg_nil ?_
 refine hK1312 _ _ ?_
 refine seq_any fun K1313 hK1313 => ?_
 refine wp_cond_true (ev_hit hN rfl) ?_
 refine wp_skip ?_
 refine hK1313 _ _ ?_
 refine seq_any fun K1314 hK1314 => ?_
 refine wp_block ?_
 refine seq_any fun K1315 hK1315 => ?_
 refine one_reg ?_
 refine op_index_rd slt64 (ev_hit hN rfl) hv (ev_hit hN rfl) (by omega) (by omega) ?_
 intro b1316 o1317 h0b1316 h1b1316 hc1318
 refine op_load1 (v := (Value.int .i64 m)) one3 (ev_hit hN rfl) (by have := hc1318 0 (Value.int .i64 m) (by decide) rfl; simpa using this) ?_
 refine op_assign (ev_hit hN rfl) ?_
 refine reg_nil ?_
 refine hK1315 _ _ ?_
 refine seq_any fun K1319 hK1319 => ?_
 refine one_reg ?_
 refine op_move (ev_hit hN rfl) ?_
 refine op_move (ev_hit hN rfl) ?_
 refine op_neq (ev_hit hN rfl) (ev_hit hN rfl) (fun c14 => ?_) (fun c14 => ?_)
 · -- 14T
  refine reg_nil ?_
  refine hK1319 _ _ ?_
  refine wp_cond_true (ev_hit hN rfl) ?_
  refine seq_any fun K1320 hK1320 => ?_
  refine one_reg ?_
  refine op_move (ev_hit hN rfl) ?_
  refine op_assign (ev_hit hN rfl) ?_
  refine reg_nil ?_
  refine hK1320 _ _ ?_
  refine wp_ret (blk_ret (then_ret (then_ret (blk_ret (then_ret ( ?_))))))
  refine ret1 rfl hd (ev_hit hN rfl) ⟨_, rfl, ?_⟩
  -- path 14T
  exact ⟨hb, congrArg (Value.int .i64) (by split <;> omega)⟩
 · -- 14F
  refine reg_nil ?_
  refine hK1319 _ _ ?_
  refine wp_cond_false (ev_hit hN rfl) ?_
  refine wp_skip ?_
  refine hK1314 _ _ ?_
  refine one_reg ?_
  refine op_add (r := 1) (ev_hit hN rfl) rfl (by decide) ?_
  refine op_move (ev_hit hN rfl) ?_
  refine reg_nil ?_
  refine hK1311 _ _ ?_
  refine rounds_any fun K1321 hK1321 => ?_
  refine seq_any fun K1322 hK1322 => ?_
  refine one_reg ?_
  refine op_bin (v := .bool true) (ev_hit hN rfl) (ev_hit hN rfl) (by rw [binOp_lss]; rfl) ?_
  refine reg_nil ?_
  refine hK1322 _ _ ?_
  refine seq_any fun K1323 hK1323 => ?_
  refine wp_cond_true (ev_hit hN rfl) ?_
  refine wp_skip ?_
  refine hK1323 _ _ ?_
  refine seq_any fun K1324 hK1324 => ?_
  refine wp_block ?_
  refine seq_any fun K1325 hK1325 => ?_
  refine one_reg ?_
  refine op_index_rd slt64 (ev_hit hN rfl) hv (ev_hit hN rfl) (by omega) (by omega) ?_
  intro b1326 o1327 h0b1326 h1b1326 hc1328
  refine op_load1 (v := (Value.int .i64 n)) one3 (ev_hit hN rfl) (by have := hc1328 0 (Value.int .i64 n) (by decide) rfl; simpa using this) ?_
  refine op_assign (ev_hit hN rfl) ?_
  refine reg_nil ?_
  refine hK1325 _ _ ?_
  refine seq_any fun K1329 hK1329 => ?_
  refine one_reg ?_
  refine op_move (ev_hit hN rfl) ?_
  refine op_move (ev_hit hN rfl) ?_
  refine op_neq (ev_hit hN rfl) (ev_hit hN rfl) (fun c14 => ?_) (fun c14 => ?_)
  · -- 14T
   refine reg_nil ?_
   refine hK1329 _ _ ?_
   refine wp_cond_true (ev_hit hN rfl) ?_
   refine seq_any fun K1330 hK1330 => ?_
   refine one_reg ?_
   refine op_move (ev_hit hN rfl) ?_
   refine op_assign (ev_hit hN rfl) ?_
   refine reg_nil ?_
   refine hK1330 _ _ ?_
   refine wp_ret (blk_ret (then_ret (then_ret (blk_ret (then_ret ( ?_))))))
   refine ret1 rfl hd (ev_hit hN rfl) ⟨_, rfl, ?_⟩
   -- path 14F 14T
   exact ⟨hb, congrArg (Value.int .i64) (by split <;> omega)⟩
  · -- 14F
   refine reg_nil ?_
   refine hK1329 _ _ ?_
   refine wp_cond_false (ev_hit hN rfl) ?_
   refine wp_skip ?_
   refine hK1324 _ _ ?_
   refine one_reg ?_
   refine op_add (r := 2) (ev_hit hN rfl) rfl (by decide) ?_
   refine op_move (ev_hit hN rfl) ?_
   refine reg_nil ?_
   refine hK1321 _ _ ?_
   refine rounds_any fun K1331 hK1331 => ?_
   refine seq_any fun K1332 hK1332 => ?_
   refine one_reg ?_
   refine op_bin (v := .bool false) (ev_hit hN rfl) (ev_hit hN rfl) (by rw [binOp_lss]; rfl) ?_
   refine reg_nil ?_
   refine hK1332 _ _ ?_
   refine seq_any fun K1333 hK1333 => ?_
   refine wp_cond_false (ev_hit hN rfl) ?_
   refine wp_exit (then_exit (then_exit (blk_hit ?_)))
   refine hK1309 _ _ ?_
   refine seq_any fun K1334 hK1334 => ?_
   refine one_reg ?_
   refine op_move (ev_hit hN rfl) ?_
   refine op_assign (ev_hit hN rfl) ?_
   refine reg_nil ?_
   refine hK1334 _ _ ?_
   refine wp_ret ?_
   refine ret1 rfl hd (ev_hit hN rfl) ⟨_, rfl, ?_⟩
   -- path 14F 14F
   exact ⟨hb, congrArg (Value.int .i64) (by split <;> omega)⟩

theorem cmp16_ret (x y : UInt16) (w : World) : Ret Try.prog 62 #[(Value.int .u16 (x.toNat : Int)), (Value.int .u16 (y.toNat : Int))] w (fun v' w' => v' = .int .i64 (cmpI (x.toNat : Int) (y.toNat : Int)) ∧ w' = w) := by
 have hb := Below.refl w.heap.size w
 refine enter (N := 20) Try.func62 rfl rfl (by simp) fun a0 hN hd hA => ?_
 have s0 : a0.tmps.getD 0 undef = (Value.int .u16 (x.toNat : Int)) := hA 0 (by simp)
 have s1 : a0.tmps.getD 1 undef = (Value.int .u16 (y.toNat : Int)) := hA 1 (by simp)
 clear hA
 refine seq_any fun K1335 hK1335 => ?_
 refine one_reg ?_
 refine op_assign rfl ?_
 refine reg_nil ?_
 refine hK1335 _ _ ?_
 refine seq_any fun K1336 hK1336 => ?_
 refine one_reg ?_
 refine op_move (ev_base hN rfl s0) ?_
 refine op_fn (vs := [(Value.int .u16 (x.toNat : Int))]) ok65 ⟨(ev_hit hN rfl), trivial⟩ (Ret.flip (isNaN16_ret x _)) ?_
 rintro _ _ ⟨rfl, rfl⟩
 refine op_assign (ev_hit hN rfl) ?_
 refine reg_nil ?_
 refine hK1336 _ _ ?_
 refine seq_any fun K1337 hK1337 => ?_
 refine one_reg ?_
 refine op_move (ev_base hN rfl s1) ?_
 refine op_fn (vs := [(Value.int .u16 (y.toNat : Int))]) ok65 ⟨(ev_hit hN rfl), trivial⟩ (Ret.flip (isNaN16_ret y _)) ?_
 rintro _ _ ⟨rfl, rfl⟩
 refine op_assign (ev_hit hN rfl) ?_
 refine reg_nil ?_
 refine hK1337 _ _ ?_
 refine seq_any fun K1338 hK1338 => ?_
 refine seq_any fun K1339 hK1339 => ?_
 refine one_reg ?_
 refine op_move (ev_hit hN rfl) ?_
 refine reg_nil ?_
 refine hK1339 _ _ ?_
 refine wp_cond_false (ev_hit hN rfl) ?_
 refine wp_skip ?_
 refine hK1338 _ _ ?_
 refine seq_any fun K1340 hK1340 => ?_
 refine seq_any fun K1341 hK1341 => ?_
 refine one_reg ?_
 refine op_move (ev_hit hN rfl) ?_
 refine reg_nil ?_
 refine hK1341 _ _ ?_
 refine wp_cond_false (ev_hit hN rfl) ?_
 refine wp_skip ?_
 refine hK1340 _ _ ?_
 refine seq_any fun K1342 hK1342 => ?_
 refine seq_any fun K1343 hK1343 => ?_
 refine one_reg ?_
 refine op_move (ev_base hN rfl s0) ?_
 refine op_move (ev_base hN rfl s1) ?_
 refine op_lss (ev_hit hN rfl) (ev_hit hN rfl) (fun c16 => ?_) (fun c16 => ?_)
 · -- 16T
  refine reg_nil ?_
  refine hK1343 _ _ ?_
  refine wp_cond_true (ev_hit hN rfl) ?_
  refine seq_any fun K1344 hK1344 => ?_
  refine one_reg ?_
  refine op_assign rfl ?_
  refine reg_nil ?_
  refine hK1344 _ _ ?_
  refine wp_ret (then_ret ( ?_))
  refine ret1 rfl hd (ev_hit hN rfl) ⟨_, rfl, ?_⟩
  -- path 16T
  exact ⟨congrArg (Value.int .i64) (by simp only [cmpI]; (repeat' split) <;> omega), rfl⟩
 · -- 16F
  refine reg_nil ?_
  refine hK1343 _ _ ?_
  refine wp_cond_false (ev_hit hN rfl) ?_
  refine wp_skip ?_
  refine hK1342 _ _ ?_
  refine seq_any fun K1345 hK1345 => ?_
  refine seq_any fun K1346 hK1346 => ?_
  refine one_reg ?_
  refine op_move (ev_base hN rfl s0) ?_
  refine op_move (ev_base hN rfl s1) ?_
  refine op_gtr (ev_hit hN rfl) (ev_hit hN rfl) (fun c19 => ?_) (fun c19 => ?_)
  · -- 19T
   refine reg_nil ?_
   refine hK1346 _ _ ?_
   refine wp_cond_true (ev_hit hN rfl) ?_
   refine seq_any fun K1347 hK1347 => ?_
   refine one_reg ?_
   refine op_assign rfl ?_
   refine reg_nil ?_
   refine hK1347 _ _ ?_
   refine wp_ret (then_ret ( ?_))
   refine ret1 rfl hd (ev_hit hN rfl) ⟨_, rfl, ?_⟩
   -- path 16F 19T
   exact ⟨congrArg (Value.int .i64) (by simp only [cmpI]; (repeat' split) <;> omega), rfl⟩
  · -- 19F
   refine reg_nil ?_
   refine hK1346 _ _ ?_
   refine wp_cond_false (ev_hit hN rfl) ?_
   refine wp_skip ?_
   refine hK1345 _ _ ?_
   refine seq_any fun K1348 hK1348 => ?_
   refine one_reg ?_
   refine op_assign rfl ?_
   refine reg_nil ?_
   refine hK1348 _ _ ?_
   refine wp_ret ?_
   refine ret1 rfl hd (ev_hit hN rfl) ⟨_, rfl, ?_⟩
   -- path 16F 19F
   exact ⟨congrArg (Value.int .i64) (by simp only [cmpI]; (repeat' split) <;> omega), rfl⟩

theorem scmpW_ret (l m : Lb) (v u : Value) (w : World) (hl2 : l.length ≤ 1000000000000) (hm2 : m.length ≤ 1000000000000) (hl : RdC w 0 w.heap.size 1 v l.length (l.map u16v)) (hm : RdC w 0 w.heap.size 1 u m.length (m.map u16v)) : Ret Try.prog 55 #[v, u] w (fun v' w' => Below w.heap.size w w' ∧ v' = .int .i64 (cmpG l m)) := by
 have hb := Below.refl w.heap.size w
 refine enter (N := 36) Try.func55 rfl rfl (by simp) fun a0 hN hd hA => ?_
 have s0 : a0.tmps.getD 0 undef = v := hA 0 (by simp)
 have s1 : a0.tmps.getD 1 undef = u := hA 1 (by simp)
 clear hA
 refine seq_any fun K1349 hK1349 => ?_
 refine one_reg ?_
 refine op_assign rfl ?_
 refine reg_nil ?_
 refine hK1349 _ _ ?_
 refine seq_any fun K1350 hK1350 => ?_
 refine seq_any fun K1351 hK1351 => ?_
 refine one_reg ?_
 refine op_move (ev_base hN rfl s0) ?_
 refine op_len_rd Try.underlying23 (ev_hit hN rfl) hl ?_
 refine op_move rfl ?_
 refine reg_nil ?_
 refine hK1351 _ _ ?_
 refine wp_block ?_
 refine loop_m (fun mz_ az_ w' => ∃ (i : Nat), mz_ = l.length - i ∧ (az_.tmps.getD 0 undef = v) ∧ (az_.tmps.getD 1 undef = u) ∧ (az_.tmps.getD 9 undef = v) ∧ (az_.tmps.getD 10 undef = (Value.int .i64 ((l.length : Nat) : Int))) ∧ (az_.tmps.getD 11 undef = (Value.int .i64 ((i : Nat) : Int))) ∧ (i ≤ l.length) ∧ (cmpG l m = cmpG (l.drop i) (m.drop i)) ∧ (Below w.heap.size w w') ∧ (w.heap.size ≤ w'.heap.size) ∧ (RdC w' 0 w.heap.size 1 v l.length (l.map u16v)) ∧ (RdC w' 0 w.heap.size 1 u m.length (m.map u16v))) _ hN hd ⟨0, rfl, (sl_base hN rfl s0), (sl_base hN rfl s1), (sl_hit hN rfl), (sl_hit hN rfl), (sl_hit hN rfl), Nat.zero_le _, rfl, hb, (Nat.le_refl _), hl, hm⟩ ?_
 rintro _ a1352 w1352 hN1352 hd1352 ⟨i, rfl, s1352_0, s1352_1, s1352_9, s1352_10, s1352_11, hi, he, hb, zl_w1352, hl, hm⟩
 have z_w1352 := hb.size
 refine seq_any fun K1353 hK1353 => ?_
 refine one_reg ?_
 refine op_lss (ev_base hN1352 rfl s1352_11) (ev_base hN1352 rfl s1352_10) (fun c12 => ?_) (fun c12 => ?_)
 · -- 12T
  refine reg_nil ?_
  refine hK1353 _ _ ?_
  refine seq_any fun K1354 hK1354 => ?_
  refine wp_cond_true (ev_hit hN1352 rfl) ?_
  refine wp_skip ?_
  refine hK1354 _ _ ?_
  refine seq_any fun K1355 hK1355 => ?_
  refine wp_block ?_
  refine seq_any fun K1356 hK1356 => ?_
  refine one_reg ?_
  refine op_move (ev_base hN1352 rfl s1352_11) ?_
  refine op_index_rd slt23 (ev_base hN1352 rfl s1352_9) hl (ev_base hN1352 rfl s1352_11) (by omega) (by omega) ?_
  intro b1357 o1358 h0b1357 h1b1357 hc1359
  refine op_load1 (v := (Value.int .u16 ((l.getD i 0).toNat : Int))) one35 (ev_hit hN1352 rfl) (by have := hc1359 0 (Value.int .u16 ((l.getD i 0).toNat : Int)) (by decide) (el_u16 (i := i) (by omega) (by omega)); simpa using this) ?_
  refine op_assign (ev_hit hN1352 rfl) ?_
  refine op_assign (ev_hit hN1352 rfl) ?_
  refine reg_nil ?_
  refine hK1356 _ _ ?_
  refine seq_any fun K1360 hK1360 => ?_
  refine seq_any fun K1361 hK1361 => ?_
  refine one_reg ?_
  refine op_move (ev_hit hN1352 rfl) ?_
  refine op_move (ev_base hN1352 rfl s1352_1) ?_
  refine op_len_rd Try.underlying23 (ev_hit hN1352 rfl) hm ?_
  refine op_geq (ev_hit hN1352 rfl) (ev_hit hN1352 rfl) (fun c19 => ?_) (fun c19 => ?_)
  · -- 19T
   refine reg_nil ?_
   refine hK1361 _ _ ?_
   refine wp_cond_true (ev_hit hN1352 rfl) ?_
   refine seq_any fun K1362 hK1362 => ?_
   refine one_reg ?_
   refine op_assign rfl ?_
   refine reg_nil ?_
   refine hK1362 _ _ ?_
   refine wp_ret (then_ret (blk_ret (then_ret (then_ret (blk_ret (then_ret ( ?_)))))))
   refine ret1 rfl hd1352 (ev_hit hN1352 rfl) ⟨_, rfl, ?_⟩
   -- path 12T 19T
   exact ⟨hb, congrArg (Value.int .i64) (by rw [he, cmpG_gt (by omega) (by omega)])⟩
  · -- 19F
   refine reg_nil ?_
   refine hK1361 _ _ ?_
   refine wp_cond_false (ev_hit hN1352 rfl) ?_
   refine wp_skip ?_
   refine hK1360 _ _ ?_
   refine seq_any fun K1363 hK1363 => ?_
   refine one_reg ?_
   refine op_move (ev_base hN1352 rfl s1352_1) ?_
   refine op_move (ev_hit hN1352 rfl) ?_
   refine op_index_rd slt23 (ev_hit hN1352 rfl) hm (ev_hit hN1352 rfl) (by omega) (by omega) ?_
   intro b1364 o1365 h0b1364 h1b1364 hc1366
   refine op_load1 (v := (Value.int .u16 ((m.getD i 0).toNat : Int))) one35 (ev_hit hN1352 rfl) (by have := hc1366 0 (Value.int .u16 ((m.getD i 0).toNat : Int)) (by decide) (el_u16 (i := i) (by omega) (by omega)); simpa using this) ?_
   refine op_assign (ev_hit hN1352 rfl) ?_
   refine reg_nil ?_
   refine hK1363 _ _ ?_
   refine seq_any fun K1367 hK1367 => ?_
   refine one_reg ?_
   refine op_move (ev_hit hN1352 rfl) ?_
   refine op_move (ev_hit hN1352 rfl) ?_
   refine op_fn (vs := [(Value.int .u16 ((l.getD i 0).toNat : Int)), (Value.int .u16 ((m.getD i 0).toNat : Int))]) ok62 ⟨(ev_hit hN1352 rfl), ⟨(ev_hit hN1352 rfl), trivial⟩⟩ (Ret.flip (cmp16_ret (l.getD i 0) (m.getD i 0) _)) ?_
   rintro _ _ ⟨rfl, rfl⟩
   refine op_assign (ev_hit hN1352 rfl) ?_
   refine reg_nil ?_
   refine hK1367 _ _ ?_
   refine seq_any fun K1368 hK1368 => ?_
   refine one_reg ?_
   refine op_move (ev_hit hN1352 rfl) ?_
   refine op_neq (ev_hit hN1352 rfl) rfl (fun c28 => ?_) (fun c28 => ?_)
   · -- 28T
    refine reg_nil ?_
    refine hK1368 _ _ ?_
    refine wp_cond_true (ev_hit hN1352 rfl) ?_
    refine seq_any fun K1369 hK1369 => ?_
    refine one_reg ?_
    refine op_move (ev_hit hN1352 rfl) ?_
    refine op_assign (ev_hit hN1352 rfl) ?_
    refine reg_nil ?_
    refine hK1369 _ _ ?_
    refine wp_ret (blk_ret (then_ret (then_ret (blk_ret (then_ret ( ?_))))))
    refine ret1 rfl hd1352 (ev_hit hN1352 rfl) ⟨_, rfl, ?_⟩
    -- path 12T 19F 28T
    exact ⟨hb, congrArg (Value.int .i64) (by rw [he, cmpG_step (by omega) (by omega)]; simp only [cmpI] at c28 ⊢; (repeat' split) <;> (first | rfl | omega | (simp_all; done) | (exfalso; simp_all; omega)))⟩
   · -- 28F
    refine reg_nil ?_
    refine hK1368 _ _ ?_
    refine wp_cond_false (ev_hit hN1352 rfl) ?_
    refine wp_skip ?_
    refine hK1355 _ _ ?_
    refine one_reg ?_
    refine op_add (ev_base hN1352 rfl s1352_11) rfl (add64 (by omega)) ?_
    refine op_move (ev_hit hN1352 rfl) ?_
    refine reg_nil ?_
    -- round 12T 19F 28F
    exact loop_next _ hN1352 hd1352 ⟨i + 1, rfl, (sl_base hN1352 rfl s1352_0), (sl_base hN1352 rfl s1352_1), (sl_base hN1352 rfl s1352_9), (sl_base hN1352 rfl s1352_10), (sl_hit hN1352 rfl).trans (congrArg (Value.int .i64) (by omega)), (by omega), (he.trans ((cmpG_step (by omega) (by omega)).trans (by simp only [cmpI] at c28; (repeat' split at c28) <;> (first | omega | (rw [if_neg (by omega), if_neg (by omega)]))))), hb, (by omega), hl, hm⟩ (by omega)
 · -- 12F
  refine reg_nil ?_
  refine hK1353 _ _ ?_
  refine seq_any fun K1370 hK1370 => ?_
  refine wp_cond_false (ev_hit hN1352 rfl) ?_
  refine wp_exit (then_exit (then_exit (blk_hit ?_)))
  refine hK1350 _ _ ?_
  refine seq_any fun K1371 hK1371 => ?_
  refine seq_any fun K1372 hK1372 => ?_
  refine one_reg ?_
  refine op_move (ev_base hN1352 rfl s1352_0) ?_
  refine op_len_rd Try.underlying23 (ev_hit hN1352 rfl) hl ?_
  refine op_move (ev_base hN1352 rfl s1352_1) ?_
  refine op_len_rd Try.underlying23 (ev_hit hN1352 rfl) hm ?_
  refine op_lss (ev_hit hN1352 rfl) (ev_hit hN1352 rfl) (fun c35 => ?_) (fun c35 => ?_)
  · -- 35T
   refine reg_nil ?_
   refine hK1372 _ _ ?_
   refine wp_cond_true (ev_hit hN1352 rfl) ?_
   refine seq_any fun K1373 hK1373 => ?_
   refine one_reg ?_
   refine op_assign rfl ?_
   refine reg_nil ?_
   refine hK1373 _ _ ?_
   refine wp_ret (then_ret ( ?_))
   refine ret1 rfl hd1352 (ev_hit hN1352 rfl) ⟨_, rfl, ?_⟩
   -- path 12F 35T
   exact ⟨hb, congrArg (Value.int .i64) (by rw [he, cmpG_lt (by omega) (by omega)])⟩
  · -- 35F
   refine reg_nil ?_
   refine hK1372 _ _ ?_
   refine wp_cond_false (ev_hit hN1352 rfl) ?_
   refine wp_skip ?_
   refine hK1371 _ _ ?_
   refine seq_any fun K1374 hK1374 => ?_
   refine one_reg ?_
   refine op_assign rfl ?_
   refine reg_nil ?_
   refine hK1374 _ _ ?_
   refine wp_ret ?_
   refine ret1 rfl hd1352 (ev_hit hN1352 rfl) ⟨_, rfl, ?_⟩
   -- path 12F 35F
   exact ⟨hb, congrArg (Value.int .i64) (by rw [he, cmpG_end (by omega) (by omega)])⟩

theorem lcmpW_ret (l m : Lb) (v u : Value) (w : World) (hl2 : l.length ≤ 1000000000000) (hm2 : m.length ≤ 1000000000000) (hl : RdC w 0 w.heap.size 1 v l.length (l.map u16v)) (hm : RdC w 0 w.heap.size 1 u m.length (m.map u16v)) : Ret Try.prog 31 #[v, u] w (fun v' w' => Below w.heap.size w w' ∧ v' = .int .i64 (cmpL l m)) := by
 have hb := Below.refl w.heap.size w
 refine enter (N := 15) Try.func31 rfl rfl (by simp) fun a0 hN hd hA => ?_
 have s0 : a0.tmps.getD 0 undef = v := hA 0 (by simp)
 have s1 : a0.tmps.getD 1 undef = u := hA 1 (by simp)
 clear hA
 refine seq_any fun K1375 hK1375 => ?_
 refine one_reg ?_
 refine op_assign rfl ?_
 refine reg_nil ?_
 refine hK1375 _ _ ?_
 refine seq_any fun K1376 hK1376 => ?_
 refine one_reg ?_
 refine op_move (ev_base hN rfl s0) ?_
 refine op_len_rd Try.underlying23 (ev_hit hN rfl) hl ?_
 refine op_move (ev_base hN rfl s1) ?_
 refine op_len_rd Try.underlying23 (ev_hit hN rfl) hm ?_
 refine op_fn (vs := [(Value.int .i64 ((l.length : Nat) : Int)), (Value.int .i64 ((m.length : Nat) : Int))]) ok54 ⟨(ev_hit hN rfl), ⟨(ev_hit hN rfl), trivial⟩⟩ (Ret.flip (cmpCompare_int_ret ((l.length : Nat) : Int) ((m.length : Nat) : Int) _)) ?_
 rintro _ _ ⟨rfl, rfl⟩
 refine op_move (ev_base hN rfl s0) ?_
 refine op_move (ev_base hN rfl s1) ?_
 refine op_fn (vs := [v, u]) ok55 ⟨(ev_hit hN rfl), ⟨(ev_hit hN rfl), trivial⟩⟩ (scmpW_ret l m _ _ _ (by first | assumption | omega | (simp only [List.length_append, List.length_cons, List.length_nil, List.length_drop, List.length_take]; omega) | (dsimp only; omega) | decide | (simp [keyV, be8_len]; done)) (by first | assumption | omega | (simp only [List.length_append, List.length_cons, List.length_nil, List.length_drop, List.length_take]; omega) | (dsimp only; omega) | decide | (simp [keyV, be8_len]; done)) (show RdC w 0 w.heap.size 1 v l.length (l.map u16v) from by have hh : RdC w 0 w.heap.size 1 _ _ _ := (hl.mono (L' := 0) (B' := w.heap.size) (Nat.zero_le _) (by omega)); first | exact hh | exact hh.cast (by first | omega | (simp; try omega)) (by first | rfl | simp [u16v])) (show RdC w 0 w.heap.size 1 u m.length (m.map u16v) from by have hh : RdC w 0 w.heap.size 1 _ _ _ := (hm.mono (L' := 0) (B' := w.heap.size) (Nat.zero_le _) (by omega)); first | exact hh | exact hh.cast (by first | omega | (simp; try omega)) (by first | rfl | simp [u16v]))) ?_
 rintro _ w1377 ⟨E1378, rfl⟩
 have E1378 := grown_of_below E1378
 have z_w1377 := E1378.size
 have hl := hl.keep0 E1378
 have hm := hm.keep0 E1378
 have hb := below_step0 hb E1378 hb.size
 refine op_bslice (e := 3) (pv := [(0, (Value.int .i64 (cmpI ((l.length : Nat) : Int) ((m.length : Nat) : Int)))), (1, (Value.int .i64 (cmpG l m)))]) (cs := [(Value.int .i64 (cmpI ((l.length : Nat) : Int) ((m.length : Nat) : Int))), (Value.int .i64 (cmpG l m))]) ⟨rfl, (ev_hit hN rfl), ⟨rfl, (ev_hit hN rfl), trivial⟩⟩ (by kernel_rfl) ?_
 intro w1379 b1380 lo_b1380 hi_b1380 hB1382 E1381
 have z_w1379 := E1381.size
 have hl := hl.keep0 E1381
 have hm := hm.keep0 E1381
 have hb := below_step0 hb E1381 hb.size
 refine op_fn (vs := [(Value.slice (some ⟨b1380, 0, none⟩) 2 2)]) ok53 ⟨(ev_hit hN rfl), trivial⟩ (Or_ret (cmpI ((l.length : Nat) : Int) ((m.length : Nat) : Int)) (cmpG l m) _ _ ((RdC.ofBx (sz := 1) (n := 2) hB1382 rfl (by decide)).mono (Nat.zero_le _) (by have := hB1382.lt; omega))) ?_
 rintro _ w1383 ⟨E1384, rfl⟩
 have E1384 := grown_of_below E1384
 have z_w1383 := E1384.size
 have hl := hl.keep0 E1384
 have hm := hm.keep0 E1384
 have hB1382 := hB1382.keep0 E1384
 have hb := below_step0 hb E1384 hb.size
 refine op_assign (ev_hit hN rfl) ?_
 refine reg_nil ?_
 refine hK1376 _ _ ?_
 refine wp_ret ?_
 refine ret1 rfl hd (ev_hit hN rfl) ⟨_, rfl, ?_⟩
 -- path
 exact ⟨hb, congrArg (Value.int .i64) cmpL_or⟩

end Go.Proofs.Ytpmnljffdofkeaa

/- Walks, written by a program: what each function of the translation hands back. -/
namespace Go.Proofs.Ytpmnljffdofkeaa
open Go.Gx Go.RowKit
attribute [local irreducible] wpList wpStill Code.wp Calls

theorem growW_ret (n : Nat) (w : World) (hn : n ≤ 1000000000000) : Ret Try.prog 59 #[(Value.slice none 0 0), (Value.int .i64 ((n : Nat) : Int))] w (fun v' w' => Below w.heap.size w w' ∧ Own w' w.heap.size 35 1 v' 0 []) := by
 have hb := Below.refl w.heap.size w
 refine enter (N := 27) Try.func59 rfl rfl (by simp) fun a0 hN hd hA => ?_
 have s0 : a0.tmps.getD 0 undef = (Value.slice none 0 0) := hA 0 (by simp)
 have s1 : a0.tmps.getD 1 undef = (Value.int .i64 ((n : Nat) : Int)) := hA 1 (by simp)
 clear hA
 refine seq_any fun K1385 hK1385 => ?_
 refine one_reg ?_
 refine op_assign rfl ?_
 refine reg_nil ?_
 refine hK1385 _ _ ?_
 refine seq_any fun K1386 hK1386 => ?_
 refine seq_any fun K1387 hK1387 => ?_
 refine one_reg ?_
 refine op_move (ev_base hN rfl s1) ?_
 refine op_lss (ev_hit hN rfl) rfl (fun c6 => ?_) (fun c6 => ?_)
 · -- 6T
  exfalso; omega
 · -- 6F
  refine reg_nil ?_
  refine hK1387 _ _ ?_
  refine wp_cond_false (ev_hit hN rfl) ?_
  refine wp_skip ?_
  refine hK1386 _ _ ?_
  refine seq_any fun K1388 hK1388 => ?_
  refine seq_any fun K1389 hK1389 => ?_
  refine one_reg ?_
  refine op_move (ev_base hN rfl s1) ?_
  refine op_move (ev_base hN rfl s0) ?_
  refine op_cap (c := 0) Try.underlying23 (.inl ⟨(ev_hit hN rfl), rfl⟩) ?_
  refine op_move (ev_base hN rfl s0) ?_
  refine op_len_rd Try.underlying23 (ev_hit hN rfl) (RdC.nil _ 0 0 1) ?_
  refine op_sub (r := 0) (ev_hit hN rfl) (ev_hit hN rfl) (by decide) ?_
  refine op_sub (r := ((n : Nat) : Int)) (ev_hit hN rfl) (ev_hit hN rfl) (by rw [IntKind.wrap_i64]; omega) ?_
  refine op_assign (ev_hit hN rfl) ?_
  refine reg_nil ?_
  refine hK1389 _ _ ?_
  refine seq_any fun K1390 hK1390 => ?_
  refine one_reg ?_
  refine op_move (ev_hit hN rfl) ?_
  refine op_gtr (ev_hit hN rfl) rfl (fun c16 => ?_) (fun c16 => ?_)
  · -- 16T
   refine reg_nil ?_
   refine hK1390 _ _ ?_
   refine wp_cond_true (ev_hit hN rfl) ?_
   refine one_reg ?_
   refine op_move (ev_base hN rfl s0) ?_
   refine op_move (ev_base hN rfl s0) ?_
   refine op_cap (c := 0) Try.underlying23 (.inl ⟨(ev_hit hN rfl), rfl⟩) ?_
   refine op_slice_nil slt23 (ev_hit hN rfl) (ev_hit hN rfl) ?_
   refine op_move (ev_hit hN rfl) ?_
   refine op_append_zeros_nil (n := n) (base := w.heap.size) slt23 Try.underlying3 (ev_hit hN rfl) (ev_hit hN rfl) (by omega) (by omega) (by omega) hb.size ?_
   intro v1391 w1392 cs1396 hO1394 E1393 hk1395
   have z_w1392 := E1393.size
   have hb := below_step0 hb E1393 hb.size
   refine op_move (ev_base hN rfl s0) ?_
   refine op_len_rd Try.underlying23 (ev_hit hN rfl) (RdC.nil _ 0 0 1) ?_
   refine op_slice_own_hi (m := 0) slt23 (ev_hit hN rfl) hO1394 (ev_hit hN rfl) rfl (by omega) ?_
   intro v1397 hO1398 ho1399
   have hO1398 : Own w1392 w.heap.size 35 1 v1397 0 ([]) := by exact hO1398.cast rfl (by simp)
   refine op_assign (ev_hit hN rfl) ?_
   refine reg_nil ?_
   refine hK1388 _ _ ?_
   refine seq_any fun K1400 hK1400 => ?_
   refine one_reg ?_
   refine op_move (ev_hit hN rfl) ?_
   refine op_assign (ev_hit hN rfl) ?_
   refine reg_nil ?_
   refine hK1400 _ _ ?_
   refine wp_ret ?_
   refine ret1 rfl hd (ev_hit hN rfl) ⟨_, rfl, ?_⟩
   -- path 6F 16T
   exact ⟨hb, hO1398⟩
  · -- 16F
   refine reg_nil ?_
   refine hK1390 _ _ ?_
   refine wp_cond_false (ev_hit hN rfl) ?_
   refine wp_skip ?_
   refine hK1388 _ _ ?_
   refine seq_any fun K1401 hK1401 => ?_
   refine one_reg ?_
   refine op_move (ev_base hN rfl s0) ?_
   refine op_assign (ev_hit hN rfl) ?_
   refine reg_nil ?_
   refine hK1401 _ _ ?_
   refine wp_ret ?_
   refine ret1 rfl hd (ev_hit hN rfl) ⟨_, rfl, ?_⟩
   -- path 6F 16F
   exact ⟨hb, Own.nil _ _ _ _⟩

theorem concatW_ret (l m : Lb) (v u1 u2 : Value) (w : World) (hz : l.length ≤ 1000000000) (hzm : m.length ≤ 1000000000) (hv : RdC w 0 w.heap.size 1 v 2 [u1, u2]) (hl : RdC w 0 w.heap.size 1 u1 l.length (l.map u16v)) (hm : RdC w 0 w.heap.size 1 u2 m.length (m.map u16v)) : Ret Try.prog 48 #[v] w (fun v' w' => Below w.heap.size w w' ∧ Own w' w.heap.size 35 1 v' (l ++ m).length ((l ++ m).map u16v)) := by
 have hb := Below.refl w.heap.size w
 refine enter (N := 36) Try.func48 rfl rfl (by simp) fun a0 hN hd hA => ?_
 have s0 : a0.tmps.getD 0 undef = v := hA 0 (by simp)
 clear hA
 refine seq_any fun K1402 hK1402 => ?_
 refine one_reg ?_
 refine op_assign rfl ?_
 refine reg_nil ?_
 refine hK1402 _ _ ?_
 refine seq_any fun K1403 hK1403 => ?_
 refine one_reg ?_
 refine op_assign rfl ?_
 refine reg_nil ?_
 refine hK1403 _ _ ?_
 refine seq_any fun K1404 hK1404 => ?_
 refine seq_any fun K1405 hK1405 => ?_
 refine one_reg ?_
 refine op_move (ev_base hN rfl s0) ?_
 refine op_len_rd Try.underlying49 (ev_hit hN rfl) hv ?_
 refine op_move rfl ?_
 refine reg_nil ?_
 refine hK1405 _ _ ?_
 refine wp_block ?_
 refine wp_loop_rounds 3 ?_
 refine rounds_any fun K1406 hK1406 => ?_
 refine seq_any fun K1407 hK1407 => ?_
 refine one_reg ?_
 refine op_bin (v := .bool true) (ev_hit hN rfl) (ev_hit hN rfl) (by rw [binOp_lss]; rfl) ?_
 refine reg_nil ?_
 refine hK1407 _ _ ?_
 refine seq_any fun K1408 hK1408 => ?_
 refine wp_cond_true (ev_hit hN rfl) ?_
 refine wp_skip ?_
 refine hK1408 _ _ ?_
 refine seq_any fun K1409 hK1409 => ?_
 refine wp_block ?_
 refine seq_any fun K1410 hK1410 => ?_
 refine one_reg ?_
 refine op_index_rd slt49 (ev_hit hN rfl) hv (ev_hit hN rfl) (by omega) (by omega) ?_
 intro b1411 o1412 h0b1411 h1b1411 hc1413
 refine op_load1 (v := u1) one23 (ev_hit hN rfl) (by have := hc1413 0 u1 (by decide) rfl; simpa using this) ?_
 refine op_assign (ev_hit hN rfl) ?_
 refine reg_nil ?_
 refine hK1410 _ _ ?_
 refine seq_any fun K1414 hK1414 => ?_
 refine one_reg ?_
 refine op_move (ev_hit hN rfl) ?_
 refine op_move (ev_hit hN rfl) ?_
 refine op_len_rd Try.underlying23 (ev_hit hN rfl) hl ?_
 refine op_add (ev_hit hN rfl) (ev_hit hN rfl) (add64 (by omega)) ?_
 refine op_assign (ev_hit hN rfl) ?_
 refine reg_nil ?_
 refine hK1414 _ _ ?_
 refine seq_any fun K1415 hK1415 => ?_
 refine one_reg ?_
 refine op_move (ev_hit hN rfl) ?_
 refine op_lss (ev_hit hN rfl) rfl (fun c20 => ?_) (fun c20 => ?_)
 · -- 20T
  exfalso; omega
 · -- 20F
  refine reg_nil ?_
  refine hK1415 _ _ ?_
  refine wp_cond_false (ev_hit hN rfl) ?_
  refine wp_skip ?_
  refine hK1409 _ _ ?_
  refine one_reg ?_
  refine op_add (r := 1) (ev_hit hN rfl) rfl (by decide) ?_
  refine op_move (ev_hit hN rfl) ?_
  refine reg_nil ?_
  refine hK1406 _ _ ?_
  refine rounds_any fun K1416 hK1416 => ?_
  refine seq_any fun K1417 hK1417 => ?_
  refine one_reg ?_
  refine op_bin (v := .bool true) (ev_hit hN rfl) (ev_hit hN rfl) (by rw [binOp_lss]; rfl) ?_
  refine reg_nil ?_
  refine hK1417 _ _ ?_
  refine seq_any fun K1418 hK1418 => ?_
  refine wp_cond_true (ev_hit hN rfl) ?_
  refine wp_skip ?_
  refine hK1418 _ _ ?_
  refine seq_any fun K1419 hK1419 => ?_
  refine wp_block ?_
  refine seq_any fun K1420 hK1420 => ?_
  refine one_reg ?_
  refine op_index_rd slt49 (ev_hit hN rfl) hv (ev_hit hN rfl) (by omega) (by omega) ?_
  intro b1421 o1422 h0b1421 h1b1421 hc1423
  refine op_load1 (v := u2) one23 (ev_hit hN rfl) (by have := hc1423 0 u2 (by decide) rfl; simpa using this) ?_
  refine op_assign (ev_hit hN rfl) ?_
  refine reg_nil ?_
  refine hK1420 _ _ ?_
  refine seq_any fun K1424 hK1424 => ?_
  refine one_reg ?_
  refine op_move (ev_hit hN rfl) ?_
  refine op_move (ev_hit hN rfl) ?_
  refine op_len_rd Try.underlying23 (ev_hit hN rfl) hm ?_
  refine op_add (ev_hit hN rfl) (ev_hit hN rfl) (add64 (by omega)) ?_
  refine op_assign (ev_hit hN rfl) ?_
  refine reg_nil ?_
  refine hK1424 _ _ ?_
  refine seq_any fun K1425 hK1425 => ?_
  refine one_reg ?_
  refine op_move (ev_hit hN rfl) ?_
  refine op_lss (ev_hit hN rfl) rfl (fun c20 => ?_) (fun c20 => ?_)
  · -- 20T
   exfalso; omega
  · -- 20F
   refine reg_nil ?_
   refine hK1425 _ _ ?_
   refine wp_cond_false (ev_hit hN rfl) ?_
   refine wp_skip ?_
   refine hK1419 _ _ ?_
   refine one_reg ?_
   refine op_add (r := 2) (ev_hit hN rfl) rfl (by decide) ?_
   refine op_move (ev_hit hN rfl) ?_
   refine reg_nil ?_
   refine hK1416 _ _ ?_
   refine rounds_any fun K1426 hK1426 => ?_
   refine seq_any fun K1427 hK1427 => ?_
   refine one_reg ?_
   refine op_bin (v := .bool false) (ev_hit hN rfl) (ev_hit hN rfl) (by rw [binOp_lss]; rfl) ?_
   refine reg_nil ?_
   refine hK1427 _ _ ?_
   refine seq_any fun K1428 hK1428 => ?_
   refine wp_cond_false (ev_hit hN rfl) ?_
   refine wp_exit (then_exit (then_exit (blk_hit ?_)))
   refine hK1404 _ _ ?_
   refine seq_any fun K1429 hK1429 => ?_
   refine one_reg ?_
   refine op_move (ev_hit hN rfl) ?_
   refine op_fn (vs := [(Value.slice none 0 0), (Value.int .i64 ((0 + ((l.length : Nat) : Int)) + ((m.length : Nat) : Int)))]) ok59 ⟨rfl, ⟨(ev_hit hN rfl), trivial⟩⟩ (growW_ret ((0 + (l.length)) + (m.length)) _ (by omega)) ?_
   rintro v1430 w1431 ⟨E1432, hO1430⟩
   have E1432 := grown_of_below E1432
   have z_w1431 := E1432.size
   have hv := hv.keep0 E1432
   have hl := hl.keep0 E1432
   have hm := hm.keep0 E1432
   have hb := below_step0 hb E1432 hb.size
   have hO1430 := hO1430.mono (base' := w.heap.size) (by omega)
   refine op_assign (ev_hit hN rfl) ?_
   refine reg_nil ?_
   refine hK1429 _ _ ?_
   refine seq_any fun K1433 hK1433 => ?_
   refine seq_any fun K1434 hK1434 => ?_
   refine one_reg ?_
   refine op_move (ev_base hN rfl s0) ?_
   refine op_len_rd Try.underlying49 (ev_hit hN rfl) hv ?_
   refine op_move rfl ?_
   refine reg_nil ?_
   refine hK1434 _ _ ?_
   refine wp_block ?_
   refine wp_loop_rounds 3 ?_
   refine rounds_any fun K1435 hK1435 => ?_
   refine seq_any fun K1436 hK1436 => ?_
   refine one_reg ?_
   refine op_bin (v := .bool true) (ev_hit hN rfl) (ev_hit hN rfl) (by rw [binOp_lss]; rfl) ?_
   refine reg_nil ?_
   refine hK1436 _ _ ?_
   refine seq_any fun K1437 hK1437 => ?_
   refine wp_cond_true (ev_hit hN rfl) ?_
   refine wp_skip ?_
   refine hK1437 _ _ ?_
   refine seq_any fun K1438 hK1438 => ?_
   refine wp_block ?_
   refine seq_any fun K1439 hK1439 => ?_
   refine one_reg ?_
   refine op_index_rd slt49 (ev_hit hN rfl) hv (ev_hit hN rfl) (by omega) (by omega) ?_
   intro b1440 o1441 h0b1440 h1b1440 hc1442
   refine op_load1 (v := u1) one23 (ev_hit hN rfl) (by have := hc1442 0 u1 (by decide) rfl; simpa using this) ?_
   refine op_assign (ev_hit hN rfl) ?_
   refine reg_nil ?_
   refine hK1439 _ _ ?_
   refine one_reg ?_
   refine op_move (ev_hit hN rfl) ?_
   refine op_move (ev_hit hN rfl) ?_
   have hP1448 := hO1430
   refine op_append slt23 (ev_hit hN rfl) hP1448 (ev_hit hN rfl) (Src.ofRd Try.underlying23 (by decide) hl (one_u16 _)) (by unfold maxLen; omega) (by omega) hb.size ?_
   intro v1443 w1444 hO1446 E1445 hm1447
   have z_w1444 := E1445.size
   have hv := hv.keepO hP1448 E1445 (by omega)
   have hl := hl.keepO hP1448 E1445 (by omega)
   have hm := hm.keepO hP1448 E1445 (by omega)
   have hb := below_stepO hb hP1448 E1445 hb.size (by omega)
   have hO1446 : Own w1444 w.heap.size 35 1 v1443 (0 + l.length) ((l).map u16v) := by simpa [u8v, u16v, cellsV] using hO1446
   refine op_assign (ev_hit hN rfl) ?_
   refine reg_nil ?_
   refine hK1438 _ _ ?_
   refine one_reg ?_
   refine op_add (r := 1) (ev_hit hN rfl) rfl (by decide) ?_
   refine op_move (ev_hit hN rfl) ?_
   refine reg_nil ?_
   refine hK1435 _ _ ?_
   refine rounds_any fun K1449 hK1449 => ?_
   refine seq_any fun K1450 hK1450 => ?_
   refine one_reg ?_
   refine op_bin (v := .bool true) (ev_hit hN rfl) (ev_hit hN rfl) (by rw [binOp_lss]; rfl) ?_
   refine reg_nil ?_
   refine hK1450 _ _ ?_
   refine seq_any fun K1451 hK1451 => ?_
   refine wp_cond_true (ev_hit hN rfl) ?_
   refine wp_skip ?_
   refine hK1451 _ _ ?_
   refine seq_any fun K1452 hK1452 => ?_
   refine wp_block ?_
   refine seq_any fun K1453 hK1453 => ?_
   refine one_reg ?_
   refine op_index_rd slt49 (ev_hit hN rfl) hv (ev_hit hN rfl) (by omega) (by omega) ?_
   intro b1454 o1455 h0b1454 h1b1454 hc1456
   refine op_load1 (v := u2) one23 (ev_hit hN rfl) (by have := hc1456 0 u2 (by decide) rfl; simpa using this) ?_
   refine op_assign (ev_hit hN rfl) ?_
   refine reg_nil ?_
   refine hK1453 _ _ ?_
   refine one_reg ?_
   refine op_move (ev_hit hN rfl) ?_
   refine op_move (ev_hit hN rfl) ?_
   have hP1462 := hO1446
   refine op_append slt23 (ev_hit hN rfl) hP1462 (ev_hit hN rfl) (Src.ofRd Try.underlying23 (by decide) hm (one_u16 _)) (by unfold maxLen; omega) (by omega) hb.size ?_
   intro v1457 w1458 hO1460 E1459 hm1461
   have z_w1458 := E1459.size
   have hv := hv.keepO hP1462 E1459 (by omega)
   have hl := hl.keepO hP1462 E1459 (by omega)
   have hm := hm.keepO hP1462 E1459 (by omega)
   have hb := below_stepO hb hP1462 E1459 hb.size (by omega)
   have hO1460 : Own w1458 w.heap.size 35 1 v1457 ((0 + l.length) + m.length) (((l ++ m)).map u16v) := by simpa [u8v, u16v, cellsV] using hO1460
   refine op_assign (ev_hit hN rfl) ?_
   refine reg_nil ?_
   refine hK1452 _ _ ?_
   refine one_reg ?_
   refine op_add (r := 2) (ev_hit hN rfl) rfl (by decide) ?_
   refine op_move (ev_hit hN rfl) ?_
   refine reg_nil ?_
   refine hK1449 _ _ ?_
   refine rounds_any fun K1463 hK1463 => ?_
   refine seq_any fun K1464 hK1464 => ?_
   refine one_reg ?_
   refine op_bin (v := .bool false) (ev_hit hN rfl) (ev_hit hN rfl) (by rw [binOp_lss]; rfl) ?_
   refine reg_nil ?_
   refine hK1464 _ _ ?_
   refine seq_any fun K1465 hK1465 => ?_
   refine wp_cond_false (ev_hit hN rfl) ?_
   refine wp_exit (then_exit (then_exit (blk_hit ?_)))
   refine hK1433 _ _ ?_
   refine seq_any fun K1466 hK1466 => ?_
   refine one_reg ?_
   refine op_move (ev_hit hN rfl) ?_
   refine op_assign (ev_hit hN rfl) ?_
   refine reg_nil ?_
   refine hK1466 _ _ ?_
   refine wp_ret ?_
   refine ret1 rfl hd (ev_hit hN rfl) ⟨_, rfl, ?_⟩
   -- path 20F 20F
   exact ⟨hb, hO1460.cast (by simp) (by simp)⟩

theorem joinW_ret (l m : Lb) (v u : Value) (w : World) (hl2 : l.length ≤ 1000000000) (hm2 : m.length ≤ 1000000000) (hl : RdC w 0 w.heap.size 1 v l.length (l.map u16v)) (hm : RdC w 0 w.heap.size 1 u m.length (m.map u16v)) : Ret Try.prog 28 #[v, u] w (fun v' w' => Below w.heap.size w w' ∧ Own w' w.heap.size 35 1 v' (joinL l m).length ((joinL l m).map u16v)) := by
 have hb := Below.refl w.heap.size w
 refine enter (N := 10) Try.func28 rfl rfl (by simp) fun a0 hN hd hA => ?_
 have s0 : a0.tmps.getD 0 undef = v := hA 0 (by simp)
 have s1 : a0.tmps.getD 1 undef = u := hA 1 (by simp)
 clear hA
 refine seq_any fun K1467 hK1467 => ?_
 refine one_reg ?_
 refine op_assign rfl ?_
 refine reg_nil ?_
 refine hK1467 _ _ ?_
 refine seq_any fun K1468 hK1468 => ?_
 refine one_reg ?_
 refine op_move (ev_base hN rfl s0) ?_
 refine op_move (ev_base hN rfl s1) ?_
 refine op_bslice (e := 23) (pv := [(0, v), (1, u)]) (cs := [v, u]) ⟨rfl, (ev_hit hN rfl), ⟨rfl, (ev_hit hN rfl), trivial⟩⟩ (by obtain ⟨_, _, _, rfl⟩ := hl.sl; obtain ⟨_, _, _, rfl⟩ := hm.sl; kernel_rfl) ?_
 intro w1469 b1470 lo_b1470 hi_b1470 hB1472 E1471
 have z_w1469 := E1471.size
 have hl := hl.keep0 E1471
 have hm := hm.keep0 E1471
 have hb := below_step0 hb E1471 hb.size
 refine op_fn (vs := [(Value.slice (some ⟨b1470, 0, none⟩) 2 2)]) ok48 ⟨(ev_hit hN rfl), trivial⟩ (concatW_ret l m _ _ _ _ (by first | assumption | omega | (simp only [List.length_append, List.length_cons, List.length_nil, List.length_drop, List.length_take]; omega) | (dsimp only; omega) | decide | (simp [keyV, be8_len]; done)) (by first | assumption | omega | (simp only [List.length_append, List.length_cons, List.length_nil, List.length_drop, List.length_take]; omega) | (dsimp only; omega) | decide | (simp [keyV, be8_len]; done)) ((RdC.ofBx (sz := 1) (n := 2) hB1472 rfl (by decide)).mono (Nat.zero_le _) (by have := hB1472.lt; omega)) (show RdC w1469 0 w1469.heap.size 1 v l.length (l.map u16v) from by have hh : RdC w1469 0 w1469.heap.size 1 _ _ _ := (hl.mono (L' := 0) (B' := w1469.heap.size) (Nat.zero_le _) (by omega)); first | exact hh | exact hh.cast (by first | omega | (simp; try omega)) (by first | rfl | simp [u16v])) (show RdC w1469 0 w1469.heap.size 1 u m.length (m.map u16v) from by have hh : RdC w1469 0 w1469.heap.size 1 _ _ _ := (hm.mono (L' := 0) (B' := w1469.heap.size) (Nat.zero_le _) (by omega)); first | exact hh | exact hh.cast (by first | omega | (simp; try omega)) (by first | rfl | simp [u16v]))) ?_
 rintro v1473 w1474 ⟨E1475, hO1473⟩
 have E1475 := grown_of_below E1475
 have z_w1474 := E1475.size
 have hl := hl.keep0 E1475
 have hm := hm.keep0 E1475
 have hB1472 := hB1472.keep0 E1475
 have hb := below_step0 hb E1475 hb.size
 have hO1473 := hO1473.mono (base' := w.heap.size) (by omega)
 refine op_fn (vs := [v1473]) ok46 ⟨(ev_hit hN rfl), trivial⟩ (sortedW_ret (l ++ m) _ _ (by first | assumption | omega | (simp only [List.length_append, List.length_cons, List.length_nil, List.length_drop, List.length_take]; omega) | (dsimp only; omega) | decide | (simp [keyV, be8_len]; done)) (show RdC w1474 0 w1474.heap.size 1 v1473 (l ++ m).length ((l ++ m).map u16v) from by have hh : RdC w1474 0 w1474.heap.size 1 _ _ _ := (hO1473.rdw.mono (L' := 0) (B' := w1474.heap.size) (Nat.zero_le _) (by omega)); first | exact hh | exact hh.cast (by first | omega | (simp; try omega)) (by first | rfl | simp [u16v]))) ?_
 rintro v1476 w1477 ⟨E1478, hO1476⟩
 have dj1479 : DJ v1476 v1473 := fun k hk hg => by have q1 := (hO1476.lt k hk).1; have q2 := (hO1473.lt k hg).2; omega
 have E1478 := grown_of_below E1478
 have z_w1477 := E1478.size
 have hl := hl.keep0 E1478
 have hm := hm.keep0 E1478
 have hB1472 := hB1472.keep0 E1478
 have hO1473 := hO1473.keep0 E1478
 have hb := below_step0 hb E1478 hb.size
 have hO1476 := hO1476.mono (base' := w.heap.size) (by omega)
 refine op_assign (ev_hit hN rfl) ?_
 refine reg_nil ?_
 refine hK1468 _ _ ?_
 refine wp_ret ?_
 refine ret1 rfl hd (ev_hit hN rfl) ⟨_, rfl, ?_⟩
 -- path
 exact ⟨hb, hO1476⟩

theorem rjoinW_ret (l m : Lb) (v u : Value) (w : World) (hl2 : l.length ≤ 1000000000) (hm2 : m.length ≤ 1000000000) (hl : RdC w 0 w.heap.size 1 v l.length (l.map u16v)) (hm : RdC w 0 w.heap.size 1 u m.length (m.map u16v)) : Ret Try.prog 21 #[v, u] w (fun v' w' => Below w.heap.size w w' ∧ Own w' w.heap.size 35 1 v' (joinL l m).length ((joinL l m).map u16v)) := by
 have hb := Below.refl w.heap.size w
 refine enter (N := 11) Try.func21 rfl rfl (by simp) fun a0 hN hd hA => ?_
 have s0 : a0.tmps.getD 0 undef = v := hA 0 (by simp)
 have s1 : a0.tmps.getD 1 undef = u := hA 1 (by simp)
 clear hA
 refine seq_any fun K1480 hK1480 => ?_
 refine one_reg ?_
 refine op_assign rfl ?_
 refine reg_nil ?_
 refine hK1480 _ _ ?_
 refine seq_any fun K1481 hK1481 => ?_
 refine one_reg ?_
 refine op_bslice (e := 35) (pv := []) (cs := []) trivial (by kernel_rfl) ?_
 intro w1482 b1483 lo_b1483 hi_b1483 hB1485 E1484
 have z_w1482 := E1484.size
 have hl := hl.keep0 E1484
 have hm := hm.keep0 E1484
 have hb := below_step0 hb E1484 hb.size
 refine op_move (ev_base hN rfl s0) ?_
 have hP1491 := (Own.ofBx (base := w.heap.size) (sz := 1) (n := 0) hB1485 rfl (by decide) (by omega))
 refine op_append slt22 (ev_hit hN rfl) hP1491 (ev_hit hN rfl) (Src.ofRd Try.underlying23 (by decide) hl (one_u16 _)) (by unfold maxLen; omega) (by omega) hb.size ?_
 intro v1486 w1487 hO1489 E1488 hm1490
 have z_w1487 := E1488.size
 have hl := hl.keepO hP1491 E1488 (by omega)
 have hm := hm.keepO hP1491 E1488 (by omega)
 have hb := below_stepO hb hP1491 E1488 hb.size (by omega)
 have hO1489 : Own w1487 w.heap.size 35 1 v1486 (0 + l.length) ((l).map u16v) := by simpa [u8v, u16v, cellsV] using hO1489
 refine op_move (ev_base hN rfl s1) ?_
 have hP1497 := hO1489
 refine op_append slt22 (ev_hit hN rfl) hP1497 (ev_hit hN rfl) (Src.ofRd Try.underlying23 (by decide) hm (one_u16 _)) (by unfold maxLen; omega) (by omega) hb.size ?_
 intro v1492 w1493 hO1495 E1494 hm1496
 have z_w1493 := E1494.size
 have hl := hl.keepO hP1497 E1494 (by omega)
 have hm := hm.keepO hP1497 E1494 (by omega)
 have hb := below_stepO hb hP1497 E1494 hb.size (by omega)
 have hO1495 : Own w1493 w.heap.size 35 1 v1492 ((0 + l.length) + m.length) (((l ++ m)).map u16v) := by simpa [u8v, u16v, cellsV] using hO1495
 refine op_fn (vs := [v1492]) ok45 ⟨(ev_hit hN rfl), trivial⟩ (rallW_ret (l ++ m) _ _ (by first | assumption | omega | (simp only [List.length_append, List.length_cons, List.length_nil, List.length_drop, List.length_take]; omega) | (dsimp only; omega) | decide | (simp [keyV, be8_len]; done)) (show RdC w1493 0 w1493.heap.size 1 v1492 (l ++ m).length ((l ++ m).map u16v) from by have hh : RdC w1493 0 w1493.heap.size 1 _ _ _ := (hO1495.rdw.mono (L' := 0) (B' := w1493.heap.size) (Nat.zero_le _) (by omega)); first | exact hh | exact hh.cast (by first | omega | (simp; try omega)) (by first | rfl | simp [u16v]))) ?_
 rintro v1498 w1499 ⟨E1500, hO1498⟩
 have dj1501 : DJ v1498 v1492 := fun k hk hg => by have q1 := (hO1498.lt k hk).1; have q2 := (hO1495.lt k hg).2; omega
 have E1500 := grown_of_below E1500
 have z_w1499 := E1500.size
 have hl := hl.keep0 E1500
 have hm := hm.keep0 E1500
 have hO1495 := hO1495.keep0 E1500
 have hb := below_step0 hb E1500 hb.size
 have hO1498 := hO1498.mono (base' := w.heap.size) (by omega)
 refine op_assign (ev_hit hN rfl) ?_
 refine reg_nil ?_
 refine hK1481 _ _ ?_
 refine wp_ret ?_
 refine ret1 rfl hd (ev_hit hN rfl) ⟨_, rfl, ?_⟩
 -- path
 exact ⟨hb, hO1498⟩

end Go.Proofs.Ytpmnljffdofkeaa

/- Walks, written by a program: what each function of the translation hands back. -/
namespace Go.Proofs.Ytpmnljffdofkeaa
open Go.Gx Go.RowKit
attribute [local irreducible] wpList wpStill Code.wp Calls

theorem normW_ret (l : Lb) (v : Value) (w : World) (hz : l.length ≤ 100000000) (hl : RdC w 0 w.heap.size 1 v l.length (l.map u16v)) : Ret Try.prog 24 #[v] w (fun v' w' => Below w.heap.size w w' ∧ ∃ u, v' = .tuple #[u, .int .i64 (normE l)] ∧ Own w' w.heap.size 35 1 u (normL l).length ((normL l).map u16v)) := by
 have hb := Below.refl w.heap.size w
 refine enter (N := 11) Try.func24 rfl rfl (by simp) fun a0 hN hd hA => ?_
 have s0 : a0.tmps.getD 0 undef = v := hA 0 (by simp)
 clear hA
 refine seq_any fun K1502 hK1502 => ?_
 refine one_reg ?_
 refine op_assign rfl ?_
 refine op_assign rfl ?_
 refine reg_nil ?_
 refine hK1502 _ _ ?_
 refine seq_any fun K1503 hK1503 => ?_
 refine one_reg ?_
 refine op_move (ev_base hN rfl s0) ?_
 refine op_fn (vs := [v]) ok46 ⟨(ev_hit hN rfl), trivial⟩ (sortedW_ret l _ _ (by first | assumption | omega | (simp only [List.length_append, List.length_cons, List.length_nil, List.length_drop, List.length_take]; omega) | (dsimp only; omega) | decide | (simp [keyV, be8_len]; done)) (show RdC w 0 w.heap.size 1 v l.length (l.map u16v) from by have hh : RdC w 0 w.heap.size 1 _ _ _ := (hl.mono (L' := 0) (B' := w.heap.size) (Nat.zero_le _) (by omega)); first | exact hh | exact hh.cast (by first | omega | (simp; try omega)) (by first | rfl | simp [u16v]))) ?_
 rintro v1504 w1505 ⟨E1506, hO1504⟩
 have E1506 := grown_of_below E1506
 have z_w1505 := E1506.size
 have hl := hl.keep0 E1506
 have hb := below_step0 hb E1506 hb.size
 have hO1504 := hO1504.mono (base' := w.heap.size) (by omega)
 refine op_assign (ev_hit hN rfl) ?_
 refine reg_nil ?_
 refine hK1503 _ _ ?_
 refine seq_any fun K1507 hK1507 => ?_
 refine seq_any fun K1508 hK1508 => ?_
 refine one_reg ?_
 refine op_move (ev_hit hN rfl) ?_
 refine op_len_rd Try.underlying22 (ev_hit hN rfl) hO1504.rdw ?_
 refine op_gtr (ev_hit hN rfl) rfl (fun c9 => ?_) (fun c9 => ?_)
 · -- 9T
  refine reg_nil ?_
  refine hK1508 _ _ ?_
  refine wp_cond_true (ev_hit hN rfl) ?_
  refine seq_any fun K1509 hK1509 => ?_
  refine one_reg ?_
  refine op_assign rfl ?_
  refine op_assign rfl ?_
  refine reg_nil ?_
  refine hK1509 _ _ ?_
  refine wp_ret (then_ret ( ?_))
  refine ret2 rfl hd (ev_hit hN rfl) (ev_hit hN rfl) ⟨_, rfl, ?_⟩
  -- path 9T
  have h8 : 8 < (nrm l).length := by omega
  rw [normE_bad h8, normL_bad h8]
  exact ⟨hb, _, rfl, Own.nil _ _ _ _⟩
 · -- 9F
  refine reg_nil ?_
  refine hK1508 _ _ ?_
  refine wp_cond_false (ev_hit hN rfl) ?_
  refine wp_skip ?_
  refine hK1507 _ _ ?_
  refine seq_any fun K1510 hK1510 => ?_
  refine one_reg ?_
  refine op_move (ev_hit hN rfl) ?_
  refine op_assign (ev_hit hN rfl) ?_
  refine op_assign rfl ?_
  refine reg_nil ?_
  refine hK1510 _ _ ?_
  refine wp_ret ?_
  refine ret2 rfl hd (ev_hit hN rfl) (ev_hit hN rfl) ⟨_, rfl, ?_⟩
  -- path 9F
  have h8 : ¬ 8 < (nrm l).length := by omega
  rw [normE_ok h8, normL_ok h8]
  exact ⟨hb, _, rfl, hO1504⟩

theorem rnormW_ret (l : Lb) (v : Value) (w : World) (hz : l.length ≤ 100000000) (hl : RdC w 0 w.heap.size 1 v l.length (l.map u16v)) : Ret Try.prog 25 #[v] w (fun v' w' => Below w.heap.size w w' ∧ ∃ u, v' = .tuple #[u, .int .i64 (normE l)] ∧ Own w' w.heap.size 35 1 u (normL l).length ((normL l).map u16v)) := by
 have hb := Below.refl w.heap.size w
 refine enter (N := 11) Try.func25 rfl rfl (by simp) fun a0 hN hd hA => ?_
 have s0 : a0.tmps.getD 0 undef = v := hA 0 (by simp)
 clear hA
 refine seq_any fun K1511 hK1511 => ?_
 refine one_reg ?_
 refine op_assign rfl ?_
 refine op_assign rfl ?_
 refine reg_nil ?_
 refine hK1511 _ _ ?_
 refine seq_any fun K1512 hK1512 => ?_
 refine one_reg ?_
 refine op_move (ev_base hN rfl s0) ?_
 refine op_fn (vs := [v]) ok45 ⟨(ev_hit hN rfl), trivial⟩ (rallW_ret l _ _ (by first | assumption | omega | (simp only [List.length_append, List.length_cons, List.length_nil, List.length_drop, List.length_take]; omega) | (dsimp only; omega) | decide | (simp [keyV, be8_len]; done)) (show RdC w 0 w.heap.size 1 v l.length (l.map u16v) from by have hh : RdC w 0 w.heap.size 1 _ _ _ := (hl.mono (L' := 0) (B' := w.heap.size) (Nat.zero_le _) (by omega)); first | exact hh | exact hh.cast (by first | omega | (simp; try omega)) (by first | rfl | simp [u16v]))) ?_
 rintro v1513 w1514 ⟨E1515, hO1513⟩
 have E1515 := grown_of_below E1515
 have z_w1514 := E1515.size
 have hl := hl.keep0 E1515
 have hb := below_step0 hb E1515 hb.size
 have hO1513 := hO1513.mono (base' := w.heap.size) (by omega)
 refine op_assign (ev_hit hN rfl) ?_
 refine reg_nil ?_
 refine hK1512 _ _ ?_
 refine seq_any fun K1516 hK1516 => ?_
 refine seq_any fun K1517 hK1517 => ?_
 refine one_reg ?_
 refine op_move (ev_hit hN rfl) ?_
 refine op_len_rd Try.underlying23 (ev_hit hN rfl) hO1513.rdw ?_
 refine op_gtr (ev_hit hN rfl) rfl (fun c9 => ?_) (fun c9 => ?_)
 · -- 9T
  refine reg_nil ?_
  refine hK1517 _ _ ?_
  refine wp_cond_true (ev_hit hN rfl) ?_
  refine seq_any fun K1518 hK1518 => ?_
  refine one_reg ?_
  refine op_assign rfl ?_
  refine op_assign rfl ?_
  refine reg_nil ?_
  refine hK1518 _ _ ?_
  refine wp_ret (then_ret ( ?_))
  refine ret2 rfl hd (ev_hit hN rfl) (ev_hit hN rfl) ⟨_, rfl, ?_⟩
  -- path 9T
  have h8 : 8 < (nrm l).length := by omega
  rw [normE_bad h8, normL_bad h8]
  exact ⟨hb, _, rfl, Own.nil _ _ _ _⟩
 · -- 9F
  refine reg_nil ?_
  refine hK1517 _ _ ?_
  refine wp_cond_false (ev_hit hN rfl) ?_
  refine wp_skip ?_
  refine hK1516 _ _ ?_
  refine seq_any fun K1519 hK1519 => ?_
  refine one_reg ?_
  refine op_move (ev_hit hN rfl) ?_
  refine op_assign (ev_hit hN rfl) ?_
  refine op_assign rfl ?_
  refine reg_nil ?_
  refine hK1519 _ _ ?_
  refine wp_ret ?_
  refine ret2 rfl hd (ev_hit hN rfl) (ev_hit hN rfl) ⟨_, rfl, ?_⟩
  -- path 9F
  have h8 : ¬ 8 < (nrm l).length := by omega
  rw [normE_ok h8, normL_ok h8]
  exact ⟨hb, _, rfl, hO1513⟩

theorem labMay_ret (l : Lb) (v : Value) (w : World) (hz : l.length ≤ 1000000000000) (hl : RdC w 0 w.heap.size 1 v l.length (l.map u16v)) : Ret Try.prog 26 #[v] w (fun v' w' => Below w.heap.size w w' ∧ v' = .bool (mayL l)) := by
 have hb := Below.refl w.heap.size w
 refine enter (N := 10) Try.func26 rfl rfl (by simp) fun a0 hN hd hA => ?_
 have s0 : a0.tmps.getD 0 undef = v := hA 0 (by simp)
 clear hA
 refine seq_any fun K1520 hK1520 => ?_
 refine one_reg ?_
 refine op_assign rfl ?_
 refine reg_nil ?_
 refine hK1520 _ _ ?_
 refine seq_any fun K1521 hK1521 => ?_
 refine one_reg ?_
 refine op_move (ev_base hN rfl s0) ?_
 refine op_len_rd Try.underlying23 (ev_hit hN rfl) hl ?_
 refine op_leq (ev_hit hN rfl) rfl (fun c5 => ?_) (fun c5 => ?_)
 · -- 5T
  refine op_move (ev_hit hN rfl) ?_
  refine g_true (j := 3) (dj := 6) (b := true) rfl rfl rfl (ev_hit hN rfl) ?_
  refine op_move (ev_base hN rfl s0) ?_
  refine g_true (j := 3) (dj := 6) (b := true) rfl rfl rfl (ev_hit hN rfl) ?_
  refine op_fn (vs := [v]) ok47 ⟨(ev_hit hN rfl), trivial⟩ (rises_ret l _ _ (by first | assumption | omega | (simp only [List.length_append, List.length_cons, List.length_nil, List.length_drop, List.length_take]; omega) | (dsimp only; omega) | decide | (simp [keyV, be8_len]; done)) (show RdC w 0 w.heap.size 1 v l.length (l.map u16v) from by have hh : RdC w 0 w.heap.size 1 _ _ _ := (hl.mono (L' := 0) (B' := w.heap.size) (Nat.zero_le _) (by omega)); first | exact hh | exact hh.cast (by first | omega | (simp; try omega)) (by first | rfl | simp [u16v]))) ?_
  rintro _ w1522 ⟨E1523, rfl⟩
  have E1523 := grown_of_below E1523
  have z_w1522 := E1523.size
  have hl := hl.keep0 E1523
  have hb := below_step0 hb E1523 hb.size
  refine op_pick_t (ev_hit hN rfl) (ev_hit hN rfl) ?_
  refine op_assign (ev_hit hN rfl) ?_
  refine reg_nil ?_
  refine hK1521 _ _ ?_
  refine wp_ret ?_
  refine ret1 rfl hd (ev_hit hN rfl) ⟨_, rfl, ?_⟩
  -- path 5T
  exact ⟨hb, congrArg Value.bool (by unfold mayL; first | (rw [decide_eq_true (show l.length ≤ 8 by omega), Bool.and_true]; done) | (rw [decide_eq_false (show ¬ l.length ≤ 8 by omega), Bool.and_false]))⟩
 · -- 5F
  refine op_move (ev_hit hN rfl) ?_
  refine g_false (j := 3) (dj := 6) (b := true) rfl rfl rfl (ev_hit hN rfl) rfl rfl ?_
  refine g_false (j := 3) (dj := 6) (b := true) rfl rfl rfl (ev_hit hN rfl) rfl rfl ?_
  refine op_pick_f (ev_hit hN rfl) rfl ?_
  refine op_assign (ev_hit hN rfl) ?_
  refine reg_nil ?_
  refine hK1521 _ _ ?_
  refine wp_ret ?_
  refine ret1 rfl hd (ev_hit hN rfl) ⟨_, rfl, ?_⟩
  -- path 5F
  exact ⟨hb, congrArg Value.bool (by unfold mayL; first | (rw [decide_eq_true (show l.length ≤ 8 by omega), Bool.and_true]; done) | (rw [decide_eq_false (show ¬ l.length ≤ 8 by omega), Bool.and_false]))⟩

end Go.Proofs.Ytpmnljffdofkeaa

/- Walks, written by a program: what each function of the translation hands back. -/
namespace Go.Proofs.Ytpmnljffdofkeaa
open Go.Gx Go.RowKit
attribute [local irreducible] wpList wpStill Code.wp Calls

theorem stripW_ret (l m : Lb) (v u : Value) (w : World) (hz : l.length ≤ 1000000000000) (hzm : m.length ≤ 1000000000000) (hl : RdC w 0 w.heap.size 1 v l.length (l.map u16v)) (hm : RdC w 0 w.heap.size 1 u m.length (m.map u16v)) : Ret Try.prog 20 #[v, u] w (fun v' w' => Below w.heap.size w w' ∧ Own w' w.heap.size 35 1 v' (minusL l m).length ((minusL l m).map u16v)) := by
 have hb := Below.refl w.heap.size w
 refine enter (N := 8) Try.func20 rfl rfl (by simp) fun a0 hN hd hA => ?_
 have s0 : a0.tmps.getD 0 undef = v := hA 0 (by simp)
 have s1 : a0.tmps.getD 1 undef = u := hA 1 (by simp)
 clear hA
 refine seq_any fun K1524 hK1524 => ?_
 refine one_reg ?_
 refine op_assign rfl ?_
 refine reg_nil ?_
 refine hK1524 _ _ ?_
 refine seq_any fun K1525 hK1525 => ?_
 refine one_reg ?_
 refine op_move (ev_base hN rfl s0) ?_
 refine op_move (ev_base hN rfl s1) ?_
 refine op_fn (vs := [v, u]) ok30 ⟨(ev_hit hN rfl), ⟨(ev_hit hN rfl), trivial⟩⟩ (minusW_ret l m _ _ _ (by first | assumption | omega | (simp only [List.length_append, List.length_cons, List.length_nil, List.length_drop, List.length_take]; omega) | (dsimp only; omega) | decide | (simp [keyV, be8_len]; done)) (by first | assumption | omega | (simp only [List.length_append, List.length_cons, List.length_nil, List.length_drop, List.length_take]; omega) | (dsimp only; omega) | decide | (simp [keyV, be8_len]; done)) (show RdC w 0 w.heap.size 1 v l.length (l.map u16v) from by have hh : RdC w 0 w.heap.size 1 _ _ _ := (hl.mono (L' := 0) (B' := w.heap.size) (Nat.zero_le _) (by omega)); first | exact hh | exact hh.cast (by first | omega | (simp; try omega)) (by first | rfl | simp [u16v])) (show RdC w 0 w.heap.size 1 u m.length (m.map u16v) from by have hh : RdC w 0 w.heap.size 1 _ _ _ := (hm.mono (L' := 0) (B' := w.heap.size) (Nat.zero_le _) (by omega)); first | exact hh | exact hh.cast (by first | omega | (simp; try omega)) (by first | rfl | simp [u16v]))) ?_
 rintro v1526 w1527 ⟨E1528, hO1526⟩
 have E1528 := grown_of_below E1528
 have z_w1527 := E1528.size
 have hl := hl.keep0 E1528
 have hm := hm.keep0 E1528
 have hb := below_step0 hb E1528 hb.size
 have hO1526 := hO1526.mono (base' := w.heap.size) (by omega)
 refine op_assign (ev_hit hN rfl) ?_
 refine reg_nil ?_
 refine hK1525 _ _ ?_
 refine wp_ret ?_
 refine ret1 rfl hd (ev_hit hN rfl) ⟨_, rfl, ?_⟩
 -- path
 exact ⟨hb, hO1526⟩

theorem oflowsW_ret (l m o : Lb) (v u x : Value) (w : World) (hz : l.length ≤ 1000000000000) (hzm : m.length ≤ 1000000000000) (hzo : o.length ≤ 1000000000000) (hl : RdC w 0 w.heap.size 1 v l.length (l.map u16v)) (hm : RdC w 0 w.heap.size 1 u m.length (m.map u16v)) (ho : RdC w 0 w.heap.size 1 x o.length (o.map u16v)) : Ret Try.prog 16 #[v, u, x] w (fun v' w' => Below w.heap.size w w' ∧ v' = .bool (flowsL (minusL l o) m)) := by
 have hmin : (minusL l o).length ≤ l.length := List.length_filter_le _ _
 have hb := Below.refl w.heap.size w
 refine enter (N := 12) Try.func16 rfl rfl (by simp) fun a0 hN hd hA => ?_
 have s0 : a0.tmps.getD 0 undef = v := hA 0 (by simp)
 have s1 : a0.tmps.getD 1 undef = u := hA 1 (by simp)
 have s2 : a0.tmps.getD 2 undef = x := hA 2 (by simp)
 clear hA
 refine seq_any fun K1529 hK1529 => ?_
 refine one_reg ?_
 refine op_assign rfl ?_
 refine reg_nil ?_
 refine hK1529 _ _ ?_
 refine seq_any fun K1530 hK1530 => ?_
 refine one_reg ?_
 refine op_move (ev_base hN rfl s0) ?_
 refine op_move (ev_base hN rfl s2) ?_
 refine op_fn (vs := [v, x]) ok30 ⟨(ev_hit hN rfl), ⟨(ev_hit hN rfl), trivial⟩⟩ (minusW_ret l o _ _ _ (by first | assumption | omega | (simp only [List.length_append, List.length_cons, List.length_nil, List.length_drop, List.length_take]; omega) | (dsimp only; omega) | decide | (simp [keyV, be8_len]; done)) (by first | assumption | omega | (simp only [List.length_append, List.length_cons, List.length_nil, List.length_drop, List.length_take]; omega) | (dsimp only; omega) | decide | (simp [keyV, be8_len]; done)) (show RdC w 0 w.heap.size 1 v l.length (l.map u16v) from by have hh : RdC w 0 w.heap.size 1 _ _ _ := (hl.mono (L' := 0) (B' := w.heap.size) (Nat.zero_le _) (by omega)); first | exact hh | exact hh.cast (by first | omega | (simp; try omega)) (by first | rfl | simp [u16v])) (show RdC w 0 w.heap.size 1 x o.length (o.map u16v) from by have hh : RdC w 0 w.heap.size 1 _ _ _ := (ho.mono (L' := 0) (B' := w.heap.size) (Nat.zero_le _) (by omega)); first | exact hh | exact hh.cast (by first | omega | (simp; try omega)) (by first | rfl | simp [u16v]))) ?_
 rintro v1531 w1532 ⟨E1533, hO1531⟩
 have E1533 := grown_of_below E1533
 have z_w1532 := E1533.size
 have hl := hl.keep0 E1533
 have hm := hm.keep0 E1533
 have ho := ho.keep0 E1533
 have hb := below_step0 hb E1533 hb.size
 have hO1531 := hO1531.mono (base' := w.heap.size) (by omega)
 refine op_move (ev_base hN rfl s1) ?_
 refine op_fn (vs := [v1531, u]) ok27 ⟨(ev_hit hN rfl), ⟨(ev_hit hN rfl), trivial⟩⟩ (flowsW_ret (minusL l o) m _ _ _ (by first | assumption | omega | (simp only [List.length_append, List.length_cons, List.length_nil, List.length_drop, List.length_take]; omega) | (dsimp only; omega) | decide | (simp [keyV, be8_len]; done)) (by first | assumption | omega | (simp only [List.length_append, List.length_cons, List.length_nil, List.length_drop, List.length_take]; omega) | (dsimp only; omega) | decide | (simp [keyV, be8_len]; done)) (show RdC w1532 0 w1532.heap.size 1 v1531 (minusL l o).length ((minusL l o).map u16v) from by have hh : RdC w1532 0 w1532.heap.size 1 _ _ _ := (hO1531.rdw.mono (L' := 0) (B' := w1532.heap.size) (Nat.zero_le _) (by omega)); first | exact hh | exact hh.cast (by first | omega | (simp; try omega)) (by first | rfl | simp [u16v])) (show RdC w1532 0 w1532.heap.size 1 u m.length (m.map u16v) from by have hh : RdC w1532 0 w1532.heap.size 1 _ _ _ := (hm.mono (L' := 0) (B' := w1532.heap.size) (Nat.zero_le _) (by omega)); first | exact hh | exact hh.cast (by first | omega | (simp; try omega)) (by first | rfl | simp [u16v]))) ?_
 rintro _ w1534 ⟨E1535, rfl⟩
 have E1535 := grown_of_below E1535
 have z_w1534 := E1535.size
 have hl := hl.keep0 E1535
 have hm := hm.keep0 E1535
 have ho := ho.keep0 E1535
 have hO1531 := hO1531.keep0 E1535
 have hb := below_step0 hb E1535 hb.size
 refine op_assign (ev_hit hN rfl) ?_
 refine reg_nil ?_
 refine hK1530 _ _ ?_
 refine wp_ret ?_
 refine ret1 rfl hd (ev_hit hN rfl) ⟨_, rfl, ?_⟩
 -- path
 exact ⟨hb, rfl⟩

theorem may1W_ret (x : UInt16) (m : Lb) (u : Value) (bc : Nat) (w : World) (hzm : m.length ≤ 1000000000000) (hbc : Bx w bc 23 [u]) (hm : RdC w 0 w.heap.size 1 u m.length (m.map u16v)) : Ret Try.prog 43 #[(Value.int .u16 (x.toNat : Int)), (ptr bc 0)] w (fun v' w' => Below w.heap.size w w' ∧ v' = .bool (inL x m)) := by
 have hb := Below.refl w.heap.size w
 refine enter (N := 8) Try.func43 rfl rfl (by simp) fun a0 hN hd hA => ?_
 have s0 : a0.tmps.getD 0 undef = (Value.int .u16 (x.toNat : Int)) := hA 0 (by simp)
 have s1 : a0.tmps.getD 1 undef = (ptr bc 0) := hA 1 (by simp)
 clear hA
 refine seq_any fun K1536 hK1536 => ?_
 refine one_reg ?_
 refine op_assign rfl ?_
 refine reg_nil ?_
 refine hK1536 _ _ ?_
 refine seq_any fun K1537 hK1537 => ?_
 refine one_reg ?_
 refine op_move (ev_base hN rfl s0) ?_
 refine op_bslice (e := 35) (pv := [(0, (Value.int .u16 (x.toNat : Int)))]) (cs := [(Value.int .u16 (x.toNat : Int))]) ⟨rfl, (ev_hit hN rfl), trivial⟩ (by kernel_rfl) ?_
 intro w1538 b1539 lo_b1539 hi_b1539 hB1541 E1540
 have z_w1538 := E1540.size
 have hbc := hbc.keep0 E1540
 have hm := hm.keep0 E1540
 have hb := below_step0 hb E1540 hb.size
 refine op_load1 (v := u) one23 (ev_base hN rfl s1) (hbc.cell rfl) ?_
 refine op_fn (vs := [(Value.slice (some ⟨b1539, 0, none⟩) 1 1), u]) ok27 ⟨(ev_hit hN rfl), ⟨(ev_hit hN rfl), trivial⟩⟩ (flowsW_ret [x] m _ _ _ (by first | assumption | omega | (simp only [List.length_append, List.length_cons, List.length_nil, List.length_drop, List.length_take]; omega) | (dsimp only; omega) | decide | (simp [keyV, be8_len]; done)) (by first | assumption | omega | (simp only [List.length_append, List.length_cons, List.length_nil, List.length_drop, List.length_take]; omega) | (dsimp only; omega) | decide | (simp [keyV, be8_len]; done)) (show RdC w1538 0 w1538.heap.size 1 (Value.slice (some ⟨b1539, 0, none⟩) 1 1) [x].length ([x].map u16v) from by have hh : RdC w1538 0 w1538.heap.size 1 _ _ _ := ((RdC.ofBx (sz := 1) (n := 1) hB1541 rfl (by decide)).mono (L' := 0) (B' := w1538.heap.size) (Nat.zero_le _) (by have := hB1541.lt; omega)); first | exact hh | exact hh.cast (by first | omega | (simp; try omega)) (by first | rfl | simp [u16v])) (show RdC w1538 0 w1538.heap.size 1 u m.length (m.map u16v) from by have hh : RdC w1538 0 w1538.heap.size 1 _ _ _ := (hm.mono (L' := 0) (B' := w1538.heap.size) (Nat.zero_le _) (by omega)); first | exact hh | exact hh.cast (by first | omega | (simp; try omega)) (by first | rfl | simp [u16v]))) ?_
 rintro _ w1542 ⟨E1543, rfl⟩
 have E1543 := grown_of_below E1543
 have z_w1542 := E1543.size
 have hbc := hbc.keep0 E1543
 have hm := hm.keep0 E1543
 have hB1541 := hB1541.keep0 E1543
 have hb := below_step0 hb E1543 hb.size
 refine op_assign (ev_hit hN rfl) ?_
 refine reg_nil ?_
 refine hK1537 _ _ ?_
 refine wp_ret ?_
 refine ret1 rfl hd (ev_hit hN rfl) ⟨_, rfl, ?_⟩
 -- path
 exact ⟨hb, congrArg Value.bool (flows_one x m)⟩

theorem oallW_ret (l : Lb) (v : Value) (m : Lb) (u : Value) (bc : Nat) (w : World) (hz : l.length ≤ 1000000000000) (hl : RdC w 0 w.heap.size 1 v l.length (l.map u16v)) (hzm : m.length ≤ 1000000000000) (hbc : Bx w bc 23 [u]) (hm : RdC w 0 w.heap.size 1 u m.length (m.map u16v)) : Ret Try.prog 42 #[v, (Value.func (.func 43) #[] #[(ptr bc 0)])] w (fun v' w' => Below w.heap.size w w' ∧ v' = .bool (flowsL l m)) := by
 have hbc_lt := hbc.lt
 have hb := Below.refl w.heap.size w
 refine enter (N := 18) Try.func42 rfl rfl (by simp) fun a0 hN hd hA => ?_
 have s0 : a0.tmps.getD 0 undef = v := hA 0 (by simp)
 have s1 : a0.tmps.getD 1 undef = (Value.func (.func 43) #[] #[(ptr bc 0)]) := hA 1 (by simp)
 clear hA
 refine seq_any fun K1544 hK1544 => ?_
 refine one_reg ?_
 refine op_assign rfl ?_
 refine reg_nil ?_
 refine hK1544 _ _ ?_
 refine seq_any fun K1545 hK1545 => ?_
 refine seq_any fun K1546 hK1546 => ?_
 refine one_reg ?_
 refine op_move (ev_base hN rfl s0) ?_
 refine op_len_rd Try.underlying22 (ev_hit hN rfl) hl ?_
 refine op_move rfl ?_
 refine reg_nil ?_
 refine hK1546 _ _ ?_
 refine wp_block ?_
 refine loop_m (fun mz_ az_ w' => ∃ (i : Nat), mz_ = l.length - i ∧ (az_.tmps.getD 1 undef = (Value.func (.func 43) #[] #[(ptr bc 0)])) ∧ (az_.tmps.getD 7 undef = v) ∧ (az_.tmps.getD 8 undef = (Value.int .i64 ((l.length : Nat) : Int))) ∧ (az_.tmps.getD 9 undef = (Value.int .i64 ((i : Nat) : Int))) ∧ (i ≤ l.length) ∧ ((l.take i).all (fun x => inL x m) = true) ∧ (Below w.heap.size w w') ∧ (w.heap.size ≤ w'.heap.size) ∧ (RdC w' 0 w.heap.size 1 v l.length (l.map u16v)) ∧ (Bx w' bc 23 [u]) ∧ (RdC w' 0 w.heap.size 1 u m.length (m.map u16v))) _ hN hd ⟨0, rfl, (sl_base hN rfl s1), (sl_hit hN rfl), (sl_hit hN rfl), (sl_hit hN rfl), Nat.zero_le _, rfl, hb, (Nat.le_refl _), hl, hbc, hm⟩ ?_
 rintro _ a1547 w1547 hN1547 hd1547 ⟨i, rfl, s1547_1, s1547_7, s1547_8, s1547_9, hi, hall, hb, zl_w1547, hl, hbc, hm⟩
 have z_w1547 := hb.size
 refine seq_any fun K1548 hK1548 => ?_
 refine one_reg ?_
 refine op_lss (ev_base hN1547 rfl s1547_9) (ev_base hN1547 rfl s1547_8) (fun c10 => ?_) (fun c10 => ?_)
 · -- 10T
  refine reg_nil ?_
  refine hK1548 _ _ ?_
  refine seq_any fun K1549 hK1549 => ?_
  refine wp_cond_true (ev_hit hN1547 rfl) ?_
  refine wp_skip ?_
  refine hK1549 _ _ ?_
  refine seq_any fun K1550 hK1550 => ?_
  refine wp_block ?_
  refine seq_any fun K1551 hK1551 => ?_
  refine one_reg ?_
  refine op_index_rd slt22 (ev_base hN1547 rfl s1547_7) hl (ev_base hN1547 rfl s1547_9) (by omega) (by omega) ?_
  intro b1552 o1553 h0b1552 h1b1552 hc1554
  refine op_load1 (v := (Value.int .u16 ((l.getD i 0).toNat : Int))) one35 (ev_hit hN1547 rfl) (by have := hc1554 0 (Value.int .u16 ((l.getD i 0).toNat : Int)) (by decide) (el_u16 (i := i) (by omega) (by omega)); simpa using this) ?_
  refine op_assign (ev_hit hN1547 rfl) ?_
  refine reg_nil ?_
  refine hK1551 _ _ ?_
  refine seq_any fun K1555 hK1555 => ?_
  refine one_reg ?_
  refine op_move (ev_base hN1547 rfl s1547_1) ?_
  refine op_move (ev_hit hN1547 rfl) ?_
  refine op_fnv (fs := []) (vs := [(Value.int .u16 ((l.getD i 0).toNat : Int))]) (cs := [(ptr bc 0)]) (ev_hit hN1547 rfl) ok43 ⟨(ev_hit hN1547 rfl), trivial⟩ (may1W_ret (l.getD i 0) m _ _ _ (by omega) hbc (show RdC w1547 0 w1547.heap.size 1 u m.length (m.map u16v) from by have hh : RdC w1547 0 w1547.heap.size 1 _ _ _ := (hm.mono (L' := 0) (B' := w1547.heap.size) (Nat.zero_le _) (by omega)); first | exact hh | exact hh.cast (by first | omega | (simp; try omega)) (by first | rfl | simp [u16v]))) ?_
  rintro _ w1556 ⟨E1557, rfl⟩
  have E1557 := grown_of_below E1557
  have z_w1556 := E1557.size
  have hl := hl.keep0 E1557
  have hbc := hbc.keep0 E1557
  have hm := hm.keep0 E1557
  have hb := below_step0 hb E1557 hb.size
  rcases Bool.eq_false_or_eq_true ((inL (l.getD i 0) m)) with c15 | c15
  · -- 15T
   rw [c15]
   refine op_not (ev_hit hN1547 rfl) ?_
   refine reg_nil ?_
   refine hK1555 _ _ ?_
   refine wp_cond_false (ev_hit hN1547 rfl) ?_
   refine wp_skip ?_
   refine hK1550 _ _ ?_
   refine one_reg ?_
   refine op_add (ev_base hN1547 rfl s1547_9) rfl (add64 (by omega)) ?_
   refine op_move (ev_hit hN1547 rfl) ?_
   refine reg_nil ?_
   -- round 10T 15T
   exact loop_next _ hN1547 hd1547 ⟨i + 1, rfl, (sl_base hN1547 rfl s1547_1), (sl_base hN1547 rfl s1547_7), (sl_base hN1547 rfl s1547_8), (sl_hit hN1547 rfl).trans (congrArg (Value.int .i64) (by omega)), (by omega), (all_step (by omega) hall c15), hb, (by omega), hl, hbc, hm⟩ (by omega)
  · -- 15F
   rw [c15]
   refine op_not (ev_hit hN1547 rfl) ?_
   refine reg_nil ?_
   refine hK1555 _ _ ?_
   refine wp_cond_true (ev_hit hN1547 rfl) ?_
   refine seq_any fun K1558 hK1558 => ?_
   refine one_reg ?_
   refine op_assign rfl ?_
   refine reg_nil ?_
   refine hK1558 _ _ ?_
   refine wp_ret (blk_ret (then_ret (then_ret (blk_ret (then_ret ( ?_))))))
   refine ret1 rfl hd1547 (ev_hit hN1547 rfl) ⟨_, rfl, ?_⟩
   -- path 10T 15F
   exact ⟨hb, congrArg Value.bool (all_f (i := i) (by omega) c15).symm⟩
 · -- 10F
  refine reg_nil ?_
  refine hK1548 _ _ ?_
  refine seq_any fun K1559 hK1559 => ?_
  refine wp_cond_false (ev_hit hN1547 rfl) ?_
  refine wp_exit (then_exit (then_exit (blk_hit ?_)))
  refine hK1545 _ _ ?_
  refine seq_any fun K1560 hK1560 => ?_
  refine one_reg ?_
  refine op_assign rfl ?_
  refine reg_nil ?_
  refine hK1560 _ _ ?_
  refine wp_ret ?_
  refine ret1 rfl hd1547 (ev_hit hN1547 rfl) ⟨_, rfl, ?_⟩
  -- path 10F
  exact ⟨hb, congrArg Value.bool (all_end (i := i) (by omega) hall).symm⟩

theorem omayW_ret (o l : Lb) (x v : Value) (w : World) (hzo : o.length ≤ 100000000) (hz : l.length ≤ 100000000) (ho : RdC w 0 w.heap.size 1 x o.length (o.map u16v)) (hl : RdC w 0 w.heap.size 1 v l.length (l.map u16v)) : Ret Try.prog 14 #[x, v] w (fun v' w' => Below w.heap.size w w' ∧ v' = .int .i64 (ownE o l)) := by
 have hb := Below.refl w.heap.size w
 refine enter (N := 21) Try.func14 rfl rfl (by simp) fun a0 hN hd hA => ?_
 have s0 : a0.tmps.getD 0 undef = x := hA 0 (by simp)
 have s1 : a0.tmps.getD 1 undef = v := hA 1 (by simp)
 clear hA
 refine seq_any fun K1561 hK1561 => ?_
 refine one_reg ?_
 refine op_box (cs := [x]) (ev_base hN rfl s0) (RdC.cells ho) ?_
 intro w1562 b1563 lo_b1563 hi_b1563 hB1565 E1564
 have z_w1562 := E1564.size
 have ho := ho.keep0 E1564
 have hl := hl.keep0 E1564
 have hb := below_step0 hb E1564 hb.size
 refine op_assign rfl ?_
 refine reg_nil ?_
 refine hK1561 _ _ ?_
 refine seq_any fun K1566 hK1566 => ?_
 refine one_reg ?_
 refine op_move (ev_base hN rfl s1) ?_
 refine op_fn (vs := [v]) ok24 ⟨(ev_hit hN rfl), trivial⟩ (normW_ret l _ _ (by first | assumption | omega | (simp only [List.length_append, List.length_cons, List.length_nil, List.length_drop, List.length_take]; omega) | (dsimp only; omega) | decide | (simp [keyV, be8_len]; done)) (show RdC w1562 0 w1562.heap.size 1 v l.length (l.map u16v) from by have hh : RdC w1562 0 w1562.heap.size 1 _ _ _ := (hl.mono (L' := 0) (B' := w1562.heap.size) (Nat.zero_le _) (by omega)); first | exact hh | exact hh.cast (by first | omega | (simp; try omega)) (by first | rfl | simp [u16v]))) ?_
 rintro _ w1568 ⟨E1569, v1567, rfl, hO1567⟩
 have E1569 := grown_of_below E1569
 have z_w1568 := E1569.size
 have ho := ho.keep0 E1569
 have hl := hl.keep0 E1569
 have hB1565 := hB1565.keep0 E1569
 have hb := below_step0 hb E1569 hb.size
 have hO1567 := hO1567.mono (base' := w.heap.size) (by omega)
 have hnl1567 := normL_len l
 refine op_move (ev_hit hN rfl) ?_
 refine op_extract (ev_hit hN rfl) rfl ?_
 refine op_extract (ev_hit hN rfl) rfl ?_
 refine op_assign (ev_hit hN rfl) ?_
 refine op_assign (ev_hit hN rfl) ?_
 refine reg_nil ?_
 refine hK1566 _ _ ?_
 refine seq_any fun K1570 hK1570 => ?_
 refine wp_block ?_
 refine seq_any fun K1571 hK1571 => ?_
 refine one_reg ?_
 refine op_move (ev_hit hN rfl) ?_
 refine op_neq (ev_hit hN rfl) rfl (fun c14 => ?_) (fun c14 => ?_)
 · -- 14T
  refine op_assign (ev_hit hN rfl) ?_
  refine reg_nil ?_
  refine hK1571 _ _ ?_
  refine wp_cond_true (ev_hit hN rfl) ?_
  refine seq_any fun K1572 hK1572 => ?_
  refine one_reg ?_
  refine op_move (ev_hit hN rfl) ?_
  refine op_assign (ev_hit hN rfl) ?_
  refine reg_nil ?_
  refine hK1572 _ _ ?_
  refine wp_ret (blk_ret (then_ret ( ?_)))
  refine ret1 rfl hd (ev_hit hN rfl) ⟨_, rfl, ?_⟩
  -- path 14T
  exact ⟨hb, congrArg (Value.int .i64) (ownE_bad (by omega)).symm⟩
 · -- 14F
  refine op_assign (ev_hit hN rfl) ?_
  refine reg_nil ?_
  refine hK1571 _ _ ?_
  refine wp_cond_false (ev_hit hN rfl) ?_
  refine seq_any fun K1573 hK1573 => ?_
  refine one_reg ?_
  refine op_move (ev_hit hN rfl) ?_
  refine op_mkfn (cv := [(ptr b1563 0)]) ⟨(ev_hit hN rfl), trivial⟩ ?_
  refine op_fn (vs := [v1567, (Value.func (.func 43) #[] #[(ptr b1563 0)])]) ok42 ⟨(ev_hit hN rfl), ⟨(ev_hit hN rfl), trivial⟩⟩ (oallW_ret (normL l) _ o _ _ _ (by omega) (show RdC w1568 0 w1568.heap.size 1 v1567 (normL l).length ((normL l).map u16v) from by have hh : RdC w1568 0 w1568.heap.size 1 _ _ _ := (hO1567.rdw.mono (L' := 0) (B' := w1568.heap.size) (Nat.zero_le _) (by omega)); first | exact hh | exact hh.cast (by first | omega | (simp; try omega)) (by first | rfl | simp [u16v])) (by omega) hB1565 (show RdC w1568 0 w1568.heap.size 1 x o.length (o.map u16v) from by have hh : RdC w1568 0 w1568.heap.size 1 _ _ _ := (ho.mono (L' := 0) (B' := w1568.heap.size) (Nat.zero_le _) (by omega)); first | exact hh | exact hh.cast (by first | omega | (simp; try omega)) (by first | rfl | simp [u16v]))) ?_
  rintro _ w1574 ⟨E1575, rfl⟩
  have E1575 := grown_of_below E1575
  have z_w1574 := E1575.size
  have ho := ho.keep0 E1575
  have hl := hl.keep0 E1575
  have hB1565 := hB1565.keep0 E1575
  have hO1567 := hO1567.keep0 E1575
  have hb := below_step0 hb E1575 hb.size
  rcases Bool.eq_false_or_eq_true ((flowsL (normL l) o)) with c19 | c19
  · -- 19T
   rw [c19]
   refine op_not (ev_hit hN rfl) ?_
   refine op_assign (ev_hit hN rfl) ?_
   refine reg_nil ?_
   refine hK1573 _ _ ?_
   refine wp_cond_false (ev_hit hN rfl) ?_
   refine wp_skip ?_
   refine hK1570 _ _ ?_
   refine seq_any fun K1576 hK1576 => ?_
   refine one_reg ?_
   refine op_assign rfl ?_
   refine reg_nil ?_
   refine hK1576 _ _ ?_
   refine wp_ret ?_
   refine ret1 rfl hd (ev_hit hN rfl) ⟨_, rfl, ?_⟩
   -- path 14F 19T
   exact ⟨hb, congrArg (Value.int .i64) (ownE_ok (by omega) c19).symm⟩
  · -- 19F
   rw [c19]
   refine op_not (ev_hit hN rfl) ?_
   refine op_assign (ev_hit hN rfl) ?_
   refine reg_nil ?_
   refine hK1573 _ _ ?_
   refine wp_cond_true (ev_hit hN rfl) ?_
   refine seq_any fun K1577 hK1577 => ?_
   refine one_reg ?_
   refine op_assign rfl ?_
   refine reg_nil ?_
   refine hK1577 _ _ ?_
   refine wp_ret (blk_ret (then_ret ( ?_)))
   refine ret1 rfl hd (ev_hit hN rfl) ⟨_, rfl, ?_⟩
   -- path 14F 19F
   exact ⟨hb, congrArg (Value.int .i64) (ownE_not (by omega) c19).symm⟩

theorem rownW_ret (o l : Lb) (x v : Value) (w : World) (hzo : o.length ≤ 100000000) (hz : l.length ≤ 100000000) (ho : RdC w 0 w.heap.size 1 x o.length (o.map u16v)) (hl : RdC w 0 w.heap.size 1 v l.length (l.map u16v)) : Ret Try.prog 15 #[x, v] w (fun v' w' => Below w.heap.size w w' ∧ v' = .int .i64 (ownE o l)) := by
 have hb := Below.refl w.heap.size w
 refine enter (N := 19) Try.func15 rfl rfl (by simp) fun a0 hN hd hA => ?_
 have s0 : a0.tmps.getD 0 undef = x := hA 0 (by simp)
 have s1 : a0.tmps.getD 1 undef = v := hA 1 (by simp)
 clear hA
 refine seq_any fun K1578 hK1578 => ?_
 refine one_reg ?_
 refine op_assign rfl ?_
 refine reg_nil ?_
 refine hK1578 _ _ ?_
 refine seq_any fun K1579 hK1579 => ?_
 refine one_reg ?_
 refine op_move (ev_base hN rfl s1) ?_
 refine op_fn (vs := [v]) ok25 ⟨(ev_hit hN rfl), trivial⟩ (rnormW_ret l _ _ (by first | assumption | omega | (simp only [List.length_append, List.length_cons, List.length_nil, List.length_drop, List.length_take]; omega) | (dsimp only; omega) | decide | (simp [keyV, be8_len]; done)) (show RdC w 0 w.heap.size 1 v l.length (l.map u16v) from by have hh : RdC w 0 w.heap.size 1 _ _ _ := (hl.mono (L' := 0) (B' := w.heap.size) (Nat.zero_le _) (by omega)); first | exact hh | exact hh.cast (by first | omega | (simp; try omega)) (by first | rfl | simp [u16v]))) ?_
 rintro _ w1581 ⟨E1582, v1580, rfl, hO1580⟩
 have E1582 := grown_of_below E1582
 have z_w1581 := E1582.size
 have ho := ho.keep0 E1582
 have hl := hl.keep0 E1582
 have hb := below_step0 hb E1582 hb.size
 have hO1580 := hO1580.mono (base' := w.heap.size) (by omega)
 have hnl1580 := normL_len l
 refine op_move (ev_hit hN rfl) ?_
 refine op_extract (ev_hit hN rfl) rfl ?_
 refine op_extract (ev_hit hN rfl) rfl ?_
 refine op_assign (ev_hit hN rfl) ?_
 refine op_assign (ev_hit hN rfl) ?_
 refine reg_nil ?_
 refine hK1579 _ _ ?_
 refine seq_any fun K1583 hK1583 => ?_
 refine seq_any fun K1584 hK1584 => ?_
 refine one_reg ?_
 refine op_move (ev_hit hN rfl) ?_
 refine op_neq (ev_hit hN rfl) rfl (fun c13 => ?_) (fun c13 => ?_)
 · -- 13T
  refine reg_nil ?_
  refine hK1584 _ _ ?_
  refine wp_cond_true (ev_hit hN rfl) ?_
  refine seq_any fun K1585 hK1585 => ?_
  refine one_reg ?_
  refine op_move (ev_hit hN rfl) ?_
  refine op_assign (ev_hit hN rfl) ?_
  refine reg_nil ?_
  refine hK1585 _ _ ?_
  refine wp_ret (then_ret ( ?_))
  refine ret1 rfl hd (ev_hit hN rfl) ⟨_, rfl, ?_⟩
  -- path 13T
  exact ⟨hb, congrArg (Value.int .i64) (ownE_bad (by omega)).symm⟩
 · -- 13F
  refine reg_nil ?_
  refine hK1584 _ _ ?_
  refine wp_cond_false (ev_hit hN rfl) ?_
  refine wp_skip ?_
  refine hK1583 _ _ ?_
  refine seq_any fun K1586 hK1586 => ?_
  refine seq_any fun K1587 hK1587 => ?_
  refine one_reg ?_
  refine op_move (ev_hit hN rfl) ?_
  refine op_move (ev_base hN rfl s0) ?_
  refine op_fn (vs := [v1580, x]) ok17 ⟨(ev_hit hN rfl), ⟨(ev_hit hN rfl), trivial⟩⟩ (rflowsW_ret (normL l) o _ _ _ (by first | assumption | omega | (simp only [List.length_append, List.length_cons, List.length_nil, List.length_drop, List.length_take]; omega) | (dsimp only; omega) | decide | (simp [keyV, be8_len]; done)) (by first | assumption | omega | (simp only [List.length_append, List.length_cons, List.length_nil, List.length_drop, List.length_take]; omega) | (dsimp only; omega) | decide | (simp [keyV, be8_len]; done)) (show RdC w1581 0 w1581.heap.size 1 v1580 (normL l).length ((normL l).map u16v) from by have hh : RdC w1581 0 w1581.heap.size 1 _ _ _ := (hO1580.rdw.mono (L' := 0) (B' := w1581.heap.size) (Nat.zero_le _) (by omega)); first | exact hh | exact hh.cast (by first | omega | (simp; try omega)) (by first | rfl | simp [u16v])) (show RdC w1581 0 w1581.heap.size 1 x o.length (o.map u16v) from by have hh : RdC w1581 0 w1581.heap.size 1 _ _ _ := (ho.mono (L' := 0) (B' := w1581.heap.size) (Nat.zero_le _) (by omega)); first | exact hh | exact hh.cast (by first | omega | (simp; try omega)) (by first | rfl | simp [u16v]))) ?_
  rintro _ w1588 ⟨E1589, rfl⟩
  have E1589 := grown_of_below E1589
  have z_w1588 := E1589.size
  have ho := ho.keep0 E1589
  have hl := hl.keep0 E1589
  have hO1580 := hO1580.keep0 E1589
  have hb := below_step0 hb E1589 hb.size
  rcases Bool.eq_false_or_eq_true ((flowsL (normL l) o)) with c17 | c17
  · -- 17T
   rw [c17]
   refine op_not (ev_hit hN rfl) ?_
   refine reg_nil ?_
   refine hK1587 _ _ ?_
   refine wp_cond_false (ev_hit hN rfl) ?_
   refine wp_skip ?_
   refine hK1586 _ _ ?_
   refine seq_any fun K1590 hK1590 => ?_
   refine one_reg ?_
   refine op_assign rfl ?_
   refine reg_nil ?_
   refine hK1590 _ _ ?_
   refine wp_ret ?_
   refine ret1 rfl hd (ev_hit hN rfl) ⟨_, rfl, ?_⟩
   -- path 13F 17T
   exact ⟨hb, congrArg (Value.int .i64) (ownE_ok (by omega) c17).symm⟩
  · -- 17F
   rw [c17]
   refine op_not (ev_hit hN rfl) ?_
   refine reg_nil ?_
   refine hK1587 _ _ ?_
   refine wp_cond_true (ev_hit hN rfl) ?_
   refine seq_any fun K1591 hK1591 => ?_
   refine one_reg ?_
   refine op_assign rfl ?_
   refine reg_nil ?_
   refine hK1591 _ _ ?_
   refine wp_ret (then_ret ( ?_))
   refine ret1 rfl hd (ev_hit hN rfl) ⟨_, rfl, ?_⟩
   -- path 13F 17F
   exact ⟨hb, congrArg (Value.int .i64) (ownE_not (by omega) c17).symm⟩

end Go.Proofs.Ytpmnljffdofkeaa

/- Walks, written by a program: what each function of the translation hands back. -/
namespace Go.Proofs.Ytpmnljffdofkeaa
open Go.Gx Go.RowKit
attribute [local irreducible] wpList wpStill Code.wp Calls

theorem labPut_ret (bl : List UInt8) (l : Lb) (v u : Value) (w : World) (hbl : bl.length ≤ 1000000000) (hl : l.length ≤ 1000000000) (hv : RdC w 0 w.heap.size 1 v bl.length (bl.map u8v)) (h : RdC w 0 w.heap.size 1 u l.length (l.map u16v)) : Ret Try.prog 34 #[v, u] w (fun v' w' => Below w.heap.size w w' ∧ Own w' w.heap.size 5 1 v' (bl.length + (putL l).length) ((bl ++ putL l).map u8v)) := by
 have hb := Below.refl w.heap.size w
 refine enter (N := 32) Try.func34 rfl rfl (by simp) fun a0 hN hd hA => ?_
 have s0 : a0.tmps.getD 0 undef = v := hA 0 (by simp)
 have s1 : a0.tmps.getD 1 undef = u := hA 1 (by simp)
 clear hA
 refine seq_any fun K1104 hK1104 => ?_
 refine one_reg ?_
 refine op_assign rfl ?_
 refine reg_nil ?_
 refine hK1104 _ _ ?_
 refine seq_any fun K1105 hK1105 => ?_
 refine one_reg ?_
 refine op_bslice (e := 5) (pv := []) (cs := []) trivial (by kernel_rfl) ?_
 intro w1106 b1107 lo_b1107 hi_b1107 hB1109 E1108
 have z_w1106 := E1108.size
 have hv := hv.keep0 E1108
 have h := h.keep0 E1108
 have hb := below_step0 hb E1108 hb.size
 refine op_move (ev_base hN rfl s0) ?_
 have hP1115 := (Own.ofBx (base := w.heap.size) (sz := 1) (n := 0) hB1109 rfl (by decide) (by omega))
 refine op_append slt39 (ev_hit hN rfl) hP1115 (ev_hit hN rfl) (Src.ofRd Try.underlying39 (by decide) hv (by simp [Value.oneCell', u8v])) (by unfold maxLen; omega) (by omega) hb.size ?_
 intro v1110 w1111 hO1113 E1112 hm1114
 have z_w1111 := E1112.size
 have hv := hv.keepO hP1115 E1112 (by omega)
 have h := h.keepO hP1115 E1112 (by omega)
 have hb := below_stepO hb hP1115 E1112 hb.size (by omega)
 have hO1113 : Own w1111 w.heap.size 5 1 v1110 (0 + bl.length) ((bl).map u8v) := by simpa [u8v, u16v, cellsV] using hO1113
 refine op_move (ev_base hN rfl s1) ?_
 refine op_len_rd Try.underlying23 (ev_hit hN rfl) h ?_
 refine op_conv (r := ((UInt8.ofNat l.length).toNat : Int)) (ev_hit hN rfl) us3 Try.underlying5 conv_u8 ?_
 refine op_bslice (e := 5) (pv := [(0, (Value.int .u8 ((UInt8.ofNat l.length).toNat : Int)))]) (cs := [(Value.int .u8 ((UInt8.ofNat l.length).toNat : Int))]) ⟨rfl, (ev_hit hN rfl), trivial⟩ (by kernel_rfl) ?_
 intro w1116 b1117 lo_b1117 hi_b1117 hB1119 E1118
 have ne_b1117_v1110 : v1110.ownBlock ≠ some b1117 := fun hh => by have := (hO1113.lt _ hh).2; omega
 have z_w1116 := E1118.size
 have hv := hv.keep0 E1118
 have h := h.keep0 E1118
 have hO1113 := hO1113.keep0 E1118
 have hb := below_step0 hb E1118 hb.size
 have hP1125 := hO1113
 refine op_append slt39 (ev_hit hN rfl) hP1125 (ev_hit hN rfl) (Src.ofRd Try.underlying39 (by decide) (RdC.ofBx (sz := 1) (n := 1) hB1119 rfl (by decide)) (by simp [Value.oneCell', u8v])) (by unfold maxLen; omega) (by omega) hb.size ?_
 intro v1120 w1121 hO1123 E1122 hm1124
 have z_w1121 := E1122.size
 have hv := hv.keepO hP1125 E1122 (by omega)
 have h := h.keepO hP1125 E1122 (by omega)
 have hB1119 := hB1119.keep E1122 (fun hh => ne_b1117_v1110 hh.symm)
 have hb := below_stepO hb hP1125 E1122 hb.size (by omega)
 have hO1123 : Own w1121 w.heap.size 5 1 v1120 ((0 + bl.length) + 1) (((bl ++ [(UInt8.ofNat l.length)])).map u8v) := by simpa [u8v, u16v, cellsV] using hO1123
 have ne_b1117_v1120 : v1120.ownBlock ≠ some b1117 := ne_step (w1 := w1116) ⟨E1122, hm1124⟩ (by omega) ne_b1117_v1110
 refine op_assign (ev_hit hN rfl) ?_
 refine reg_nil ?_
 refine hK1105 _ _ ?_
 refine seq_any fun K1126 hK1126 => ?_
 refine seq_any fun K1127 hK1127 => ?_
 refine one_reg ?_
 refine op_move (ev_base hN rfl s1) ?_
 refine op_len_rd Try.underlying23 (ev_hit hN rfl) h ?_
 refine op_move rfl ?_
 refine reg_nil ?_
 refine hK1127 _ _ ?_
 refine wp_block ?_
 refine loop_m (fun mz_ az_ w' => ∃ (i : Nat) (y : Value), mz_ = l.length - i ∧ (az_.tmps.getD 4 undef = (Value.slice none 0 0)) ∧ (az_.tmps.getD 16 undef = u) ∧ (az_.tmps.getD 17 undef = (Value.int .i64 ((l.length : Nat) : Int))) ∧ (az_.tmps.getD 18 undef = (Value.int .i64 ((i : Nat) : Int))) ∧ (az_.tmps.getD 5 undef = y) ∧ (i ≤ l.length) ∧ (Below w.heap.size w w') ∧ (w1121.heap.size ≤ w'.heap.size) ∧ (RdC w' 0 w.heap.size 1 v bl.length (bl.map u8v)) ∧ (RdC w' 0 w.heap.size 1 u l.length (l.map u16v)) ∧ (Own w' w.heap.size 5 1 y (bl.length + 1 + 2 * i) ((bl ++ UInt8.ofNat l.length :: (l.take i).flatMap be2).map u8v))) _ hN hd ⟨0, _, rfl, (sl_hit hN rfl), (sl_hit hN rfl), (sl_hit hN rfl), (sl_hit hN rfl), (sl_hit hN rfl), Nat.zero_le _, hb, (Nat.le_refl _), hv, h, (hO1123.cast (by first | omega | (simp; try omega)) (by simp))⟩ ?_
 rintro _ a1128 w1128 hN1128 hd1128 ⟨i, y, rfl, s1128_4, s1128_16, s1128_17, s1128_18, s1128_5, hi, hb, zl_w1128, hv, h, hO1129⟩
 have z_w1128 := hb.size
 refine seq_any fun K1130 hK1130 => ?_
 refine one_reg ?_
 refine op_lss (ev_base hN1128 rfl s1128_18) (ev_base hN1128 rfl s1128_17) (fun c19 => ?_) (fun c19 => ?_)
 · -- 19T
  refine reg_nil ?_
  refine hK1130 _ _ ?_
  refine seq_any fun K1131 hK1131 => ?_
  refine wp_cond_true (ev_hit hN1128 rfl) ?_
  refine wp_skip ?_
  refine hK1131 _ _ ?_
  refine seq_any fun K1132 hK1132 => ?_
  refine wp_block ?_
  refine seq_any fun K1133 hK1133 => ?_
  refine one_reg ?_
  refine op_index_rd slt23 (ev_base hN1128 rfl s1128_16) h (ev_base hN1128 rfl s1128_18) (by omega) (by omega) ?_
  intro b1134 o1135 h0b1134 h1b1134 hc1136
  refine op_load1 (v := (Value.int .u16 ((l.getD i 0).toNat : Int))) one35 (ev_hit hN1128 rfl) (by have := hc1136 0 (Value.int .u16 ((l.getD i 0).toNat : Int)) (by decide) (el_u16 (i := i) (by omega) (by omega)); simpa using this) ?_
  refine op_assign (ev_hit hN1128 rfl) ?_
  refine reg_nil ?_
  refine hK1133 _ _ ?_
  refine one_reg ?_
  refine op_move (ev_base hN1128 rfl s1128_5) ?_
  refine op_move (ev_hit hN1128 rfl) ?_
  refine op_shr (r := (((l.getD i 0).toNat / 256 : Nat) : Int)) (ev_hit hN1128 rfl) rfl (by decide) shr16 ?_
  refine op_conv (r := ((UInt8.ofNat ((l.getD i 0).toNat / 256)).toNat : Int)) (ev_hit hN1128 rfl) us35 Try.underlying5 conv_u8 ?_
  refine op_move (ev_hit hN1128 rfl) ?_
  refine op_conv (r := ((UInt8.ofNat (l.getD i 0).toNat).toNat : Int)) (ev_hit hN1128 rfl) us35 Try.underlying5 conv_u8 ?_
  refine op_bslice (e := 5) (pv := [(0, (Value.int .u8 ((UInt8.ofNat ((l.getD i 0).toNat / 256)).toNat : Int))), (1, (Value.int .u8 ((UInt8.ofNat (l.getD i 0).toNat).toNat : Int)))]) (cs := [(Value.int .u8 ((UInt8.ofNat ((l.getD i 0).toNat / 256)).toNat : Int)), (Value.int .u8 ((UInt8.ofNat (l.getD i 0).toNat).toNat : Int))]) ⟨rfl, (ev_hit hN1128 rfl), ⟨rfl, (ev_hit hN1128 rfl), trivial⟩⟩ (by kernel_rfl) ?_
  intro w1137 b1138 lo_b1138 hi_b1138 hB1140 E1139
  have ne_b1138_y : y.ownBlock ≠ some b1138 := fun hh => by have := (hO1129.lt _ hh).2; omega
  have z_w1137 := E1139.size
  have hv := hv.keep0 E1139
  have h := h.keep0 E1139
  have hO1129 := hO1129.keep0 E1139
  have hb := below_step0 hb E1139 hb.size
  have hP1146 := hO1129
  refine op_append slt39 (ev_hit hN1128 rfl) hP1146 (ev_hit hN1128 rfl) (Src.ofRd Try.underlying39 (by decide) (RdC.ofBx (sz := 1) (n := 2) hB1140 rfl (by decide)) (by simp [Value.oneCell', u8v])) (by unfold maxLen; omega) (by omega) hb.size ?_
  intro v1141 w1142 hO1144 E1143 hm1145
  have z_w1142 := E1143.size
  have hv := hv.keepO hP1146 E1143 (by omega)
  have h := h.keepO hP1146 E1143 (by omega)
  have hB1140 := hB1140.keep E1143 (fun hh => ne_b1138_y hh.symm)
  have hb := below_stepO hb hP1146 E1143 hb.size (by omega)
  have hO1144 : Own w1142 w.heap.size 5 1 v1141 ((bl.length + 1 + 2 * i) + 2) ((((bl ++ UInt8.ofNat l.length :: (l.take i).flatMap be2) ++ [(UInt8.ofNat ((l.getD i 0).toNat / 256)), (UInt8.ofNat (l.getD i 0).toNat)])).map u8v) := by simpa [u8v, u16v, cellsV] using hO1144
  have ne_b1138_v1141 : v1141.ownBlock ≠ some b1138 := ne_step (w1 := w1137) ⟨E1143, hm1145⟩ (by omega) ne_b1138_y
  refine op_assign (ev_hit hN1128 rfl) ?_
  refine reg_nil ?_
  refine hK1132 _ _ ?_
  refine one_reg ?_
  refine op_add (ev_base hN1128 rfl s1128_18) rfl (add64 (by omega)) ?_
  refine op_move (ev_hit hN1128 rfl) ?_
  refine reg_nil ?_
  -- round 19T
  exact loop_next _ hN1128 hd1128 ⟨i + 1, _, rfl, (sl_base hN1128 rfl s1128_4), (sl_base hN1128 rfl s1128_16), (sl_base hN1128 rfl s1128_17), (sl_hit hN1128 rfl).trans (congrArg (Value.int .i64) (by omega)), (sl_hit hN1128 rfl), (by omega), hb, (by omega), hv, h, (hO1144.cast (by first | omega | (simp; try omega)) (by rw [snoc (d := 0) (l := l) (i := i) (by omega), List.flatMap_append]; simp [be2]))⟩ (by omega)
 · -- 19F
  refine reg_nil ?_
  refine hK1130 _ _ ?_
  refine seq_any fun K1147 hK1147 => ?_
  refine wp_cond_false (ev_hit hN1128 rfl) ?_
  refine wp_exit (then_exit (then_exit (blk_hit ?_)))
  refine hK1126 _ _ ?_
  refine seq_any fun K1148 hK1148 => ?_
  refine one_reg ?_
  refine op_move (ev_base hN1128 rfl s1128_5) ?_
  refine op_assign (ev_hit hN1128 rfl) ?_
  refine reg_nil ?_
  refine hK1148 _ _ ?_
  refine wp_ret ?_
  refine ret1 rfl hd1128 (ev_hit hN1128 rfl) ⟨_, rfl, ?_⟩
  -- path 19F
  have ei : l.take i = l := List.take_of_length_le (by omega)
  have hq := hO1129
  rw [ei] at hq
  exact ⟨hb, hq.cast (by rw [putL_len]; omega) (by rw [putL])⟩

theorem refPut_ret (bl : List UInt8) (l : Lb) (v u : Value) (w : World) (hbl : bl.length ≤ 1000000000) (hl : l.length ≤ 1000000000) (hv : RdC w 0 w.heap.size 1 v bl.length (bl.map u8v)) (h : RdC w 0 w.heap.size 1 u l.length (l.map u16v)) : Ret Try.prog 35 #[v, u] w (fun v' w' => Below w.heap.size w w' ∧ Own w' w.heap.size 5 1 v' (bl.length + (putL l).length) ((bl ++ putL l).map u8v)) := by
 have hb := Below.refl w.heap.size w
 refine enter (N := 36) Try.func35 rfl rfl (by simp) fun a0 hN hd hA => ?_
 have s0 : a0.tmps.getD 0 undef = v := hA 0 (by simp)
 have s1 : a0.tmps.getD 1 undef = u := hA 1 (by simp)
 clear hA
 refine seq_any fun K1149 hK1149 => ?_
 refine one_reg ?_
 refine op_assign rfl ?_
 refine reg_nil ?_
 refine hK1149 _ _ ?_
 refine seq_any fun K1150 hK1150 => ?_
 refine one_reg ?_
 refine op_bslice (e := 5) (pv := []) (cs := []) trivial (by kernel_rfl) ?_
 intro w1151 b1152 lo_b1152 hi_b1152 hB1154 E1153
 have z_w1151 := E1153.size
 have hv := hv.keep0 E1153
 have h := h.keep0 E1153
 have hb := below_step0 hb E1153 hb.size
 refine op_move (ev_base hN rfl s0) ?_
 have hP1160 := (Own.ofBx (base := w.heap.size) (sz := 1) (n := 0) hB1154 rfl (by decide) (by omega))
 refine op_append slt39 (ev_hit hN rfl) hP1160 (ev_hit hN rfl) (Src.ofRd Try.underlying39 (by decide) hv (by simp [Value.oneCell', u8v])) (by unfold maxLen; omega) (by omega) hb.size ?_
 intro v1155 w1156 hO1158 E1157 hm1159
 have z_w1156 := E1157.size
 have hv := hv.keepO hP1160 E1157 (by omega)
 have h := h.keepO hP1160 E1157 (by omega)
 have hb := below_stepO hb hP1160 E1157 hb.size (by omega)
 have hO1158 : Own w1156 w.heap.size 5 1 v1155 (0 + bl.length) ((bl).map u8v) := by simpa [u8v, u16v, cellsV] using hO1158
 refine op_move (ev_base hN rfl s1) ?_
 refine op_len_rd Try.underlying23 (ev_hit hN rfl) h ?_
 refine op_conv (r := ((UInt8.ofNat l.length).toNat : Int)) (ev_hit hN rfl) us3 Try.underlying5 conv_u8 ?_
 refine op_bslice (e := 5) (pv := [(0, (Value.int .u8 ((UInt8.ofNat l.length).toNat : Int)))]) (cs := [(Value.int .u8 ((UInt8.ofNat l.length).toNat : Int))]) ⟨rfl, (ev_hit hN rfl), trivial⟩ (by kernel_rfl) ?_
 intro w1161 b1162 lo_b1162 hi_b1162 hB1164 E1163
 have ne_b1162_v1155 : v1155.ownBlock ≠ some b1162 := fun hh => by have := (hO1158.lt _ hh).2; omega
 have z_w1161 := E1163.size
 have hv := hv.keep0 E1163
 have h := h.keep0 E1163
 have hO1158 := hO1158.keep0 E1163
 have hb := below_step0 hb E1163 hb.size
 have hP1170 := hO1158
 refine op_append slt39 (ev_hit hN rfl) hP1170 (ev_hit hN rfl) (Src.ofRd Try.underlying39 (by decide) (RdC.ofBx (sz := 1) (n := 1) hB1164 rfl (by decide)) (by simp [Value.oneCell', u8v])) (by unfold maxLen; omega) (by omega) hb.size ?_
 intro v1165 w1166 hO1168 E1167 hm1169
 have z_w1166 := E1167.size
 have hv := hv.keepO hP1170 E1167 (by omega)
 have h := h.keepO hP1170 E1167 (by omega)
 have hB1164 := hB1164.keep E1167 (fun hh => ne_b1162_v1155 hh.symm)
 have hb := below_stepO hb hP1170 E1167 hb.size (by omega)
 have hO1168 : Own w1166 w.heap.size 5 1 v1165 ((0 + bl.length) + 1) (((bl ++ [(UInt8.ofNat l.length)])).map u8v) := by simpa [u8v, u16v, cellsV] using hO1168
 have ne_b1162_v1165 : v1165.ownBlock ≠ some b1162 := ne_step (w1 := w1161) ⟨E1167, hm1169⟩ (by omega) ne_b1162_v1155
 refine op_assign (ev_hit hN rfl) ?_
 refine reg_nil ?_
 refine hK1150 _ _ ?_
 refine seq_any fun K1171 hK1171 => ?_
 refine seq_any fun K1172 hK1172 => ?_
 refine one_reg ?_
 refine op_assign rfl ?_
 refine reg_nil ?_
 refine hK1172 _ _ ?_
 refine wp_block ?_
 refine loop_m (fun mz_ az_ w' => ∃ (i : Nat) (y : Value), mz_ = l.length - i ∧ (az_.tmps.getD 1 undef = u) ∧ (az_.tmps.getD 4 undef = (Value.slice none 0 0)) ∧ (az_.tmps.getD 5 undef = (Value.int .i64 ((i : Nat) : Int))) ∧ (az_.tmps.getD 0 undef = y) ∧ (i ≤ l.length) ∧ (Below w.heap.size w w') ∧ (w1166.heap.size ≤ w'.heap.size) ∧ (RdC w' 0 w.heap.size 1 v bl.length (bl.map u8v)) ∧ (RdC w' 0 w.heap.size 1 u l.length (l.map u16v)) ∧ (Own w' w.heap.size 5 1 y (bl.length + 1 + 2 * i) ((bl ++ UInt8.ofNat l.length :: (l.take i).flatMap be2).map u8v))) _ hN hd ⟨0, _, rfl, (sl_base hN rfl s1), (sl_hit hN rfl), (sl_hit hN rfl), (sl_hit hN rfl), Nat.zero_le _, hb, (Nat.le_refl _), hv, h, (hO1168.cast (by first | omega | (simp; try omega)) (by simp))⟩ ?_
 rintro _ a1173 w1173 hN1173 hd1173 ⟨i, y, rfl, s1173_1, s1173_4, s1173_5, s1173_0, hi, hb, zl_w1173, hv, h, hO1174⟩
 have z_w1173 := hb.size
 refine seq_any fun K1175 hK1175 => ?_
 refine seq_any fun K1176 hK1176 => ?_
 refine one_reg ?_
 refine op_move (ev_base hN1173 rfl s1173_5) ?_
 refine op_move (ev_base hN1173 rfl s1173_1) ?_
 refine op_len_rd Try.underlying23 (ev_hit hN1173 rfl) h ?_
 refine op_lss (ev_hit hN1173 rfl) (ev_hit hN1173 rfl) (fun c17 => ?_) (fun c17 => ?_)
 · -- 17T
  refine reg_nil ?_
  refine hK1176 _ _ ?_
  refine wp_cond_true (ev_hit hN1173 rfl) ?_
  refine wp_skip ?_
  refine hK1175 _ _ ?_
  refine seq_any fun K1177 hK1177 => ?_
  refine wp_block ?_
  refine reg_split (hd := [_, _, _, _, _, _, _, _, _, _, _, _, _, _]) (tl := _) 14 mixed (by kernel_rfl) rfl rfl ?_
  refine any_quiet (Φ := phiL [(fun uz _ => uz = y), (fun uz _ => uz = u), (fun uz _ => uz = (Value.int .i64 ((i : Nat) : Int))), (fun uz w' => ∃ (b1178 : (Nat)) (o1179 : (Nat)), uz = (ptr b1178 o1179) ∧ PtC w' 0 w.heap.size b1178 o1179 [(Value.int .u16 ((l.getD i 0).toNat : Int))]), (fun uz _ => uz = (Value.int .u16 ((l.getD i 0).toNat : Int))), (fun uz _ => uz = (Value.int .u16 (((l.getD i 0).toNat / 256 : Nat) : Int))), (fun uz _ => uz = (Value.int .u8 ((UInt8.ofNat ((l.getD i 0).toNat / 256)).toNat : Int))), (fun uz _ => uz = u), (fun uz _ => uz = (Value.int .i64 ((i : Nat) : Int))), (fun uz w' => ∃ (b1182 : (Nat)) (o1183 : (Nat)), uz = (ptr b1182 o1183) ∧ PtC w' 0 w.heap.size b1182 o1183 [(Value.int .u16 ((l.getD i 0).toNat : Int))]), (fun uz _ => uz = (Value.int .u16 ((l.getD i 0).toNat : Int))), (fun uz _ => uz = (Value.int .u16 (((l.getD i 0).toNat % 256 : Nat) : Int))), (fun uz _ => uz = (Value.int .u8 ((UInt8.ofNat ((l.getD i 0).toNat % 256)).toNat : Int))), (fun uz w' => ∃ (b1187 : Nat), uz = (Value.slice (some ⟨b1187, 0, none⟩) 2 2) ∧ w1173.heap.size ≤ b1187 ∧ Bx w' b1187 5 [(Value.int .u8 ((UInt8.ofNat ((l.getD i 0).toNat / 256)).toNat : Int)), (Value.int .u8 ((UInt8.ofNat ((l.getD i 0).toNat % 256)).toNat : Int))])]) (by kernel_rfl) (by kernel_rfl) (by kernel_rfl) hN1173 (StL.get (StL.eq (StL.eq (StL.eq (StL.cons (fun u w1 w2 E h => by obtain ⟨x0, x1, hv, f0⟩ := h; exact ⟨x0, x1, hv, f0.keep0 E⟩) (StL.eq (StL.eq (StL.eq (StL.eq (StL.eq (StL.cons (fun u w1 w2 E h => by obtain ⟨x0, x1, hv, f0⟩ := h; exact ⟨x0, x1, hv, f0.keep0 E⟩) (StL.eq (StL.eq (StL.eq (StL.cons (fun u w1 w2 E h => by obtain ⟨x0, hv, l0, f0⟩ := h; exact ⟨x0, hv, l0, f0.keep0 E⟩) (StL.nil _)))))))))))))))) (ObL.get (s := 14) (ObL.cons ?_ (ObL.cons ?_ (ObL.cons ?_ (ObL.cons ?_ (ObL.cons ?_ (ObL.cons ?_ (ObL.cons ?_ (ObL.cons ?_ (ObL.cons ?_ (ObL.cons ?_ (ObL.cons ?_ (ObL.cons ?_ (ObL.cons ?_ (ObL.cons ?_ (ObL.nil))))))))))))))) rfl) ?_
  ·
   intro aA wA hNA hRA hbsA hdpA
   have qA_0 := (hbsA 0 rfl).trans (sl_base hN1173 rfl s1173_0)
   refine op_move (ev_base hNA rfl qA_0) ?_
   exact obN_end rfl rfl (grown_refl _ _)
  ·
   intro aA wA hNA hRA hbsA hdpA
   have qA_1 := (hbsA 1 rfl).trans (sl_base hN1173 rfl s1173_1)
   refine op_move (ev_base hNA rfl qA_1) ?_
   exact obN_end rfl rfl (grown_refl _ _)
  ·
   intro aA wA hNA hRA hbsA hdpA
   have qA_5 := (hbsA 5 rfl).trans (sl_base hN1173 rfl s1173_5)
   refine op_move (ev_base hNA rfl qA_5) ?_
   exact obN_end rfl rfl (grown_refl _ _)
  ·
   intro aA wA hNA hRA hbsA hdpA
   have hRA : w1173.grownBy wA none := hRA
   have z_wA := hRA.size
   have hv := hv.keep0 hRA
   have h := h.keep0 hRA
   have hO1174 := hO1174.keep0 hRA
   have hb := below_step0 hb hRA hb.size
   have qA_21 : Sl aA 21 u := hdpA 1 _ 21 (by kernel_rfl) rfl rfl
   have qA_22 : Sl aA 22 (Value.int .i64 ((i : Nat) : Int)) := hdpA 2 _ 22 (by kernel_rfl) rfl rfl
   clear hbsA hdpA
   refine op_index_rd slt23 (ev_base hNA rfl qA_21) h (ev_base hNA rfl qA_22) (by omega) (by omega) ?_
   intro b1178 o1179 h0b1178 h1b1178 hc1180
   have hp1181 : PtC wA 0 w.heap.size b1178 o1179 [(Value.int .u16 ((l.getD i 0).toNat : Int))] := ⟨by omega, by omega, fun j u hu => hc1180 j u (by have := (List.getElem?_eq_some_iff.1 hu).1; simpa using this) ((fun j u hu => one_at (el_u16 (i := i) (by omega) (by omega)) hu) j u hu)⟩
   exact obN_end rfl ⟨b1178, o1179, rfl, hp1181⟩ (grown_refl _ _)
  ·
   intro aA wA hNA hRA hbsA hdpA
   have hRA : w1173.grownBy wA none := hRA
   have z_wA := hRA.size
   have hv := hv.keep0 hRA
   have h := h.keep0 hRA
   have hO1174 := hO1174.keep0 hRA
   have hb := below_step0 hb hRA hb.size
   obtain ⟨b1178, o1179, qA_23, hp1181⟩ := hdpA 3 _ 23 (by kernel_rfl) rfl rfl
   have hp1181 : PtC wA 0 w.heap.size b1178 o1179 [(Value.int .u16 ((l.getD i 0).toNat : Int))] := hp1181
   clear hbsA hdpA
   refine op_load1 (v := (Value.int .u16 ((l.getD i 0).toNat : Int))) one35 (ev_base hNA rfl qA_23) (hp1181.2.2 0 _ rfl) ?_
   exact obN_end rfl rfl (grown_refl _ _)
  ·
   intro aA wA hNA hRA hbsA hdpA
   have qA_24 : Sl aA 24 (Value.int .u16 ((l.getD i 0).toNat : Int)) := hdpA 4 _ 24 (by kernel_rfl) rfl rfl
   refine op_quo (r := (((l.getD i 0).toNat / 256 : Nat) : Int)) (ev_base hNA rfl qA_24) rfl (by decide) quo16 ?_
   exact obN_end rfl rfl (grown_refl _ _)
  ·
   intro aA wA hNA hRA hbsA hdpA
   have hRA : w1173.grownBy wA none := hRA
   have z_wA := hRA.size
   have hv := hv.keep0 hRA
   have h := h.keep0 hRA
   have hO1174 := hO1174.keep0 hRA
   have hb := below_step0 hb hRA hb.size
   have qA_25 : Sl aA 25 (Value.int .u16 (((l.getD i 0).toNat / 256 : Nat) : Int)) := hdpA 5 _ 25 (by kernel_rfl) rfl rfl
   clear hbsA hdpA
   refine op_conv (r := ((UInt8.ofNat ((l.getD i 0).toNat / 256)).toNat : Int)) (ev_base hNA rfl qA_25) us35 Try.underlying5 conv_u8 ?_
   exact obN_end rfl rfl (grown_refl _ _)
  ·
   intro aA wA hNA hRA hbsA hdpA
   have qA_1 := (hbsA 1 rfl).trans (sl_base hN1173 rfl s1173_1)
   refine op_move (ev_base hNA rfl qA_1) ?_
   exact obN_end rfl rfl (grown_refl _ _)
  ·
   intro aA wA hNA hRA hbsA hdpA
   have qA_5 := (hbsA 5 rfl).trans (sl_base hN1173 rfl s1173_5)
   refine op_move (ev_base hNA rfl qA_5) ?_
   exact obN_end rfl rfl (grown_refl _ _)
  ·
   intro aA wA hNA hRA hbsA hdpA
   have hRA : w1173.grownBy wA none := hRA
   have z_wA := hRA.size
   have hv := hv.keep0 hRA
   have h := h.keep0 hRA
   have hO1174 := hO1174.keep0 hRA
   have hb := below_step0 hb hRA hb.size
   have qA_27 : Sl aA 27 u := hdpA 7 _ 27 (by kernel_rfl) rfl rfl
   have qA_28 : Sl aA 28 (Value.int .i64 ((i : Nat) : Int)) := hdpA 8 _ 28 (by kernel_rfl) rfl rfl
   clear hbsA hdpA
   refine op_index_rd slt23 (ev_base hNA rfl qA_27) h (ev_base hNA rfl qA_28) (by omega) (by omega) ?_
   intro b1182 o1183 h0b1182 h1b1182 hc1184
   have hp1185 : PtC wA 0 w.heap.size b1182 o1183 [(Value.int .u16 ((l.getD i 0).toNat : Int))] := ⟨by omega, by omega, fun j u hu => hc1184 j u (by have := (List.getElem?_eq_some_iff.1 hu).1; simpa using this) ((fun j u hu => one_at (el_u16 (i := i) (by omega) (by omega)) hu) j u hu)⟩
   exact obN_end rfl ⟨b1182, o1183, rfl, hp1185⟩ (grown_refl _ _)
  ·
   intro aA wA hNA hRA hbsA hdpA
   have hRA : w1173.grownBy wA none := hRA
   have z_wA := hRA.size
   have hv := hv.keep0 hRA
   have h := h.keep0 hRA
   have hO1174 := hO1174.keep0 hRA
   have hb := below_step0 hb hRA hb.size
   obtain ⟨b1182, o1183, qA_29, hp1185⟩ := hdpA 9 _ 29 (by kernel_rfl) rfl rfl
   have hp1185 : PtC wA 0 w.heap.size b1182 o1183 [(Value.int .u16 ((l.getD i 0).toNat : Int))] := hp1185
   clear hbsA hdpA
   refine op_load1 (v := (Value.int .u16 ((l.getD i 0).toNat : Int))) one35 (ev_base hNA rfl qA_29) (hp1185.2.2 0 _ rfl) ?_
   exact obN_end rfl rfl (grown_refl _ _)
  ·
   intro aA wA hNA hRA hbsA hdpA
   have qA_30 : Sl aA 30 (Value.int .u16 ((l.getD i 0).toNat : Int)) := hdpA 10 _ 30 (by kernel_rfl) rfl rfl
   refine op_rem (r := (((l.getD i 0).toNat % 256 : Nat) : Int)) (ev_base hNA rfl qA_30) rfl (by decide) rem_256 ?_
   exact obN_end rfl rfl (grown_refl _ _)
  ·
   intro aA wA hNA hRA hbsA hdpA
   have hRA : w1173.grownBy wA none := hRA
   have z_wA := hRA.size
   have hv := hv.keep0 hRA
   have h := h.keep0 hRA
   have hO1174 := hO1174.keep0 hRA
   have hb := below_step0 hb hRA hb.size
   have qA_31 : Sl aA 31 (Value.int .u16 (((l.getD i 0).toNat % 256 : Nat) : Int)) := hdpA 11 _ 31 (by kernel_rfl) rfl rfl
   clear hbsA hdpA
   refine op_conv (r := ((UInt8.ofNat ((l.getD i 0).toNat % 256)).toNat : Int)) (ev_base hNA rfl qA_31) us35 Try.underlying5 conv_u8 ?_
   exact obN_end rfl rfl (grown_refl _ _)
  ·
   intro aA wA hNA hRA hbsA hdpA
   have hRA : w1173.grownBy wA none := hRA
   have z_wA := hRA.size
   have hv := hv.keep0 hRA
   have h := h.keep0 hRA
   have hO1174 := hO1174.keep0 hRA
   have hb := below_step0 hb hRA hb.size
   have qA_26 : Sl aA 26 (Value.int .u8 ((UInt8.ofNat ((l.getD i 0).toNat / 256)).toNat : Int)) := hdpA 6 _ 26 (by kernel_rfl) rfl rfl
   have qA_32 : Sl aA 32 (Value.int .u8 ((UInt8.ofNat ((l.getD i 0).toNat % 256)).toNat : Int)) := hdpA 12 _ 32 (by kernel_rfl) rfl rfl
   clear hbsA hdpA
   refine op_bslice (e := 5) (pv := [(0, (Value.int .u8 ((UInt8.ofNat ((l.getD i 0).toNat / 256)).toNat : Int))), (1, (Value.int .u8 ((UInt8.ofNat ((l.getD i 0).toNat % 256)).toNat : Int)))]) (cs := [(Value.int .u8 ((UInt8.ofNat ((l.getD i 0).toNat / 256)).toNat : Int)), (Value.int .u8 ((UInt8.ofNat ((l.getD i 0).toNat % 256)).toNat : Int))]) ⟨rfl, (ev_base hNA rfl qA_26), ⟨rfl, (ev_base hNA rfl qA_32), trivial⟩⟩ (by kernel_rfl) ?_
   intro w1186 b1187 lo_b1187 hi_b1187 hB1189 E1188
   have ne_b1187_y : y.ownBlock ≠ some b1187 := fun hh => by have := (hO1174.lt _ hh).2; omega
   have z_w1186 := E1188.size
   have hv := hv.keep0 E1188
   have h := h.keep0 E1188
   have hO1174 := hO1174.keep0 E1188
   have hb := below_step0 hb E1188 hb.size
   exact obN_end rfl ⟨b1187, rfl, (by omega), hB1189⟩ (E1188)
  ·
   intro a1190 w1190 hN1190 hd1190 hbs1190 hph1190 E1190
   have hd1190 := hd1190.trans hd1173
   have s1190_0 := (hbs1190 0 rfl).trans (sl_base hN1173 rfl s1173_0)
   have s1190_1 := (hbs1190 1 rfl).trans (sl_base hN1173 rfl s1173_1)
   have s1190_4 := (hbs1190 4 rfl).trans (sl_base hN1173 rfl s1173_4)
   have s1190_5 := (hbs1190 5 rfl).trans (sl_base hN1173 rfl s1173_5)
   have s1190_20 : Sl a1190 20 y := hph1190 0 _ 20 rfl rfl
   obtain ⟨b1187, s1190_33, l1190_0, hB1189⟩ := hph1190 13 _ 33 rfl rfl
   have hB1189 : Bx w1190 b1187 5 [(Value.int .u8 ((UInt8.ofNat ((l.getD i 0).toNat / 256)).toNat : Int)), (Value.int .u8 ((UInt8.ofNat ((l.getD i 0).toNat % 256)).toNat : Int))] := hB1189
   clear hbs1190 hph1190
   have E1190 : w1173.grownBy w1190 none := E1190
   have z_w1190 := E1190.size
   have hv := hv.keep0 E1190
   have h := h.keep0 E1190
   have hO1174 := hO1174.keep0 E1190
   have hb := below_step0 hb E1190 hb.size
   refine split_end ?_
   refine from_seq (tl := [_, _]) (by decide) (by kernel_rfl) rfl ?_
   have hP1196 := hO1174
   refine op_append slt39 (ev_base hN1190 rfl s1190_20) hP1196 (ev_base hN1190 rfl s1190_33) (Src.ofRd Try.underlying39 (by decide) (RdC.ofBx (sz := 1) (n := 2) hB1189 rfl (by decide)) (by simp [Value.oneCell', u8v])) (by unfold maxLen; omega) (by omega) hb.size ?_
   intro v1191 w1192 hO1194 E1193 hm1195
   have z_w1192 := E1193.size
   have hv := hv.keepO hP1196 E1193 (by omega)
   have h := h.keepO hP1196 E1193 (by omega)
   have hb := below_stepO hb hP1196 E1193 hb.size (by omega)
   have hO1194 : Own w1192 w.heap.size 5 1 v1191 ((bl.length + 1 + 2 * i) + 2) ((((bl ++ UInt8.ofNat l.length :: (l.take i).flatMap be2) ++ [(UInt8.ofNat ((l.getD i 0).toNat / 256)), (UInt8.ofNat ((l.getD i 0).toNat % 256))])).map u8v) := by simpa [u8v, u16v, cellsV] using hO1194
   refine op_assign (ev_hit hN1190 rfl) ?_
   refine reg_nil ?_
   refine hK1177 _ _ ?_
   refine one_reg ?_
   refine op_move (ev_base hN1190 rfl s1190_5) ?_
   refine op_add (ev_hit hN1190 rfl) rfl (add64 (by omega)) ?_
   refine op_assign (ev_hit hN1190 rfl) ?_
   refine reg_nil ?_
   -- round 17T
   exact loop_next _ hN1190 hd1190 ⟨i + 1, _, rfl, (sl_base hN1190 rfl s1190_1), (sl_base hN1190 rfl s1190_4), (sl_hit hN1190 rfl).trans (congrArg (Value.int .i64) (by omega)), (sl_hit hN1190 rfl), (by omega), hb, (by omega), hv, h, (hO1194.cast (by first | omega | (simp; try omega)) (by rw [snoc (d := 0) (l := l) (i := i) (by omega), List.flatMap_append]; simp [be2, ofNat_mod]))⟩ (by omega)
 · -- 17F
  refine reg_nil ?_
  refine hK1176 _ _ ?_
  refine wp_cond_false (ev_hit hN1173 rfl) ?_
  refine wp_exit (then_exit (then_exit (blk_hit ?_)))
  refine hK1171 _ _ ?_
  refine seq_any fun K1197 hK1197 => ?_
  refine one_reg ?_
  refine op_move (ev_base hN1173 rfl s1173_0) ?_
  refine op_assign (ev_hit hN1173 rfl) ?_
  refine reg_nil ?_
  refine hK1197 _ _ ?_
  refine wp_ret ?_
  refine ret1 rfl hd1173 (ev_hit hN1173 rfl) ⟨_, rfl, ?_⟩
  -- path 17F
  have ei : l.take i = l := List.take_of_length_le (by omega)
  have hq := hO1174
  rw [ei] at hq
  exact ⟨hb, hq.cast (by rw [putL_len]; omega) (by rw [putL])⟩

theorem labTake_ret (bl : List UInt8) (v : Value) (w : World) (hl : bl.length ≤ 1000000000000) (hv : RdC w 0 w.heap.size 1 v bl.length (bl.map u8v)) : Ret Try.prog 38 #[v] w (fun v' w' => Below w.heap.size w w' ∧ ∃ u, v' = .tuple #[u, .int .i64 (takeL bl).2.1, .int .i64 (takeL bl).2.2] ∧ Own w' w.heap.size 35 1 u (takeL bl).1.length ((takeL bl).1.map u16v)) := by
 have hb := Below.refl w.heap.size w
 refine enter (N := 51) Try.func38 rfl rfl (by simp) fun a0 hN hd hA => ?_
 have s0 : a0.tmps.getD 0 undef = v := hA 0 (by simp)
 clear hA
 refine seq_any fun K1198 hK1198 => ?_
 refine one_reg ?_
 refine op_assign rfl ?_
 refine op_assign rfl ?_
 refine op_assign rfl ?_
 refine reg_nil ?_
 refine hK1198 _ _ ?_
 refine seq_any fun K1199 hK1199 => ?_
 refine seq_any fun K1200 hK1200 => ?_
 refine one_reg ?_
 refine op_move (ev_base hN rfl s0) ?_
 refine op_len_rd Try.underlying39 (ev_hit hN rfl) hv ?_
 refine op_eql (ev_hit hN rfl) rfl (fun c9 => ?_) (fun c9 => ?_)
 · -- 9T
  refine reg_nil ?_
  refine hK1200 _ _ ?_
  refine wp_cond_true (ev_hit hN rfl) ?_
  refine seq_any fun K1201 hK1201 => ?_
  refine one_reg ?_
  refine op_assign rfl ?_
  refine op_assign rfl ?_
  refine op_assign rfl ?_
  refine reg_nil ?_
  refine hK1201 _ _ ?_
  refine wp_ret (then_ret ( ?_))
  refine retN (rs := [.tmp 2, .tmp 3, .tmp 4]) (vs := [(Value.slice none 0 0), (Value.int .i64 0), (Value.int .i64 2)]) rfl hd ⟨(ev_hit hN rfl), ⟨(ev_hit hN rfl), ⟨(ev_hit hN rfl), trivial⟩⟩⟩ rfl ⟨_, rfl, ?_⟩
  -- path 9T
  have hc0 := (bl.getD 0 0).toNat_lt
  have e : takeL bl = ([], 0, 2) := by rw [takeL, if_pos (by omega)]
  exact ⟨hb, _, by rw [e]; rfl, by rw [e]; exact Own.nil _ _ _ _⟩
 · -- 9F
  refine reg_nil ?_
  refine hK1200 _ _ ?_
  refine wp_cond_false (ev_hit hN rfl) ?_
  refine wp_skip ?_
  refine hK1199 _ _ ?_
  refine seq_any fun K1202 hK1202 => ?_
  refine one_reg ?_
  refine op_move (ev_base hN rfl s0) ?_
  refine op_index_rd slt39 (ev_hit hN rfl) hv rfl (by omega) (by omega) ?_
  intro b1203 o1204 h0b1203 h1b1203 hc1205
  refine op_load1 (v := (Value.int .u8 ((bl.getD 0 0).toNat : Int))) one5 (ev_hit hN rfl) (by have := hc1205 0 (Value.int .u8 ((bl.getD 0 0).toNat : Int)) (by decide) (el_u8 (i := 0) (by omega) (by omega)); simpa using this) ?_
  refine op_conv (r := ((bl.getD 0 0).toNat : Int)) (ev_hit hN rfl) us5 Try.underlying3 (wrap_i64 (by have := ((bl.getD 0 0)).toNat_lt; omega)) ?_
  refine op_assign (ev_hit hN rfl) ?_
  refine reg_nil ?_
  refine hK1202 _ _ ?_
  refine seq_any fun K1206 hK1206 => ?_
  refine one_reg ?_
  refine op_move (ev_hit hN rfl) ?_
  have hc0 := (bl.getD 0 0).toNat_lt
  refine op_mul rfl (ev_hit hN rfl) (mul64 (by omega)) ?_
  have hc0 := (bl.getD 0 0).toNat_lt
  refine op_add rfl (ev_hit hN rfl) (add64 (by omega)) ?_
  refine op_assign (ev_hit hN rfl) ?_
  refine reg_nil ?_
  refine hK1206 _ _ ?_
  refine seq_any fun K1207 hK1207 => ?_
  refine wp_block ?_
  refine seq_any fun K1208 hK1208 => ?_
  refine one_reg ?_
  refine op_move (ev_hit hN rfl) ?_
  refine op_gtr (ev_hit hN rfl) rfl (fun c19 => ?_) (fun c19 => ?_)
  · -- 19T
   refine op_assign (ev_hit hN rfl) ?_
   refine reg_nil ?_
   refine hK1208 _ _ ?_
   refine wp_cond_true (ev_hit hN rfl) ?_
   refine seq_any fun K1209 hK1209 => ?_
   refine one_reg ?_
   refine op_assign rfl ?_
   refine op_assign rfl ?_
   refine op_assign rfl ?_
   refine reg_nil ?_
   refine hK1209 _ _ ?_
   refine wp_ret (blk_ret (then_ret ( ?_)))
   refine retN (rs := [.tmp 2, .tmp 3, .tmp 4]) (vs := [(Value.slice none 0 0), (Value.int .i64 0), (Value.int .i64 3)]) rfl hd ⟨(ev_hit hN rfl), ⟨(ev_hit hN rfl), ⟨(ev_hit hN rfl), trivial⟩⟩⟩ rfl ⟨_, rfl, ?_⟩
   -- path 9F 19T
   have hc0 := (bl.getD 0 0).toNat_lt
   have e : takeL bl = ([], 0, 3) := by rw [takeL, if_neg (by omega), if_pos (by omega)]
   exact ⟨hb, _, by rw [e]; rfl, by rw [e]; exact Own.nil _ _ _ _⟩
  · -- 19F
   refine op_assign (ev_hit hN rfl) ?_
   refine reg_nil ?_
   refine hK1208 _ _ ?_
   refine wp_cond_false (ev_hit hN rfl) ?_
   refine seq_any fun K1210 hK1210 => ?_
   refine one_reg ?_
   refine op_move (ev_base hN rfl s0) ?_
   refine op_len_rd Try.underlying39 (ev_hit hN rfl) hv ?_
   refine op_move (ev_hit hN rfl) ?_
   refine op_lss (ev_hit hN rfl) (ev_hit hN rfl) (fun c24 => ?_) (fun c24 => ?_)
   · -- 24T
    refine op_assign (ev_hit hN rfl) ?_
    refine reg_nil ?_
    refine hK1210 _ _ ?_
    refine wp_cond_true (ev_hit hN rfl) ?_
    refine seq_any fun K1211 hK1211 => ?_
    refine one_reg ?_
    refine op_assign rfl ?_
    refine op_assign rfl ?_
    refine op_assign rfl ?_
    refine reg_nil ?_
    refine hK1211 _ _ ?_
    refine wp_ret (blk_ret (then_ret ( ?_)))
    refine retN (rs := [.tmp 2, .tmp 3, .tmp 4]) (vs := [(Value.slice none 0 0), (Value.int .i64 0), (Value.int .i64 2)]) rfl hd ⟨(ev_hit hN rfl), ⟨(ev_hit hN rfl), ⟨(ev_hit hN rfl), trivial⟩⟩⟩ rfl ⟨_, rfl, ?_⟩
    -- path 9F 19F 24T
    have hc0 := (bl.getD 0 0).toNat_lt
    have e : takeL bl = ([], 0, 2) := by rw [takeL, if_neg (by omega), if_neg (by omega), if_pos (by omega)]
    exact ⟨hb, _, by rw [e]; rfl, by rw [e]; exact Own.nil _ _ _ _⟩
   · -- 24F
    refine op_assign (ev_hit hN rfl) ?_
    refine reg_nil ?_
    refine hK1210 _ _ ?_
    refine wp_cond_false (ev_hit hN rfl) ?_
    refine wp_skip ?_
    refine hK1207 _ _ ?_
    refine seq_any fun K1212 hK1212 => ?_
    refine seq_any fun K1213 hK1213 => ?_
    refine one_reg ?_
    refine op_assign rfl ?_
    refine reg_nil ?_
    refine hK1213 _ _ ?_
    refine wp_block ?_
    have hc0 := (bl.getD 0 0).toNat_lt
    refine loop_m (fun mz_ az_ w' => ∃ (i : Nat) (u : Value), mz_ = (bl.getD 0 0).toNat - i ∧ (az_.tmps.getD 0 undef = v) ∧ (az_.tmps.getD 3 undef = (Value.int .i64 (1 + (2 * ((bl.getD 0 0).toNat : Int))))) ∧ (az_.tmps.getD 4 undef = (Value.int .i64 0)) ∧ (az_.tmps.getD 6 undef = (Value.int .i64 (1 + 2 * (i : Int)))) ∧ (az_.tmps.getD 2 undef = u) ∧ (i ≤ (bl.getD 0 0).toNat) ∧ (Below w.heap.size w w') ∧ (w.heap.size ≤ w'.heap.size) ∧ (RdC w' 0 w.heap.size 1 v bl.length (bl.map u8v)) ∧ (Own w' w.heap.size 35 1 u i ((tagsL i bl).map u16v))) _ hN hd ⟨0, _, rfl, (sl_base hN rfl s0), (sl_hit hN rfl), (sl_hit hN rfl), (sl_hit hN rfl).trans (congrArg (Value.int .i64) (by omega)), (sl_hit hN rfl), Nat.zero_le _, hb, (Nat.le_refl _), hv, (Own.nil _ _ _ _)⟩ ?_
    rintro _ a1214 w1214 hN1214 hd1214 ⟨i, u, rfl, s1214_0, s1214_3, s1214_4, s1214_6, s1214_2, hi, hb, zl_w1214, hv, hO1215⟩
    have z_w1214 := hb.size
    refine seq_any fun K1216 hK1216 => ?_
    refine seq_any fun K1217 hK1217 => ?_
    refine one_reg ?_
    refine op_move (ev_base hN1214 rfl s1214_6) ?_
    refine op_move (ev_base hN1214 rfl s1214_3) ?_
    refine op_lss (ev_hit hN1214 rfl) (ev_hit hN1214 rfl) (fun c27 => ?_) (fun c27 => ?_)
    · -- 27T
     refine reg_nil ?_
     refine hK1217 _ _ ?_
     refine wp_cond_true (ev_hit hN1214 rfl) ?_
     refine wp_skip ?_
     refine hK1216 _ _ ?_
     refine seq_any fun K1218 hK1218 => ?_
     refine wp_block ?_
     refine reg_split (hd := [_, _, _, _, _, _, _, _, _, _, _, _, _, _, _]) (tl := _) 15 mixed (by kernel_rfl) rfl rfl ?_
     refine any_quiet (Φ := phiL [(fun uz _ => uz = u), (fun uz _ => uz = v), (fun uz _ => uz = (Value.int .i64 (1 + 2 * (i : Int)))), (fun uz w' => ∃ (b1219 : (Nat)) (o1220 : (Nat)), uz = (ptr b1219 o1220) ∧ PtC w' 0 w.heap.size b1219 o1220 [(Value.int .u8 ((bl.getD (1 + 2 * i) 0).toNat : Int))]), (fun uz _ => uz = (Value.int .u8 ((bl.getD (1 + 2 * i) 0).toNat : Int))), (fun uz _ => uz = (Value.int .u16 ((bl.getD (1 + 2 * i) 0).toNat : Int))), (fun uz _ => uz = (Value.int .u16 (((bl.getD (1 + 2 * i) 0).toNat * 256 : Nat) : Int))), (fun uz _ => uz = v), (fun uz _ => uz = (Value.int .i64 (1 + 2 * (i : Int)))), (fun uz _ => uz = (Value.int .i64 ((1 + 2 * (i : Int)) + 1))), (fun uz w' => ∃ (b1223 : (Nat)) (o1224 : (Nat)), uz = (ptr b1223 o1224) ∧ PtC w' 0 w.heap.size b1223 o1224 [(Value.int .u8 ((bl.getD (2 + 2 * i) 0).toNat : Int))]), (fun uz _ => uz = (Value.int .u8 ((bl.getD (2 + 2 * i) 0).toNat : Int))), (fun uz _ => uz = (Value.int .u16 ((bl.getD (2 + 2 * i) 0).toNat : Int))), (fun uz _ => uz = (Value.int .u16 ((UInt16.ofNat ((bl.getD (1 + 2 * i) 0).toNat * 256 + (bl.getD (2 + 2 * i) 0).toNat)).toNat : Int))), (fun uz w' => ∃ (b1228 : Nat), uz = (Value.slice (some ⟨b1228, 0, none⟩) 1 1) ∧ w1214.heap.size ≤ b1228 ∧ Bx w' b1228 35 [(Value.int .u16 ((UInt16.ofNat ((bl.getD (1 + 2 * i) 0).toNat * 256 + (bl.getD (2 + 2 * i) 0).toNat)).toNat : Int))])]) (by kernel_rfl) (by kernel_rfl) (by kernel_rfl) hN1214 (StL.get (StL.eq (StL.eq (StL.eq (StL.cons (fun u w1 w2 E h => by obtain ⟨x0, x1, hv, f0⟩ := h; exact ⟨x0, x1, hv, f0.keep0 E⟩) (StL.eq (StL.eq (StL.eq (StL.eq (StL.eq (StL.eq (StL.cons (fun u w1 w2 E h => by obtain ⟨x0, x1, hv, f0⟩ := h; exact ⟨x0, x1, hv, f0.keep0 E⟩) (StL.eq (StL.eq (StL.eq (StL.cons (fun u w1 w2 E h => by obtain ⟨x0, hv, l0, f0⟩ := h; exact ⟨x0, hv, l0, f0.keep0 E⟩) (StL.nil _))))))))))))))))) (ObL.get (s := 15) (ObL.cons ?_ (ObL.cons ?_ (ObL.cons ?_ (ObL.cons ?_ (ObL.cons ?_ (ObL.cons ?_ (ObL.cons ?_ (ObL.cons ?_ (ObL.cons ?_ (ObL.cons ?_ (ObL.cons ?_ (ObL.cons ?_ (ObL.cons ?_ (ObL.cons ?_ (ObL.cons ?_ (ObL.nil)))))))))))))))) rfl) ?_
     ·
      intro aA wA hNA hRA hbsA hdpA
      have qA_2 := (hbsA 2 rfl).trans (sl_base hN1214 rfl s1214_2)
      refine op_move (ev_base hNA rfl qA_2) ?_
      exact obN_end rfl rfl (grown_refl _ _)
     ·
      intro aA wA hNA hRA hbsA hdpA
      have qA_0 := (hbsA 0 rfl).trans (sl_base hN1214 rfl s1214_0)
      refine op_move (ev_base hNA rfl qA_0) ?_
      exact obN_end rfl rfl (grown_refl _ _)
     ·
      intro aA wA hNA hRA hbsA hdpA
      have qA_6 := (hbsA 6 rfl).trans (sl_base hN1214 rfl s1214_6)
      refine op_move (ev_base hNA rfl qA_6) ?_
      exact obN_end rfl rfl (grown_refl _ _)
     ·
      intro aA wA hNA hRA hbsA hdpA
      have hRA : w1214.grownBy wA none := hRA
      have z_wA := hRA.size
      have hv := hv.keep0 hRA
      have hO1215 := hO1215.keep0 hRA
      have hb := below_step0 hb hRA hb.size
      have qA_31 : Sl aA 31 v := hdpA 1 _ 31 (by kernel_rfl) rfl rfl
      have qA_32 : Sl aA 32 (Value.int .i64 (1 + 2 * (i : Int))) := hdpA 2 _ 32 (by kernel_rfl) rfl rfl
      clear hbsA hdpA
      refine op_index_rd slt39 (ev_base hNA rfl qA_31) hv (ev_base hNA rfl qA_32) (by omega) (by omega) ?_
      intro b1219 o1220 h0b1219 h1b1219 hc1221
      have hp1222 : PtC wA 0 w.heap.size b1219 o1220 [(Value.int .u8 ((bl.getD (1 + 2 * i) 0).toNat : Int))] := ⟨by omega, by omega, fun j u hu => hc1221 j u (by have := (List.getElem?_eq_some_iff.1 hu).1; simpa using this) ((fun j u hu => one_at (el_u8 (i := (1 + 2 * i)) (by omega) (by omega)) hu) j u hu)⟩
      exact obN_end rfl ⟨b1219, o1220, rfl, hp1222⟩ (grown_refl _ _)
     ·
      intro aA wA hNA hRA hbsA hdpA
      have hRA : w1214.grownBy wA none := hRA
      have z_wA := hRA.size
      have hv := hv.keep0 hRA
      have hO1215 := hO1215.keep0 hRA
      have hb := below_step0 hb hRA hb.size
      obtain ⟨b1219, o1220, qA_33, hp1222⟩ := hdpA 3 _ 33 (by kernel_rfl) rfl rfl
      have hp1222 : PtC wA 0 w.heap.size b1219 o1220 [(Value.int .u8 ((bl.getD (1 + 2 * i) 0).toNat : Int))] := hp1222
      clear hbsA hdpA
      refine op_load1 (v := (Value.int .u8 ((bl.getD (1 + 2 * i) 0).toNat : Int))) one5 (ev_base hNA rfl qA_33) (hp1222.2.2 0 _ rfl) ?_
      exact obN_end rfl rfl (grown_refl _ _)
     ·
      intro aA wA hNA hRA hbsA hdpA
      have hRA : w1214.grownBy wA none := hRA
      have z_wA := hRA.size
      have hv := hv.keep0 hRA
      have hO1215 := hO1215.keep0 hRA
      have hb := below_step0 hb hRA hb.size
      have qA_34 : Sl aA 34 (Value.int .u8 ((bl.getD (1 + 2 * i) 0).toNat : Int)) := hdpA 4 _ 34 (by kernel_rfl) rfl rfl
      clear hbsA hdpA
      refine op_conv (r := ((bl.getD (1 + 2 * i) 0).toNat : Int)) (ev_base hNA rfl qA_34) us5 Try.underlying35 (wrap_u16 (by have := ((bl.getD (1 + 2 * i) 0)).toNat_lt; omega)) ?_
      exact obN_end rfl rfl (grown_refl _ _)
     ·
      intro aA wA hNA hRA hbsA hdpA
      have qA_35 : Sl aA 35 (Value.int .u16 ((bl.getD (1 + 2 * i) 0).toNat : Int)) := hdpA 5 _ 35 (by kernel_rfl) rfl rfl
      refine op_shl (r := (((bl.getD (1 + 2 * i) 0).toNat * 256 : Nat) : Int)) (ev_base hNA rfl qA_35) rfl (by decide) shl16 ?_
      exact obN_end rfl rfl (grown_refl _ _)
     ·
      intro aA wA hNA hRA hbsA hdpA
      have qA_0 := (hbsA 0 rfl).trans (sl_base hN1214 rfl s1214_0)
      refine op_move (ev_base hNA rfl qA_0) ?_
      exact obN_end rfl rfl (grown_refl _ _)
     ·
      intro aA wA hNA hRA hbsA hdpA
      have qA_6 := (hbsA 6 rfl).trans (sl_base hN1214 rfl s1214_6)
      refine op_move (ev_base hNA rfl qA_6) ?_
      exact obN_end rfl rfl (grown_refl _ _)
     ·
      intro aA wA hNA hRA hbsA hdpA
      have qA_38 : Sl aA 38 (Value.int .i64 (1 + 2 * (i : Int))) := hdpA 8 _ 38 (by kernel_rfl) rfl rfl
      refine op_add (ev_base hNA rfl qA_38) rfl (add64 (by omega)) ?_
      exact obN_end rfl rfl (grown_refl _ _)
     ·
      intro aA wA hNA hRA hbsA hdpA
      have hRA : w1214.grownBy wA none := hRA
      have z_wA := hRA.size
      have hv := hv.keep0 hRA
      have hO1215 := hO1215.keep0 hRA
      have hb := below_step0 hb hRA hb.size
      have qA_37 : Sl aA 37 v := hdpA 7 _ 37 (by kernel_rfl) rfl rfl
      have qA_39 : Sl aA 39 (Value.int .i64 ((1 + 2 * (i : Int)) + 1)) := hdpA 9 _ 39 (by kernel_rfl) rfl rfl
      clear hbsA hdpA
      refine op_index_rd slt39 (ev_base hNA rfl qA_37) hv (ev_base hNA rfl qA_39) (by omega) (by omega) ?_
      intro b1223 o1224 h0b1223 h1b1223 hc1225
      have hp1226 : PtC wA 0 w.heap.size b1223 o1224 [(Value.int .u8 ((bl.getD (2 + 2 * i) 0).toNat : Int))] := ⟨by omega, by omega, fun j u hu => hc1225 j u (by have := (List.getElem?_eq_some_iff.1 hu).1; simpa using this) ((fun j u hu => one_at (el_u8 (i := (2 + 2 * i)) (by omega) (by omega)) hu) j u hu)⟩
      exact obN_end rfl ⟨b1223, o1224, rfl, hp1226⟩ (grown_refl _ _)
     ·
      intro aA wA hNA hRA hbsA hdpA
      have hRA : w1214.grownBy wA none := hRA
      have z_wA := hRA.size
      have hv := hv.keep0 hRA
      have hO1215 := hO1215.keep0 hRA
      have hb := below_step0 hb hRA hb.size
      obtain ⟨b1223, o1224, qA_40, hp1226⟩ := hdpA 10 _ 40 (by kernel_rfl) rfl rfl
      have hp1226 : PtC wA 0 w.heap.size b1223 o1224 [(Value.int .u8 ((bl.getD (2 + 2 * i) 0).toNat : Int))] := hp1226
      clear hbsA hdpA
      refine op_load1 (v := (Value.int .u8 ((bl.getD (2 + 2 * i) 0).toNat : Int))) one5 (ev_base hNA rfl qA_40) (hp1226.2.2 0 _ rfl) ?_
      exact obN_end rfl rfl (grown_refl _ _)
     ·
      intro aA wA hNA hRA hbsA hdpA
      have hRA : w1214.grownBy wA none := hRA
      have z_wA := hRA.size
      have hv := hv.keep0 hRA
      have hO1215 := hO1215.keep0 hRA
      have hb := below_step0 hb hRA hb.size
      have qA_41 : Sl aA 41 (Value.int .u8 ((bl.getD (2 + 2 * i) 0).toNat : Int)) := hdpA 11 _ 41 (by kernel_rfl) rfl rfl
      clear hbsA hdpA
      refine op_conv (r := ((bl.getD (2 + 2 * i) 0).toNat : Int)) (ev_base hNA rfl qA_41) us5 Try.underlying35 (wrap_u16 (by have := ((bl.getD (2 + 2 * i) 0)).toNat_lt; omega)) ?_
      exact obN_end rfl rfl (grown_refl _ _)
     ·
      intro aA wA hNA hRA hbsA hdpA
      have qA_36 : Sl aA 36 (Value.int .u16 (((bl.getD (1 + 2 * i) 0).toNat * 256 : Nat) : Int)) := hdpA 6 _ 36 (by kernel_rfl) rfl rfl
      have qA_42 : Sl aA 42 (Value.int .u16 ((bl.getD (2 + 2 * i) 0).toNat : Int)) := hdpA 12 _ 42 (by kernel_rfl) rfl rfl
      refine op_or (r := ((UInt16.ofNat ((bl.getD (1 + 2 * i) 0).toNat * 256 + (bl.getD (2 + 2 * i) 0).toNat)).toNat : Int)) (ev_base hNA rfl qA_36) (ev_base hNA rfl qA_42) or16' ?_
      exact obN_end rfl rfl (grown_refl _ _)
     ·
      intro aA wA hNA hRA hbsA hdpA
      have hRA : w1214.grownBy wA none := hRA
      have z_wA := hRA.size
      have hv := hv.keep0 hRA
      have hO1215 := hO1215.keep0 hRA
      have hb := below_step0 hb hRA hb.size
      have qA_43 : Sl aA 43 (Value.int .u16 ((UInt16.ofNat ((bl.getD (1 + 2 * i) 0).toNat * 256 + (bl.getD (2 + 2 * i) 0).toNat)).toNat : Int)) := hdpA 13 _ 43 (by kernel_rfl) rfl rfl
      clear hbsA hdpA
      refine op_bslice (e := 35) (pv := [(0, (Value.int .u16 ((UInt16.ofNat ((bl.getD (1 + 2 * i) 0).toNat * 256 + (bl.getD (2 + 2 * i) 0).toNat)).toNat : Int)))]) (cs := [(Value.int .u16 ((UInt16.ofNat ((bl.getD (1 + 2 * i) 0).toNat * 256 + (bl.getD (2 + 2 * i) 0).toNat)).toNat : Int))]) ⟨rfl, (ev_base hNA rfl qA_43), trivial⟩ (by kernel_rfl) ?_
      intro w1227 b1228 lo_b1228 hi_b1228 hB1230 E1229
      have ne_b1228_u : u.ownBlock ≠ some b1228 := fun hh => by have := (hO1215.lt _ hh).2; omega
      have z_w1227 := E1229.size
      have hv := hv.keep0 E1229
      have hO1215 := hO1215.keep0 E1229
      have hb := below_step0 hb E1229 hb.size
      exact obN_end rfl ⟨b1228, rfl, (by omega), hB1230⟩ (E1229)
     ·
      intro a1231 w1231 hN1231 hd1231 hbs1231 hph1231 E1231
      have hd1231 := hd1231.trans hd1214
      have s1231_0 := (hbs1231 0 rfl).trans (sl_base hN1214 rfl s1214_0)
      have s1231_2 := (hbs1231 2 rfl).trans (sl_base hN1214 rfl s1214_2)
      have s1231_3 := (hbs1231 3 rfl).trans (sl_base hN1214 rfl s1214_3)
      have s1231_4 := (hbs1231 4 rfl).trans (sl_base hN1214 rfl s1214_4)
      have s1231_6 := (hbs1231 6 rfl).trans (sl_base hN1214 rfl s1214_6)
      have s1231_30 : Sl a1231 30 u := hph1231 0 _ 30 rfl rfl
      obtain ⟨b1228, s1231_44, l1231_0, hB1230⟩ := hph1231 14 _ 44 rfl rfl
      have hB1230 : Bx w1231 b1228 35 [(Value.int .u16 ((UInt16.ofNat ((bl.getD (1 + 2 * i) 0).toNat * 256 + (bl.getD (2 + 2 * i) 0).toNat)).toNat : Int))] := hB1230
      clear hbs1231 hph1231
      have E1231 : w1214.grownBy w1231 none := E1231
      have z_w1231 := E1231.size
      have hv := hv.keep0 E1231
      have hO1215 := hO1215.keep0 E1231
      have hb := below_step0 hb E1231 hb.size
      refine split_end ?_
      refine from_seq (tl := [_, _]) (by decide) (by kernel_rfl) rfl ?_
      have hP1237 := hO1215
      refine op_append slt23 (ev_base hN1231 rfl s1231_30) hP1237 (ev_base hN1231 rfl s1231_44) (Src.ofRd Try.underlying23 (by decide) (RdC.ofBx (sz := 1) (n := 1) hB1230 rfl (by decide)) (by simp [Value.oneCell', u8v])) (by unfold maxLen; omega) (by omega) hb.size ?_
      intro v1232 w1233 hO1235 E1234 hm1236
      have z_w1233 := E1234.size
      have hv := hv.keepO hP1237 E1234 (by omega)
      have hb := below_stepO hb hP1237 E1234 hb.size (by omega)
      have hO1235 : Own w1233 w.heap.size 35 1 v1232 (i + 1) ((((tagsL i bl) ++ [(UInt16.ofNat ((bl.getD (1 + 2 * i) 0).toNat * 256 + (bl.getD (2 + 2 * i) 0).toNat))])).map u16v) := by simpa [u8v, u16v, cellsV] using hO1235
      refine op_assign (ev_hit hN1231 rfl) ?_
      refine reg_nil ?_
      refine hK1218 _ _ ?_
      refine one_reg ?_
      refine op_move (ev_base hN1231 rfl s1231_6) ?_
      refine op_add (ev_hit hN1231 rfl) rfl (add64 (by omega)) ?_
      refine op_assign (ev_hit hN1231 rfl) ?_
      refine reg_nil ?_
      -- round 9F 19F 24F 27T
      exact loop_next _ hN1231 hd1231 ⟨i + 1, _, rfl, (sl_base hN1231 rfl s1231_0), (sl_base hN1231 rfl s1231_3), (sl_base hN1231 rfl s1231_4), (sl_hit hN1231 rfl).trans (congrArg (Value.int .i64) (by omega)), (sl_hit hN1231 rfl), (by omega), hb, (by omega), hv, (hO1235.cast (by first | omega | (simp; try omega)) (by first | (rw [tags_step]; done) | (rw [tags_step]; simp [u16v])))⟩ (by omega)
    · -- 27F
     refine reg_nil ?_
     refine hK1217 _ _ ?_
     refine wp_cond_false (ev_hit hN1214 rfl) ?_
     refine wp_exit (then_exit (then_exit (blk_hit ?_)))
     refine hK1212 _ _ ?_
     refine seq_any fun K1238 hK1238 => ?_
     refine seq_any fun K1239 hK1239 => ?_
     refine one_reg ?_
     refine op_move (ev_base hN1214 rfl s1214_2) ?_
     have htl := tags_len i bl
     refine op_fn (vs := [u]) ok47 ⟨(ev_hit hN1214 rfl), trivial⟩ (rises_ret (tagsL i bl) _ _ (by first | assumption | omega | (simp only [List.length_append, List.length_cons, List.length_nil, List.length_drop, List.length_take]; omega) | (dsimp only; omega) | decide | (simp [keyV, be8_len]; done)) (show RdC w1214 0 w1214.heap.size 1 u (tagsL i bl).length ((tagsL i bl).map u16v) from by have hh : RdC w1214 0 w1214.heap.size 1 _ _ _ := (hO1215.rdw.mono (L' := 0) (B' := w1214.heap.size) (Nat.zero_le _) (by omega)); first | exact hh | exact hh.cast (by first | omega | (simp; try omega)) (by first | rfl | simp [u16v]))) ?_
     rintro _ w1240 ⟨E1241, rfl⟩
     have E1241 := grown_of_below E1241
     have z_w1240 := E1241.size
     have hv := hv.keep0 E1241
     have hO1215 := hO1215.keep0 E1241
     have hb := below_step0 hb E1241 hb.size
     rcases Bool.eq_false_or_eq_true ((decide (Rise (tagsL i bl)))) with c47 | c47
     · -- 47T
      rw [c47]
      refine op_not (ev_hit hN1214 rfl) ?_
      refine reg_nil ?_
      refine hK1239 _ _ ?_
      refine wp_cond_false (ev_hit hN1214 rfl) ?_
      refine wp_skip ?_
      refine hK1238 _ _ ?_
      refine seq_any fun K1242 hK1242 => ?_
      refine one_reg ?_
      refine op_move (ev_base hN1214 rfl s1214_2) ?_
      refine op_move (ev_base hN1214 rfl s1214_3) ?_
      refine op_assign (ev_hit hN1214 rfl) ?_
      refine op_assign (ev_hit hN1214 rfl) ?_
      refine op_assign rfl ?_
      refine reg_nil ?_
      refine hK1242 _ _ ?_
      refine wp_ret ?_
      refine retN (rs := [.tmp 2, .tmp 3, .tmp 4]) (vs := [u, (Value.int .i64 (1 + (2 * ((bl.getD 0 0).toNat : Int)))), (Value.int .i64 0)]) rfl hd1214 ⟨(ev_hit hN1214 rfl), ⟨(ev_hit hN1214 rfl), ⟨(ev_hit hN1214 rfl), trivial⟩⟩⟩ rfl ⟨_, rfl, ?_⟩
      -- path 9F 19F 24F 27F 47T
      have hi2 : i = (bl.getD 0 0).toNat := by omega
      subst hi2
      have e : takeL bl = (tagsL (bl.getD 0 0).toNat bl, ((1 + 2 * (bl.getD 0 0).toNat : Nat) : Int), 0) := by rw [takeL, if_neg (by omega), if_neg (by omega), if_neg (by omega), if_pos (of_decide_eq_true c47)]
      exact ⟨hb, _, by rw [e]; exact congrArg (fun q : Int => Value.tuple #[_, .int .i64 q, _]) (show (1 + 2 * ((bl.getD 0 0).toNat : Int)) = ((1 + 2 * (bl.getD 0 0).toNat : Nat) : Int) by omega), by rw [e]; exact hO1215.cast (tags_len _ _).symm rfl⟩
     · -- 47F
      rw [c47]
      refine op_not (ev_hit hN1214 rfl) ?_
      refine reg_nil ?_
      refine hK1239 _ _ ?_
      refine wp_cond_true (ev_hit hN1214 rfl) ?_
      refine seq_any fun K1243 hK1243 => ?_
      refine one_reg ?_
      refine op_assign rfl ?_
      refine op_assign rfl ?_
      refine op_assign rfl ?_
      refine reg_nil ?_
      refine hK1243 _ _ ?_
      refine wp_ret (then_ret ( ?_))
      refine retN (rs := [.tmp 2, .tmp 3, .tmp 4]) (vs := [(Value.slice none 0 0), (Value.int .i64 0), (Value.int .i64 3)]) rfl hd1214 ⟨(ev_hit hN1214 rfl), ⟨(ev_hit hN1214 rfl), ⟨(ev_hit hN1214 rfl), trivial⟩⟩⟩ rfl ⟨_, rfl, ?_⟩
      -- path 9F 19F 24F 27F 47F
      have hi2 : i = (bl.getD 0 0).toNat := by omega
      subst hi2
      have e : takeL bl = ([], 0, 3) := by rw [takeL, if_neg (by omega), if_neg (by omega), if_neg (by omega), if_neg (of_decide_eq_false c47)]
      exact ⟨hb, _, by rw [e]; rfl, by rw [e]; exact Own.nil _ _ _ _⟩

theorem refTake_ret (bl : List UInt8) (v : Value) (w : World) (hl : bl.length ≤ 1000000000000) (hv : RdC w 0 w.heap.size 1 v bl.length (bl.map u8v)) : Ret Try.prog 39 #[v] w (fun v' w' => Below w.heap.size w w' ∧ ∃ u, v' = .tuple #[u, .int .i64 (takeL bl).2.1, .int .i64 (takeL bl).2.2] ∧ Own w' w.heap.size 35 1 u (takeL bl).1.length ((takeL bl).1.map u16v)) := by
 have hb := Below.refl w.heap.size w
 refine enter (N := 54) Try.func39 rfl rfl (by simp) fun a0 hN hd hA => ?_
 have s0 : a0.tmps.getD 0 undef = v := hA 0 (by simp)
 clear hA
 refine seq_any fun K1244 hK1244 => ?_
 refine one_reg ?_
 refine op_assign rfl ?_
 refine op_assign rfl ?_
 refine op_assign rfl ?_
 refine reg_nil ?_
 refine hK1244 _ _ ?_
 refine seq_any fun K1245 hK1245 => ?_
 refine seq_any fun K1246 hK1246 => ?_
 refine one_reg ?_
 refine op_move (ev_base hN rfl s0) ?_
 refine op_len_rd Try.underlying39 (ev_hit hN rfl) hv ?_
 refine op_lss (ev_hit hN rfl) rfl (fun c10 => ?_) (fun c10 => ?_)
 · -- 10T
  refine reg_nil ?_
  refine hK1246 _ _ ?_
  refine wp_cond_true (ev_hit hN rfl) ?_
  refine seq_any fun K1247 hK1247 => ?_
  refine one_reg ?_
  refine op_assign rfl ?_
  refine op_assign rfl ?_
  refine op_assign rfl ?_
  refine reg_nil ?_
  refine hK1247 _ _ ?_
  refine wp_ret (then_ret ( ?_))
  refine retN (rs := [.tmp 2, .tmp 3, .tmp 4]) (vs := [(Value.slice none 0 0), (Value.int .i64 0), (Value.int .i64 2)]) rfl hd ⟨(ev_hit hN rfl), ⟨(ev_hit hN rfl), ⟨(ev_hit hN rfl), trivial⟩⟩⟩ rfl ⟨_, rfl, ?_⟩
  -- path 10T
  have hc0 := (bl.getD 0 0).toNat_lt
  have e : takeL bl = ([], 0, 2) := by rw [takeL, if_pos (by omega)]
  exact ⟨hb, _, by rw [e]; rfl, by rw [e]; exact Own.nil _ _ _ _⟩
 · -- 10F
  refine reg_nil ?_
  refine hK1246 _ _ ?_
  refine wp_cond_false (ev_hit hN rfl) ?_
  refine wp_skip ?_
  refine hK1245 _ _ ?_
  refine seq_any fun K1248 hK1248 => ?_
  refine one_reg ?_
  refine op_move (ev_base hN rfl s0) ?_
  refine op_index_rd slt39 (ev_hit hN rfl) hv rfl (by omega) (by omega) ?_
  intro b1249 o1250 h0b1249 h1b1249 hc1251
  refine op_load1 (v := (Value.int .u8 ((bl.getD 0 0).toNat : Int))) one5 (ev_hit hN rfl) (by have := hc1251 0 (Value.int .u8 ((bl.getD 0 0).toNat : Int)) (by decide) (el_u8 (i := 0) (by omega) (by omega)); simpa using this) ?_
  refine op_conv (r := ((bl.getD 0 0).toNat : Int)) (ev_hit hN rfl) us5 Try.underlying3 (wrap_i64 (by have := ((bl.getD 0 0)).toNat_lt; omega)) ?_
  refine op_assign (ev_hit hN rfl) ?_
  refine reg_nil ?_
  refine hK1248 _ _ ?_
  refine seq_any fun K1252 hK1252 => ?_
  refine seq_any fun K1253 hK1253 => ?_
  refine one_reg ?_
  refine op_move (ev_hit hN rfl) ?_
  refine op_gtr (ev_hit hN rfl) rfl (fun c16 => ?_) (fun c16 => ?_)
  · -- 16T
   refine reg_nil ?_
   refine hK1253 _ _ ?_
   refine wp_cond_true (ev_hit hN rfl) ?_
   refine seq_any fun K1254 hK1254 => ?_
   refine one_reg ?_
   refine op_assign rfl ?_
   refine op_assign rfl ?_
   refine op_assign rfl ?_
   refine reg_nil ?_
   refine hK1254 _ _ ?_
   refine wp_ret (then_ret ( ?_))
   refine retN (rs := [.tmp 2, .tmp 3, .tmp 4]) (vs := [(Value.slice none 0 0), (Value.int .i64 0), (Value.int .i64 3)]) rfl hd ⟨(ev_hit hN rfl), ⟨(ev_hit hN rfl), ⟨(ev_hit hN rfl), trivial⟩⟩⟩ rfl ⟨_, rfl, ?_⟩
   -- path 10F 16T
   have hc0 := (bl.getD 0 0).toNat_lt
   have e : takeL bl = ([], 0, 3) := by rw [takeL, if_neg (by omega), if_pos (by omega)]
   exact ⟨hb, _, by rw [e]; rfl, by rw [e]; exact Own.nil _ _ _ _⟩
  · -- 16F
   refine reg_nil ?_
   refine hK1253 _ _ ?_
   refine wp_cond_false (ev_hit hN rfl) ?_
   refine wp_skip ?_
   refine hK1252 _ _ ?_
   refine seq_any fun K1255 hK1255 => ?_
   refine seq_any fun K1256 hK1256 => ?_
   refine one_reg ?_
   refine op_move (ev_base hN rfl s0) ?_
   refine op_len_rd Try.underlying39 (ev_hit hN rfl) hv ?_
   refine op_move (ev_hit hN rfl) ?_
   have hc0 := (bl.getD 0 0).toNat_lt
   refine op_mul rfl (ev_hit hN rfl) (mul64 (by omega)) ?_
   have hc0 := (bl.getD 0 0).toNat_lt
   refine op_add rfl (ev_hit hN rfl) (add64 (by omega)) ?_
   refine op_lss (ev_hit hN rfl) (ev_hit hN rfl) (fun c22 => ?_) (fun c22 => ?_)
   · -- 22T
    refine reg_nil ?_
    refine hK1256 _ _ ?_
    refine wp_cond_true (ev_hit hN rfl) ?_
    refine seq_any fun K1257 hK1257 => ?_
    refine one_reg ?_
    refine op_assign rfl ?_
    refine op_assign rfl ?_
    refine op_assign rfl ?_
    refine reg_nil ?_
    refine hK1257 _ _ ?_
    refine wp_ret (then_ret ( ?_))
    refine retN (rs := [.tmp 2, .tmp 3, .tmp 4]) (vs := [(Value.slice none 0 0), (Value.int .i64 0), (Value.int .i64 2)]) rfl hd ⟨(ev_hit hN rfl), ⟨(ev_hit hN rfl), ⟨(ev_hit hN rfl), trivial⟩⟩⟩ rfl ⟨_, rfl, ?_⟩
    -- path 10F 16F 22T
    have hc0 := (bl.getD 0 0).toNat_lt
    have e : takeL bl = ([], 0, 2) := by rw [takeL, if_neg (by omega), if_neg (by omega), if_pos (by omega)]
    exact ⟨hb, _, by rw [e]; rfl, by rw [e]; exact Own.nil _ _ _ _⟩
   · -- 22F
    refine reg_nil ?_
    refine hK1256 _ _ ?_
    refine wp_cond_false (ev_hit hN rfl) ?_
    refine wp_skip ?_
    refine hK1255 _ _ ?_
    refine seq_any fun K1258 hK1258 => ?_
    refine one_reg ?_
    refine op_assign rfl ?_
    refine reg_nil ?_
    refine hK1258 _ _ ?_
    refine seq_any fun K1259 hK1259 => ?_
    refine seq_any fun K1260 hK1260 => ?_
    refine one_reg ?_
    refine op_assign rfl ?_
    refine reg_nil ?_
    refine hK1260 _ _ ?_
    refine wp_block ?_
    have hc0 := (bl.getD 0 0).toNat_lt
    refine loop_m (fun mz_ az_ w' => ∃ (i : Nat) (u : Value), mz_ = (bl.getD 0 0).toNat - i ∧ (az_.tmps.getD 0 undef = v) ∧ (az_.tmps.getD 2 undef = (Value.slice none 0 0)) ∧ (az_.tmps.getD 3 undef = (Value.int .i64 0)) ∧ (az_.tmps.getD 4 undef = (Value.int .i64 0)) ∧ (az_.tmps.getD 5 undef = (Value.int .i64 ((bl.getD 0 0).toNat : Int))) ∧ (az_.tmps.getD 7 undef = (Value.int .i64 ((i : Nat) : Int))) ∧ (az_.tmps.getD 6 undef = u) ∧ (i ≤ (bl.getD 0 0).toNat) ∧ (Below w.heap.size w w') ∧ (w.heap.size ≤ w'.heap.size) ∧ (RdC w' 0 w.heap.size 1 v bl.length (bl.map u8v)) ∧ (Own w' w.heap.size 35 1 u i ((tagsL i bl).map u16v))) _ hN hd ⟨0, _, rfl, (sl_base hN rfl s0), (sl_hit hN rfl), (sl_hit hN rfl), (sl_hit hN rfl), (sl_hit hN rfl), (sl_hit hN rfl).trans (congrArg (Value.int .i64) (by omega)), (sl_hit hN rfl), Nat.zero_le _, hb, (Nat.le_refl _), hv, (Own.nil _ _ _ _)⟩ ?_
    rintro _ a1261 w1261 hN1261 hd1261 ⟨i, u, rfl, s1261_0, s1261_2, s1261_3, s1261_4, s1261_5, s1261_7, s1261_6, hi, hb, zl_w1261, hv, hO1262⟩
    have z_w1261 := hb.size
    refine seq_any fun K1263 hK1263 => ?_
    refine seq_any fun K1264 hK1264 => ?_
    refine one_reg ?_
    refine op_move (ev_base hN1261 rfl s1261_7) ?_
    refine op_move (ev_base hN1261 rfl s1261_5) ?_
    refine op_lss (ev_hit hN1261 rfl) (ev_hit hN1261 rfl) (fun c25 => ?_) (fun c25 => ?_)
    · -- 25T
     refine reg_nil ?_
     refine hK1264 _ _ ?_
     refine wp_cond_true (ev_hit hN1261 rfl) ?_
     refine wp_skip ?_
     refine hK1263 _ _ ?_
     refine seq_any fun K1265 hK1265 => ?_
     refine wp_block ?_
     refine reg_split (hd := [_, _, _, _, _, _, _, _, _, _, _, _, _, _, _, _, _, _]) (tl := _) 18 mixed (by kernel_rfl) rfl rfl ?_
     refine any_quiet (Φ := phiL [(fun uz _ => uz = u), (fun uz _ => uz = v), (fun uz _ => uz = (Value.int .i64 ((i : Nat) : Int))), (fun uz _ => uz = (Value.int .i64 (2 * ((i : Nat) : Int)))), (fun uz _ => uz = (Value.int .i64 (1 + (2 * ((i : Nat) : Int))))), (fun uz w' => ∃ (b1266 : (Nat)) (o1267 : (Nat)), uz = (ptr b1266 o1267) ∧ PtC w' 0 w.heap.size b1266 o1267 [(Value.int .u8 ((bl.getD (1 + (2 * i)) 0).toNat : Int))]), (fun uz _ => uz = (Value.int .u8 ((bl.getD (1 + (2 * i)) 0).toNat : Int))), (fun uz _ => uz = (Value.int .u16 ((bl.getD (1 + (2 * i)) 0).toNat : Int))), (fun uz _ => uz = (Value.int .u16 (((bl.getD (1 + 2 * i) 0).toNat * 256 : Nat) : Int))), (fun uz _ => uz = v), (fun uz _ => uz = (Value.int .i64 ((i : Nat) : Int))), (fun uz _ => uz = (Value.int .i64 (2 * ((i : Nat) : Int)))), (fun uz _ => uz = (Value.int .i64 (2 + (2 * ((i : Nat) : Int))))), (fun uz w' => ∃ (b1270 : (Nat)) (o1271 : (Nat)), uz = (ptr b1270 o1271) ∧ PtC w' 0 w.heap.size b1270 o1271 [(Value.int .u8 ((bl.getD (2 + (2 * i)) 0).toNat : Int))]), (fun uz _ => uz = (Value.int .u8 ((bl.getD (2 + (2 * i)) 0).toNat : Int))), (fun uz _ => uz = (Value.int .u16 ((bl.getD (2 + (2 * i)) 0).toNat : Int))), (fun uz _ => uz = (Value.int .u16 ((UInt16.ofNat ((bl.getD (1 + 2 * i) 0).toNat * 256 + (bl.getD (2 + 2 * i) 0).toNat)).toNat : Int))), (fun uz w' => ∃ (b1275 : Nat), uz = (Value.slice (some ⟨b1275, 0, none⟩) 1 1) ∧ w1261.heap.size ≤ b1275 ∧ Bx w' b1275 35 [(Value.int .u16 ((UInt16.ofNat ((bl.getD (1 + 2 * i) 0).toNat * 256 + (bl.getD (2 + 2 * i) 0).toNat)).toNat : Int))])]) (by kernel_rfl) (by kernel_rfl) (by kernel_rfl) hN1261 (StL.get (StL.eq (StL.eq (StL.eq (StL.eq (StL.eq (StL.cons (fun u w1 w2 E h => by obtain ⟨x0, x1, hv, f0⟩ := h; exact ⟨x0, x1, hv, f0.keep0 E⟩) (StL.eq (StL.eq (StL.eq (StL.eq (StL.eq (StL.eq (StL.eq (StL.cons (fun u w1 w2 E h => by obtain ⟨x0, x1, hv, f0⟩ := h; exact ⟨x0, x1, hv, f0.keep0 E⟩) (StL.eq (StL.eq (StL.eq (StL.cons (fun u w1 w2 E h => by obtain ⟨x0, hv, l0, f0⟩ := h; exact ⟨x0, hv, l0, f0.keep0 E⟩) (StL.nil _)))))))))))))))))))) (ObL.get (s := 18) (ObL.cons ?_ (ObL.cons ?_ (ObL.cons ?_ (ObL.cons ?_ (ObL.cons ?_ (ObL.cons ?_ (ObL.cons ?_ (ObL.cons ?_ (ObL.cons ?_ (ObL.cons ?_ (ObL.cons ?_ (ObL.cons ?_ (ObL.cons ?_ (ObL.cons ?_ (ObL.cons ?_ (ObL.cons ?_ (ObL.cons ?_ (ObL.cons ?_ (ObL.nil))))))))))))))))))) rfl) ?_
     ·
      intro aA wA hNA hRA hbsA hdpA
      have qA_6 := (hbsA 6 rfl).trans (sl_base hN1261 rfl s1261_6)
      refine op_move (ev_base hNA rfl qA_6) ?_
      exact obN_end rfl rfl (grown_refl _ _)
     ·
      intro aA wA hNA hRA hbsA hdpA
      have qA_0 := (hbsA 0 rfl).trans (sl_base hN1261 rfl s1261_0)
      refine op_move (ev_base hNA rfl qA_0) ?_
      exact obN_end rfl rfl (grown_refl _ _)
     ·
      intro aA wA hNA hRA hbsA hdpA
      have qA_7 := (hbsA 7 rfl).trans (sl_base hN1261 rfl s1261_7)
      refine op_move (ev_base hNA rfl qA_7) ?_
      exact obN_end rfl rfl (grown_refl _ _)
     ·
      intro aA wA hNA hRA hbsA hdpA
      have qA_30 : Sl aA 30 (Value.int .i64 ((i : Nat) : Int)) := hdpA 2 _ 30 (by kernel_rfl) rfl rfl
      refine op_mul rfl (ev_base hNA rfl qA_30) (mul64 (by omega)) ?_
      exact obN_end rfl rfl (grown_refl _ _)
     ·
      intro aA wA hNA hRA hbsA hdpA
      have qA_31 : Sl aA 31 (Value.int .i64 (2 * ((i : Nat) : Int))) := hdpA 3 _ 31 (by kernel_rfl) rfl rfl
      refine op_add rfl (ev_base hNA rfl qA_31) (add64 (by omega)) ?_
      exact obN_end rfl rfl (grown_refl _ _)
     ·
      intro aA wA hNA hRA hbsA hdpA
      have hRA : w1261.grownBy wA none := hRA
      have z_wA := hRA.size
      have hv := hv.keep0 hRA
      have hO1262 := hO1262.keep0 hRA
      have hb := below_step0 hb hRA hb.size
      have qA_29 : Sl aA 29 v := hdpA 1 _ 29 (by kernel_rfl) rfl rfl
      have qA_32 : Sl aA 32 (Value.int .i64 (1 + (2 * ((i : Nat) : Int)))) := hdpA 4 _ 32 (by kernel_rfl) rfl rfl
      clear hbsA hdpA
      refine op_index_rd slt39 (ev_base hNA rfl qA_29) hv (ev_base hNA rfl qA_32) (by omega) (by omega) ?_
      intro b1266 o1267 h0b1266 h1b1266 hc1268
      have hp1269 : PtC wA 0 w.heap.size b1266 o1267 [(Value.int .u8 ((bl.getD (1 + (2 * i)) 0).toNat : Int))] := ⟨by omega, by omega, fun j u hu => hc1268 j u (by have := (List.getElem?_eq_some_iff.1 hu).1; simpa using this) ((fun j u hu => one_at (el_u8 (i := (1 + (2 * i))) (by omega) (by omega)) hu) j u hu)⟩
      exact obN_end rfl ⟨b1266, o1267, rfl, hp1269⟩ (grown_refl _ _)
     ·
      intro aA wA hNA hRA hbsA hdpA
      have hRA : w1261.grownBy wA none := hRA
      have z_wA := hRA.size
      have hv := hv.keep0 hRA
      have hO1262 := hO1262.keep0 hRA
      have hb := below_step0 hb hRA hb.size
      obtain ⟨b1266, o1267, qA_33, hp1269⟩ := hdpA 5 _ 33 (by kernel_rfl) rfl rfl
      have hp1269 : PtC wA 0 w.heap.size b1266 o1267 [(Value.int .u8 ((bl.getD (1 + (2 * i)) 0).toNat : Int))] := hp1269
      clear hbsA hdpA
      refine op_load1 (v := (Value.int .u8 ((bl.getD (1 + (2 * i)) 0).toNat : Int))) one5 (ev_base hNA rfl qA_33) (hp1269.2.2 0 _ rfl) ?_
      exact obN_end rfl rfl (grown_refl _ _)
     ·
      intro aA wA hNA hRA hbsA hdpA
      have hRA : w1261.grownBy wA none := hRA
      have z_wA := hRA.size
      have hv := hv.keep0 hRA
      have hO1262 := hO1262.keep0 hRA
      have hb := below_step0 hb hRA hb.size
      have qA_34 : Sl aA 34 (Value.int .u8 ((bl.getD (1 + (2 * i)) 0).toNat : Int)) := hdpA 6 _ 34 (by kernel_rfl) rfl rfl
      clear hbsA hdpA
      refine op_conv (r := ((bl.getD (1 + (2 * i)) 0).toNat : Int)) (ev_base hNA rfl qA_34) us5 Try.underlying35 (wrap_u16 (by have := ((bl.getD (1 + (2 * i)) 0)).toNat_lt; omega)) ?_
      exact obN_end rfl rfl (grown_refl _ _)
     ·
      intro aA wA hNA hRA hbsA hdpA
      have qA_35 : Sl aA 35 (Value.int .u16 ((bl.getD (1 + (2 * i)) 0).toNat : Int)) := hdpA 7 _ 35 (by kernel_rfl) rfl rfl
      refine op_mul (r := (((bl.getD (1 + 2 * i) 0).toNat * 256 : Nat) : Int)) (ev_base hNA rfl qA_35) rfl mul16 ?_
      exact obN_end rfl rfl (grown_refl _ _)
     ·
      intro aA wA hNA hRA hbsA hdpA
      have qA_0 := (hbsA 0 rfl).trans (sl_base hN1261 rfl s1261_0)
      refine op_move (ev_base hNA rfl qA_0) ?_
      exact obN_end rfl rfl (grown_refl _ _)
     ·
      intro aA wA hNA hRA hbsA hdpA
      have qA_7 := (hbsA 7 rfl).trans (sl_base hN1261 rfl s1261_7)
      refine op_move (ev_base hNA rfl qA_7) ?_
      exact obN_end rfl rfl (grown_refl _ _)
     ·
      intro aA wA hNA hRA hbsA hdpA
      have qA_38 : Sl aA 38 (Value.int .i64 ((i : Nat) : Int)) := hdpA 10 _ 38 (by kernel_rfl) rfl rfl
      refine op_mul rfl (ev_base hNA rfl qA_38) (mul64 (by omega)) ?_
      exact obN_end rfl rfl (grown_refl _ _)
     ·
      intro aA wA hNA hRA hbsA hdpA
      have qA_39 : Sl aA 39 (Value.int .i64 (2 * ((i : Nat) : Int))) := hdpA 11 _ 39 (by kernel_rfl) rfl rfl
      refine op_add rfl (ev_base hNA rfl qA_39) (add64 (by omega)) ?_
      exact obN_end rfl rfl (grown_refl _ _)
     ·
      intro aA wA hNA hRA hbsA hdpA
      have hRA : w1261.grownBy wA none := hRA
      have z_wA := hRA.size
      have hv := hv.keep0 hRA
      have hO1262 := hO1262.keep0 hRA
      have hb := below_step0 hb hRA hb.size
      have qA_37 : Sl aA 37 v := hdpA 9 _ 37 (by kernel_rfl) rfl rfl
      have qA_40 : Sl aA 40 (Value.int .i64 (2 + (2 * ((i : Nat) : Int)))) := hdpA 12 _ 40 (by kernel_rfl) rfl rfl
      clear hbsA hdpA
      refine op_index_rd slt39 (ev_base hNA rfl qA_37) hv (ev_base hNA rfl qA_40) (by omega) (by omega) ?_
      intro b1270 o1271 h0b1270 h1b1270 hc1272
      have hp1273 : PtC wA 0 w.heap.size b1270 o1271 [(Value.int .u8 ((bl.getD (2 + (2 * i)) 0).toNat : Int))] := ⟨by omega, by omega, fun j u hu => hc1272 j u (by have := (List.getElem?_eq_some_iff.1 hu).1; simpa using this) ((fun j u hu => one_at (el_u8 (i := (2 + (2 * i))) (by omega) (by omega)) hu) j u hu)⟩
      exact obN_end rfl ⟨b1270, o1271, rfl, hp1273⟩ (grown_refl _ _)
     ·
      intro aA wA hNA hRA hbsA hdpA
      have hRA : w1261.grownBy wA none := hRA
      have z_wA := hRA.size
      have hv := hv.keep0 hRA
      have hO1262 := hO1262.keep0 hRA
      have hb := below_step0 hb hRA hb.size
      obtain ⟨b1270, o1271, qA_41, hp1273⟩ := hdpA 13 _ 41 (by kernel_rfl) rfl rfl
      have hp1273 : PtC wA 0 w.heap.size b1270 o1271 [(Value.int .u8 ((bl.getD (2 + (2 * i)) 0).toNat : Int))] := hp1273
      clear hbsA hdpA
      refine op_load1 (v := (Value.int .u8 ((bl.getD (2 + (2 * i)) 0).toNat : Int))) one5 (ev_base hNA rfl qA_41) (hp1273.2.2 0 _ rfl) ?_
      exact obN_end rfl rfl (grown_refl _ _)
     ·
      intro aA wA hNA hRA hbsA hdpA
      have hRA : w1261.grownBy wA none := hRA
      have z_wA := hRA.size
      have hv := hv.keep0 hRA
      have hO1262 := hO1262.keep0 hRA
      have hb := below_step0 hb hRA hb.size
      have qA_42 : Sl aA 42 (Value.int .u8 ((bl.getD (2 + (2 * i)) 0).toNat : Int)) := hdpA 14 _ 42 (by kernel_rfl) rfl rfl
      clear hbsA hdpA
      refine op_conv (r := ((bl.getD (2 + (2 * i)) 0).toNat : Int)) (ev_base hNA rfl qA_42) us5 Try.underlying35 (wrap_u16 (by have := ((bl.getD (2 + (2 * i)) 0)).toNat_lt; omega)) ?_
      exact obN_end rfl rfl (grown_refl _ _)
     ·
      intro aA wA hNA hRA hbsA hdpA
      have qA_36 : Sl aA 36 (Value.int .u16 (((bl.getD (1 + 2 * i) 0).toNat * 256 : Nat) : Int)) := hdpA 8 _ 36 (by kernel_rfl) rfl rfl
      have qA_43 : Sl aA 43 (Value.int .u16 ((bl.getD (2 + (2 * i)) 0).toNat : Int)) := hdpA 15 _ 43 (by kernel_rfl) rfl rfl
      refine op_add (r := ((UInt16.ofNat ((bl.getD (1 + 2 * i) 0).toNat * 256 + (bl.getD (2 + 2 * i) 0).toNat)).toNat : Int)) (ev_base hNA rfl qA_36) (ev_base hNA rfl qA_43) add16 ?_
      exact obN_end rfl rfl (grown_refl _ _)
     ·
      intro aA wA hNA hRA hbsA hdpA
      have hRA : w1261.grownBy wA none := hRA
      have z_wA := hRA.size
      have hv := hv.keep0 hRA
      have hO1262 := hO1262.keep0 hRA
      have hb := below_step0 hb hRA hb.size
      have qA_44 : Sl aA 44 (Value.int .u16 ((UInt16.ofNat ((bl.getD (1 + 2 * i) 0).toNat * 256 + (bl.getD (2 + 2 * i) 0).toNat)).toNat : Int)) := hdpA 16 _ 44 (by kernel_rfl) rfl rfl
      clear hbsA hdpA
      refine op_bslice (e := 35) (pv := [(0, (Value.int .u16 ((UInt16.ofNat ((bl.getD (1 + 2 * i) 0).toNat * 256 + (bl.getD (2 + 2 * i) 0).toNat)).toNat : Int)))]) (cs := [(Value.int .u16 ((UInt16.ofNat ((bl.getD (1 + 2 * i) 0).toNat * 256 + (bl.getD (2 + 2 * i) 0).toNat)).toNat : Int))]) ⟨rfl, (ev_base hNA rfl qA_44), trivial⟩ (by kernel_rfl) ?_
      intro w1274 b1275 lo_b1275 hi_b1275 hB1277 E1276
      have ne_b1275_u : u.ownBlock ≠ some b1275 := fun hh => by have := (hO1262.lt _ hh).2; omega
      have z_w1274 := E1276.size
      have hv := hv.keep0 E1276
      have hO1262 := hO1262.keep0 E1276
      have hb := below_step0 hb E1276 hb.size
      exact obN_end rfl ⟨b1275, rfl, (by omega), hB1277⟩ (E1276)
     ·
      intro a1278 w1278 hN1278 hd1278 hbs1278 hph1278 E1278
      have hd1278 := hd1278.trans hd1261
      have s1278_0 := (hbs1278 0 rfl).trans (sl_base hN1261 rfl s1261_0)
      have s1278_2 := (hbs1278 2 rfl).trans (sl_base hN1261 rfl s1261_2)
      have s1278_3 := (hbs1278 3 rfl).trans (sl_base hN1261 rfl s1261_3)
      have s1278_4 := (hbs1278 4 rfl).trans (sl_base hN1261 rfl s1261_4)
      have s1278_5 := (hbs1278 5 rfl).trans (sl_base hN1261 rfl s1261_5)
      have s1278_6 := (hbs1278 6 rfl).trans (sl_base hN1261 rfl s1261_6)
      have s1278_7 := (hbs1278 7 rfl).trans (sl_base hN1261 rfl s1261_7)
      have s1278_28 : Sl a1278 28 u := hph1278 0 _ 28 rfl rfl
      obtain ⟨b1275, s1278_45, l1278_0, hB1277⟩ := hph1278 17 _ 45 rfl rfl
      have hB1277 : Bx w1278 b1275 35 [(Value.int .u16 ((UInt16.ofNat ((bl.getD (1 + 2 * i) 0).toNat * 256 + (bl.getD (2 + 2 * i) 0).toNat)).toNat : Int))] := hB1277
      clear hbs1278 hph1278
      have E1278 : w1261.grownBy w1278 none := E1278
      have z_w1278 := E1278.size
      have hv := hv.keep0 E1278
      have hO1262 := hO1262.keep0 E1278
      have hb := below_step0 hb E1278 hb.size
      refine split_end ?_
      refine from_seq (tl := [_, _]) (by decide) (by kernel_rfl) rfl ?_
      have hP1284 := hO1262
      refine op_append slt23 (ev_base hN1278 rfl s1278_28) hP1284 (ev_base hN1278 rfl s1278_45) (Src.ofRd Try.underlying23 (by decide) (RdC.ofBx (sz := 1) (n := 1) hB1277 rfl (by decide)) (by simp [Value.oneCell', u8v])) (by unfold maxLen; omega) (by omega) hb.size ?_
      intro v1279 w1280 hO1282 E1281 hm1283
      have z_w1280 := E1281.size
      have hv := hv.keepO hP1284 E1281 (by omega)
      have hb := below_stepO hb hP1284 E1281 hb.size (by omega)
      have hO1282 : Own w1280 w.heap.size 35 1 v1279 (i + 1) ((((tagsL i bl) ++ [(UInt16.ofNat ((bl.getD (1 + 2 * i) 0).toNat * 256 + (bl.getD (2 + 2 * i) 0).toNat))])).map u16v) := by simpa [u8v, u16v, cellsV] using hO1282
      refine op_assign (ev_hit hN1278 rfl) ?_
      refine reg_nil ?_
      refine hK1265 _ _ ?_
      refine one_reg ?_
      refine op_move (ev_base hN1278 rfl s1278_7) ?_
      refine op_add (ev_hit hN1278 rfl) rfl (add64 (by omega)) ?_
      refine op_assign (ev_hit hN1278 rfl) ?_
      refine reg_nil ?_
      -- round 10F 16F 22F 25T
      exact loop_next _ hN1278 hd1278 ⟨i + 1, _, rfl, (sl_base hN1278 rfl s1278_0), (sl_base hN1278 rfl s1278_2), (sl_base hN1278 rfl s1278_3), (sl_base hN1278 rfl s1278_4), (sl_base hN1278 rfl s1278_5), (sl_hit hN1278 rfl).trans (congrArg (Value.int .i64) (by omega)), (sl_hit hN1278 rfl), (by omega), hb, (by omega), hv, (hO1282.cast (by first | omega | (simp; try omega)) (by first | (rw [tags_step]; done) | (rw [tags_step]; simp [u16v])))⟩ (by omega)
    · -- 25F
     refine reg_nil ?_
     refine hK1264 _ _ ?_
     refine wp_cond_false (ev_hit hN1261 rfl) ?_
     refine wp_exit (then_exit (then_exit (blk_hit ?_)))
     refine hK1259 _ _ ?_
     refine seq_any fun K1285 hK1285 => ?_
     refine seq_any fun K1286 hK1286 => ?_
     refine one_reg ?_
     refine op_move (ev_base hN1261 rfl s1261_6) ?_
     have htl := tags_len i bl
     refine op_fn (vs := [u]) ok13 ⟨(ev_hit hN1261 rfl), trivial⟩ (refMay_ret (tagsL i bl) _ _ (by first | assumption | omega | (simp only [List.length_append, List.length_cons, List.length_nil, List.length_drop, List.length_take]; omega) | (dsimp only; omega) | decide | (simp [keyV, be8_len]; done)) (show RdC w1261 0 w1261.heap.size 1 u (tagsL i bl).length ((tagsL i bl).map u16v) from by have hh : RdC w1261 0 w1261.heap.size 1 _ _ _ := (hO1262.rdw.mono (L' := 0) (B' := w1261.heap.size) (Nat.zero_le _) (by omega)); first | exact hh | exact hh.cast (by first | omega | (simp; try omega)) (by first | rfl | simp [u16v]))) ?_
     rintro _ w1287 ⟨E1288, rfl⟩
     have E1288 := grown_of_below E1288
     have z_w1287 := E1288.size
     have hv := hv.keep0 E1288
     have hO1262 := hO1262.keep0 E1288
     have hb := below_step0 hb E1288 hb.size
     rcases Bool.eq_false_or_eq_true ((mayL (tagsL i bl))) with c48 | c48
     · -- 48T
      rw [c48]
      refine op_not (ev_hit hN1261 rfl) ?_
      refine reg_nil ?_
      refine hK1286 _ _ ?_
      refine wp_cond_false (ev_hit hN1261 rfl) ?_
      refine wp_skip ?_
      refine hK1285 _ _ ?_
      refine seq_any fun K1289 hK1289 => ?_
      refine one_reg ?_
      refine op_move (ev_base hN1261 rfl s1261_6) ?_
      refine op_move (ev_base hN1261 rfl s1261_5) ?_
      refine op_mul rfl (ev_hit hN1261 rfl) (mul64 (by omega)) ?_
      refine op_add rfl (ev_hit hN1261 rfl) (add64 (by omega)) ?_
      refine op_assign (ev_hit hN1261 rfl) ?_
      refine op_assign (ev_hit hN1261 rfl) ?_
      refine op_assign rfl ?_
      refine reg_nil ?_
      refine hK1289 _ _ ?_
      refine wp_ret ?_
      refine retN (rs := [.tmp 2, .tmp 3, .tmp 4]) (vs := [u, (Value.int .i64 (1 + (2 * ((bl.getD 0 0).toNat : Int)))), (Value.int .i64 0)]) rfl hd1261 ⟨(ev_hit hN1261 rfl), ⟨(ev_hit hN1261 rfl), ⟨(ev_hit hN1261 rfl), trivial⟩⟩⟩ rfl ⟨_, rfl, ?_⟩
      -- path 10F 16F 22F 25F 48T
      have hi2 : i = (bl.getD 0 0).toNat := by omega
      subst hi2
      have e : takeL bl = (tagsL (bl.getD 0 0).toNat bl, ((1 + 2 * (bl.getD 0 0).toNat : Nat) : Int), 0) := by rw [takeL, if_neg (by omega), if_neg (by omega), if_neg (by omega), if_pos (mayL_rise c48)]
      exact ⟨hb, _, by rw [e]; exact congrArg (fun q : Int => Value.tuple #[_, .int .i64 q, _]) (show (1 + 2 * ((bl.getD 0 0).toNat : Int)) = ((1 + 2 * (bl.getD 0 0).toNat : Nat) : Int) by omega), by rw [e]; exact hO1262.cast (tags_len _ _).symm rfl⟩
     · -- 48F
      rw [c48]
      refine op_not (ev_hit hN1261 rfl) ?_
      refine reg_nil ?_
      refine hK1286 _ _ ?_
      refine wp_cond_true (ev_hit hN1261 rfl) ?_
      refine seq_any fun K1290 hK1290 => ?_
      refine one_reg ?_
      refine op_assign rfl ?_
      refine op_assign rfl ?_
      refine op_assign rfl ?_
      refine reg_nil ?_
      refine hK1290 _ _ ?_
      refine wp_ret (then_ret ( ?_))
      refine retN (rs := [.tmp 2, .tmp 3, .tmp 4]) (vs := [(Value.slice none 0 0), (Value.int .i64 0), (Value.int .i64 3)]) rfl hd1261 ⟨(ev_hit hN1261 rfl), ⟨(ev_hit hN1261 rfl), ⟨(ev_hit hN1261 rfl), trivial⟩⟩⟩ rfl ⟨_, rfl, ?_⟩
      -- path 10F 16F 22F 25F 48F
      have hi2 : i = (bl.getD 0 0).toNat := by omega
      subst hi2
      have e : takeL bl = ([], 0, 3) := by rw [takeL, if_neg (by omega), if_neg (by omega), if_neg (by omega), if_neg (fun hh => by rw [mayL, decide_eq_true hh, Bool.true_and, tags_len] at c48; exact absurd (of_decide_eq_false c48) (by omega))]
      exact ⟨hb, _, by rw [e]; rfl, by rw [e]; exact Own.nil _ _ _ _⟩

end Go.Proofs.Ytpmnljffdofkeaa

/- What is owned, plainly. -/
namespace Go.Proofs.Ytpmnljffdofkeaa
open Go.Gx Go.RowKit
theorem flows_iff {l m : Lb} : flowsL l m = true ↔ ∀ x ∈ l, x ∈ m := by simp [flowsL, inL]
theorem mem_minus {x : UInt16} {l m : Lb} : x ∈ minusL l m ↔ x ∈ l ∧ x ∉ m := by simp [minusL, ninL, inL]
theorem mem_meet {x : UInt16} {l m : Lb} : x ∈ meetL l m ↔ x ∈ l ∧ x ∈ m := by simp [meetL, inL]
theorem mem_join {x : UInt16} {l m : Lb} : x ∈ joinL l m ↔ x ∈ l ∨ x ∈ m := by simp [joinL, nrm_mem]
theorem minus_len (l m : Lb) : (minusL l m).length ≤ l.length := List.length_filter_le _ _
theorem meet_len (l m : Lb) : (meetL l m).length ≤ l.length := List.length_filter_le _ _
theorem join_len (l m : Lb) : (joinL l m).length ≤ l.length + m.length := by unfold joinL; exact Nat.le_trans (nrm_lenL _) (by simp)
theorem flows_none {a b : Lb} : flowsL (minusL a []) b = flowsL a b := by
  have : minusL a [] = a := by unfold minusL ninL inL; rw [List.filter_eq_self]; intro x _; simp
  rw [this]
theorem flows_more {a b o m : Lb} (h : flowsL (minusL a o) b = true) : flowsL (minusL a (joinL o m)) b = true := by
  rw [flows_iff] at *
  intro x hx
  rw [mem_minus, mem_join] at hx
  exact h x (mem_minus.2 ⟨hx.1, fun q => hx.2 (.inl q)⟩)
theorem flows_join {a b o : Lb} : flowsL (minusL a o) (joinL b a) = true := by
  rw [flows_iff]; intro x hx; exact mem_join.2 (.inr (mem_minus.1 hx).1)
theorem flows_self {a b : Lb} : flowsL (minusL a a) b = true := by
  rw [flows_iff]; intro x hx; exact absurd (mem_minus.1 hx).1 (mem_minus.1 hx).2
theorem own_more {o m l : Lb} (h : ownE o l = 0) : ownE (joinL o m) l = 0 := by
  unfold ownE at *
  split at h
  · contradiction
  · rename_i h1
    rw [if_neg h1]
    split at h
    · rename_i h2
      rw [if_pos]
      rw [flows_iff] at *
      exact fun x hx => mem_join.2 (.inl (h2 x hx))
    · cases h
theorem own_none {o : Lb} : ownE o [] = 0 := by
  have e : nrm ([] : Lb) = [] := rfl
  simp [ownE, normE, normL, e, flowsL]
theorem minus_twice {l s : Lb} : minusL (minusL l s) s = minusL l s := by
  unfold minusL; rw [List.filter_filter]; simp
theorem flows_minus_l {l s : Lb} : flowsL (minusL l s) l = true := by
  rw [flows_iff]; intro x hx; exact (mem_minus.1 hx).1
theorem meet_minus {l s : Lb} : meetL (minusL l s) s = [] := by
  rw [List.eq_nil_iff_forall_not_mem]
  intro x hx
  have := mem_meet.1 hx
  exact (mem_minus.1 this.1).2 this.2
theorem join_minus {l s : Lb} : joinL (minusL l s) s = joinL l s := by
  unfold joinL
  refine nrm_congr fun x => ?_
  simp only [List.mem_append, mem_minus]
  by_cases h : x ∈ s <;> simp [h]
theorem flows_refl {l : Lb} : flowsL l l = true := by rw [flows_iff]; exact fun x h => h
end Go.Proofs.Ytpmnljffdofkeaa

/- What labels do together, plainly. -/
namespace Go.Proofs.Ytpmnljffdofkeaa
open Go.Gx Go.RowKit
theorem cmpG_val : ∀ (a b : Lb), cmpG a b = -1 ∨ cmpG a b = 0 ∨ cmpG a b = 1
  | [], [] => .inr (.inl rfl)
  | [], _ :: _ => .inl rfl
  | _ :: _, [] => .inr (.inr rfl)
  | x :: a, y :: b => by
    have := cmpG_val a b
    rw [cmpG]; (repeat' split) <;> omega
theorem cmpG_swap : ∀ (a b : Lb), cmpG b a = - cmpG a b
  | [], [] => rfl
  | [], _ :: _ => rfl
  | _ :: _, [] => rfl
  | x :: a, y :: b => by
    have := cmpG_swap a b
    rw [cmpG, cmpG]; (repeat' split) <;> omega
theorem cmpL_swap (a b : Lb) : cmpL b a = - cmpL a b := by
  have := cmpG_swap a b
  unfold cmpL; (repeat' split) <;> omega
theorem cmpL_val (a b : Lb) : cmpL a b = -1 ∨ cmpL a b = 0 ∨ cmpL a b = 1 := by
  have := cmpG_val a b
  unfold cmpL; (repeat' split) <;> omega
theorem cmpG_trans : ∀ {a b c : Lb}, cmpG a b = -1 → cmpG b c = -1 → cmpG a c = -1
  | [], [], _, h, _ => by simp [cmpG] at h
  | [], _ :: _, [], _, h => by simp [cmpG] at h
  | [], _ :: _, _ :: _, _, _ => rfl
  | _ :: _, [], _, h, _ => by simp [cmpG] at h
  | _ :: _, _ :: _, [], _, h => by simp [cmpG] at h
  | x :: a, y :: b, z :: c, h, h' => by
    have ih := @cmpG_trans a b c
    rw [cmpG] at *
    split at h
    · split at h'
      · rw [if_pos (by omega)]
      · split at h'
        · omega
        · rw [if_pos (by omega)]
    · split at h
      · omega
      · split at h'
        · rw [if_pos (by omega)]
        · split at h'
          · omega
          · rw [if_neg (by omega), if_neg (by omega)]; exact ih h h'
theorem cmpL_trans {a b c : Lb} (h : cmpL a b = -1) (h' : cmpL b c = -1) : cmpL a c = -1 := by
  unfold cmpL at *
  split at h
  · split at h'
    · rw [if_pos (by omega)]
    · split at h'
      · omega
      · rw [if_pos (by omega)]
  · split at h
    · omega
    · split at h'
      · rw [if_pos (by omega)]
      · split at h'
        · omega
        · rw [if_neg (by omega), if_neg (by omega)]; exact cmpG_trans h h'
theorem cmp_put {a b : Lb} (ha : mayL a = true) (hb : mayL b = true) : cmpT (putL a) (putL b) = cmpL a b := by
  have h := cmp_labels (a := a) (b := b) (by have := mayL_len ha; omega) (by have := mayL_len hb; omega) [] []
  rw [List.append_nil, List.append_nil] at h
  rw [h]
  split
  · rename_i h0; rw [h0]; rfl
  · rfl
theorem rise_nodup {l : Lb} (h : Rise l) : l.Nodup := by
  refine List.Pairwise.imp ?_ h
  intro a b hab e; subst e; omega
theorem sub_len' : ∀ {a b : Lb}, a.Nodup → (∀ x ∈ a, x ∈ b) → a.length ≤ b.length
  | [], _, _, _ => Nat.zero_le _
  | x :: a, b, hn, h => by
    have hn' := List.nodup_cons.1 hn
    have hx : x ∈ b := h x (by simp)
    have ih := sub_len' (b := b.erase x) hn'.2 fun y hy => (List.mem_erase_of_ne (fun e => hn'.1 (by rw [← e]; exact hy))).2 (h y (by simp [hy]))
    rw [List.length_erase_of_mem hx] at ih
    have := List.length_pos_of_mem hx
    rw [List.length_cons]; omega
theorem sub_len {a b : Lb} (ha : Rise a) (h : ∀ x ∈ a, x ∈ b) : a.length ≤ b.length := sub_len' (rise_nodup ha) h
theorem sub_eq {a b : Lb} (ha : Rise a) (h : ∀ x ∈ a, x ∈ b) (hl : b.length ≤ a.length) : ∀ x ∈ b, x ∈ a := by
  intro y hy
  refine Decidable.by_contra fun hn => ?_
  have := sub_len' (b := b.erase y) (rise_nodup ha) fun x hx => (List.mem_erase_of_ne (fun e => hn (by rw [← e]; exact hx))).2 (h x hx)
  rw [List.length_erase_of_mem hy] at this
  have := List.length_pos_of_mem hy
  omega
theorem flows_cmp {a b : Lb} (ha : mayL a = true) (hb : mayL b = true) (h : flowsL a b = true) : cmpL a b ≠ 1 := by
  rw [flows_iff] at h
  have hl := sub_len (mayL_rise ha) h
  unfold cmpL
  split
  · decide
  · split
    · omega
    · rename_i h1 h2
      have e : a = b := by
        exact rise_ext (mayL_rise ha) (mayL_rise hb) fun x => ⟨h x, sub_eq (mayL_rise ha) h (by omega) x⟩
      rw [e, cmpG_refl]; decide
theorem cmpL_self (a : Lb) : cmpL a a = 0 := cmpL_zero.2 rfl
theorem nrm_turn {l : Lb} {k : Nat} (h : k < l.length) : nrm (l.drop k ++ l.take k ++ [l.getD k 0]) = nrm l := by
  refine nrm_congr fun z => ?_
  have e : l.getD k 0 ∈ l := by simp [h]
  have s : z ∈ l ↔ z ∈ l.take k ∨ z ∈ l.drop k := by rw [← List.mem_append, List.take_append_drop]
  simp only [List.mem_append, List.mem_singleton]
  constructor
  · rintro ((h1 | h1) | h1)
    · exact s.2 (.inr h1)
    · exact s.2 (.inl h1)
    · subst h1; exact e
  · intro h1
    rcases s.1 h1 with h2 | h2
    · exact .inl (.inr h2)
    · exact .inl (.inl h2)
theorem normL_turn {l : Lb} {k : Nat} (h : k < l.length) : normL (l.drop k ++ l.take k ++ [l.getD k 0]) = normL l := by unfold normL; rw [nrm_turn h]
theorem normE_turn {l : Lb} {k : Nat} (h : k < l.length) : normE (l.drop k ++ l.take k ++ [l.getD k 0]) = normE l := by unfold normE; rw [nrm_turn h]
theorem normE_val (l : Lb) : normE l = 0 ∨ normE l = 7 := by unfold normE; split <;> simp
theorem normL_none {l : Lb} (h : ¬ normE l = 0) : normL l = [] := by
  unfold normE at h; unfold normL
  split at h
  · rename_i h1; rw [if_pos h1]
  · exact absurd rfl h
theorem normL_some {l : Lb} (h : normE l = 0) : normL l = nrm l := by
  unfold normE at h; unfold normL
  split at h
  · cases h
  · rename_i h1; rw [if_neg h1]
theorem nrm_nrm (l : Lb) : nrm (nrm l) = nrm l := nrm_id (nrm_rise l)
theorem norm_twice {l : Lb} (h : normE l = 0) : normE (normL l) = 0 ∧ normL (normL l) = normL l := by
  have h1 : ¬ 8 < (nrm l).length := by
    unfold normE at h; split at h
    · cases h
    · assumption
  rw [normL_some h]
  unfold normE normL
  rw [nrm_nrm, if_neg h1, if_neg h1]
  exact ⟨rfl, rfl⟩
theorem norm_may {l : Lb} (h : normE l = 0) : mayL (normL l) = true := by
  rw [normL_some h, mayL_nrm]
  unfold normE at h; split at h
  · cases h
  · exact decide_eq_true (by omega)
theorem norm_in {l : Lb} {k : Nat} (h : normE l = 0) (hk : k < l.length) : inL (l.getD k 0) (normL l) = true := by
  unfold inL; rw [decide_eq_true_iff, normL_some h, nrm_mem]; simp [hk]
theorem norm_le (l : Lb) : (normL l).length ≤ l.length := by
  unfold normL; split
  · simp
  · exact nrm_lenL l
theorem in_step {x : UInt16} {l : Lb} {i : Nat} (h : i < l.length) : inL x (l.take (i + 1)) = (inL x (l.take i) || decide (l.getD i 0 = x)) := by
  unfold inL
  rw [lb_take h, Bool.eq_iff_iff, Bool.or_eq_true, decide_eq_true_iff, decide_eq_true_iff, decide_eq_true_iff, List.mem_append, List.mem_singleton, eq_comm (a := x)]
theorem putL_inj_len {l : Lb} (h : mayL l = true) : (putL l).length ≤ 17 := by rw [putL_len]; have := mayL_len h; omega
theorem u16dec {x y : UInt16} : decide ((x.toNat : Int) = (y.toNat : Int)) = decide (x = y) := by
  rw [Bool.eq_iff_iff, decide_eq_true_iff, decide_eq_true_iff]
  exact ⟨fun h => UInt16.toNat_inj.1 (by omega), fun h => by rw [h]⟩
theorem in_take {x : UInt16} {l : Lb} {i : Nat} (h : l.length ≤ i) : inL x (l.take i) = inL x l := by rw [List.take_of_length_le h]
/-- labels in a row -/
abbrev LbV := Value × Lb
def D0 : LbV := (.slice none 0 0, [])
def rowsB (l : List LbV) : List UInt8 := l.flatMap fun q => putL q.2
theorem rowsB_step {l : List LbV} {i : Nat} (h : i < l.length) : rowsB (l.take (i + 1)) = rowsB (l.take i) ++ putL (l.getD i D0).2 := by
  unfold rowsB
  rw [List.take_add_one, List.getElem?_eq_getElem h, List.flatMap_append]; simp [h]
theorem rowsB_drop {l : List LbV} {i : Nat} (h : i < l.length) : rowsB (l.drop i) = putL (l.getD i D0).2 ++ rowsB (l.drop (i + 1)) := by
  unfold rowsB
  rw [List.drop_eq_getElem_cons h, List.flatMap_cons]; simp [h]
theorem rowsB_le {l : List LbV} {i : Nat} : (rowsB (l.drop i)).length ≤ (rowsB l).length := by
  have e : rowsB l = rowsB (l.take i) ++ rowsB (l.drop i) := by unfold rowsB; rw [← List.flatMap_append, List.take_append_drop]
  rw [e, List.length_append]; omega
theorem rowsB_end {l : List LbV} {i : Nat} (h : l.length ≤ i) : rowsB (l.drop i) = [] := by rw [List.drop_of_length_le h]; rfl
theorem may_step {l : List LbV} {i : Nat} (h : ∀ j, j < i → mayL (l.getD j D0).2 = true) (h' : mayL (l.getD i D0).2 = true) : ∀ j, j < i + 1 → mayL (l.getD j D0).2 = true := fun j hj => by
  by_cases e : j = i
  · subst e; exact h'
  · exact h j (by omega)
end Go.Proofs.Ytpmnljffdofkeaa
