/- What rows are, plainly. -/
import Derived.Test.YtkkongnmcfdioaaVPlain
import Derived.Test.YtkkongnmcfdioaaLib14
namespace Go.Proofs.Ytkkongnmcfdioaa
open Go.Gx
def cellsV (x : Vl) : List Value := [.int .i64 x.k, .int .i64 x.n, .string (bs x.s)]
theorem one_val (l : List Vl) : (l.flatMap cellsV).all Value.oneCell' = true := by
  rw [List.all_eq_true]; intro u hu
  obtain ⟨x, _, hx⟩ := List.mem_flatMap.1 hu
  simp [cellsV] at hx; rcases hx with rfl | rfl | rfl <;> rfl
theorem el_flat {α : Type} {f : α → List Value} {sz : Nat} (hf : ∀ u, (f u).length = sz) (hp : 0 < sz) {l : List α} {d : α} {e : Int} {i : Nat} (he : e = (i : Int)) (h : i < l.length) {j : Nat} {u : Value} (hu : (f (l.getD i d))[j]? = some u) :
    (l.flatMap f)[e.toNat * sz + j]? = some u := by
  have hj : j < sz := by rw [← hf (l.getD i d)]; exact (List.getElem?_eq_some_iff.1 hu).1
  subst he
  rw [flat_get hp l fun v _ => hf v]
  have e1 : ((i : Int).toNat * sz + j) / sz = i := by rw [Int.toNat_natCast, Nat.add_comm, Nat.add_mul_div_right _ _ hp, Nat.div_eq_of_lt hj, Nat.zero_add]
  have e2 : ((i : Int).toNat * sz + j) % sz = j := by rw [Int.toNat_natCast, Nat.add_comm, Nat.add_mul_mod_self_right, Nat.mod_eq_of_lt hj]
  rw [e1, e2, List.getElem?_eq_getElem h]
  simpa [List.getD_eq_getElem?_getD, h] using hu
theorem el_val {l : List Vl} {e : Int} {i j : Nat} {u : Value} (he : e = (i : Int)) (h : i < l.length) (hu : (cellsV (l.getD i V0))[j]? = some u) : (l.flatMap cellsV)[e.toNat * 3 + j]? = some u :=
  el_flat (f := cellsV) (sz := 3) (fun _ => rfl) (by decide) he h hu
theorem snoc {α : Type} {l : List α} {d : α} {i : Nat} (h : i < l.length) : l.take (i + 1) = l.take i ++ [l.getD i d] := by
  rw [List.take_succ_eq_append_getElem h]; simp [List.getD_eq_getElem?_getD, h]
theorem allsnoc {α : Type} {p : α → Bool} {l : List α} {d : α} {i : Nat} (h : i < l.length) (ha : (l.take i).all p = true) (hb : p (l.getD i d) = true) : (l.take (i + 1)).all p = true := by
  rw [snoc (d := d) h, List.all_append, ha]; simp only [List.all_cons, hb, List.all_nil]; rfl
theorem allbad {α : Type} {p : α → Bool} {l : List α} {d : α} {i : Nat} (h : i < l.length) (hb : p (l.getD i d) = false) : l.all p = false := by
  rw [List.all_eq_false]
  exact ⟨l.getD i d, by rw [List.getD_eq_getElem?_getD, List.getElem?_eq_getElem h]; exact List.getElem_mem h, by rw [hb]; simp⟩
theorem allwhole {α : Type} {p : α → Bool} {l : List α} {i : Nat} (h : l.length ≤ i) (ha : (l.take i).all p = true) : l.all p = true := by
  rwa [List.take_of_length_le h] at ha
theorem ok_at {α : Type} {R : α → Prop} {l : List α} {d : α} {i : Nat} (ho : ∀ x ∈ l, R x) (h : i < l.length) : R (l.getD i d) := by
  rw [List.getD_eq_getElem?_getD, List.getElem?_eq_getElem h]; exact ho _ (List.getElem_mem h)
def mayR (l : List Vl) : Bool := l.all mayV && decide (1 ≤ l.length ∧ l.length ≤ 6)
def putR (l : List Vl) : List UInt8 := if mayR l then UInt8.ofNat l.length :: l.flatMap keyV else []
theorem flat_le {key : Vl → List UInt8} {n : Nat} : ∀ {l : List Vl}, (∀ x ∈ l, (key x).length ≤ n) → (l.flatMap key).length ≤ l.length * n
  | [], _ => by simp
  | x :: l, h => by rw [List.flatMap_cons, List.length_append, List.length_cons, Nat.add_mul]; have := h x (by simp); have := flat_le (n := n) (l := l) fun y hy => h y (by simp [hy]); omega
theorem may_of {l : List Vl} (h : mayR l = true) : ∀ x ∈ l, mayV x = true := by
  unfold mayR at h; simp only [Bool.and_eq_true, List.all_eq_true] at h; exact h.1
theorem mayR_len {l : List Vl} (h : mayR l = true) : 1 ≤ l.length ∧ l.length ≤ 6 := by
  unfold mayR at h; simp only [Bool.and_eq_true, decide_eq_true_eq] at h; exact h.2
theorem may_at {l : List Vl} {i : Nat} (h : mayR l = true) (hi : i < l.length) : mayV (l.getD i V0) = true := ok_at (may_of h) hi
theorem keyV_39 {x : Vl} (h : mayV x = true) : (keyV x).length ≤ 39 := by have := keyV_le x; have := may_len h; omega
theorem acc_le {l : List Vl} {i : Nat} (h : mayR l = true) : ((l.take i).flatMap keyV).length ≤ 234 := by
  have h1 := flat_le (key := keyV) (n := 39) (l := l.take i) fun x hx => keyV_39 (may_of h x (List.mem_of_mem_take hx))
  have h2 := mayR_len h
  have h3 : (l.take i).length ≤ 6 := by simp; omega
  omega
/-- So many values of bytes: the values, the bytes behind them, the error. -/
def manyA (acc : List Vl) : Nat → List UInt8 → List Vl × List UInt8 × Int
  | 0, b => (acc, b, 0)
  | n + 1, b => if (takeV b).2.2 ≠ 0 then ([], b.drop (takeV b).2.1.toNat, (takeV b).2.2) else manyA (acc ++ [(takeV b).1]) n (b.drop (takeV b).2.1.toNat)
theorem many_end {acc : List Vl} {b : List UInt8} : manyA acc 0 b = (acc, b, 0) := rfl
theorem many_bad {acc : List Vl} {n i : Nat} {b : List UInt8} (hi : i < n) (h : (takeV b).2.2 ≠ 0) : manyA acc (n - i) b = ([], b.drop (takeV b).2.1.toNat, (takeV b).2.2) := by
  obtain ⟨k, hk⟩ : ∃ k, n - i = k + 1 := ⟨n - i - 1, by omega⟩
  rw [hk, manyA, if_pos h]
theorem many_step {acc : List Vl} {n i : Nat} {b : List UInt8} (hi : i < n) (h : (takeV b).2.2 = 0) : manyA acc (n - i) b = manyA (acc ++ [(takeV b).1]) (n - (i + 1)) (b.drop (takeV b).2.1.toNat) := by
  obtain ⟨k, hk⟩ : ∃ k, n - i = k + 1 := ⟨n - i - 1, by omega⟩
  rw [hk, manyA, if_neg (by simpa using h)]
  congr 1; omega
def takeR (b : List UInt8) : List Vl × Int :=
  if b.length = 0 then ([], 2) else if (b.getD 0 0).toNat < 1 ∨ 6 < (b.getD 0 0).toNat then ([], 3)
  else if (manyA [] (b.getD 0 0).toNat (b.drop 1)).2.2 ≠ 0 then ([], (manyA [] (b.getD 0 0).toNat (b.drop 1)).2.2)
  else if 0 < (manyA [] (b.getD 0 0).toNat (b.drop 1)).2.1.length then ([], 3) else ((manyA [] (b.getD 0 0).toNat (b.drop 1)).1, 0)
def lightR (l : List Vl) : Bool := l.all (fun x : Vl => decide (x.s.length ≤ 200)) && decide (l.length ≤ 20)
instance : DecidableEq Vl := fun x y => if h : x.k = y.k ∧ x.n = y.n ∧ x.s = y.s then isTrue (vl_ext h) else isFalse (fun e => h (by subst e; exact ⟨rfl, rfl, rfl⟩))
theorem scanT_val : ∀ (b : List UInt8) (i : Nat), (∃ j, scanT b i = .inr j ∧ i ≤ j ∧ j < i + b.length) ∨ scanT b i = .inl 2 ∨ scanT b i = .inl 3
  | [], i => .inr (.inl rfl)
  | c :: r, i => by
    unfold scanT
    split
    · exact .inl ⟨i, rfl, by omega, by simp⟩
    · split
      · exact .inr (.inr rfl)
      · rcases scanT_val r (i + 1) with ⟨j, h1, h2, h3⟩ | h | h
        · exact .inl ⟨j, h1, by omega, by simp; omega⟩
        · exact .inr (.inl h)
        · exact .inr (.inr h)
/-- How many bytes are read: no more than there are; the error is 0, 2 or 3. -/
theorem takeV_len (b : List UInt8) : 0 ≤ (takeV b).2.1 ∧ (takeV b).2.1 ≤ b.length ∧ ((takeV b).2.2 = 0 ∨ (takeV b).2.2 = 2 ∨ (takeV b).2.2 = 3) := by
  unfold takeV
  split
  · simp [V0]
  · rename_i c r
    split
    · split
      · simp; omega
      · rename_i hh; simp at hh ⊢; omega
    · split
      · unfold textR
        rcases scanT_val r 0 with ⟨j, h1, h2, h3⟩ | h | h
        · rw [h1]; simp [triT]; omega
        · rw [h]; simp [triT]; omega
        · rw [h]; simp [triT]; omega
      · simp; omega
theorem takeV_ok (b : List UInt8) (h : b.length ≤ 9223372036854775807) : OkV (takeV b).1 := by
  unfold takeV
  split
  · simp [V0, OkV]
  · rename_i c r
    split
    · split
      · simp [V0, OkV]
      · have := ofBe_8 (l := r.take 8) (by simp; omega)
        simp [OkV]; omega
    · split
      · unfold textR
        rcases scanT_val r 0 with ⟨j, h1, h2, h3⟩ | h | h
        · rw [h1]; simp [triT, OkV]; simp at h; omega
        · rw [h]; simp [triT, V0, OkV]
        · rw [h]; simp [triT, V0, OkV]
      · simp [V0, OkV]
theorem many_ok : ∀ (n : Nat) (acc : List Vl) (b : List UInt8), b.length ≤ 9223372036854775807 → (∀ x ∈ acc, OkV x) → ∀ x ∈ (manyA acc n b).1, OkV x
  | 0, acc, b, _, ha => by rw [many_end]; exact ha
  | n + 1, acc, b, hb, ha => by
    rw [manyA]
    split
    · simp
    · refine many_ok n _ _ (by simp; omega) fun x hx => ?_
      rcases List.mem_append.1 hx with hx | hx
      · exact ha x hx
      · simp at hx; subst hx; exact takeV_ok b hb
theorem takeR_ok {b : List UInt8} (hb : b.length ≤ 9223372036854775807) : ∀ x ∈ (takeR b).1, OkV x := by
  unfold takeR
  split
  · simp
  · split
    · simp
    · split
      · simp
      · split
        · simp
        · exact many_ok _ _ _ (by simp; omega) (by simp)
theorem many_len : ∀ (n : Nat) (acc : List Vl) (b : List UInt8), (manyA acc n b).1.length ≤ acc.length + n
  | 0, acc, b => by rw [many_end]; exact Nat.le_refl _
  | n + 1, acc, b => by
    rw [manyA]
    split
    · simp
    · have := many_len n (acc ++ [(takeV b).1]) (b.drop (takeV b).2.1.toNat)
      simp at this; omega
theorem takeR_len (b : List UInt8) : (takeR b).1.length ≤ 255 := by
  unfold takeR
  have := many_len (b.getD 0 0).toNat [] (b.drop 1)
  have h2 := (b.getD 0 0).toNat_lt
  split
  · simp
  · split
    · simp
    · split
      · simp
      · split
        · simp
        · exact Nat.le_trans this (by rw [List.length_nil]; omega)
theorem putR_le (l : List Vl) : (putR l).length ≤ 235 := by
  unfold putR
  split
  · rename_i h
    have := acc_le (i := l.length) h
    simp at this ⊢; omega
  · simp
end Go.Proofs.Ytkkongnmcfdioaa
