/- What labels are, plainly. -/
import Derived.Test.YtkkongnmcfdioaaLib15
import Derived.Test.YtkkongnmcfdioaaRSpec
namespace Go.Proofs.Ytkkongnmcfdioaa
open Go.Gx
abbrev Lb := List UInt16
/-- Tags that rise, each once. -/
def Rise (l : Lb) : Prop := l.Pairwise (fun a b => a.toNat < b.toNat)
instance (l : Lb) : Decidable (Rise l) := List.instDecidablePairwise l
def mayL (l : Lb) : Bool := decide (Rise l) && decide (l.length ≤ 8)
theorem rise_nil : Rise [] := List.Pairwise.nil
theorem rise_one {l : Lb} : Rise (l.take 1) := by
  cases l with
  | nil => exact List.Pairwise.nil
  | cons a l => simp [Rise]
theorem rise_at {l : Lb} {i j : Nat} (h : Rise l) (hij : i < j) (hj : j < l.length) : (l.getD i 0).toNat < (l.getD j 0).toNat := by
  have := List.pairwise_iff_getElem.1 h i j (by omega) hj hij
  simpa [List.getD_eq_getElem?_getD, show i < l.length by omega, hj] using this
theorem rise_step {l : Lb} {i : Nat} (hi : 0 < i) (hl : i < l.length) (h : Rise (l.take i)) (hlt : (l.getD (i - 1) 0).toNat < (l.getD i 0).toNat) : Rise (l.take (i + 1)) := by
  rw [snoc (d := 0) hl]
  refine List.pairwise_append.2 ⟨h, by simp, fun a ha b hb => ?_⟩
  simp at hb; subst hb
  obtain ⟨j, hj, rfl⟩ := List.getElem_of_mem ha
  have hj' : j < i := by simp at hj; omega
  rw [List.getElem_take]
  have e : l[j]'(by omega) = l.getD j 0 := by simp [List.getD_eq_getElem?_getD, show j < l.length by omega]
  have e2 : l[i]?.getD 0 = l.getD i 0 := by simp [List.getD_eq_getElem?_getD]
  rw [e]
  try rw [e2]
  rcases Nat.lt_or_ge j (i - 1) with h1 | h1
  · have h2 := rise_at (i := j) (j := i - 1) h h1 (by simp; omega)
    have e3 : (l.take i).getD j 0 = l.getD j 0 := by simp [List.getD_eq_getElem?_getD, List.getElem?_take, hj']
    have e4 : (l.take i).getD (i - 1) 0 = l.getD (i - 1) 0 := by simp [List.getD_eq_getElem?_getD, List.getElem?_take, show i - 1 < i by omega]
    rw [e3, e4] at h2
    omega
  · have : j = i - 1 := by omega
    subst this; exact hlt
theorem rise_bad {l : Lb} {i : Nat} (hi : 0 < i) (hl : i < l.length) (h : ¬ (l.getD (i - 1) 0).toNat < (l.getD i 0).toNat) : ¬ Rise l := fun hr => h (rise_at hr (by omega) hl)
theorem mayL_rise {l : Lb} (h : mayL l = true) : Rise l := by unfold mayL at h; simp only [Bool.and_eq_true, decide_eq_true_eq] at h; exact h.1
theorem mayL_len {l : Lb} (h : mayL l = true) : l.length ≤ 8 := by unfold mayL at h; simp only [Bool.and_eq_true, decide_eq_true_eq] at h; exact h.2
/-- How labels stand: fewer tags first. -/
def cmpG : Lb → Lb → Int
  | [], [] => 0
  | [], _ :: _ => -1
  | _ :: _, [] => 1
  | a :: l, b :: m => if a.toNat < b.toNat then -1 else if b.toNat < a.toNat then 1 else cmpG l m
def cmpL (a b : Lb) : Int := if a.length < b.length then -1 else if b.length < a.length then 1 else cmpG a b
theorem cmpG_step {a b : Lb} {i : Nat} (ha : i < a.length) (hb : i < b.length) : cmpG (a.drop i) (b.drop i) = if (a.getD i 0).toNat < (b.getD i 0).toNat then -1 else if (b.getD i 0).toNat < (a.getD i 0).toNat then 1 else cmpG (a.drop (i + 1)) (b.drop (i + 1)) := by
  rw [List.drop_eq_getElem_cons ha, List.drop_eq_getElem_cons hb]
  simp [cmpG, List.getD_eq_getElem?_getD, ha, hb]
theorem cmpG_end {a b : Lb} {i : Nat} (ha : a.length ≤ i) (hb : b.length ≤ i) : cmpG (a.drop i) (b.drop i) = 0 := by
  rw [List.drop_of_length_le ha, List.drop_of_length_le hb]; rfl
theorem cmpG_refl : ∀ (a : Lb), cmpG a a = 0
  | [] => rfl
  | a :: l => by simp [cmpG, cmpG_refl l]
theorem cmpG_eq : ∀ {a b : Lb}, cmpG a b = 0 → a = b
  | [], [], _ => rfl
  | [], _ :: _, h => by simp [cmpG] at h
  | _ :: _, [], h => by simp [cmpG] at h
  | a :: l, b :: m, h => by
    unfold cmpG at h
    split at h
    · simp at h
    · split at h
      · simp at h
      · have : a = b := UInt16.toNat_inj.1 (by omega)
        rw [this, cmpG_eq h]
theorem cmpL_zero {a b : Lb} : cmpL a b = 0 ↔ a = b := by
  constructor
  · intro h
    unfold cmpL at h
    split at h
    · simp at h
    · split at h
      · simp at h
      · exact cmpG_eq h
  · rintro rfl; simp [cmpL, cmpG_refl]
def be2 (t : UInt16) : List UInt8 := [UInt8.ofNat (t.toNat / 256), UInt8.ofNat t.toNat]
theorem flat_len' : ∀ (l : Lb), (l.flatMap be2).length = l.length * 2
  | [] => rfl
  | a :: l => by rw [List.flatMap_cons, List.length_append, flat_len' l, List.length_cons]; simp [be2]; omega
/-- A label's bytes. -/
def putL (l : Lb) : List UInt8 := UInt8.ofNat l.length :: l.flatMap be2
theorem flat_len2 (l : Lb) : (l.flatMap be2).length = l.length * 2 := flat_len' l
theorem putL_len (l : Lb) : (putL l).length = 1 + l.length * 2 := by rw [putL, List.length_cons, flat_len']; omega
/-- The tags that bytes say. -/
def tagsL (n : Nat) (b : List UInt8) : Lb := (List.range n).map fun i => UInt16.ofNat ((b.getD (1 + 2 * i) 0).toNat * 256 + (b.getD (2 + 2 * i) 0).toNat)
theorem tags_step {n : Nat} {b : List UInt8} : tagsL (n + 1) b = tagsL n b ++ [UInt16.ofNat ((b.getD (1 + 2 * n) 0).toNat * 256 + (b.getD (2 + 2 * n) 0).toNat)] := by
  simp [tagsL, List.range_succ]
theorem tags_len (n : Nat) (b : List UInt8) : (tagsL n b).length = n := by simp [tagsL]
/-- What is read of bytes: a label, how many, the error. -/
def takeL (b : List UInt8) : Lb × Int × Int :=
  if b.length = 0 then ([], 0, 2) else if 8 < (b.getD 0 0).toNat then ([], 0, 3) else if b.length < 1 + 2 * (b.getD 0 0).toNat then ([], 0, 2)
  else if Rise (tagsL (b.getD 0 0).toNat b) then (tagsL (b.getD 0 0).toNat b, ((1 + 2 * (b.getD 0 0).toNat : Nat) : Int), 0) else ([], 0, 3)
theorem takeL_len (b : List UInt8) : 0 ≤ (takeL b).2.1 ∧ (takeL b).2.1 ≤ b.length ∧ ((takeL b).2.2 = 0 ∨ (takeL b).2.2 = 2 ∨ (takeL b).2.2 = 3) ∧ (takeL b).1.length ≤ 8 := by
  unfold takeL
  split
  · simp
  · split
    · simp
    · split
      · simp
      · split
        · refine ⟨by simp only; omega, by simp only; omega, .inl rfl, ?_⟩
          show (tagsL _ b).length ≤ 8
          rw [tags_len]; omega
        · simp
/-- A key of a value, a label, a number. -/
def keyX (x : Vl) (l : Lb) (n : Nat) : List UInt8 := keyV x ++ putL l ++ be8 n
/-- What is read of bytes: a value, a label, a number, the error. -/
def takeX (b : List UInt8) : Vl × Lb × Nat × Int :=
  if (takeV b).2.2 ≠ 0 then (V0, [], 0, (takeV b).2.2)
  else if (takeL (b.drop (takeV b).2.1.toNat)).2.2 ≠ 0 then (V0, [], 0, (takeL (b.drop (takeV b).2.1.toNat)).2.2)
  else if (b.drop ((takeV b).2.1.toNat + (takeL (b.drop (takeV b).2.1.toNat)).2.1.toNat)).length < 8 then (V0, [], 0, 2)
  else if 8 < (b.drop ((takeV b).2.1.toNat + (takeL (b.drop (takeV b).2.1.toNat)).2.1.toNat)).length then (V0, [], 0, 3)
  else ((takeV b).1, (takeL (b.drop (takeV b).2.1.toNat)).1, ofBe (b.drop ((takeV b).2.1.toNat + (takeL (b.drop (takeV b).2.1.toNat)).2.1.toNat)), 0)
theorem takeX_lab (b : List UInt8) : (takeX b).2.1.length ≤ 8 := by
  unfold takeX
  have := takeL_len (b.drop (takeV b).2.1.toNat)
  (repeat' split) <;> first | exact this.2.2.2 | simp
end Go.Proofs.Ytkkongnmcfdioaa
