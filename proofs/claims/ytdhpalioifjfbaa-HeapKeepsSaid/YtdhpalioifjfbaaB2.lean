/- What a page's bytes are, plainly. -/
import Derived.Conc.LoneSelect
import Derived.Maps.RangeRun
import Derived.WalkSpells
import Derived.Test.YtdhpalioifjfbaaProg
import Derived.KernelRfl
import Derived.Test.YtdhpalioifjfbaaB1
set_option linter.unusedVariables false
set_option linter.unusedSimpArgs false

namespace Go.Proofs.Ytdhpalioifjfbaa
open Go.Gx Go.RowKit
abbrev By := List UInt8
def numB (b : By) (k : Nat) : Nat := (b.getD k 0).toNat * 256 + (b.getD (k + 1) 0).toNat
def setB (b : By) (k n : Nat) : By := (b.set k (UInt8.ofNat (n / 2 ^ 8))).set (k + 1) (UInt8.ofNat n)
theorem setB_len (b : By) (k n : Nat) : (setB b k n).length = b.length := by simp [setB]
theorem getD_set_same {b : By} {k : Nat} {c : UInt8} (h : k < b.length) : (b.set k c).getD k 0 = c := by simp [h]
theorem getD_set_other {b : By} {k j : Nat} {c : UInt8} (h : k ≠ j) : (b.set k c).getD j 0 = b.getD j 0 := by simp [List.getD_eq_getElem?_getD, h]
theorem numB_lt (b : By) (k : Nat) : numB b k < 65536 := by
  have h1 := (b.getD k 0).toNat_lt; have h2 := (b.getD (k + 1) 0).toNat_lt; unfold numB; omega
theorem numB_set {b : By} {k n : Nat} (h : k + 1 < b.length) (hn : n < 65536) : numB (setB b k n) k = n := by
  unfold numB setB
  rw [getD_set_other (by omega), getD_set_same (by omega), getD_set_same (by simp; omega), UInt8.toNat_ofNat', UInt8.toNat_ofNat']
  omega
theorem getD_setB {b : By} {k j n : Nat} (h : j ≠ k ∧ j ≠ k + 1) : (setB b k n).getD j 0 = b.getD j 0 := by
  unfold setB; rw [getD_set_other (by omega), getD_set_other (by omega)]
theorem numB_other {b : By} {k j n : Nat} (h : j + 1 < k ∨ k + 1 < j) : numB (setB b k n) j = numB b j := by
  unfold numB; rw [getD_setB (by omega), getD_setB (by omega)]
theorem set_u8 {l : By} {i : Nat} {c : UInt8} (h : i < l.length) : (l.map u8v).take i ++ [Value.int .u8 (c.toNat : Int)] ++ (l.map u8v).drop (i + 1) = (l.set i c).map u8v := by
  rw [List.set_eq_take_append_cons_drop, if_pos h]; simp [u8v, List.map_take, List.map_drop]
theorem shl8i {x : Int} (h : 0 ≤ x ∧ x < 65536) : IntKind.i64.wrap (x * 2 ^ (min (8 : Int).toNat (IntKind.bits .i64))) = x * 256 := by
  have : (min (8 : Int).toNat (IntKind.bits .i64)) = 8 := by decide
  rw [this]
  exact wrap_i64 (by omega)
theorem or8i {x c : Nat} (hx : x < 256) (hc : c < 256) : bits .or .i64 ((x : Int) * 256) (c : Int) = ((x * 256 + c : Nat) : Int) := by
  have e1 : BitVec.ofInt 64 ((x : Int) * 256) = BitVec.ofNat 64 (x * 256) := by
    rw [show ((x : Int) * 256) = ((x * 256 : Nat) : Int) from by simp]; exact BitVec.ofInt_natCast ..
  have e2 : BitVec.ofInt 64 (c : Int) = BitVec.ofNat 64 c := BitVec.ofInt_natCast ..
  have h : (BitVec.ofNat 64 (x * 256) ||| BitVec.ofNat 64 c).toNat = x * 256 + c := by
    rw [BitVec.toNat_or, BitVec.toNat_ofNat, BitVec.toNat_ofNat, Nat.mod_eq_of_lt (by omega), Nat.mod_eq_of_lt (by omega), show x * 256 = 2 ^ 8 * x by omega, ← Nat.two_pow_add_eq_or_of_lt (by omega)]
  show IntKind.i64.wrap ((BitVec.ofInt 64 ((x : Int) * 256) ||| BitVec.ofInt 64 (c : Int)).toNat : Int) = _
  rw [e1, e2, h]
  exact wrap_i64 (by omega)
theorem zeros_u8 (n : Nat) : List.replicate n (Value.int .u8 0) = (List.replicate n (0 : UInt8)).map u8v := by simp [u8v]
def cpB (b : By) (k : Nat) (r : By) : By := b.take k ++ r ++ b.drop (k + r.length)
theorem cp_len {b r : By} {k : Nat} (h : k + r.length ≤ b.length) : (cpB b k r).length = b.length := by simp [cpB]; omega
theorem cp_out {b r : By} {k j : Nat} (h : k + r.length ≤ b.length) (hj : j < k ∨ k + r.length ≤ j) : (cpB b k r).getD j 0 = b.getD j 0 := by
  unfold cpB
  simp only [List.getD_eq_getElem?_getD, List.getElem?_append, List.getElem?_take, List.getElem?_drop, List.length_append, List.length_take]
  rcases hj with hj | hj
  · rw [if_pos (by omega), if_pos (by omega), if_pos hj]
  · rw [if_neg (by omega)]; congr 2; omega
theorem cp_in {b r : By} {k j : Nat} (h : k + r.length ≤ b.length) (hj : j < r.length) : (cpB b k r).getD (k + j) 0 = r.getD j 0 := by
  unfold cpB
  simp only [List.getD_eq_getElem?_getD, List.getElem?_append, List.length_append, List.length_take]
  rw [if_pos (by omega), if_neg (by omega)]; congr 2; omega
theorem numB_cp {b r : By} {k j : Nat} (h : k + r.length ≤ b.length) (hj : j + 1 < k) : numB (cpB b k r) j = numB b j := by
  unfold numB; rw [cp_out h (by omega), cp_out h (by omega)]
def sumL (L : List By) : Nat := (L.map List.length).sum
theorem sumL_app (L M : List By) : sumL (L ++ M) = sumL L + sumL M := by simp [sumL]
theorem sumL_one (r : By) : sumL [r] = r.length := by simp [sumL]
theorem sumL_take_le (L : List By) (m : Nat) : sumL (L.take m) ≤ sumL L := by
  have := sumL_app (L.take m) (L.drop m); rw [List.take_append_drop] at this; omega
theorem take_snoc {L : List By} {i : Nat} (h : i < L.length) : L.take (i + 1) = L.take i ++ [L.getD i []] := by
  rw [List.take_add_one]; simp [List.getD_eq_getElem?_getD, h]
theorem sumL_step {L : List By} {i : Nat} (h : i < L.length) : sumL (L.take (i + 1)) = sumL (L.take i) + (L.getD i []).length := by
  rw [take_snoc h, sumL_app, sumL_one]
theorem sumL_set {L : List By} {i : Nat} {r : By} (h : i < L.length) : sumL (L.set i r) + (L.getD i []).length = sumL L + r.length := by
  have e : L = L.take i ++ [L.getD i []] ++ L.drop (i + 1) := by rw [← take_snoc h, List.take_append_drop]
  have e2 : L.set i r = L.take i ++ [r] ++ L.drop (i + 1) := by rw [List.set_eq_take_append_cons_drop, if_pos h]; simp
  have h1 : sumL L = sumL (L.take i) + (L.getD i []).length + sumL (L.drop (i + 1)) := by
    have := congrArg sumL e; rw [sumL_app, sumL_app, sumL_one] at this; exact this
  rw [e2, sumL_app, sumL_app, sumL_one]; omega
theorem getD_le_sum {L : List By} {i : Nat} (h : i < L.length) : (L.getD i []).length ≤ sumL L := by
  have := sumL_step h; have := sumL_take_le L (i + 1); omega
def recAt (b : By) (s : Nat) (r : By) (low : Nat) : Prop :=
  numB b (8 + s * 4 + 2) = r.length ∧ numB b (8 + s * 4) + r.length ≤ 256 ∧ (r ≠ [] → low ≤ numB b (8 + s * 4)) ∧ ∀ j, j < r.length → b.getD (numB b (8 + s * 4) + j) 0 = r.getD j 0
structure Rep (b : By) (L : List By) : Prop where
  len : b.length = 256
  many : numB b 0 = L.length
  fit : 8 + L.length * 4 ≤ numB b 2
  low : numB b 2 ≤ 256
  sum : sumL L + numB b 2 ≤ 256
  recs : ∀ s, s < L.length → recAt b s (L.getD s []) (numB b 2)
def sizeL (L : List By) (s : Int) : Nat := if s < 0 ∨ (L.length : Int) ≤ s then 0 else (L.getD s.toNat []).length
theorem sizeL_in {L : List By} {s : Nat} (h : s < L.length) : sizeL L (s : Int) = (L.getD s []).length := by unfold sizeL; rw [if_neg (by omega)]; rfl
theorem sizeL_out {L : List By} {s : Int} (h : s < 0 ∨ (L.length : Int) ≤ s) : sizeL L s = 0 := if_pos h
theorem sizeL_nat {L : List By} {s : Int} (h : sizeL L s ≠ 0) : 0 ≤ s ∧ s < (L.length : Int) := by
  unfold sizeL at h; split at h <;> omega
theorem Rep.size {b : By} {L : List By} (h : Rep b L) {s : Nat} (hs : s < L.length) : numB b (8 + s * 4 + 2) = (L.getD s []).length := (h.recs s hs).1
theorem Rep.fits {b : By} {L : List By} (h : Rep b L) : L.length ≤ 62 := by have := h.fit; have := h.low; omega
theorem recAt.frame {b b' : By} {s low low' : Nat} {r : By} (h : recAt b s r low) (h1 : numB b' (8 + s * 4) = numB b (8 + s * 4)) (h2 : numB b' (8 + s * 4 + 2) = numB b (8 + s * 4 + 2)) (hl : low' ≤ low)
    (h3 : r ≠ [] → ∀ j, low ≤ j → b'.getD j 0 = b.getD j 0) : recAt b' s r low' := by
  obtain ⟨q1, q2, q3, q4⟩ := h
  refine ⟨h2.trans q1, by rw [h1]; exact q2, fun hr => by have := q3 hr; omega, fun j hj => ?_⟩
  have hr : r ≠ [] := fun hh => by subst hh; simp at hj
  rw [h1, h3 hr _ (by have := q3 hr; omega)]
  exact q4 j hj
theorem Rep.get {b : By} {L : List By} (h : Rep b L) {s : Nat} (hs : s < L.length) : (b.drop (numB b (8 + s * 4))).take (L.getD s []).length = L.getD s [] := by
  obtain ⟨q1, q2, q3, q4⟩ := h.recs s hs
  have := h.len
  generalize L.getD s [] = r at q1 q2 q3 q4 ⊢
  refine List.ext_getElem (by simp; omega) fun j h1 h2 => ?_
  have := q4 j h2
  simp only [List.getD_eq_getElem?_getD] at this
  rw [List.getElem?_eq_getElem (by omega), List.getElem?_eq_getElem h2] at this
  simpa using this
theorem sizeL_le {b : By} {L : List By} (h : Rep b L) (s : Int) : sizeL L s ≤ 256 := by
  unfold sizeL; split
  · omega
  · have := getD_le_sum (L := L) (i := s.toNat) (by omega); have := h.sum; omega
def ptsB (b : By) (s at_ n : Nat) : By := setB (setB b (8 + s * 4) at_) (8 + s * 4 + 2) n
theorem pts_len (b : By) (s at_ n : Nat) : (ptsB b s at_ n).length = b.length := by simp [ptsB, setB_len]
theorem pts_at {b : By} {s at_ n : Nat} (h : 8 + s * 4 + 3 < b.length) (ha : at_ < 65536) : numB (ptsB b s at_ n) (8 + s * 4) = at_ := by
  unfold ptsB; rw [numB_other (by omega), numB_set (by omega) ha]
theorem pts_size {b : By} {s at_ n : Nat} (h : 8 + s * 4 + 3 < b.length) (hn : n < 65536) : numB (ptsB b s at_ n) (8 + s * 4 + 2) = n := by
  unfold ptsB; rw [numB_set (by simp only [setB_len]; omega) hn]
theorem pts_num {b : By} {s at_ n j : Nat} (h : j + 1 < 8 + s * 4 ∨ 8 + s * 4 + 3 < j) : numB (ptsB b s at_ n) j = numB b j := by
  unfold ptsB; rw [numB_other (by omega), numB_other (by omega)]
theorem pts_get {b : By} {s at_ n j : Nat} (h : j < 8 + s * 4 ∨ 8 + s * 4 + 3 < j) : (ptsB b s at_ n).getD j 0 = b.getD j 0 := by
  unfold ptsB; rw [getD_setB (by omega), getD_setB (by omega)]
theorem Rep.empty {b : By} {L : List By} (h : Rep b L) {k : Nat} (hk : k < L.length) : Rep (ptsB b k 0 0) (L.set k []) := by
  have hl := h.len; have hf := h.fit; have hw := h.low; have hs := sumL_set (r := []) hk
  simp only [List.length_nil] at hs
  have e2 : numB (ptsB b k 0 0) 2 = numB b 2 := pts_num (by omega)
  refine ⟨by rw [pts_len, hl], by rw [pts_num (by omega), h.many]; simp, by rw [e2]; simpa using hf, by rw [e2]; exact hw, by rw [e2]; have := h.sum; omega, fun s hs' => ?_⟩
  have hs2 : s < L.length := by simpa using hs'
  rw [e2]
  by_cases hsk : s = k
  · subst hsk
    have : (L.set s []).getD s [] = [] := by simp [hs2]
    rw [this]
    exact ⟨pts_size (by omega) (by omega), by rw [pts_at (by omega) (by omega)]; simp, fun hh => absurd rfl hh, fun j hj => by simp at hj⟩
  · have : (L.set k []).getD s [] = L.getD s [] := by simp [List.getD_eq_getElem?_getD, List.getElem?_set, Ne.symm hsk]
    rw [this]
    exact (h.recs s hs2).frame (pts_num (by omega)) (pts_num (by omega)) (Nat.le_refl _) fun _ j hj => pts_get (by omega)
theorem Rep.cut {b : By} {L : List By} (h : Rep b L) {m : Nat} (hm : m ≤ L.length) : Rep (setB b 0 m) (L.take m) := by
  have hl := h.len; have hf := h.fit; have hw := h.low; have hs := sumL_take_le L m; have hsu := h.sum
  have e2 : numB (setB b 0 m) 2 = numB b 2 := numB_other (by omega)
  have elen : (L.take m).length = m := by simp; omega
  refine ⟨by rw [setB_len, hl], by rw [numB_set (by omega) (by omega), elen], by rw [e2, elen]; omega, by rw [e2]; exact hw, by rw [e2]; omega, fun s hs' => ?_⟩
  rw [elen] at hs'
  have : (L.take m).getD s [] = L.getD s [] := by simp [List.getD_eq_getElem?_getD, List.getElem?_take, hs']
  rw [e2, this]
  exact (h.recs s (by omega)).frame (numB_other (by omega)) (numB_other (by omega)) (Nat.le_refl _) fun _ j hj => getD_setB (by omega)
def layL (L : List By) (k : Nat) (r : By) : List By := if k < L.length then L.set k r else L ++ [r]
theorem layL_len {L : List By} {k : Nat} {r : By} (h : k ≤ L.length) : (layL L k r).length = max L.length (k + 1) := by
  unfold layL; split <;> simp <;> omega
theorem layL_get {L : List By} {k : Nat} {r : By} (h : k ≤ L.length) : (layL L k r).getD k [] = r := by
  unfold layL; split
  · rename_i hk; simp [hk]
  · have : k = L.length := by omega
    subst this; simp
theorem layL_other {L : List By} {k s : Nat} {r : By} (h : k ≤ L.length) (hs : s ≠ k) : (layL L k r).getD s [] = L.getD s [] := by
  unfold layL; split
  · simp [List.getD_eq_getElem?_getD, List.getElem?_set, Ne.symm hs]
  · have : k = L.length := by omega
    subst this
    rcases Nat.lt_or_gt_of_ne hs with q | q
    · simp [List.getD_eq_getElem?_getD, List.getElem?_append, q]
    · simp [List.getD_eq_getElem?_getD, List.getElem?_append, show ¬ s < L.length by omega, show L.length ≤ s by omega, show s - L.length ≠ 0 by omega]
theorem layL_sum {L : List By} {k : Nat} {r : By} (h : k ≤ L.length) (he : L.getD k [] = []) : sumL (layL L k r) = sumL L + r.length := by
  unfold layL; split
  · rename_i hk; have := sumL_set (r := r) hk; rw [he] at this; simpa using this
  · rw [sumL_app, sumL_one]
def lay1 (b : By) (k : Nat) : By := if numB b 0 ≤ k then setB b 0 (k + 1) else b
def layB (b : By) (k : Nat) (r : By) : By := setB (ptsB (cpB (lay1 b k) (numB (lay1 b k) 2 - r.length) r) k (numB (lay1 b k) 2 - r.length) r.length) 2 (numB (lay1 b k) 2 - r.length)
theorem Rep.lay {b : By} {L : List By} (h : Rep b L) {k : Nat} {r : By} (hk : k ≤ L.length) (he : L.getD k [] = []) (hr : 8 + (max L.length (k + 1)) * 4 + r.length ≤ numB b 2) : Rep (layB b k r) (layL L k r) := by
  have hl := h.len; have hf := h.fit; have hw := h.low; have hsum := h.sum; have hm := h.many; have hll := layL_len (r := r) hk
  have key : ∀ b1 : By, b1.length = 256 → numB b1 0 = (layL L k r).length → numB b1 2 = numB b 2 → (∀ j, 2 ≤ j → b1.getD j 0 = b.getD j 0) →
      Rep (setB (ptsB (cpB b1 (numB b1 2 - r.length) r) k (numB b1 2 - r.length) r.length) 2 (numB b1 2 - r.length)) (layL L k r) := by
    intro b1 l1 m1 n1 g1
    rw [n1]
    generalize hlo : numB b 2 - r.length = low
    have hc : low + r.length ≤ b1.length := by omega
    have e2 : numB (setB (ptsB (cpB b1 low r) k low r.length) 2 low) 2 = low := numB_set (by rw [pts_len, cp_len hc]; omega) (by omega)
    have en : ∀ j, 4 ≤ j → numB (setB (ptsB (cpB b1 low r) k low r.length) 2 low) j = numB (ptsB (cpB b1 low r) k low r.length) j := fun j hj => numB_other (by omega)
    refine ⟨by rw [setB_len, pts_len, cp_len hc, l1], by rw [numB_other (by omega), pts_num (by omega), numB_cp hc (by omega), m1], by rw [e2, hll]; omega, by rw [e2]; omega, by rw [e2, layL_sum hk he]; omega, fun s hs => ?_⟩
    rw [e2]
    by_cases hsk : s = k
    · subst hsk
      have e3 : numB (setB (ptsB (cpB b1 low r) s low r.length) 2 low) (8 + s * 4) = low := by rw [en _ (by omega), pts_at (by rw [cp_len hc]; omega) (by omega)]
      rw [layL_get hk]
      refine ⟨by rw [en _ (by omega), pts_size (by rw [cp_len hc]; omega) (by omega)], by rw [e3]; omega, fun _ => by rw [e3]; exact Nat.le_refl _, fun j hj => ?_⟩
      rw [e3, getD_setB (by omega), pts_get (by omega), cp_in hc hj]
    · have hsl : s < L.length := by
        rw [hll] at hs; omega
      rw [layL_other hk hsk]
      have q : ∀ t, 8 ≤ t → t + 1 < low → (t + 1 < 8 + k * 4 ∨ 8 + k * 4 + 3 < t) → numB (setB (ptsB (cpB b1 low r) k low r.length) 2 low) t = numB b t := fun t ht1 ht2 ht => by
        rw [en _ (by omega), pts_num ht, numB_cp hc ht2]; unfold numB; rw [g1 _ (by omega), g1 _ (by omega)]
      refine (h.recs s hsl).frame (q _ (by omega) (by omega) (by omega)) (q _ (by omega) (by omega) (by omega)) (by omega) fun _ j hj => ?_
      rw [getD_setB (by omega), pts_get (by omega), cp_out hc (by omega), g1 _ (by omega)]
  unfold layB lay1
  by_cases hnk : numB b 0 ≤ k
  · simp only [hnk, if_true]
    refine key _ (by rw [setB_len, hl]) ?_ (numB_other (by omega)) fun j hj => getD_setB (by omega)
    rw [numB_set (by omega) (by omega), hll]; omega
  · simp only [hnk, if_false]
    exact key _ hl (by rw [hm, hll]; omega) rfl fun j hj => rfl
structure Pk (b : By) (L : List By) (i low : Nat) : Prop where
  len : b.length = 256
  many : numB b 0 = L.length
  sum : low + sumL (L.take i) = 256
  recs : ∀ s, s < i → recAt b s (L.getD s []) low
theorem Pk.start {b : By} {L : List By} (h : Rep b L) : Pk b L 0 256 := ⟨h.len, h.many, by simp [sumL], fun s hs => absurd hs (Nat.not_lt_zero _)⟩
theorem Pk.step {b : By} {L : List By} {i low : Nat} (h : Pk b L i low) (hfit : 8 + L.length * 4 + sumL L ≤ 256) (hi : i < L.length) :
    Pk (ptsB (cpB b (low - (L.getD i []).length) (L.getD i [])) i (low - (L.getD i []).length) (L.getD i []).length) L (i + 1) (low - (L.getD i []).length) := by
  have hs := sumL_step hi; have ht := sumL_take_le L (i + 1); have h0 := h.sum; have hl := h.len
  generalize hr : L.getD i [] = r at hs ⊢
  generalize hlo : low - r.length = lo
  have hc : lo + r.length ≤ b.length := by omega
  refine ⟨by rw [pts_len, cp_len hc, hl], by rw [pts_num (by omega), numB_cp hc (by omega), h.many], by omega, fun s hsi => ?_⟩
  by_cases hsk : s = i
  · subst hsk
    have e3 : numB (ptsB (cpB b lo r) s lo r.length) (8 + s * 4) = lo := pts_at (by rw [cp_len hc]; omega) (by omega)
    rw [hr]
    refine ⟨pts_size (by rw [cp_len hc]; omega) (by omega), by rw [e3]; omega, fun _ => by rw [e3]; exact Nat.le_refl _, fun j hj => ?_⟩
    rw [e3, pts_get (by omega), cp_in hc hj]
  · refine (h.recs s (by omega)).frame ?_ ?_ (by omega) fun _ j hj => ?_
    · rw [pts_num (by omega), numB_cp hc (by omega)]
    · rw [pts_num (by omega), numB_cp hc (by omega)]
    · rw [pts_get (by omega), cp_out hc (by omega)]
theorem Pk.last {b : By} {L : List By} {low : Nat} (h : Pk b L L.length low) (hfit : 8 + L.length * 4 + sumL L ≤ 256) : Rep (setB b 2 low) L ∧ numB (setB b 2 low) 2 + sumL L = 256 := by
  have h0 := h.sum; rw [List.take_length] at h0
  have hl := h.len
  have e2 : numB (setB b 2 low) 2 = low := numB_set (by omega) (by omega)
  refine ⟨⟨by rw [setB_len, hl], by rw [numB_other (by omega), h.many], by rw [e2]; omega, by rw [e2]; omega, by rw [e2]; omega, fun s hs => ?_⟩, by rw [e2]; exact h0⟩
  rw [e2]
  exact (h.recs s hs).frame (numB_other (by omega)) (numB_other (by omega)) (Nat.le_refl _) fun _ j hj => getD_setB (by omega)
theorem Pk.room {b : By} {L : List By} {i low : Nat} (h : Pk b L i low) (hfit : 8 + L.length * 4 + sumL L ≤ 256) (hi : i < L.length) : 8 + L.length * 4 + (L.getD i []).length ≤ low ∧ low ≤ 256 := by
  have hs := sumL_step hi; have ht := sumL_take_le L (i + 1); have h0 := h.sum; omega
abbrev ByV := Value × By
def D0 : ByV := (default, [])
theorem acc_get {acc : List ByV} {L : List By} {m i : Nat} (h : acc.map Prod.snd = L.take m) (hi : i < m) (hm : m ≤ L.length) : (acc.getD i D0).2 = L.getD i [] := by
  have h1 : (acc.map Prod.snd)[i]? = L[i]? := by rw [h, List.getElem?_take, if_pos hi]
  have h2 : i < acc.length := by
    have := congrArg List.length h; simp at this; omega
  simp only [List.getElem?_map, List.getElem?_eq_getElem h2, Option.map_some] at h1
  simp only [List.getD_eq_getElem?_getD, List.getElem?_eq_getElem h2, ← h1]; rfl
theorem acc_len {acc : List ByV} {L : List By} {m : Nat} (h : acc.map Prod.snd = L.take m) (hm : m ≤ L.length) : acc.length = m := by have := congrArg List.length h; simp at this; omega
theorem oall_snoc {w : World} {base e sz : Nat} {acc : List ByV} {v : Value} {r : By} (h : ∀ x9 ∈ acc, Own w base e sz x9.1 x9.2.length (x9.2.map u8v)) (O : Own w base e sz v r.length (r.map u8v)) :
    ∀ x9 ∈ acc ++ [(v, r)], Own w base e sz x9.1 x9.2.length (x9.2.map u8v) := by
  intro x hx
  rcases List.mem_append.1 hx with q | q
  · exact h x q
  · rw [List.mem_singleton.1 q]; exact O
theorem acc_snoc {acc : List ByV} {L : List By} {s : Nat} {v : Value} (h : acc.map Prod.snd = L.take s) (hs : s < L.length) : (acc ++ [(v, L.getD s [])]).map Prod.snd = L.take (s + 1) := by
  rw [take_snoc hs, List.map_append, h]; rfl
def newB : By := setB (List.replicate 256 0) 2 256
theorem Rep.new : Rep newB [] := ⟨by decide +kernel, by decide +kernel, by decide +kernel, by decide +kernel, by decide +kernel, fun s hs => absurd hs (Nat.not_lt_zero _)⟩
def Pg (n : Nat) (b : By) (L : List By) (vb : Value) : Prop := (n = 0 ∧ b = [] ∧ L = [] ∧ vb.ownBlock = none) ∨ (n = 256 ∧ Rep b L)
theorem Rep.pg {b : By} {L : List By} {v : Value} (h : Rep b L) : Pg 256 b L v := .inr ⟨rfl, h⟩
theorem Pg.rowOr {n p k0 : Nat} {b : By} {L : List By} {vb : Value} (h : Pg n b L vb) : RowOr vb (pgRow p n vb) k0 := by
  rcases h with ⟨rfl, _, _, hv⟩ | ⟨rfl, _⟩
  · exact .inr fun k hk => by rw [hv] at hk; cases hk
  · exact .inl rfl
theorem Pg.rowP {n p k0 : Nat} {b : By} {L : List By} {vb : Value} (h : Pg n b L vb) : RowP p n vb (pgRow p n vb) k0 := ⟨h.rowOr, .inl rfl⟩
theorem Pg.fits {n : Nat} {b : By} {L : List By} {vb : Value} (h : Pg n b L vb) : L.length ≤ 62 ∧ sumL L + 4 * L.length ≤ 248 := by
  rcases h with ⟨_, _, rfl, _⟩ | ⟨_, R⟩
  · decide
  · have h1 := R.fits; have h2 := R.fit; have h3 := R.sum; omega
theorem Pg.zero : Pg 0 [] [] (.slice none 0 0) := .inl ⟨rfl, rfl, rfl, rfl⟩
def freeL : List By → Nat
  | [] => 0
  | r :: t => if r = [] then 0 else freeL t + 1
theorem freeL_le : ∀ L : List By, freeL L ≤ L.length
  | [] => Nat.le_refl _
  | r :: t => by have := freeL_le t; simp only [freeL, List.length_cons]; split <;> omega
theorem freeL_go : ∀ {L : List By} {j : Nat}, j ≤ freeL L → j < L.length → L.getD j [] ≠ [] → j + 1 ≤ freeL L
  | [], j, _, h2, _ => absurd h2 (Nat.not_lt_zero _)
  | r :: t, 0, _, _, h3 => by simp only [freeL]; rw [if_neg (by simpa using h3)]; omega
  | r :: t, j + 1, h1, h2, h3 => by
    simp only [freeL] at h1 ⊢
    split at h1
    · omega
    · rename_i hr; rw [if_neg hr]
      have := freeL_go (L := t) (j := j) (by omega) (by simpa using h2) (by simpa using h3)
      omega
theorem freeL_stop : ∀ {L : List By} {j : Nat}, j ≤ freeL L → (L.length ≤ j ∨ L.getD j [] = []) → freeL L = j
  | [], j, h1, _ => by simp only [freeL] at h1 ⊢; omega
  | r :: t, 0, _, h2 => by
    rcases h2 with h2 | h2
    · simp at h2
    · simp only [freeL]; rw [if_pos (by simpa using h2)]
  | r :: t, j + 1, h1, h2 => by
    simp only [freeL] at h1 ⊢
    split at h1
    · omega
    · rename_i hr; rw [if_neg hr]
      have := freeL_stop (L := t) (j := j) (by omega) (by rcases h2 with h2 | h2; exact .inl (by simpa using h2); exact .inr (by simpa using h2))
      omega
theorem freeL_get {L : List By} : L.getD (freeL L) [] = [] := by
  by_cases h : freeL L < L.length
  · by_cases h2 : L.getD (freeL L) [] = []
    · exact h2
    · have := freeL_go (Nat.le_refl _) h h2; omega
  · simp [List.getD_eq_getElem?_getD, show L.length ≤ freeL L by omega]
def cutL (L : List By) : List By := (L.reverse.dropWhile (· == [])).reverse
theorem cutL_nil (L : List By) : cutL (L ++ [[]]) = cutL L := by simp [cutL]
theorem cutL_snoc {L : List By} {r : By} (h : r ≠ []) : cutL (L ++ [r]) = L ++ [r] := by simp [cutL, h]
theorem cutL_go {L : List By} {m : Nat} (h : 0 < m) (hm : m ≤ L.length) (he : L.getD (m - 1) [] = []) : cutL (L.take m) = cutL (L.take (m - 1)) := by
  have := take_snoc (L := L) (i := m - 1) (by omega)
  rw [show m - 1 + 1 = m by omega, he] at this
  rw [this, cutL_nil]
theorem cutL_stop {L : List By} {m : Nat} (hm : m ≤ L.length) (he : m = 0 ∨ L.getD (m - 1) [] ≠ []) : cutL (L.take m) = L.take m := by
  rcases Nat.eq_zero_or_pos m with h | h
  · subst h; rfl
  · have := take_snoc (L := L) (i := m - 1) (by omega)
    rw [show m - 1 + 1 = m by omega] at this
    rw [this, cutL_snoc (by rcases he with he | he; omega; exact he)]
def slotsN (L : List By) (m : Nat) : List Nat := (List.range m).filter (fun s => (L.getD s []).length != 0)
theorem slotsN_go {L : List By} {m : Nat} (h : (L.getD m []).length ≠ 0) : slotsN L (m + 1) = slotsN L m ++ [m] := by
  simp only [slotsN, List.range_succ, List.filter_append]; rw [List.filter_cons, if_pos (by simpa using h)]; rfl
theorem slotsN_skip {L : List By} {m : Nat} (h : (L.getD m []).length = 0) : slotsN L (m + 1) = slotsN L m := by
  have h2 : L.getD m [] = [] := List.length_eq_zero_iff.1 h
  simp only [slotsN, List.range_succ, List.filter_append]; rw [List.filter_cons]; simp only [h2]; simp
theorem slotsN_len (L : List By) (m : Nat) : (slotsN L m).length ≤ m := by
  have := List.length_filter_le (fun s => (L.getD s []).length != 0) (List.range m); simpa [slotsN] using this
def slotsI (L : List By) (m : Nat) : List Int := (slotsN L m).map (fun s => ((s : Nat) : Int))
theorem slotsI_go {L : List By} {m : Nat} (h : (L.getD m []).length ≠ 0) : slotsI L (m + 1) = slotsI L m ++ [((m : Nat) : Int)] := by simp [slotsI, slotsN_go h]
theorem slotsI_skip {L : List By} {m : Nat} (h : (L.getD m []).length = 0) : slotsI L (m + 1) = slotsI L m := by rw [slotsI, slotsN_skip h]; rfl
theorem slotsI_len (L : List By) (m : Nat) : (slotsI L m).length ≤ m := by simpa [slotsI] using slotsN_len L m
def leftL (L : List By) (m : Nat) : Int := 248 - (m : Int) * 4 - (sumL L : Int)
theorem Pg.left {n : Nat} {b : By} {L : List By} {vb : Value} (h : Pg n b L vb) : 0 ≤ leftL L L.length ∧ leftL L L.length ≤ 248 := by have := h.fits; unfold leftL; omega
theorem leftL_rng {b : By} {L : List By} (h : Rep b L) (m : Nat) (hm : m ≤ 1000) : -8000 ≤ leftL L m ∧ leftL L m ≤ 248 := by unfold leftL; have := h.sum; omega
def badB (r : By) : Bool := r.length == 0 || decide (200 < r.length)
theorem badB_t {r : By} (h : r.length = 0 ∨ 200 < r.length) : badB r = true := by unfold badB; rcases h with h | h <;> simp [h]
theorem badB_f {r : By} (h : r.length ≠ 0 ∧ r.length ≤ 200) : badB r = false := by
  unfold badB; rw [decide_eq_false (by omega), Bool.or_false]; exact beq_eq_false_iff_ne.2 h.1
def fullB (L : List By) (r : By) : Bool := decide (leftL L (max L.length (freeL L + 1)) < (r.length : Int))
def putE (L : List By) (r : By) : Int := if badB r then 7 else if fullB L r then 25 else 0
def putK (L : List By) (r : By) : Int := if badB r then 0 else if fullB L r then 0 else (freeL L : Int)
def putN (L : List By) (r : By) : List By := if badB r then L else if fullB L r then L else layL L (freeL L) r
def setE (L : List By) (k : Int) (r : By) : Int := if sizeL L k = 0 then 22 else if badB r then 7 else if leftL L L.length + (sizeL L k : Int) < (r.length : Int) then 25 else 0
def setN (L : List By) (k : Int) (r : By) : List By := if setE L k r = 0 then L.set k.toNat r else L
def dropE (L : List By) (k : Int) : Int := if sizeL L k = 0 then 22 else 0
def dropN (L : List By) (k : Int) : List By := if sizeL L k = 0 then L else cutL (L.set k.toNat [])
def getL (L : List By) (k : Int) : By := if k < 0 ∨ (L.length : Int) ≤ k then [] else L.getD k.toNat []
theorem getL_len (L : List By) (k : Int) : (getL L k).length = sizeL L k := by unfold getL sizeL; split <;> rfl
theorem getL_nil {L : List By} {k : Int} (h : sizeL L k = 0) : getL L k = [] := List.eq_nil_of_length_eq_zero (by rw [getL_len, h])
theorem getL_in {L : List By} {k : Int} (h : sizeL L k ≠ 0) : getL L k = L.getD k.toNat [] := by
  have := sizeL_nat h; unfold getL; rw [if_neg (by omega)]
theorem put_bad {L : List By} {r : By} (h : badB r = true) : putE L r = 7 ∧ putK L r = 0 ∧ putN L r = L := by simp [putE, putK, putN, h]
theorem put_full {L : List By} {r : By} (h : badB r = false) (h2 : leftL L (max L.length (freeL L + 1)) < (r.length : Int)) : putE L r = 25 ∧ putK L r = 0 ∧ putN L r = L := by
  have h3 : fullB L r = true := decide_eq_true h2
  simp [putE, putK, putN, h, h3]
theorem put_ok {L : List By} {r : By} (h : badB r = false) (h2 : ¬ leftL L (max L.length (freeL L + 1)) < (r.length : Int)) : putE L r = 0 ∧ putK L r = (freeL L : Int) ∧ putN L r = layL L (freeL L) r := by
  have h3 : fullB L r = false := decide_eq_false h2
  simp [putE, putK, putN, h, h3]
theorem layL_set {L : List By} {k : Nat} {r : By} (h : k < L.length) : layL (L.set k []) k r = L.set k r := by
  unfold layL; rw [if_pos (by simpa using h)]; simp
theorem set_get {L : List By} {k : Nat} (h : k < L.length) : (L.set k []).getD k [] = [] := by simp [h]
theorem set_none {L : List By} {k : Int} {r : By} (h : sizeL L k = 0) : setE L k r = 22 ∧ setN L k r = L := by
  have : setE L k r = 22 := by unfold setE; rw [if_pos h]
  exact ⟨this, by unfold setN; rw [this]; rfl⟩
theorem set_bad {L : List By} {k : Int} {r : By} (h : sizeL L k ≠ 0) (hb : badB r = true) : setE L k r = 7 ∧ setN L k r = L := by
  have : setE L k r = 7 := by unfold setE; rw [if_neg h, hb]; rfl
  exact ⟨this, by unfold setN; rw [this]; rfl⟩
theorem set_full {L : List By} {k : Int} {r : By} (h : sizeL L k ≠ 0) (hb : badB r = false) (hf : leftL L L.length + (sizeL L k : Int) < (r.length : Int)) : setE L k r = 25 ∧ setN L k r = L := by
  have : setE L k r = 25 := by unfold setE; rw [if_neg h, hb, if_neg (by decide), if_pos hf]
  exact ⟨this, by unfold setN; rw [this]; rfl⟩
theorem set_ok {L : List By} {k : Int} {r : By} (h : sizeL L k ≠ 0) (hb : badB r = false) (hf : ¬ leftL L L.length + (sizeL L k : Int) < (r.length : Int)) : setE L k r = 0 ∧ setN L k r = L.set k.toNat r := by
  have : setE L k r = 0 := by unfold setE; rw [if_neg h, hb, if_neg (by decide), if_neg hf]
  exact ⟨this, by unfold setN; rw [this]; rfl⟩
theorem drop_none {L : List By} {k : Int} (h : sizeL L k = 0) : dropE L k = 22 ∧ dropN L k = L := by unfold dropE dropN; rw [if_pos h, if_pos h]; exact ⟨rfl, rfl⟩
theorem drop_ok {L : List By} {k : Int} (h : sizeL L k ≠ 0) : dropE L k = 0 ∧ dropN L k = cutL (L.set k.toNat []) := by unfold dropE dropN; rw [if_neg h, if_neg h]; exact ⟨rfl, rfl⟩
theorem DJ.fresh {x u : Value} {row : Option Nat} {k0 k1 : Nat} (hr : RowOr u row k0) (h1 : ∀ k, u.ownBlock = some k → k < k1) (h2 : ∀ k, x.ownBlock = some k → k1 ≤ k) : DJ x u := fun k hk hg => by
  have := h1 k hg; have := h2 k hk; omega
end Go.Proofs.Ytdhpalioifjfbaa

namespace Go.Gx
open Go.RowKit Go.Conc

section
variable {P : Program} {ops : Array Oper} {Q : Exit → Act → World → Prop} {a : Act} {w w1 w2 : World} {o : Oper} {i : Nat} {r : List Nat} {v : Value}

end

/-! ### the operations ahead of the last one -/
section
variable {P : Program} {ops : Array Oper} {Q : Exit → Act → World → Prop}
end

/-! ### the channel's block -/
def ChC (w : World) (c cap : Nat) (buf : List Value) : Prop := ∃ s r, w.heap[c]? = some (.chan cap buf.toArray false s r false)
section
variable {P : Program} {w w' : World} {row : Option Nat} {b t c cap base e sz n L B : Nat} {cs buf buf' : List Value} {v : Value}
theorem ChC.lt (h : ChC w c cap buf) : c < w.heap.size := by obtain ⟨s, r, h⟩ := h; exact (Array.getElem?_eq_some_iff.1 h).1
theorem ChC.keep (h : ChC w c cap buf) (E : w.grownBy w' row) (hne : some c ≠ row) : ChC w' c cap buf := by
  have hl := h.lt; obtain ⟨s, r, h⟩ := h; exact ⟨s, r, (E.block c hl hne).trans h⟩
theorem ChC.keep0 (h : ChC w c cap buf) (E : w.grownBy w' none) : ChC w' c cap buf := h.keep E (by simp)
theorem Own.notCh (O : Own w base e sz v n cs) (h : ChC w c cap buf) : v.ownBlock ≠ some c := by
  obtain ⟨s, r, h⟩ := h
  rcases O.2 with ⟨rfl, _⟩ | ⟨g, off, cp, cur, fr, rfl, _, hg, _⟩
  · simp [Value.ownBlock]
  · intro hh; simp [Value.ownBlock] at hh; subst hh; rw [hg] at h; simp at h
theorem Bx.notCh (B : Bx w b t cs) (h : ChC w c cap buf) : b ≠ c := by
  rintro rfl; obtain ⟨s, r, h⟩ := h; unfold Bx at B; rw [B] at h; simp at h
theorem ChC.keepO (h : ChC w c cap buf) (O : Own w base e sz v n cs) (E : w.grownBy w' v.ownBlock) : ChC w' c cap buf := h.keep E fun hh => O.notCh h hh.symm
theorem ChC.keepB (h : ChC w c cap buf) (B : Bx w b t cs) (E : w.grownBy w' (some b)) : ChC w' c cap buf := h.keep E fun hh => B.notCh h (Option.some.inj hh).symm
end

/-! ### two blocks may change -/
structure Gr2 (w w' : World) (c p : Option Nat) : Prop where
  os : w'.os = w.os
  tape : w'.tape = w.tape
  output : w'.output = w.output
  size : w.heap.size ≤ w'.heap.size
  block : ∀ k, k < w.heap.size → some k ≠ c → some k ≠ p → w'.heap[k]? = w.heap[k]?
section
variable {w w1 w2 w' : World} {c p row : Option Nat} {base e sz n b : Nat} {cs : List Value} {v : Value}
theorem Gr2.refl (w : World) (c p : Option Nat) : Gr2 w w c p := ⟨rfl, rfl, rfl, Nat.le_refl _, fun _ _ _ _ => rfl⟩
theorem Gr2.go (h : Gr2 w w1 c p) (E : w1.grownBy w2 row) (hr : ∀ k, k < w.heap.size → row = some k → some k = c ∨ some k = p) : Gr2 w w2 c p :=
  ⟨E.os.trans h.os, E.tape.trans h.tape, E.output.trans h.output, Nat.le_trans h.size E.size, fun k hk hc hp => (E.block k (Nat.lt_of_lt_of_le hk h.size) (fun hh => by rcases hr k hk hh.symm with h | h <;> contradiction)).trans (h.block k hk hc hp)⟩
theorem Gr2.step0 (h : Gr2 w w1 c p) (E : w1.grownBy w2 none) : Gr2 w w2 c p := h.go E (by simp)
theorem Gr2.stepB (h : Gr2 w w1 c p) (E : w1.grownBy w2 p) : Gr2 w w2 c p := h.go E fun k _ hk => .inr hk.symm
theorem Gr2.step1 (h : Gr2 w w1 c p) (E : w1.grownBy w2 (some b)) (hb : w.heap.size ≤ b) : Gr2 w w2 c p := h.go E fun k hk hh => by cases hh; omega
theorem Gr2.split (h : Gr2 w w' c p) : ∃ w1, w.grownBy w1 c ∧ w1.grownBy w' p := by
  cases p with
  | none => exact ⟨w', ⟨h.os, h.tape, h.output, h.size, fun k hk hc => h.block k hk hc (by simp)⟩, grown_refl _ _⟩
  | some p =>
    by_cases hp : p < w.heap.size
    · have hp' : p < w'.heap.size := Nat.lt_of_lt_of_le hp h.size
      refine ⟨{ w' with heap := w'.heap.set p w.heap[p] hp' }, ⟨h.os, h.tape, h.output, by simpa using h.size, fun k hk hc => ?_⟩, ⟨rfl, rfl, rfl, by simp, fun k hk hk2 => ?_⟩⟩
      · show (w'.heap.set p w.heap[p] hp')[k]? = w.heap[k]?
        by_cases e : k = p
        · subst e; simp [hp, hp']
        · rw [Array.getElem?_set_ne _ (fun h => e h.symm)]; exact h.block k hk hc (by simpa using e)
      · show w'.heap[k]? = (w'.heap.set p w.heap[p] hp')[k]?
        rw [Array.getElem?_set_ne _ (fun h => hk2 (by rw [h]))]
    · exact ⟨w', ⟨h.os, h.tape, h.output, h.size, fun k hk hc => h.block k hk hc (fun e => hp (by cases e; exact hk))⟩, grown_refl _ _⟩
theorem Gr2.of (E : w.grownBy w' row) (h : row = c ∨ row = p) : Gr2 w w' c p := (Gr2.refl w c p).go E fun k _ hk => by rcases h with h | h <;> simp_all
end

/-! ### operations -/
section
variable {P : Program} {Q : Exit → Act → World → Prop} {a : Act} {w w' : World} {l : List (Nat × Value)} {ops : Array Oper} {rest : List Oper}
variable {d ty t e c cap : Nat} {p : String} {af : Array Edge} {x y : Operand} {v z : Value} {buf : List Value} {dir : ChanDir}
theorem run_zeroT (hz : zeroT P e = some z) (w : World) : (zeroValue e).run P w = .ok z w := by
  unfold zeroT at hz
  cases hi : P.info? e with
  | none => simp [hi] at hz
  | some i =>
    simp [hi] at hz
    simp [zeroValue, run_typeInfo w hi, hz]
end
/-! ### lists of texts -/
def sv (s : List UInt8) : Value := .string (bs s)
end Go.Gx

namespace Go.Gx
open Go.RowKit

structure Gr (w w' : World) (F : Nat → Prop) : Prop where
  os : w'.os = w.os
  tape : w'.tape = w.tape
  output : w'.output = w.output
  size : w.heap.size ≤ w'.heap.size
  block : ∀ k, k < w.heap.size → ¬ F k → w'.heap[k]? = w.heap[k]?
def Dj (F G : Nat → Prop) : Prop := ∀ k, F k → ¬ G k
abbrev Bl (v : Value) : Nat → Prop := fun k => v.ownBlock = some k
def NewF (n : Nat) (F F' : Nat → Prop) : Prop := ∀ k, F' k → F k ∨ n ≤ k
abbrev NoB : Nat → Prop := fun _ => False

section
variable {w w0 w1 w2 w' : World} {F G H F' : Nat → Prop} {row : Option Nat} {base e sz n b t L B c cap : Nat} {cs buf : List Value} {v u : Value}
theorem Gr.refl (w : World) (F : Nat → Prop) : Gr w w F := ⟨rfl, rfl, rfl, Nat.le_refl _, fun _ _ _ => rfl⟩
theorem Gr.go (h : Gr w w1 F) (E : Gr w1 w2 G) (hG : ∀ k, k < w.heap.size → G k → F k) : Gr w w2 F :=
  ⟨E.os.trans h.os, E.tape.trans h.tape, E.output.trans h.output, Nat.le_trans h.size E.size, fun k hk hn => (E.block k (Nat.lt_of_lt_of_le hk h.size) (fun hg => hn (hG k hk hg))).trans (h.block k hk hn)⟩
theorem Gr.of (E : w.grownBy w' row) : Gr w w' (fun k => row = some k) := ⟨E.os, E.tape, E.output, E.size, fun k hk hn => E.block k hk fun h => hn h.symm⟩
theorem Gr.of0 (E : w.grownBy w' none) (F : Nat → Prop) : Gr w w' F := ⟨E.os, E.tape, E.output, E.size, fun k hk _ => E.block k hk (by simp)⟩
theorem Gr.ofBelow (E : Below w.heap.size w w') (F : Nat → Prop) : Gr w w' F := Gr.of0 (grown_of_below E) F
theorem Gr.mono (E : Gr w w' F) (h : ∀ k, k < w.heap.size → F k → G k) : Gr w w' G := ⟨E.os, E.tape, E.output, E.size, fun k hk hn => E.block k hk fun hf => hn (h k hk hf)⟩
theorem Gr.grown (E : Gr w w' F) (h : ∀ k, k < w.heap.size → F k → row = some k) : w.grownBy w' row := ⟨E.os, E.tape, E.output, E.size, fun k hk hn => E.block k hk fun hf => hn (h k hk hf).symm⟩
/-! a walk's own relation -/
theorem Gr.step0 (h : Gr w w1 F) (E : w1.grownBy w2 none) : Gr w w2 F := h.go (Gr.of0 E F) fun _ _ h => h
theorem Gr.step1 (h : Gr w w1 F) (E : w1.grownBy w2 (some b)) (hb : w.heap.size ≤ b) : Gr w w2 F := h.go (Gr.of E) fun k hk hh => by injection hh with hh; omega
theorem Gr.stepB (h : Gr w w1 F) (E : w1.grownBy w2 (some b)) (hb : F b) : Gr w w2 F := h.go (Gr.of E) fun k hk hh => by injection hh with hh; exact hh ▸ hb
theorem Gr.stepF (h : Gr w w1 F) (E : Gr w1 w2 G) (hG : ∀ k, k < w.heap.size → G k → F k) : Gr w w2 F := h.go E hG
theorem Gr.stepN (h : Gr w w1 F) (E : Gr w1 w2 G) (hG : ∀ k, G k → w.heap.size ≤ k) : Gr w w2 F := h.go E fun k hk hg => by have := hG k hg; omega
theorem below_stepG (h : Below B w0 w) (E : Gr w w' F) (hB : B ≤ w.heap.size) (hF : ∀ k, F k → B ≤ k) : Below B w0 w' :=
  ⟨E.os.trans h.os, E.tape.trans h.tape, E.output.trans h.output, Nat.le_trans h.size E.size, fun k hk => (E.block k (Nat.lt_of_lt_of_le hk hB) (fun hf => by have := hF k hf; omega)).trans (h.block k hk)⟩
/-! what is kept -/
theorem Bx.keepG (h : Bx w b t cs) (E : Gr w w' F) (hn : ¬ F b) : Bx w' b t cs := by unfold Bx; rw [E.block b h.lt hn]; exact h
theorem ChC.keepG (h : ChC w c cap buf) (E : Gr w w' F) (hn : ¬ F c) : ChC w' c cap buf := by have hl := h.lt; obtain ⟨s, r, h⟩ := h; exact ⟨s, r, (E.block c hl hn).trans h⟩
theorem Own.keepG (h : Own w base e sz v n cs) (E : Gr w w' F) (hd : Dj (Bl v) F) : Own w' base e sz v n cs := by
  refine ⟨h.1, ?_⟩
  rcases h.2 with hn | ⟨g, off, cap, cur, fr, rfl, hb, hg, r⟩
  · exact .inl hn
  · exact .inr ⟨g, off, cap, cur, fr, rfl, hb, by rw [E.block g (Array.getElem?_eq_some_iff.1 hg).1 (hd g rfl)]; exact hg, r⟩
theorem RdC.keepG (h : RdC w L B sz v n cs) (E : Gr w w' F) (hn : ∀ k, F k → k < L ∨ B ≤ k) : RdC w' L B sz v n cs := by
  obtain ⟨h0, a, c, hv, h1, h2, h3⟩ := h
  refine ⟨h0, a, c, hv, h1, h2, ?_⟩
  rcases h3 with h3 | ⟨b, off, ha, hL, hB, hc⟩
  · exact .inl h3
  · refine .inr ⟨b, off, ha, hL, hB, fun j u hu => ?_⟩
    have := hc j u hu
    rw [World.cell?_of_block (w := w) (E.block b (World.block_lt_of_cell? w _ this) (fun hf => by have := hn b hf; omega))]
    exact this
/-! how they stand to each other -/
theorem Dj.symm (h : Dj F G) : Dj G F := fun k hg hf => h k hf hg
theorem Dj.step {v' : Value} (hm : v'.ownBlock = v.ownBlock ∨ ∀ k, v'.ownBlock = some k → n ≤ k) (hl : ∀ k, F k → k < n) (h : Dj F (Bl v)) : Dj F (Bl v') := by
  intro k hk hg
  rcases hm with hm | hm
  · exact h k hk (hm.symm.trans hg)
  · have := hm k hg; have := hl k hk; omega
theorem Dj.stepF (hm : NewF n F F') (hl : ∀ k, G k → k < n) (h : Dj G F) : Dj G F' := by
  intro k hk hg
  rcases hm k hg with hm | hm
  · exact h k hk hm
  · have := hl k hk; omega
theorem Dj.fresh (hl : ∀ k, G k → k < n) (hf : ∀ k, F k → n ≤ k) : Dj G F := fun k hg hk => by have := hl k hg; have := hf k hk; omega
theorem Dj.nil (F : Nat → Prop) : Dj F (Bl (.slice none 0 0)) := fun _ _ hg => (by cases hg)
theorem Dj.mono (h : Dj F G) {G' : Nat → Prop} (hG : ∀ k, G' k → G k) : Dj F G' := fun k hf hg => h k hf (hG k hg)
theorem NewF.refl (n : Nat) (F : Nat → Prop) : NewF n F F := fun _ h => .inl h
theorem NewF.trans (h : NewF n F G) (h2 : NewF t G H) (hn : n ≤ t) : NewF n F H := fun k hk => by
  rcases h2 k hk with q | q
  · exact h k q
  · exact .inr (Nat.le_trans hn q)
theorem NewF.mono (h : NewF n F G) (hn : t ≤ n) : NewF t F G := fun k hk => (h k hk).imp id fun q => Nat.le_trans hn q
theorem Dj.one (h : ¬ F b) : Dj F (fun k => some b = some k) := fun k hf hk => by injection hk with hk; subst hk; exact h hf
theorem ne_stepF (hm : NewF n F F') (hl : b < n) (h : ¬ F b) : ¬ F' b := fun hg => by
  rcases hm b hg with hm | hm
  · exact h hm
  · omega
end
/-! one's own list, cut ahead: it is one's own still -/
section
variable {P : Program} {Q : Exit → Act → World → Prop} {a : Act} {w : World} {l : List (Nat × Value)} {ops : Array Oper} {rest : List Oper}
variable {d ty t e : Nat} {p : String} {af : Array Edge} {x : Operand} {v : Value} {n base sz by_ : Nat} {cs : List Value} {zv : Value}
end
end Go.Gx

namespace Go.Gx
open Go.RowKit Go.MapKept

/-! ### plain lists of keys and values -/
theorem nodup_inj {α : Type} {l : List α} (h : l.Nodup) {i j : Nat} {a : α} (hi : l[i]? = some a) (hj : l[j]? = some a) : i = j := by
  obtain ⟨hi1, hi2⟩ := List.getElem?_eq_some_iff.1 hi
  obtain ⟨hj1, hj2⟩ := List.getElem?_eq_some_iff.1 hj
  have hp := List.pairwise_iff_getElem.1 h
  rcases Nat.lt_trichotomy i j with q | q | q
  · exact absurd (hi2.trans hj2.symm) (hp i j hi1 hj1 q)
  · exact q
  · exact absurd (hj2.trans hi2.symm) (hp j i hj1 hi1 q)
theorem map_erase {α β : Type} (f : α → β) : ∀ (l : List α) (j : Nat), (l.eraseIdx j).map f = (l.map f).eraseIdx j
  | [], _ => by simp
  | _ :: _, 0 => by simp
  | a :: r, j + 1 => by simp [map_erase f r j]
section
variable {K V : Type} [DecidableEq K]
def mlook : List (K × V) → K → Option (Nat × V)
  | [], _ => none
  | (a, v) :: t, k => if k = a then some (0, v) else (mlook t k).map fun p => (p.1 + 1, p.2)
def mget (es : List (K × V)) (k : K) : Option V := (mlook es k).map (·.2)
def mput (es : List (K × V)) (k : K) (v : V) : List (K × V) := match mlook es k with
  | some (j, _) => es.set j (k, v)
  | none => es ++ [(k, v)]
def mdel (es : List (K × V)) (k : K) : List (K × V) := match mlook es k with
  | some (j, _) => es.eraseIdx j
  | none => es
theorem mlook_some {es : List (K × V)} {k : K} {j : Nat} {v : V} (h : mlook es k = some (j, v)) : es[j]? = some (k, v) := by
  induction es generalizing j with
  | nil => cases h
  | cons p t ih =>
    obtain ⟨a, u⟩ := p
    unfold mlook at h
    split at h
    · rename_i e; cases h; subst e; rfl
    · cases hq : mlook t k with
      | none => rw [hq] at h; cases h
      | some q => obtain ⟨j', v'⟩ := q; rw [hq] at h; cases h; simpa using ih hq
theorem mlook_none {es : List (K × V)} {k : K} : mlook es k = none ↔ k ∉ es.map Prod.fst := by
  induction es with
  | nil => simp [mlook]
  | cons p t ih =>
    obtain ⟨a, u⟩ := p
    unfold mlook
    split
    · rename_i e; simp [e]
    · rename_i e; simp [ih, e]
theorem mget_none {es : List (K × V)} {k : K} : mget es k = none ↔ k ∉ es.map Prod.fst := by
  unfold mget; rw [Option.map_eq_none_iff, mlook_none]
theorem mget_mem {es : List (K × V)} {k : K} {v : V} (h : mget es k = some v) : (k, v) ∈ es := by
  unfold mget at h
  obtain ⟨⟨j, u⟩, hq, rfl⟩ := Option.map_eq_some_iff.1 h
  exact List.mem_of_getElem? (mlook_some hq)
theorem mget_of_mem {es : List (K × V)} {k : K} {v : V} (hn : (es.map Prod.fst).Nodup) (h : (k, v) ∈ es) : mget es k = some v := by
  induction es with
  | nil => cases h
  | cons p t ih =>
    obtain ⟨a, u⟩ := p
    simp only [List.map_cons, List.nodup_cons] at hn
    unfold mget mlook
    split
    · rename_i e
      subst e
      rcases List.mem_cons.1 h with q | q
      · cases q; rfl
      · exact absurd (List.mem_map.2 ⟨_, q, rfl⟩) hn.1
    · rename_i e
      rcases List.mem_cons.1 h with q | q
      · cases q; exact absurd rfl e
      · have := ih hn.2 q
        unfold mget at this
        cases hq : mlook t k with
        | none => rw [hq] at this; cases this
        | some x => rw [hq] at this; simpa using this
theorem mput_keys {es : List (K × V)} {k : K} {v : V} : (mput es k v).map Prod.fst = if k ∈ es.map Prod.fst then es.map Prod.fst else es.map Prod.fst ++ [k] := by
  unfold mput
  cases hq : mlook es k with
  | none => rw [if_neg (mlook_none.1 hq)]; simp
  | some p =>
    obtain ⟨j, u⟩ := p
    have hj := mlook_some hq
    rw [if_pos (List.mem_map.2 ⟨_, List.mem_of_getElem? hj, rfl⟩)]
    show (es.set j (k, v)).map Prod.fst = _
    apply List.ext_getElem?
    intro i
    simp only [List.getElem?_map, List.getElem?_set]
    by_cases hij : j = i
    · subst hij; rw [hj]; simp [(List.getElem?_eq_some_iff.1 hj).1]
    · simp [hij]
theorem nodup_mput {es : List (K × V)} {k : K} {v : V} (h : (es.map Prod.fst).Nodup) : ((mput es k v).map Prod.fst).Nodup := by
  rw [mput_keys]
  split
  · exact h
  · rename_i e; rw [List.nodup_append]; exact ⟨h, by simp, fun a ha b hb => by simp at hb; subst hb; rintro rfl; exact e ha⟩
theorem mem_mput {es : List (K × V)} {k a : K} {v u : V} (h : (es.map Prod.fst).Nodup) : (a, u) ∈ mput es k v ↔ (a = k ∧ u = v) ∨ (a ≠ k ∧ (a, u) ∈ es) := by
  unfold mput
  cases hq : mlook es k with
  | none =>
    have hn := mlook_none.1 hq
    constructor
    · intro hm
      rcases List.mem_append.1 hm with q | q
      · exact .inr ⟨fun e => hn (e ▸ List.mem_map.2 ⟨_, q, rfl⟩), q⟩
      · simp at q; exact .inl q
    · rintro (⟨rfl, rfl⟩ | ⟨_, q⟩)
      · simp
      · simp [q]
  | some p =>
    obtain ⟨j, u0⟩ := p
    have hj := mlook_some hq
    have hjl := (List.getElem?_eq_some_iff.1 hj).1
    show (a, u) ∈ es.set j (k, v) ↔ _
    constructor
    · intro hm
      obtain ⟨i, hi⟩ := List.mem_iff_getElem?.1 hm
      by_cases hij : j = i
      · subst hij
        rw [List.getElem?_set_self hjl] at hi
        cases hi; exact .inl ⟨rfl, rfl⟩
      · rw [List.getElem?_set_ne hij] at hi
        refine .inr ⟨?_, List.mem_of_getElem? hi⟩
        rintro rfl
        have h1 : (es.map Prod.fst)[i]? = some a := by simp [hi]
        have h2 : (es.map Prod.fst)[j]? = some a := by simp [hj]
        exact hij (nodup_inj h h2 h1)
    · rintro (⟨rfl, rfl⟩ | ⟨hne, q⟩)
      · exact List.mem_of_getElem? (i := j) (by simp [hjl])
      · obtain ⟨i, hi⟩ := List.mem_iff_getElem?.1 q
        refine List.mem_of_getElem? (i := i) ?_
        rw [List.getElem?_set_ne]
        · exact hi
        · rintro rfl; rw [hi] at hj; cases hj; exact hne rfl
theorem mdel_keys_sub {es : List (K × V)} {k : K} : (mdel es k).Sublist es := by
  unfold mdel
  split
  · exact List.eraseIdx_sublist _ _
  · exact List.Sublist.refl _
theorem nodup_mdel {es : List (K × V)} {k : K} (h : (es.map Prod.fst).Nodup) : ((mdel es k).map Prod.fst).Nodup := (mdel_keys_sub.map _).nodup h
theorem mem_mdel {es : List (K × V)} {k a : K} {u : V} (h : (es.map Prod.fst).Nodup) : (a, u) ∈ mdel es k ↔ a ≠ k ∧ (a, u) ∈ es := by
  unfold mdel
  cases hq : mlook es k with
  | none => exact ⟨fun q => ⟨fun e => mlook_none.1 hq (e ▸ List.mem_map.2 ⟨_, q, rfl⟩), q⟩, fun q => q.2⟩
  | some p =>
    obtain ⟨j, u0⟩ := p
    have hj := mlook_some hq
    have hjl := (List.getElem?_eq_some_iff.1 hj).1
    show (a, u) ∈ es.eraseIdx j ↔ _
    rw [List.mem_eraseIdx_iff_getElem?]
    constructor
    · rintro ⟨i, hij, hi⟩
      refine ⟨?_, List.mem_of_getElem? hi⟩
      rintro rfl
      have h1 : (es.map Prod.fst)[i]? = some a := by simp [hi]
      have h2 : (es.map Prod.fst)[j]? = some a := by simp [hj]
      exact hij (nodup_inj h h1 h2)
    · rintro ⟨hne, q⟩
      obtain ⟨i, hi⟩ := List.mem_iff_getElem?.1 q
      exact ⟨i, by rintro rfl; rw [hi] at hj; cases hj; exact hne rfl, hi⟩
theorem mget_eq {es : List (K × V)} {k : K} {v : V} (h : (es.map Prod.fst).Nodup) : mget es k = some v ↔ (k, v) ∈ es := ⟨mget_mem, mget_of_mem h⟩
theorem mget_mput {es : List (K × V)} {k a : K} {v : V} (h : (es.map Prod.fst).Nodup) : mget (mput es k v) a = if a = k then some v else mget es a := by
  apply Option.ext
  intro u
  rw [mget_eq (nodup_mput h), mem_mput h]
  split
  · rename_i e; subst e; simp [eq_comm]
  · rename_i e; simp [e, mget_eq h]
theorem mget_mdel {es : List (K × V)} {k a : K} (h : (es.map Prod.fst).Nodup) : mget (mdel es k) a = if a = k then none else mget es a := by
  apply Option.ext
  intro u
  rw [mget_eq (nodup_mdel h), mem_mdel h]
  split
  · rename_i e; subst e; simp
  · rename_i e; simp [e, mget_eq h]
end

/-! ### the block -/
def MapC {K V : Type} (kv : K → Value) (vv : V → Value) (w : World) (m : Nat) (es : List (K × V)) : Prop :=
  ∃ (arr : Array MapEntry) (clock : Nat), w.heap[m]? = some (.map arr clock) ∧ Stamped arr clock ∧ arr.toList.map (fun e => (e.key, e.val)) = es.map (fun p => (kv p.1, vv p.2))
structure KeyT {K : Type} (P : Program) (t : TypeId) (kv : K → Value) : Prop where
  inj : ∀ a b, kv a = kv b → a = b
  key : ∃ d, P.underlying t = some d ∧ ∀ a, IsKey d (kv a)
  bits : ∀ a n, Instr.sameBits (n + 1) (kv a) (kv a) = true
theorem key_int {P : Program} {t : TypeId} {k : IntKind} (h : P.underlying t = some (.int k)) : KeyT P t (Value.int k) :=
  ⟨fun a b h => by injection h, ⟨_, h, fun a => rfl⟩, fun a n => by simp [Instr.sameBits]⟩
section
variable {K V : Type} {P : Program} {kv : K → Value} {vv : V → Value} {w w' : World} {m : Nat} {es : List (K × V)} {row : Option Nat} {F : Nat → Prop} {b t base e sz n : Nat} {cs : List Value} {v : Value}
theorem MapC.lt (h : MapC kv vv w m es) : m < w.heap.size := by obtain ⟨_, _, h, _⟩ := h; exact (Array.getElem?_eq_some_iff.1 h).1
theorem MapC.keep (h : MapC kv vv w m es) (E : w.grownBy w' row) (hne : some m ≠ row) : MapC kv vv w' m es := by
  have hl := h.lt; obtain ⟨arr, c, h, r⟩ := h; exact ⟨arr, c, (E.block m hl hne).trans h, r⟩
theorem MapC.keep0 (h : MapC kv vv w m es) (E : w.grownBy w' none) : MapC kv vv w' m es := h.keep E (by simp)
theorem MapC.keepG (h : MapC kv vv w m es) (E : Gr w w' F) (hn : ¬ F m) : MapC kv vv w' m es := by
  have hl := h.lt; obtain ⟨arr, c, h, r⟩ := h; exact ⟨arr, c, (E.block m hl hn).trans h, r⟩
theorem Bx.notMap (B : Bx w b t cs) (h : MapC kv vv w m es) : b ≠ m := by
  rintro rfl; obtain ⟨arr, c, h, _⟩ := h; unfold Bx at B; rw [B] at h; simp at h
theorem Own.notMap (O : Own w base e sz v n cs) (h : MapC kv vv w m es) : v.ownBlock ≠ some m := by
  obtain ⟨arr, c, h, _⟩ := h
  rcases O.2 with ⟨rfl, _⟩ | ⟨g, off, cp, cur, fr, rfl, _, hg, _⟩
  · simp [Value.ownBlock]
  · intro hh; simp [Value.ownBlock] at hh; subst hh; rw [hg] at h; simp at h
theorem MapC.keepO (h : MapC kv vv w m es) (O : Own w base e sz v n cs) (E : w.grownBy w' v.ownBlock) : MapC kv vv w' m es := h.keep E fun hh => O.notMap h hh.symm
theorem MapC.keepB (h : MapC kv vv w m es) (B : Bx w b t cs) (E : w.grownBy w' (some b)) : MapC kv vv w' m es := h.keep E fun hh => B.notMap h (Option.some.inj hh).symm
theorem Bx.keepM (B : Bx w b t cs) (h : MapC kv vv w m es) (E : w.grownBy w' (some m)) : Bx w' b t cs := B.keep E fun hh => B.notMap h (Option.some.inj hh)
theorem Own.keepM (O : Own w base e sz v n cs) (h : MapC kv vv w m es) (E : w.grownBy w' (some m)) : Own w' base e sz v n cs := O.keep E (.inr (O.notMap h))
theorem RdC.keepM {L B : Nat} (R : RdC w L B sz v n cs) (h : MapC kv vv w m es) (E : w.grownBy w' (some m)) : RdC w' L B sz v n cs := by
  obtain ⟨hl, a, cp, rfl, h1, h2, h3⟩ := R
  refine ⟨hl, a, cp, rfl, h1, h2, ?_⟩
  rcases h3 with h3 | ⟨b, off, rfl, hL, hB, hc⟩
  · exact .inl h3
  · refine .inr ⟨b, off, rfl, hL, hB, fun j u hu => ?_⟩
    have h0 := hc j u hu
    have hb : b ≠ m := by
      rintro rfl; obtain ⟨arr, c, h, _⟩ := h
      simp [World.cell?, h] at h0
    rw [World.cell?_of_block (E.block b (World.block_lt_of_cell? w _ h0) (by simpa using hb))]; exact h0
theorem MapC.nodup [DecidableEq K] {t : Nat} (T : KeyT P t kv) (h : MapC kv vv w m es) : (es.map Prod.fst).Nodup := by
  obtain ⟨arr, c, _, hs, he⟩ := h
  have h1 := congrArg (List.map Prod.fst) he
  simp only [List.map_map] at h1
  have h2 : (es.map (fun p => kv p.1)).Nodup := by
    have := hs.2.2
    rw [show (arr.toList.map (·.key)) = es.map (fun p => kv p.1) from h1] at this
    exact this
  have h3 : es.map (fun p => kv p.1) = (es.map Prod.fst).map kv := by simp
  rw [h3] at h2
  exact (List.pairwise_map.1 h2).imp fun h e => h (congrArg kv e)
theorem findNow_look [DecidableEq K] {d : TypeDesc} (hi : ∀ a b, kv a = kv b → a = b) (hk : ∀ a, IsKey d (kv a)) (k : K) : ∀ (L : List MapEntry) (es : List (K × V)) (i : Nat), L.map (fun e => (e.key, e.val)) = es.map (fun p => (kv p.1, vv p.2)) →
    Instr.findNow d (kv k) L i = some ((mlook es k).map fun p => (i + p.1, vv p.2))
  | [], [], _, _ => rfl
  | [], _ :: _, _, h => by cases h
  | _ :: _, [], _, h => by cases h
  | e :: L, (a, u) :: es, i, h => by
    simp only [List.map_cons, List.cons.injEq, Prod.mk.injEq] at h
    obtain ⟨⟨h1, h2⟩, h3⟩ := h
    obtain ⟨r, hr, hiff⟩ := sameNow_of_keys (hk k) (hk a)
    unfold Instr.findNow
    rw [h1, hr]
    by_cases hka : k = a
    · subst hka
      rw [hiff.2 rfl]
      simp [mlook, h2]
    · have : r = false := by cases hrr : r; · rfl
                             · exact absurd (hi _ _ (hiff.1 hrr)) hka
      rw [this]
      simp only
      rw [findNow_look hi hk k L es (i + 1) h3]
      have hm : mlook ((a, u) :: es) k = (mlook es k).map fun p => (p.1 + 1, p.2) := by simp [mlook, hka]
      rw [hm]
      cases mlook es k with
      | none => rfl
      | some p => simp only [Option.map_some]; rw [show i + 1 + p.1 = i + (p.1 + 1) by omega]
theorem run_find [DecidableEq K] {t : Nat} (T : KeyT P t kv) (k : K) {L : List MapEntry} {es : List (K × V)} (h : L.map (fun e => (e.key, e.val)) = es.map (fun p => (kv p.1, vv p.2))) (w : World) :
    (Instr.findKey t (kv k) L).run P w = .ok ((mlook es k).map fun p => (p.1, vv p.2)) w := by
  obtain ⟨d, hd, hk⟩ := T.key
  have := findNow_look (vv := vv) T.inj hk k L es 0 h
  simp only [Nat.zero_add] at this
  exact run_findKey hd this
theorem run_chk {t : Nat} (T : KeyT P t kv) (k : K) (bb : Bool) (w : World) : (Instr.checkKey bb 10000 t (kv k)).run P w = .ok () w := by
  obtain ⟨d, hd, hk⟩ := T.key
  exact run_checkKey hd (hk k) bb 9999
theorem run_lookup [DecidableEq K] {mt kt et : Nat} (ht : P.underlying mt = some (.map kt et)) (T : KeyT P kt kv) (h : MapC kv vv w m es) (k : K) {z : Value} (hz : zeroT P et = some z) (ok : Bool) :
    (Instr.lookup mt (.map (some m)) (kv k) ok).run P w = .ok (if ok then .tuple #[((mget es k).map vv).getD z, .bool (mget es k).isSome] else ((mget es k).map vv).getD z) w := by
  obtain ⟨arr, c, hb, hs, he⟩ := h
  simp only [Instr.lookup, Sem.run_bind, run_underlying ht, Result.andThen_ok, MapKept.run_getObj_map hb, Sem.run_pure, run_chk T, run_find T k he]
  unfold mget
  cases mlook es k with
  | none => simp [run_zeroT hz]
  | some p => simp
theorem run_lookup_nil {mt kt et : Nat} (ht : P.underlying mt = some (.map kt et)) (T : KeyT P kt kv) (k : K) {z : Value} (hz : zeroT P et = some z) (ok : Bool) :
    (Instr.lookup mt (.map none) (kv k) ok).run P w = .ok (if ok then .tuple #[z, .bool false] else z) w := by
  obtain ⟨d, hd, hk⟩ := T.key
  have h1 : (Instr.findKey kt (kv k) (#[] : Array MapEntry).toList).run P w = .ok none w := run_findKey hd rfl
  simp only [Instr.lookup, Sem.run_bind, run_underlying ht, Result.andThen_ok, Sem.run_pure, run_chk T, h1, run_zeroT hz]
theorem run_update [DecidableEq K] {mt kt et : Nat} (ht : P.underlying mt = some (.map kt et)) (T : KeyT P kt kv) (h : MapC kv vv w m es) (k : K) (v : V) :
    ∃ w', (Instr.mapUpdate mt (.map (some m)) (kv k) (vv v)).run P w = .ok () w' ∧ MapC kv vv w' m (mput es k v) ∧ w.grownBy w' (some m) := by
  obtain ⟨arr, c, hb, hs, he⟩ := h
  have hset : ∀ o, w.grownBy { w with heap := w.heap.setIfInBounds m o } (some m) := fun o => ⟨rfl, rfl, rfl, by simp, fun i _ hi => (heap_set hb).2 i (fun e => hi (by rw [e]))⟩
  cases hq : mlook es k with
  | none =>
    refine ⟨{ w with heap := w.heap.setIfInBounds m (.map (arr.push ⟨kv k, vv v, c⟩) (c + 1)) }, ?_, ?_, hset _⟩
    · simp only [Instr.mapUpdate, Sem.run_bind, run_underlying ht, Result.andThen_ok, MapKept.run_getObj_map hb, run_chk T, run_find T k he, hq, Option.map_none, MapKept.run_setObj_map _ hb]
    · refine ⟨_, _, (heap_set hb).1, stamped_push hs fun x hx hxk => ?_, ?_⟩
      · have h1 := congrArg (List.map Prod.fst) he
        simp only [List.map_map] at h1
        have h2 : kv k ∈ es.map (fun p => kv p.1) := by
          have : x.key ∈ arr.toList.map (fun e => e.key) := List.mem_map.2 ⟨x, hx, rfl⟩
          rw [show (arr.toList.map (fun e => e.key)) = es.map (fun p => kv p.1) from h1] at this
          rw [← hxk]; exact this
        obtain ⟨p, hp, hpk⟩ := List.mem_map.1 h2
        exact mlook_none.1 hq (List.mem_map.2 ⟨p, hp, T.inj _ _ hpk⟩)
      · unfold mput; rw [hq]; simp [he]
  | some p =>
    obtain ⟨j, u⟩ := p
    have hj := mlook_some hq
    have hjl := (List.getElem?_eq_some_iff.1 hj).1
    have hjl2 : j < arr.toList.length := by have := congrArg List.length he; simp at this ⊢; omega
    have hej : (arr.toList[j].key, arr.toList[j].val) = (kv k, vv u) := by
      have h1 : (arr.toList.map (fun e => (e.key, e.val)))[j]? = (es.map (fun p => (kv p.1, vv p.2)))[j]? := by rw [he]
      rw [List.getElem?_map, List.getElem?_map, hj, List.getElem?_eq_getElem hjl2] at h1
      simpa using h1
    have hk1 : arr[j]? = some arr.toList[j] := by rw [← Array.getElem?_toList]; exact List.getElem?_eq_getElem hjl2
    have hkk : (arr[j]?.map (·.key)).getD (kv k) = kv k := by rw [hk1]; simp only [Option.map_some, Option.getD_some]; exact congrArg Prod.fst hej
    have hst : (Instr.keyThatStays (kv k) (kv k)).run P w = .ok (kv k) w := by simp [Instr.keyThatStays, T.bits k 9999]
    refine ⟨{ w with heap := w.heap.setIfInBounds m (.map (arr.modify j fun e => { e with key := kv k, val := vv v }) c) }, ?_, ?_, hset _⟩
    · simp only [Instr.mapUpdate, Sem.run_bind, run_underlying ht, Result.andThen_ok, MapKept.run_getObj_map hb, run_chk T, run_find T k he, hq, Option.map_some, hkk, hst, MapKept.run_setObj_map _ hb]
    · refine ⟨_, _, (heap_set hb).1, ?_, ?_⟩
      · have hkey : ∀ e, arr[j]? = some e → ({ e with key := kv k, val := vv v } : MapEntry).key = e.key := fun e h => by
          rw [hk1] at h; cases h; exact (congrArg Prod.fst hej).symm
        obtain ⟨h1, h2, h3⟩ := hs
        have hborn : (arr.modify j fun e => { e with key := kv k, val := vv v }).toList.map (·.born) = arr.toList.map (·.born) := by
          apply List.ext_getElem?
          intro i
          simp only [List.getElem?_map, Array.getElem?_toList, Array.getElem?_modify]
          by_cases hij : j = i
          · subst hij; cases arr[j]? <;> simp
          · simp [hij]
        refine ⟨fun x hx => ?_, hborn ▸ h2, (modify_keys j _ hkey) ▸ h3⟩
        have : x.born ∈ (arr.modify j fun e => { e with key := kv k, val := vv v }).toList.map (·.born) := List.mem_map.2 ⟨x, hx, rfl⟩
        rw [hborn] at this
        obtain ⟨y, hy, e⟩ := List.mem_map.1 this
        rw [← e]; exact h1 y hy
      · unfold mput; rw [hq]
        show _ = (es.set j (k, v)).map _
        apply List.ext_getElem?
        intro i
        have hi := congrArg (fun l : List (Value × Value) => l[i]?) he
        simp only [List.getElem?_map, Array.getElem?_toList, Array.getElem?_modify, List.getElem?_set] at hi ⊢
        by_cases hij : j = i
        · subst hij; rw [hk1]; simp [hjl]
        · simp [hij] at hi ⊢; exact hi
theorem run_delete [DecidableEq K] {mt kt et ty : Nat} (ht : P.underlying mt = some (.map kt et)) (T : KeyT P kt kv) (h : MapC kv vv w m es) (k : K) :
    ∃ w', (Builtin.delete_ #[mt, kt] ty #[.map (some m), kv k]).run P w = .ok (.tuple #[]) w' ∧ MapC kv vv w' m (mdel es k) ∧ w.grownBy w' (some m) := by
  obtain ⟨arr, c, hb, hs, he⟩ := h
  have hset : ∀ o, w.grownBy { w with heap := w.heap.setIfInBounds m o } (some m) := fun o => ⟨rfl, rfl, rfl, by simp, fun i _ hi => (heap_set hb).2 i (fun e => hi (by rw [e]))⟩
  cases hq : mlook es k with
  | none =>
    refine ⟨{ w with heap := w.heap.setIfInBounds m (.map arr c) }, ?_, ?_, hset _⟩
    · simp [Builtin.delete_, run_underlying ht, MapKept.run_getObj_map hb, run_chk T, run_find T k he, hq, MapKept.run_setObj_map _ hb]
    · unfold mdel; rw [hq]; exact ⟨_, _, (heap_set hb).1, hs, he⟩
  | some p =>
    obtain ⟨j, u⟩ := p
    refine ⟨{ w with heap := w.heap.setIfInBounds m (.map (arr.eraseIdxIfInBounds j) c) }, ?_, ?_, hset _⟩
    · simp [Builtin.delete_, run_underlying ht, MapKept.run_getObj_map hb, run_chk T, run_find T k he, hq, MapKept.run_setObj_map _ hb]
    · refine ⟨_, _, (heap_set hb).1, stamped_erase hs j, ?_⟩
      unfold mdel; rw [hq]
      have hjl := (List.getElem?_eq_some_iff.1 (mlook_some hq)).1
      have hlen : arr.size = es.length := by have := congrArg List.length he; simpa using this
      unfold Array.eraseIdxIfInBounds
      rw [dif_pos (by omega), Array.toList_eraseIdx]
      show _ = (es.eraseIdx j).map _
      rw [map_erase, map_erase, he]
end

/-! ### the operations -/
section
variable {K V : Type} {P : Program} {Q : Exit → Act → World → Prop} {a : Act} {w w' : World} {l : List (Nat × Value)} {ops : Array Oper} {rest : List Oper}
variable {d ty mt kt et m : Nat} {p : String} {af : Array Edge} {x y u : Operand} {kv : K → Value} {vv : V → Value} {es : List (K × V)} {k : K} {v : V} {z : Value}
theorem op_mkmap (h : ∀ w' m, w.heap.size ≤ m → m < w'.heap.size → MapC kv vv w' m [] → w.grownBy w' none → wpList P ops Q rest (putsL a ((d, .map (some m)) :: l)) w') :
    wpList P ops Q (⟨some d, .makeMap mt none, ty, p, af, none⟩ :: rest) (putsL a l) w :=
  op_gen (w' := w.alloc (.map #[] 0)) (v := .map (some w.heap.size)) rfl (by simp [execOp, run_makeMap]) (h _ _ (Nat.le_refl _) (by simp) ⟨#[], 0, (heap_alloc w _).1, ⟨by simp, by simp, by simp⟩, rfl⟩ (grown_alloc w _))
theorem op_look [DecidableEq K] (ht : P.underlying mt = some (.map kt et)) (T : KeyT P kt kv) (hz : zeroT P et = some z) (hx : (putsL a l).eval x = .map (some m)) (hy : (putsL a l).eval y = kv k) (M : MapC kv vv w m es) (h : wpList P ops Q rest (putsL a ((d, ((mget es k).map vv).getD z) :: l)) w) :
    wpList P ops Q (⟨some d, .lookup mt x y false, ty, p, af, none⟩ :: rest) (putsL a l) w :=
  op_gen rfl (by simp only [execOp, hx, hy, Sem.run_bind, run_lookup ht T M k hz, Result.andThen_ok]; rfl) h
theorem op_look2 [DecidableEq K] (ht : P.underlying mt = some (.map kt et)) (T : KeyT P kt kv) (hz : zeroT P et = some z) (hx : (putsL a l).eval x = .map (some m)) (hy : (putsL a l).eval y = kv k) (M : MapC kv vv w m es) (h : wpList P ops Q rest (putsL a ((d, .tuple #[((mget es k).map vv).getD z, .bool (mget es k).isSome]) :: l)) w) :
    wpList P ops Q (⟨some d, .lookup mt x y true, ty, p, af, none⟩ :: rest) (putsL a l) w :=
  op_gen rfl (by simp only [execOp, hx, hy, Sem.run_bind, run_lookup ht T M k hz, Result.andThen_ok]; rfl) h
theorem op_look2_nil (ht : P.underlying mt = some (.map kt et)) (T : KeyT P kt kv) (hz : zeroT P et = some z) (hx : (putsL a l).eval x = .map none) (hy : (putsL a l).eval y = kv k) (h : wpList P ops Q rest (putsL a ((d, .tuple #[z, .bool false]) :: l)) w) :
    wpList P ops Q (⟨some d, .lookup mt x y true, ty, p, af, none⟩ :: rest) (putsL a l) w :=
  op_gen rfl (by simp only [execOp, hx, hy, Sem.run_bind, run_lookup_nil ht T k hz, Result.andThen_ok]; rfl) h
theorem op_look_hit [DecidableEq K] (ht : P.underlying mt = some (.map kt et)) (T : KeyT P kt kv) (hz : zeroT P et = some z) (hx : (putsL a l).eval x = .map (some m)) (hy : (putsL a l).eval y = kv k) (M : MapC kv vv w m es) (hg : mget es k = some v) (h : wpList P ops Q rest (putsL a ((d, vv v) :: l)) w) :
    wpList P ops Q (⟨some d, .lookup mt x y false, ty, p, af, none⟩ :: rest) (putsL a l) w := by
  refine op_look ht T hz hx hy M ?_
  rw [hg]; exact h
theorem op_look2_hit [DecidableEq K] (ht : P.underlying mt = some (.map kt et)) (T : KeyT P kt kv) (hz : zeroT P et = some z) (hx : (putsL a l).eval x = .map (some m)) (hy : (putsL a l).eval y = kv k) (M : MapC kv vv w m es) (hg : mget es k = some v) (h : wpList P ops Q rest (putsL a ((d, .tuple #[vv v, .bool true]) :: l)) w) :
    wpList P ops Q (⟨some d, .lookup mt x y true, ty, p, af, none⟩ :: rest) (putsL a l) w := by
  refine op_look2 ht T hz hx hy M ?_
  rw [hg]; exact h
theorem op_look2_miss [DecidableEq K] (ht : P.underlying mt = some (.map kt et)) (T : KeyT P kt kv) (hz : zeroT P et = some z) (hx : (putsL a l).eval x = .map (some m)) (hy : (putsL a l).eval y = kv k) (M : MapC kv vv w m es) (hg : mget es k = none) (h : wpList P ops Q rest (putsL a ((d, .tuple #[z, .bool false]) :: l)) w) :
    wpList P ops Q (⟨some d, .lookup mt x y true, ty, p, af, none⟩ :: rest) (putsL a l) w := by
  refine op_look2 ht T hz hx hy M ?_
  rw [hg]; exact h
theorem op_mapput [DecidableEq K] (ht : P.underlying mt = some (.map kt et)) (T : KeyT P kt kv) (hx : (putsL a l).eval x = .map (some m)) (hy : (putsL a l).eval y = kv k) (hu : (putsL a l).eval u = vv v) (M : MapC kv vv w m es) (h : ∀ w', MapC kv vv w' m (mput es k v) → w.grownBy w' (some m) → wpList P ops Q rest (putsL a l) w') :
    wpList P ops Q (⟨none, .mapUpdate mt x y u, ty, p, af, none⟩ :: rest) (putsL a l) w := by
  obtain ⟨w', hr, M', E⟩ := run_update (P := P) ht T M k v
  exact op_skip (w' := w') rfl rfl (by simp only [execOp, hx, hy, hu, Sem.run_bind, hr, Result.andThen_ok]; rfl) (h w' M' E)
theorem op_len_map (ht : P.underlying mt = some (.map kt et)) (hx : (putsL a l).eval x = .map (some m)) (M : MapC kv vv w m es) (h : wpList P ops Q rest (putsL a ((d, .int .i64 ((es.length : Nat) : Int)) :: l)) w) :
    wpList P ops Q (⟨some d, .call ⟨.builtin .len, #[x], #[mt]⟩, ty, p, af, none⟩ :: rest) (putsL a l) w := by
  obtain ⟨arr, c, hb, hs, he⟩ := M
  have hl : arr.size = es.length := by have := congrArg List.length he; simpa using this
  exact op_gen (v := .int .i64 ((es.length : Nat) : Int)) rfl (by simp [execOp, hx, resolve, invoke, builtin, Builtin.len_, run_underlying ht, MapKept.run_getObj_map hb, hl, goInt]) h
theorem op_len_nilmap (ht : P.underlying mt = some (.map kt et)) (hx : (putsL a l).eval x = .map none) (h : wpList P ops Q rest (putsL a ((d, .int .i64 0) :: l)) w) :
    wpList P ops Q (⟨some d, .call ⟨.builtin .len, #[x], #[mt]⟩, ty, p, af, none⟩ :: rest) (putsL a l) w :=
  op_gen (v := .int .i64 0) rfl (by simp [execOp, hx, resolve, invoke, builtin, Builtin.len_, run_underlying ht, goInt]) h
theorem op_meq {xt yt : Nat} {r : Option Nat} (ht : P.underlying xt = some (.map kt et)) (hx : (putsL a l).eval x = .map r) (hy : (putsL a l).eval y = .map none) (h : wpList P ops Q rest (putsL a ((d, .bool r.isNone) :: l)) w) :
    wpList P ops Q (⟨some d, .binOp .eql xt x y yt, ty, p, af, none⟩ :: rest) (putsL a l) w := by
  have h1 := run_eql_map_nil (P := P) w xt kt et r ht
  have hg : (eqGuard .eql xt x y (Value.map r) (Value.map none)).run P w = .ok () w := by simp [eqGuard]
  exact op_gen (v := .bool r.isNone) rfl (by simp only [execOp, hx, hy]; simp [h1, hg]) h
end
end Go.Gx

namespace Go.Proofs.Ytdhpalioifjfbaa
open Go.Gx
abbrev PM := List (Int × List By)
abbrev AM := List (Int × (Int × Int))
theorem getL_nat (L : List By) (s : Nat) : getL L (s : Int) = L.getD s [] := by
  unfold getL
  by_cases h : s < L.length
  · rw [if_neg (by omega)]; rfl
  · rw [if_pos (by omega)]; simp [List.getD_eq_getElem?_getD, List.getElem?_eq_none (show L.length ≤ s by omega)]
theorem getL_neg {L : List By} {k : Int} (h : k < 0) : getL L k = [] := by unfold getL; rw [if_pos (.inl h)]
theorem getL_zero (k : Int) : getL [] k = [] := by unfold getL; rw [if_pos]; simp; omega
theorem getL_ext {L L' : List By} (h : ∀ s, L.getD s [] = L'.getD s []) (k : Int) : getL L k = getL L' k := by
  by_cases hk : k < 0
  · rw [getL_neg hk, getL_neg hk]
  · obtain ⟨s, rfl⟩ : ∃ s : Nat, k = (s : Int) := ⟨k.toNat, by omega⟩
    rw [getL_nat, getL_nat, h]
theorem putN_get {L : List By} {r : By} (h : putE L r = 0) (k : Int) : getL (putN L r) k = if k = putK L r then r else getL L k := by
  have hb : badB r = false := by
    cases hb : badB r
    · rfl
    · rw [(put_bad (L := L) hb).1] at h; exact absurd h (by decide)
  have hf : ¬ leftL L (max L.length (freeL L + 1)) < (r.length : Int) := fun hf => by rw [(put_full hb hf).1] at h; exact absurd h (by decide)
  obtain ⟨_, hK, hN⟩ := put_ok hb hf
  have hle := freeL_le L
  rw [hN, hK]
  by_cases hk : k < 0
  · rw [getL_neg hk, getL_neg hk, if_neg (by omega)]
  · obtain ⟨s, rfl⟩ : ∃ s : Nat, k = (s : Int) := ⟨k.toNat, by omega⟩
    rw [getL_nat, getL_nat]
    by_cases hs : s = freeL L
    · subst hs; rw [layL_get hle, if_pos rfl]
    · rw [layL_other hle hs, if_neg (by omega)]
theorem putN_was {L : List By} {r : By} (h : putE L r = 0) : getL L (putK L r) = [] := by
  have hb : badB r = false := by
    cases hb : badB r
    · rfl
    · rw [(put_bad (L := L) hb).1] at h; exact absurd h (by decide)
  have hf : ¬ leftL L (max L.length (freeL L + 1)) < (r.length : Int) := fun hf => by rw [(put_full hb hf).1] at h; exact absurd h (by decide)
  obtain ⟨_, hK, _⟩ := put_ok hb hf
  rw [hK, getL_nat]; exact freeL_get
theorem putE_ne {L : List By} {r : By} (h : putE L r = 0) : r ≠ [] ∧ badB r = false := by
  cases hb : badB r
  · refine ⟨fun e => ?_, rfl⟩
    subst e; exact absurd hb (by decide)
  · rw [(put_bad (L := L) hb).1] at h; exact absurd h (by decide)
theorem setN_get {L : List By} {k : Int} {r : By} (h : setE L k r = 0) (j : Int) : getL (setN L k r) j = if j = k then r else getL L j := by
  have hz : sizeL L k ≠ 0 := fun hz => by rw [(set_none (r := r) hz).1] at h; exact absurd h (by decide)
  have hr := sizeL_nat hz
  have hN : setN L k r = L.set k.toNat r := by unfold setN; rw [if_pos h]
  rw [hN]
  by_cases hj : j < 0
  · rw [getL_neg hj, getL_neg hj, if_neg (by omega)]
  · obtain ⟨s, rfl⟩ : ∃ s : Nat, j = (s : Int) := ⟨j.toNat, by omega⟩
    rw [getL_nat, getL_nat]
    by_cases hs : s = k.toNat
    · subst hs; rw [if_pos (by omega)]; simp [show k.toNat < L.length by omega]
    · rw [if_neg (by omega)]; simp [List.getD_eq_getElem?_getD, List.getElem?_set_ne (fun e => hs e.symm)]
theorem setE_ne {L : List By} {k : Int} {r : By} (h : setE L k r = 0) : r ≠ [] := fun e => by
  subst e
  unfold setE at h
  split at h
  · exact absurd h (by decide)
  · rw [show badB [] = true from rfl, if_pos rfl] at h; exact absurd h (by decide)
theorem cutL_get : ∀ (n : Nat) (L : List By), L.length = n → ∀ s, (cutL L).getD s [] = L.getD s []
  | 0, L, h, s => by rw [List.length_eq_zero_iff.1 h]; rfl
  | n + 1, L, h, s => by
    have hne : L ≠ [] := fun e => by rw [e] at h; cases h
    obtain ⟨M, r, rfl⟩ : ∃ M r, L = M ++ [r] := ⟨L.dropLast, L.getLast hne, (List.dropLast_concat_getLast hne).symm⟩
    by_cases hr : r = []
    · subst hr
      rw [cutL_nil, cutL_get n M (by simpa using h) s]
      simp only [List.getD_eq_getElem?_getD, List.getElem?_append]
      by_cases hs : s < M.length
      · rw [if_pos hs]
      · rw [if_neg hs, List.getElem?_eq_none (show M.length ≤ s by omega)]
        cases s - M.length <;> simp
    · rw [cutL_snoc hr]
theorem dropN_get {L : List By} {k : Int} (h : sizeL L k ≠ 0) (j : Int) : getL (dropN L k) j = if j = k then [] else getL L j := by
  have hr := sizeL_nat h
  rw [(drop_ok h).2, getL_ext (cutL_get _ _ rfl)]
  by_cases hj : j < 0
  · rw [getL_neg hj, getL_neg hj, if_neg (by omega)]
  · obtain ⟨s, rfl⟩ : ∃ s : Nat, j = (s : Int) := ⟨j.toNat, by omega⟩
    rw [getL_nat, getL_nat]
    by_cases hs : s = k.toNat
    · subst hs; rw [if_pos (by omega)]; simp [show k.toNat < L.length by omega]
    · rw [if_neg (by omega)]; simp [List.getD_eq_getElem?_getD, List.getElem?_set_ne (fun e => hs e.symm)]
theorem size_get {L : List By} {k : Int} : sizeL L k = 0 ↔ getL L k = [] := by rw [← getL_len]; exact List.length_eq_zero_iff
/-! pages -/
def pAt (P : PM) (i : Int) : List By := (mget P i).getD []
def gH (P : PM) (a : Int × Int) : By := getL (pAt P a.1) a.2
theorem pAt_put {P : PM} {i j : Int} {L : List By} (h : (P.map Prod.fst).Nodup) : pAt (mput P i L) j = if j = i then L else pAt P j := by
  unfold pAt; rw [mget_mput h]; split <;> rfl
theorem pAt_del {P : PM} {i j : Int} (h : (P.map Prod.fst).Nodup) : pAt (mdel P i) j = if j = i then [] else pAt P j := by
  unfold pAt; rw [mget_mdel h]; split <;> rfl
theorem gH_put {P : PM} {i : Int} {L : List By} {a : Int × Int} (h : (P.map Prod.fst).Nodup) : gH (mput P i L) a = if a.1 = i then getL L a.2 else gH P a := by
  unfold gH; rw [pAt_put h]; split <;> rfl
theorem gH_del {P : PM} {i : Int} {a : Int × Int} (h : (P.map Prod.fst).Nodup) : gH (mdel P i) a = if a.1 = i then [] else gH P a := by
  unfold gH; rw [pAt_del h]; split
  · exact getL_zero _
  · rfl
theorem gH_key {P : PM} {a : Int × Int} (h : gH P a ≠ []) : a.1 ∈ P.map Prod.fst := by
  cases hm : mget P a.1 with
  | none => exact absurd (by unfold gH pAt; rw [hm]; exact getL_zero _) h
  | some L => exact List.mem_map.2 ⟨_, mget_mem hm, rfl⟩
structure HInv (P : PM) (nx : Int) (M : AM) : Prop where
  kp : (P.map Prod.fst).Nodup
  km : (M.map Prod.fst).Nodup
  nums : ∀ i ∈ P.map Prod.fst, 1 ≤ i ∧ i ≤ nx
  at_ : ∀ e ∈ M, gH P e.2 ≠ []
  one : ∀ e ∈ M, ∀ f ∈ M, e.2 = f.2 → e.1 = f.1
  own : ∀ a, gH P a ≠ [] → ∃ e ∈ M, e.2 = a
  ne : ∀ i ∈ P.map Prod.fst, ∃ s, gH P (i, s) ≠ []
def recs (P : PM) (M : AM) : List (Int × By) := M.map fun e => (e.1, gH P e.2)
theorem HInv.nil (nx : Int) : HInv [] nx [] := ⟨by simp, by simp, by simp, by simp, by simp, fun a h => absurd (getL_zero _) h, by simp⟩
theorem keys_put {K V : Type} [DecidableEq K] {P : List (K × V)} {i : K} {L : V} {j : K} : j ∈ (mput P i L).map Prod.fst ↔ j ∈ P.map Prod.fst ∨ j = i := by
  rw [mput_keys]; split
  · rename_i h; exact ⟨.inl, fun q => q.elim id fun e => e ▸ h⟩
  · simp
section
variable {K V W : Type} [DecidableEq K]
theorem mput_cons {a k : K} {v u : V} {t : List (K × V)} : mput ((a, v) :: t) k u = if k = a then (k, u) :: t else (a, v) :: mput t k u := by
  have hl : mlook ((a, v) :: t) k = if k = a then some (0, v) else (mlook t k).map fun p => (p.1 + 1, p.2) := rfl
  unfold mput; rw [hl]
  by_cases h : k = a
  · rw [if_pos h, if_pos h]; rfl
  · rw [if_neg h, if_neg h]
    cases mlook t k with
    | none => rfl
    | some q => rfl
theorem mdel_cons {a k : K} {v : V} {t : List (K × V)} : mdel ((a, v) :: t) k = if k = a then t else (a, v) :: mdel t k := by
  have hl : mlook ((a, v) :: t) k = if k = a then some (0, v) else (mlook t k).map fun p => (p.1 + 1, p.2) := rfl
  unfold mdel; rw [hl]
  by_cases h : k = a
  · rw [if_pos h, if_pos h]; rfl
  · rw [if_neg h, if_neg h]
    cases mlook t k with
    | none => rfl
    | some q => rfl
theorem mget_cons {a k : K} {v : V} {t : List (K × V)} : mget ((a, v) :: t) k = if k = a then some v else mget t k := by
  have hl : mlook ((a, v) :: t) k = if k = a then some (0, v) else (mlook t k).map fun p => (p.1 + 1, p.2) := rfl
  unfold mget; rw [hl]
  by_cases h : k = a
  · rw [if_pos h, if_pos h]; rfl
  · rw [if_neg h, if_neg h]
    cases mlook t k with
    | none => rfl
    | some q => rfl
theorem mput_same : ∀ {M : List (K × V)} {k : K} {v : V}, mget M k = some v → mput M k v = M
  | [], _, _, h => by cases h
  | (a, u) :: t, k, v, h => by
    rw [mget_cons] at h; rw [mput_cons]
    by_cases hk : k = a
    · rw [if_pos hk] at h ⊢; obtain rfl := Option.some.inj h; rw [hk]
    · rw [if_neg hk] at h ⊢; rw [mput_same h]
theorem recs_put (f : V → W) (b : W) (k : K) (v : V) : ∀ {M : List (K × V)}, (M.map Prod.fst).Nodup → (mput M k v).map (fun e => (e.1, if e.1 = k then b else f e.2)) = mput (M.map fun e => (e.1, f e.2)) k b
  | [], _ => by simp [mput, mlook]
  | (a, u) :: t, h => by
    simp only [List.map_cons, List.nodup_cons] at h
    rw [mput_cons, List.map_cons, mput_cons]
    by_cases hk : k = a
    · subst hk
      rw [if_pos rfl, if_pos rfl, List.map_cons, if_pos rfl]
      congr 1
      refine List.map_congr_left fun e he => ?_
      have hne : ¬ e.1 = k := fun q => h.1 (by rw [← q]; exact List.mem_map.2 ⟨e, he, rfl⟩)
      rw [if_neg hne]
    · rw [if_neg hk, if_neg hk, List.map_cons, if_neg fun q => hk q.symm, recs_put f b k v h.2]
theorem map_del (f : V → W) (k : K) : ∀ {M : List (K × V)}, (mdel M k).map (fun e => (e.1, f e.2)) = mdel (M.map fun e => (e.1, f e.2)) k
  | [] => rfl
  | (a, u) :: t => by
    rw [mdel_cons, List.map_cons, mdel_cons]
    by_cases hk : k = a
    · rw [if_pos hk, if_pos hk]
    · rw [if_neg hk, if_neg hk, List.map_cons, map_del f k]
theorem mget_map (f : V → W) (k : K) : ∀ {M : List (K × V)}, mget (M.map fun e => (e.1, f e.2)) k = (mget M k).map f
  | [] => rfl
  | (a, u) :: t => by
    rw [List.map_cons, mget_cons, mget_cons]
    by_cases hk : k = a
    · rw [if_pos hk, if_pos hk]; rfl
    · rw [if_neg hk, if_neg hk, mget_map f k]
theorem mdel_keys {M : List (K × V)} {k j : K} (h : (M.map Prod.fst).Nodup) : j ∈ (mdel M k).map Prod.fst ↔ j ∈ M.map Prod.fst ∧ j ≠ k := by
  constructor
  · intro hj
    obtain ⟨e, he, rfl⟩ := List.mem_map.1 hj
    have := (mem_mdel (a := e.1) (u := e.2) (k := k) h).1 he
    exact ⟨List.mem_map.2 ⟨e, this.2, rfl⟩, this.1⟩
  · rintro ⟨hj, hk⟩
    obtain ⟨e, he, rfl⟩ := List.mem_map.1 hj
    exact List.mem_map.2 ⟨e, (mem_mdel (a := e.1) (u := e.2) h).2 ⟨hk, he⟩, rfl⟩
end
theorem pw_len {α : Type} [DecidableEq α] : ∀ {l m : List α}, l.Nodup → (∀ x ∈ l, x ∈ m) → l.length ≤ m.length
  | [], _, _, _ => Nat.zero_le _
  | a :: l, m, hn, h => by
    have ha := h a (by simp)
    have := pw_len (l := l) (m := m.erase a) (List.nodup_cons.1 hn).2 fun x hx => by
      have hne : x ≠ a := fun e => (List.nodup_cons.1 hn).1 (by rw [← e]; exact hx)
      exact (List.mem_erase_of_ne hne).2 (h x (by simp [hx]))
    rw [List.length_erase_of_mem ha] at this
    have := List.length_pos_of_mem ha
    simp only [List.length_cons]; omega
section
variable {P P' : PM} {M : AM} {nx nx' id : Int} {b : By} {at_ to : Int × Int}
theorem HInv.key (h : HInv P nx M) (hm : mget M id = some at_) : (id, at_) ∈ M ∧ gH P at_ ≠ [] := ⟨mget_mem hm, h.at_ _ (mget_mem hm)⟩
theorem HInv.pages (h : HInv P nx M) : P.length ≤ M.length := by
  have := pw_len (l := P.map Prod.fst) (m := M.map fun e => e.2.1) h.kp fun i hi => by
    obtain ⟨s, hs⟩ := h.ne i hi
    obtain ⟨e, he, hq⟩ := h.own _ hs
    exact List.mem_map.2 ⟨e, he, by rw [hq]⟩
  simpa using this
theorem recs_len : (recs P M).length = M.length := by simp [recs]
theorem recs_keys : (recs P M).map Prod.fst = M.map Prod.fst := by simp [recs, List.map_map, Function.comp_def]
theorem recs_get : mget (recs P M) id = (mget M id).map (gH P) := mget_map (gH P) id
theorem HInv.of_set (h : HInv P nx M) (hm : mget M id = some at_) (hk : (P'.map Prod.fst).Nodup) (hks : ∀ i, i ∈ P'.map Prod.fst ↔ i ∈ P.map Prod.fst) (hb : b ≠ []) (hg : ∀ a, gH P' a = if a = at_ then b else gH P a) : HInv P' nx M ∧ recs P' M = mput (recs P M) id b := by
  obtain ⟨hin, hne⟩ := h.key hm
  have hg0 : ∀ a, gH P' a ≠ [] ↔ gH P a ≠ [] := fun a => by
    rw [hg]; split
    · rename_i e; rw [e]; exact ⟨fun _ => hne, fun _ => hb⟩
    · exact Iff.rfl
  refine ⟨⟨hk, h.km, fun i hi => h.nums i ((hks i).1 hi), fun e he => (hg0 _).2 (h.at_ e he), h.one, fun a ha => h.own a ((hg0 a).1 ha), fun i hi => ?_⟩, ?_⟩
  · obtain ⟨s, hs⟩ := h.ne i ((hks i).1 hi)
    exact ⟨s, (hg0 _).2 hs⟩
  · have h1 := recs_put (gH P) b id at_ h.km
    rw [mput_same hm] at h1
    unfold recs
    rw [← h1]
    refine List.map_congr_left fun e he => ?_
    rw [hg]
    by_cases hid : e.1 = id
    · have : e.2 = at_ := by
        have := mget_of_mem h.km (show (e.1, e.2) ∈ M from he)
        rw [hid, hm] at this; exact (Option.some.inj this).symm
      rw [if_pos this, if_pos hid]
    · rw [if_neg fun q => hid (h.one e he _ hin q), if_neg hid]
theorem HInv.of_move (h : HInv P nx M) (hk : (P'.map Prod.fst).Nodup) (hn : ∀ i ∈ P'.map Prod.fst, 1 ≤ i ∧ i ≤ nx') (hb : b ≠ []) (hto : gH P to = []) (hid : ∀ e ∈ M, e.1 = id → gH P' e.2 = [] ∨ e.2 = to)
    (hg : ∀ a, gH P' a = if a = to then b else if mget M id = some a then [] else gH P a) (hne : ∀ i ∈ P'.map Prod.fst, ∃ s, gH P' (i, s) ≠ []) : HInv P' nx' (mput M id to) ∧ recs P' (mput M id to) = mput (recs P M) id b := by
  have hmem : ∀ {e : Int × (Int × Int)}, e ∈ mput M id to ↔ (e.1 = id ∧ e.2 = to) ∨ (e.1 ≠ id ∧ e ∈ M) := fun {e} => mem_mput (a := e.1) (u := e.2) h.km
  have hnt : ∀ e ∈ M, e.2 ≠ to := fun e he q => h.at_ e he (q ▸ hto)
  have hold : ∀ e ∈ M, e.1 ≠ id → gH P' e.2 = gH P e.2 := fun e he hi => by
    rw [hg, if_neg (hnt e he), if_neg fun q => hi (h.one e he _ (mget_mem q) rfl)]
  refine ⟨⟨hk, nodup_mput h.km, hn, fun e he => ?_, fun e he f hf hef => ?_, fun a ha => ?_, hne⟩, ?_⟩
  · rcases hmem.1 he with ⟨_, h2⟩ | ⟨h1, h2⟩
    · rw [h2, hg, if_pos rfl]; exact hb
    · rw [hold e h2 h1]; exact h.at_ e h2
  · rcases hmem.1 he with ⟨h1, h2⟩ | ⟨h1, h2⟩ <;> rcases hmem.1 hf with ⟨g1, g2⟩ | ⟨g1, g2⟩
    · rw [h1, g1]
    · exact absurd (hef.symm.trans h2) (hnt f g2)
    · exact absurd (hef.trans g2) (hnt e h2)
    · exact h.one e h2 f g2 hef
  · rw [hg] at ha
    by_cases hat : a = to
    · exact ⟨(id, to), hmem.2 (.inl ⟨rfl, rfl⟩), hat.symm⟩
    · rw [if_neg hat] at ha
      by_cases hm : mget M id = some a
      · rw [if_pos hm] at ha; exact absurd rfl ha
      · rw [if_neg hm] at ha
        obtain ⟨e, he, rfl⟩ := h.own a ha
        refine ⟨e, hmem.2 (.inr ⟨fun q => hm ?_, he⟩), rfl⟩
        rw [← q]; exact mget_of_mem h.km (show (e.1, e.2) ∈ M from he)
  · have h1 := recs_put (gH P) b id to h.km
    unfold recs
    rw [← h1]
    refine List.map_congr_left fun e he => ?_
    rcases hmem.1 he with ⟨h1, h2⟩ | ⟨h1, h2⟩
    · rw [if_pos h1, h2, hg, if_pos rfl]
    · rw [if_neg h1, hold e h2 h1]
theorem HInv.of_del (h : HInv P nx M) (hm : mget M id = some at_) (hk : (P'.map Prod.fst).Nodup) (hks : ∀ i ∈ P'.map Prod.fst, i ∈ P.map Prod.fst) (hg : ∀ a, gH P' a = if a = at_ then [] else gH P a) (hne : ∀ i ∈ P'.map Prod.fst, ∃ s, gH P' (i, s) ≠ []) : HInv P' nx (mdel M id) ∧ recs P' (mdel M id) = mdel (recs P M) id := by
  obtain ⟨hin, _⟩ := h.key hm
  have hmem : ∀ {e : Int × (Int × Int)}, e ∈ mdel M id ↔ e.1 ≠ id ∧ e ∈ M := fun {e} => mem_mdel (a := e.1) (u := e.2) h.km
  have hold : ∀ e ∈ M, e.1 ≠ id → gH P' e.2 = gH P e.2 := fun e he hi => by rw [hg, if_neg fun q => hi (h.one e he _ hin q)]
  refine ⟨⟨hk, nodup_mdel h.km, fun i hi => h.nums i (hks i hi), fun e he => ?_, fun e he f hf => h.one e (hmem.1 he).2 f (hmem.1 hf).2, fun a ha => ?_, hne⟩, ?_⟩
  · rw [hold e (hmem.1 he).2 (hmem.1 he).1]; exact h.at_ e (hmem.1 he).2
  · rw [hg] at ha
    by_cases hat : a = at_
    · rw [if_pos hat] at ha; exact absurd rfl ha
    · rw [if_neg hat] at ha
      obtain ⟨e, he, rfl⟩ := h.own a ha
      refine ⟨e, hmem.2 ⟨fun q => hat ?_, he⟩, rfl⟩
      have := mget_of_mem h.km (show (e.1, e.2) ∈ M from he)
      rw [q, hm] at this; exact (Option.some.inj this).symm
  · unfold recs
    rw [← map_del (gH P) id]
    exact List.map_congr_left fun e he => by rw [hold e (hmem.1 he).2 (hmem.1 he).1]
end
end Go.Proofs.Ytdhpalioifjfbaa

namespace Go.Proofs.Ytdhpalioifjfbaa
open Go.Gx Go.RowKit
end Go.Proofs.Ytdhpalioifjfbaa
namespace Go.Gx
theorem Own.notOwn {w : World} {base e sz n base2 e2 sz2 n2 : Nat} {v v2 : Value} {cs cs2 : List Value} (O : Own w base e sz v n cs) (O2 : Own w base2 e2 sz2 v2 n2 cs2) (h : e ≠ e2) : DJ v v2 := by
  intro x hx hf
  rcases O.2 with ⟨rfl, _⟩ | ⟨g, off, cap, cur, fr, rfl, hb, hg, _⟩
  · cases hx
  · simp only [Value.ownBlock, Option.some.injEq] at hx
    subst hx
    rcases O2.2 with ⟨rfl, _⟩ | ⟨g', off', cap', cur', fr', rfl, hb', hg', _⟩
    · cases hf
    · simp only [Value.ownBlock, Option.some.injEq] at hf
      subst hf
      have := hg.symm.trans hg'; simp at this; exact h this.2.1
end Go.Gx
namespace Go.Proofs.Ytdhpalioifjfbaa
open Go.Gx Go.RowKit
def PageR (w : World) (base p : Nat) (L : List By) (F : Nat → Prop) : Prop :=
  ∃ vb n bs, base ≤ p ∧ Bx w p 50 [vb] ∧ Own w base 5 1 vb n (bs.map u8v) ∧ Pg n bs L vb ∧ ∀ x, F x ↔ x = p ∨ Bl vb x
def PgAll (w : World) (base : Nat) (P : PM) (ps : List Nat) (F : Nat → Prop) : Prop :=
  ps.length = P.length ∧ ∃ Fs : Nat → Nat → Prop, (∀ i, i < P.length → PageR w base (ps.getD i 0) (P.getD i default).2 (Fs i)) ∧ (∀ i j, i < P.length → j < P.length → i ≠ j → Dj (Fs i) (Fs j)) ∧ ∀ x, F x ↔ ∃ i, i < P.length ∧ Fs i x
def pv (p : Nat) : Value := ptr p 0
def plv (a : Int × Int) : Value := .agg #[.int .i64 a.1, .int .i64 a.2]
def esP (P : PM) (ps : List Nat) : List (Int × Nat) := List.zipWith (fun a p => (a.1, p)) P ps
def MapsN (w : World) (base : Nat) (P : PM) (ps : List Nat) (M : AM) (v1 v2 : Value) : Prop :=
  (v1 = .map none ∧ v2 = .map none ∧ P = [] ∧ M = []) ∨ ∃ pm mm, v1 = .map (some pm) ∧ v2 = .map (some mm) ∧ base ≤ pm ∧ base ≤ mm ∧ pm ≠ mm ∧ MapC (Value.int .i64) pv w pm (esP P ps) ∧ MapC (Value.int .u64) plv w mm M
def HeapB (w : World) (base k : Nat) (P : PM) (nx : Int) (M : AM) (F : Nat → Prop) : Prop :=
  ∃ v1 v2 ps F0, base ≤ k ∧ Bx w k 71 [v1, .int .i64 nx, v2] ∧ PgAll w base P ps F0 ∧ MapsN w base P ps M v1 v2 ∧ ∀ x, F x ↔ x = k ∨ v1 = .map (some x) ∨ v2 = .map (some x) ∨ F0 x
def HeapR (w : World) (base k : Nat) (R : List (Int × By)) (m : Nat) (F : Nat → Prop) : Prop :=
  ∃ P nx M, HeapB w base k P nx M F ∧ HInv P nx M ∧ 0 ≤ nx ∧ nx ≤ (m : Int) ∧ M.length ≤ m ∧ R = recs P M
section
variable {w w' : World} {base base' k m b t e sz n i j p : Nat} {P P' : PM} {ps : List Nat} {M : AM} {nx : Int} {L L' : List By} {F F' G : Nat → Prop} {cs : List Value} {v v1 v2 : Value} {R : List (Int × By)}
theorem PageR.lt (h : PageR w base p L F) : ∀ x, F x → base ≤ x ∧ x < w.heap.size := fun x hx => by
  obtain ⟨vb, n, bs, h0, h1, h2, _, hF⟩ := h
  rcases (hF x).1 hx with rfl | hx
  · exact ⟨h0, h1.lt⟩
  · exact h2.lt x hx
theorem PageR.keepG (h : PageR w base p L F) (E : Gr w w' G) (hd : Dj F G) : PageR w' base p L F := by
  obtain ⟨vb, n, bs, h0, h1, h2, h3, hF⟩ := h
  exact ⟨vb, n, bs, h0, h1.keepG E (hd _ ((hF _).2 (.inl rfl))), h2.keepG E fun x hx => hd x ((hF x).2 (.inr hx)), h3, hF⟩
theorem PageR.kz (h : PageR w base p L F) (E9 : w.grownBy w' none) : PageR w' base p L F := h.keepG (Gr.of0 E9 NoB) (fun _ _ h => h)
theorem PageR.mono (h : PageR w base p L F) (hb : base' ≤ base) : PageR w base' p L F := by
  obtain ⟨vb, n, bs, h0, h1, h2, h3, hF⟩ := h
  exact ⟨vb, n, bs, Nat.le_trans hb h0, h1, h2.mono hb, h3, hF⟩
theorem PageR.notBx (h : PageR w base p L F) (B : Bx w b t cs) (h1 : t ≠ 50) (h2 : t ≠ 5) : ¬ F b := fun hf => by
  obtain ⟨vb, n, bs, _, a1, a2, _, hF⟩ := h
  rcases (hF b).1 hf with hf | hf
  · exact B.ne a1 h1 hf
  · exact a2.neB B h2 hf
theorem PageR.notOwn {base2 : Nat} (h : PageR w base p L F) (O : Own w base2 e sz v n cs) (h1 : e ≠ 50) (h2 : e ≠ 5) : Dj (Bl v) F := fun x hx hf => by
  obtain ⟨vb, n, bs, _, a1, a2, _, hF⟩ := h
  rcases (hF x).1 hf with rfl | hf
  · exact O.neB a1 (fun q => h1 q.symm) hx
  · exact O.notOwn a2 h2 x hx hf
theorem PageR.notMap {K V : Type} {kv : K → Value} {vv : V → Value} {es : List (K × V)} (h : PageR w base p L F) (Mp : MapC kv vv w m es) : ¬ F m := fun hf => by
  obtain ⟨vb, n, bs, _, a1, a2, _, hF⟩ := h
  rcases (hF m).1 hf with hf | hf
  · exact a1.notMap Mp hf.symm
  · exact a2.notMap Mp hf
theorem PageR.fits (h : PageR w base p L F) : L.length ≤ 62 := by obtain ⟨vb, n, bs, _, _, _, h3, _⟩ := h; exact h3.fits.1
theorem PgAll.lt (h : PgAll w base P ps F) : ∀ x, F x → base ≤ x ∧ x < w.heap.size := fun x hx => by
  obtain ⟨_, Fs, h2, _, h4⟩ := h
  obtain ⟨i, hi, hx⟩ := (h4 x).1 hx
  exact (h2 i hi).lt x hx
theorem PgAll.keepG (h : PgAll w base P ps F) (E : Gr w w' G) (hd : Dj F G) : PgAll w' base P ps F := by
  obtain ⟨h1, Fs, h2, h3, h4⟩ := h
  exact ⟨h1, Fs, fun i hi => (h2 i hi).keepG E fun x hx => hd x ((h4 x).2 ⟨i, hi, hx⟩), h3, h4⟩
theorem PgAll.kz (h : PgAll w base P ps F) (E9 : w.grownBy w' none) : PgAll w' base P ps F := h.keepG (Gr.of0 E9 NoB) (fun _ _ h => h)
theorem PgAll.mono (h : PgAll w base P ps F) (hb : base' ≤ base) : PgAll w base' P ps F := by
  obtain ⟨h1, Fs, h2, h3, h4⟩ := h
  exact ⟨h1, Fs, fun i hi => (h2 i hi).mono hb, h3, h4⟩
theorem PgAll.nil (w : World) (base : Nat) : PgAll w base [] [] NoB := ⟨rfl, fun _ _ => False, fun _ h => absurd h (Nat.not_lt_zero _), fun _ _ h => absurd h (Nat.not_lt_zero _), fun x => ⟨fun h => h.elim, fun ⟨_, h, _⟩ => absurd h (Nat.not_lt_zero _)⟩⟩
theorem PgAll.notBx (h : PgAll w base P ps F) (B : Bx w b t cs) (h1 : t ≠ 50) (h2 : t ≠ 5) : ¬ F b := fun hf => by
  obtain ⟨_, Fs, a2, _, a4⟩ := h
  obtain ⟨i, hi, hf⟩ := (a4 b).1 hf
  exact (a2 i hi).notBx B h1 h2 hf
theorem PgAll.notOwn {base2 : Nat} (h : PgAll w base P ps F) (O : Own w base2 e sz v n cs) (h1 : e ≠ 50) (h2 : e ≠ 5) : Dj (Bl v) F := fun x hx hf => by
  obtain ⟨_, Fs, a2, _, a4⟩ := h
  obtain ⟨i, hi, hf⟩ := (a4 x).1 hf
  exact (a2 i hi).notOwn O h1 h2 x hx hf
theorem PgAll.notMap {K V : Type} {kv : K → Value} {vv : V → Value} {es : List (K × V)} (h : PgAll w base P ps F) (Mp : MapC kv vv w m es) : ¬ F m := fun hf => by
  obtain ⟨_, Fs, a2, _, a4⟩ := h
  obtain ⟨i, hi, hf⟩ := (a4 m).1 hf
  exact (a2 i hi).notMap Mp hf
theorem dj_upd {Fs : Nat → Nat → Prop} {F1 : Nat → Prop} {N n0 : Nat} (h3 : ∀ i j, i < N → j < N → i ≠ j → Dj (Fs i) (Fs j)) (hN : ∀ x, F1 x → (i < N ∧ Fs i x) ∨ n0 ≤ x) (hl : ∀ j, j < N → ∀ x, Fs j x → x < n0) :
    ∀ a b, a < N ∨ a = i → b < N ∨ b = i → a ≠ b → Dj (if a = i then F1 else Fs a) (if b = i then F1 else Fs b) := by
  have key : ∀ j, j < N → j ≠ i → Dj F1 (Fs j) := fun j hj hji x hx hf => by
    rcases hN x hx with ⟨hi, q⟩ | q
    · exact h3 i j hi hj (Ne.symm hji) x q hf
    · have := hl j hj x hf; omega
  intro a b ha hb hab
  by_cases q1 : a = i <;> by_cases q2 : b = i
  · exact absurd (q1.trans q2.symm) hab
  · rw [if_pos q1, if_neg q2]; exact key b (hb.resolve_right q2) q2
  · rw [if_neg q1, if_pos q2]; exact (key a (ha.resolve_right q1) q1).symm
  · rw [if_neg q1, if_neg q2]; exact h3 a b (ha.resolve_right q1) (hb.resolve_right q2) hab
theorem PgAll.at (h : PgAll w base P ps F) (hi : i < P.length) : ∃ F1, PageR w base (ps.getD i 0) (P.getD i default).2 F1 ∧ (∀ x, F1 x → F x) ∧
    ∀ (w' : World) (z : Int) (L' : List By) (F2 : Nat → Prop), Gr w w' F1 → PageR w' base (ps.getD i 0) L' F2 → NewF w.heap.size F1 F2 → ∃ F', PgAll w' base (P.set i (z, L')) ps F' ∧ NewF w.heap.size F F' := by
  obtain ⟨h1, Fs, h2, h3, h4⟩ := h
  refine ⟨Fs i, h2 i hi, fun x hx => (h4 x).2 ⟨i, hi, hx⟩, fun w' z L' F2 E hP hN => ?_⟩
  refine ⟨_, ⟨by rw [List.length_set]; exact h1, fun j => if j = i then F2 else Fs j, fun j hj => ?_, fun a b ha hb hab => ?_, fun x => Iff.rfl⟩, fun x hx => ?_⟩
  · rw [List.length_set] at hj
    by_cases hji : j = i
    · subst hji
      simp only [if_true]
      have : (P.set j (z, L')).getD j default = (z, L') := by simp [List.getD_eq_getElem?_getD, hj]
      rw [this]; exact hP
    · simp only [if_neg hji]
      have : (P.set i (z, L')).getD j default = P.getD j default := by simp [List.getD_eq_getElem?_getD, List.getElem?_set_ne (Ne.symm hji)]
      rw [this]; exact (h2 j hj).keepG E (h3 j i hj hi hji)
  · rw [List.length_set] at ha hb
    exact dj_upd (N := P.length) (n0 := w.heap.size) h3 (fun x hx => (hN x hx).imp (fun q => ⟨hi, q⟩) id) (fun j hj x hx => ((h2 j hj).lt x hx).2) a b (.inl ha) (.inl hb) hab
  · obtain ⟨j, hj, hx⟩ := hx
    rw [List.length_set] at hj
    by_cases hji : j = i
    · rw [if_pos hji] at hx; exact (hN x hx).imp (fun q => (h4 x).2 ⟨i, hi, q⟩) id
    · rw [if_neg hji] at hx; exact .inl ((h4 x).2 ⟨j, hj, hx⟩)
theorem PgAll.snoc {F1 : Nat → Prop} {z : Int} (h : PgAll w base P ps F) (hP : PageR w base p L F1) (hd : Dj F F1) : PgAll w base (P ++ [(z, L)]) (ps ++ [p]) (fun x => F x ∨ F1 x) := by
  obtain ⟨h1, Fs, h2, h3, h4⟩ := h
  have hl : (P ++ [(z, L)]).length = P.length + 1 := by simp
  refine ⟨by simp [h1], fun j => if j = P.length then F1 else Fs j, fun j hj => ?_, fun a b ha hb hab => ?_, fun x => ⟨fun hx => ?_, fun hx => ?_⟩⟩
  · by_cases hji : j = P.length
    · subst hji
      have e1 : (ps ++ [p]).getD P.length 0 = p := by rw [← h1]; simp [List.getD_eq_getElem?_getD]
      have e2 : (P ++ [(z, L)]).getD P.length default = (z, L) := by simp [List.getD_eq_getElem?_getD]
      simp only [if_true]; rw [e1, e2]; exact hP
    · have hj2 : j < P.length := by omega
      have e1 : (ps ++ [p]).getD j 0 = ps.getD j 0 := by simp only [List.getD_eq_getElem?_getD]; rw [List.getElem?_append_left (by omega)]
      have e2 : (P ++ [(z, L)]).getD j default = P.getD j default := by simp only [List.getD_eq_getElem?_getD]; rw [List.getElem?_append_left hj2]
      simp only [if_neg hji]; rw [e1, e2]; exact h2 j hj2
  · have key : ∀ j, j < P.length → Dj (Fs j) F1 := fun j hj x hx => hd x ((h4 x).2 ⟨j, hj, hx⟩)
    show Dj (if a = P.length then F1 else Fs a) (if b = P.length then F1 else Fs b)
    by_cases q1 : a = P.length <;> by_cases q2 : b = P.length
    · exact absurd (q1.trans q2.symm) hab
    · rw [if_pos q1, if_neg q2]; exact (key b (by omega)).symm
    · rw [if_neg q1, if_pos q2]; exact key a (by omega)
    · rw [if_neg q1, if_neg q2]; exact h3 a b (by omega) (by omega) hab
  · rcases hx with hx | hx
    · obtain ⟨i, hi, hx⟩ := (h4 x).1 hx
      exact ⟨i, by omega, by show (if i = P.length then F1 else Fs i) x; rw [if_neg (by omega)]; exact hx⟩
    · exact ⟨P.length, by omega, by show (if P.length = P.length then F1 else Fs P.length) x; rw [if_pos rfl]; exact hx⟩
  · obtain ⟨i, hi, hx⟩ := hx
    by_cases hj : i = P.length
    · rw [if_pos hj] at hx; exact .inr hx
    · rw [if_neg hj] at hx; exact .inl ((h4 x).2 ⟨i, by omega, hx⟩)
theorem getD_erase {α : Type} {l : List α} {i j : Nat} {d : α} : (l.eraseIdx j).getD i d = if i < j then l.getD i d else l.getD (i + 1) d := by
  simp only [List.getD_eq_getElem?_getD, List.getElem?_eraseIdx]
  split <;> rfl
theorem PgAll.erase (h : PgAll w base P ps F) (hj : j < P.length) : ∃ F2, PgAll w base (P.eraseIdx j) (ps.eraseIdx j) F2 ∧ ∀ x, F2 x → F x := by
  obtain ⟨h1, Fs, h2, h3, h4⟩ := h
  have hl : (P.eraseIdx j).length = P.length - 1 := by rw [List.length_eraseIdx, if_pos hj]
  have up : ∀ i, i < (P.eraseIdx j).length → (if i < j then i else i + 1) < P.length := fun i hi => by split <;> omega
  refine ⟨_, ⟨by rw [List.length_eraseIdx, if_pos (by omega), hl, h1], fun i => Fs (if i < j then i else i + 1), fun i hi => ?_, fun a b ha hb hab => ?_, fun x => Iff.rfl⟩, fun x hx => ?_⟩
  · have gM : (P.eraseIdx j).getD i default = P.getD (if i < j then i else i + 1) default := by rw [getD_erase]; split <;> rfl
    have gC : (ps.eraseIdx j).getD i 0 = ps.getD (if i < j then i else i + 1) 0 := by rw [getD_erase]; split <;> rfl
    rw [gM, gC]; exact h2 _ (up i hi)
  · refine h3 _ _ (up a ha) (up b hb) ?_
    split <;> split <;> omega
  · obtain ⟨i, hi, hx⟩ := hx
    exact (h4 x).2 ⟨_, up i hi, hx⟩
theorem esP_len (h : ps.length = P.length) : (esP P ps).length = P.length := by unfold esP; simp [h]
theorem esP_keys (h : ps.length = P.length) : (esP P ps).map Prod.fst = P.map Prod.fst := by
  unfold esP
  apply List.ext_getElem?
  intro i
  simp only [List.getElem?_map, List.getElem?_zipWith]
  by_cases hi : i < P.length
  · rw [List.getElem?_eq_getElem hi, List.getElem?_eq_getElem (by omega)]; rfl
  · rw [List.getElem?_eq_none (by omega), List.getElem?_eq_none (by omega)]; rfl
theorem esP_look : ∀ {P : PM} {ps : List Nat} {n : Int}, ps.length = P.length → mlook (esP P ps) n = (mlook P n).map fun q => (q.1, ps.getD q.1 0)
  | [], [], _, _ => rfl
  | [], _ :: _, _, h => by cases h
  | _ :: _, [], _, h => by cases h
  | (a, t) :: P, c :: ps, n, h => by
    have ih := esP_look (P := P) (ps := ps) (n := n) (by simpa using h)
    unfold esP at ih ⊢
    simp only [List.zipWith_cons_cons, mlook]
    split
    · rfl
    · rw [ih]; cases mlook P n <;> rfl
theorem esP_set {z : Int} (h : ps.length = P.length) (hk : i < P.length → (P.getD i default).1 = z) : esP (P.set i (z, L)) ps = esP P ps := by
  unfold esP
  apply List.ext_getElem?
  intro q
  simp only [List.getElem?_zipWith, List.getElem?_set]
  by_cases hq : i = q
  · subst hq
    by_cases hi : i < P.length
    · have hiC : i < ps.length := by omega
      rw [if_pos rfl, if_pos hi, List.getElem?_eq_getElem hi, List.getElem?_eq_getElem hiC]
      have h1 := hk hi
      simp only [List.getD_eq_getElem?_getD, List.getElem?_eq_getElem hi, Option.getD_some] at h1
      simp only []
      rw [h1]
    · rw [if_pos rfl, if_neg hi, List.getElem?_eq_none (show P.length ≤ i by omega)]
  · rw [if_neg hq]
theorem esP_snoc {z : Int} (h : ps.length = P.length) : esP (P ++ [(z, L)]) (ps ++ [p]) = esP P ps ++ [(z, p)] := by
  unfold esP
  rw [List.zipWith_append (by omega)]; rfl
theorem esP_erase : esP (P.eraseIdx j) (ps.eraseIdx j) = (esP P ps).eraseIdx j := by
  unfold esP
  apply List.ext_getElem?
  intro q
  simp only [List.getElem?_zipWith, List.getElem?_eraseIdx]
  by_cases hq : q < j
  · simp only [if_pos hq]
  · simp only [if_neg hq]
theorem MapsN.keepG (h : MapsN w base P ps M v1 v2) (E : Gr w w' G) (hd : ∀ x, v1 = .map (some x) ∨ v2 = .map (some x) → ¬ G x) : MapsN w' base P ps M v1 v2 := by
  rcases h with h | ⟨pm, mm, rfl, rfl, a, b, c, h1, h2⟩
  · exact .inl h
  · exact .inr ⟨pm, mm, rfl, rfl, a, b, c, h1.keepG E (hd pm (.inl rfl)), h2.keepG E (hd mm (.inr rfl))⟩
theorem HeapB.lt (h : HeapB w base k P nx M F) : ∀ x, F x → base ≤ x ∧ x < w.heap.size := by
  obtain ⟨v1, v2, ps, F0, hk, hx, hA, hM, hF⟩ := h
  intro x hf
  rcases (hF x).1 hf with rfl | hf | hf | hf
  · exact ⟨hk, hx.lt⟩
  · rcases hM with ⟨rfl, _⟩ | ⟨pm, mm, rfl, _, h1, _, _, h2, _⟩
    · cases hf
    · injection hf with hf; injection hf with hf; subst hf; exact ⟨h1, h2.lt⟩
  · rcases hM with ⟨_, rfl, _⟩ | ⟨pm, mm, _, rfl, _, h1, _, _, h2⟩
    · cases hf
    · injection hf with hf; injection hf with hf; subst hf; exact ⟨h1, h2.lt⟩
  · exact hA.lt x hf
theorem HeapB.keepG (h : HeapB w base k P nx M F) (E : Gr w w' G) (hd : Dj F G) : HeapB w' base k P nx M F := by
  obtain ⟨v1, v2, ps, F0, hk, hx, hA, hM, hF⟩ := h
  exact ⟨v1, v2, ps, F0, hk, hx.keepG E (hd k ((hF k).2 (.inl rfl))), hA.keepG E (fun x hx => hd x ((hF x).2 (.inr (.inr (.inr hx))))), hM.keepG E (fun x hx => hd x ((hF x).2 (hx.elim (fun q => .inr (.inl q)) (fun q => .inr (.inr (.inl q)))))), hF⟩
theorem HeapB.kz (h : HeapB w base k P nx M F) (E9 : w.grownBy w' none) : HeapB w' base k P nx M F := h.keepG (Gr.of0 E9 NoB) (fun _ _ h => h)
theorem HeapR.lt (h : HeapR w base k R m F) : ∀ x, F x → base ≤ x ∧ x < w.heap.size := by
  obtain ⟨P, nx, M, h, _⟩ := h; exact h.lt
theorem MapsN.mono (h : MapsN w base P ps M v1 v2) (hb : base' ≤ base) : MapsN w base' P ps M v1 v2 := by
  rcases h with h | ⟨pm, mm, rfl, rfl, a, b, c, h1, h2⟩
  · exact .inl h
  · exact .inr ⟨pm, mm, rfl, rfl, Nat.le_trans hb a, Nat.le_trans hb b, c, h1, h2⟩
theorem HeapR.mono (h : HeapR w base k R m F) (hb : base' ≤ base) : HeapR w base' k R m F := by
  obtain ⟨P, nx, M, ⟨v1, v2, ps, F0, hk, hx, hA, hM, hF⟩, h2⟩ := h
  exact ⟨P, nx, M, ⟨v1, v2, ps, F0, Nat.le_trans hb hk, hx, hA.mono hb, hM.mono hb, hF⟩, h2⟩
theorem HeapR.keepG (h : HeapR w base k R m F) (E : Gr w w' G) (hd : Dj F G) : HeapR w' base k R m F := by
  obtain ⟨P, nx, M, h, h2⟩ := h; exact ⟨P, nx, M, h.keepG E hd, h2⟩
theorem HeapR.kz (h : HeapR w base k R m F) (E9 : w.grownBy w' none) : HeapR w' base k R m F := h.keepG (Gr.of0 E9 NoB) (fun _ _ h => h)
end
end Go.Proofs.Ytdhpalioifjfbaa

namespace Go.Proofs.Ytdhpalioifjfbaa
open Go.Gx

theorem us3 : (Try.prog.underlying 3).isSome = true := by kernel_rfl
theorem one3 : oneT Try.prog 3 = true := by kernel_rfl
theorem size3 : (Try.prog.info? 3).map (·.size) = some 1 := by kernel_rfl
theorem us5 : (Try.prog.underlying 5).isSome = true := by kernel_rfl
theorem one5 : oneT Try.prog 5 = true := by kernel_rfl
theorem size5 : (Try.prog.info? 5).map (·.size) = some 1 := by kernel_rfl
theorem one22 : oneT Try.prog 22 = true := by kernel_rfl
theorem slt22 : SlT Try.prog 22 5 (Value.int .u8 0) 1 1 := ⟨Try.underlying22, by kernel_rfl, rfl, by decide⟩
theorem size22 : (Try.prog.info? 22).map (·.size) = some 1 := by kernel_rfl
theorem ptrt24 : Try.prog.underlying 24 = some (.pointer (Try.prog.pointee 24)) := by kernel_rfl
theorem zero24 : zeroT Try.prog 24 = some (Value.pointer none) := by kernel_rfl
theorem slt29 : SlT Try.prog 29 3 (Value.int .i64 0) 1 8 := ⟨Try.underlying29, by kernel_rfl, rfl, by decide⟩
theorem slt38 : SlT Try.prog 38 22 (Value.slice none 0 0) 1 24 := ⟨Try.underlying38, by kernel_rfl, rfl, by decide⟩
theorem fld50_0 : fieldT Try.prog 50 0 = some 0 := by kernel_rfl
theorem ptrt53 : Try.prog.underlying 53 = some (.pointer (Try.prog.pointee 53)) := by kernel_rfl
theorem arr55 : arrT Try.prog 55 = some (256, 1) := by kernel_rfl
theorem us57 : (Try.prog.underlying 57).isSome = true := by kernel_rfl
theorem one57 : oneT Try.prog 57 = true := by kernel_rfl
theorem size57 : (Try.prog.info? 57).map (·.size) = some 1 := by kernel_rfl
theorem slt62 : SlT Try.prog 62 57 (Value.int .u64 0) 1 8 := ⟨Try.underlying62, by kernel_rfl, rfl, by decide⟩
theorem one68 : oneT Try.prog 68 = true := by kernel_rfl
theorem size68 : (Try.prog.info? 68).map (·.size) = some 1 := by kernel_rfl
theorem one69 : oneT Try.prog 69 = true := by kernel_rfl
theorem size69 : (Try.prog.info? 69).map (·.size) = some 1 := by kernel_rfl
theorem fld71_0 : fieldT Try.prog 71 0 = some 0 := by kernel_rfl
theorem fld71_1 : fieldT Try.prog 71 1 = some 1 := by kernel_rfl
theorem fld71_2 : fieldT Try.prog 71 2 = some 2 := by kernel_rfl
theorem agg80 : aggT Try.prog 80 = some 2 := by kernel_rfl
theorem fld80_0 : fieldT Try.prog 80 0 = some 0 := by kernel_rfl
theorem fld80_1 : fieldT Try.prog 80 1 = some 1 := by kernel_rfl
theorem size80 : (Try.prog.info? 80).map (·.size) = some 2 := by kernel_rfl
theorem zero80 : zeroT Try.prog 80 = some (Value.agg #[(Value.int .i64 0), (Value.int .i64 0)]) := by kernel_rfl
theorem ok10 : callOk Try.prog 10 = true := by kernel_rfl
theorem ok11 : callOk Try.prog 11 = true := by kernel_rfl
theorem ok12 : callOk Try.prog 12 = true := by kernel_rfl
theorem ok13 : callOk Try.prog 13 = true := by kernel_rfl
theorem ok15 : callOk Try.prog 15 = true := by kernel_rfl
theorem ok20 : callOk Try.prog 20 = true := by kernel_rfl
theorem ok26 : callOk Try.prog 26 = true := by kernel_rfl
theorem ok27 : callOk Try.prog 27 = true := by kernel_rfl
theorem ok28 : callOk Try.prog 28 = true := by kernel_rfl
theorem ok29 : callOk Try.prog 29 = true := by kernel_rfl
theorem ok30 : callOk Try.prog 30 = true := by kernel_rfl
theorem ok31 : callOk Try.prog 31 = true := by kernel_rfl
theorem ok32 : callOk Try.prog 32 = true := by kernel_rfl
theorem ok35 : callOk Try.prog 35 = true := by kernel_rfl
theorem ok36 : callOk Try.prog 36 = true := by kernel_rfl
theorem ok37 : callOk Try.prog 37 = true := by kernel_rfl
theorem ok38 : callOk Try.prog 38 = true := by kernel_rfl
theorem ok39 : callOk Try.prog 39 = true := by kernel_rfl
theorem ok40 : callOk Try.prog 40 = true := by kernel_rfl
theorem ok41 : callOk Try.prog 41 = true := by kernel_rfl
theorem ok42 : callOk Try.prog 42 = true := by kernel_rfl
theorem ok43 : callOk Try.prog 43 = true := by kernel_rfl
theorem ok46 : callOk Try.prog 46 = true := by kernel_rfl
theorem ok47 : callOk Try.prog 47 = true := by kernel_rfl
theorem ok50 : callOk Try.prog 50 = true := by kernel_rfl
theorem ok51 : callOk Try.prog 51 = true := by kernel_rfl
theorem ok52 : callOk Try.prog 52 = true := by kernel_rfl
theorem ok53 : callOk Try.prog 53 = true := by kernel_rfl
theorem ok54 : callOk Try.prog 54 = true := by kernel_rfl
theorem ok55 : callOk Try.prog 55 = true := by kernel_rfl
theorem ok56 : callOk Try.prog 56 = true := by kernel_rfl
theorem ok57 : callOk Try.prog 57 = true := by kernel_rfl
theorem ok63 : callOk Try.prog 63 = true := by kernel_rfl
theorem ok64 : callOk Try.prog 64 = true := by kernel_rfl
theorem ok67 : callOk Try.prog 67 = true := by kernel_rfl
theorem ok73 : callOk Try.prog 73 = true := by kernel_rfl
theorem ok77 : callOk Try.prog 77 = true := by kernel_rfl
theorem ok92 : callOk Try.prog 92 = true := by kernel_rfl
theorem mixed : Try.prog.follows .mixedOrders = true := by kernel_rfl
end Go.Proofs.Ytdhpalioifjfbaa

namespace Go.Gx
section
variable {P : Program} {Q : Exit → Act → World → Prop} {a : Act} {w w' : World} {l : List (Nat × Value)} {ops : Array Oper} {rest : List Oper}
variable {d ty xt yt t e : Nat} {p : String} {af : Array Edge} {x y z : Operand} {v u : Value} {k : IntKind} {m n r : Int}
theorem op_fnc {f : FuncId} {as9 : List Operand} {ts : Array Nat} {vs : List Value} {R : Value → World → Prop} (hf : callOk P f = true) (hc : Ret P f vs.toArray w R) (hm : argsEv (putsL a l).eval as9 vs)
    (h : ∀ v w', R v w' → wpList P ops Q rest (putsL a ((d, v) :: l)) w') : wpList P ops Q (⟨some d, .call ⟨.value (.func f), as9.toArray, ts⟩, ty, p, af, none⟩ :: rest) (putsL a l) w := op_fn hf hm hc h
theorem op_storeA {b s T : Nat} {vs cs : List Value} (ht : (P.info? t).map (·.size) = some s) (hx : (putsL a l).eval x = ptr b 0) (hy : (putsL a l).eval y = .agg vs.toArray) (hs : vs.length = s) (h1 : vs.all Value.oneCell' = true) (hb : Bx w b T cs) (hl : vs.length = cs.length)
    (h : ∀ w', Bx w' b T vs → w.grownBy w' (some b) → wpList P ops Q rest (putsL a l) w') : wpList P ops Q (⟨none, .store t x y, ty, p, af, none⟩ :: rest) (putsL a l) w :=
  op_store ht hx hy (by simp [Value.cells]) hs h1 hb (by omega) (by simp [hl]) h
theorem op_loadB {s b T : Nat} {cs : List Value} (ht : aggT P xt = some s) (hl : cs.length = s) (hx : (putsL a l).eval x = ptr b 0) (hB : Bx w b T cs) (h : wpList P ops Q rest (putsL a ((d, .agg cs.toArray) :: l)) w) :
    wpList P ops Q (⟨some d, .load xt x, ty, p, af, none⟩ :: rest) (putsL a l) w :=
  op_loadA ht hl hx (fun j u hu => by rw [Nat.zero_add]; exact hB.cell hu) h
theorem retC {fn : Func} {R : Ending → World → Prop} {tt tc s b T : Nat} {cs : List Value} (hr : fn.results = [ResultVar.cell tt tc].toArray) (hd : a.defers = []) (hx : (putsL a l).eval (.tmp tt) = ptr b 0) (ht : aggT P tc = some s) (hl : cs.length = s) (hB : Bx w b T cs) (h : R (.returned (.agg cs.toArray)) w) : bodyPost P fn R .ret (putsL a l) w :=
  retN (rs := [.cell tt tc]) (vs := [.agg cs.toArray]) hr hd ⟨⟨_, hx, run_loadA ht hl (fun j u hu => by rw [Nat.zero_add]; exact hB.cell hu)⟩, trivial⟩ rfl h
theorem retD {fn : Func} {R : Ending → World → Prop} {tt tc t2 s b T : Nat} {cs : List Value} {v2 : Value} (hr : fn.results = [ResultVar.cell tt tc, ResultVar.tmp t2].toArray) (hd : a.defers = []) (hx : (putsL a l).eval (.tmp tt) = ptr b 0) (ht : aggT P tc = some s) (hl : cs.length = s) (hB : Bx w b T cs) (h2 : (putsL a l).eval (.tmp t2) = v2) (h : R (.returned (.tuple #[.agg cs.toArray, v2])) w) : bodyPost P fn R .ret (putsL a l) w :=
  retN (rs := [.cell tt tc, .tmp t2]) (vs := [.agg cs.toArray, v2]) hr hd ⟨⟨_, hx, run_loadA ht hl (fun j u hu => by rw [Nat.zero_add]; exact hB.cell hu)⟩, ⟨h2, trivial⟩⟩ rfl h
end
section
variable {b L B p : Nat}
theorem sR (h : B ≤ b := by omega) : ∀ k, some b = some k → k < L ∨ B ≤ k := fun k hk => by obtain rfl := Option.some.inj hk; exact .inr h
theorem sO (h : b < L ∨ B ≤ b := by omega) : ∀ k, some b = some k → k < L ∨ B ≤ k := fun k hk => by obtain rfl := Option.some.inj hk; exact h
theorem sP (h : p < L ∨ B ≤ p := by omega) : ∀ k, k = p → k < L ∨ B ≤ k := fun k hk => by subst hk; exact h
theorem sB {c : Nat} (h : b ≠ c := by omega) : some b ≠ some c := fun e => h (Option.some.inj e)
theorem sN {w : World} {c t u : Nat} {cs ds : List Value} (h : Bx w b t cs) (h0 : Bx w c u ds) (hn : t ≠ u := by decide) : some b ≠ some c := fun hh => by
  obtain rfl := Option.some.inj hh
  have := h.symm.trans h0
  simp at this
  exact hn this.2
end
theorem kb2 {w w' : World} {b0 t0 : Nat} {c0 : List Value} {b1 t1 : Nat} {c1 : List Value} (E : w.grownBy w' none) (h0 : Bx w b0 t0 c0) (h1 : Bx w b1 t1 c1) : Bx w' b0 t0 c0 ∧ Bx w' b1 t1 c1 := ⟨h0.keep0 E, h1.keep0 E⟩
theorem kb3 {w w' : World} {b0 t0 : Nat} {c0 : List Value} {b1 t1 : Nat} {c1 : List Value} {b2 t2 : Nat} {c2 : List Value} (E : w.grownBy w' none) (h0 : Bx w b0 t0 c0) (h1 : Bx w b1 t1 c1) (h2 : Bx w b2 t2 c2) : Bx w' b0 t0 c0 ∧ Bx w' b1 t1 c1 ∧ Bx w' b2 t2 c2 := ⟨h0.keep0 E, h1.keep0 E, h2.keep0 E⟩
theorem kb4 {w w' : World} {b0 t0 : Nat} {c0 : List Value} {b1 t1 : Nat} {c1 : List Value} {b2 t2 : Nat} {c2 : List Value} {b3 t3 : Nat} {c3 : List Value} (E : w.grownBy w' none) (h0 : Bx w b0 t0 c0) (h1 : Bx w b1 t1 c1) (h2 : Bx w b2 t2 c2) (h3 : Bx w b3 t3 c3) : Bx w' b0 t0 c0 ∧ Bx w' b1 t1 c1 ∧ Bx w' b2 t2 c2 ∧ Bx w' b3 t3 c3 := ⟨h0.keep0 E, h1.keep0 E, h2.keep0 E, h3.keep0 E⟩
theorem kb5 {w w' : World} {b0 t0 : Nat} {c0 : List Value} {b1 t1 : Nat} {c1 : List Value} {b2 t2 : Nat} {c2 : List Value} {b3 t3 : Nat} {c3 : List Value} {b4 t4 : Nat} {c4 : List Value} (E : w.grownBy w' none) (h0 : Bx w b0 t0 c0) (h1 : Bx w b1 t1 c1) (h2 : Bx w b2 t2 c2) (h3 : Bx w b3 t3 c3) (h4 : Bx w b4 t4 c4) : Bx w' b0 t0 c0 ∧ Bx w' b1 t1 c1 ∧ Bx w' b2 t2 c2 ∧ Bx w' b3 t3 c3 ∧ Bx w' b4 t4 c4 := ⟨h0.keep0 E, h1.keep0 E, h2.keep0 E, h3.keep0 E, h4.keep0 E⟩
theorem kb6 {w w' : World} {b0 t0 : Nat} {c0 : List Value} {b1 t1 : Nat} {c1 : List Value} {b2 t2 : Nat} {c2 : List Value} {b3 t3 : Nat} {c3 : List Value} {b4 t4 : Nat} {c4 : List Value} {b5 t5 : Nat} {c5 : List Value} (E : w.grownBy w' none) (h0 : Bx w b0 t0 c0) (h1 : Bx w b1 t1 c1) (h2 : Bx w b2 t2 c2) (h3 : Bx w b3 t3 c3) (h4 : Bx w b4 t4 c4) (h5 : Bx w b5 t5 c5) : Bx w' b0 t0 c0 ∧ Bx w' b1 t1 c1 ∧ Bx w' b2 t2 c2 ∧ Bx w' b3 t3 c3 ∧ Bx w' b4 t4 c4 ∧ Bx w' b5 t5 c5 := ⟨h0.keep0 E, h1.keep0 E, h2.keep0 E, h3.keep0 E, h4.keep0 E, h5.keep0 E⟩
theorem zx {p : Prop} (h : p := by omega) : p := h
theorem zy {p : Prop} (h : p := by kernel_rfl) : p := h
theorem zz {p : Prop} (h : p := by decide) : p := h
open Go.RowKit in
theorem yE {w w1 w2 : World} (h : Below w.heap.size w w1) (E : w1.grownBy w2 none) : Below w.heap.size w w2 ∧ w1.heap.size ≤ w2.heap.size := ⟨below_step0 h E h.size, E.size⟩
theorem yG {w w1 w2 : World} {F : Nat → Prop} (h : Gr w w1 F) (E : w1.grownBy w2 none) : Gr w w2 F ∧ w1.heap.size ≤ w2.heap.size := ⟨h.step0 E, E.size⟩
theorem yA : type_of% @List.all_cons := @List.all_cons
theorem yB : type_of% @List.all_nil := @List.all_nil
theorem yC : type_of% @Bool.true_and := @Bool.true_and
theorem yD : type_of% @Bool.and_true := @Bool.and_true
theorem zA : type_of% @ev_hit := @ev_hit
theorem zB : type_of% @reg_nil := @reg_nil
theorem zC : type_of% @ev_base := @ev_base
theorem zD : type_of% @op_assign := @op_assign
theorem zE {α : Type} {a b : α} (h : some a = some b) : a = b := Option.some.inj h
theorem zF : type_of% @seq_any := @seq_any
theorem zG : type_of% @op_move := @op_move
theorem zH : type_of% @one_reg := @one_reg
theorem zI : type_of% @Nat.le_of_ble_eq_true := @Nat.le_of_ble_eq_true
theorem zL : type_of% @sl_base := @sl_base
theorem zM : type_of% @op_field := @op_field
theorem zN : type_of% @op_load1 := @op_load1
theorem zO : type_of% @then_ret := @then_ret
theorem zP : type_of% @below_step0 := @below_step0
theorem zQ : type_of% @grown_of_below := @grown_of_below
theorem zR : type_of% @g_false := @g_false
theorem zS : type_of% @g_true := @g_true
theorem zU : type_of% @sl_hit := @sl_hit
theorem zW : type_of% @op_extract := @op_extract
theorem zX : type_of% @op_loadA := @op_loadA
theorem zY : type_of% @op_loadB := @op_loadB
theorem zZ : type_of% @op_storeA := @op_storeA
theorem za : type_of% @op_store := @op_store
theorem zb : type_of% @blk_ret := @blk_ret
theorem zc : type_of% @op_pick_t := @op_pick_t
theorem zd : type_of% @op_pick_f := @op_pick_f
theorem ze : type_of% @op_fn := @op_fn
theorem zf : type_of% @op_build := @op_build
theorem zg : type_of% @loop_next := @loop_next
theorem zh : type_of% @op_index_rd := @op_index_rd
theorem zi : type_of% @Gr.of0 := @Gr.of0
theorem zj : type_of% @op_fnc := @op_fnc
end Go.Gx

namespace Go.Proofs.Ytdhpalioifjfbaa
open Go.Gx Go.RowKit
attribute [local irreducible] wpList wpStill Code.wp Calls

theorem num_ret (bs : By) (vb : Value) (base p : Nat) (w : World) (hl : bs.length = 256) (hx : Bx w p 50 [vb]) (O : Own w base 5 1 vb 256 (bs.map u8v)) (k : Nat) (hk : k + 1 < 256) : Ret Try.prog 52 #[(ptr p 0), (.int .i64 ((k : Nat) : Int))] w (fun v' w' => Below w.heap.size w w' ∧ v' = .int .i64 (numB bs k : Int)) := by
 have hb := Below.refl w.heap.size w
 refine enter (N := 24) Try.func52 rfl rfl (by simp) fun a hN hd hA => ?_
 have b : a.tmps.getD 0 undef = (ptr p 0) := hA 0 (by simp)
 have c : a.tmps.getD 1 undef = (.int .i64 ((k : Nat) : Int)) := hA 1 (by simp)
 clear hA
 refine zF fun _ a => zH (zD rfl (zB (a _ _ (zF fun _ a => reg_still mixed zy ?_))))
 intro e d
 obtain ⟨hb, _⟩ := yE hb d
 have hx := hx.keep0 d
 have O := O.keep0 d
 refine st_step rfl (fun _ d => zG (zC hN rfl b) d) (st_step rfl (fun _ d => op_nil (zA hN rfl) d) (st_step rfl (fun _ d => zM fld50_0 (zA hN rfl) d) (st_step rfl (fun _ d => zN one22 (zA hN rfl) (hx.cell rfl) d) (st_step rfl (fun _ d => zG (zC hN rfl c) d) (st_index_rd slt22 (zA hN rfl) O.rdw (zA hN rfl) zx zx ?_)))))
 intro j g f h e
 refine st_step rfl (fun _ d => zN (v := (Value.int .u8 ((bs.getD k 0).toNat : Int))) one5 (zA hN rfl) (by have := e 0 (.int .u8 ((bs.getD k 0).toNat : Int)) zz (el_u8 (i := k) zx zx); simpa using this) d) (st_step rfl (fun _ d => op_conv (r := ((bs.getD k 0).toNat : Int)) (zA hN rfl) us5 Try.underlying3 (wrap_i64 (by have := ((bs.getD k 0)).toNat_lt; omega)) d) (st_step rfl (fun _ d => op_shl (r := (((bs.getD k 0).toNat : Int) * 256)) (zA hN rfl) rfl zz (shl8i (by have := (bs.getD k 0).toNat_lt; omega)) d) (st_step rfl (fun _ d => zG (zC hN rfl b) d) (st_step rfl (fun _ d => op_nil (zA hN rfl) d) (st_step rfl (fun _ d => zM fld50_0 (zA hN rfl) d) (st_step rfl (fun _ d => zN one22 (zA hN rfl) (hx.cell rfl) d) (st_step rfl (fun _ d => zG (zC hN rfl c) d) (st_step rfl (fun _ d => op_add (zA hN rfl) rfl (add64 zx) d) (st_index_rd slt22 (zA hN rfl) O.rdw (zA hN rfl) zx zx ?_)))))))))
 intro e f g c b
 refine st_step rfl (fun _ d => zN (v := (Value.int .u8 ((bs.getD (k + 1) 0).toNat : Int))) one5 (zA hN rfl) (by have := b 0 (.int .u8 ((bs.getD (k + 1) 0).toNat : Int)) zz (el_u8 (i := (k + 1)) zx zx); simpa using this) d) (st_step rfl (fun _ d => op_conv (r := ((bs.getD (k + 1) 0).toNat : Int)) (zA hN rfl) us5 Try.underlying3 (wrap_i64 (by have := ((bs.getD (k + 1) 0)).toNat_lt; omega)) d) (st_step rfl (fun _ d => op_or (r := ((numB bs k : Nat) : Int)) (zA hN rfl) (zA hN rfl) (or8i (bs.getD k 0).toNat_lt (bs.getD (k + 1) 0).toNat_lt) d) (st_step rfl (fun _ d => zD (zA hN rfl) d) (st_nil (a _ _ (wp_ret (ret1 rfl hd (zA hN rfl) ⟨_, rfl, ?_⟩)))))))
 exact ⟨hb, rfl⟩

theorem set_ret (bs : By) (vb : Value) (base p : Nat) (w : World) (hl : bs.length = 256) (hx : Bx w p 50 [vb]) (O : Own w base 5 1 vb 256 (bs.map u8v)) (k n : Nat) (hk : k + 1 < 256) (hn : n < 65536) : Ret Try.prog 42 #[(ptr p 0), (.int .i64 ((k : Nat) : Int)), (.int .i64 ((n : Nat) : Int))] w (fun v' w' => w.grownBy w' vb.ownBlock ∧ v' = .tuple #[] ∧ Own w' base 5 1 vb 256 ((setB bs k n).map u8v)) := by
 have hb := grown_refl w vb.ownBlock
 refine enter (N := 24) Try.func42 rfl rfl (by simp) fun a hN hd hA => ?_
 have b : a.tmps.getD 0 undef = (ptr p 0) := hA 0 (by simp)
 have c : a.tmps.getD 1 undef = (.int .i64 ((k : Nat) : Int)) := hA 1 (by simp)
 have d : a.tmps.getD 2 undef = (.int .i64 ((n : Nat) : Int)) := hA 2 (by simp)
 clear hA
 refine reg_mid (e := 5) (sz := 1) (base := base) (n := 256) (v := vb) (Φ := phiL [(fun uz _ => uz = (ptr p 0)), (fun uz _ => uz = (ptr p 0)), (fun uz _ => uz = (ptr p 0)), (fun uz _ => uz = vb), (fun uz _ => uz = (.int .i64 ((k : Nat) : Int))), (fun uz _ => uz = (ptr p 0)), (fun uz _ => uz = (ptr p 0)), (fun uz _ => uz = (ptr p 0)), (fun uz _ => uz = vb), (fun uz _ => uz = (.int .i64 ((k : Nat) : Int))), (fun uz _ => uz = (.int .i64 (((k : Nat) : Int) + 1))), (fun uz _ => uz = (.int .i64 ((n : Nat) : Int))), (fun uz _ => uz = (.int .i64 ((n / 2 ^ 8 : Nat) : Int))), (fun uz _ => uz = (.int .u8 ((UInt8.ofNat (n / 2 ^ 8)).toNat : Int))), (fun uz _ => uz = (.int .i64 ((n : Nat) : Int))), (fun uz _ => uz = (.int .u8 ((UInt8.ofNat n).toNat : Int))), (fun uz _ => ∃ bz oz, uz = ptr bz oz ∧ AtV vb k bz oz), (fun _ _ => True), (fun uz _ => ∃ bz oz, uz = ptr bz oz ∧ AtV vb (k + 1) bz oz), (fun _ _ => True)]) [17, 19] [(bs.map u8v), ((bs.set k (UInt8.ofNat (n / 2 ^ 8))).map u8v), (((bs.set k (UInt8.ofNat (n / 2 ^ 8))).set (k + 1) (UInt8.ofNat n)).map u8v)] mixed zy zy zy zy hN O (StL.get (StL.eq (StL.eq (StL.eq (StL.eq (StL.eq (StL.eq (StL.eq (StL.eq (StL.eq (StL.eq (StL.eq (StL.eq (StL.eq (StL.eq (StL.eq (StL.eq (StL.at (StL.cons (fun _ _ _ _ h => h) (StL.at (StL.cons (fun _ _ _ _ h => h) (StL.nil _)))))))))))))))))))))) (ObRs.get (ObRs.cons ?_ (ObRs.cons ?_ (ObRs.cons ?_ (ObRs.cons ?_ (ObRs.cons ?_ (ObRs.cons ?_ (ObRs.cons ?_ (ObRs.cons ?_ (ObRs.cons ?_ (ObRs.cons ?_ (ObRs.cons ?_ (ObRs.cons ?_ (ObRs.cons ?_ (ObRs.cons ?_ (ObRs.cons ?_ (ObRs.cons ?_ (ObRs.cons ?_ (ObRs.pass rfl (ObRs.cons ?_ (ObRs.pass rfl (ObRs.nil)))))))))))))))))))))) (ObWs.get (ObWs.cons ?_ (ObWs.cons ?_ (ObWs.nil)))) ?_
 ·
  intro aA wA cA hNA hRA hckA hOA hbsA hdpA
  have a := (hbsA 0 rfl).trans (zL hN rfl b)
  clear hbsA hdpA
  refine zG (zC hNA rfl a) ?_
  exact obR_end rfl rfl (grown_refl _ _)
 ·
  intro aA wA cA hNA hRA hckA hOA hbsA hdpA
  have f : Sl aA 6 (ptr p 0) := hdpA 0 _ 6 zy rfl rfl
  clear hbsA hdpA
  refine op_nil (zC hNA rfl f) ?_
  exact obR_end rfl rfl (grown_refl _ _)
 ·
  intro aA wA cA hNA hRA hckA hOA hbsA hdpA
  have f : Sl aA 7 (ptr p 0) := hdpA 1 _ 7 zy rfl rfl
  clear hbsA hdpA
  refine zM fld50_0 (zC hNA rfl f) ?_
  exact obR_end rfl rfl (grown_refl _ _)
 ·
  intro aA wA cA hNA hRA hckA hOA hbsA hdpA
  have f : Sl aA 8 (ptr p 0) := hdpA 2 _ 8 zy rfl rfl
  clear hbsA hdpA
  have hx := hx.keepO O hRA zz
  refine zN one22 (zC hNA rfl f) (hx.cell rfl) ?_
  exact obR_end rfl rfl (grown_refl _ _)
 ·
  intro aA wA cA hNA hRA hckA hOA hbsA hdpA
  have f := (hbsA 1 rfl).trans (zL hN rfl c)
  clear hbsA hdpA
  refine zG (zC hNA rfl f) ?_
  exact obR_end rfl rfl (grown_refl _ _)
 ·
  intro aA wA cA hNA hRA hckA hOA hbsA hdpA
  have a := (hbsA 0 rfl).trans (zL hN rfl b)
  clear hbsA hdpA
  refine zG (zC hNA rfl a) ?_
  exact obR_end rfl rfl (grown_refl _ _)
 ·
  intro aA wA cA hNA hRA hckA hOA hbsA hdpA
  have a : Sl aA 11 (ptr p 0) := hdpA 5 _ 11 zy rfl rfl
  clear hbsA hdpA
  refine op_nil (zC hNA rfl a) ?_
  exact obR_end rfl rfl (grown_refl _ _)
 ·
  intro aA wA cA hNA hRA hckA hOA hbsA hdpA
  have a : Sl aA 12 (ptr p 0) := hdpA 6 _ 12 zy rfl rfl
  clear hbsA hdpA
  refine zM fld50_0 (zC hNA rfl a) ?_
  exact obR_end rfl rfl (grown_refl _ _)
 ·
  intro aA wA cA hNA hRA hckA hOA hbsA hdpA
  have a : Sl aA 13 (ptr p 0) := hdpA 7 _ 13 zy rfl rfl
  clear hbsA hdpA
  have hx := hx.keepO O hRA zz
  refine zN one22 (zC hNA rfl a) (hx.cell rfl) ?_
  exact obR_end rfl rfl (grown_refl _ _)
 ·
  intro aA wA cA hNA hRA hckA hOA hbsA hdpA
  have f := (hbsA 1 rfl).trans (zL hN rfl c)
  clear hbsA hdpA
  refine zG (zC hNA rfl f) ?_
  exact obR_end rfl rfl (grown_refl _ _)
 ·
  intro aA wA cA hNA hRA hckA hOA hbsA hdpA
  have a : Sl aA 15 (.int .i64 ((k : Nat) : Int)) := hdpA 9 _ 15 zy rfl rfl
  clear hbsA hdpA
  refine op_add (zC hNA rfl a) rfl (add64 zx) ?_
  exact obR_end rfl rfl (grown_refl _ _)
 ·
  intro aA wA cA hNA hRA hckA hOA hbsA hdpA
  have a := (hbsA 2 rfl).trans (zL hN rfl d)
  clear hbsA hdpA
  refine zG (zC hNA rfl a) ?_
  exact obR_end rfl rfl (grown_refl _ _)
 ·
  intro aA wA cA hNA hRA hckA hOA hbsA hdpA
  have b : Sl aA 17 (.int .i64 ((n : Nat) : Int)) := hdpA 11 _ 17 zy rfl rfl
  clear hbsA hdpA
  refine op_shr (r := ((n / 2 ^ 8 : Nat) : Int)) (zC hNA rfl b) rfl zz (shr_nat rfl zz) ?_
  exact obR_end rfl rfl (grown_refl _ _)
 ·
  intro aA wA cA hNA hRA hckA hOA hbsA hdpA
  have b : Sl aA 18 (.int .i64 ((n / 2 ^ 8 : Nat) : Int)) := hdpA 12 _ 18 zy rfl rfl
  clear hbsA hdpA
  refine op_conv (r := ((UInt8.ofNat (n / 2 ^ 8)).toNat : Int)) (zC hNA rfl b) us3 Try.underlying5 conv_u8 ?_
  exact obR_end rfl rfl (grown_refl _ _)
 ·
  intro aA wA cA hNA hRA hckA hOA hbsA hdpA
  have a := (hbsA 2 rfl).trans (zL hN rfl d)
  clear hbsA hdpA
  refine zG (zC hNA rfl a) ?_
  exact obR_end rfl rfl (grown_refl _ _)
 ·
  intro aA wA cA hNA hRA hckA hOA hbsA hdpA
  have a : Sl aA 20 (.int .i64 ((n : Nat) : Int)) := hdpA 14 _ 20 zy rfl rfl
  clear hbsA hdpA
  refine op_conv (r := ((UInt8.ofNat n).toNat : Int)) (zC hNA rfl a) us3 Try.underlying5 conv_u8 ?_
  exact obR_end rfl rfl (grown_refl _ _)
 ·
  intro aA wA cA hNA hRA hckA hOA hbsA hdpA
  have a : Sl aA 9 vb := hdpA 3 _ 9 zy rfl rfl
  have b : Sl aA 10 (.int .i64 ((k : Nat) : Int)) := hdpA 4 _ 10 zy rfl rfl
  clear hbsA hdpA
  refine op_index_own (i := k) slt22 (zC hNA rfl a) hOA (zC hNA rfl b) zx zx ?_
  intro b_ o_ _ hA_
  exact obR_end rfl ⟨b_, o_, rfl, by simpa using hA_⟩ (grown_refl _ _)
 ·
  intro aA wA cA hNA hRA hckA hOA hbsA hdpA
  have a : Sl aA 14 vb := hdpA 8 _ 14 zy rfl rfl
  have b : Sl aA 16 (.int .i64 (((k : Nat) : Int) + 1)) := hdpA 10 _ 16 zy rfl rfl
  clear hbsA hdpA
  refine op_index_own (i := (k + 1)) slt22 (zC hNA rfl a) hOA (zC hNA rfl b) zx zx ?_
  intro b_ o_ _ hA_
  exact obR_end rfl ⟨b_, o_, rfl, by simpa using hA_⟩ (grown_refl _ _)
 ·
  intro o_ ho_; obtain rfl := zE ho_; intro aA wA hNA hRA hbsA hdpA hOA
  obtain ⟨c, d, a, b⟩ := hdpA 16 _ 22 zy rfl rfl
  have c : Sl aA 19 (.int .u8 ((UInt8.ofNat (n / 2 ^ 8)).toNat : Int)) := hdpA 13 _ 19 zy rfl rfl
  clear hbsA hdpA
  have hOA : Own wA base 5 1 vb 256 (bs.map u8v) := hOA
  refine op_store_own (vs := [(.int .u8 ((UInt8.ofNat (n / 2 ^ 8)).toNat : Int))]) size5 (zC hNA rfl a) (zC hNA rfl c) rfl rfl rfl hOA b (by have := hOA.1; simp at this ⊢; omega) ?_
  intro w_ hO_ E_
  exact obW_end rfl (hO_.cast rfl (set_u8 (by first | omega | (simp; omega)))) E_
 ·
  intro o_ ho_; obtain rfl := zE ho_; intro aA wA hNA hRA hbsA hdpA hOA
  obtain ⟨d, c, a, b⟩ := hdpA 18 _ 23 zy rfl rfl
  have c : Sl aA 21 (.int .u8 ((UInt8.ofNat n).toNat : Int)) := hdpA 15 _ 21 zy rfl rfl
  clear hbsA hdpA
  have hOA : Own wA base 5 1 vb 256 ((bs.set k (UInt8.ofNat (n / 2 ^ 8))).map u8v) := hOA
  refine op_store_own (vs := [(.int .u8 ((UInt8.ofNat n).toNat : Int))]) size5 (zC hNA rfl a) (zC hNA rfl c) rfl rfl rfl hOA b (by have := hOA.1; simp at this ⊢; omega) ?_
  intro w_ hO_ E_
  exact obW_end rfl (hO_.cast rfl (set_u8 (by first | omega | (simp; omega)))) E_
 intro j f l b g d a c
 have b := b.trans hd
 clear g d
 have a : Own f base 5 1 vb 256 (((bs.set k (UInt8.ofNat (n / 2 ^ 8))).set (k + 1) (UInt8.ofNat n)).map u8v) := a
 have := c.size
 have hb := grow_stepX hb c rfl
 refine end_ret (ret0 rfl b  ⟨_, rfl, ?_⟩)
 exact ⟨hb, rfl, a⟩

theorem pts_ret (bs : By) (vb : Value) (base p : Nat) (w : World) (hl : bs.length = 256) (hx : Bx w p 50 [vb]) (O : Own w base 5 1 vb 256 (bs.map u8v)) (k a n : Nat) (hk : k < 62) (ha : a < 65536) (hn : n < 65536) : Ret Try.prog 41 #[(ptr p 0), (.int .i64 ((k : Nat) : Int)), (.int .i64 ((a : Nat) : Int)), (.int .i64 ((n : Nat) : Int))] w (fun v' w' => w.grownBy w' vb.ownBlock ∧ v' = .tuple #[] ∧ Own w' base 5 1 vb 256 ((ptsB bs k a n).map u8v)) := by
 have hb := grown_refl w vb.ownBlock
 refine enter (N := 21) Try.func41 rfl rfl (by simp) fun b hN hd hA => ?_
 have c : b.tmps.getD 0 undef = (ptr p 0) := hA 0 (by simp)
 have d : b.tmps.getD 1 undef = (.int .i64 ((k : Nat) : Int)) := hA 1 (by simp)
 have e : b.tmps.getD 2 undef = (.int .i64 ((a : Nat) : Int)) := hA 2 (by simp)
 have f : b.tmps.getD 3 undef = (.int .i64 ((n : Nat) : Int)) := hA 3 (by simp)
 clear hA
 refine zF fun _ b => zH ?_
 refine zG (zC hN rfl c) (zG (zC hN rfl d) (op_mul (zA hN rfl) rfl (mul64 zx) (op_add rfl (zA hN rfl) (add64 zx) (zG (zC hN rfl e) (zj ok42 (set_ret bs _ _ _ _ (by first | assumption | exact Rep.len (by assumption)) hx O (8 + (k * 4)) a zx zx) ⟨(zA hN rfl), ⟨(zA hN rfl), ⟨(zA hN rfl), trivial⟩⟩⟩ ?_)))))
 rintro _ h ⟨e, rfl, g⟩
 have := e.size
 have hx := hx.keepO O e zz
 have hb := grow_stepX hb e rfl
 have e : (setB bs (8 + (k * 4)) a).length = 256 := (setB_len _ _ _).trans (by first | assumption | exact Rep.len (by assumption))
 refine zB (b _ _ (zH (zG (zC hN rfl c) ?_)))
 refine zG (zC hN rfl d) (op_mul (zA hN rfl) rfl (mul64 zx) (op_add rfl (zA hN rfl) (add64 zx) (op_add (zA hN rfl) rfl (add64 zx) (zG (zC hN rfl f) (zj ok42 (set_ret (setB bs (8 + (k * 4)) a) _ _ _ _ (by first | assumption | exact Rep.len (by assumption)) hx g ((8 + (k * 4)) + 2) n zx zx) ⟨(zA hN rfl), ⟨(zA hN rfl), ⟨(zA hN rfl), trivial⟩⟩⟩ ?_)))))
 rintro _ d ⟨b, rfl, c⟩
 have := b.size
 have hb := grow_stepX hb b rfl
 have b : (setB (setB bs (8 + (k * 4)) a) ((8 + (k * 4)) + 2) n).length = 256 := (setB_len _ _ _).trans (by first | assumption | exact Rep.len (by assumption))
 refine zB (end_ret (ret0 rfl hd  ⟨_, rfl, ?_⟩))
 exact ⟨hb, rfl, c⟩

theorem many_ret (bs : By) (vb : Value) (base p : Nat) (w : World) (hl : bs.length = 256) (hx : Bx w p 50 [vb]) (O : Own w base 5 1 vb 256 (bs.map u8v)) (L : List By) (R : Rep bs L) : Ret Try.prog 37 #[(ptr p 0)] w (fun v' w' => Below w.heap.size w w' ∧ v' = .int .i64 (L.length : Int)) := by
 have hb := Below.refl w.heap.size w
 refine enter (N := 5) Try.func37 rfl rfl (by simp) fun a hN hd hA => ?_
 have b : a.tmps.getD 0 undef = (ptr p 0) := hA 0 (by simp)
 clear hA
 refine zF fun _ a => zH ?_
 refine zD rfl (zB (a _ _ (zF fun _ a => zH (zG (zC hN rfl b) (zj ok52 (num_ret bs _ _ _ _ (by first | assumption | exact Rep.len (by assumption)) hx O 0 zx) ⟨(zA hN rfl), ⟨rfl, trivial⟩⟩ ?_)))))
 rintro _ c ⟨b, rfl⟩
 have b := zQ b
 obtain ⟨hb, _⟩ := yE hb b
 refine zD (zA hN rfl) (zB (a _ _ (wp_ret (ret1 rfl hd (zA hN rfl) ⟨_, rfl, ?_⟩))))
 exact ⟨hb, by rw [R.many]⟩

theorem at_ret (bs : By) (vb : Value) (base p : Nat) (w : World) (hl : bs.length = 256) (hx : Bx w p 50 [vb]) (O : Own w base 5 1 vb 256 (bs.map u8v)) (k : Nat) (hk : k < 62) : Ret Try.prog 43 #[(ptr p 0), (.int .i64 ((k : Nat) : Int))] w (fun v' w' => Below w.heap.size w w' ∧ v' = .int .i64 (numB bs (8 + k * 4) : Int)) := by
 have hb := Below.refl w.heap.size w
 refine enter (N := 10) Try.func43 rfl rfl (by simp) fun a hN hd hA => ?_
 have b : a.tmps.getD 0 undef = (ptr p 0) := hA 0 (by simp)
 have c : a.tmps.getD 1 undef = (.int .i64 ((k : Nat) : Int)) := hA 1 (by simp)
 clear hA
 refine zF fun _ a => zH (zD rfl (zB (a _ _ (zF fun _ a => ?_))))
 refine zH (zG (zC hN rfl b) (zG (zC hN rfl c) (op_mul (zA hN rfl) rfl (mul64 zx) (op_add rfl (zA hN rfl) (add64 zx) (zj ok52 (num_ret bs _ _ _ _ (by first | assumption | exact Rep.len (by assumption)) hx O (8 + (k * 4)) zx) ⟨(zA hN rfl), ⟨(zA hN rfl), trivial⟩⟩ ?_)))))
 rintro _ c ⟨b, rfl⟩
 have b := zQ b
 obtain ⟨hb, _⟩ := yE hb b
 refine zD (zA hN rfl) (zB (a _ _ (wp_ret (ret1 rfl hd (zA hN rfl) ⟨_, rfl, ?_⟩))))
 exact ⟨hb, rfl⟩

theorem size_ret (bs : By) (vb : Value) (base p : Nat) (w : World) (hl : bs.length = 256) (hx : Bx w p 50 [vb]) (O : Own w base 5 1 vb 256 (bs.map u8v)) (L : List By) (R : Rep bs L) (s : Int) (hs : -9223372036854775808 ≤ s ∧ s ≤ 9223372036854775807) : Ret Try.prog 38 #[(ptr p 0), (.int .i64 s)] w (fun v' w' => Below w.heap.size w w' ∧ v' = .int .i64 (sizeL L s : Int)) := by
 have hb := Below.refl w.heap.size w
 refine enter (N := 19) Try.func38 rfl rfl (by simp) fun a hN hd hA => ?_
 have c : a.tmps.getD 0 undef = (ptr p 0) := hA 0 (by simp)
 have d : a.tmps.getD 1 undef = (.int .i64 s) := hA 1 (by simp)
 clear hA
 refine zF fun _ e => zH (zD rfl (zB (e _ _ (zF fun _ e => zF fun _ a => zH (zG (zC hN rfl d) (op_lss (zA hN rfl) rfl (fun f => ?_) (fun f => ?_)))))))
 ·
  refine zG (zA hN rfl) (zR (j := 2) (dj := 7) (b := false) rfl rfl rfl (zA hN rfl) rfl rfl (zR (j := 2) (dj := 7) (b := false) rfl rfl rfl (zA hN rfl) rfl rfl ?_))
  refine zR (j := 2) (dj := 7) (b := false) rfl rfl rfl (zA hN rfl) rfl rfl (zR (j := 2) (dj := 7) (b := false) rfl rfl rfl (zA hN rfl) rfl rfl (zc (zA hN rfl) rfl (zB (a _ _ (wp_cond_true (zA hN rfl) (zF fun _ a => zH (zD rfl (zB (a _ _ (wp_ret (zO ( (ret1 rfl hd (zA hN rfl) ⟨_, rfl, ?_⟩)))))))))))))
  exact ⟨hb, congrArg (Value.int .i64) (by rw [sizeL_out zx]; rfl)⟩
 refine zG (zA hN rfl) ?_
 refine zS (j := 2) (dj := 7) (b := false) rfl rfl rfl (zA hN rfl) (zG (zC hN rfl d) (zS (j := 2) (dj := 7) (b := false) rfl rfl rfl (zA hN rfl) (zG (zC hN rfl c) (zS (j := 2) (dj := 7) (b := false) rfl rfl rfl (zA hN rfl) (zj ok37 (many_ret bs _ _ _ _ (by first | assumption | exact Rep.len (by assumption)) hx O L R) ⟨(zA hN rfl), trivial⟩ ?_)))))
 rintro _ g ⟨f, rfl⟩
 have f := zQ f
 obtain ⟨hb, _⟩ := yE hb f
 have hx := hx.keep0 f
 have O := O.keep0 f
 have f := Rep.fits R
 refine zS (j := 2) (dj := 7) (b := false) rfl rfl rfl (zA hN rfl) (op_geq (zA hN rfl) (zA hN rfl) (fun f => ?_) (fun f => ?_))
 ·
  refine zd (zA hN rfl) (zA hN rfl) (zB (a _ _ (wp_cond_true (zA hN rfl) (zF fun _ a => zH (zD rfl (zB (a _ _ (wp_ret (zO ( (ret1 rfl hd (zA hN rfl) ⟨_, rfl, ?_⟩)))))))))))
  exact ⟨hb, congrArg (Value.int .i64) (by rw [sizeL_out zx]; rfl)⟩
 refine zd (zA hN rfl) (zA hN rfl) (zB (a _ _ (wp_cond_false (zA hN rfl) (wp_skip (e _ _ (zF fun _ e => zH ?_))))))
 refine zG (zC hN rfl c) (zG ((zC hN rfl d).trans (congrArg (Value.int .i64) (show _ = ((s.toNat : Nat) : Int) by omega))) (op_mul (zA hN rfl) rfl (mul64 zx) (op_add rfl (zA hN rfl) (add64 zx) (op_add (zA hN rfl) rfl (add64 zx) (zj ok52 (num_ret bs _ _ _ _ (by first | assumption | exact Rep.len (by assumption)) hx O ((8 + (s.toNat * 4)) + 2) zx) ⟨(zA hN rfl), ⟨(zA hN rfl), trivial⟩⟩ ?_)))))
 rintro _ c ⟨a, rfl⟩
 have a := zQ a
 obtain ⟨hb, _⟩ := yE hb a
 refine zD (zA hN rfl) (zB (e _ _ (wp_ret (ret1 rfl hd (zA hN rfl) ⟨_, rfl, ?_⟩))))
 exact ⟨hb, congrArg (Value.int .i64) (by rw [R.size zx]; unfold sizeL; rw [if_neg zx])⟩

theorem left_ret (bs : By) (vb : Value) (base p : Nat) (w : World) (hl : bs.length = 256) (hx : Bx w p 50 [vb]) (O : Own w base 5 1 vb 256 (bs.map u8v)) (L : List By) (R : Rep bs L) (m : Nat) (hm : m ≤ 1000) : Ret Try.prog 39 #[(ptr p 0), (.int .i64 ((m : Nat) : Int))] w (fun v' w' => Below w.heap.size w w' ∧ v' = .int .i64 (leftL L m)) := by
 have hb := Below.refl w.heap.size w
 refine enter (N := 22) Try.func39 rfl rfl (by simp) fun a hN hd hA => ?_
 have b : a.tmps.getD 0 undef = (ptr p 0) := hA 0 (by simp)
 have c : a.tmps.getD 1 undef = (.int .i64 ((m : Nat) : Int)) := hA 1 (by simp)
 clear hA
 refine zF fun _ a => zH (zD rfl (zB (a _ _ (zF fun _ a => zH (zG (zC hN rfl c) (op_mul (zA hN rfl) rfl (mul64 zx) (op_sub rfl (zA hN rfl) (sub64 zx) (zD (zA hN rfl) ?_))))))))
 refine zB (a _ _ (zF fun _ a => zF fun _ c => zH (zG (zC hN rfl b) (zj ok37 (many_ret bs _ _ _ _ (by first | assumption | exact Rep.len (by assumption)) hx O L R) ⟨(zA hN rfl), trivial⟩ ?_))))
 rintro _ e ⟨d, rfl⟩
 have d := zQ d
 obtain ⟨hb, _⟩ := yE hb d
 have hx := hx.keep0 d
 have O := O.keep0 d
 have d := Rep.fits R
 refine zG rfl (zB (c _ _ (wp_block (loop_m (fun mz_ az_ w' => ∃ (s : Nat), mz_ = L.length - s ∧ (Sl az_ 0 (ptr p 0)) ∧ (Sl az_ 4 (.int .i64 0)) ∧ (Sl az_ 11 (.int .i64 ((L.length : Nat) : Int))) ∧ (Sl az_ 12 (.int .i64 ((s : Nat) : Int))) ∧ (Sl az_ 5 (.int .i64 (248 - ((m : Nat) : Int) * 4 - ((sumL (L.take s) : Nat) : Int)))) ∧ (s ≤ L.length) ∧ (Below w.heap.size w w') ∧ (e.heap.size ≤ w'.heap.size) ∧ (Bx w' p 50 [vb]) ∧ (Own w' base 5 1 vb 256 (bs.map u8v))) _ hN hd ⟨0, rfl, (zL hN rfl b), (zU hN rfl), (zU hN rfl), (zU hN rfl), (zU hN rfl).trans (congrArg (Value.int .i64) (by rw [List.take_zero, show sumL [] = 0 from rfl]; omega)), Nat.zero_le _, hb, (Nat.le_refl _), hx, O⟩ ?_))))
 rintro _ l n b f ⟨s, rfl, h, j, g, d, e, hs, hb, k, hx, O⟩
 have := hb.size
 refine zF fun _ c => zH (op_lss (zC b rfl d) (zC b rfl g) (fun k => ?_) (fun k => ?_))
 ·
  refine zB (c _ _ (zF fun _ c => wp_cond_true (zA b rfl) (wp_skip (c _ _ (zF fun _ c => wp_block (zF fun _ k => zH (zG (zC b rfl d) (zD (zA b rfl) (zB (k _ _ (zH ?_)))))))))))
  have hts := sumL_take_le L s
  have k := R.sum
  refine zG (zC b rfl e) (zG (zC b rfl h) (zG (zA b rfl) (zj ok38 (size_ret bs _ _ _ _ (by first | assumption | exact Rep.len (by assumption)) hx O L R ((s : Nat) : Int) zx) ⟨(zA b rfl), ⟨(zA b rfl), trivial⟩⟩ ?_)))
  rintro _ l ⟨k, rfl⟩
  have k := zQ k
  obtain ⟨hb, _⟩ := yE hb k
  have hx := hx.keep0 k
  have O := O.keep0 k
  have k := sizeL_le R ((s : Nat) : Int)
  refine op_sub (zA b rfl) (zA b rfl) (sub64 zx) (zD (zA b rfl) (zB (c _ _ (zH (op_add (zC b rfl d) rfl (add64 zx) (zG (zA b rfl) (zB ?_)))))))
  -- round 13T
  have hst := sumL_step (L := L) (i := s) zx
  have hsi := sizeL_in (L := L) (s := s) zx
  exact zg _ b f ⟨s + 1, rfl, (zL b rfl h), (zL b rfl j), (zL b rfl g), (zU b rfl).trans (congrArg (Value.int .i64) zx), (zU b rfl).trans (congrArg (Value.int .i64) zx), zx, hb, zx, hx, O⟩ zx
 refine zB (c _ _ (zF fun _ c => wp_cond_false (zA b rfl) (wp_exit (then_exit (then_exit (blk_hit (a _ _ (zF fun _ a => zH (zG (zC b rfl e) (zD (zA b rfl) (zB (a _ _ (wp_ret (ret1 rfl f (zA b rfl) ⟨_, rfl, ?_⟩))))))))))))))
 exact ⟨hb, congrArg (Value.int .i64) (by rw [List.take_of_length_le zx]; rfl)⟩

theorem ready0_ret (vb : Value) (base p : Nat) (w : World) (hx : Bx w p 50 [vb]) (O : Own w base 5 1 vb 0 []) : Ret Try.prog 36 #[(ptr p 0)] w (fun v' w' => w.grownBy w' (some p) ∧ v' = .tuple #[] ∧ ∃ u, Bx w' p 50 [u] ∧ Own w' w.heap.size 5 1 u 256 (newB.map u8v)) := by
 have hb := grown_refl w (some p)
 refine enter (N := 14) Try.func36 rfl rfl (by simp) fun a hN hd hA => ?_
 have b : a.tmps.getD 0 undef = (ptr p 0) := hA 0 (by simp)
 clear hA
 refine zF fun _ a => ?_
 refine zH (zG (zC hN rfl b) (op_nil (zA hN rfl) (zM fld50_0 (zA hN rfl) (zN one22 (zA hN rfl) (hx.cell rfl) (op_len_rd Try.underlying22 (zA hN rfl) O.rdw (op_bin (v := .bool true) (zA hN rfl) rfl (by rw [binOp_eql]; rfl) (zB (a _ _ (wp_cond_true (zA hN rfl) (zF fun _ a => zH (zG (zC hN rfl b) (op_make (n := 256) (y' := .const undef) slt22 rfl rfl rfl zx zx hb.size ?_))))))))))))
 intro d f c e g
 have := e.size
 have hx := hx.keep0 e
 have hb := grow_step0 hb e
 have c : Own f w.heap.size 5 1 d 256 (((List.replicate 256 0 : By)).map u8v) := by exact c.cast rfl (zeros_u8 _)
 refine op_nil (zA hN rfl) (zM fld50_0 (zA hN rfl) ?_)
 have hx_old := hx
 refine za (vs := [d]) (cs' := [d]) size22 (zA hN rfl) (zA hN rfl) c.cl rfl (by simp only [yA, yB, yC, yD, c.one]; try rfl) hx (zI rfl) rfl ?_
 intro e hx d
 have := d.size
 have c := c.keepX hx_old d zz
 have hb := grown_trans hb d
 refine zB (a _ _ (zH (zG (zC hN rfl b) ?_)))
 have a : (List.replicate 256 0 : By).length = 256 := List.length_replicate
 refine zj ok42 (set_ret (List.replicate 256 0 : By) _ _ _ _ (by first | assumption | exact Rep.len (by assumption)) hx c 2 256 zx zx) ⟨(zA hN rfl), ⟨rfl, ⟨rfl, trivial⟩⟩⟩ ?_
 rintro _ d ⟨a, rfl, b⟩
 have := a.size
 have hx := hx.keepO c a zz
 have hb := grow_stepO hb c a zx
 have a : (setB (List.replicate 256 0 : By) 2 256).length = 256 := (setB_len _ _ _).trans (by first | assumption | exact Rep.len (by assumption))
 refine zB (end_ret (ret0 rfl hd  ⟨_, rfl, ?_⟩))
 exact ⟨hb, rfl, _, hx, b⟩

theorem ready1_ret (bs : By) (vb : Value) (base p : Nat) (w : World) (hl : bs.length = 256) (hx : Bx w p 50 [vb]) (O : Own w base 5 1 vb 256 (bs.map u8v))  : Ret Try.prog 36 #[(ptr p 0)] w (fun v' w' => Below w.heap.size w w' ∧ v' = .tuple #[]) := by
 have hb := Below.refl w.heap.size w
 refine enter (N := 14) Try.func36 rfl rfl (by simp) fun a hN hd hA => ?_
 have b : a.tmps.getD 0 undef = (ptr p 0) := hA 0 (by simp)
 clear hA
 refine zF fun _ a => zH (zG (zC hN rfl b) (op_nil (zA hN rfl) (zM fld50_0 (zA hN rfl) (zN one22 (zA hN rfl) (hx.cell rfl) (op_len_rd Try.underlying22 (zA hN rfl) O.rdw (op_bin (v := .bool false) (zA hN rfl) rfl (by rw [binOp_eql]; rfl) (zB (a _ _ (wp_cond_false (zA hN rfl) (wp_skip (end_ret (ret0 rfl hd  ⟨_, rfl, ?_⟩))))))))))))
 exact ⟨hb, rfl⟩

theorem ready_ret (L : List By) (bs : By) (n : Nat) (vb : Value) (base p : Nat) (w : World) (hbase : base ≤ w.heap.size) (hx : Bx w p 50 [vb]) (O : Own w base 5 1 vb n (bs.map u8v)) (hP : Pg n bs L vb) : Ret Try.prog 36 #[ptr p 0] w (fun v' w' => w.grownBy w' (pgRow p n vb) ∧ v' = .tuple #[] ∧ ∃ u bs', Bx w' p 50 [u] ∧ Own w' base 5 1 u 256 (bs'.map u8v) ∧ Rep bs' L ∧ RowOr u (pgRow p n vb) w.heap.size) := by
  rcases hP with ⟨rfl, rfl, rfl, _⟩ | ⟨rfl, R⟩
  · exact (ready0_ret vb base p w hx O).mono fun v' w' ⟨E, hv, u, hx', O'⟩ => ⟨E, hv, u, newB, hx', O'.mono hbase, Rep.new, .inr fun k hk => (O'.lt k hk).1⟩
  · exact (ready1_ret bs vb base p w R.len hx O).mono fun v' w' ⟨hb, hv⟩ => ⟨grown_any (zQ hb) _, hv, vb, bs, hx.keep0 (zQ hb), O.keep0 (zQ hb), R, .inl rfl⟩

theorem packs_ret (bs : By) (vb : Value) (base p : Nat) (w : World) (hl : bs.length = 256) (hx : Bx w p 50 [vb]) (O : Own w base 5 1 vb 256 (bs.map u8v)) (L : List By) (R : Rep bs L) : Ret Try.prog 53 #[(ptr p 0)] w (fun v' w' => w.grownBy w' vb.ownBlock ∧ v' = .tuple #[] ∧ ∃ bs', Own w' base 5 1 vb 256 (bs'.map u8v) ∧ Rep bs' L ∧ numB bs' 2 + sumL L = 256) := by
 have hvk : ∀ k, vb.ownBlock = some k → k < w.heap.size := fun k hk => (O.lt k hk).2
 have hfit : 8 + L.length * 4 + sumL L ≤ 256 := by have := R.fit; have := R.sum; omega
 have hb := grown_refl w vb.ownBlock
 refine enter (N := 62) Try.func53 rfl rfl (by simp) fun a hN hd hA => ?_
 have b : a.tmps.getD 0 undef = (ptr p 0) := hA 0 (by simp)
 clear hA
 refine zF fun _ a => zH (zD rfl ?_)
 refine zB (a _ _ (zF fun _ a => zF fun _ f => zH (zG (zC hN rfl b) (zj ok37 (many_ret bs _ _ _ _ (by first | assumption | exact Rep.len (by assumption)) hx O L R) ⟨(zA hN rfl), trivial⟩ ?_))))
 rintro _ g ⟨j, rfl⟩
 have j := zQ j
 have := j.size
 have hx := hx.keep0 j
 have O := O.keep0 j
 have hb := grow_step0 hb j
 have j := Rep.fits R
 refine zG rfl (zB (f _ _ (wp_block (loop_m (fun mz_ az_ w' => ∃ (s : Nat) (u : Value) (acc : List ByV), mz_ = L.length - s ∧ (Sl az_ 0 (ptr p 0)) ∧ (Sl az_ 8 (.int .i64 ((L.length : Nat) : Int))) ∧ (Sl az_ 9 (.int .i64 ((s : Nat) : Int))) ∧ (Sl az_ 2 u) ∧ (s ≤ L.length) ∧ (acc.map Prod.snd = L.take s) ∧ (w.grownBy w' vb.ownBlock) ∧ (g.heap.size ≤ w'.heap.size) ∧ (Bx w' p 50 [vb]) ∧ (Own w' base 5 1 vb 256 (bs.map u8v)) ∧ (∀ j ∈ acc, Own w' w.heap.size 5 1 j.1 j.2.length (j.2.map u8v)) ∧ (Own w' w.heap.size 22 1 u s (acc.flatMap (fun j => [j.1])))) _ hN hd ⟨0, _, [], rfl, (zL hN rfl b), (zU hN rfl), (zU hN rfl), (zU hN rfl), Nat.zero_le _, rfl, hb, (Nat.le_refl _), hx, O, (fun j l => absurd l List.not_mem_nil), (Own.nil _ _ _ _)⟩ ?_))))
 rintro _ B b m x ⟨s, u, acc, rfl, q, z, t, y, hs, hacc, hb, A, hx, O, hall, o⟩
 have := hb.size
 refine zF fun _ f => zH (op_lss (zC m rfl t) (zC m rfl z) (fun A => ?_) (fun A => ?_))
 ·
  refine zB (f _ _ (zF fun _ f => wp_cond_true (zA m rfl) (wp_skip (f _ _ (zF fun _ f => wp_block (zF fun _ A => zH (zG (zC m rfl t) (zD (zA m rfl) (zB (A _ _ ?_))))))))))
  have hsi := sizeL_in (L := L) (s := s) zx
  have hrc := (R.recs s zx).2.1
  have hgt := R.get (s := s) zx
  have O_s := O
  refine reg_split (hd := [_, _, _, _, _, _, _, _, _, _, _, _, _, _, _, _, _, _, _]) (tl := _) 19 mixed zy rfl rfl ?_
  refine any_chain (Φ := phiC [(fun _ _ uz _ => uz = u), chP 0, (fun _ _ uz _ => uz = (ptr p 0)), (fun _ _ uz _ => uz = (ptr p 0)), (fun _ _ uz _ => uz = (ptr p 0)), (fun _ _ uz _ => uz = vb), (fun _ _ uz _ => uz = (ptr p 0)), (fun _ _ uz _ => uz = (.int .i64 ((s : Nat) : Int))), (fun _ _ uz _ => uz = (.int .i64 (((numB bs (8 + s * 4)) : Nat) : Int))), (fun _ _ uz _ => uz = (ptr p 0)), (fun _ _ uz _ => uz = (.int .i64 ((s : Nat) : Int))), (fun _ _ uz _ => uz = (.int .i64 (((numB bs (8 + s * 4)) : Nat) : Int))), (fun _ _ uz _ => uz = (ptr p 0)), (fun _ _ uz _ => uz = (.int .i64 ((s : Nat) : Int))), (fun _ _ uz _ => uz = (.int .i64 (((sizeL L ((s : Nat) : Int)) : Nat) : Int))), (fun _ _ uz _ => uz = (.int .i64 ((((numB bs (8 + s * 4)) : Nat) : Int) + (((sizeL L ((s : Nat) : Int)) : Nat) : Int)))), (fun _ vz uz w' => ∃ (J : Value), uz = J ∧ RdC w' base b.heap.size 1 J ((L.getD s []).length) (((L.getD s [])).map u8v) ∧ (b.heap.size ≤ w'.heap.size ∧ ∀ k, vz.ownBlock = some k → b.heap.size ≤ k)), chQ 1, (fun cz vz uz w' => cz = 2 ∧  ∃ (I : Nat), uz = (.slice (some ⟨I, 0, none⟩) 1 1) ∧ b.heap.size ≤ I ∧ Bx w' I 22 [vz] ∧ vz.ownBlock ≠ some I)]) (C := CL [(fun vz w' => Own w' w.heap.size 5 1 vz 0 ([])), (fun vz w' => Own w' w.heap.size 5 1 vz 0 ([])), (fun vz w' => Own w' w.heap.size 5 1 vz (0 + ((L.getD s []).length)) (((L.getD s [])).map u8v))]) ⟨[1, 17], fun c => [62, 13, 29].getD c 62⟩ (.slice none 0 0) zy zy zy zy m (StK.get0 (n := 2) (StK.eq (StK.ch (StK.eq (StK.eq (StK.eq (StK.eq (StK.eq (StK.eq (StK.eq (StK.eq (StK.eq (StK.eq (StK.eq (StK.eq (StK.eq (StK.eq (StK.cons (fun c v u G g E h => by obtain ⟨D, hv, F, B⟩ := h; exact ⟨D, hv, F.keep0 E, ⟨Nat.le_trans B.1 E.size, B.2⟩⟩) (fun c v v' u G g _ E h => by obtain ⟨D, hv, F, B⟩ := h; exact ⟨D, hv, F.keep E.1 (fun k hk => .inr (B.2 k hk)), ⟨Nat.le_trans B.1 E.1.size, ge_step E B.1 B.2⟩⟩) (StK.chq (StK.cons (fun c v u G g E h => by obtain ⟨H, D, hv, K, F, B⟩ := h; exact ⟨H, D, hv, K, F.keep0 E, B⟩) (fun c v v' u G g H E h => absurd h.1 (Nat.ne_of_lt H)) (StK.nil))))))))))))))))))))) (StK.get1 (n := 2) (StK.eq (StK.ch (StK.eq (StK.eq (StK.eq (StK.eq (StK.eq (StK.eq (StK.eq (StK.eq (StK.eq (StK.eq (StK.eq (StK.eq (StK.eq (StK.eq (StK.cons (fun c v u G g E h => by obtain ⟨D, hv, F, B⟩ := h; exact ⟨D, hv, F.keep0 E, ⟨Nat.le_trans B.1 E.size, B.2⟩⟩) (fun c v v' u G g _ E h => by obtain ⟨D, hv, F, B⟩ := h; exact ⟨D, hv, F.keep E.1 (fun k hk => .inr (B.2 k hk)), ⟨Nat.le_trans B.1 E.1.size, ge_step E B.1 B.2⟩⟩) (StK.chq (StK.cons (fun c v u G g E h => by obtain ⟨H, D, hv, K, F, B⟩ := h; exact ⟨H, D, hv, K, F.keep0 E, B⟩) (fun c v v' u G g H E h => absurd h.1 (Nat.ne_of_lt H)) (StK.nil))))))))))))))))))))) (StL2.get0 (StL2.own (StL2.own (StL2.own (StL2.nil))))) (StL2.get1 (StL2.own (StL2.own (StL2.own (StL2.nil))))) (Own.nil b w.heap.size 5 1) (ObLn.get (ObLn.cons ?_ (ObLn.pass rfl (ObLn.cons ?_ (ObLn.cons ?_ (ObLn.cons ?_ (ObLn.cons ?_ (ObLn.cons ?_ (ObLn.cons ?_ (ObLn.cons ?_ (ObLn.cons ?_ (ObLn.cons ?_ (ObLn.cons ?_ (ObLn.cons ?_ (ObLn.cons ?_ (ObLn.cons ?_ (ObLn.cons ?_ (ObLn.cons ?_ (ObLn.pass rfl (ObLn.cons ?_ (ObLn.nil))))))))))))))))))))) (ObLc.get (ObLc.cons ?_ (ObLc.cons ?_ (ObLc.nil)))) ?_
  ·
   intro aA wA ccA cvA hNA hclA hRA hltA hvoA hbsA hdpA
   have g := (hbsA 2 rfl).trans (zL m rfl y)
   refine zG (zC hNA rfl g) ?_
   exact obNc_end rfl rfl (grown_refl _ _)
  ·
   intro aA wA ccA cvA hNA hclA hRA hltA hvoA hbsA hdpA
   have g := (hbsA 0 rfl).trans (zL m rfl q)
   refine zG (zC hNA rfl g) ?_
   exact obNc_end rfl rfl (grown_refl _ _)
  ·
   intro aA wA ccA cvA hNA hclA hRA hltA hvoA hbsA hdpA
   have B : Sl aA 14 (ptr p 0) := hdpA 2 _ 14 zy rfl rfl
   refine op_nil (zC hNA rfl B) ?_
   exact obNc_end rfl rfl (grown_refl _ _)
  ·
   intro aA wA ccA cvA hNA hclA hRA hltA hvoA hbsA hdpA
   have B : Sl aA 15 (ptr p 0) := hdpA 3 _ 15 zy rfl rfl
   refine zM fld50_0 (zC hNA rfl B) ?_
   exact obNc_end rfl rfl (grown_refl _ _)
  ·
   intro aA wA ccA cvA hNA hclA hRA hltA hvoA hbsA hdpA
   have hRA : b.grownBy wA (Value.slice none 0 0).ownBlock := hRA
   have hnil_o := (Own.nil b w.heap.size 5 1)
   have := hRA.size
   have hx := hx.keep0 hRA
   have hall := fun j l => (hall j l).keep0 hRA
   have B : Sl aA 16 (ptr p 0) := hdpA 4 _ 16 zy rfl rfl
   clear hbsA hdpA
   refine zN one22 (zC hNA rfl B) (hx.cell rfl) ?_
   exact obNc_end rfl rfl (grown_refl _ _)
  ·
   intro aA wA ccA cvA hNA hclA hRA hltA hvoA hbsA hdpA
   have g := (hbsA 0 rfl).trans (zL m rfl q)
   refine zG (zC hNA rfl g) ?_
   exact obNc_end rfl rfl (grown_refl _ _)
  ·
   intro aA wA ccA cvA hNA hclA hRA hltA hvoA hbsA hdpA
   have B := (hbsA 3 rfl).trans (zU m rfl)
   refine zG (zC hNA rfl B) ?_
   exact obNc_end rfl rfl (grown_refl _ _)
  ·
   intro aA wA ccA cvA hNA hclA hRA hltA hvoA hbsA hdpA
   have hRA : b.grownBy wA (Value.slice none 0 0).ownBlock := hRA
   have hnil_o := (Own.nil b w.heap.size 5 1)
   have := hRA.size
   have hx := hx.keep0 hRA
   have O := O.keep0 hRA
   have hall := fun j l => (hall j l).keep0 hRA
   have D : Sl aA 18 (ptr p 0) := hdpA 6 _ 18 zy rfl rfl
   have F : Sl aA 19 (.int .i64 ((s : Nat) : Int)) := hdpA 7 _ 19 zy rfl rfl
   clear hbsA hdpA
   refine zj ok43 (at_ret bs _ _ _ _ (by first | assumption | exact Rep.len (by assumption)) hx O s zx) ⟨(zC hNA rfl D), ⟨(zC hNA rfl F), trivial⟩⟩ ?_
   rintro _ F ⟨D, rfl⟩
   have D := zQ D
   have := D.size
   exact obNc_end rfl rfl (D)
  ·
   intro aA wA ccA cvA hNA hclA hRA hltA hvoA hbsA hdpA
   have g := (hbsA 0 rfl).trans (zL m rfl q)
   refine zG (zC hNA rfl g) ?_
   exact obNc_end rfl rfl (grown_refl _ _)
  ·
   intro aA wA ccA cvA hNA hclA hRA hltA hvoA hbsA hdpA
   have B := (hbsA 3 rfl).trans (zU m rfl)
   refine zG (zC hNA rfl B) ?_
   exact obNc_end rfl rfl (grown_refl _ _)
  ·
   intro aA wA ccA cvA hNA hclA hRA hltA hvoA hbsA hdpA
   have hRA : b.grownBy wA (Value.slice none 0 0).ownBlock := hRA
   have hnil_o := (Own.nil b w.heap.size 5 1)
   have := hRA.size
   have hx := hx.keep0 hRA
   have O := O.keep0 hRA
   have hall := fun j l => (hall j l).keep0 hRA
   have D : Sl aA 21 (ptr p 0) := hdpA 9 _ 21 zy rfl rfl
   have F : Sl aA 22 (.int .i64 ((s : Nat) : Int)) := hdpA 10 _ 22 zy rfl rfl
   clear hbsA hdpA
   refine zj ok43 (at_ret bs _ _ _ _ (by first | assumption | exact Rep.len (by assumption)) hx O s zx) ⟨(zC hNA rfl D), ⟨(zC hNA rfl F), trivial⟩⟩ ?_
   rintro _ F ⟨D, rfl⟩
   have D := zQ D
   have := D.size
   exact obNc_end rfl rfl (D)
  ·
   intro aA wA ccA cvA hNA hclA hRA hltA hvoA hbsA hdpA
   have g := (hbsA 0 rfl).trans (zL m rfl q)
   refine zG (zC hNA rfl g) ?_
   exact obNc_end rfl rfl (grown_refl _ _)
  ·
   intro aA wA ccA cvA hNA hclA hRA hltA hvoA hbsA hdpA
   have B := (hbsA 3 rfl).trans (zU m rfl)
   refine zG (zC hNA rfl B) ?_
   exact obNc_end rfl rfl (grown_refl _ _)
  ·
   intro aA wA ccA cvA hNA hclA hRA hltA hvoA hbsA hdpA
   have hRA : b.grownBy wA (Value.slice none 0 0).ownBlock := hRA
   have hnil_o := (Own.nil b w.heap.size 5 1)
   have := hRA.size
   have hx := hx.keep0 hRA
   have O := O.keep0 hRA
   have hall := fun j l => (hall j l).keep0 hRA
   have g : Sl aA 24 (ptr p 0) := hdpA 12 _ 24 zy rfl rfl
   have B : Sl aA 25 (.int .i64 ((s : Nat) : Int)) := hdpA 13 _ 25 zy rfl rfl
   clear hbsA hdpA
   refine zj ok38 (size_ret bs _ _ _ _ (by first | assumption | exact Rep.len (by assumption)) hx O L R ((s : Nat) : Int) zx) ⟨(zC hNA rfl g), ⟨(zC hNA rfl B), trivial⟩⟩ ?_
   rintro _ B ⟨g, rfl⟩
   have g := zQ g
   have := g.size
   have B := sizeL_le R ((s : Nat) : Int)
   exact obNc_end rfl rfl (g)
  ·
   intro aA wA ccA cvA hNA hclA hRA hltA hvoA hbsA hdpA
   have g : Sl aA 23 (.int .i64 (((numB bs (8 + s * 4)) : Nat) : Int)) := hdpA 11 _ 23 zy rfl rfl
   have B : Sl aA 26 (.int .i64 (((sizeL L ((s : Nat) : Int)) : Nat) : Int)) := hdpA 14 _ 26 zy rfl rfl
   refine op_add (zC hNA rfl g) (zC hNA rfl B) (add64 zx) ?_
   exact obNc_end rfl rfl (grown_refl _ _)
  ·
   intro aA wA ccA cvA hNA hclA hRA hltA hvoA hbsA hdpA
   have hRA : b.grownBy wA (Value.slice none 0 0).ownBlock := hRA
   have hnil_o := (Own.nil b w.heap.size 5 1)
   have := hRA.size
   have O := O.keep0 hRA
   have hall := fun j l => (hall j l).keep0 hRA
   have g : Sl aA 17 vb := hdpA 5 _ 17 zy rfl rfl
   have B : Sl aA 20 (.int .i64 (((numB bs (8 + s * 4)) : Nat) : Int)) := hdpA 8 _ 20 zy rfl rfl
   have D : Sl aA 27 (.int .i64 ((((numB bs (8 + s * 4)) : Nat) : Int) + (((sizeL L ((s : Nat) : Int)) : Nat) : Int))) := hdpA 15 _ 27 zy rfl rfl
   clear hbsA hdpA
   refine op_slice_rd (lo := ((numB bs (8 + s * 4)))) (hi := (((numB bs (8 + s * 4))) + ((sizeL L ((s : Nat) : Int))))) slt22 (zC hNA rfl g) (Own.rdB O O_s) (.inr ⟨_, _, rfl, (zC hNA rfl B)⟩) (.inr ⟨_, _, rfl, (zC hNA rfl D)⟩) zx zx ?_
   intro B g
   have g : RdC wA base b.heap.size 1 B ((L.getD s []).length) (((L.getD s [])).map u8v) := by have h9 := g; rw [hsi, Nat.add_sub_cancel_left, Nat.mul_one, Nat.mul_one, ← List.map_drop, ← List.map_take, hgt] at h9; exact h9
   exact obNc_end rfl ⟨B, rfl, g, ⟨by omega, ge_of hvoA (fun k hk => by simp [Value.ownBlock] at hk) zx⟩⟩ (grown_refl _ _)
  ·
   intro aA wA ccA cvA hNA hclA hRA hltA hvoA hbsA hdpA
   have hRA : b.grownBy wA (Value.slice none 0 0).ownBlock := hRA
   have hnil_o := (Own.nil b w.heap.size 5 1)
   have := hRA.size
   have hall := fun j l => (hall j l).keep0 hRA
   have hchA : chQ 1 ccA cvA (aA.tmps.getD 29 undef) wA := hdpA 17 _ 29 zy rfl rfl
   have hccA : ccA = 2 := Nat.le_antisymm hclA hchA.1
   have g := hchA.2.1 hccA
   have hslA : IsSl cvA := g ▸ hchA.2.2
   clear hbsA hdpA
   refine op_bslice (e := 22) (pv := [(0, cvA)]) (cs := [cvA]) ⟨rfl, (zC hNA rfl g), trivial⟩ (by obtain ⟨_, _, _, rfl⟩ := hslA.sl; kernel_rfl) ?_
   intro G B H F D g
   have := g.size
   exact obNc_end rfl ⟨hccA, B, rfl, zx, D, (fun hh => by have := hltA _ hh; omega)⟩ (g)
  ·
   intro o_ ho_; obtain rfl := zE ho_; intro aA wA cvA hNA hRA g hbsA hdpA hCA
   have hRA : b.grownBy wA (Value.slice none 0 0).ownBlock := hRA
   have hnil_o := (Own.nil b w.heap.size 5 1)
   have := hRA.size
   have hcvA : (Value.slice none 0 0) = cvA := (g rfl).symm
   subst hcvA
   clear hbsA hdpA
   refine op_bslice (e := 5) (pv := []) (cs := []) trivial zy ?_
   intro D H G K F B
   have := B.size
   exact obCc_end rfl rfl (chP_now (w := D)) (Own.ofBx (base := w.heap.size) (sz := 1) (n := 0) F rfl zz zx) ⟨B, .inr (fun k hk => by simp [Value.ownBlock] at hk; omega)⟩
  ·
   intro o_ ho_; obtain rfl := zE ho_; intro aA wA cvA hNA hRA g hbsA hdpA hCA
   have hRA : b.grownBy wA (Value.slice none 0 0).ownBlock := hRA
   have hnil_o := (Own.nil b w.heap.size 5 1)
   have := hRA.size
   have hb := grow_step0 hb hRA
   have hCA : Own wA w.heap.size 5 1 cvA 0 ([]) := hCA
   have g : aA.tmps.getD 13 undef = cvA := (show chP 0 1 cvA (aA.tmps.getD 13 undef) wA from hdpA 1 _ 13 zy rfl rfl).2 rfl
   obtain ⟨J, D, B, F⟩ := hdpA 16 _ 28 zy rfl rfl
   have B : RdC wA base b.heap.size 1 J ((L.getD s []).length) (((L.getD s [])).map u8v) := B
   clear hbsA hdpA
   have F := hCA
   refine op_append slt22 (zC hNA rfl g) F (zC hNA rfl D) (Src.ofRd Try.underlying22 zz B (by simp [Value.oneCell', u8v])) (by unfold maxLen; omega) zx hb.size ?_
   intro G D g B F
   have := B.size
   have g : Own D w.heap.size 5 1 G (0 + ((L.getD s []).length)) (((L.getD s [])).map u8v) := by simpa [u8v] using g
   exact obCc_end rfl rfl (chQ_now (w := D) ⟨g.sl⟩) g ⟨B, F⟩
  intro M F H g J G K D B P
  have J := J.trans x
  have P := (G 0 rfl).trans (zL m rfl q)
  have Q := (G 8 rfl).trans (zL m rfl z)
  have z := (G 9 rfl).trans (zL m rfl t)
  have t : Sl M 12 u := K 0 _ 12 rfl rfl
  obtain ⟨_, I, S, U, M, T⟩ := K 18 _ 30 rfl rfl
  have M : Bx F I 22 [H] := M
  have I := M.lt
  clear G K
  have B : b.grownBy F (Value.slice none 0 0).ownBlock := B
  have D : Own F w.heap.size 5 1 H (0 + ((L.getD s []).length)) (((L.getD s [])).map u8v) := D
  have B : b.grownBy F none := B
  have := B.size
  have hall := all9 hall fun _ h => h.keep0 B
  have o := o.keep0 B
  have hb := grow_step0 hb B
  refine split_end (from_seq (tl := [_, _]) zz zy rfl ?_)
  have F := o
  refine op_append slt38 (zC g rfl t) F (zC g rfl S) (Src.ofRd Try.underlying38 zz (RdC.ofBx (sz := 1) (n := 1) M rfl zz) (by simp only [yA, yB, yC, yD, D.one]; try rfl)) (by unfold maxLen; omega) zx hb.size ?_
  intro K I G t M
  have := t.size
  have hx := (hx.keep0 B).keepO F t zz
  have O := (O.keep0 B).keepT F t zz
  have hall := all9 hall fun _ h => h.keepT F t zz
  have D := D.keepT F t zz
  have hb := grow_stepO hb F t zx
  have G : Own I w.heap.size 22 1 K (s + 1) (((acc ++ [(H, (L.getD s []))])).flatMap (fun j => [j.1])) := by exact G.cast rfl (by simp)
  refine zD (zA g rfl) (zB (f _ _ (zH (op_add (zC g rfl z) rfl (add64 zx) (zG (zA g rfl) (zB ?_))))))
  -- round 10T
  exact zg _ g J ⟨s + 1, _, (acc ++ [(H, (L.getD s []))]), rfl, (zL g rfl P), (zL g rfl Q), (zU g rfl).trans (congrArg (Value.int .i64) zx), (zU g rfl), zx, (acc_snoc hacc zx), hb, zx, hx, O, (oall_snoc hall (D.cast (by first | rfl | omega | (simp; done)) (by first | rfl | (simp; done)))), (G.cast rfl (by simp))⟩ zx
 refine zB (f _ _ (zF fun _ f => wp_cond_false (zA m rfl) (wp_exit (then_exit (then_exit (blk_hit (a _ _ (zF fun _ a => zH (zD rfl (zB (a _ _ (zF fun _ a => zF fun _ f => zH ?_))))))))))))
 have hal := acc_len hacc zx
 refine zG (zC m rfl y) (op_len_rd Try.underlying38 (zA m rfl) o.rdw (zG rfl (zB (f _ _ (wp_block (loop_m (fun mz_ az_ w' => ∃ (i low : Nat) (bq : By), mz_ = L.length - i ∧ (Sl az_ 0 (ptr p 0)) ∧ (Sl az_ 33 u) ∧ (Sl az_ 34 (.int .i64 ((s : Nat) : Int))) ∧ (Sl az_ 35 (.int .i64 ((i : Nat) : Int))) ∧ (Sl az_ 4 (.int .i64 ((low : Nat) : Int))) ∧ (i ≤ L.length) ∧ (Pk bq L i low) ∧ (w.grownBy w' vb.ownBlock) ∧ (b.heap.size ≤ w'.heap.size) ∧ (Bx w' p 50 [vb]) ∧ (∀ j ∈ acc, Own w' w.heap.size 5 1 j.1 j.2.length (j.2.map u8v)) ∧ (Own w' w.heap.size 22 1 u s (acc.flatMap (fun j => [j.1]))) ∧ (Own w' base 5 1 vb 256 (bq.map u8v))) _ m x ⟨0, 256, _, rfl, (zL m rfl q), (zU m rfl), (zU m rfl), (zU m rfl), (zU m rfl), Nat.zero_le _, (Pk.start R), hb, (Nat.le_refl _), hx, hall, o, O⟩ ?_))))))
 rintro _ F B b z ⟨i, low, bq, rfl, g, x, y, m, t, hi, hk, hb, D, hx, hall, o, q⟩
 have := hb.size
 refine zF fun _ f => zH (op_lss (zC b rfl m) (zC b rfl y) (fun D => ?_) (fun D => ?_))
 ·
  refine zB (f _ _ (zF fun _ f => wp_cond_true (zA b rfl) (wp_skip (f _ _ (zF fun _ f => wp_block (zF fun _ A => zH (zG (zC b rfl m) (zh slt38 (zC b rfl x) o.rdw (zC b rfl m) zx zx ?_))))))))
  intro H F I G D
  have F : Own B w.heap.size 5 1 (acc.getD i D0).1 (acc.getD i D0).2.length ((acc.getD i D0).2.map u8v) := hall _ (getD_mem zx)
  refine zN (v := (acc.getD i D0).1) one22 (zA b rfl) (by have := D 0 (acc.getD i D0).1 zz (el_ll (i := i) (d := D0) zx zx); simpa using this) (zD (zA b rfl) (zD (zA b rfl) (zB (A _ _ (zF fun _ A => zH (zG (zC b rfl t) ?_))))))
  have hri := acc_get (i := i) hacc zx zx
  have hro := hk.room hfit (i := i) zx
  have hrl := congrArg List.length hri
  refine zG (zA b rfl) (op_len_rd Try.underlying22 (zA b rfl) F.rdw (op_sub (r := (((low - (acc.getD i D0).2.length) : Nat) : Int)) (zA b rfl) (zA b rfl) (by rw [IntKind.wrap_i64]; omega) ?_))
  refine zD (zA b rfl) (zB (A _ _ (zF fun _ A => zH (zG (zC b rfl g) (op_nil (zA b rfl) (zM fld50_0 (zA b rfl) (zN one22 (zA b rfl) (hx.cell rfl) (zG (zA b rfl) (op_slice_cut (k := (low - (acc.getD i D0).2.length)) slt22 (zA b rfl) q (zA b rfl) zx zx (zG (zA b rfl) ?_))))))))))
  have B := q
  refine op_copy_cut slt22 (zA b rfl) B (zA b rfl) F.rdw (by simp [Value.oneCell', u8v]) zx ?_
  intro H G D
  have := D.size
  have hx := hx.keepO B D zz
  have hall : ∀ j ∈ acc, Own H w.heap.size 5 1 j.1 j.2.length (j.2.map u8v) := fun j l => (hall j l).keep D (own_apart (hall j l) hvk)
  have F := F.keep D (own_apart F hvk)
  have hb := grow_stepX hb D rfl
  have G : Own H base 5 1 vb 256 (((cpB bq (low - (acc.getD i D0).2.length) (acc.getD i D0).2)).map u8v) := by exact G.cast rfl (by simp [cpB])
  refine zB (A _ _ (zH ?_))
  have hl_c : (cpB bq (low - (acc.getD i D0).2.length) (acc.getD i D0).2).length = 256 := (cp_len (by have := hk.len; omega)).trans hk.len
  refine zG (zC b rfl g) (zG (zA b rfl) (zG (zA b rfl) (zG (zA b rfl) (op_len_rd Try.underlying22 (zA b rfl) F.rdw (zj ok41 (pts_ret (cpB bq (low - (acc.getD i D0).2.length) (acc.getD i D0).2) _ _ _ _ (by first | assumption | exact Rep.len (by assumption)) hx G i (low - (acc.getD i D0).2.length) ((acc.getD i D0).2.length) zx zx zx) ⟨(zA b rfl), ⟨(zA b rfl), ⟨(zA b rfl), ⟨(zA b rfl), trivial⟩⟩⟩⟩ ?_)))))
  rintro _ F ⟨A, rfl, H⟩
  have := A.size
  have hx := hx.keepO G A zz
  have hall : ∀ j ∈ acc, Own F w.heap.size 5 1 j.1 j.2.length (j.2.map u8v) := fun j l => (hall j l).keep A (own_apart (hall j l) hvk)
  have o := (o.keepT B D zz).keepT G A zz
  have hb := grow_stepX hb A rfl
  have j : (ptsB (cpB bq (low - (acc.getD i D0).2.length) (acc.getD i D0).2) i (low - (acc.getD i D0).2.length) ((acc.getD i D0).2.length)).length = 256 := (pts_len _ _ _ _).trans (by first | assumption | exact Rep.len (by assumption))
  refine zB (f _ _ (zH (op_add (zC b rfl m) rfl (add64 zx) (zG (zA b rfl) (zB ?_)))))
  -- round 10F 36T
  exact zg _ b z ⟨i + 1, _, _, rfl, (zL b rfl g), (zL b rfl x), (zL b rfl y), (zU b rfl).trans (congrArg (Value.int .i64) zx), (zU b rfl), zx, (by have h9 := hk.step hfit (i := i) zx; rw [← hri] at h9; exact h9), hb, zx, hx, hall, o, H⟩ zx
 refine zB (f _ _ (zF fun _ f => wp_cond_false (zA b rfl) (wp_exit (then_exit (then_exit (blk_hit (a _ _ (zH ?_))))))))
 have hl_e := hk.len
 have he : i = L.length := by omega
 have hse := hk.sum
 refine zG (zC b rfl g) (zG (zC b rfl t) (zj ok42 (set_ret bq _ _ _ _ (by first | assumption | exact Rep.len (by assumption)) hx q 2 low zx zx) ⟨(zA b rfl), ⟨rfl, ⟨(zA b rfl), trivial⟩⟩⟩ ?_))
 rintro _ f ⟨a, rfl, b⟩
 have := a.size
 have hb := grow_stepX hb a rfl
 have a : (setB bq 2 low).length = 256 := (setB_len _ _ _).trans (by first | assumption | exact Rep.len (by assumption))
 refine zB (end_ret (ret0 rfl z  ⟨_, rfl, ?_⟩))
 exact ⟨hb, rfl, _, b, (he ▸ hk : Pk bq L L.length low).last hfit⟩

theorem lays_ret (bs : By) (vb : Value) (base p : Nat) (w : World) (hl : bs.length = 256) (hx : Bx w p 50 [vb]) (O : Own w base 5 1 vb 256 (bs.map u8v)) (r : By) (bv : Value) (Lo Bo : Nat) (hbr : RdC w Lo Bo 1 bv r.length (r.map u8v)) (hap : ∀ q, vb.ownBlock = some q → q < Lo ∨ Bo ≤ q) (L : List By) (R : Rep bs L) (k : Nat) (hk : k ≤ L.length) (he : L.getD k [] = []) (hroom : 8 + max L.length (k + 1) * 4 + sumL L + r.length ≤ 256) : Ret Try.prog 40 #[(ptr p 0), (.int .i64 ((k : Nat) : Int)), bv] w (fun v' w' => w.grownBy w' vb.ownBlock ∧ v' = .tuple #[] ∧ ∃ bs', Own w' base 5 1 vb 256 (bs'.map u8v) ∧ Rep bs' (layL L k r)) := by
 have hb := grown_refl w vb.ownBlock
 refine enter (N := 54) Try.func40 rfl rfl (by simp) fun a hN hd hA => ?_
 have b : a.tmps.getD 0 undef = (ptr p 0) := hA 0 (by simp)
 have c : a.tmps.getD 1 undef = (.int .i64 ((k : Nat) : Int)) := hA 1 (by simp)
 have d : a.tmps.getD 2 undef = bv := hA 2 (by simp)
 clear hA
 refine zF fun _ a => zH (zG (zC hN rfl b) (zj ok37 (many_ret bs _ _ _ _ (by first | assumption | exact Rep.len (by assumption)) hx O L R) ⟨(zA hN rfl), trivial⟩ ?_))
 rintro _ f ⟨e, rfl⟩
 have e := zQ e
 have := e.size
 have hx := hx.keep0 e
 have O := O.keep0 e
 have hbr := hbr.keep0 e
 have hb := grow_step0 hb e
 have e := Rep.fits R
 refine zG (zC hN rfl c) (op_add (zA hN rfl) rfl (add64 zx) (op_max (r := ((max L.length (k + 1) : Nat) : Int)) (zA hN rfl) (zA hN rfl) zx (zD (zA hN rfl) (zB (a _ _ (seq_join1 (N := 54) (fun az_ w' => ∃ (bq : By), (Sl az_ 0 (ptr p 0)) ∧ (Sl az_ 1 (.int .i64 ((k : Nat) : Int))) ∧ (Sl az_ 2 bv) ∧ (Rep bq L) ∧ (8 + max L.length (k + 1) * 4 + r.length ≤ numB bq 2) ∧ (w.grownBy w' vb.ownBlock) ∧ (f.heap.size ≤ w'.heap.size) ∧ (Bx w' p 50 [vb]) ∧ (RdC w' Lo Bo 1 bv r.length (r.map u8v)) ∧ (Own w' base 5 1 vb 256 (bq.map u8v))) (fun e => ?_) ?_))))))
 ·
  refine zF fun _ a => zF fun _ f => zH (zG (zC hN rfl b) (zj ok52 (num_ret bs _ _ _ _ (by first | assumption | exact Rep.len (by assumption)) hx O 2 zx) ⟨(zA hN rfl), ⟨rfl, trivial⟩⟩ ?_))
  rintro _ h ⟨g, rfl⟩
  have g := zQ g
  have := g.size
  have hx := hx.keep0 g
  have O := O.keep0 g
  have hbr := hbr.keep0 g
  have hb := grow_step0 hb g
  have g := numB_lt bs 2
  refine zG (zC hN rfl d) (op_len_rd Try.underlying22 (zA hN rfl) hbr (op_sub (zA hN rfl) (zA hN rfl) (sub64 zx) (zG (zA hN rfl) (op_mul (zA hN rfl) rfl (mul64 zx) (op_add rfl (zA hN rfl) (add64 zx) (op_lss (zA hN rfl) (zA hN rfl) (fun g => ?_) (fun g => ?_)))))))
  ·
   refine zB (f _ _ (wp_cond_true (zA hN rfl) (zH (zG (zC hN rfl b) (zj ok53 (packs_ret bs _ _ _ _ (by first | assumption | exact Rep.len (by assumption)) hx O L R) ⟨(zA hN rfl), trivial⟩ ?_)))))
   rintro _ m ⟨g, rfl, j, l, h, n⟩
   have := g.size
   have hx := hx.keepO O g zz
   have hbr := hbr.keep g hap
   have hb := grow_stepX hb g rfl
   have g : j.length = 256 := h.len
   refine zB (a _ _ ?_)
   exact e _ _ _ hN hd ⟨_, (zL hN rfl b), (zL hN rfl c), (zL hN rfl d), h, zx, hb, zx, hx, hbr, l⟩
  refine zB (f _ _ (wp_cond_false (zA hN rfl) (wp_skip (a _ _ ?_))))
  exact e _ _ _ hN hd ⟨_, (zL hN rfl b), (zL hN rfl c), (zL hN rfl d), R, zx, hb, zx, hx, hbr, O⟩
 rintro o l b h ⟨bq, e, g, j, c, m, hb, n, hx, hbr, d⟩
 have := hb.size
 refine seq_join1 (N := 54) (fun az_ w' => ∃ (n : By), (Sl az_ 0 (ptr p 0)) ∧ (Sl az_ 1 (.int .i64 ((k : Nat) : Int))) ∧ (Sl az_ 2 bv) ∧ (n = lay1 bq k) ∧ (n.length = 256) ∧ (numB n 2 = numB bq 2) ∧ (w.grownBy w' vb.ownBlock) ∧ (l.heap.size ≤ w'.heap.size) ∧ (Bx w' p 50 [vb]) ∧ (RdC w' Lo Bo 1 bv r.length (r.map u8v)) ∧ (Own w' base 5 1 vb 256 (n.map u8v))) (fun o => ?_) ?_
 ·
  refine zF fun _ a => zF fun _ f => zH (zG (zC b rfl g) (zG (zC b rfl e) (zj ok37 (many_ret bq _ _ _ _ (by first | assumption | exact Rep.len (by assumption)) hx d L c) ⟨(zA b rfl), trivial⟩ ?_)))
  rintro _ s ⟨l, rfl⟩
  have l := zQ l
  have := l.size
  have hx := hx.keep0 l
  have hbr := hbr.keep0 l
  have d := d.keep0 l
  have hb := grow_step0 hb l
  have l := Rep.fits c
  refine op_geq (zA b rfl) (zA b rfl) (fun l => ?_) (fun l => ?_)
  ·
   refine zB (f _ _ (wp_cond_true (zA b rfl) (zH (zG (zC b rfl e) (zG (zC b rfl g) (op_add (zA b rfl) rfl (add64 zx) (zj ok42 (set_ret bq _ _ _ _ (by first | assumption | exact Rep.len (by assumption)) hx d 0 (k + 1) zx zx) ⟨(zA b rfl), ⟨rfl, ⟨(zA b rfl), trivial⟩⟩⟩ ?_)))))))
   rintro _ t ⟨l, rfl, s⟩
   have := l.size
   have hx := hx.keepO d l zz
   have hbr := hbr.keep l hap
   have hb := grow_stepX hb l rfl
   have l : (setB bq 0 (k + 1)).length = 256 := (setB_len _ _ _).trans (by first | assumption | exact Rep.len (by assumption))
   refine zB (a _ _ ?_)
   exact o _ _ _ b h ⟨_, (zL b rfl e), (zL b rfl g), (zL b rfl j), (by have := c.many; unfold lay1; rw [if_pos zx]), (by first | assumption | exact c.len), (numB_other zx), hb, zx, hx, hbr, s⟩
  refine zB (f _ _ (wp_cond_false (zA b rfl) (wp_skip (a _ _ ?_))))
  exact o _ _ _ b h ⟨_, (zL b rfl e), (zL b rfl g), (zL b rfl j), (by have := c.many; unfold lay1; rw [if_neg zx]), (by first | assumption | exact c.len), rfl, hb, zx, hx, hbr, d⟩
 rintro s t b l ⟨n, e, h, f, g, j, o, hb, u, hx, hbr, d⟩
 have := hb.size
 refine zF fun _ a => zH (zG (zC b rfl e) (zj ok52 (num_ret n _ _ _ _ (by first | assumption | exact Rep.len (by assumption)) hx d 2 zx) ⟨(zA b rfl), ⟨rfl, trivial⟩⟩ ?_))
 rintro _ s ⟨o, rfl⟩
 have o := zQ o
 have := o.size
 have hx := hx.keep0 o
 have hbr := hbr.keep0 o
 have d := d.keep0 o
 have hb := grow_step0 hb o
 have o := numB_lt bq 2
 refine zG (zC b rfl f) (op_len_rd Try.underlying22 (zA b rfl) hbr (op_sub (r := (((numB n 2 - r.length) : Nat) : Int)) (zA b rfl) (zA b rfl) (by rw [IntKind.wrap_i64]; omega) ?_))
 refine zD (zA b rfl) (zB (a _ _ (zF fun _ a => zH (zG (zC b rfl e) (op_nil (zA b rfl) (zM fld50_0 (zA b rfl) (zN one22 (zA b rfl) (hx.cell rfl) (zG (zA b rfl) (op_slice_cut (k := (numB n 2 - r.length)) slt22 (zA b rfl) d (zA b rfl) zx (by have := c.low; omega) (zG (zC b rfl f) ?_))))))))))
 have o := d
 refine op_copy_cut slt22 (zA b rfl) o (zA b rfl) hbr (by simp [Value.oneCell', u8v]) (by have := c.low; omega) ?_
 intro t s d
 have := d.size
 have hx := hx.keepO o d zz
 have hbr := hbr.keep d hap
 have hb := grow_stepX hb d rfl
 have s : Own t base 5 1 vb 256 (((cpB n (numB n 2 - r.length) r)).map u8v) := by exact s.cast rfl (by simp [cpB])
 refine zB (a _ _ (zF fun _ a => zH ?_))
 have d := c.low
 have hl_c : (cpB n (numB n 2 - r.length) r).length = 256 := (cp_len zx).trans j
 have hkf := c.fits
 refine zG (zC b rfl e) (zG (zC b rfl h) (zG (zA b rfl) (zG (zC b rfl f) (op_len_rd Try.underlying22 (zA b rfl) hbr (zj ok41 (pts_ret (cpB n (numB n 2 - r.length) r) _ _ _ _ (by first | assumption | exact Rep.len (by assumption)) hx s k (numB n 2 - r.length) (r.length) zx zx zx) ⟨(zA b rfl), ⟨(zA b rfl), ⟨(zA b rfl), ⟨(zA b rfl), trivial⟩⟩⟩⟩ ?_)))))
 rintro _ h ⟨d, rfl, f⟩
 have := d.size
 have hx := hx.keepO s d zz
 have hb := grow_stepX hb d rfl
 have d : (ptsB (cpB n (numB n 2 - r.length) r) k (numB n 2 - r.length) (r.length)).length = 256 := (pts_len _ _ _ _).trans (by first | assumption | exact Rep.len (by assumption))
 refine zB (a _ _ (zH (zG (zC b rfl e) (zG (zA b rfl) (zj ok42 (set_ret (ptsB (cpB n (numB n 2 - r.length) r) k (numB n 2 - r.length) (r.length)) _ _ _ _ (by first | assumption | exact Rep.len (by assumption)) hx f 2 (numB n 2 - r.length) zx zx) ⟨(zA b rfl), ⟨rfl, ⟨(zA b rfl), trivial⟩⟩⟩ ?_)))))
 rintro _ d ⟨a, rfl, b⟩
 have := a.size
 have hb := grow_stepX hb a rfl
 have a : (setB (ptsB (cpB n (numB n 2 - r.length) r) k (numB n 2 - r.length) (r.length)) 2 (numB n 2 - r.length)).length = 256 := (setB_len _ _ _).trans (by first | assumption | exact Rep.len (by assumption))
 refine zB (end_ret (ret0 rfl l  ⟨_, rfl, ?_⟩))
 subst g
 exact ⟨hb, rfl, _, b, c.lay hk he m⟩

theorem put_ret (L : List By) (bs : By) (n : Nat) (vb : Value) (base p : Nat) (w : World) (hbase : base ≤ w.heap.size) (hx : Bx w p 50 [vb]) (O : Own w base 5 1 vb n (bs.map u8v)) (hP : Pg n bs L vb) (r : By) (bv : Value) (Lo Bo : Nat) (hbr : RdC w Lo Bo 1 bv r.length (r.map u8v)) (hpa : ∀ q, pgRow p n vb = some q → q < Lo ∨ Bo ≤ q) (hBw : Bo ≤ w.heap.size)  : Ret Try.prog 11 #[(ptr p 0), bv] w (fun v' w' => w.grownBy w' (pgRow p n vb) ∧ v' = .tuple #[.int .i64 (putK L r), .int .i64 (putE L r)] ∧ ∃ u n' bs', Bx w' p 50 [u] ∧ Own w' base 5 1 u n' (bs'.map u8v) ∧ Pg n' bs' (putN L r) u ∧ RowP p n' u (pgRow p n vb) w.heap.size) := by
 have hb := grown_refl w (pgRow p n vb)
 refine enter (N := 45) Try.func11 rfl rfl (by simp) fun a hN hd hA => ?_
 have c : a.tmps.getD 0 undef = (ptr p 0) := hA 0 (by simp)
 have d : a.tmps.getD 1 undef = bv := hA 1 (by simp)
 clear hA
 refine zF fun _ a => zH (zD rfl (zD rfl (zB (a _ _ (zF fun _ a => zF fun _ e => ?_)))))
 refine zH (zG (zC hN rfl c) (op_peq_some ptrt24 (zA hN rfl) rfl (zB (e _ _ (wp_cond_false (zA hN rfl) (wp_skip (a _ _ (zF fun _ a => zF fun _ e => zH (zG (zC hN rfl d) (op_len_rd Try.underlying22 (zA hN rfl) hbr (op_eql (zA hN rfl) rfl (fun f => ?_) (fun f => ?_))))))))))))
 ·
  refine zG (zA hN rfl) (zR (j := 3) (dj := 11) (b := false) rfl rfl rfl (zA hN rfl) rfl rfl (zR (j := 3) (dj := 11) (b := false) rfl rfl rfl (zA hN rfl) rfl rfl ?_))
  refine zR (j := 3) (dj := 11) (b := false) rfl rfl rfl (zA hN rfl) rfl rfl (zc (zA hN rfl) rfl (zB (e _ _ (wp_cond_true (zA hN rfl) (zF fun _ e => zH (zD rfl (zD rfl (zB (e _ _ (wp_ret (zO ( (ret2 rfl hd (zA hN rfl) (zA hN rfl) ⟨_, rfl, ?_⟩)))))))))))))
  obtain ⟨f, g, h⟩ := put_bad (L := L) (badB_t (r := r) zx)
  rw [f, g, h]
  exact ⟨hb, rfl, ⟨_, _, _, hx, O, hP, hP.rowP⟩⟩
 refine zG (zA hN rfl) (zS (j := 3) (dj := 11) (b := false) rfl rfl rfl (zA hN rfl) (zG (zC hN rfl d) (zS (j := 3) (dj := 11) (b := false) rfl rfl rfl (zA hN rfl) (op_len_rd Try.underlying22 (zA hN rfl) hbr (zS (j := 3) (dj := 11) (b := false) rfl rfl rfl (zA hN rfl) (op_gtr (zA hN rfl) rfl (fun l => ?_) (fun l => ?_)))))))
 ·
  refine zd (zA hN rfl) (zA hN rfl) (zB (e _ _ (wp_cond_true (zA hN rfl) (zF fun _ e => zH (zD rfl (zD rfl (zB (e _ _ (wp_ret (zO ( (ret2 rfl hd (zA hN rfl) (zA hN rfl) ⟨_, rfl, ?_⟩))))))))))))
  obtain ⟨f, g, h⟩ := put_bad (L := L) (badB_t (r := r) zx)
  rw [f, g, h]
  exact ⟨hb, rfl, ⟨_, _, _, hx, O, hP, hP.rowP⟩⟩
 refine zd (zA hN rfl) (zA hN rfl) (zB (e _ _ (wp_cond_false (zA hN rfl) (wp_skip (a _ _ (zF fun _ a => zH (zG (zC hN rfl c) (zj ok36 (ready_ret L bs n _ _ _ _ hbase hx O hP) ⟨(zA hN rfl), trivial⟩ ?_))))))))
 rintro _ z ⟨y, rfl, v, t, l, m, o, x⟩
 have := y.size
 have hbr := hbr.keep y hpa
 have hb := grown_trans hb y
 refine zB (a _ _ (seq_join1 (N := 45) (fun az_ w' => ∃ (k : Nat), (Sl az_ 0 (ptr p 0)) ∧ (Sl az_ 1 bv) ∧ (Sl az_ 5 (.int .i64 0)) ∧ (Sl az_ 4 (.int .i64 ((k : Nat) : Int))) ∧ (k = freeL L) ∧ (w.grownBy w' (pgRow p n vb)) ∧ (z.heap.size ≤ w'.heap.size) ∧ (RdC w' Lo Bo 1 bv r.length (r.map u8v)) ∧ (Bx w' p 50 [v]) ∧ (Own w' base 5 1 v 256 (t.map u8v))) (fun y => ?_) ?_))
 ·
  refine zF fun _ a => wp_block (loop_m (fun mz_ az_ w' => ∃ (k : Nat), mz_ = (freeL L - k) ∧ (Sl az_ 0 (ptr p 0)) ∧ (Sl az_ 1 bv) ∧ (Sl az_ 5 (.int .i64 0)) ∧ (Sl az_ 4 (.int .i64 ((k : Nat) : Int))) ∧ (k ≤ freeL L) ∧ (w.grownBy w' (pgRow p n vb)) ∧ (z.heap.size ≤ w'.heap.size) ∧ (RdC w' Lo Bo 1 bv r.length (r.map u8v)) ∧ (Bx w' p 50 [v]) ∧ (Own w' base 5 1 v 256 (t.map u8v))) _ hN hd ⟨0, rfl, (zL hN rfl c), (zL hN rfl d), (zU hN rfl), (zU hN rfl), Nat.zero_le _, hb, (Nat.le_refl _), hbr, l, m⟩ ?_)
  rintro _ D E c z ⟨k, rfl, d, B, A, v, hkf, hb, C, hbr, l, m⟩
  have := hb.size
  refine zF fun _ e => zF fun _ C => zH (zG (zC c rfl v) (zG (zC c rfl d) (zj ok37 (many_ret t _ _ _ _ (by first | assumption | exact Rep.len (by assumption)) l m L o) ⟨(zA c rfl), trivial⟩ ?_)))
  rintro _ E ⟨D, rfl⟩
  have D := zQ D
  have := D.size
  have hbr := hbr.keep0 D
  have l := l.keep0 D
  have m := m.keep0 D
  have hb := grow_step0 hb D
  have D := Rep.fits o
  refine op_lss (zA c rfl) (zA c rfl) (fun D => ?_) (fun D => ?_)
  ·
   refine zG (zA c rfl) ?_
   refine zS (j := 4) (dj := 22) (b := true) rfl rfl rfl (zA c rfl) (zG (zC c rfl d) (zS (j := 4) (dj := 22) (b := true) rfl rfl rfl (zA c rfl) (zG (zC c rfl v) (zS (j := 4) (dj := 22) (b := true) rfl rfl rfl (zA c rfl) (zj ok38 (size_ret t _ _ _ _ (by first | assumption | exact Rep.len (by assumption)) l m L o ((k : Nat) : Int) zx) ⟨(zA c rfl), ⟨(zA c rfl), trivial⟩⟩ ?_)))))
   rintro _ E ⟨D, rfl⟩
   have D := zQ D
   have := D.size
   have hbr := hbr.keep0 D
   have l := l.keep0 D
   have m := m.keep0 D
   have hb := grow_step0 hb D
   have D := sizeL_le o ((k : Nat) : Int)
   refine zS (j := 4) (dj := 22) (b := true) rfl rfl rfl (zA c rfl) (op_gtr (zA c rfl) rfl (fun D => ?_) (fun D => ?_))
   ·
    refine zc (zA c rfl) (zA c rfl) (zB (C _ _ (wp_cond_true (zA c rfl) (wp_skip (e _ _ (wp_block (zH (zG (zC c rfl v) (op_add (zA c rfl) rfl (add64 zx) (zD (zA c rfl) (zB (blk_normal ?_))))))))))))
    -- round 10F 14F 21T 26T
    exact zg _ c z ⟨k + 1, rfl, (zL c rfl d), (zL c rfl B), (zL c rfl A), (zU c rfl).trans (congrArg (Value.int .i64) zx), (freeL_go hkf zx (fun D => by have h8 := sizeL_in (L := L) (s := k) zx; rw [D] at h8; simp at h8; omega)), hb, zx, hbr, l, m⟩ (by have h7 := freeL_go hkf zx (fun D => by have h8 := sizeL_in (L := L) (s := k) zx; rw [D] at h8; simp at h8; omega); omega)
   refine zc (zA c rfl) (zA c rfl) (zB (C _ _ (wp_cond_false (zA c rfl) (wp_exit (then_exit (then_exit (blk_hit (a _ _ ?_))))))))
   exact y _ _ _ c z ⟨k, (zL c rfl d), (zL c rfl B), (zL c rfl A), (zL c rfl v), (freeL_stop hkf (.inr (List.eq_nil_of_length_eq_zero (by have h8 := sizeL_in (L := L) (s := k) zx; omega)))).symm, hb, zx, hbr, l, m⟩
  refine zG (zA c rfl) (zR (j := 4) (dj := 22) (b := true) rfl rfl rfl (zA c rfl) rfl rfl (zR (j := 4) (dj := 22) (b := true) rfl rfl rfl (zA c rfl) rfl rfl (zR (j := 4) (dj := 22) (b := true) rfl rfl rfl (zA c rfl) rfl rfl (zR (j := 4) (dj := 22) (b := true) rfl rfl rfl (zA c rfl) rfl rfl (zd (zA c rfl) rfl (zB (C _ _ (wp_cond_false (zA c rfl) (wp_exit (then_exit (then_exit (blk_hit (a _ _ ?_)))))))))))))
  exact y _ _ _ c z ⟨k, (zL c rfl d), (zL c rfl B), (zL c rfl A), (zL c rfl v), (freeL_stop hkf (.inl zx)).symm, hb, zx, hbr, l, m⟩
 rintro B E c y ⟨k, v, z, C, d, hkf, hb, A, hbr, l, m⟩
 have := hb.size
 refine zF fun _ a => zF fun _ e => zH (zG (zC c rfl v) (zG (zC c rfl v) (zj ok37 (many_ret t _ _ _ _ (by first | assumption | exact Rep.len (by assumption)) l m L o) ⟨(zA c rfl), trivial⟩ ?_)))
 rintro _ B ⟨A, rfl⟩
 have A := zQ A
 have := A.size
 have l := l.keep0 A
 have m := m.keep0 A
 have hb := grow_step0 hb A
 have B := Rep.fits o
 refine zG (zC c rfl d) ?_
 have hfl := freeL_le L
 refine op_add (zA c rfl) rfl (add64 zx) (op_max (r := (((max L.length (k + 1)) : Nat) : Int)) (zA c rfl) (zA c rfl) zx (zj ok39 (left_ret t _ _ _ _ (by first | assumption | exact Rep.len (by assumption)) l m L o (max L.length (k + 1)) zx) ⟨(zA c rfl), ⟨(zA c rfl), trivial⟩⟩ ?_))
 rintro _ C ⟨B, rfl⟩
 have B := zQ B
 have := B.size
 have hbr := (hbr.keep0 A).keep0 B
 have l := l.keep0 B
 have m := m.keep0 B
 have hb := grow_step0 hb B
 have A := leftL_rng o (max L.length (k + 1)) zx
 refine zG (zC c rfl z) (op_len_rd Try.underlying22 (zA c rfl) hbr (op_lss (zA c rfl) (zA c rfl) (fun A => ?_) (fun A => ?_)))
 ·
  refine zB (e _ _ (wp_cond_true (zA c rfl) (zF fun _ e => zH (zD rfl (zD rfl (zB (e _ _ (wp_ret (zO ( (ret2 rfl y (zA c rfl) (zA c rfl) ⟨_, rfl, ?_⟩)))))))))))
  obtain ⟨f, g, h⟩ := put_full (L := L) (badB_f (r := r) zx) (hkf ▸ A)
  rw [f, g, h]
  exact ⟨hb, rfl, ⟨_, _, _, l, m, o.pg, (RowP.laid zz x)⟩⟩
 refine zB ?_
 refine e _ _ (wp_cond_false (zA c rfl) (wp_skip (a _ _ (zF fun _ a => zH (zG (zC c rfl v) (zG (zC c rfl d) (zG (zC c rfl z) (zj ok40 (lays_ret t _ _ _ _ (by first | assumption | exact Rep.len (by assumption)) l m r _ _ _ hbr (x.apart hpa hBw) L o k zx (by rw [hkf]; exact freeL_get) (by have D := A; unfold leftL at D; omega)) ⟨(zA c rfl), ⟨(zA c rfl), ⟨(zA c rfl), trivial⟩⟩⟩ ?_))))))))
 rintro _ z ⟨e, rfl, v, t, o⟩
 have := e.size
 have l := l.keepO m e zz
 have hb := grow_stepP hb e x
 have e : v.length = 256 := o.len
 refine zB (a _ _ (zF fun _ a => zH (zG (zC c rfl d) (zD (zA c rfl) (zD rfl (zB (a _ _ (wp_ret (ret2 rfl y (zA c rfl) (zA c rfl) ⟨_, rfl, ?_⟩)))))))))
 obtain ⟨f, g, h⟩ := put_ok (L := L) (badB_f (r := r) zx) (hkf ▸ A)
 rw [f, g, h]
 subst hkf
 exact ⟨hb, rfl, ⟨_, _, _, l, t, o.pg, (RowP.laid zz x)⟩⟩

theorem get_ret (L : List By) (bs : By) (n : Nat) (vb : Value) (base p : Nat) (w : World) (hbase : base ≤ w.heap.size) (hx : Bx w p 50 [vb]) (O : Own w base 5 1 vb n (bs.map u8v)) (hP : Pg n bs L vb) (k : Int) (hk : -9223372036854775808 ≤ k ∧ k ≤ 9223372036854775807) : Ret Try.prog 15 #[(ptr p 0), (.int .i64 k)] w (fun v' w' => w.grownBy w' (pgRow p n vb) ∧ ∃ x, v' = .tuple #[x, .int .i64 (dropE L k)] ∧ Own w' w.heap.size 5 1 x (getL L k).length ((getL L k).map u8v) ∧ ∃ u n' bs', Bx w' p 50 [u] ∧ Own w' base 5 1 u n' (bs'.map u8v) ∧ Pg n' bs' (L) u ∧ RowP p n' u (pgRow p n vb) w.heap.size ∧ DJ x u) := by
 have hb := grown_refl w (pgRow p n vb)
 refine enter (N := 31) Try.func15 rfl rfl (by simp) fun a hN hd hA => ?_
 have b : a.tmps.getD 0 undef = (ptr p 0) := hA 0 (by simp)
 have c : a.tmps.getD 1 undef = (.int .i64 k) := hA 1 (by simp)
 clear hA
 refine zF fun _ a => zH (zD rfl (zD rfl (zB (a _ _ (zF fun _ a => zF fun _ d => zH (zG (zC hN rfl b) ?_))))))
 refine op_peq_some ptrt24 (zA hN rfl) rfl (zB (d _ _ (wp_cond_false (zA hN rfl) (wp_skip (a _ _ (zF fun _ a => zH (zG (zC hN rfl b) (zj ok36 (ready_ret L bs n _ _ _ _ hbase hx O hP) ⟨(zA hN rfl), trivial⟩ ?_))))))))
 rintro _ q ⟨o, rfl, m, j, g, f, l, r⟩
 have := o.size
 have hb := grown_trans hb o
 refine zB (a _ _ (zF fun _ a => zH (zG (zC hN rfl b) (zG (zC hN rfl c) (zj ok38 (size_ret j _ _ _ _ (by first | assumption | exact Rep.len (by assumption)) g f L l k zx) ⟨(zA hN rfl), ⟨(zA hN rfl), trivial⟩⟩ ?_)))))
 rintro _ o ⟨t, rfl⟩
 have t := zQ t
 have := t.size
 have g := g.keep0 t
 have f := f.keep0 t
 have hb := grow_step0 hb t
 have t := sizeL_le l k
 refine zD (zA hN rfl) (zB (a _ _ (zF fun _ a => zF fun _ d => zH (zG (zA hN rfl) (op_eql (zA hN rfl) rfl (fun t => ?_) (fun t => ?_))))))
 ·
  refine zB (d _ _ (wp_cond_true (zA hN rfl) (zF fun _ d => zH (zD rfl (zD rfl (zB (d _ _ (wp_ret (zO ( (ret2 rfl hd (zA hN rfl) (zA hN rfl) ⟨_, rfl, ?_⟩)))))))))))
  have t : sizeL L k = 0 := by omega
  rw [(drop_none t).1, getL_nil t]
  exact ⟨hb, .slice none 0 0, rfl, Own.nil _ _ _ _, ⟨_, _, _, g, f, l.pg, (RowP.laid zz r), (fun k9 (hk9 : (none : Option Nat) = some k9) => (by cases hk9))⟩⟩
 refine zB (d _ _ (wp_cond_false (zA hN rfl) (wp_skip (a _ _ (zF fun _ a => ?_)))))
 have hmm := l.fits
 have hplt := g.lt
 have hkn := sizeL_nat (L := L) (s := k) zx
 have hrc := (l.recs k.toNat zx).2.1
 have hgt := l.get (s := k.toNat) zx
 have hsi : sizeL L k = (L.getD k.toNat []).length := by rw [← getL_len, getL_in zx]
 have d := f
 refine reg_split (hd := [_, _, _, _, _, _, _, _, _, _, _, _, _, _]) (tl := _) 14 mixed zy rfl rfl (any_quiet (Φ := phiL [(fun uz w' => ∃ (t : Nat), uz = (.slice (some ⟨t, 0, none⟩) 0 0) ∧ o.heap.size ≤ t ∧ Bx w' t 5 []), (fun uz _ => uz = (ptr p 0)), (fun uz _ => uz = (ptr p 0)), (fun uz _ => uz = (ptr p 0)), (fun uz _ => uz = m), (fun uz _ => uz = (ptr p 0)), (fun uz _ => uz = (.int .i64 ((k.toNat : Nat) : Int))), (fun uz _ => uz = (.int .i64 (((numB j (8 + k.toNat * 4)) : Nat) : Int))), (fun uz _ => uz = (ptr p 0)), (fun uz _ => uz = (.int .i64 ((k.toNat : Nat) : Int))), (fun uz _ => uz = (.int .i64 (((numB j (8 + k.toNat * 4)) : Nat) : Int))), (fun uz _ => uz = (.int .i64 (((sizeL L k) : Nat) : Int))), (fun uz _ => uz = (.int .i64 ((((numB j (8 + k.toNat * 4)) : Nat) : Int) + (((sizeL L k) : Nat) : Int)))), (fun uz w' => ∃ (v : Value), uz = v ∧ RdC w' base o.heap.size 1 v ((L.getD k.toNat []).length) (((L.getD k.toNat [])).map u8v))]) zy zy zy hN (StL.get (StL.cons (fun u B q E h => by obtain ⟨z, hv, A, y⟩ := h; exact ⟨z, hv, A, y.keep0 E⟩) (StL.eq (StL.eq (StL.eq (StL.eq (StL.eq (StL.eq (StL.eq (StL.eq (StL.eq (StL.eq (StL.eq (StL.eq (StL.cons (fun u B q E h => by obtain ⟨z, hv, y⟩ := h; exact ⟨z, hv, y.keep0 E⟩) (StL.nil _)))))))))))))))) (ObL.get (s := 14) (ObL.cons ?_ (ObL.cons ?_ (ObL.cons ?_ (ObL.cons ?_ (ObL.cons ?_ (ObL.cons ?_ (ObL.cons ?_ (ObL.cons ?_ (ObL.cons ?_ (ObL.cons ?_ (ObL.cons ?_ (ObL.cons ?_ (ObL.cons ?_ (ObL.cons ?_ (ObL.nil))))))))))))))) rfl) ?_)
 ·
  intro aA wA hNA hRA hbsA hdpA
  have hRA : o.grownBy wA none := hRA
  have := hRA.size
  clear hbsA hdpA
  refine op_bslice (e := 5) (pv := []) (cs := []) trivial zy ?_
  intro B t A z q y
  have := y.size
  exact obN_end rfl ⟨t, rfl, zx, q⟩ (y)
 ·
  intro aA wA hNA hRA hbsA hdpA
  have y := (hbsA 0 rfl).trans (zL hN rfl b)
  refine zG (zC hNA rfl y) ?_
  exact obN_end rfl rfl (grown_refl _ _)
 ·
  intro aA wA hNA hRA hbsA hdpA
  have A : Sl aA 17 (ptr p 0) := hdpA 1 _ 17 zy rfl rfl
  refine op_nil (zC hNA rfl A) ?_
  exact obN_end rfl rfl (grown_refl _ _)
 ·
  intro aA wA hNA hRA hbsA hdpA
  have A : Sl aA 18 (ptr p 0) := hdpA 2 _ 18 zy rfl rfl
  refine zM fld50_0 (zC hNA rfl A) ?_
  exact obN_end rfl rfl (grown_refl _ _)
 ·
  intro aA wA hNA hRA hbsA hdpA
  have hRA : o.grownBy wA none := hRA
  have := hRA.size
  have g := g.keep0 hRA
  have A : Sl aA 19 (ptr p 0) := hdpA 3 _ 19 zy rfl rfl
  clear hbsA hdpA
  refine zN one22 (zC hNA rfl A) (g.cell rfl) ?_
  exact obN_end rfl rfl (grown_refl _ _)
 ·
  intro aA wA hNA hRA hbsA hdpA
  have y := (hbsA 0 rfl).trans (zL hN rfl b)
  refine zG (zC hNA rfl y) ?_
  exact obN_end rfl rfl (grown_refl _ _)
 ·
  intro aA wA hNA hRA hbsA hdpA
  have A := (hbsA 1 rfl).trans (zL hN rfl c)
  refine zG ((zC hNA rfl A).trans (congrArg (Value.int .i64) (show _ = ((k.toNat : Nat) : Int) by omega))) ?_
  exact obN_end rfl rfl (grown_refl _ _)
 ·
  intro aA wA hNA hRA hbsA hdpA
  have hRA : o.grownBy wA none := hRA
  have := hRA.size
  have g := g.keep0 hRA
  have f := f.keep0 hRA
  have B : Sl aA 21 (ptr p 0) := hdpA 5 _ 21 zy rfl rfl
  have C : Sl aA 22 (.int .i64 ((k.toNat : Nat) : Int)) := hdpA 6 _ 22 zy rfl rfl
  clear hbsA hdpA
  refine zj ok43 (at_ret j _ _ _ _ (by first | assumption | exact Rep.len (by assumption)) g f k.toNat zx) ⟨(zC hNA rfl B), ⟨(zC hNA rfl C), trivial⟩⟩ ?_
  rintro _ C ⟨B, rfl⟩
  have B := zQ B
  have := B.size
  exact obN_end rfl rfl (B)
 ·
  intro aA wA hNA hRA hbsA hdpA
  have y := (hbsA 0 rfl).trans (zL hN rfl b)
  refine zG (zC hNA rfl y) ?_
  exact obN_end rfl rfl (grown_refl _ _)
 ·
  intro aA wA hNA hRA hbsA hdpA
  have A := (hbsA 1 rfl).trans (zL hN rfl c)
  refine zG ((zC hNA rfl A).trans (congrArg (Value.int .i64) (show _ = ((k.toNat : Nat) : Int) by omega))) ?_
  exact obN_end rfl rfl (grown_refl _ _)
 ·
  intro aA wA hNA hRA hbsA hdpA
  have hRA : o.grownBy wA none := hRA
  have := hRA.size
  have g := g.keep0 hRA
  have f := f.keep0 hRA
  have b : Sl aA 24 (ptr p 0) := hdpA 8 _ 24 zy rfl rfl
  have c : Sl aA 25 (.int .i64 ((k.toNat : Nat) : Int)) := hdpA 9 _ 25 zy rfl rfl
  clear hbsA hdpA
  refine zj ok43 (at_ret j _ _ _ _ (by first | assumption | exact Rep.len (by assumption)) g f k.toNat zx) ⟨(zC hNA rfl b), ⟨(zC hNA rfl c), trivial⟩⟩ ?_
  rintro _ c ⟨b, rfl⟩
  have b := zQ b
  have := b.size
  exact obN_end rfl rfl (b)
 ·
  intro aA wA hNA hRA hbsA hdpA
  have b := (hbsA 6 rfl).trans (zU hN rfl)
  refine zG (zC hNA rfl b) ?_
  exact obN_end rfl rfl (grown_refl _ _)
 ·
  intro aA wA hNA hRA hbsA hdpA
  have b : Sl aA 26 (.int .i64 (((numB j (8 + k.toNat * 4)) : Nat) : Int)) := hdpA 10 _ 26 zy rfl rfl
  have c : Sl aA 27 (.int .i64 (((sizeL L k) : Nat) : Int)) := hdpA 11 _ 27 zy rfl rfl
  refine op_add (zC hNA rfl b) (zC hNA rfl c) (add64 zx) ?_
  exact obN_end rfl rfl (grown_refl _ _)
 ·
  intro aA wA hNA hRA hbsA hdpA
  have hRA : o.grownBy wA none := hRA
  have := hRA.size
  have f := f.keep0 hRA
  have b : Sl aA 20 m := hdpA 4 _ 20 zy rfl rfl
  have c : Sl aA 23 (.int .i64 (((numB j (8 + k.toNat * 4)) : Nat) : Int)) := hdpA 7 _ 23 zy rfl rfl
  have y : Sl aA 28 (.int .i64 ((((numB j (8 + k.toNat * 4)) : Nat) : Int) + (((sizeL L k) : Nat) : Int))) := hdpA 12 _ 28 zy rfl rfl
  clear hbsA hdpA
  refine op_slice_rd (lo := ((numB j (8 + k.toNat * 4)))) (hi := (((numB j (8 + k.toNat * 4))) + ((sizeL L k)))) slt22 (zC hNA rfl b) (Own.rdB f d) (.inr ⟨_, _, rfl, (zC hNA rfl c)⟩) (.inr ⟨_, _, rfl, (zC hNA rfl y)⟩) zx zx ?_
  intro v b
  have b : RdC wA base o.heap.size 1 v ((L.getD k.toNat []).length) (((L.getD k.toNat [])).map u8v) := by have h9 := b; rw [hsi, Nat.add_sub_cancel_left, Nat.mul_one, Nat.mul_one, ← List.map_drop, ← List.map_take, hgt] at h9; exact h9
  exact obN_end rfl ⟨v, rfl, b⟩ (grown_refl _ _)
 intro C j d y B A c
 have y := y.trans hd
 obtain ⟨t, C, D, q⟩ := A 0 _ 16 rfl rfl
 have q : Bx j t 5 [] := q
 have z := q.lt
 have z : m.ownBlock ≠ some t := fun hh => by have := (f.lt _ hh).2; omega
 obtain ⟨v, D, b⟩ := A 13 _ 29 rfl rfl
 have b : RdC j base o.heap.size 1 v ((L.getD k.toNat []).length) (((L.getD k.toNat [])).map u8v) := b
 clear B A
 have c : o.grownBy j none := c
 have := c.size
 have f := f.keep0 c
 have hb := grow_step0 hb c
 refine split_end (from_seq (tl := [_, _, _]) zz zy rfl ?_)
 have j := (Own.ofBx (base := w.heap.size) (sz := 1) (n := 0) q rfl zz zx)
 refine op_append slt22 (zC d rfl C) j (zC d rfl D) (Src.ofRd Try.underlying22 zz b (by simp [Value.oneCell', u8v])) (by unfold maxLen; omega) zx hb.size ?_
 intro q v o b A
 have B : DJ m (.slice (some ⟨t, 0, none⟩) 0 0) := fun k hk hg => by simp [Value.ownBlock] at hg; subst hg; exact z hk
 have t : DJ m q := DJ.step A (fun k hk => (f.lt k hk).2) B
 have := b.size
 have g := (g.keep0 c).keep b (by simp [Value.ownBlock]; try omega)
 have f := f.keepD b B
 have hb := grow_stepO hb j b zx
 have o : Own v w.heap.size 5 1 q (0 + ((L.getD k.toNat []).length)) (((L.getD k.toNat [])).map u8v) := by simpa [u8v] using o
 refine zD (zA d rfl) (zD rfl (zB (a _ _ (wp_ret (ret2 rfl y (zA d rfl) (zA d rfl) ⟨_, rfl, ?_⟩)))))
 have a : sizeL L k ≠ 0 := by omega
 rw [(drop_ok a).1, getL_in a]
 exact ⟨hb, _, rfl, o.cast zx rfl, ⟨_, _, _, g, f, l.pg, (RowP.laid zz r), t.symm⟩⟩

theorem setx_ret (L : List By) (bs : By) (n : Nat) (vb : Value) (base p : Nat) (w : World) (hbase : base ≤ w.heap.size) (hx : Bx w p 50 [vb]) (O : Own w base 5 1 vb n (bs.map u8v)) (hP : Pg n bs L vb) (r : By) (bv : Value) (Lo Bo : Nat) (hbr : RdC w Lo Bo 1 bv r.length (r.map u8v)) (hpa : ∀ q, pgRow p n vb = some q → q < Lo ∨ Bo ≤ q) (hBw : Bo ≤ w.heap.size) (k : Int) (hk : -9223372036854775808 ≤ k ∧ k ≤ 9223372036854775807) : Ret Try.prog 20 #[(ptr p 0), (.int .i64 k), bv] w (fun v' w' => w.grownBy w' (pgRow p n vb) ∧ v' = .int .i64 (setE L k r) ∧ ∃ u n' bs', Bx w' p 50 [u] ∧ Own w' base 5 1 u n' (bs'.map u8v) ∧ Pg n' bs' (setN L k r) u ∧ RowP p n' u (pgRow p n vb) w.heap.size) := by
 have hb := grown_refl w (pgRow p n vb)
 refine enter (N := 44) Try.func20 rfl rfl (by simp) fun a hN hd hA => ?_
 have c : a.tmps.getD 0 undef = (ptr p 0) := hA 0 (by simp)
 have d : a.tmps.getD 1 undef = (.int .i64 k) := hA 1 (by simp)
 have e : a.tmps.getD 2 undef = bv := hA 2 (by simp)
 clear hA
 refine zF fun _ f => zH (zD rfl (zB (f _ _ (zF fun _ f => zF fun _ a => zH (zG (zC hN rfl c) ?_)))))
 refine op_peq_some ptrt24 (zA hN rfl) rfl (zB (a _ _ (wp_cond_false (zA hN rfl) (wp_skip (f _ _ (zF fun _ f => zH (zG (zC hN rfl c) (zj ok36 (ready_ret L bs n _ _ _ _ hbase hx O hP) ⟨(zA hN rfl), trivial⟩ ?_))))))))
 rintro _ x ⟨t, rfl, v, o, g, h, l, m⟩
 have := t.size
 have hb := grown_trans hb t
 refine zB (f _ _ (zF fun _ f => zH (zG (zC hN rfl c) (zG (zC hN rfl d) (zj ok38 (size_ret o _ _ _ _ (by first | assumption | exact Rep.len (by assumption)) g h L l k zx) ⟨(zA hN rfl), ⟨(zA hN rfl), trivial⟩⟩ ?_)))))
 rintro _ x ⟨v, rfl⟩
 have v := zQ v
 have := v.size
 have hbr := (hbr.keep t hpa).keep0 v
 have g := g.keep0 v
 have h := h.keep0 v
 have hb := grow_step0 hb v
 have t := sizeL_le l k
 refine zD (zA hN rfl) (zB (f _ _ (zF fun _ f => wp_block (zF fun _ a => zH (zG (zA hN rfl) (op_eql (zA hN rfl) rfl (fun t => ?_) (fun t => ?_)))))))
 ·
  refine zD (zA hN rfl) (zB (a _ _ (wp_cond_true (zA hN rfl) (zF fun _ a => zH (zD rfl (zB (a _ _ (wp_ret (zb (zO ( (ret1 rfl hd (zA hN rfl) ⟨_, rfl, ?_⟩))))))))))))
  obtain ⟨t, v⟩ := set_none (L := L) (k := k) (r := r) zx
  rw [t, v]
  exact ⟨hb, rfl, ⟨_, _, _, g, h, l.pg, (RowP.laid zz m)⟩⟩
 refine zD (zA hN rfl) (zB (a _ _ (wp_cond_false (zA hN rfl) (zF fun _ a => zH (zG (zC hN rfl e) (op_len_rd Try.underlying22 (zA hN rfl) hbr (op_eql (zA hN rfl) rfl (fun x => ?_) (fun x => ?_))))))))
 ·
  refine zG (zA hN rfl) (zR (j := 3) (dj := 22) (b := false) rfl rfl rfl (zA hN rfl) rfl rfl (zR (j := 3) (dj := 22) (b := false) rfl rfl rfl (zA hN rfl) rfl rfl ?_))
  refine zR (j := 3) (dj := 22) (b := false) rfl rfl rfl (zA hN rfl) rfl rfl (zc (zA hN rfl) rfl (zD (zA hN rfl) (zB (a _ _ (wp_cond_true (zA hN rfl) (zF fun _ a => zH (zD rfl (zB (a _ _ (wp_ret (zb (zO ( (ret1 rfl hd (zA hN rfl) ⟨_, rfl, ?_⟩))))))))))))))
  obtain ⟨t, v⟩ := set_bad (L := L) (k := k) zx (badB_t (r := r) zx)
  rw [t, v]
  exact ⟨hb, rfl, ⟨_, _, _, g, h, l.pg, (RowP.laid zz m)⟩⟩
 refine zG (zA hN rfl) (zS (j := 3) (dj := 22) (b := false) rfl rfl rfl (zA hN rfl) (zG (zC hN rfl e) (zS (j := 3) (dj := 22) (b := false) rfl rfl rfl (zA hN rfl) (op_len_rd Try.underlying22 (zA hN rfl) hbr (zS (j := 3) (dj := 22) (b := false) rfl rfl rfl (zA hN rfl) (op_gtr (zA hN rfl) rfl (fun x => ?_) (fun x => ?_)))))))
 ·
  refine zd (zA hN rfl) (zA hN rfl) (zD (zA hN rfl) (zB (a _ _ (wp_cond_true (zA hN rfl) (zF fun _ a => zH (zD rfl (zB (a _ _ (wp_ret (zb (zO ( (ret1 rfl hd (zA hN rfl) ⟨_, rfl, ?_⟩)))))))))))))
  obtain ⟨t, v⟩ := set_bad (L := L) (k := k) zx (badB_t (r := r) zx)
  rw [t, v]
  exact ⟨hb, rfl, ⟨_, _, _, g, h, l.pg, (RowP.laid zz m)⟩⟩
 refine zd (zA hN rfl) (zA hN rfl) (zD (zA hN rfl) ?_)
 refine zB (a _ _ (wp_cond_false (zA hN rfl) (zF fun _ a => zH (zG (zC hN rfl c) (zG (zC hN rfl c) (zj ok37 (many_ret o _ _ _ _ (by first | assumption | exact Rep.len (by assumption)) g h L l) ⟨(zA hN rfl), trivial⟩ ?_))))))
 rintro _ y ⟨x, rfl⟩
 have x := zQ x
 have := x.size
 have g := g.keep0 x
 have h := h.keep0 x
 have hb := grow_step0 hb x
 have y := Rep.fits l
 refine zj ok39 (left_ret o _ _ _ _ (by first | assumption | exact Rep.len (by assumption)) g h L l (L.length) zx) ⟨(zA hN rfl), ⟨(zA hN rfl), trivial⟩⟩ ?_
 rintro _ z ⟨y, rfl⟩
 have y := zQ y
 have := y.size
 have hbr := (hbr.keep0 x).keep0 y
 have g := g.keep0 y
 have h := h.keep0 y
 have hb := grow_step0 hb y
 have x := leftL_rng l (L.length) zx
 refine zG (zA hN rfl) (op_add (zA hN rfl) (zA hN rfl) (add64 zx) (zG (zC hN rfl e) (op_len_rd Try.underlying22 (zA hN rfl) hbr (op_lss (zA hN rfl) (zA hN rfl) (fun x => ?_) (fun x => ?_)))))
 ·
  refine zD (zA hN rfl) (zB (a _ _ (wp_cond_true (zA hN rfl) (zF fun _ a => zH (zD rfl (zB (a _ _ (wp_ret (zb (zO ( (ret1 rfl hd (zA hN rfl) ⟨_, rfl, ?_⟩))))))))))))
  obtain ⟨t, v⟩ := set_full (L := L) (k := k) zx (badB_f (r := r) zx) zx
  rw [t, v]
  exact ⟨hb, rfl, ⟨_, _, _, g, h, l.pg, (RowP.laid zz m)⟩⟩
 refine zD (zA hN rfl) (zB (a _ _ (wp_cond_false (zA hN rfl) (wp_skip (f _ _ (zF fun _ f => zH ?_))))))
 have hkn := sizeL_nat (L := L) (s := k) zx
 have hmm := l.fits
 have hss := sumL_set (L := L) (i := k.toNat) (r := []) zx
 have hsi : sizeL L k = (L.getD k.toNat []).length := by rw [← getL_len, getL_in zx]
 refine zG (zC hN rfl c) (zG ((zC hN rfl d).trans (congrArg (Value.int .i64) (show _ = ((k.toNat : Nat) : Int) by omega))) (zj ok41 (pts_ret o _ _ _ _ (by first | assumption | exact Rep.len (by assumption)) g h k.toNat 0 0 zx zx zx) ⟨(zA hN rfl), ⟨(zA hN rfl), ⟨rfl, ⟨rfl, trivial⟩⟩⟩⟩ ?_))
 rintro _ y ⟨a, rfl, x⟩
 have := a.size
 have hbr := hbr.keep a (m.apart hpa hBw)
 have g := g.keepO h a zz
 have hb := grow_stepP hb a m
 have a : (ptsB o k.toNat 0 0).length = 256 := (pts_len _ _ _ _).trans (by first | assumption | exact Rep.len (by assumption))
 have a := l.empty (k := k.toNat) zx
 refine zB ?_
 refine f _ _ (zF fun _ f => zH (zG (zC hN rfl c) (zG ((zC hN rfl d).trans (congrArg (Value.int .i64) (show _ = ((k.toNat : Nat) : Int) by omega))) (zG (zC hN rfl e) (zj ok40 (lays_ret (ptsB o k.toNat 0 0) _ _ _ _ (by first | assumption | exact Rep.len (by assumption)) g x r _ _ _ hbr (m.apart hpa hBw) (L.set k.toNat []) a k.toNat (by simp; omega) (set_get zx) (by simp only [List.length_set]; simp only [List.length_nil] at hss; unfold leftL at *; omega)) ⟨(zA hN rfl), ⟨(zA hN rfl), ⟨(zA hN rfl), trivial⟩⟩⟩ ?_)))))
 rintro _ h ⟨a, rfl, d, e, c⟩
 have := a.size
 have g := g.keepO x a zz
 have hb := grow_stepP hb a m
 have a : d.length = 256 := c.len
 refine zB (f _ _ (zF fun _ f => zH (zD rfl (zB (f _ _ (wp_ret (ret1 rfl hd (zA hN rfl) ⟨_, rfl, ?_⟩)))))))
 obtain ⟨t, v⟩ := set_ok (L := L) (k := k) zx (badB_f (r := r) zx) zx
 rw [t, v, ← layL_set zx]
 exact ⟨hb, rfl, ⟨_, _, _, g, e, c.pg, (RowP.laid zz m)⟩⟩

theorem drop_ret (L : List By) (bs : By) (n : Nat) (vb : Value) (base p : Nat) (w : World) (hbase : base ≤ w.heap.size) (hx : Bx w p 50 [vb]) (O : Own w base 5 1 vb n (bs.map u8v)) (hP : Pg n bs L vb) (k : Int) (hk : -9223372036854775808 ≤ k ∧ k ≤ 9223372036854775807) : Ret Try.prog 13 #[(ptr p 0), (.int .i64 k)] w (fun v' w' => w.grownBy w' (pgRow p n vb) ∧ v' = .int .i64 (dropE L k) ∧ ∃ u n' bs', Bx w' p 50 [u] ∧ Own w' base 5 1 u n' (bs'.map u8v) ∧ Pg n' bs' (dropN L k) u ∧ RowP p n' u (pgRow p n vb) w.heap.size) := by
 have hb := grown_refl w (pgRow p n vb)
 refine enter (N := 33) Try.func13 rfl rfl (by simp) fun a hN hd hA => ?_
 have c : a.tmps.getD 0 undef = (ptr p 0) := hA 0 (by simp)
 have d : a.tmps.getD 1 undef = (.int .i64 k) := hA 1 (by simp)
 clear hA
 refine zF fun _ a => zH (zD rfl (zB (a _ _ (zF fun _ a => zF fun _ e => zH (zG (zC hN rfl c) ?_)))))
 refine op_peq_some ptrt24 (zA hN rfl) rfl (zB (e _ _ (wp_cond_false (zA hN rfl) (wp_skip (a _ _ (zF fun _ a => zH (zG (zC hN rfl c) (zj ok36 (ready_ret L bs n _ _ _ _ hbase hx O hP) ⟨(zA hN rfl), trivial⟩ ?_))))))))
 rintro _ v ⟨t, rfl, o, g, f, h, l, q⟩
 have := t.size
 have hb := grown_trans hb t
 refine zB ?_
 refine a _ _ (zF fun _ a => zF fun _ e => zH (zG (zC hN rfl c) (zG (zC hN rfl d) (zj ok38 (size_ret g _ _ _ _ (by first | assumption | exact Rep.len (by assumption)) f h L l k zx) ⟨(zA hN rfl), ⟨(zA hN rfl), trivial⟩⟩ ?_))))
 rintro _ v ⟨t, rfl⟩
 have t := zQ t
 have := t.size
 have f := f.keep0 t
 have h := h.keep0 t
 have hb := grow_step0 hb t
 have t := sizeL_le l k
 refine op_eql (zA hN rfl) rfl (fun t => ?_) (fun t => ?_)
 ·
  refine zB (e _ _ (wp_cond_true (zA hN rfl) (zF fun _ e => zH (zD rfl (zB (e _ _ (wp_ret (zO ( (ret1 rfl hd (zA hN rfl) ⟨_, rfl, ?_⟩))))))))))
  obtain ⟨t, v⟩ := drop_none (L := L) (k := k) zx
  rw [t, v]
  exact ⟨hb, rfl, ⟨_, _, _, f, h, l.pg, (RowP.laid zz q)⟩⟩
 refine zB (e _ _ (wp_cond_false (zA hN rfl) (wp_skip (a _ _ (zF fun _ a => zH ?_)))))
 have hkn := sizeL_nat (L := L) (s := k) zx
 have hmm := l.fits
 refine zG (zC hN rfl c) (zG ((zC hN rfl d).trans (congrArg (Value.int .i64) (show _ = ((k.toNat : Nat) : Int) by omega))) (zj ok41 (pts_ret g _ _ _ _ (by first | assumption | exact Rep.len (by assumption)) f h k.toNat 0 0 zx zx zx) ⟨(zA hN rfl), ⟨(zA hN rfl), ⟨rfl, ⟨rfl, trivial⟩⟩⟩⟩ ?_))
 rintro _ y ⟨x, rfl, d⟩
 have := x.size
 have f := f.keepO h x zz
 have hb := grow_stepP hb x q
 have h : (ptsB g k.toNat 0 0).length = 256 := (pts_len _ _ _ _).trans (by first | assumption | exact Rep.len (by assumption))
 have h := l.empty (k := k.toNat) zx
 refine zB (a _ _ (seq_join2 (N := 33) (fun az_ w' => ∃ (m : Nat), (Sl az_ 0 (ptr p 0)) ∧ (Sl az_ 4 (.int .i64 0)) ∧ (Sl az_ 5 (.int .i64 ((m : Nat) : Int))) ∧ (m ≤ (L.set k.toNat []).length) ∧ (cutL (L.set k.toNat []) = (L.set k.toNat []).take m) ∧ (w.grownBy w' (pgRow p n vb)) ∧ (y.heap.size ≤ w'.heap.size) ∧ (Bx w' p 50 [o]) ∧ (Own w' base 5 1 o 256 ((ptsB g k.toNat 0 0).map u8v))) (fun l => ?_) ?_))
 ·
  refine zF fun _ a => zH (zG (zC hN rfl c) (zj ok37 (many_ret (ptsB g k.toNat 0 0) _ _ _ _ (by first | assumption | exact Rep.len (by assumption)) f d (L.set k.toNat []) h) ⟨(zA hN rfl), trivial⟩ ?_))
  rintro _ y ⟨x, rfl⟩
  have x := zQ x
  have := x.size
  have f := f.keep0 x
  have d := d.keep0 x
  have hb := grow_step0 hb x
  have x := Rep.fits h
  refine zD (zA hN rfl) (zB (a _ _ (zF fun _ a => wp_block (loop_m (fun mz_ az_ w' => ∃ (m : Nat), mz_ = (m + 1) ∧ (Sl az_ 0 (ptr p 0)) ∧ (Sl az_ 4 (.int .i64 0)) ∧ (Sl az_ 5 (.int .i64 ((m : Nat) : Int))) ∧ (m ≤ (L.set k.toNat []).length) ∧ (cutL (L.set k.toNat []) = cutL ((L.set k.toNat []).take m)) ∧ (w.grownBy w' (pgRow p n vb)) ∧ (y.heap.size ≤ w'.heap.size) ∧ (Bx w' p 50 [o]) ∧ (Own w' base 5 1 o 256 ((ptsB g k.toNat 0 0).map u8v))) _ hN hd ⟨L.length, rfl, (zL hN rfl c), (zU hN rfl), (zU hN rfl).trans (congrArg (Value.int .i64) (by simp)), (by simp), (by rw [List.take_of_length_le (by simp)]), hb, (Nat.le_refl _), f, d⟩ ?_))))
  rintro _ B D c z ⟨m, rfl, y, A, x, o, hcu, hb, C, f, d⟩
  have := hb.size
  refine zF fun _ e => zF fun _ B => zH (zG (zC c rfl x) (op_gtr (zA c rfl) rfl (fun C => ?_) (fun C => ?_)))
  ·
   refine zG (zA c rfl) (zS (j := 2) (dj := 21) (b := true) rfl rfl rfl (zA c rfl) (zG (zC c rfl y) ?_))
   refine zS (j := 2) (dj := 21) (b := true) rfl rfl rfl (zA c rfl) (zG (zC c rfl x) (zS (j := 2) (dj := 21) (b := true) rfl rfl rfl (zA c rfl) (op_sub (r := ((m - 1 : Nat) : Int)) (zA c rfl) rfl (by rw [IntKind.wrap_i64]; omega) (zS (j := 2) (dj := 21) (b := true) rfl rfl rfl (zA c rfl) (zj ok38 (size_ret (ptsB g k.toNat 0 0) _ _ _ _ (by first | assumption | exact Rep.len (by assumption)) f d (L.set k.toNat []) h ((m - 1 : Nat) : Int) zx) ⟨(zA c rfl), ⟨(zA c rfl), trivial⟩⟩ ?_)))))
   rintro _ D ⟨C, rfl⟩
   have C := zQ C
   have := C.size
   have f := f.keep0 C
   have d := d.keep0 C
   have hb := grow_step0 hb C
   have C := sizeL_le h ((m - 1 : Nat) : Int)
   refine zS (j := 2) (dj := 21) (b := true) rfl rfl rfl (zA c rfl) (op_eql (zA c rfl) rfl (fun C => ?_) (fun C => ?_))
   ·
    refine zc (zA c rfl) (zA c rfl) (zB (B _ _ (wp_cond_true (zA c rfl) (wp_skip (e _ _ (wp_block (zH (zG (zC c rfl x) (op_sub (r := ((m - 1 : Nat) : Int)) (zA c rfl) rfl (by rw [IntKind.wrap_i64]; omega) (zD (zA c rfl) (zB (blk_normal ?_))))))))))))
    -- round 13F 20T 26T
    have hsm := sizeL_in (L := (L.set k.toNat [])) (s := m - 1) zx
    exact zg _ c z ⟨(m - 1), rfl, (zL c rfl y), (zL c rfl A), (zU c rfl).trans (congrArg (Value.int .i64) zx), zx, (hcu.trans (cutL_go zx o (List.eq_nil_of_length_eq_zero zx))), hb, zx, f, d⟩ zx
   refine zc (zA c rfl) (zA c rfl) (zB (B _ _ (wp_cond_false (zA c rfl) (wp_exit (then_exit (then_exit (blk_hit (a _ _ ?_))))))))
   exact l _ _ _ c z ⟨m, (zL c rfl y), (zL c rfl A), (zL c rfl x), o, (hcu.trans (cutL_stop o (.inr (fun e => by have h8 := sizeL_in (L := (L.set k.toNat [])) (s := m - 1) zx; rw [e] at h8; simp at h8; omega)))), hb, zx, f, d⟩
  refine zG (zA c rfl) (zR (j := 2) (dj := 21) (b := true) rfl rfl rfl (zA c rfl) rfl rfl (zR (j := 2) (dj := 21) (b := true) rfl rfl rfl (zA c rfl) rfl rfl (zR (j := 2) (dj := 21) (b := true) rfl rfl rfl (zA c rfl) rfl rfl (zR (j := 2) (dj := 21) (b := true) rfl rfl rfl (zA c rfl) rfl rfl (zR (j := 2) (dj := 21) (b := true) rfl rfl rfl (zA c rfl) rfl rfl (zd (zA c rfl) rfl (zB (B _ _ (wp_cond_false (zA c rfl) (wp_exit (then_exit (then_exit (blk_hit (a _ _ ?_))))))))))))))
  exact l _ _ _ c z ⟨m, (zL c rfl y), (zL c rfl A), (zL c rfl x), o, (hcu.trans (cutL_stop o (.inl zx))), hb, zx, f, d⟩
 rintro A B c l ⟨m, x, y, e, o, hcu, hb, z, f, d⟩
 have := hb.size
 refine zF fun _ a => zH ?_
 have y : m ≤ L.length := by simpa using o
 refine zG (zC c rfl x) (zG (zC c rfl e) (zj ok42 (set_ret (ptsB g k.toNat 0 0) _ _ _ _ (by first | assumption | exact Rep.len (by assumption)) f d 0 m zx zx) ⟨(zA c rfl), ⟨rfl, ⟨(zA c rfl), trivial⟩⟩⟩ ?_))
 rintro _ x ⟨e, rfl, o⟩
 have := e.size
 have f := f.keepO d e zz
 have hb := grow_stepP hb e q
 have d : (setB (ptsB g k.toNat 0 0) 0 m).length = 256 := (setB_len _ _ _).trans (by first | assumption | exact Rep.len (by assumption))
 have d := h.cut (m := m) zx
 refine zB (a _ _ (zF fun _ a => zH (zD rfl (zB (a _ _ (wp_ret (ret1 rfl l (zA c rfl) ⟨_, rfl, ?_⟩)))))))
 obtain ⟨t, v⟩ := drop_ok (L := L) (k := k) zx
 rw [t, v, hcu]
 exact ⟨hb, rfl, ⟨_, _, _, f, o, d.pg, (RowP.laid zz q)⟩⟩

theorem slots_ret (L : List By) (bs : By) (n : Nat) (vb : Value) (base p : Nat) (w : World) (hbase : base ≤ w.heap.size) (hx : Bx w p 50 [vb]) (O : Own w base 5 1 vb n (bs.map u8v)) (hP : Pg n bs L vb)  : Ret Try.prog 12 #[(ptr p 0)] w (fun v' w' => w.grownBy w' (pgRow p n vb) ∧ ∃ x, v' = x ∧ Own w' w.heap.size 3 1 x (slotsI L L.length).length ((slotsI L L.length).map (Value.int .i64)) ∧ ∃ u n' bs', Bx w' p 50 [u] ∧ Own w' base 5 1 u n' (bs'.map u8v) ∧ Pg n' bs' (L) u ∧ RowP p n' u (pgRow p n vb) w.heap.size) := by
 have hb := grown_refl w (pgRow p n vb)
 refine enter (N := 24) Try.func12 rfl rfl (by simp) fun a hN hd hA => ?_
 have b : a.tmps.getD 0 undef = (ptr p 0) := hA 0 (by simp)
 clear hA
 refine zF fun _ c => zH (zD rfl (zB (c _ _ (zF fun _ c => zF fun _ a => zH (zG (zC hN rfl b) ?_)))))
 refine op_peq_some ptrt24 (zA hN rfl) rfl (zB (a _ _ (wp_cond_false (zA hN rfl) (wp_skip (c _ _ (zF fun _ c => zH (zG (zC hN rfl b) (zj ok36 (ready_ret L bs n _ _ _ _ hbase hx O hP) ⟨(zA hN rfl), trivial⟩ ?_))))))))
 rintro _ o ⟨k, rfl, j, h, f, d, g, l⟩
 have := k.size
 have hb := grown_trans hb k
 refine zB (c _ _ (zF fun _ c => zH (zD rfl ?_)))
 refine zB (c _ _ (zF fun _ c => zF fun _ a => zH (zG (zC hN rfl b) (zj ok37 (many_ret h _ _ _ _ (by first | assumption | exact Rep.len (by assumption)) f d L g) ⟨(zA hN rfl), trivial⟩ ?_))))
 rintro _ o ⟨k, rfl⟩
 have k := zQ k
 have := k.size
 have f := f.keep0 k
 have d := d.keep0 k
 have hb := grow_step0 hb k
 have k := Rep.fits g
 refine zG rfl (zB (a _ _ (wp_block (loop_m (fun mz_ az_ w' => ∃ (m : Nat) (x : Value), mz_ = L.length - m ∧ (Sl az_ 0 (ptr p 0)) ∧ (Sl az_ 2 (.slice none 0 0)) ∧ (Sl az_ 10 (.int .i64 ((L.length : Nat) : Int))) ∧ (Sl az_ 11 (.int .i64 ((m : Nat) : Int))) ∧ (Sl az_ 3 x) ∧ (m ≤ L.length) ∧ (w.grownBy w' (pgRow p n vb)) ∧ (o.heap.size ≤ w'.heap.size) ∧ (Bx w' p 50 [j]) ∧ (Own w' base 5 1 j 256 (h.map u8v)) ∧ (Own w' w.heap.size 3 1 x (slotsI L m).length ((slotsI L m).map (Value.int .i64)))) _ hN hd ⟨0, _, rfl, (zL hN rfl b), (zU hN rfl), (zU hN rfl), (zU hN rfl), (zU hN rfl), Nat.zero_le _, hb, (Nat.le_refl _), f, d, (Own.nil _ _ _ _)⟩ ?_))))
 rintro _ y A b o ⟨m, x, rfl, r, v, q, k, t, hm, hb, z, f, d, j⟩
 have := hb.size
 refine zF fun _ a => zH (op_lss (zC b rfl k) (zC b rfl q) (fun y => ?_) (fun y => ?_))
 ·
  refine zB (a _ _ (zF fun _ a => wp_cond_true (zA b rfl) (wp_skip (a _ _ (zF fun _ a => wp_block (zF fun _ y => zH (zG (zC b rfl k) (zD (zA b rfl) ?_))))))))
  refine zB (y _ _ (zF fun _ y => zH (zG (zC b rfl r) (zG (zA b rfl) (zj ok38 (size_ret h _ _ _ _ (by first | assumption | exact Rep.len (by assumption)) f d L g ((m : Nat) : Int) zx) ⟨(zA b rfl), ⟨(zA b rfl), trivial⟩⟩ ?_)))))
  rintro _ z ⟨h, rfl⟩
  have h := zQ h
  have := h.size
  have f := f.keep0 h
  have d := d.keep0 h
  have j := j.keep0 h
  have hb := grow_step0 hb h
  have h := sizeL_le g ((m : Nat) : Int)
  refine op_gtr (zA b rfl) rfl (fun h => ?_) (fun h => ?_)
  ·
   refine zB (y _ _ (wp_cond_true (zA b rfl) (zH ?_)))
   have hslen := slotsI_len L m
   have hsg := slotsI_go (L := L) (m := m) (by have := sizeL_in (L := L) (s := m) zx; omega)
   have hmm := g.fits
   refine zG (zC b rfl t) (zG (zA b rfl) (op_bslice (e := 3) (pv := [(0, (.int .i64 ((m : Nat) : Int)))]) (cs := [(.int .i64 ((m : Nat) : Int))]) ⟨rfl, (zA b rfl), trivial⟩ zy ?_))
   intro D C A B z h
   have := h.size
   have j := j.keep0 h
   have hb := grow_step0 hb h
   have A := j
   refine op_append slt29 (zA b rfl) A (zA b rfl) (Src.ofRd Try.underlying29 zz (RdC.ofBx (sz := 1) (n := 1) z rfl zz) (by simp [Value.oneCell', u8v])) (by unfold maxLen; omega) zx hb.size ?_
   intro D C B z E
   have := z.size
   have f := (f.keep0 h).keepO A z zz
   have d := (d.keep0 h).keepT A z zz
   have hb := grow_stepO hb A z zx
   have B : Own C w.heap.size 3 1 D (slotsI L (m + 1)).length (((slotsI L (m + 1))).map (Value.int .i64)) := by rw [hsg]; exact B.cast (by rw [List.length_append]; rfl) (by rw [List.map_append]; rfl)
   refine zD (zA b rfl) (zB (a _ _ (zH (op_add (zC b rfl k) rfl (add64 zx) (zG (zA b rfl) (zB ?_))))))
   -- round 12T 17T
   have hsm := sizeL_in (L := L) (s := m) zx
   exact zg _ b o ⟨(m + 1), _, rfl, (zL b rfl r), (zL b rfl v), (zL b rfl q), (zU b rfl).trans (congrArg (Value.int .i64) zx), (zU b rfl), zx, hb, zx, f, d, (B.cast rfl rfl)⟩ zx
  refine zB (y _ _ (wp_cond_false (zA b rfl) (wp_skip (a _ _ (zH (op_add (zC b rfl k) rfl (add64 zx) (zG (zA b rfl) (zB ?_))))))))
  -- round 12T 17F
  have hsm := sizeL_in (L := L) (s := m) zx
  exact zg _ b o ⟨(m + 1), _, rfl, (zL b rfl r), (zL b rfl v), (zL b rfl q), (zU b rfl).trans (congrArg (Value.int .i64) zx), (zL b rfl t), zx, hb, zx, f, d, (j.cast (by rw [slotsI_skip zx]) (by rw [slotsI_skip zx]))⟩ zx
 refine zB (a _ _ (zF fun _ a => wp_cond_false (zA b rfl) (wp_exit (then_exit (then_exit (blk_hit (c _ _ (zF fun _ c => zH (zG (zC b rfl t) (zD (zA b rfl) (zB (c _ _ (wp_ret (ret1 rfl o (zA b rfl) ⟨_, rfl, ?_⟩))))))))))))))
 have hme : m = L.length := by omega
 subst hme
 exact ⟨hb, _, rfl, j, ⟨_, _, _, f, d, g.pg, (RowP.laid zz l)⟩⟩

theorem new_ret (w : World) : Ret Try.prog 10 #[] w (fun v' w' => Below w.heap.size w w' ∧ ∃ p, v' = ptr p 0 ∧ w.heap.size ≤ p ∧ Bx w' p 50 [.slice none 0 0]) := by
 have hb := Below.refl w.heap.size w
 refine enter (N := 3) Try.func10 rfl rfl (by simp) fun a hN hd hA => ?_
 clear hA
 refine zF fun _ a => zH (zD rfl (zB (a _ _ (zF fun _ a => zH (zf (pv := []) (v := (Value.agg #[(.slice none 0 0)])) trivial zy (op_box (cs := [(.slice none 0 0)]) (zA hN rfl) rfl ?_))))))
 intro e g d f c b
 obtain ⟨hb, _⟩ := yE hb b
 refine zD (zA hN rfl) (zB (a _ _ (wp_ret (ret1 rfl hd (zA hN rfl) ⟨_, rfl, ?_⟩))))
 exact ⟨hb, _, rfl, d, c⟩

end Go.Proofs.Ytdhpalioifjfbaa

namespace Go.Proofs.Ytdhpalioifjfbaa
open Go.Gx Go.RowKit

theorem pg_out {base p n n' : Nat} {L' : List By} {F : Nat → Prop} {w w' : World} {vb u : Value} {bs' : By} (h0 : base ≤ p) (hx : Bx w p 50 [vb]) (hF : ∀ x, F x ↔ x = p ∨ Bl vb x) (E : w.grownBy w' (pgRow p n vb)) (hx' : Bx w' p 50 [u]) (O' : Own w' base 5 1 u n' (bs'.map u8v)) (P' : Pg n' bs' L' u) (hR : RowP p n' u (pgRow p n vb) w.heap.size) :
    Gr w w' F ∧ ∃ F', PageR w' base p L' F' ∧ NewF w.heap.size F F' := by
  have hrow : ∀ x, pgRow p n vb = some x → F x := fun x hx => by
    unfold pgRow at hx
    split at hx
    · injection hx with hx; exact (hF x).2 (.inl hx.symm)
    · exact (hF x).2 (.inr hx)
  refine ⟨(Gr.of E).mono fun x _ hx => hrow x hx, _, ⟨u, n', bs', h0, hx', O', P', fun x => Iff.rfl⟩, fun x hx => ?_⟩
  rcases hx with rfl | hx
  · exact .inl ((hF x).2 (.inl rfl))
  · rcases hR.ro with q | q
    · exact .inl (hrow x (q.symm.trans hx))
    · exact .inr (q x hx)
theorem pg_put {base p : Nat} {L : List By} {F : Nat → Prop} {w : World} (h : PageR w base p L F) (hbase : base ≤ w.heap.size) {r : By} {bv : Value} {Lo Bo : Nat} (hbr : RdC w Lo Bo 1 bv r.length (r.map u8v)) (hap : ∀ x, F x → x < Lo ∨ Bo ≤ x) (hBw : Bo ≤ w.heap.size)  : Ret Try.prog 11 #[ptr p 0, bv] w (fun v' w' =>  Gr w w' F ∧ v' = .tuple #[.int .i64 (putK L r), .int .i64 (putE L r)] ∧ ∃ F', PageR w' base p (putN L r) F' ∧ NewF w.heap.size F F') := by
  obtain ⟨vb, n, bs, h0, hx, O, hP, hF⟩ := h
  have hap2 : ∀ q, pgRow p n vb = some q → q < Lo ∨ Bo ≤ q := fun q hq => hap q ((hF q).2 (by
    unfold pgRow at hq
    split at hq
    · injection hq with hq; exact .inl hq.symm
    · exact .inr hq))
  refine (put_ret L bs n vb base p w hbase hx O hP r bv Lo Bo hbr hap2 hBw).mono fun v' w' q => ?_
  obtain ⟨E, hv, u, n', bs', hx', O', P', hR⟩ := q
  obtain ⟨E2, F', hP', hN'⟩ := pg_out h0 hx hF E hx' O' P' hR
  exact ⟨E2, hv, F', hP', hN'⟩
theorem pg_set {base p : Nat} {L : List By} {F : Nat → Prop} {w : World} (h : PageR w base p L F) (hbase : base ≤ w.heap.size) {r : By} {bv : Value} {Lo Bo : Nat} (hbr : RdC w Lo Bo 1 bv r.length (r.map u8v)) (hap : ∀ x, F x → x < Lo ∨ Bo ≤ x) (hBw : Bo ≤ w.heap.size) (k : Int) (hk : -9223372036854775808 ≤ k ∧ k ≤ 9223372036854775807)  : Ret Try.prog 20 #[ptr p 0, .int .i64 k, bv] w (fun v' w' =>  Gr w w' F ∧ v' = .int .i64 (setE L k r) ∧ ∃ F', PageR w' base p (setN L k r) F' ∧ NewF w.heap.size F F') := by
  obtain ⟨vb, n, bs, h0, hx, O, hP, hF⟩ := h
  have hap2 : ∀ q, pgRow p n vb = some q → q < Lo ∨ Bo ≤ q := fun q hq => hap q ((hF q).2 (by
    unfold pgRow at hq
    split at hq
    · injection hq with hq; exact .inl hq.symm
    · exact .inr hq))
  refine (setx_ret L bs n vb base p w hbase hx O hP r bv Lo Bo hbr hap2 hBw k hk).mono fun v' w' q => ?_
  obtain ⟨E, hv, u, n', bs', hx', O', P', hR⟩ := q
  obtain ⟨E2, F', hP', hN'⟩ := pg_out h0 hx hF E hx' O' P' hR
  exact ⟨E2, hv, F', hP', hN'⟩
theorem pg_drop {base p : Nat} {L : List By} {F : Nat → Prop} {w : World} (h : PageR w base p L F) (hbase : base ≤ w.heap.size) (k : Int) (hk : -9223372036854775808 ≤ k ∧ k ≤ 9223372036854775807)  : Ret Try.prog 13 #[ptr p 0, .int .i64 k] w (fun v' w' =>  Gr w w' F ∧ v' = .int .i64 (dropE L k) ∧ ∃ F', PageR w' base p (dropN L k) F' ∧ NewF w.heap.size F F') := by
  obtain ⟨vb, n, bs, h0, hx, O, hP, hF⟩ := h
  refine (drop_ret L bs n vb base p w hbase hx O hP k hk).mono fun v' w' q => ?_
  obtain ⟨E, hv, u, n', bs', hx', O', P', hR⟩ := q
  obtain ⟨E2, F', hP', hN'⟩ := pg_out h0 hx hF E hx' O' P' hR
  exact ⟨E2, hv, F', hP', hN'⟩
theorem pg_slots {base p : Nat} {L : List By} {F : Nat → Prop} {w : World} (h : PageR w base p L F) (hbase : base ≤ w.heap.size)  : Ret Try.prog 12 #[ptr p 0] w (fun v' w' =>  Gr w w' F ∧ Own w' w.heap.size 3 1 v' (slotsI L L.length).length ((slotsI L L.length).map (Value.int .i64)) ∧ ∃ F', PageR w' base p (L) F' ∧ NewF w.heap.size F F') := by
  obtain ⟨vb, n, bs, h0, hx, O, hP, hF⟩ := h
  refine (slots_ret L bs n vb base p w hbase hx O hP ).mono fun v' w' q => ?_
  obtain ⟨E, x, rfl, OX, u, n', bs', hx', O', P', hR⟩ := q
  obtain ⟨E2, F', hP', hN'⟩ := pg_out h0 hx hF E hx' O' P' hR
  exact ⟨E2, OX, F', hP', hN'⟩
theorem pg_get {base p : Nat} {L : List By} {F : Nat → Prop} {w : World} (h : PageR w base p L F) (hbase : base ≤ w.heap.size) (k : Int) (hk : -9223372036854775808 ≤ k ∧ k ≤ 9223372036854775807)  : Ret Try.prog 15 #[ptr p 0, .int .i64 k] w (fun v' w' =>  Gr w w' F ∧ ∃ x, v' = .tuple #[x, .int .i64 (dropE L k)] ∧ Own w' w.heap.size 5 1 x (getL L k).length ((getL L k).map u8v) ∧ ∃ F', PageR w' base p (L) F' ∧ NewF w.heap.size F F') := by
  obtain ⟨vb, n, bs, h0, hx, O, hP, hF⟩ := h
  refine (get_ret L bs n vb base p w hbase hx O hP k hk).mono fun v' w' q => ?_
  obtain ⟨E, x, rfl, OX, u, n', bs', hx', O', P', hR, hd⟩ := q
  obtain ⟨E2, F', hP', hN'⟩ := pg_out h0 hx hF E hx' O' P' hR
  refine ⟨E2, x, rfl, OX, F', hP', hN'⟩
theorem pg_new {p : Nat} {w : World} {base : Nat} (h0 : base ≤ p) (hx : Bx w p 50 [.slice none 0 0]) : PageR w base p [] (fun x => x = p) :=
  ⟨.slice none 0 0, 0, [], h0, hx, Own.nil _ _ _ _, Pg.zero, fun x => ⟨.inl, fun q => q.elim id fun q => (by cases q)⟩⟩
end Go.Proofs.Ytdhpalioifjfbaa

namespace Go.Proofs.Ytdhpalioifjfbaa
open Go.Gx Go.RowKit
theorem putN_same {L : List By} {r : By} (h : putE L r ≠ 0) : putN L r = L := by
  unfold putE at h; unfold putN
  split at h
  · rw [if_pos (by assumption)]
  · rename_i hb
    rw [if_neg hb]
    split at h
    · rw [if_pos (by assumption)]
    · exact absurd rfl h
theorem putE_bad {L : List By} {r : By} (h : badB r = true) : putE L r = 7 := (put_bad h).1
theorem putE_nil {r : By} (h : badB r = false) : putE [] r = 0 := by
  refine (put_ok h ?_).1
  unfold badB at h
  simp only [Bool.or_eq_false_iff, decide_eq_false_iff_not] at h
  show ¬ leftL [] (max 0 (0 + 1)) < (r.length : Int)
  unfold leftL sumL
  simp; omega
theorem mlook_val {P : PM} {z : Int} {L : List By} (hg : mget P z = some L) : ∃ j, mlook P z = some (j, L) ∧ j < P.length ∧ P.getD j default = (z, L) := by
  unfold mget at hg
  obtain ⟨⟨j, t⟩, hq, rfl⟩ := Option.map_eq_some_iff.1 hg
  have hj := mlook_some hq
  obtain ⟨hjl, hjv⟩ := List.getElem?_eq_some_iff.1 hj
  exact ⟨j, hq, hjl, by simp [List.getD_eq_getElem?_getD, hj]⟩
section
variable {w w' : World} {base k m p : Nat} {P P' : PM} {ps : List Nat} {M : AM} {nx z : Int} {L L' : List By} {F F' G : Nat → Prop} {r : By}
theorem PgAll.key (h : PgAll w base P ps F) (hg : mget P z = some L) : ∃ p F1, mget (esP P ps) z = some p ∧ PageR w base p L F1 ∧ (∀ x, F1 x → F x) ∧
    ∀ (w' : World) (L' : List By) (F2 : Nat → Prop), Gr w w' F1 → PageR w' base p L' F2 → NewF w.heap.size F1 F2 → Gr w w' F ∧ ∃ F', PgAll w' base (mput P z L') ps F' ∧ NewF w.heap.size F F' := by
  obtain ⟨j, hq, hj, hv⟩ := mlook_val hg
  obtain ⟨F1, h1, h2, h3⟩ := h.at hj
  rw [hv] at h1
  refine ⟨ps.getD j 0, F1, ?_, h1, h2, fun w' L' F2 E hP hN => ⟨E.mono fun x _ hx => h2 x hx, ?_⟩⟩
  · unfold mget; rw [esP_look h.1, hq]; rfl
  · have hput : mput P z L' = P.set j (z, L') := by unfold mput; rw [hq]
    rw [hput]; exact h3 w' z L' F2 E hP hN
theorem esP_mput (h : ps.length = P.length) (hg : mget P z = some L) : esP (mput P z L') ps = esP P ps := by
  obtain ⟨j, hq, hj, hv⟩ := mlook_val hg
  have hput : mput P z L' = P.set j (z, L') := by unfold mput; rw [hq]
  rw [hput]; exact esP_set h (fun _ => by rw [hv])
theorem esP_new (h : ps.length = P.length) (hg : z ∉ P.map Prod.fst) : mput P z L = P ++ [(z, L)] ∧ mput (esP P ps) z p = esP (P ++ [(z, L)]) (ps ++ [p]) := by
  constructor
  · unfold mput; rw [mlook_none.2 hg]
  · unfold mput; rw [mlook_none.2 (by rw [esP_keys h]; exact hg)]; exact (esP_snoc h).symm
theorem PgAll.del (h : PgAll w base P ps F) (hg : mget P z = some L) : ∃ ps' F2, PgAll w base (mdel P z) ps' F2 ∧ (∀ x, F2 x → F x) ∧ mdel (esP P ps) z = esP (mdel P z) ps' := by
  obtain ⟨j, hq, hj, hv⟩ := mlook_val hg
  obtain ⟨F2, h1, h2⟩ := h.erase hj
  have hd : mdel P z = P.eraseIdx j := by unfold mdel; rw [hq]
  refine ⟨ps.eraseIdx j, F2, by rw [hd]; exact h1, h2, ?_⟩
  rw [hd]; unfold mdel; rw [esP_look h.1, hq]; exact esP_erase.symm
def PutsP (P : PM) (nx : Int) (r : By) (e : Int) (to : Int × Int) (P' : PM) (nx' : Int) : Prop :=
  (badB r = true ∧ e = 7 ∧ P' = P ∧ nx' = nx) ∨ (badB r = false ∧ e = 0 ∧ ((∃ L, mget P to.1 = some L ∧ putE L r = 0 ∧ to.2 = putK L r ∧ P' = mput P to.1 (putN L r) ∧ nx' = nx) ∨ (to = (nx + 1, putK [] r) ∧ P' = P ++ [(nx + 1, putN [] r)] ∧ nx' = nx + 1)))
def DropsP (P : PM) (at_ : Int × Int) (P' : PM) : Prop :=
  ∃ L, mget P at_.1 = some L ∧ ((slotsI (dropN L at_.2) (dropN L at_.2).length = [] ∧ P' = mdel P at_.1) ∨ (slotsI (dropN L at_.2) (dropN L at_.2).length ≠ [] ∧ P' = mput P at_.1 (dropN L at_.2)))
theorem slotsN_has : ∀ {L : List By} {m s : Nat}, s ∈ slotsN L m ↔ s < m ∧ (L.getD s []).length ≠ 0 := by
  intro L m
  induction m with
  | zero => intro s; simp [slotsN]
  | succ m ih =>
    intro s
    by_cases h : (L.getD m []).length ≠ 0
    · rw [slotsN_go h, List.mem_append, ih, List.mem_singleton]
      constructor
      · rintro (⟨a, b⟩ | rfl)
        · exact ⟨by omega, b⟩
        · exact ⟨by omega, h⟩
      · rintro ⟨a, b⟩
        by_cases hs : s = m
        · exact .inr hs
        · exact .inl ⟨by omega, b⟩
    · rw [slotsN_skip (by omega), ih]
      constructor
      · rintro ⟨a, b⟩; exact ⟨by omega, b⟩
      · rintro ⟨a, b⟩
        refine ⟨?_, b⟩
        by_cases hs : s = m
        · subst hs; exact absurd b h
        · omega
theorem slots_none {L : List By} : slotsI L L.length = [] ↔ ∀ k, getL L k = [] := by
  unfold slotsI
  rw [List.map_eq_nil_iff, List.eq_nil_iff_forall_not_mem]
  constructor
  · intro h k
    by_cases hk : k < 0
    · exact getL_neg hk
    · obtain ⟨s, rfl⟩ : ∃ s : Nat, k = (s : Int) := ⟨k.toNat, by omega⟩
      rw [getL_nat]
      have := h s
      rw [slotsN_has] at this
      by_cases hs : s < L.length
      · exact List.eq_nil_of_length_eq_zero (by omega)
      · simp [List.getD_eq_getElem?_getD, List.getElem?_eq_none (show L.length ≤ s by omega)]
  · intro h s hs
    rw [slotsN_has] at hs
    have := h s
    rw [getL_nat] at this
    exact hs.2 (by rw [this]; rfl)
end
section
variable {P P' : PM} {M : AM} {nx nx' id e : Int} {r : By} {to at_ : Int × Int}
theorem HInv.fresh (h : HInv P nx M) : nx + 1 ∉ P.map Prod.fst := fun q => by have := h.nums _ q; omega
theorem PutsP.num (h : PutsP P nx r e to P' nx') (hn : 0 ≤ nx) : 0 ≤ nx' ∧ nx ≤ nx' ∧ nx' ≤ nx + 1 := by
  rcases h with ⟨_, _, _, rfl⟩ | ⟨_, _, ⟨L, _, _, _, _, rfl⟩ | ⟨_, _, rfl⟩⟩ <;> omega
theorem PutsP.get (h : PutsP P nx r e to P' nx') (hI : HInv P nx M) (hn : 0 ≤ nx) (he : badB r = false) : gH P to = [] ∧ r ≠ [] ∧ (P'.map Prod.fst).Nodup ∧ (∀ a, gH P' a = if a = to then r else gH P a) ∧ (∀ i, i ∈ P'.map Prod.fst ↔ i ∈ P.map Prod.fst ∨ i = to.1) ∧ 1 ≤ to.1 ∧ to.1 ≤ nx' ∧ nx ≤ nx' := by
  rcases h with ⟨hb, _⟩ | ⟨_, _, h⟩
  · rw [he] at hb; cases hb
  · rcases h with ⟨L, hg, hz, hk, rfl, rfl⟩ | ⟨rfl, rfl, rfl⟩
    · have hpA : pAt P to.1 = L := by unfold pAt; rw [hg]; rfl
      have hmem : to.1 ∈ P.map Prod.fst := List.mem_map.2 ⟨_, mget_mem hg, rfl⟩
      have hnum := hI.nums _ hmem
      refine ⟨by unfold gH; rw [hpA, hk]; exact putN_was hz, (putE_ne hz).1, nodup_mput hI.kp, fun a => ?_, fun i => keys_put, hnum.1, hnum.2, Int.le_refl _⟩
      rw [gH_put hI.kp]
      by_cases h1 : a.1 = to.1
      · rw [if_pos h1, putN_get hz]
        by_cases h2 : a.2 = putK L r
        · rw [if_pos h2, if_pos (Prod.ext h1 (h2.trans hk.symm))]
        · rw [if_neg h2, if_neg fun q => h2 (by rw [q, hk])]
          unfold gH; rw [h1, hpA]
      · rw [if_neg h1, if_neg fun q => h1 (by rw [q])]
    · have hf := hI.fresh
      have e1 : P ++ [(nx + 1, putN [] r)] = mput P (nx + 1) (putN [] r) := by unfold mput; rw [mlook_none.2 hf]
      have hz := putE_nil he
      refine ⟨?_, (putE_ne hz).1, by rw [e1]; exact nodup_mput hI.kp, fun a => ?_, fun i => by rw [e1]; exact keys_put, ?_, Int.le_refl _, by omega⟩
      · by_cases hq : gH P (nx + 1, putK [] r) = []
        · exact hq
        · exact absurd (gH_key hq) hf
      · rw [e1, gH_put hI.kp]
        by_cases h1 : a.1 = nx + 1
        · rw [if_pos h1, putN_get hz, getL_zero]
          by_cases h2 : a.2 = putK [] r
          · rw [if_pos h2, if_pos (Prod.ext h1 h2)]
          · rw [if_neg h2, if_neg fun q => h2 (by rw [q])]
            by_cases hq : gH P a = []
            · exact hq.symm
            · exact absurd (gH_key hq) (by rw [h1]; exact hf)
        · rw [if_neg h1, if_neg fun q => h1 (by rw [q])]
      · show 1 ≤ nx + 1
        omega
theorem DropsP.get (h : DropsP P at_ P') (hk : (P.map Prod.fst).Nodup) (hat : gH P at_ ≠ []) : (P'.map Prod.fst).Nodup ∧ (∀ a, gH P' a = if a = at_ then [] else gH P a) ∧ (∀ i ∈ P'.map Prod.fst, i ∈ P.map Prod.fst) ∧ (∀ i ∈ P'.map Prod.fst, (∃ s, gH P (i, s) ≠ []) → ∃ s, gH P' (i, s) ≠ []) := by
  obtain ⟨L, hg, h⟩ := h
  have hpA : pAt P at_.1 = L := by unfold pAt; rw [hg]; rfl
  have hz : sizeL L at_.2 ≠ 0 := fun q => hat (by unfold gH; rw [hpA]; exact size_get.1 q)
  have hmem : at_.1 ∈ P.map Prod.fst := List.mem_map.2 ⟨_, mget_mem hg, rfl⟩
  rcases h with ⟨hs, rfl⟩ | ⟨hs, rfl⟩
  · rw [slots_none] at hs
    refine ⟨nodup_mdel hk, fun a => ?_, fun i hi => ((mdel_keys hk).1 hi).1, fun i hi ⟨s, hq⟩ => ⟨s, ?_⟩⟩
    · rw [gH_del hk]
      by_cases h1 : a.1 = at_.1
      · rw [if_pos h1]
        by_cases h2 : a = at_
        · rw [if_pos h2]
        · rw [if_neg h2]
          have h3 := hs a.2
          rw [dropN_get hz, if_neg fun q => h2 (Prod.ext h1 q)] at h3
          unfold gH; rw [h1, hpA]; exact h3.symm
      · rw [if_neg h1, if_neg fun q => h1 (by rw [q])]
    · rw [gH_del hk, if_neg ((mdel_keys hk).1 hi).2]; exact hq
  · refine ⟨nodup_mput hk, fun a => ?_, fun i hi => (keys_put.1 hi).elim id fun q => q ▸ hmem, fun i hi ⟨s, hq⟩ => ?_⟩
    · rw [gH_put hk]
      by_cases h1 : a.1 = at_.1
      · rw [if_pos h1, dropN_get hz]
        by_cases h2 : a.2 = at_.2
        · rw [if_pos h2, if_pos (Prod.ext h1 h2)]
        · rw [if_neg h2, if_neg fun q => h2 (by rw [q])]
          unfold gH; rw [h1, hpA]
      · rw [if_neg h1, if_neg fun q => h1 (by rw [q])]
    · by_cases h1 : i = at_.1
      · have h2 : ¬ ∀ k, getL (dropN L at_.2) k = [] := fun q => hs (slots_none.2 q)
        obtain ⟨k, hk2⟩ := Classical.not_forall.1 h2
        exact ⟨k, by rw [gH_put hk, if_pos h1]; exact hk2⟩
      · exact ⟨s, by rw [gH_put hk, if_neg h1]; exact hq⟩
theorem puts_new (h : PutsP P nx r e to P' nx') (hI : HInv P nx M) (hn : 0 ≤ nx) (he : badB r = false) (hm : mget M id = none) : HInv P' nx' (mput M id to) ∧ recs P' (mput M id to) = mput (recs P M) id r := by
  obtain ⟨h1, h2, h3, h4, h5, h6, h7, h8⟩ := h.get hI hn he
  refine hI.of_move h3 (fun i hi => ?_) h2 h1 (fun e he2 hq => absurd (List.mem_map.2 ⟨e, he2, hq⟩) (mget_none.1 hm)) (fun a => by rw [h4, hm]; rfl) (fun i hi => ?_)
  · rcases (h5 i).1 hi with q | q
    · have := hI.nums i q; omega
    · omega
  · by_cases q : i = to.1
    · exact ⟨to.2, by rw [h4, q, if_pos rfl]; exact h2⟩
    · obtain ⟨s, hs⟩ := hI.ne i (((h5 i).1 hi).resolve_right q)
      exact ⟨s, by rw [h4]; split; exact h2; exact hs⟩
theorem puts_old {P2 : PM} (h : PutsP P nx r e to P' nx') (hI : HInv P nx M) (hn : 0 ≤ nx) (he : badB r = false) (hm : mget M id = some at_) (hD : DropsP P' at_ P2) : HInv P2 nx' (mput M id to) ∧ recs P2 (mput M id to) = mput (recs P M) id r := by
  obtain ⟨h1, h2, h3, h4, h5, h6, h7, h8⟩ := h.get hI hn he
  obtain ⟨hin, hat⟩ := hI.key hm
  have hne : at_ ≠ to := fun q => hat (by rw [q]; exact h1)
  obtain ⟨d1, d2, d3, d4⟩ := hD.get h3 (by rw [h4, if_neg hne]; exact hat)
  refine hI.of_move d1 (fun i hi => ?_) h2 h1 (fun e2 he2 hq => .inl ?_) (fun a => ?_) (fun i hi => d4 i hi ?_)
  · rcases (h5 i).1 (d3 i hi) with q | q
    · have := hI.nums i q; omega
    · omega
  · have : mget M e2.1 = some e2.2 := mget_of_mem hI.km (show (e2.1, e2.2) ∈ M from he2)
    rw [hq, hm] at this
    rw [d2, if_pos (Option.some.inj this).symm]
  · rw [d2, h4, hm]
    by_cases q1 : a = to
    · simp only [if_pos q1]; rw [if_neg fun q => hne (q.symm.trans q1)]
    · simp only [if_neg q1]
      by_cases q2 : a = at_
      · rw [if_pos q2, if_pos (by rw [q2])]
      · rw [if_neg q2, if_neg fun q => q2 (Option.some.inj q).symm]
  · by_cases q : i = to.1
    · exact ⟨to.2, by rw [h4, q, if_pos rfl]; exact h2⟩
    · obtain ⟨s, hs⟩ := hI.ne i (((h5 i).1 (d3 i hi)).resolve_right q)
      exact ⟨s, by rw [h4]; split; exact h2; exact hs⟩
theorem drops_done (hI : HInv P nx M) (hm : mget M id = some at_) (hD : DropsP P at_ P') : HInv P' nx (mdel M id) ∧ recs P' (mdel M id) = mdel (recs P M) id := by
  obtain ⟨hin, hat⟩ := hI.key hm
  obtain ⟨d1, d2, d3, d4⟩ := hD.get hI.kp hat
  exact hI.of_del hm d1 d3 d2 fun i hi => d4 i hi (hI.ne i (d3 i hi))
theorem set_done {L : List By} (hI : HInv P nx M) (hm : mget M id = some at_) (hg : mget P at_.1 = some L) (hz : setE L at_.2 r = 0) : HInv (mput P at_.1 (setN L at_.2 r)) nx M ∧ recs (mput P at_.1 (setN L at_.2 r)) M = mput (recs P M) id r := by
  have hpA : pAt P at_.1 = L := by unfold pAt; rw [hg]; rfl
  have hmem : at_.1 ∈ P.map Prod.fst := List.mem_map.2 ⟨_, mget_mem hg, rfl⟩
  refine hI.of_set hm (nodup_mput hI.kp) (fun i => ⟨fun h => (keys_put.1 h).elim (fun q => q) fun q => q ▸ hmem, fun h => keys_put.2 (.inl h)⟩) (setE_ne hz) fun a => ?_
  rw [gH_put hI.kp]
  by_cases h1 : a.1 = at_.1
  · rw [if_pos h1, setN_get hz]
    by_cases h2 : a.2 = at_.2
    · rw [if_pos h2, if_pos (Prod.ext h1 h2)]
    · rw [if_neg h2, if_neg fun q => h2 (by rw [q])]
      unfold gH; rw [h1, hpA]
  · rw [if_neg h1, if_neg fun q => h1 (by rw [q])]
theorem setN_same {L : List By} {k : Int} (h : setE L k r ≠ 0) : setN L k r = L := by unfold setN; rw [if_neg h]
theorem setE_bad {L : List By} {k : Int} (h : setE L k r = 0) : badB r = false := by
  unfold setE at h
  split at h
  · exact absurd h (by decide)
  · split at h
    · exact absurd h (by decide)
    · rename_i q; simpa using q
end
end Go.Proofs.Ytdhpalioifjfbaa
