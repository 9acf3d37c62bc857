/- Small laws for walks, the twenty-third part: an object of one box and a row of its own; what an operation on it may change. -/
import Derived.Conc.LoneSelect
import Derived.Maps.RangeRun
import Derived.WalkSpells
import Derived.Test.YtdhpalioifjfbaaProg
import Derived.KernelRfl
import Derived.Shelf.SlIterI.Nil
import Derived.Shelf.SortM.Plain
import Derived.Shelf.SortM.SortNone
import Derived.Lib.SlKeysI
import Derived.Sort.AssemblyPlain
import Derived.RangeFuncGives
import Derived.Maps.AppendAt
import Derived.Sort.MapsRangeIn
import Derived.Sort.KeysCollected
import Derived.WalkKit
import Derived.OwnWalkIn
import Derived.TacticsInMore
import Derived.RegionIn
import Derived.LoopNIn
import Derived.LoopIn
import Derived.Shelf.Abstract
import Derived.Test.YtdhpalioifjfbaaB1
set_option linter.unusedVariables false
set_option linter.unusedSimpArgs false

namespace Go.Gx
open Go.RowKit
section
variable {w w' w0 : World} {b p t tp e base base2 e2 sz sz2 n n2 k0 L B : Nat} {v u x vb : Value} {cs ws : List Value} {row : Option Nat}
def pgRow (p n : Nat) (vb : Value) : Option Nat := if n = 0 then some p else vb.ownBlock
def RowOr (u : Value) (row : Option Nat) (k0 : Nat) : Prop := u.ownBlock = row ∨ ∀ k, u.ownBlock = some k → k0 ≤ k
theorem grow_stepP (h : w0.grownBy w row) (E : w.grownBy w' v.ownBlock) (hr : RowOr v row w0.heap.size) : w0.grownBy w' row := by
  rcases hr with hr | hr
  · rw [hr] at E; exact grown_trans h E
  · refine ⟨E.os.trans h.os, E.tape.trans h.tape, E.output.trans h.output, Nat.le_trans h.size E.size, fun k hk hne => ?_⟩
    rw [E.block k (Nat.lt_of_lt_of_le hk h.size) (fun hh => by have := hr k hh.symm; omega)]
    exact h.block k hk hne
theorem RowOr.apart (hr : RowOr u row k0) (ha : ∀ k, row = some k → k < L ∨ B ≤ k) (hB : B ≤ k0) : ∀ k, u.ownBlock = some k → k < L ∨ B ≤ k := by
  intro k hk
  rcases hr with hr | hr
  · rw [hr] at hk; exact ha k hk
  · have := hr k hk; omega
theorem pgRow_some {k : Nat} (h : pgRow p n vb = some k) : k = p ∨ vb.ownBlock = some k := by
  unfold pgRow at h; split at h
  · exact .inl (Option.some.inj h).symm
  · exact .inr h
theorem Bx.ne {ws : List Value} (h : Bx w b t cs) (h2 : Bx w p tp ws) (hne : t ≠ tp) : b ≠ p := by
  rintro rfl
  have := h.symm.trans h2
  simp at this
  exact hne this.2
theorem Own.neB (O : Own w base e sz v n ws) (h : Bx w b t cs) (hne : t ≠ e) : v.ownBlock ≠ some b := by
  rcases O.2 with ⟨rfl, _⟩ | ⟨g, off, cap, cur, fr, rfl, hb, hg, _⟩
  · simp [Value.ownBlock]
  · intro hh
    simp only [Value.ownBlock, Option.some.injEq] at hh
    subst hh
    have := hg.symm.trans h
    simp at this
    exact hne this.2.1.symm
theorem own_apart (O : Own w base e sz v n cs) (h : ∀ k, u.ownBlock = some k → k < base) : u.ownBlock = none ∨ v.ownBlock ≠ u.ownBlock := by
  rcases hu : u.ownBlock with _ | g
  · exact .inl rfl
  · refine .inr fun hh => ?_
    have h1 := (O.lt g hh).1; have h2 := h g hu; omega
theorem RowOr.ne (hr : RowOr u (pgRow p n vb) k0) (hn : vb.ownBlock ≠ some b) (hp : b ≠ p) (hb : b < k0) : u.ownBlock ≠ some b := by
  intro hh
  rcases hr with hr | hr
  · rw [hr] at hh
    rcases pgRow_some hh with q | q
    · exact hp q
    · exact hn q
  · have := hr b hh; omega
structure IsSl (u : Value) : Prop where sl : ∃ ad n c, u = .slice ad n c
def chQ (m : Nat) : PhiC := fun c v u _ => m < c ∧ (c = m + 1 → u = v) ∧ IsSl u
theorem StK.chq {n m : Nat} {L : List PhiC} (h' : StK n L) : StK n (chQ m :: L) := ⟨⟨fun _ _ _ _ _ _ h => h, fun c v v' u w1 w2 _ _ h => ⟨by have := h.1; omega, fun hc => by have := h.1; omega, h.2.2⟩⟩, h'⟩
theorem chQ_now {m : Nat} (h : IsSl v) : chQ m (m + 1) v v w := ⟨Nat.lt_succ_self m, fun _ => rfl, h⟩
end
end Go.Gx

namespace Go.Gx
open Go.RowKit
section
variable {P : Program} {Q : Exit → Act → World → Prop} {a : Act} {w w' : World} {l : List (Nat × Value)} {ops : Array Oper} {rest : List Oper}
variable {d ty t e xt yt : Nat} {p : String} {af : Array Edge} {x y : Operand} {v u : Value} {n base sz b c : Nat} {cs : List Value} {r : List UInt8}
def NO (v : Value) (r : List UInt8) : Prop := (v = .slice none 0 0 ∧ r = []) ∨ ((∃ a n c, v = .slice (some a) n c) ∧ r ≠ [])
theorem NO.none : NO (.slice none 0 0) [] := .inl ⟨rfl, rfl⟩
theorem Own.no (O : Own w base e sz v n cs) (hr : r ≠ []) (hn : 0 < n) : NO v r := by
  rcases O.2 with ⟨_, rfl⟩ | ⟨g, off, cap, cur, fr, rfl, _⟩
  · omega
  · exact .inr ⟨⟨_, _, _, rfl⟩, hr⟩
def hiV (v : Value) (m : Nat) : Value := match v with | .slice ad _ c => .slice ad m c | x => x
theorem Own.hi {e2 m : Nat} (O : Own w base e2 sz v n cs) (hm : m ≤ n) : Own w base e2 sz (hiV v m) m (cs.take (m * sz)) := by
  have hle : m * sz ≤ n * sz := Nat.mul_le_mul_right _ hm
  obtain ⟨hl, ⟨rfl, rfl⟩ | ⟨g, off, cap, cur, fr, rfl, hb, hg, hf, hnc, hcm, hfit, htk⟩⟩ := O
  · have : m = 0 := by omega
    subst this
    exact ⟨by simp, .inl ⟨rfl, rfl⟩⟩
  · refine ⟨by simp; omega, .inr ⟨g, off, cap, cur, fr, rfl, hb, hg, hf, by omega, hcm, hfit, ?_⟩⟩
    rw [← htk, List.take_take, Nat.min_eq_left hle]
structure RowP (p n : Nat) (u : Value) (row : Option Nat) (k0 : Nat) : Prop where
  ro : RowOr u row k0
  pr : pgRow p n u = row ∨ ∀ k, pgRow p n u = some k → k0 ≤ k
theorem RowP.laid {p n k0 : Nat} {u : Value} {row : Option Nat} (hn : n ≠ 0) (h : RowOr u row k0) : RowP p n u row k0 := by
  refine ⟨h, ?_⟩
  unfold pgRow; rw [if_neg hn]; exact h
theorem RowP.trans {p n1 n2 k0 k1 : Nat} {u1 u2 : Value} {row : Option Nat} (h2 : RowP p n2 u2 (pgRow p n1 u1) k1) (h1 : RowP p n1 u1 row k0) (hk : k0 ≤ k1) : RowP p n2 u2 row k0 := by
  refine ⟨?_, ?_⟩
  · rcases h2.ro with q | q
    · rcases h1.pr with r | r
      · exact .inl (q.trans r)
      · exact .inr fun k hh => r k (q ▸ hh)
    · exact .inr fun k hh => Nat.le_trans hk (q k hh)
  · rcases h2.pr with q | q
    · rcases h1.pr with r | r
      · exact .inl (q.trans r)
      · exact .inr fun k hh => r k (q ▸ hh)
    · exact .inr fun k hh => Nat.le_trans hk (q k hh)
theorem Own.ofRow (h : Bx w b t cs) (hl : c ≤ cs.length) (hn : n ≤ c) (hm : c ≤ maxLen) (hb : base ≤ b) : Own w base t 1 (.slice (some ⟨b, 0, none⟩) n c) n (cs.take n) := by
  refine ⟨by simp; omega, .inr ⟨b, 0, c, cs.toArray, _, rfl, hb, h, fun j _ hh => absurd hh.2 (Nat.not_lt_zero _), hn, hm, by simpa using hl, by simp⟩⟩
end
end Go.Gx

namespace Go.Gx
open Go.RowKit
section
variable {P : Program} {ol : List Oper} {Q : Exit → Act → World → Prop} {Φ : Nat → Value → Prop} {G : World → Prop} {a0 : Act} {N : Nat}
def KL (P : Program) (ol : List Oper) (Φ : Nat → Value → Prop) (G : World → Prop) (a0 : Act) (N : Nat) (Q : Exit → Act → World → Prop) : List Nat → World → Prop
  | [], w => ∀ w1, w.grownBy w1 none → ∀ a', a'.tmps.size = N → a'.defers = a0.defers → (∀ t, (ol.all fun o => o.dst != some t) = true → a'.tmps.getD t undef = a0.tmps.getD t undef) →
      (∀ j oj d, ol[j]? = some oj → oj.dst = some d → Φ j (a'.tmps.getD d undef)) → Q .normal (putsL a' []) w1
  | i :: r, w => ∀ w1, w.grownBy w1 none → G w1 → ∀ a, a.tmps.size = N → (∀ t, safeB ol i t = true → a.tmps.getD t undef = a0.tmps.getD t undef) → (∀ j oj d, depB ol i j = true → ol[j]? = some oj → oj.dst = some d → Φ j (a.tmps.getD d undef)) →
      ∀ o, ol[i]? = some o → wpList P ol.toArray (fun e a' w' => e = .normal ∧ ((o.dst = none ∧ a' = a) ∨ ∃ d v, o.dst = some d ∧ a' = putsL a [(d, v)] ∧ Φ i v) ∧ (KL P ol Φ G a0 N Q r w' ∧ G w') ∧ True) [o] (putsL a []) w1
theorem KL.stable : ∀ {ops : List Nat} {w w2 : World}, KL P ol Φ G a0 N Q ops w → w.grownBy w2 none → KL P ol Φ G a0 N Q ops w2
  | [], _, _, h, E => fun w1 E1 => h w1 (grown_trans E E1)
  | _ :: _, _, _, h, E => fun w1 E1 => h w1 (grown_trans E E1)
def ObG (P : Program) (ol : List Oper) (Φ : Nat → Value → Prop) (G : World → Prop) (a0 : Act) (N : Nat) (i : Nat) (o : Oper) : Prop :=
  ∀ (a : Act) (w : World), a.tmps.size = N → G w → (∀ t, safeB ol i t = true → a.tmps.getD t undef = a0.tmps.getD t undef) → (∀ j oj d, depB ol i j = true → ol[j]? = some oj → oj.dst = some d → Φ j (a.tmps.getD d undef)) →
    wpList P ol.toArray (fun e a' w' => e = .normal ∧ (∃ d v, o.dst = some d ∧ a' = putsL a [(d, v)] ∧ Φ i v) ∧ w.grownBy w' none) [o] (putsL a []) w
end
section
variable {P : Program} {ol : List Oper} {Φ : Nat → Value → Prop} {G : World → Prop} {a0 : Act} {N : Nat} {ops : List Nat}
def ObGs (P : Program) (ol : List Oper) (Φ : Nat → Value → Prop) (G : World → Prop) (a0 : Act) (N : Nat) (ops : List Nat) : Nat → List Oper → Prop
  | _, [] => True
  | i, o :: r => (ops.contains i = false → ObG P ol Φ G a0 N i o) ∧ ObGs P ol Φ G a0 N ops (i + 1) r
theorem ObGs.nil {i : Nat} : ObGs P ol Φ G a0 N ops i [] := trivial
theorem ObGs.cons {i : Nat} {o : Oper} {r : List Oper} (h : ObG P ol Φ G a0 N i o) (h' : ObGs P ol Φ G a0 N ops (i + 1) r) : ObGs P ol Φ G a0 N ops i (o :: r) := ⟨fun _ => h, h'⟩
theorem ObGs.pass {i : Nat} {o : Oper} {r : List Oper} (hh : ops.contains i = true) (h' : ObGs P ol Φ G a0 N ops (i + 1) r) : ObGs P ol Φ G a0 N ops i (o :: r) := ⟨fun h => absurd (hh.symm.trans h) (by decide), h'⟩
theorem ObGs.getx : ∀ {l : List Oper} {i : Nat}, ObGs P ol Φ G a0 N ops i l → ∀ j o, l[j]? = some o → ops.contains (i + j) = false → ObG P ol Φ G a0 N (i + j) o
  | [], _, _, j, o, h, _ => by simp at h
  | o' :: r, i, h, 0, o, hj, hs => by simp at hj; subst hj; exact h.1 hs
  | o' :: r, i, h, j + 1, o, hj, hs => by
    have := ObGs.getx h.2 j o (by simpa using hj) (by rwa [show i + 1 + j = i + (j + 1) by omega])
    rwa [show i + 1 + j = i + (j + 1) by omega] at this
theorem ObGs.get {l : List Oper} (h : ObGs P ol Φ G a0 N ops 0 l) : ∀ j o, l[j]? = some o → ops.contains j = false → ObG P ol Φ G a0 N j o := fun j o hj hs => by
  have := ObGs.getx h j o hj (by rwa [Nat.zero_add])
  rwa [Nat.zero_add] at this
def phiV (L : List (Value → Prop)) : Nat → Value → Prop := fun j u => (L.getD j (fun _ => True)) u
end
end Go.Gx

namespace Go.Proofs.Ytdhpalioifjfbaa
open Go.Gx Go.RowKit
abbrev By := List UInt8
def numB (b : By) (k : Nat) : Nat := (b.getD k 0).toNat * 256 + (b.getD (k + 1) 0).toNat
def setB (b : By) (k n : Nat) : By := (b.set k (UInt8.ofNat (n / 2 ^ 8))).set (k + 1) (UInt8.ofNat n)
theorem setB_len (b : By) (k n : Nat) : (setB b k n).length = b.length := by simp [setB]
theorem getD_set_same {b : By} {k : Nat} {c : UInt8} (h : k < b.length) : (b.set k c).getD k 0 = c := by simp [h]
theorem getD_set_other {b : By} {k j : Nat} {c : UInt8} (h : k ≠ j) : (b.set k c).getD j 0 = b.getD j 0 := by simp [List.getD_eq_getElem?_getD, h]
theorem numB_lt (b : By) (k : Nat) : numB b k < 65536 := by
  have h1 := (b.getD k 0).toNat_lt; have h2 := (b.getD (k + 1) 0).toNat_lt; unfold numB; omega
theorem numB_set {b : By} {k n : Nat} (h : k + 1 < b.length) (hn : n < 65536) : numB (setB b k n) k = n := by
  unfold numB setB
  rw [getD_set_other (by omega), getD_set_same (by omega), getD_set_same (by simp; omega), UInt8.toNat_ofNat', UInt8.toNat_ofNat']
  omega
theorem getD_setB {b : By} {k j n : Nat} (h : j ≠ k ∧ j ≠ k + 1) : (setB b k n).getD j 0 = b.getD j 0 := by
  unfold setB; rw [getD_set_other (by omega), getD_set_other (by omega)]
theorem numB_other {b : By} {k j n : Nat} (h : j + 1 < k ∨ k + 1 < j) : numB (setB b k n) j = numB b j := by
  unfold numB; rw [getD_setB (by omega), getD_setB (by omega)]
theorem set_u8 {l : By} {i : Nat} {c : UInt8} (h : i < l.length) : (l.map u8v).take i ++ [Value.int .u8 (c.toNat : Int)] ++ (l.map u8v).drop (i + 1) = (l.set i c).map u8v := by
  rw [List.set_eq_take_append_cons_drop, if_pos h]; simp [u8v, List.map_take, List.map_drop]
theorem shl8i {x : Int} (h : 0 ≤ x ∧ x < 65536) : IntKind.i64.wrap (x * 2 ^ (min (8 : Int).toNat (IntKind.bits .i64))) = x * 256 := by
  have : (min (8 : Int).toNat (IntKind.bits .i64)) = 8 := by decide
  rw [this]
  exact wrap_i64 (by omega)
theorem or8i {x c : Nat} (hx : x < 256) (hc : c < 256) : bits .or .i64 ((x : Int) * 256) (c : Int) = ((x * 256 + c : Nat) : Int) := by
  have e1 : BitVec.ofInt 64 ((x : Int) * 256) = BitVec.ofNat 64 (x * 256) := by
    rw [show ((x : Int) * 256) = ((x * 256 : Nat) : Int) from by simp]; exact BitVec.ofInt_natCast ..
  have e2 : BitVec.ofInt 64 (c : Int) = BitVec.ofNat 64 c := BitVec.ofInt_natCast ..
  have h : (BitVec.ofNat 64 (x * 256) ||| BitVec.ofNat 64 c).toNat = x * 256 + c := by
    rw [BitVec.toNat_or, BitVec.toNat_ofNat, BitVec.toNat_ofNat, Nat.mod_eq_of_lt (by omega), Nat.mod_eq_of_lt (by omega), show x * 256 = 2 ^ 8 * x by omega, ← Nat.two_pow_add_eq_or_of_lt (by omega)]
  show IntKind.i64.wrap ((BitVec.ofInt 64 ((x : Int) * 256) ||| BitVec.ofInt 64 (c : Int)).toNat : Int) = _
  rw [e1, e2, h]
  exact wrap_i64 (by omega)
theorem zeros_u8 (n : Nat) : List.replicate n (Value.int .u8 0) = (List.replicate n (0 : UInt8)).map u8v := by simp [u8v]
def cpB (b : By) (k : Nat) (r : By) : By := b.take k ++ r ++ b.drop (k + r.length)
theorem cp_len {b r : By} {k : Nat} (h : k + r.length ≤ b.length) : (cpB b k r).length = b.length := by simp [cpB]; omega
theorem cp_out {b r : By} {k j : Nat} (h : k + r.length ≤ b.length) (hj : j < k ∨ k + r.length ≤ j) : (cpB b k r).getD j 0 = b.getD j 0 := by
  unfold cpB
  simp only [List.getD_eq_getElem?_getD, List.getElem?_append, List.getElem?_take, List.getElem?_drop, List.length_append, List.length_take]
  rcases hj with hj | hj
  · rw [if_pos (by omega), if_pos (by omega), if_pos hj]
  · rw [if_neg (by omega)]; congr 2; omega
theorem cp_in {b r : By} {k j : Nat} (h : k + r.length ≤ b.length) (hj : j < r.length) : (cpB b k r).getD (k + j) 0 = r.getD j 0 := by
  unfold cpB
  simp only [List.getD_eq_getElem?_getD, List.getElem?_append, List.length_append, List.length_take]
  rw [if_pos (by omega), if_neg (by omega)]; congr 2; omega
theorem numB_cp {b r : By} {k j : Nat} (h : k + r.length ≤ b.length) (hj : j + 1 < k) : numB (cpB b k r) j = numB b j := by
  unfold numB; rw [cp_out h (by omega), cp_out h (by omega)]
def sumL (L : List By) : Nat := (L.map List.length).sum
theorem sumL_app (L M : List By) : sumL (L ++ M) = sumL L + sumL M := by simp [sumL]
theorem sumL_one (r : By) : sumL [r] = r.length := by simp [sumL]
theorem sumL_take_le (L : List By) (m : Nat) : sumL (L.take m) ≤ sumL L := by
  have := sumL_app (L.take m) (L.drop m); rw [List.take_append_drop] at this; omega
theorem take_snoc {L : List By} {i : Nat} (h : i < L.length) : L.take (i + 1) = L.take i ++ [L.getD i []] := by
  rw [List.take_add_one]; simp [List.getD_eq_getElem?_getD, h]
theorem sumL_step {L : List By} {i : Nat} (h : i < L.length) : sumL (L.take (i + 1)) = sumL (L.take i) + (L.getD i []).length := by
  rw [take_snoc h, sumL_app, sumL_one]
theorem sumL_set {L : List By} {i : Nat} {r : By} (h : i < L.length) : sumL (L.set i r) + (L.getD i []).length = sumL L + r.length := by
  have e : L = L.take i ++ [L.getD i []] ++ L.drop (i + 1) := by rw [← take_snoc h, List.take_append_drop]
  have e2 : L.set i r = L.take i ++ [r] ++ L.drop (i + 1) := by rw [List.set_eq_take_append_cons_drop, if_pos h]; simp
  have h1 : sumL L = sumL (L.take i) + (L.getD i []).length + sumL (L.drop (i + 1)) := by
    have := congrArg sumL e; rw [sumL_app, sumL_app, sumL_one] at this; exact this
  rw [e2, sumL_app, sumL_app, sumL_one]; omega
theorem getD_le_sum {L : List By} {i : Nat} (h : i < L.length) : (L.getD i []).length ≤ sumL L := by
  have := sumL_step h; have := sumL_take_le L (i + 1); omega
def recAt (b : By) (s : Nat) (r : By) (low : Nat) : Prop :=
  numB b (8 + s * 4 + 2) = r.length ∧ numB b (8 + s * 4) + r.length ≤ 256 ∧ (r ≠ [] → low ≤ numB b (8 + s * 4)) ∧ ∀ j, j < r.length → b.getD (numB b (8 + s * 4) + j) 0 = r.getD j 0
structure Rep (b : By) (L : List By) : Prop where
  len : b.length = 256
  many : numB b 0 = L.length
  fit : 8 + L.length * 4 ≤ numB b 2
  low : numB b 2 ≤ 256
  sum : sumL L + numB b 2 ≤ 256
  recs : ∀ s, s < L.length → recAt b s (L.getD s []) (numB b 2)
def sizeL (L : List By) (s : Int) : Nat := if s < 0 ∨ (L.length : Int) ≤ s then 0 else (L.getD s.toNat []).length
theorem sizeL_in {L : List By} {s : Nat} (h : s < L.length) : sizeL L (s : Int) = (L.getD s []).length := by unfold sizeL; rw [if_neg (by omega)]; rfl
theorem sizeL_out {L : List By} {s : Int} (h : s < 0 ∨ (L.length : Int) ≤ s) : sizeL L s = 0 := if_pos h
theorem sizeL_nat {L : List By} {s : Int} (h : sizeL L s ≠ 0) : 0 ≤ s ∧ s < (L.length : Int) := by
  unfold sizeL at h; split at h <;> omega
theorem Rep.size {b : By} {L : List By} (h : Rep b L) {s : Nat} (hs : s < L.length) : numB b (8 + s * 4 + 2) = (L.getD s []).length := (h.recs s hs).1
theorem Rep.fits {b : By} {L : List By} (h : Rep b L) : L.length ≤ 62 := by have := h.fit; have := h.low; omega
theorem recAt.frame {b b' : By} {s low low' : Nat} {r : By} (h : recAt b s r low) (h1 : numB b' (8 + s * 4) = numB b (8 + s * 4)) (h2 : numB b' (8 + s * 4 + 2) = numB b (8 + s * 4 + 2)) (hl : low' ≤ low)
    (h3 : r ≠ [] → ∀ j, low ≤ j → b'.getD j 0 = b.getD j 0) : recAt b' s r low' := by
  obtain ⟨q1, q2, q3, q4⟩ := h
  refine ⟨h2.trans q1, by rw [h1]; exact q2, fun hr => by have := q3 hr; omega, fun j hj => ?_⟩
  have hr : r ≠ [] := fun hh => by subst hh; simp at hj
  rw [h1, h3 hr _ (by have := q3 hr; omega)]
  exact q4 j hj
theorem Rep.get {b : By} {L : List By} (h : Rep b L) {s : Nat} (hs : s < L.length) : (b.drop (numB b (8 + s * 4))).take (L.getD s []).length = L.getD s [] := by
  obtain ⟨q1, q2, q3, q4⟩ := h.recs s hs
  have := h.len
  generalize L.getD s [] = r at q1 q2 q3 q4 ⊢
  refine List.ext_getElem (by simp; omega) fun j h1 h2 => ?_
  have := q4 j h2
  simp only [List.getD_eq_getElem?_getD] at this
  rw [List.getElem?_eq_getElem (by omega), List.getElem?_eq_getElem h2] at this
  simpa using this
theorem sizeL_le {b : By} {L : List By} (h : Rep b L) (s : Int) : sizeL L s ≤ 256 := by
  unfold sizeL; split
  · omega
  · have := getD_le_sum (L := L) (i := s.toNat) (by omega); have := h.sum; omega
def ptsB (b : By) (s at_ n : Nat) : By := setB (setB b (8 + s * 4) at_) (8 + s * 4 + 2) n
theorem pts_len (b : By) (s at_ n : Nat) : (ptsB b s at_ n).length = b.length := by simp [ptsB, setB_len]
theorem pts_at {b : By} {s at_ n : Nat} (h : 8 + s * 4 + 3 < b.length) (ha : at_ < 65536) : numB (ptsB b s at_ n) (8 + s * 4) = at_ := by
  unfold ptsB; rw [numB_other (by omega), numB_set (by omega) ha]
theorem pts_size {b : By} {s at_ n : Nat} (h : 8 + s * 4 + 3 < b.length) (hn : n < 65536) : numB (ptsB b s at_ n) (8 + s * 4 + 2) = n := by
  unfold ptsB; rw [numB_set (by simp only [setB_len]; omega) hn]
theorem pts_num {b : By} {s at_ n j : Nat} (h : j + 1 < 8 + s * 4 ∨ 8 + s * 4 + 3 < j) : numB (ptsB b s at_ n) j = numB b j := by
  unfold ptsB; rw [numB_other (by omega), numB_other (by omega)]
theorem pts_get {b : By} {s at_ n j : Nat} (h : j < 8 + s * 4 ∨ 8 + s * 4 + 3 < j) : (ptsB b s at_ n).getD j 0 = b.getD j 0 := by
  unfold ptsB; rw [getD_setB (by omega), getD_setB (by omega)]
theorem Rep.empty {b : By} {L : List By} (h : Rep b L) {k : Nat} (hk : k < L.length) : Rep (ptsB b k 0 0) (L.set k []) := by
  have hl := h.len; have hf := h.fit; have hw := h.low; have hs := sumL_set (r := []) hk
  simp only [List.length_nil] at hs
  have e2 : numB (ptsB b k 0 0) 2 = numB b 2 := pts_num (by omega)
  refine ⟨by rw [pts_len, hl], by rw [pts_num (by omega), h.many]; simp, by rw [e2]; simpa using hf, by rw [e2]; exact hw, by rw [e2]; have := h.sum; omega, fun s hs' => ?_⟩
  have hs2 : s < L.length := by simpa using hs'
  rw [e2]
  by_cases hsk : s = k
  · subst hsk
    have : (L.set s []).getD s [] = [] := by simp [hs2]
    rw [this]
    exact ⟨pts_size (by omega) (by omega), by rw [pts_at (by omega) (by omega)]; simp, fun hh => absurd rfl hh, fun j hj => by simp at hj⟩
  · have : (L.set k []).getD s [] = L.getD s [] := by simp [List.getD_eq_getElem?_getD, List.getElem?_set, Ne.symm hsk]
    rw [this]
    exact (h.recs s hs2).frame (pts_num (by omega)) (pts_num (by omega)) (Nat.le_refl _) fun _ j hj => pts_get (by omega)
theorem Rep.cut {b : By} {L : List By} (h : Rep b L) {m : Nat} (hm : m ≤ L.length) : Rep (setB b 0 m) (L.take m) := by
  have hl := h.len; have hf := h.fit; have hw := h.low; have hs := sumL_take_le L m; have hsu := h.sum
  have e2 : numB (setB b 0 m) 2 = numB b 2 := numB_other (by omega)
  have elen : (L.take m).length = m := by simp; omega
  refine ⟨by rw [setB_len, hl], by rw [numB_set (by omega) (by omega), elen], by rw [e2, elen]; omega, by rw [e2]; exact hw, by rw [e2]; omega, fun s hs' => ?_⟩
  rw [elen] at hs'
  have : (L.take m).getD s [] = L.getD s [] := by simp [List.getD_eq_getElem?_getD, List.getElem?_take, hs']
  rw [e2, this]
  exact (h.recs s (by omega)).frame (numB_other (by omega)) (numB_other (by omega)) (Nat.le_refl _) fun _ j hj => getD_setB (by omega)
def layL (L : List By) (k : Nat) (r : By) : List By := if k < L.length then L.set k r else L ++ [r]
theorem layL_len {L : List By} {k : Nat} {r : By} (h : k ≤ L.length) : (layL L k r).length = max L.length (k + 1) := by
  unfold layL; split <;> simp <;> omega
theorem layL_get {L : List By} {k : Nat} {r : By} (h : k ≤ L.length) : (layL L k r).getD k [] = r := by
  unfold layL; split
  · rename_i hk; simp [hk]
  · have : k = L.length := by omega
    subst this; simp
theorem layL_other {L : List By} {k s : Nat} {r : By} (h : k ≤ L.length) (hs : s ≠ k) : (layL L k r).getD s [] = L.getD s [] := by
  unfold layL; split
  · simp [List.getD_eq_getElem?_getD, List.getElem?_set, Ne.symm hs]
  · have : k = L.length := by omega
    subst this
    rcases Nat.lt_or_gt_of_ne hs with q | q
    · simp [List.getD_eq_getElem?_getD, List.getElem?_append, q]
    · simp [List.getD_eq_getElem?_getD, List.getElem?_append, show ¬ s < L.length by omega, show L.length ≤ s by omega, show s - L.length ≠ 0 by omega]
theorem layL_sum {L : List By} {k : Nat} {r : By} (h : k ≤ L.length) (he : L.getD k [] = []) : sumL (layL L k r) = sumL L + r.length := by
  unfold layL; split
  · rename_i hk; have := sumL_set (r := r) hk; rw [he] at this; simpa using this
  · rw [sumL_app, sumL_one]
def lay1 (b : By) (k : Nat) : By := if numB b 0 ≤ k then setB b 0 (k + 1) else b
def layB (b : By) (k : Nat) (r : By) : By := setB (ptsB (cpB (lay1 b k) (numB (lay1 b k) 2 - r.length) r) k (numB (lay1 b k) 2 - r.length) r.length) 2 (numB (lay1 b k) 2 - r.length)
theorem Rep.lay {b : By} {L : List By} (h : Rep b L) {k : Nat} {r : By} (hk : k ≤ L.length) (he : L.getD k [] = []) (hr : 8 + (max L.length (k + 1)) * 4 + r.length ≤ numB b 2) : Rep (layB b k r) (layL L k r) := by
  have hl := h.len; have hf := h.fit; have hw := h.low; have hsum := h.sum; have hm := h.many; have hll := layL_len (r := r) hk
  have key : ∀ b1 : By, b1.length = 256 → numB b1 0 = (layL L k r).length → numB b1 2 = numB b 2 → (∀ j, 2 ≤ j → b1.getD j 0 = b.getD j 0) →
      Rep (setB (ptsB (cpB b1 (numB b1 2 - r.length) r) k (numB b1 2 - r.length) r.length) 2 (numB b1 2 - r.length)) (layL L k r) := by
    intro b1 l1 m1 n1 g1
    rw [n1]
    generalize hlo : numB b 2 - r.length = low
    have hc : low + r.length ≤ b1.length := by omega
    have e2 : numB (setB (ptsB (cpB b1 low r) k low r.length) 2 low) 2 = low := numB_set (by rw [pts_len, cp_len hc]; omega) (by omega)
    have en : ∀ j, 4 ≤ j → numB (setB (ptsB (cpB b1 low r) k low r.length) 2 low) j = numB (ptsB (cpB b1 low r) k low r.length) j := fun j hj => numB_other (by omega)
    refine ⟨by rw [setB_len, pts_len, cp_len hc, l1], by rw [numB_other (by omega), pts_num (by omega), numB_cp hc (by omega), m1], by rw [e2, hll]; omega, by rw [e2]; omega, by rw [e2, layL_sum hk he]; omega, fun s hs => ?_⟩
    rw [e2]
    by_cases hsk : s = k
    · subst hsk
      have e3 : numB (setB (ptsB (cpB b1 low r) s low r.length) 2 low) (8 + s * 4) = low := by rw [en _ (by omega), pts_at (by rw [cp_len hc]; omega) (by omega)]
      rw [layL_get hk]
      refine ⟨by rw [en _ (by omega), pts_size (by rw [cp_len hc]; omega) (by omega)], by rw [e3]; omega, fun _ => by rw [e3]; exact Nat.le_refl _, fun j hj => ?_⟩
      rw [e3, getD_setB (by omega), pts_get (by omega), cp_in hc hj]
    · have hsl : s < L.length := by
        rw [hll] at hs; omega
      rw [layL_other hk hsk]
      have q : ∀ t, 8 ≤ t → t + 1 < low → (t + 1 < 8 + k * 4 ∨ 8 + k * 4 + 3 < t) → numB (setB (ptsB (cpB b1 low r) k low r.length) 2 low) t = numB b t := fun t ht1 ht2 ht => by
        rw [en _ (by omega), pts_num ht, numB_cp hc ht2]; unfold numB; rw [g1 _ (by omega), g1 _ (by omega)]
      refine (h.recs s hsl).frame (q _ (by omega) (by omega) (by omega)) (q _ (by omega) (by omega) (by omega)) (by omega) fun _ j hj => ?_
      rw [getD_setB (by omega), pts_get (by omega), cp_out hc (by omega), g1 _ (by omega)]
  unfold layB lay1
  by_cases hnk : numB b 0 ≤ k
  · simp only [hnk, if_true]
    refine key _ (by rw [setB_len, hl]) ?_ (numB_other (by omega)) fun j hj => getD_setB (by omega)
    rw [numB_set (by omega) (by omega), hll]; omega
  · simp only [hnk, if_false]
    exact key _ hl (by rw [hm, hll]; omega) rfl fun j hj => rfl
structure Pk (b : By) (L : List By) (i low : Nat) : Prop where
  len : b.length = 256
  many : numB b 0 = L.length
  sum : low + sumL (L.take i) = 256
  recs : ∀ s, s < i → recAt b s (L.getD s []) low
theorem Pk.start {b : By} {L : List By} (h : Rep b L) : Pk b L 0 256 := ⟨h.len, h.many, by simp [sumL], fun s hs => absurd hs (Nat.not_lt_zero _)⟩
theorem Pk.step {b : By} {L : List By} {i low : Nat} (h : Pk b L i low) (hfit : 8 + L.length * 4 + sumL L ≤ 256) (hi : i < L.length) :
    Pk (ptsB (cpB b (low - (L.getD i []).length) (L.getD i [])) i (low - (L.getD i []).length) (L.getD i []).length) L (i + 1) (low - (L.getD i []).length) := by
  have hs := sumL_step hi; have ht := sumL_take_le L (i + 1); have h0 := h.sum; have hl := h.len
  generalize hr : L.getD i [] = r at hs ⊢
  generalize hlo : low - r.length = lo
  have hc : lo + r.length ≤ b.length := by omega
  refine ⟨by rw [pts_len, cp_len hc, hl], by rw [pts_num (by omega), numB_cp hc (by omega), h.many], by omega, fun s hsi => ?_⟩
  by_cases hsk : s = i
  · subst hsk
    have e3 : numB (ptsB (cpB b lo r) s lo r.length) (8 + s * 4) = lo := pts_at (by rw [cp_len hc]; omega) (by omega)
    rw [hr]
    refine ⟨pts_size (by rw [cp_len hc]; omega) (by omega), by rw [e3]; omega, fun _ => by rw [e3]; exact Nat.le_refl _, fun j hj => ?_⟩
    rw [e3, pts_get (by omega), cp_in hc hj]
  · refine (h.recs s (by omega)).frame ?_ ?_ (by omega) fun _ j hj => ?_
    · rw [pts_num (by omega), numB_cp hc (by omega)]
    · rw [pts_num (by omega), numB_cp hc (by omega)]
    · rw [pts_get (by omega), cp_out hc (by omega)]
theorem Pk.last {b : By} {L : List By} {low : Nat} (h : Pk b L L.length low) (hfit : 8 + L.length * 4 + sumL L ≤ 256) : Rep (setB b 2 low) L ∧ numB (setB b 2 low) 2 + sumL L = 256 := by
  have h0 := h.sum; rw [List.take_length] at h0
  have hl := h.len
  have e2 : numB (setB b 2 low) 2 = low := numB_set (by omega) (by omega)
  refine ⟨⟨by rw [setB_len, hl], by rw [numB_other (by omega), h.many], by rw [e2]; omega, by rw [e2]; omega, by rw [e2]; omega, fun s hs => ?_⟩, by rw [e2]; exact h0⟩
  rw [e2]
  exact (h.recs s hs).frame (numB_other (by omega)) (numB_other (by omega)) (Nat.le_refl _) fun _ j hj => getD_setB (by omega)
theorem Pk.room {b : By} {L : List By} {i low : Nat} (h : Pk b L i low) (hfit : 8 + L.length * 4 + sumL L ≤ 256) (hi : i < L.length) : 8 + L.length * 4 + (L.getD i []).length ≤ low ∧ low ≤ 256 := by
  have hs := sumL_step hi; have ht := sumL_take_le L (i + 1); have h0 := h.sum; omega
abbrev ByV := Value × By
def D0 : ByV := (default, [])
theorem acc_get {acc : List ByV} {L : List By} {m i : Nat} (h : acc.map Prod.snd = L.take m) (hi : i < m) (hm : m ≤ L.length) : (acc.getD i D0).2 = L.getD i [] := by
  have h1 : (acc.map Prod.snd)[i]? = L[i]? := by rw [h, List.getElem?_take, if_pos hi]
  have h2 : i < acc.length := by
    have := congrArg List.length h; simp at this; omega
  simp only [List.getElem?_map, List.getElem?_eq_getElem h2, Option.map_some] at h1
  simp only [List.getD_eq_getElem?_getD, List.getElem?_eq_getElem h2, ← h1]; rfl
theorem acc_len {acc : List ByV} {L : List By} {m : Nat} (h : acc.map Prod.snd = L.take m) (hm : m ≤ L.length) : acc.length = m := by have := congrArg List.length h; simp at this; omega
theorem oall_snoc {w : World} {base e sz : Nat} {acc : List ByV} {v : Value} {r : By} (h : ∀ x9 ∈ acc, Own w base e sz x9.1 x9.2.length (x9.2.map u8v)) (O : Own w base e sz v r.length (r.map u8v)) :
    ∀ x9 ∈ acc ++ [(v, r)], Own w base e sz x9.1 x9.2.length (x9.2.map u8v) := by
  intro x hx
  rcases List.mem_append.1 hx with q | q
  · exact h x q
  · rw [List.mem_singleton.1 q]; exact O
theorem acc_snoc {acc : List ByV} {L : List By} {s : Nat} {v : Value} (h : acc.map Prod.snd = L.take s) (hs : s < L.length) : (acc ++ [(v, L.getD s [])]).map Prod.snd = L.take (s + 1) := by
  rw [take_snoc hs, List.map_append, h]; rfl
def newB : By := setB (List.replicate 256 0) 2 256
theorem Rep.new : Rep newB [] := ⟨by decide +kernel, by decide +kernel, by decide +kernel, by decide +kernel, by decide +kernel, fun s hs => absurd hs (Nat.not_lt_zero _)⟩
def Pg (n : Nat) (b : By) (L : List By) (vb : Value) : Prop := (n = 0 ∧ b = [] ∧ L = [] ∧ vb.ownBlock = none) ∨ (n = 256 ∧ Rep b L)
theorem Rep.pg {b : By} {L : List By} {v : Value} (h : Rep b L) : Pg 256 b L v := .inr ⟨rfl, h⟩
theorem Pg.rowOr {n p k0 : Nat} {b : By} {L : List By} {vb : Value} (h : Pg n b L vb) : RowOr vb (pgRow p n vb) k0 := by
  rcases h with ⟨rfl, _, _, hv⟩ | ⟨rfl, _⟩
  · exact .inr fun k hk => by rw [hv] at hk; cases hk
  · exact .inl rfl
theorem Pg.rowP {n p k0 : Nat} {b : By} {L : List By} {vb : Value} (h : Pg n b L vb) : RowP p n vb (pgRow p n vb) k0 := ⟨h.rowOr, .inl rfl⟩
theorem Pg.fits {n : Nat} {b : By} {L : List By} {vb : Value} (h : Pg n b L vb) : L.length ≤ 62 ∧ sumL L + 4 * L.length ≤ 248 := by
  rcases h with ⟨_, _, rfl, _⟩ | ⟨_, R⟩
  · decide
  · have h1 := R.fits; have h2 := R.fit; have h3 := R.sum; omega
theorem Pg.zero : Pg 0 [] [] (.slice none 0 0) := .inl ⟨rfl, rfl, rfl, rfl⟩
def freeL : List By → Nat
  | [] => 0
  | r :: t => if r = [] then 0 else freeL t + 1
theorem freeL_le : ∀ L : List By, freeL L ≤ L.length
  | [] => Nat.le_refl _
  | r :: t => by have := freeL_le t; simp only [freeL, List.length_cons]; split <;> omega
theorem freeL_go : ∀ {L : List By} {j : Nat}, j ≤ freeL L → j < L.length → L.getD j [] ≠ [] → j + 1 ≤ freeL L
  | [], j, _, h2, _ => absurd h2 (Nat.not_lt_zero _)
  | r :: t, 0, _, _, h3 => by simp only [freeL]; rw [if_neg (by simpa using h3)]; omega
  | r :: t, j + 1, h1, h2, h3 => by
    simp only [freeL] at h1 ⊢
    split at h1
    · omega
    · rename_i hr; rw [if_neg hr]
      have := freeL_go (L := t) (j := j) (by omega) (by simpa using h2) (by simpa using h3)
      omega
theorem freeL_stop : ∀ {L : List By} {j : Nat}, j ≤ freeL L → (L.length ≤ j ∨ L.getD j [] = []) → freeL L = j
  | [], j, h1, _ => by simp only [freeL] at h1 ⊢; omega
  | r :: t, 0, _, h2 => by
    rcases h2 with h2 | h2
    · simp at h2
    · simp only [freeL]; rw [if_pos (by simpa using h2)]
  | r :: t, j + 1, h1, h2 => by
    simp only [freeL] at h1 ⊢
    split at h1
    · omega
    · rename_i hr; rw [if_neg hr]
      have := freeL_stop (L := t) (j := j) (by omega) (by rcases h2 with h2 | h2; exact .inl (by simpa using h2); exact .inr (by simpa using h2))
      omega
theorem freeL_get {L : List By} : L.getD (freeL L) [] = [] := by
  by_cases h : freeL L < L.length
  · by_cases h2 : L.getD (freeL L) [] = []
    · exact h2
    · have := freeL_go (Nat.le_refl _) h h2; omega
  · simp [List.getD_eq_getElem?_getD, show L.length ≤ freeL L by omega]
def cutL (L : List By) : List By := (L.reverse.dropWhile (· == [])).reverse
theorem cutL_nil (L : List By) : cutL (L ++ [[]]) = cutL L := by simp [cutL]
theorem cutL_snoc {L : List By} {r : By} (h : r ≠ []) : cutL (L ++ [r]) = L ++ [r] := by simp [cutL, h]
theorem cutL_go {L : List By} {m : Nat} (h : 0 < m) (hm : m ≤ L.length) (he : L.getD (m - 1) [] = []) : cutL (L.take m) = cutL (L.take (m - 1)) := by
  have := take_snoc (L := L) (i := m - 1) (by omega)
  rw [show m - 1 + 1 = m by omega, he] at this
  rw [this, cutL_nil]
theorem cutL_stop {L : List By} {m : Nat} (hm : m ≤ L.length) (he : m = 0 ∨ L.getD (m - 1) [] ≠ []) : cutL (L.take m) = L.take m := by
  rcases Nat.eq_zero_or_pos m with h | h
  · subst h; rfl
  · have := take_snoc (L := L) (i := m - 1) (by omega)
    rw [show m - 1 + 1 = m by omega] at this
    rw [this, cutL_snoc (by rcases he with he | he; omega; exact he)]
def slotsN (L : List By) (m : Nat) : List Nat := (List.range m).filter (fun s => (L.getD s []).length != 0)
theorem slotsN_go {L : List By} {m : Nat} (h : (L.getD m []).length ≠ 0) : slotsN L (m + 1) = slotsN L m ++ [m] := by
  simp only [slotsN, List.range_succ, List.filter_append]; rw [List.filter_cons, if_pos (by simpa using h)]; rfl
theorem slotsN_skip {L : List By} {m : Nat} (h : (L.getD m []).length = 0) : slotsN L (m + 1) = slotsN L m := by
  have h2 : L.getD m [] = [] := List.length_eq_zero_iff.1 h
  simp only [slotsN, List.range_succ, List.filter_append]; rw [List.filter_cons]; simp only [h2]; simp
theorem slotsN_len (L : List By) (m : Nat) : (slotsN L m).length ≤ m := by
  have := List.length_filter_le (fun s => (L.getD s []).length != 0) (List.range m); simpa [slotsN] using this
def slotsI (L : List By) (m : Nat) : List Int := (slotsN L m).map (fun s => ((s : Nat) : Int))
theorem slotsI_go {L : List By} {m : Nat} (h : (L.getD m []).length ≠ 0) : slotsI L (m + 1) = slotsI L m ++ [((m : Nat) : Int)] := by simp [slotsI, slotsN_go h]
theorem slotsI_skip {L : List By} {m : Nat} (h : (L.getD m []).length = 0) : slotsI L (m + 1) = slotsI L m := by rw [slotsI, slotsN_skip h]; rfl
theorem slotsI_len (L : List By) (m : Nat) : (slotsI L m).length ≤ m := by simpa [slotsI] using slotsN_len L m
def leftL (L : List By) (m : Nat) : Int := 248 - (m : Int) * 4 - (sumL L : Int)
theorem Pg.left {n : Nat} {b : By} {L : List By} {vb : Value} (h : Pg n b L vb) : 0 ≤ leftL L L.length ∧ leftL L L.length ≤ 248 := by have := h.fits; unfold leftL; omega
theorem leftL_rng {b : By} {L : List By} (h : Rep b L) (m : Nat) (hm : m ≤ 1000) : -8000 ≤ leftL L m ∧ leftL L m ≤ 248 := by unfold leftL; have := h.sum; omega
def badB (r : By) : Bool := r.length == 0 || decide (200 < r.length)
theorem badB_t {r : By} (h : r.length = 0 ∨ 200 < r.length) : badB r = true := by unfold badB; rcases h with h | h <;> simp [h]
theorem badB_f {r : By} (h : r.length ≠ 0 ∧ r.length ≤ 200) : badB r = false := by
  unfold badB; rw [decide_eq_false (by omega), Bool.or_false]; exact beq_eq_false_iff_ne.2 h.1
def fullB (L : List By) (r : By) : Bool := decide (leftL L (max L.length (freeL L + 1)) < (r.length : Int))
def putE (L : List By) (r : By) : Int := if badB r then 7 else if fullB L r then 25 else 0
def putK (L : List By) (r : By) : Int := if badB r then 0 else if fullB L r then 0 else (freeL L : Int)
def putN (L : List By) (r : By) : List By := if badB r then L else if fullB L r then L else layL L (freeL L) r
def setE (L : List By) (k : Int) (r : By) : Int := if sizeL L k = 0 then 22 else if badB r then 7 else if leftL L L.length + (sizeL L k : Int) < (r.length : Int) then 25 else 0
def setN (L : List By) (k : Int) (r : By) : List By := if setE L k r = 0 then L.set k.toNat r else L
def dropE (L : List By) (k : Int) : Int := if sizeL L k = 0 then 22 else 0
def dropN (L : List By) (k : Int) : List By := if sizeL L k = 0 then L else cutL (L.set k.toNat [])
def getL (L : List By) (k : Int) : By := if k < 0 ∨ (L.length : Int) ≤ k then [] else L.getD k.toNat []
theorem getL_len (L : List By) (k : Int) : (getL L k).length = sizeL L k := by unfold getL sizeL; split <;> rfl
theorem getL_nil {L : List By} {k : Int} (h : sizeL L k = 0) : getL L k = [] := List.eq_nil_of_length_eq_zero (by rw [getL_len, h])
theorem getL_in {L : List By} {k : Int} (h : sizeL L k ≠ 0) : getL L k = L.getD k.toNat [] := by
  have := sizeL_nat h; unfold getL; rw [if_neg (by omega)]
theorem put_bad {L : List By} {r : By} (h : badB r = true) : putE L r = 7 ∧ putK L r = 0 ∧ putN L r = L := by simp [putE, putK, putN, h]
theorem put_full {L : List By} {r : By} (h : badB r = false) (h2 : leftL L (max L.length (freeL L + 1)) < (r.length : Int)) : putE L r = 25 ∧ putK L r = 0 ∧ putN L r = L := by
  have h3 : fullB L r = true := decide_eq_true h2
  simp [putE, putK, putN, h, h3]
theorem put_ok {L : List By} {r : By} (h : badB r = false) (h2 : ¬ leftL L (max L.length (freeL L + 1)) < (r.length : Int)) : putE L r = 0 ∧ putK L r = (freeL L : Int) ∧ putN L r = layL L (freeL L) r := by
  have h3 : fullB L r = false := decide_eq_false h2
  simp [putE, putK, putN, h, h3]
theorem layL_set {L : List By} {k : Nat} {r : By} (h : k < L.length) : layL (L.set k []) k r = L.set k r := by
  unfold layL; rw [if_pos (by simpa using h)]; simp
theorem set_get {L : List By} {k : Nat} (h : k < L.length) : (L.set k []).getD k [] = [] := by simp [h]
theorem set_none {L : List By} {k : Int} {r : By} (h : sizeL L k = 0) : setE L k r = 22 ∧ setN L k r = L := by
  have : setE L k r = 22 := by unfold setE; rw [if_pos h]
  exact ⟨this, by unfold setN; rw [this]; rfl⟩
theorem set_bad {L : List By} {k : Int} {r : By} (h : sizeL L k ≠ 0) (hb : badB r = true) : setE L k r = 7 ∧ setN L k r = L := by
  have : setE L k r = 7 := by unfold setE; rw [if_neg h, hb]; rfl
  exact ⟨this, by unfold setN; rw [this]; rfl⟩
theorem set_full {L : List By} {k : Int} {r : By} (h : sizeL L k ≠ 0) (hb : badB r = false) (hf : leftL L L.length + (sizeL L k : Int) < (r.length : Int)) : setE L k r = 25 ∧ setN L k r = L := by
  have : setE L k r = 25 := by unfold setE; rw [if_neg h, hb, if_neg (by decide), if_pos hf]
  exact ⟨this, by unfold setN; rw [this]; rfl⟩
theorem set_ok {L : List By} {k : Int} {r : By} (h : sizeL L k ≠ 0) (hb : badB r = false) (hf : ¬ leftL L L.length + (sizeL L k : Int) < (r.length : Int)) : setE L k r = 0 ∧ setN L k r = L.set k.toNat r := by
  have : setE L k r = 0 := by unfold setE; rw [if_neg h, hb, if_neg (by decide), if_neg hf]
  exact ⟨this, by unfold setN; rw [this]; rfl⟩
theorem drop_none {L : List By} {k : Int} (h : sizeL L k = 0) : dropE L k = 22 ∧ dropN L k = L := by unfold dropE dropN; rw [if_pos h, if_pos h]; exact ⟨rfl, rfl⟩
theorem drop_ok {L : List By} {k : Int} (h : sizeL L k ≠ 0) : dropE L k = 0 ∧ dropN L k = cutL (L.set k.toNat []) := by unfold dropE dropN; rw [if_neg h, if_neg h]; exact ⟨rfl, rfl⟩
theorem DJ.fresh {x u : Value} {row : Option Nat} {k0 k1 : Nat} (hr : RowOr u row k0) (h1 : ∀ k, u.ownBlock = some k → k < k1) (h2 : ∀ k, x.ownBlock = some k → k1 ≤ k) : DJ x u := fun k hk hg => by
  have := h1 k hg; have := h2 k hk; omega
end Go.Proofs.Ytdhpalioifjfbaa

namespace Go.Gx
open Go.RowKit Go.Conc

section
variable {P : Program} {ops : Array Oper} {Q : Exit → Act → World → Prop} {a : Act} {w w1 w2 : World} {o : Oper} {i : Nat} {r : List Nat} {v : Value}

end

/-! ### the operations ahead of the last one -/
section
variable {P : Program} {ops : Array Oper} {Q : Exit → Act → World → Prop}
end

/-! ### the channel's block -/
def ChC (w : World) (c cap : Nat) (buf : List Value) : Prop := ∃ s r, w.heap[c]? = some (.chan cap buf.toArray false s r false)
section
variable {P : Program} {w w' : World} {row : Option Nat} {b t c cap base e sz n L B : Nat} {cs buf buf' : List Value} {v : Value}
theorem ChC.lt (h : ChC w c cap buf) : c < w.heap.size := by obtain ⟨s, r, h⟩ := h; exact (Array.getElem?_eq_some_iff.1 h).1
theorem ChC.keep (h : ChC w c cap buf) (E : w.grownBy w' row) (hne : some c ≠ row) : ChC w' c cap buf := by
  have hl := h.lt; obtain ⟨s, r, h⟩ := h; exact ⟨s, r, (E.block c hl hne).trans h⟩
theorem ChC.keep0 (h : ChC w c cap buf) (E : w.grownBy w' none) : ChC w' c cap buf := h.keep E (by simp)
theorem Own.notCh (O : Own w base e sz v n cs) (h : ChC w c cap buf) : v.ownBlock ≠ some c := by
  obtain ⟨s, r, h⟩ := h
  rcases O.2 with ⟨rfl, _⟩ | ⟨g, off, cp, cur, fr, rfl, _, hg, _⟩
  · simp [Value.ownBlock]
  · intro hh; simp [Value.ownBlock] at hh; subst hh; rw [hg] at h; simp at h
theorem Bx.notCh (B : Bx w b t cs) (h : ChC w c cap buf) : b ≠ c := by
  rintro rfl; obtain ⟨s, r, h⟩ := h; unfold Bx at B; rw [B] at h; simp at h
theorem ChC.keepO (h : ChC w c cap buf) (O : Own w base e sz v n cs) (E : w.grownBy w' v.ownBlock) : ChC w' c cap buf := h.keep E fun hh => O.notCh h hh.symm
theorem ChC.keepB (h : ChC w c cap buf) (B : Bx w b t cs) (E : w.grownBy w' (some b)) : ChC w' c cap buf := h.keep E fun hh => B.notCh h (Option.some.inj hh).symm
end

/-! ### two blocks may change -/
structure Gr2 (w w' : World) (c p : Option Nat) : Prop where
  os : w'.os = w.os
  tape : w'.tape = w.tape
  output : w'.output = w.output
  size : w.heap.size ≤ w'.heap.size
  block : ∀ k, k < w.heap.size → some k ≠ c → some k ≠ p → w'.heap[k]? = w.heap[k]?
section
variable {w w1 w2 w' : World} {c p row : Option Nat} {base e sz n b : Nat} {cs : List Value} {v : Value}
theorem Gr2.refl (w : World) (c p : Option Nat) : Gr2 w w c p := ⟨rfl, rfl, rfl, Nat.le_refl _, fun _ _ _ _ => rfl⟩
theorem Gr2.go (h : Gr2 w w1 c p) (E : w1.grownBy w2 row) (hr : ∀ k, k < w.heap.size → row = some k → some k = c ∨ some k = p) : Gr2 w w2 c p :=
  ⟨E.os.trans h.os, E.tape.trans h.tape, E.output.trans h.output, Nat.le_trans h.size E.size, fun k hk hc hp => (E.block k (Nat.lt_of_lt_of_le hk h.size) (fun hh => by rcases hr k hk hh.symm with h | h <;> contradiction)).trans (h.block k hk hc hp)⟩
theorem Gr2.step0 (h : Gr2 w w1 c p) (E : w1.grownBy w2 none) : Gr2 w w2 c p := h.go E (by simp)
theorem Gr2.stepB (h : Gr2 w w1 c p) (E : w1.grownBy w2 p) : Gr2 w w2 c p := h.go E fun k _ hk => .inr hk.symm
theorem Gr2.step1 (h : Gr2 w w1 c p) (E : w1.grownBy w2 (some b)) (hb : w.heap.size ≤ b) : Gr2 w w2 c p := h.go E fun k hk hh => by cases hh; omega
theorem Gr2.stepO (h : Gr2 w w1 c p) (O : Own w1 base e sz v n cs) (E : w1.grownBy w2 v.ownBlock) (hb : w.heap.size ≤ base) : Gr2 w w2 c p := h.go E fun k hk hh => by have := (O.lt k hh).1; omega
theorem Gr2.split (h : Gr2 w w' c p) : ∃ w1, w.grownBy w1 c ∧ w1.grownBy w' p := by
  cases p with
  | none => exact ⟨w', ⟨h.os, h.tape, h.output, h.size, fun k hk hc => h.block k hk hc (by simp)⟩, grown_refl _ _⟩
  | some p =>
    by_cases hp : p < w.heap.size
    · have hp' : p < w'.heap.size := Nat.lt_of_lt_of_le hp h.size
      refine ⟨{ w' with heap := w'.heap.set p w.heap[p] hp' }, ⟨h.os, h.tape, h.output, by simpa using h.size, fun k hk hc => ?_⟩, ⟨rfl, rfl, rfl, by simp, fun k hk hk2 => ?_⟩⟩
      · show (w'.heap.set p w.heap[p] hp')[k]? = w.heap[k]?
        by_cases e : k = p
        · subst e; simp [hp, hp']
        · rw [Array.getElem?_set_ne _ (fun h => e h.symm)]; exact h.block k hk hc (by simpa using e)
      · show w'.heap[k]? = (w'.heap.set p w.heap[p] hp')[k]?
        rw [Array.getElem?_set_ne _ (fun h => hk2 (by rw [h]))]
    · exact ⟨w', ⟨h.os, h.tape, h.output, h.size, fun k hk hc => h.block k hk hc (fun e => hp (by cases e; exact hk))⟩, grown_refl _ _⟩
theorem Gr2.of (E : w.grownBy w' row) (h : row = c ∨ row = p) : Gr2 w w' c p := (Gr2.refl w c p).go E fun k _ hk => by rcases h with h | h <;> simp_all
end

/-! ### operations -/
section
variable {P : Program} {Q : Exit → Act → World → Prop} {a : Act} {w w' : World} {l : List (Nat × Value)} {ops : Array Oper} {rest : List Oper}
variable {d ty t e c cap : Nat} {p : String} {af : Array Edge} {x y : Operand} {v z : Value} {buf : List Value} {dir : ChanDir}
theorem run_zeroT (hz : zeroT P e = some z) (w : World) : (zeroValue e).run P w = .ok z w := by
  unfold zeroT at hz
  cases hi : P.info? e with
  | none => simp [hi] at hz
  | some i =>
    simp [hi] at hz
    simp [zeroValue, run_typeInfo w hi, hz]
end
/-! ### lists of texts -/
def sv (s : List UInt8) : Value := .string (bs s)
theorem el_sv {l : List (List UInt8)} {e : Int} {i : Nat} (he : e = (i : Int)) (h : i < l.length) : (l.map sv)[e.toNat * 1 + 0]? = some (Value.string (bs (l.getD i []))) := by
  subst he; simp [h, sv]
end Go.Gx

namespace Go.Gx
open Go.RowKit

structure Gr (w w' : World) (F : Nat → Prop) : Prop where
  os : w'.os = w.os
  tape : w'.tape = w.tape
  output : w'.output = w.output
  size : w.heap.size ≤ w'.heap.size
  block : ∀ k, k < w.heap.size → ¬ F k → w'.heap[k]? = w.heap[k]?
def Dj (F G : Nat → Prop) : Prop := ∀ k, F k → ¬ G k
abbrev Bl (v : Value) : Nat → Prop := fun k => v.ownBlock = some k
def NewF (n : Nat) (F F' : Nat → Prop) : Prop := ∀ k, F' k → F k ∨ n ≤ k
abbrev NoB : Nat → Prop := fun _ => False

section
variable {w w0 w1 w2 w' : World} {F G H F' : Nat → Prop} {row : Option Nat} {base e sz n b t L B c cap : Nat} {cs buf : List Value} {v u : Value}
theorem Gr.refl (w : World) (F : Nat → Prop) : Gr w w F := ⟨rfl, rfl, rfl, Nat.le_refl _, fun _ _ _ => rfl⟩
theorem Gr.go (h : Gr w w1 F) (E : Gr w1 w2 G) (hG : ∀ k, k < w.heap.size → G k → F k) : Gr w w2 F :=
  ⟨E.os.trans h.os, E.tape.trans h.tape, E.output.trans h.output, Nat.le_trans h.size E.size, fun k hk hn => (E.block k (Nat.lt_of_lt_of_le hk h.size) (fun hg => hn (hG k hk hg))).trans (h.block k hk hn)⟩
theorem Gr.of (E : w.grownBy w' row) : Gr w w' (fun k => row = some k) := ⟨E.os, E.tape, E.output, E.size, fun k hk hn => E.block k hk fun h => hn h.symm⟩
theorem Gr.of0 (E : w.grownBy w' none) (F : Nat → Prop) : Gr w w' F := ⟨E.os, E.tape, E.output, E.size, fun k hk _ => E.block k hk (by simp)⟩
theorem Gr.ofBelow (E : Below w.heap.size w w') (F : Nat → Prop) : Gr w w' F := Gr.of0 (grown_of_below E) F
theorem Gr.mono (E : Gr w w' F) (h : ∀ k, k < w.heap.size → F k → G k) : Gr w w' G := ⟨E.os, E.tape, E.output, E.size, fun k hk hn => E.block k hk fun hf => hn (h k hk hf)⟩
theorem Gr.grown (E : Gr w w' F) (h : ∀ k, k < w.heap.size → F k → row = some k) : w.grownBy w' row := ⟨E.os, E.tape, E.output, E.size, fun k hk hn => E.block k hk fun hf => hn (h k hk hf).symm⟩
/-! a walk's own relation -/
theorem Gr.step0 (h : Gr w w1 F) (E : w1.grownBy w2 none) : Gr w w2 F := h.go (Gr.of0 E F) fun _ _ h => h
theorem Gr.step1 (h : Gr w w1 F) (E : w1.grownBy w2 (some b)) (hb : w.heap.size ≤ b) : Gr w w2 F := h.go (Gr.of E) fun k hk hh => by injection hh with hh; omega
theorem Gr.stepB (h : Gr w w1 F) (E : w1.grownBy w2 (some b)) (hb : F b) : Gr w w2 F := h.go (Gr.of E) fun k hk hh => by injection hh with hh; exact hh ▸ hb
theorem Gr.stepO (h : Gr w w1 F) (O : Own w1 base e sz v n cs) (E : w1.grownBy w2 v.ownBlock) (hb : w.heap.size ≤ base) : Gr w w2 F := h.go (Gr.of E) fun k hk hh => by have := (O.lt k hh).1; omega
theorem Gr.stepF (h : Gr w w1 F) (E : Gr w1 w2 G) (hG : ∀ k, k < w.heap.size → G k → F k) : Gr w w2 F := h.go E hG
theorem Gr.stepN (h : Gr w w1 F) (E : Gr w1 w2 G) (hG : ∀ k, G k → w.heap.size ≤ k) : Gr w w2 F := h.go E fun k hk hg => by have := hG k hg; omega
theorem below_stepG (h : Below B w0 w) (E : Gr w w' F) (hB : B ≤ w.heap.size) (hF : ∀ k, F k → B ≤ k) : Below B w0 w' :=
  ⟨E.os.trans h.os, E.tape.trans h.tape, E.output.trans h.output, Nat.le_trans h.size E.size, fun k hk => (E.block k (Nat.lt_of_lt_of_le hk hB) (fun hf => by have := hF k hf; omega)).trans (h.block k hk)⟩
/-! what is kept -/
theorem Bx.keepG (h : Bx w b t cs) (E : Gr w w' F) (hn : ¬ F b) : Bx w' b t cs := by unfold Bx; rw [E.block b h.lt hn]; exact h
theorem ChC.keepG (h : ChC w c cap buf) (E : Gr w w' F) (hn : ¬ F c) : ChC w' c cap buf := by have hl := h.lt; obtain ⟨s, r, h⟩ := h; exact ⟨s, r, (E.block c hl hn).trans h⟩
theorem Own.keepG (h : Own w base e sz v n cs) (E : Gr w w' F) (hd : Dj (Bl v) F) : Own w' base e sz v n cs := by
  refine ⟨h.1, ?_⟩
  rcases h.2 with hn | ⟨g, off, cap, cur, fr, rfl, hb, hg, r⟩
  · exact .inl hn
  · exact .inr ⟨g, off, cap, cur, fr, rfl, hb, by rw [E.block g (Array.getElem?_eq_some_iff.1 hg).1 (hd g rfl)]; exact hg, r⟩
theorem RdC.keepG (h : RdC w L B sz v n cs) (E : Gr w w' F) (hn : ∀ k, F k → k < L ∨ B ≤ k) : RdC w' L B sz v n cs := by
  obtain ⟨h0, a, c, hv, h1, h2, h3⟩ := h
  refine ⟨h0, a, c, hv, h1, h2, ?_⟩
  rcases h3 with h3 | ⟨b, off, ha, hL, hB, hc⟩
  · exact .inl h3
  · refine .inr ⟨b, off, ha, hL, hB, fun j u hu => ?_⟩
    have := hc j u hu
    rw [World.cell?_of_block (w := w) (E.block b (World.block_lt_of_cell? w _ this) (fun hf => by have := hn b hf; omega))]
    exact this
/-! how they stand to each other -/
theorem Dj.symm (h : Dj F G) : Dj G F := fun k hg hf => h k hf hg
theorem Dj.step {v' : Value} (hm : v'.ownBlock = v.ownBlock ∨ ∀ k, v'.ownBlock = some k → n ≤ k) (hl : ∀ k, F k → k < n) (h : Dj F (Bl v)) : Dj F (Bl v') := by
  intro k hk hg
  rcases hm with hm | hm
  · exact h k hk (hm.symm.trans hg)
  · have := hm k hg; have := hl k hk; omega
theorem Dj.stepF (hm : NewF n F F') (hl : ∀ k, G k → k < n) (h : Dj G F) : Dj G F' := by
  intro k hk hg
  rcases hm k hg with hm | hm
  · exact h k hk hm
  · have := hl k hk; omega
theorem Dj.fresh (hl : ∀ k, G k → k < n) (hf : ∀ k, F k → n ≤ k) : Dj G F := fun k hg hk => by have := hl k hg; have := hf k hk; omega
theorem Dj.nil (F : Nat → Prop) : Dj F (Bl (.slice none 0 0)) := fun _ _ hg => (by cases hg)
theorem Dj.mono (h : Dj F G) {G' : Nat → Prop} (hG : ∀ k, G' k → G k) : Dj F G' := fun k hf hg => h k hf (hG k hg)
theorem NewF.refl (n : Nat) (F : Nat → Prop) : NewF n F F := fun _ h => .inl h
theorem NewF.trans (h : NewF n F G) (h2 : NewF t G H) (hn : n ≤ t) : NewF n F H := fun k hk => by
  rcases h2 k hk with q | q
  · exact h k q
  · exact .inr (Nat.le_trans hn q)
theorem NewF.mono (h : NewF n F G) (hn : t ≤ n) : NewF t F G := fun k hk => (h k hk).imp id fun q => Nat.le_trans hn q
theorem Dj.one (h : ¬ F b) : Dj F (fun k => some b = some k) := fun k hf hk => by injection hk with hk; subst hk; exact h hf
theorem ne_stepF (hm : NewF n F F') (hl : b < n) (h : ¬ F b) : ¬ F' b := fun hg => by
  rcases hm b hg with hm | hm
  · exact h hm
  · omega
end
/-! one's own list, cut ahead: it is one's own still -/
section
variable {P : Program} {Q : Exit → Act → World → Prop} {a : Act} {w : World} {l : List (Nat × Value)} {ops : Array Oper} {rest : List Oper}
variable {d ty t e : Nat} {p : String} {af : Array Edge} {x : Operand} {v : Value} {n base sz by_ : Nat} {cs : List Value} {zv : Value}
theorem Own.dropV {ad : Option Addr} {c k : Nat} (O : Own w base e sz (.slice ad n c) n cs) (hk : k ≤ n) : Own w base e sz (.slice (if c = k then ad else ad.map (·.add (k * sz))) (n - k) (c - k)) (n - k) (cs.drop (k * sz)) := by
  obtain ⟨hl, ⟨hv, rfl⟩ | ⟨g, off, cap, cur, fr, hv, hb, hg, hf, hnc, hcm, hfit, htk⟩⟩ := O
  · injection hv with h1 h2 h3
    subst h1; subst h3
    have : k = 0 := by omega
    subst this
    have hcs : cs = [] := List.length_eq_zero_iff.1 (by simpa using hl)
    subst hcs
    simpa using Own.nil w base e sz
  · injection hv with h1 h2 h3
    subst h1; subst h3
    have hmul : (n - k) * sz = n * sz - k * sz := Nat.sub_mul _ _ _
    by_cases hck : c = k
    · subst hck
      have : n = c := by omega
      subst this
      rw [if_pos rfl]
      refine ⟨by simp [hl], .inr ⟨g, off, _, cur, fr, rfl, hb, hg, hf, by omega, by omega, by simp; omega, by simp [hl]⟩⟩
    · rw [if_neg hck, Option.map_some, Addr.add_lit]
      have h2 : k * sz + (c - k) * sz = c * sz := by rw [← Nat.add_mul]; congr 1; omega
      refine ⟨by rw [List.length_drop, hl, hmul], .inr ⟨g, off + k * sz, _, cur, fr, rfl, hb, hg, hf, by omega, by omega, by omega, ?_⟩⟩
      rw [← htk, hmul, ← List.drop_drop, ← List.drop_take]
end
end Go.Gx

namespace Go.Gx
open Go.RowKit Go.MapKept

/-! ### plain lists of keys and values -/
theorem nodup_inj {α : Type} {l : List α} (h : l.Nodup) {i j : Nat} {a : α} (hi : l[i]? = some a) (hj : l[j]? = some a) : i = j := by
  obtain ⟨hi1, hi2⟩ := List.getElem?_eq_some_iff.1 hi
  obtain ⟨hj1, hj2⟩ := List.getElem?_eq_some_iff.1 hj
  have hp := List.pairwise_iff_getElem.1 h
  rcases Nat.lt_trichotomy i j with q | q | q
  · exact absurd (hi2.trans hj2.symm) (hp i j hi1 hj1 q)
  · exact q
  · exact absurd (hj2.trans hi2.symm) (hp j i hj1 hi1 q)
theorem map_erase {α β : Type} (f : α → β) : ∀ (l : List α) (j : Nat), (l.eraseIdx j).map f = (l.map f).eraseIdx j
  | [], _ => by simp
  | _ :: _, 0 => by simp
  | a :: r, j + 1 => by simp [map_erase f r j]
section
variable {K V : Type} [DecidableEq K]
def mlook : List (K × V) → K → Option (Nat × V)
  | [], _ => none
  | (a, v) :: t, k => if k = a then some (0, v) else (mlook t k).map fun p => (p.1 + 1, p.2)
def mget (es : List (K × V)) (k : K) : Option V := (mlook es k).map (·.2)
def mput (es : List (K × V)) (k : K) (v : V) : List (K × V) := match mlook es k with
  | some (j, _) => es.set j (k, v)
  | none => es ++ [(k, v)]
def mdel (es : List (K × V)) (k : K) : List (K × V) := match mlook es k with
  | some (j, _) => es.eraseIdx j
  | none => es
theorem mlook_some {es : List (K × V)} {k : K} {j : Nat} {v : V} (h : mlook es k = some (j, v)) : es[j]? = some (k, v) := by
  induction es generalizing j with
  | nil => cases h
  | cons p t ih =>
    obtain ⟨a, u⟩ := p
    unfold mlook at h
    split at h
    · rename_i e; cases h; subst e; rfl
    · cases hq : mlook t k with
      | none => rw [hq] at h; cases h
      | some q => obtain ⟨j', v'⟩ := q; rw [hq] at h; cases h; simpa using ih hq
theorem mlook_none {es : List (K × V)} {k : K} : mlook es k = none ↔ k ∉ es.map Prod.fst := by
  induction es with
  | nil => simp [mlook]
  | cons p t ih =>
    obtain ⟨a, u⟩ := p
    unfold mlook
    split
    · rename_i e; simp [e]
    · rename_i e; simp [ih, e]
theorem mget_none {es : List (K × V)} {k : K} : mget es k = none ↔ k ∉ es.map Prod.fst := by
  unfold mget; rw [Option.map_eq_none_iff, mlook_none]
theorem mget_mem {es : List (K × V)} {k : K} {v : V} (h : mget es k = some v) : (k, v) ∈ es := by
  unfold mget at h
  obtain ⟨⟨j, u⟩, hq, rfl⟩ := Option.map_eq_some_iff.1 h
  exact List.mem_of_getElem? (mlook_some hq)
theorem mget_of_mem {es : List (K × V)} {k : K} {v : V} (hn : (es.map Prod.fst).Nodup) (h : (k, v) ∈ es) : mget es k = some v := by
  induction es with
  | nil => cases h
  | cons p t ih =>
    obtain ⟨a, u⟩ := p
    simp only [List.map_cons, List.nodup_cons] at hn
    unfold mget mlook
    split
    · rename_i e
      subst e
      rcases List.mem_cons.1 h with q | q
      · cases q; rfl
      · exact absurd (List.mem_map.2 ⟨_, q, rfl⟩) hn.1
    · rename_i e
      rcases List.mem_cons.1 h with q | q
      · cases q; exact absurd rfl e
      · have := ih hn.2 q
        unfold mget at this
        cases hq : mlook t k with
        | none => rw [hq] at this; cases this
        | some x => rw [hq] at this; simpa using this
theorem mput_keys {es : List (K × V)} {k : K} {v : V} : (mput es k v).map Prod.fst = if k ∈ es.map Prod.fst then es.map Prod.fst else es.map Prod.fst ++ [k] := by
  unfold mput
  cases hq : mlook es k with
  | none => rw [if_neg (mlook_none.1 hq)]; simp
  | some p =>
    obtain ⟨j, u⟩ := p
    have hj := mlook_some hq
    rw [if_pos (List.mem_map.2 ⟨_, List.mem_of_getElem? hj, rfl⟩)]
    show (es.set j (k, v)).map Prod.fst = _
    apply List.ext_getElem?
    intro i
    simp only [List.getElem?_map, List.getElem?_set]
    by_cases hij : j = i
    · subst hij; rw [hj]; simp [(List.getElem?_eq_some_iff.1 hj).1]
    · simp [hij]
theorem nodup_mput {es : List (K × V)} {k : K} {v : V} (h : (es.map Prod.fst).Nodup) : ((mput es k v).map Prod.fst).Nodup := by
  rw [mput_keys]
  split
  · exact h
  · rename_i e; rw [List.nodup_append]; exact ⟨h, by simp, fun a ha b hb => by simp at hb; subst hb; rintro rfl; exact e ha⟩
theorem mem_mput {es : List (K × V)} {k a : K} {v u : V} (h : (es.map Prod.fst).Nodup) : (a, u) ∈ mput es k v ↔ (a = k ∧ u = v) ∨ (a ≠ k ∧ (a, u) ∈ es) := by
  unfold mput
  cases hq : mlook es k with
  | none =>
    have hn := mlook_none.1 hq
    constructor
    · intro hm
      rcases List.mem_append.1 hm with q | q
      · exact .inr ⟨fun e => hn (e ▸ List.mem_map.2 ⟨_, q, rfl⟩), q⟩
      · simp at q; exact .inl q
    · rintro (⟨rfl, rfl⟩ | ⟨_, q⟩)
      · simp
      · simp [q]
  | some p =>
    obtain ⟨j, u0⟩ := p
    have hj := mlook_some hq
    have hjl := (List.getElem?_eq_some_iff.1 hj).1
    show (a, u) ∈ es.set j (k, v) ↔ _
    constructor
    · intro hm
      obtain ⟨i, hi⟩ := List.mem_iff_getElem?.1 hm
      by_cases hij : j = i
      · subst hij
        rw [List.getElem?_set_self hjl] at hi
        cases hi; exact .inl ⟨rfl, rfl⟩
      · rw [List.getElem?_set_ne hij] at hi
        refine .inr ⟨?_, List.mem_of_getElem? hi⟩
        rintro rfl
        have h1 : (es.map Prod.fst)[i]? = some a := by simp [hi]
        have h2 : (es.map Prod.fst)[j]? = some a := by simp [hj]
        exact hij (nodup_inj h h2 h1)
    · rintro (⟨rfl, rfl⟩ | ⟨hne, q⟩)
      · exact List.mem_of_getElem? (i := j) (by simp [hjl])
      · obtain ⟨i, hi⟩ := List.mem_iff_getElem?.1 q
        refine List.mem_of_getElem? (i := i) ?_
        rw [List.getElem?_set_ne]
        · exact hi
        · rintro rfl; rw [hi] at hj; cases hj; exact hne rfl
theorem mdel_keys_sub {es : List (K × V)} {k : K} : (mdel es k).Sublist es := by
  unfold mdel
  split
  · exact List.eraseIdx_sublist _ _
  · exact List.Sublist.refl _
theorem nodup_mdel {es : List (K × V)} {k : K} (h : (es.map Prod.fst).Nodup) : ((mdel es k).map Prod.fst).Nodup := (mdel_keys_sub.map _).nodup h
theorem mem_mdel {es : List (K × V)} {k a : K} {u : V} (h : (es.map Prod.fst).Nodup) : (a, u) ∈ mdel es k ↔ a ≠ k ∧ (a, u) ∈ es := by
  unfold mdel
  cases hq : mlook es k with
  | none => exact ⟨fun q => ⟨fun e => mlook_none.1 hq (e ▸ List.mem_map.2 ⟨_, q, rfl⟩), q⟩, fun q => q.2⟩
  | some p =>
    obtain ⟨j, u0⟩ := p
    have hj := mlook_some hq
    have hjl := (List.getElem?_eq_some_iff.1 hj).1
    show (a, u) ∈ es.eraseIdx j ↔ _
    rw [List.mem_eraseIdx_iff_getElem?]
    constructor
    · rintro ⟨i, hij, hi⟩
      refine ⟨?_, List.mem_of_getElem? hi⟩
      rintro rfl
      have h1 : (es.map Prod.fst)[i]? = some a := by simp [hi]
      have h2 : (es.map Prod.fst)[j]? = some a := by simp [hj]
      exact hij (nodup_inj h h1 h2)
    · rintro ⟨hne, q⟩
      obtain ⟨i, hi⟩ := List.mem_iff_getElem?.1 q
      exact ⟨i, by rintro rfl; rw [hi] at hj; cases hj; exact hne rfl, hi⟩
theorem mget_eq {es : List (K × V)} {k : K} {v : V} (h : (es.map Prod.fst).Nodup) : mget es k = some v ↔ (k, v) ∈ es := ⟨mget_mem, mget_of_mem h⟩
theorem mget_mput {es : List (K × V)} {k a : K} {v : V} (h : (es.map Prod.fst).Nodup) : mget (mput es k v) a = if a = k then some v else mget es a := by
  apply Option.ext
  intro u
  rw [mget_eq (nodup_mput h), mem_mput h]
  split
  · rename_i e; subst e; simp [eq_comm]
  · rename_i e; simp [e, mget_eq h]
theorem mget_mdel {es : List (K × V)} {k a : K} (h : (es.map Prod.fst).Nodup) : mget (mdel es k) a = if a = k then none else mget es a := by
  apply Option.ext
  intro u
  rw [mget_eq (nodup_mdel h), mem_mdel h]
  split
  · rename_i e; subst e; simp
  · rename_i e; simp [e, mget_eq h]
end

/-! ### the block -/
def MapC {K V : Type} (kv : K → Value) (vv : V → Value) (w : World) (m : Nat) (es : List (K × V)) : Prop :=
  ∃ (arr : Array MapEntry) (clock : Nat), w.heap[m]? = some (.map arr clock) ∧ Stamped arr clock ∧ arr.toList.map (fun e => (e.key, e.val)) = es.map (fun p => (kv p.1, vv p.2))
structure KeyT {K : Type} (P : Program) (t : TypeId) (kv : K → Value) : Prop where
  inj : ∀ a b, kv a = kv b → a = b
  key : ∃ d, P.underlying t = some d ∧ ∀ a, IsKey d (kv a)
  bits : ∀ a n, Instr.sameBits (n + 1) (kv a) (kv a) = true
theorem key_int {P : Program} {t : TypeId} {k : IntKind} (h : P.underlying t = some (.int k)) : KeyT P t (Value.int k) :=
  ⟨fun a b h => by injection h, ⟨_, h, fun a => rfl⟩, fun a n => by simp [Instr.sameBits]⟩
section
variable {K V : Type} {P : Program} {kv : K → Value} {vv : V → Value} {w w' : World} {m : Nat} {es : List (K × V)} {row : Option Nat} {F : Nat → Prop} {b t base e sz n : Nat} {cs : List Value} {v : Value}
theorem MapC.lt (h : MapC kv vv w m es) : m < w.heap.size := by obtain ⟨_, _, h, _⟩ := h; exact (Array.getElem?_eq_some_iff.1 h).1
theorem MapC.keep (h : MapC kv vv w m es) (E : w.grownBy w' row) (hne : some m ≠ row) : MapC kv vv w' m es := by
  have hl := h.lt; obtain ⟨arr, c, h, r⟩ := h; exact ⟨arr, c, (E.block m hl hne).trans h, r⟩
theorem MapC.keep0 (h : MapC kv vv w m es) (E : w.grownBy w' none) : MapC kv vv w' m es := h.keep E (by simp)
theorem MapC.keepG (h : MapC kv vv w m es) (E : Gr w w' F) (hn : ¬ F m) : MapC kv vv w' m es := by
  have hl := h.lt; obtain ⟨arr, c, h, r⟩ := h; exact ⟨arr, c, (E.block m hl hn).trans h, r⟩
theorem Bx.notMap (B : Bx w b t cs) (h : MapC kv vv w m es) : b ≠ m := by
  rintro rfl; obtain ⟨arr, c, h, _⟩ := h; unfold Bx at B; rw [B] at h; simp at h
theorem Own.notMap (O : Own w base e sz v n cs) (h : MapC kv vv w m es) : v.ownBlock ≠ some m := by
  obtain ⟨arr, c, h, _⟩ := h
  rcases O.2 with ⟨rfl, _⟩ | ⟨g, off, cp, cur, fr, rfl, _, hg, _⟩
  · simp [Value.ownBlock]
  · intro hh; simp [Value.ownBlock] at hh; subst hh; rw [hg] at h; simp at h
theorem MapC.keepO (h : MapC kv vv w m es) (O : Own w base e sz v n cs) (E : w.grownBy w' v.ownBlock) : MapC kv vv w' m es := h.keep E fun hh => O.notMap h hh.symm
theorem MapC.keepB (h : MapC kv vv w m es) (B : Bx w b t cs) (E : w.grownBy w' (some b)) : MapC kv vv w' m es := h.keep E fun hh => B.notMap h (Option.some.inj hh).symm
theorem Bx.keepM (B : Bx w b t cs) (h : MapC kv vv w m es) (E : w.grownBy w' (some m)) : Bx w' b t cs := B.keep E fun hh => B.notMap h (Option.some.inj hh)
theorem Own.keepM (O : Own w base e sz v n cs) (h : MapC kv vv w m es) (E : w.grownBy w' (some m)) : Own w' base e sz v n cs := O.keep E (.inr (O.notMap h))
theorem RdC.keepM {L B : Nat} (R : RdC w L B sz v n cs) (h : MapC kv vv w m es) (E : w.grownBy w' (some m)) : RdC w' L B sz v n cs := by
  obtain ⟨hl, a, cp, rfl, h1, h2, h3⟩ := R
  refine ⟨hl, a, cp, rfl, h1, h2, ?_⟩
  rcases h3 with h3 | ⟨b, off, rfl, hL, hB, hc⟩
  · exact .inl h3
  · refine .inr ⟨b, off, rfl, hL, hB, fun j u hu => ?_⟩
    have h0 := hc j u hu
    have hb : b ≠ m := by
      rintro rfl; obtain ⟨arr, c, h, _⟩ := h
      simp [World.cell?, h] at h0
    rw [World.cell?_of_block (E.block b (World.block_lt_of_cell? w _ h0) (by simpa using hb))]; exact h0
theorem MapC.nodup [DecidableEq K] {t : Nat} (T : KeyT P t kv) (h : MapC kv vv w m es) : (es.map Prod.fst).Nodup := by
  obtain ⟨arr, c, _, hs, he⟩ := h
  have h1 := congrArg (List.map Prod.fst) he
  simp only [List.map_map] at h1
  have h2 : (es.map (fun p => kv p.1)).Nodup := by
    have := hs.2.2
    rw [show (arr.toList.map (·.key)) = es.map (fun p => kv p.1) from h1] at this
    exact this
  have h3 : es.map (fun p => kv p.1) = (es.map Prod.fst).map kv := by simp
  rw [h3] at h2
  exact (List.pairwise_map.1 h2).imp fun h e => h (congrArg kv e)
theorem findNow_look [DecidableEq K] {d : TypeDesc} (hi : ∀ a b, kv a = kv b → a = b) (hk : ∀ a, IsKey d (kv a)) (k : K) : ∀ (L : List MapEntry) (es : List (K × V)) (i : Nat), L.map (fun e => (e.key, e.val)) = es.map (fun p => (kv p.1, vv p.2)) →
    Instr.findNow d (kv k) L i = some ((mlook es k).map fun p => (i + p.1, vv p.2))
  | [], [], _, _ => rfl
  | [], _ :: _, _, h => by cases h
  | _ :: _, [], _, h => by cases h
  | e :: L, (a, u) :: es, i, h => by
    simp only [List.map_cons, List.cons.injEq, Prod.mk.injEq] at h
    obtain ⟨⟨h1, h2⟩, h3⟩ := h
    obtain ⟨r, hr, hiff⟩ := sameNow_of_keys (hk k) (hk a)
    unfold Instr.findNow
    rw [h1, hr]
    by_cases hka : k = a
    · subst hka
      rw [hiff.2 rfl]
      simp [mlook, h2]
    · have : r = false := by cases hrr : r; · rfl
                             · exact absurd (hi _ _ (hiff.1 hrr)) hka
      rw [this]
      simp only
      rw [findNow_look hi hk k L es (i + 1) h3]
      have hm : mlook ((a, u) :: es) k = (mlook es k).map fun p => (p.1 + 1, p.2) := by simp [mlook, hka]
      rw [hm]
      cases mlook es k with
      | none => rfl
      | some p => simp only [Option.map_some]; rw [show i + 1 + p.1 = i + (p.1 + 1) by omega]
theorem run_find [DecidableEq K] {t : Nat} (T : KeyT P t kv) (k : K) {L : List MapEntry} {es : List (K × V)} (h : L.map (fun e => (e.key, e.val)) = es.map (fun p => (kv p.1, vv p.2))) (w : World) :
    (Instr.findKey t (kv k) L).run P w = .ok ((mlook es k).map fun p => (p.1, vv p.2)) w := by
  obtain ⟨d, hd, hk⟩ := T.key
  have := findNow_look (vv := vv) T.inj hk k L es 0 h
  simp only [Nat.zero_add] at this
  exact run_findKey hd this
theorem run_chk {t : Nat} (T : KeyT P t kv) (k : K) (bb : Bool) (w : World) : (Instr.checkKey bb 10000 t (kv k)).run P w = .ok () w := by
  obtain ⟨d, hd, hk⟩ := T.key
  exact run_checkKey hd (hk k) bb 9999
theorem run_lookup [DecidableEq K] {mt kt et : Nat} (ht : P.underlying mt = some (.map kt et)) (T : KeyT P kt kv) (h : MapC kv vv w m es) (k : K) {z : Value} (hz : zeroT P et = some z) (ok : Bool) :
    (Instr.lookup mt (.map (some m)) (kv k) ok).run P w = .ok (if ok then .tuple #[((mget es k).map vv).getD z, .bool (mget es k).isSome] else ((mget es k).map vv).getD z) w := by
  obtain ⟨arr, c, hb, hs, he⟩ := h
  simp only [Instr.lookup, Sem.run_bind, run_underlying ht, Result.andThen_ok, MapKept.run_getObj_map hb, Sem.run_pure, run_chk T, run_find T k he]
  unfold mget
  cases mlook es k with
  | none => simp [run_zeroT hz]
  | some p => simp
theorem run_lookup_nil {mt kt et : Nat} (ht : P.underlying mt = some (.map kt et)) (T : KeyT P kt kv) (k : K) {z : Value} (hz : zeroT P et = some z) (ok : Bool) :
    (Instr.lookup mt (.map none) (kv k) ok).run P w = .ok (if ok then .tuple #[z, .bool false] else z) w := by
  obtain ⟨d, hd, hk⟩ := T.key
  have h1 : (Instr.findKey kt (kv k) (#[] : Array MapEntry).toList).run P w = .ok none w := run_findKey hd rfl
  simp only [Instr.lookup, Sem.run_bind, run_underlying ht, Result.andThen_ok, Sem.run_pure, run_chk T, h1, run_zeroT hz]
theorem run_update [DecidableEq K] {mt kt et : Nat} (ht : P.underlying mt = some (.map kt et)) (T : KeyT P kt kv) (h : MapC kv vv w m es) (k : K) (v : V) :
    ∃ w', (Instr.mapUpdate mt (.map (some m)) (kv k) (vv v)).run P w = .ok () w' ∧ MapC kv vv w' m (mput es k v) ∧ w.grownBy w' (some m) := by
  obtain ⟨arr, c, hb, hs, he⟩ := h
  have hset : ∀ o, w.grownBy { w with heap := w.heap.setIfInBounds m o } (some m) := fun o => ⟨rfl, rfl, rfl, by simp, fun i _ hi => (heap_set hb).2 i (fun e => hi (by rw [e]))⟩
  cases hq : mlook es k with
  | none =>
    refine ⟨{ w with heap := w.heap.setIfInBounds m (.map (arr.push ⟨kv k, vv v, c⟩) (c + 1)) }, ?_, ?_, hset _⟩
    · simp only [Instr.mapUpdate, Sem.run_bind, run_underlying ht, Result.andThen_ok, MapKept.run_getObj_map hb, run_chk T, run_find T k he, hq, Option.map_none, MapKept.run_setObj_map _ hb]
    · refine ⟨_, _, (heap_set hb).1, stamped_push hs fun x hx hxk => ?_, ?_⟩
      · have h1 := congrArg (List.map Prod.fst) he
        simp only [List.map_map] at h1
        have h2 : kv k ∈ es.map (fun p => kv p.1) := by
          have : x.key ∈ arr.toList.map (fun e => e.key) := List.mem_map.2 ⟨x, hx, rfl⟩
          rw [show (arr.toList.map (fun e => e.key)) = es.map (fun p => kv p.1) from h1] at this
          rw [← hxk]; exact this
        obtain ⟨p, hp, hpk⟩ := List.mem_map.1 h2
        exact mlook_none.1 hq (List.mem_map.2 ⟨p, hp, T.inj _ _ hpk⟩)
      · unfold mput; rw [hq]; simp [he]
  | some p =>
    obtain ⟨j, u⟩ := p
    have hj := mlook_some hq
    have hjl := (List.getElem?_eq_some_iff.1 hj).1
    have hjl2 : j < arr.toList.length := by have := congrArg List.length he; simp at this ⊢; omega
    have hej : (arr.toList[j].key, arr.toList[j].val) = (kv k, vv u) := by
      have h1 : (arr.toList.map (fun e => (e.key, e.val)))[j]? = (es.map (fun p => (kv p.1, vv p.2)))[j]? := by rw [he]
      rw [List.getElem?_map, List.getElem?_map, hj, List.getElem?_eq_getElem hjl2] at h1
      simpa using h1
    have hk1 : arr[j]? = some arr.toList[j] := by rw [← Array.getElem?_toList]; exact List.getElem?_eq_getElem hjl2
    have hkk : (arr[j]?.map (·.key)).getD (kv k) = kv k := by rw [hk1]; simp only [Option.map_some, Option.getD_some]; exact congrArg Prod.fst hej
    have hst : (Instr.keyThatStays (kv k) (kv k)).run P w = .ok (kv k) w := by simp [Instr.keyThatStays, T.bits k 9999]
    refine ⟨{ w with heap := w.heap.setIfInBounds m (.map (arr.modify j fun e => { e with key := kv k, val := vv v }) c) }, ?_, ?_, hset _⟩
    · simp only [Instr.mapUpdate, Sem.run_bind, run_underlying ht, Result.andThen_ok, MapKept.run_getObj_map hb, run_chk T, run_find T k he, hq, Option.map_some, hkk, hst, MapKept.run_setObj_map _ hb]
    · refine ⟨_, _, (heap_set hb).1, ?_, ?_⟩
      · have hkey : ∀ e, arr[j]? = some e → ({ e with key := kv k, val := vv v } : MapEntry).key = e.key := fun e h => by
          rw [hk1] at h; cases h; exact (congrArg Prod.fst hej).symm
        obtain ⟨h1, h2, h3⟩ := hs
        have hborn : (arr.modify j fun e => { e with key := kv k, val := vv v }).toList.map (·.born) = arr.toList.map (·.born) := by
          apply List.ext_getElem?
          intro i
          simp only [List.getElem?_map, Array.getElem?_toList, Array.getElem?_modify]
          by_cases hij : j = i
          · subst hij; cases arr[j]? <;> simp
          · simp [hij]
        refine ⟨fun x hx => ?_, hborn ▸ h2, (modify_keys j _ hkey) ▸ h3⟩
        have : x.born ∈ (arr.modify j fun e => { e with key := kv k, val := vv v }).toList.map (·.born) := List.mem_map.2 ⟨x, hx, rfl⟩
        rw [hborn] at this
        obtain ⟨y, hy, e⟩ := List.mem_map.1 this
        rw [← e]; exact h1 y hy
      · unfold mput; rw [hq]
        show _ = (es.set j (k, v)).map _
        apply List.ext_getElem?
        intro i
        have hi := congrArg (fun l : List (Value × Value) => l[i]?) he
        simp only [List.getElem?_map, Array.getElem?_toList, Array.getElem?_modify, List.getElem?_set] at hi ⊢
        by_cases hij : j = i
        · subst hij; rw [hk1]; simp [hjl]
        · simp [hij] at hi ⊢; exact hi
theorem run_delete [DecidableEq K] {mt kt et ty : Nat} (ht : P.underlying mt = some (.map kt et)) (T : KeyT P kt kv) (h : MapC kv vv w m es) (k : K) :
    ∃ w', (Builtin.delete_ #[mt, kt] ty #[.map (some m), kv k]).run P w = .ok (.tuple #[]) w' ∧ MapC kv vv w' m (mdel es k) ∧ w.grownBy w' (some m) := by
  obtain ⟨arr, c, hb, hs, he⟩ := h
  have hset : ∀ o, w.grownBy { w with heap := w.heap.setIfInBounds m o } (some m) := fun o => ⟨rfl, rfl, rfl, by simp, fun i _ hi => (heap_set hb).2 i (fun e => hi (by rw [e]))⟩
  cases hq : mlook es k with
  | none =>
    refine ⟨{ w with heap := w.heap.setIfInBounds m (.map arr c) }, ?_, ?_, hset _⟩
    · simp [Builtin.delete_, run_underlying ht, MapKept.run_getObj_map hb, run_chk T, run_find T k he, hq, MapKept.run_setObj_map _ hb]
    · unfold mdel; rw [hq]; exact ⟨_, _, (heap_set hb).1, hs, he⟩
  | some p =>
    obtain ⟨j, u⟩ := p
    refine ⟨{ w with heap := w.heap.setIfInBounds m (.map (arr.eraseIdxIfInBounds j) c) }, ?_, ?_, hset _⟩
    · simp [Builtin.delete_, run_underlying ht, MapKept.run_getObj_map hb, run_chk T, run_find T k he, hq, MapKept.run_setObj_map _ hb]
    · refine ⟨_, _, (heap_set hb).1, stamped_erase hs j, ?_⟩
      unfold mdel; rw [hq]
      have hjl := (List.getElem?_eq_some_iff.1 (mlook_some hq)).1
      have hlen : arr.size = es.length := by have := congrArg List.length he; simpa using this
      unfold Array.eraseIdxIfInBounds
      rw [dif_pos (by omega), Array.toList_eraseIdx]
      show _ = (es.eraseIdx j).map _
      rw [map_erase, map_erase, he]
end

/-! ### the operations -/
section
variable {K V : Type} {P : Program} {Q : Exit → Act → World → Prop} {a : Act} {w w' : World} {l : List (Nat × Value)} {ops : Array Oper} {rest : List Oper}
variable {d ty mt kt et m : Nat} {p : String} {af : Array Edge} {x y u : Operand} {kv : K → Value} {vv : V → Value} {es : List (K × V)} {k : K} {v : V} {z : Value}
theorem op_mkmap (h : ∀ w' m, w.heap.size ≤ m → m < w'.heap.size → MapC kv vv w' m [] → w.grownBy w' none → wpList P ops Q rest (putsL a ((d, .map (some m)) :: l)) w') :
    wpList P ops Q (⟨some d, .makeMap mt none, ty, p, af, none⟩ :: rest) (putsL a l) w :=
  op_gen (w' := w.alloc (.map #[] 0)) (v := .map (some w.heap.size)) rfl (by simp [execOp, run_makeMap]) (h _ _ (Nat.le_refl _) (by simp) ⟨#[], 0, (heap_alloc w _).1, ⟨by simp, by simp, by simp⟩, rfl⟩ (grown_alloc w _))
theorem op_look [DecidableEq K] (ht : P.underlying mt = some (.map kt et)) (T : KeyT P kt kv) (hz : zeroT P et = some z) (hx : (putsL a l).eval x = .map (some m)) (hy : (putsL a l).eval y = kv k) (M : MapC kv vv w m es) (h : wpList P ops Q rest (putsL a ((d, ((mget es k).map vv).getD z) :: l)) w) :
    wpList P ops Q (⟨some d, .lookup mt x y false, ty, p, af, none⟩ :: rest) (putsL a l) w :=
  op_gen rfl (by simp only [execOp, hx, hy, Sem.run_bind, run_lookup ht T M k hz, Result.andThen_ok]; rfl) h
theorem op_look2 [DecidableEq K] (ht : P.underlying mt = some (.map kt et)) (T : KeyT P kt kv) (hz : zeroT P et = some z) (hx : (putsL a l).eval x = .map (some m)) (hy : (putsL a l).eval y = kv k) (M : MapC kv vv w m es) (h : wpList P ops Q rest (putsL a ((d, .tuple #[((mget es k).map vv).getD z, .bool (mget es k).isSome]) :: l)) w) :
    wpList P ops Q (⟨some d, .lookup mt x y true, ty, p, af, none⟩ :: rest) (putsL a l) w :=
  op_gen rfl (by simp only [execOp, hx, hy, Sem.run_bind, run_lookup ht T M k hz, Result.andThen_ok]; rfl) h
theorem op_look2_nil (ht : P.underlying mt = some (.map kt et)) (T : KeyT P kt kv) (hz : zeroT P et = some z) (hx : (putsL a l).eval x = .map none) (hy : (putsL a l).eval y = kv k) (h : wpList P ops Q rest (putsL a ((d, .tuple #[z, .bool false]) :: l)) w) :
    wpList P ops Q (⟨some d, .lookup mt x y true, ty, p, af, none⟩ :: rest) (putsL a l) w :=
  op_gen rfl (by simp only [execOp, hx, hy, Sem.run_bind, run_lookup_nil ht T k hz, Result.andThen_ok]; rfl) h
theorem op_look_hit [DecidableEq K] (ht : P.underlying mt = some (.map kt et)) (T : KeyT P kt kv) (hz : zeroT P et = some z) (hx : (putsL a l).eval x = .map (some m)) (hy : (putsL a l).eval y = kv k) (M : MapC kv vv w m es) (hg : mget es k = some v) (h : wpList P ops Q rest (putsL a ((d, vv v) :: l)) w) :
    wpList P ops Q (⟨some d, .lookup mt x y false, ty, p, af, none⟩ :: rest) (putsL a l) w := by
  refine op_look ht T hz hx hy M ?_
  rw [hg]; exact h
theorem op_look2_hit [DecidableEq K] (ht : P.underlying mt = some (.map kt et)) (T : KeyT P kt kv) (hz : zeroT P et = some z) (hx : (putsL a l).eval x = .map (some m)) (hy : (putsL a l).eval y = kv k) (M : MapC kv vv w m es) (hg : mget es k = some v) (h : wpList P ops Q rest (putsL a ((d, .tuple #[vv v, .bool true]) :: l)) w) :
    wpList P ops Q (⟨some d, .lookup mt x y true, ty, p, af, none⟩ :: rest) (putsL a l) w := by
  refine op_look2 ht T hz hx hy M ?_
  rw [hg]; exact h
theorem op_look2_miss [DecidableEq K] (ht : P.underlying mt = some (.map kt et)) (T : KeyT P kt kv) (hz : zeroT P et = some z) (hx : (putsL a l).eval x = .map (some m)) (hy : (putsL a l).eval y = kv k) (M : MapC kv vv w m es) (hg : mget es k = none) (h : wpList P ops Q rest (putsL a ((d, .tuple #[z, .bool false]) :: l)) w) :
    wpList P ops Q (⟨some d, .lookup mt x y true, ty, p, af, none⟩ :: rest) (putsL a l) w := by
  refine op_look2 ht T hz hx hy M ?_
  rw [hg]; exact h
theorem op_mapput [DecidableEq K] (ht : P.underlying mt = some (.map kt et)) (T : KeyT P kt kv) (hx : (putsL a l).eval x = .map (some m)) (hy : (putsL a l).eval y = kv k) (hu : (putsL a l).eval u = vv v) (M : MapC kv vv w m es) (h : ∀ w', MapC kv vv w' m (mput es k v) → w.grownBy w' (some m) → wpList P ops Q rest (putsL a l) w') :
    wpList P ops Q (⟨none, .mapUpdate mt x y u, ty, p, af, none⟩ :: rest) (putsL a l) w := by
  obtain ⟨w', hr, M', E⟩ := run_update (P := P) ht T M k v
  exact op_skip (w' := w') rfl rfl (by simp only [execOp, hx, hy, hu, Sem.run_bind, hr, Result.andThen_ok]; rfl) (h w' M' E)
theorem op_len_map (ht : P.underlying mt = some (.map kt et)) (hx : (putsL a l).eval x = .map (some m)) (M : MapC kv vv w m es) (h : wpList P ops Q rest (putsL a ((d, .int .i64 ((es.length : Nat) : Int)) :: l)) w) :
    wpList P ops Q (⟨some d, .call ⟨.builtin .len, #[x], #[mt]⟩, ty, p, af, none⟩ :: rest) (putsL a l) w := by
  obtain ⟨arr, c, hb, hs, he⟩ := M
  have hl : arr.size = es.length := by have := congrArg List.length he; simpa using this
  exact op_gen (v := .int .i64 ((es.length : Nat) : Int)) rfl (by simp [execOp, hx, resolve, invoke, builtin, Builtin.len_, run_underlying ht, MapKept.run_getObj_map hb, hl, goInt]) h
theorem op_len_nilmap (ht : P.underlying mt = some (.map kt et)) (hx : (putsL a l).eval x = .map none) (h : wpList P ops Q rest (putsL a ((d, .int .i64 0) :: l)) w) :
    wpList P ops Q (⟨some d, .call ⟨.builtin .len, #[x], #[mt]⟩, ty, p, af, none⟩ :: rest) (putsL a l) w :=
  op_gen (v := .int .i64 0) rfl (by simp [execOp, hx, resolve, invoke, builtin, Builtin.len_, run_underlying ht, goInt]) h
theorem op_meq {xt yt : Nat} {r : Option Nat} (ht : P.underlying xt = some (.map kt et)) (hx : (putsL a l).eval x = .map r) (hy : (putsL a l).eval y = .map none) (h : wpList P ops Q rest (putsL a ((d, .bool r.isNone) :: l)) w) :
    wpList P ops Q (⟨some d, .binOp .eql xt x y yt, ty, p, af, none⟩ :: rest) (putsL a l) w := by
  have h1 := run_eql_map_nil (P := P) w xt kt et r ht
  have hg : (eqGuard .eql xt x y (Value.map r) (Value.map none)).run P w = .ok () w := by simp [eqGuard]
  exact op_gen (v := .bool r.isNone) rfl (by simp only [execOp, hx, hy]; simp [h1, hg]) h
end
end Go.Gx

namespace Go.Proofs.Ytdhpalioifjfbaa
open Go.Gx
abbrev PM := List (Int × List By)
abbrev AM := List (Int × (Int × Int))
theorem getL_nat (L : List By) (s : Nat) : getL L (s : Int) = L.getD s [] := by
  unfold getL
  by_cases h : s < L.length
  · rw [if_neg (by omega)]; rfl
  · rw [if_pos (by omega)]; simp [List.getD_eq_getElem?_getD, List.getElem?_eq_none (show L.length ≤ s by omega)]
theorem getL_neg {L : List By} {k : Int} (h : k < 0) : getL L k = [] := by unfold getL; rw [if_pos (.inl h)]
theorem getL_zero (k : Int) : getL [] k = [] := by unfold getL; rw [if_pos]; simp; omega
theorem getL_ext {L L' : List By} (h : ∀ s, L.getD s [] = L'.getD s []) (k : Int) : getL L k = getL L' k := by
  by_cases hk : k < 0
  · rw [getL_neg hk, getL_neg hk]
  · obtain ⟨s, rfl⟩ : ∃ s : Nat, k = (s : Int) := ⟨k.toNat, by omega⟩
    rw [getL_nat, getL_nat, h]
theorem putN_get {L : List By} {r : By} (h : putE L r = 0) (k : Int) : getL (putN L r) k = if k = putK L r then r else getL L k := by
  have hb : badB r = false := by
    cases hb : badB r
    · rfl
    · rw [(put_bad (L := L) hb).1] at h; exact absurd h (by decide)
  have hf : ¬ leftL L (max L.length (freeL L + 1)) < (r.length : Int) := fun hf => by rw [(put_full hb hf).1] at h; exact absurd h (by decide)
  obtain ⟨_, hK, hN⟩ := put_ok hb hf
  have hle := freeL_le L
  rw [hN, hK]
  by_cases hk : k < 0
  · rw [getL_neg hk, getL_neg hk, if_neg (by omega)]
  · obtain ⟨s, rfl⟩ : ∃ s : Nat, k = (s : Int) := ⟨k.toNat, by omega⟩
    rw [getL_nat, getL_nat]
    by_cases hs : s = freeL L
    · subst hs; rw [layL_get hle, if_pos rfl]
    · rw [layL_other hle hs, if_neg (by omega)]
theorem putN_was {L : List By} {r : By} (h : putE L r = 0) : getL L (putK L r) = [] := by
  have hb : badB r = false := by
    cases hb : badB r
    · rfl
    · rw [(put_bad (L := L) hb).1] at h; exact absurd h (by decide)
  have hf : ¬ leftL L (max L.length (freeL L + 1)) < (r.length : Int) := fun hf => by rw [(put_full hb hf).1] at h; exact absurd h (by decide)
  obtain ⟨_, hK, _⟩ := put_ok hb hf
  rw [hK, getL_nat]; exact freeL_get
theorem putE_ne {L : List By} {r : By} (h : putE L r = 0) : r ≠ [] ∧ badB r = false := by
  cases hb : badB r
  · refine ⟨fun e => ?_, rfl⟩
    subst e; exact absurd hb (by decide)
  · rw [(put_bad (L := L) hb).1] at h; exact absurd h (by decide)
theorem setN_get {L : List By} {k : Int} {r : By} (h : setE L k r = 0) (j : Int) : getL (setN L k r) j = if j = k then r else getL L j := by
  have hz : sizeL L k ≠ 0 := fun hz => by rw [(set_none (r := r) hz).1] at h; exact absurd h (by decide)
  have hr := sizeL_nat hz
  have hN : setN L k r = L.set k.toNat r := by unfold setN; rw [if_pos h]
  rw [hN]
  by_cases hj : j < 0
  · rw [getL_neg hj, getL_neg hj, if_neg (by omega)]
  · obtain ⟨s, rfl⟩ : ∃ s : Nat, j = (s : Int) := ⟨j.toNat, by omega⟩
    rw [getL_nat, getL_nat]
    by_cases hs : s = k.toNat
    · subst hs; rw [if_pos (by omega)]; simp [show k.toNat < L.length by omega]
    · rw [if_neg (by omega)]; simp [List.getD_eq_getElem?_getD, List.getElem?_set_ne (fun e => hs e.symm)]
theorem setE_ne {L : List By} {k : Int} {r : By} (h : setE L k r = 0) : r ≠ [] := fun e => by
  subst e
  unfold setE at h
  split at h
  · exact absurd h (by decide)
  · rw [show badB [] = true from rfl, if_pos rfl] at h; exact absurd h (by decide)
theorem cutL_get : ∀ (n : Nat) (L : List By), L.length = n → ∀ s, (cutL L).getD s [] = L.getD s []
  | 0, L, h, s => by rw [List.length_eq_zero_iff.1 h]; rfl
  | n + 1, L, h, s => by
    have hne : L ≠ [] := fun e => by rw [e] at h; cases h
    obtain ⟨M, r, rfl⟩ : ∃ M r, L = M ++ [r] := ⟨L.dropLast, L.getLast hne, (List.dropLast_concat_getLast hne).symm⟩
    by_cases hr : r = []
    · subst hr
      rw [cutL_nil, cutL_get n M (by simpa using h) s]
      simp only [List.getD_eq_getElem?_getD, List.getElem?_append]
      by_cases hs : s < M.length
      · rw [if_pos hs]
      · rw [if_neg hs, List.getElem?_eq_none (show M.length ≤ s by omega)]
        cases s - M.length <;> simp
    · rw [cutL_snoc hr]
theorem dropN_get {L : List By} {k : Int} (h : sizeL L k ≠ 0) (j : Int) : getL (dropN L k) j = if j = k then [] else getL L j := by
  have hr := sizeL_nat h
  rw [(drop_ok h).2, getL_ext (cutL_get _ _ rfl)]
  by_cases hj : j < 0
  · rw [getL_neg hj, getL_neg hj, if_neg (by omega)]
  · obtain ⟨s, rfl⟩ : ∃ s : Nat, j = (s : Int) := ⟨j.toNat, by omega⟩
    rw [getL_nat, getL_nat]
    by_cases hs : s = k.toNat
    · subst hs; rw [if_pos (by omega)]; simp [show k.toNat < L.length by omega]
    · rw [if_neg (by omega)]; simp [List.getD_eq_getElem?_getD, List.getElem?_set_ne (fun e => hs e.symm)]
theorem size_get {L : List By} {k : Int} : sizeL L k = 0 ↔ getL L k = [] := by rw [← getL_len]; exact List.length_eq_zero_iff
/-! pages -/
def pAt (P : PM) (i : Int) : List By := (mget P i).getD []
def gH (P : PM) (a : Int × Int) : By := getL (pAt P a.1) a.2
theorem pAt_put {P : PM} {i j : Int} {L : List By} (h : (P.map Prod.fst).Nodup) : pAt (mput P i L) j = if j = i then L else pAt P j := by
  unfold pAt; rw [mget_mput h]; split <;> rfl
theorem pAt_del {P : PM} {i j : Int} (h : (P.map Prod.fst).Nodup) : pAt (mdel P i) j = if j = i then [] else pAt P j := by
  unfold pAt; rw [mget_mdel h]; split <;> rfl
theorem gH_put {P : PM} {i : Int} {L : List By} {a : Int × Int} (h : (P.map Prod.fst).Nodup) : gH (mput P i L) a = if a.1 = i then getL L a.2 else gH P a := by
  unfold gH; rw [pAt_put h]; split <;> rfl
theorem gH_del {P : PM} {i : Int} {a : Int × Int} (h : (P.map Prod.fst).Nodup) : gH (mdel P i) a = if a.1 = i then [] else gH P a := by
  unfold gH; rw [pAt_del h]; split
  · exact getL_zero _
  · rfl
theorem gH_key {P : PM} {a : Int × Int} (h : gH P a ≠ []) : a.1 ∈ P.map Prod.fst := by
  cases hm : mget P a.1 with
  | none => exact absurd (by unfold gH pAt; rw [hm]; exact getL_zero _) h
  | some L => exact List.mem_map.2 ⟨_, mget_mem hm, rfl⟩
structure HInv (P : PM) (nx : Int) (M : AM) : Prop where
  kp : (P.map Prod.fst).Nodup
  km : (M.map Prod.fst).Nodup
  nums : ∀ i ∈ P.map Prod.fst, 1 ≤ i ∧ i ≤ nx
  at_ : ∀ e ∈ M, gH P e.2 ≠ []
  one : ∀ e ∈ M, ∀ f ∈ M, e.2 = f.2 → e.1 = f.1
  own : ∀ a, gH P a ≠ [] → ∃ e ∈ M, e.2 = a
  ne : ∀ i ∈ P.map Prod.fst, ∃ s, gH P (i, s) ≠ []
def recs (P : PM) (M : AM) : List (Int × By) := M.map fun e => (e.1, gH P e.2)
theorem HInv.nil (nx : Int) : HInv [] nx [] := ⟨by simp, by simp, by simp, by simp, by simp, fun a h => absurd (getL_zero _) h, by simp⟩
theorem keys_put {K V : Type} [DecidableEq K] {P : List (K × V)} {i : K} {L : V} {j : K} : j ∈ (mput P i L).map Prod.fst ↔ j ∈ P.map Prod.fst ∨ j = i := by
  rw [mput_keys]; split
  · rename_i h; exact ⟨.inl, fun q => q.elim id fun e => e ▸ h⟩
  · simp
section
variable {K V W : Type} [DecidableEq K]
theorem mput_cons {a k : K} {v u : V} {t : List (K × V)} : mput ((a, v) :: t) k u = if k = a then (k, u) :: t else (a, v) :: mput t k u := by
  have hl : mlook ((a, v) :: t) k = if k = a then some (0, v) else (mlook t k).map fun p => (p.1 + 1, p.2) := rfl
  unfold mput; rw [hl]
  by_cases h : k = a
  · rw [if_pos h, if_pos h]; rfl
  · rw [if_neg h, if_neg h]
    cases mlook t k with
    | none => rfl
    | some q => rfl
theorem mdel_cons {a k : K} {v : V} {t : List (K × V)} : mdel ((a, v) :: t) k = if k = a then t else (a, v) :: mdel t k := by
  have hl : mlook ((a, v) :: t) k = if k = a then some (0, v) else (mlook t k).map fun p => (p.1 + 1, p.2) := rfl
  unfold mdel; rw [hl]
  by_cases h : k = a
  · rw [if_pos h, if_pos h]; rfl
  · rw [if_neg h, if_neg h]
    cases mlook t k with
    | none => rfl
    | some q => rfl
theorem mget_cons {a k : K} {v : V} {t : List (K × V)} : mget ((a, v) :: t) k = if k = a then some v else mget t k := by
  have hl : mlook ((a, v) :: t) k = if k = a then some (0, v) else (mlook t k).map fun p => (p.1 + 1, p.2) := rfl
  unfold mget; rw [hl]
  by_cases h : k = a
  · rw [if_pos h, if_pos h]; rfl
  · rw [if_neg h, if_neg h]
    cases mlook t k with
    | none => rfl
    | some q => rfl
theorem mput_same : ∀ {M : List (K × V)} {k : K} {v : V}, mget M k = some v → mput M k v = M
  | [], _, _, h => by cases h
  | (a, u) :: t, k, v, h => by
    rw [mget_cons] at h; rw [mput_cons]
    by_cases hk : k = a
    · rw [if_pos hk] at h ⊢; obtain rfl := Option.some.inj h; rw [hk]
    · rw [if_neg hk] at h ⊢; rw [mput_same h]
theorem recs_put (f : V → W) (b : W) (k : K) (v : V) : ∀ {M : List (K × V)}, (M.map Prod.fst).Nodup → (mput M k v).map (fun e => (e.1, if e.1 = k then b else f e.2)) = mput (M.map fun e => (e.1, f e.2)) k b
  | [], _ => by simp [mput, mlook]
  | (a, u) :: t, h => by
    simp only [List.map_cons, List.nodup_cons] at h
    rw [mput_cons, List.map_cons, mput_cons]
    by_cases hk : k = a
    · subst hk
      rw [if_pos rfl, if_pos rfl, List.map_cons, if_pos rfl]
      congr 1
      refine List.map_congr_left fun e he => ?_
      have hne : ¬ e.1 = k := fun q => h.1 (by rw [← q]; exact List.mem_map.2 ⟨e, he, rfl⟩)
      rw [if_neg hne]
    · rw [if_neg hk, if_neg hk, List.map_cons, if_neg fun q => hk q.symm, recs_put f b k v h.2]
theorem map_del (f : V → W) (k : K) : ∀ {M : List (K × V)}, (mdel M k).map (fun e => (e.1, f e.2)) = mdel (M.map fun e => (e.1, f e.2)) k
  | [] => rfl
  | (a, u) :: t => by
    rw [mdel_cons, List.map_cons, mdel_cons]
    by_cases hk : k = a
    · rw [if_pos hk, if_pos hk]
    · rw [if_neg hk, if_neg hk, List.map_cons, map_del f k]
theorem mget_map (f : V → W) (k : K) : ∀ {M : List (K × V)}, mget (M.map fun e => (e.1, f e.2)) k = (mget M k).map f
  | [] => rfl
  | (a, u) :: t => by
    rw [List.map_cons, mget_cons, mget_cons]
    by_cases hk : k = a
    · rw [if_pos hk, if_pos hk]; rfl
    · rw [if_neg hk, if_neg hk, mget_map f k]
theorem mdel_keys {M : List (K × V)} {k j : K} (h : (M.map Prod.fst).Nodup) : j ∈ (mdel M k).map Prod.fst ↔ j ∈ M.map Prod.fst ∧ j ≠ k := by
  constructor
  · intro hj
    obtain ⟨e, he, rfl⟩ := List.mem_map.1 hj
    have := (mem_mdel (a := e.1) (u := e.2) (k := k) h).1 he
    exact ⟨List.mem_map.2 ⟨e, this.2, rfl⟩, this.1⟩
  · rintro ⟨hj, hk⟩
    obtain ⟨e, he, rfl⟩ := List.mem_map.1 hj
    exact List.mem_map.2 ⟨e, (mem_mdel (a := e.1) (u := e.2) h).2 ⟨hk, he⟩, rfl⟩
end
theorem pw_len {α : Type} [DecidableEq α] : ∀ {l m : List α}, l.Nodup → (∀ x ∈ l, x ∈ m) → l.length ≤ m.length
  | [], _, _, _ => Nat.zero_le _
  | a :: l, m, hn, h => by
    have ha := h a (by simp)
    have := pw_len (l := l) (m := m.erase a) (List.nodup_cons.1 hn).2 fun x hx => by
      have hne : x ≠ a := fun e => (List.nodup_cons.1 hn).1 (by rw [← e]; exact hx)
      exact (List.mem_erase_of_ne hne).2 (h x (by simp [hx]))
    rw [List.length_erase_of_mem ha] at this
    have := List.length_pos_of_mem ha
    simp only [List.length_cons]; omega
section
variable {P P' : PM} {M : AM} {nx nx' id : Int} {b : By} {at_ to : Int × Int}
theorem HInv.key (h : HInv P nx M) (hm : mget M id = some at_) : (id, at_) ∈ M ∧ gH P at_ ≠ [] := ⟨mget_mem hm, h.at_ _ (mget_mem hm)⟩
theorem HInv.pages (h : HInv P nx M) : P.length ≤ M.length := by
  have := pw_len (l := P.map Prod.fst) (m := M.map fun e => e.2.1) h.kp fun i hi => by
    obtain ⟨s, hs⟩ := h.ne i hi
    obtain ⟨e, he, hq⟩ := h.own _ hs
    exact List.mem_map.2 ⟨e, he, by rw [hq]⟩
  simpa using this
theorem recs_len : (recs P M).length = M.length := by simp [recs]
theorem recs_keys : (recs P M).map Prod.fst = M.map Prod.fst := by simp [recs, List.map_map, Function.comp_def]
theorem recs_get : mget (recs P M) id = (mget M id).map (gH P) := mget_map (gH P) id
theorem HInv.of_set (h : HInv P nx M) (hm : mget M id = some at_) (hk : (P'.map Prod.fst).Nodup) (hks : ∀ i, i ∈ P'.map Prod.fst ↔ i ∈ P.map Prod.fst) (hb : b ≠ []) (hg : ∀ a, gH P' a = if a = at_ then b else gH P a) : HInv P' nx M ∧ recs P' M = mput (recs P M) id b := by
  obtain ⟨hin, hne⟩ := h.key hm
  have hg0 : ∀ a, gH P' a ≠ [] ↔ gH P a ≠ [] := fun a => by
    rw [hg]; split
    · rename_i e; rw [e]; exact ⟨fun _ => hne, fun _ => hb⟩
    · exact Iff.rfl
  refine ⟨⟨hk, h.km, fun i hi => h.nums i ((hks i).1 hi), fun e he => (hg0 _).2 (h.at_ e he), h.one, fun a ha => h.own a ((hg0 a).1 ha), fun i hi => ?_⟩, ?_⟩
  · obtain ⟨s, hs⟩ := h.ne i ((hks i).1 hi)
    exact ⟨s, (hg0 _).2 hs⟩
  · have h1 := recs_put (gH P) b id at_ h.km
    rw [mput_same hm] at h1
    unfold recs
    rw [← h1]
    refine List.map_congr_left fun e he => ?_
    rw [hg]
    by_cases hid : e.1 = id
    · have : e.2 = at_ := by
        have := mget_of_mem h.km (show (e.1, e.2) ∈ M from he)
        rw [hid, hm] at this; exact (Option.some.inj this).symm
      rw [if_pos this, if_pos hid]
    · rw [if_neg fun q => hid (h.one e he _ hin q), if_neg hid]
theorem HInv.of_move (h : HInv P nx M) (hk : (P'.map Prod.fst).Nodup) (hn : ∀ i ∈ P'.map Prod.fst, 1 ≤ i ∧ i ≤ nx') (hb : b ≠ []) (hto : gH P to = []) (hid : ∀ e ∈ M, e.1 = id → gH P' e.2 = [] ∨ e.2 = to)
    (hg : ∀ a, gH P' a = if a = to then b else if mget M id = some a then [] else gH P a) (hne : ∀ i ∈ P'.map Prod.fst, ∃ s, gH P' (i, s) ≠ []) : HInv P' nx' (mput M id to) ∧ recs P' (mput M id to) = mput (recs P M) id b := by
  have hmem : ∀ {e : Int × (Int × Int)}, e ∈ mput M id to ↔ (e.1 = id ∧ e.2 = to) ∨ (e.1 ≠ id ∧ e ∈ M) := fun {e} => mem_mput (a := e.1) (u := e.2) h.km
  have hnt : ∀ e ∈ M, e.2 ≠ to := fun e he q => h.at_ e he (q ▸ hto)
  have hold : ∀ e ∈ M, e.1 ≠ id → gH P' e.2 = gH P e.2 := fun e he hi => by
    rw [hg, if_neg (hnt e he), if_neg fun q => hi (h.one e he _ (mget_mem q) rfl)]
  refine ⟨⟨hk, nodup_mput h.km, hn, fun e he => ?_, fun e he f hf hef => ?_, fun a ha => ?_, hne⟩, ?_⟩
  · rcases hmem.1 he with ⟨_, h2⟩ | ⟨h1, h2⟩
    · rw [h2, hg, if_pos rfl]; exact hb
    · rw [hold e h2 h1]; exact h.at_ e h2
  · rcases hmem.1 he with ⟨h1, h2⟩ | ⟨h1, h2⟩ <;> rcases hmem.1 hf with ⟨g1, g2⟩ | ⟨g1, g2⟩
    · rw [h1, g1]
    · exact absurd (hef.symm.trans h2) (hnt f g2)
    · exact absurd (hef.trans g2) (hnt e h2)
    · exact h.one e h2 f g2 hef
  · rw [hg] at ha
    by_cases hat : a = to
    · exact ⟨(id, to), hmem.2 (.inl ⟨rfl, rfl⟩), hat.symm⟩
    · rw [if_neg hat] at ha
      by_cases hm : mget M id = some a
      · rw [if_pos hm] at ha; exact absurd rfl ha
      · rw [if_neg hm] at ha
        obtain ⟨e, he, rfl⟩ := h.own a ha
        refine ⟨e, hmem.2 (.inr ⟨fun q => hm ?_, he⟩), rfl⟩
        rw [← q]; exact mget_of_mem h.km (show (e.1, e.2) ∈ M from he)
  · have h1 := recs_put (gH P) b id to h.km
    unfold recs
    rw [← h1]
    refine List.map_congr_left fun e he => ?_
    rcases hmem.1 he with ⟨h1, h2⟩ | ⟨h1, h2⟩
    · rw [if_pos h1, h2, hg, if_pos rfl]
    · rw [if_neg h1, hold e h2 h1]
theorem HInv.of_del (h : HInv P nx M) (hm : mget M id = some at_) (hk : (P'.map Prod.fst).Nodup) (hks : ∀ i ∈ P'.map Prod.fst, i ∈ P.map Prod.fst) (hg : ∀ a, gH P' a = if a = at_ then [] else gH P a) (hne : ∀ i ∈ P'.map Prod.fst, ∃ s, gH P' (i, s) ≠ []) : HInv P' nx (mdel M id) ∧ recs P' (mdel M id) = mdel (recs P M) id := by
  obtain ⟨hin, _⟩ := h.key hm
  have hmem : ∀ {e : Int × (Int × Int)}, e ∈ mdel M id ↔ e.1 ≠ id ∧ e ∈ M := fun {e} => mem_mdel (a := e.1) (u := e.2) h.km
  have hold : ∀ e ∈ M, e.1 ≠ id → gH P' e.2 = gH P e.2 := fun e he hi => by rw [hg, if_neg fun q => hi (h.one e he _ hin q)]
  refine ⟨⟨hk, nodup_mdel h.km, fun i hi => h.nums i (hks i hi), fun e he => ?_, fun e he f hf => h.one e (hmem.1 he).2 f (hmem.1 hf).2, fun a ha => ?_, hne⟩, ?_⟩
  · rw [hold e (hmem.1 he).2 (hmem.1 he).1]; exact h.at_ e (hmem.1 he).2
  · rw [hg] at ha
    by_cases hat : a = at_
    · rw [if_pos hat] at ha; exact absurd rfl ha
    · rw [if_neg hat] at ha
      obtain ⟨e, he, rfl⟩ := h.own a ha
      refine ⟨e, hmem.2 ⟨fun q => hat ?_, he⟩, rfl⟩
      have := mget_of_mem h.km (show (e.1, e.2) ∈ M from he)
      rw [q, hm] at this; exact (Option.some.inj this).symm
  · unfold recs
    rw [← map_del (gH P) id]
    exact List.map_congr_left fun e he => by rw [hold e (hmem.1 he).2 (hmem.1 he).1]
end
end Go.Proofs.Ytdhpalioifjfbaa

namespace Go.Proofs.Ytdhpalioifjfbaa
open Go.Gx Go.RowKit
end Go.Proofs.Ytdhpalioifjfbaa
namespace Go.Gx
theorem Own.notOwn {w : World} {base e sz n base2 e2 sz2 n2 : Nat} {v v2 : Value} {cs cs2 : List Value} (O : Own w base e sz v n cs) (O2 : Own w base2 e2 sz2 v2 n2 cs2) (h : e ≠ e2) : DJ v v2 := by
  intro x hx hf
  rcases O.2 with ⟨rfl, _⟩ | ⟨g, off, cap, cur, fr, rfl, hb, hg, _⟩
  · cases hx
  · simp only [Value.ownBlock, Option.some.injEq] at hx
    subst hx
    rcases O2.2 with ⟨rfl, _⟩ | ⟨g', off', cap', cur', fr', rfl, hb', hg', _⟩
    · cases hf
    · simp only [Value.ownBlock, Option.some.injEq] at hf
      subst hf
      have := hg.symm.trans hg'; simp at this; exact h this.2.1
end Go.Gx
namespace Go.Proofs.Ytdhpalioifjfbaa
open Go.Gx Go.RowKit
def PageR (w : World) (base p : Nat) (L : List By) (F : Nat → Prop) : Prop :=
  ∃ vb n bs, base ≤ p ∧ Bx w p 50 [vb] ∧ Own w base 5 1 vb n (bs.map u8v) ∧ Pg n bs L vb ∧ ∀ x, F x ↔ x = p ∨ Bl vb x
def PgAll (w : World) (base : Nat) (P : PM) (ps : List Nat) (F : Nat → Prop) : Prop :=
  ps.length = P.length ∧ ∃ Fs : Nat → Nat → Prop, (∀ i, i < P.length → PageR w base (ps.getD i 0) (P.getD i default).2 (Fs i)) ∧ (∀ i j, i < P.length → j < P.length → i ≠ j → Dj (Fs i) (Fs j)) ∧ ∀ x, F x ↔ ∃ i, i < P.length ∧ Fs i x
def pv (p : Nat) : Value := ptr p 0
def plv (a : Int × Int) : Value := .agg #[.int .i64 a.1, .int .i64 a.2]
def esP (P : PM) (ps : List Nat) : List (Int × Nat) := List.zipWith (fun a p => (a.1, p)) P ps
def MapsN (w : World) (base : Nat) (P : PM) (ps : List Nat) (M : AM) (v1 v2 : Value) : Prop :=
  (v1 = .map none ∧ v2 = .map none ∧ P = [] ∧ M = []) ∨ ∃ pm mm, v1 = .map (some pm) ∧ v2 = .map (some mm) ∧ base ≤ pm ∧ base ≤ mm ∧ pm ≠ mm ∧ MapC (Value.int .i64) pv w pm (esP P ps) ∧ MapC (Value.int .u64) plv w mm M
def HeapB (w : World) (base k : Nat) (P : PM) (nx : Int) (M : AM) (F : Nat → Prop) : Prop :=
  ∃ v1 v2 ps F0, base ≤ k ∧ Bx w k 71 [v1, .int .i64 nx, v2] ∧ PgAll w base P ps F0 ∧ MapsN w base P ps M v1 v2 ∧ ∀ x, F x ↔ x = k ∨ v1 = .map (some x) ∨ v2 = .map (some x) ∨ F0 x
def HeapR (w : World) (base k : Nat) (R : List (Int × By)) (m : Nat) (F : Nat → Prop) : Prop :=
  ∃ P nx M, HeapB w base k P nx M F ∧ HInv P nx M ∧ 0 ≤ nx ∧ nx ≤ (m : Int) ∧ M.length ≤ m ∧ R = recs P M
section
variable {w w' : World} {base base' k m b t e sz n i j p : Nat} {P P' : PM} {ps : List Nat} {M : AM} {nx : Int} {L L' : List By} {F F' G : Nat → Prop} {cs : List Value} {v v1 v2 : Value} {R : List (Int × By)}
theorem PageR.lt (h : PageR w base p L F) : ∀ x, F x → base ≤ x ∧ x < w.heap.size := fun x hx => by
  obtain ⟨vb, n, bs, h0, h1, h2, _, hF⟩ := h
  rcases (hF x).1 hx with rfl | hx
  · exact ⟨h0, h1.lt⟩
  · exact h2.lt x hx
theorem PageR.keepG (h : PageR w base p L F) (E : Gr w w' G) (hd : Dj F G) : PageR w' base p L F := by
  obtain ⟨vb, n, bs, h0, h1, h2, h3, hF⟩ := h
  exact ⟨vb, n, bs, h0, h1.keepG E (hd _ ((hF _).2 (.inl rfl))), h2.keepG E fun x hx => hd x ((hF x).2 (.inr hx)), h3, hF⟩
theorem PageR.kz (h : PageR w base p L F) (E9 : w.grownBy w' none) : PageR w' base p L F := h.keepG (Gr.of0 E9 NoB) (fun _ _ h => h)
theorem PageR.mono (h : PageR w base p L F) (hb : base' ≤ base) : PageR w base' p L F := by
  obtain ⟨vb, n, bs, h0, h1, h2, h3, hF⟩ := h
  exact ⟨vb, n, bs, Nat.le_trans hb h0, h1, h2.mono hb, h3, hF⟩
theorem PageR.mem (h : PageR w base p L F) : F p := by obtain ⟨vb, n, bs, _, _, _, _, hF⟩ := h; exact (hF p).2 (.inl rfl)
theorem PageR.notBx (h : PageR w base p L F) (B : Bx w b t cs) (h1 : t ≠ 50) (h2 : t ≠ 5) : ¬ F b := fun hf => by
  obtain ⟨vb, n, bs, _, a1, a2, _, hF⟩ := h
  rcases (hF b).1 hf with hf | hf
  · exact B.ne a1 h1 hf
  · exact a2.neB B h2 hf
theorem PageR.notOwn {base2 : Nat} (h : PageR w base p L F) (O : Own w base2 e sz v n cs) (h1 : e ≠ 50) (h2 : e ≠ 5) : Dj (Bl v) F := fun x hx hf => by
  obtain ⟨vb, n, bs, _, a1, a2, _, hF⟩ := h
  rcases (hF x).1 hf with rfl | hf
  · exact O.neB a1 (fun q => h1 q.symm) hx
  · exact O.notOwn a2 h2 x hx hf
theorem PageR.notMap {K V : Type} {kv : K → Value} {vv : V → Value} {es : List (K × V)} (h : PageR w base p L F) (Mp : MapC kv vv w m es) : ¬ F m := fun hf => by
  obtain ⟨vb, n, bs, _, a1, a2, _, hF⟩ := h
  rcases (hF m).1 hf with hf | hf
  · exact a1.notMap Mp hf.symm
  · exact a2.notMap Mp hf
theorem PageR.fits (h : PageR w base p L F) : L.length ≤ 62 := by obtain ⟨vb, n, bs, _, _, _, h3, _⟩ := h; exact h3.fits.1
theorem PgAll.lt (h : PgAll w base P ps F) : ∀ x, F x → base ≤ x ∧ x < w.heap.size := fun x hx => by
  obtain ⟨_, Fs, h2, _, h4⟩ := h
  obtain ⟨i, hi, hx⟩ := (h4 x).1 hx
  exact (h2 i hi).lt x hx
theorem PgAll.keepG (h : PgAll w base P ps F) (E : Gr w w' G) (hd : Dj F G) : PgAll w' base P ps F := by
  obtain ⟨h1, Fs, h2, h3, h4⟩ := h
  exact ⟨h1, Fs, fun i hi => (h2 i hi).keepG E fun x hx => hd x ((h4 x).2 ⟨i, hi, hx⟩), h3, h4⟩
theorem PgAll.kz (h : PgAll w base P ps F) (E9 : w.grownBy w' none) : PgAll w' base P ps F := h.keepG (Gr.of0 E9 NoB) (fun _ _ h => h)
theorem PgAll.mono (h : PgAll w base P ps F) (hb : base' ≤ base) : PgAll w base' P ps F := by
  obtain ⟨h1, Fs, h2, h3, h4⟩ := h
  exact ⟨h1, Fs, fun i hi => (h2 i hi).mono hb, h3, h4⟩
theorem PgAll.nil (w : World) (base : Nat) : PgAll w base [] [] NoB := ⟨rfl, fun _ _ => False, fun _ h => absurd h (Nat.not_lt_zero _), fun _ _ h => absurd h (Nat.not_lt_zero _), fun x => ⟨fun h => h.elim, fun ⟨_, h, _⟩ => absurd h (Nat.not_lt_zero _)⟩⟩
theorem PgAll.notBx (h : PgAll w base P ps F) (B : Bx w b t cs) (h1 : t ≠ 50) (h2 : t ≠ 5) : ¬ F b := fun hf => by
  obtain ⟨_, Fs, a2, _, a4⟩ := h
  obtain ⟨i, hi, hf⟩ := (a4 b).1 hf
  exact (a2 i hi).notBx B h1 h2 hf
theorem PgAll.notOwn {base2 : Nat} (h : PgAll w base P ps F) (O : Own w base2 e sz v n cs) (h1 : e ≠ 50) (h2 : e ≠ 5) : Dj (Bl v) F := fun x hx hf => by
  obtain ⟨_, Fs, a2, _, a4⟩ := h
  obtain ⟨i, hi, hf⟩ := (a4 x).1 hf
  exact (a2 i hi).notOwn O h1 h2 x hx hf
theorem PgAll.notMap {K V : Type} {kv : K → Value} {vv : V → Value} {es : List (K × V)} (h : PgAll w base P ps F) (Mp : MapC kv vv w m es) : ¬ F m := fun hf => by
  obtain ⟨_, Fs, a2, _, a4⟩ := h
  obtain ⟨i, hi, hf⟩ := (a4 m).1 hf
  exact (a2 i hi).notMap Mp hf
theorem dj_upd {Fs : Nat → Nat → Prop} {F1 : Nat → Prop} {N n0 : Nat} (h3 : ∀ i j, i < N → j < N → i ≠ j → Dj (Fs i) (Fs j)) (hN : ∀ x, F1 x → (i < N ∧ Fs i x) ∨ n0 ≤ x) (hl : ∀ j, j < N → ∀ x, Fs j x → x < n0) :
    ∀ a b, a < N ∨ a = i → b < N ∨ b = i → a ≠ b → Dj (if a = i then F1 else Fs a) (if b = i then F1 else Fs b) := by
  have key : ∀ j, j < N → j ≠ i → Dj F1 (Fs j) := fun j hj hji x hx hf => by
    rcases hN x hx with ⟨hi, q⟩ | q
    · exact h3 i j hi hj (Ne.symm hji) x q hf
    · have := hl j hj x hf; omega
  intro a b ha hb hab
  by_cases q1 : a = i <;> by_cases q2 : b = i
  · exact absurd (q1.trans q2.symm) hab
  · rw [if_pos q1, if_neg q2]; exact key b (hb.resolve_right q2) q2
  · rw [if_neg q1, if_pos q2]; exact (key a (ha.resolve_right q1) q1).symm
  · rw [if_neg q1, if_neg q2]; exact h3 a b (ha.resolve_right q1) (hb.resolve_right q2) hab
theorem PgAll.at (h : PgAll w base P ps F) (hi : i < P.length) : ∃ F1, PageR w base (ps.getD i 0) (P.getD i default).2 F1 ∧ (∀ x, F1 x → F x) ∧
    ∀ (w' : World) (z : Int) (L' : List By) (F2 : Nat → Prop), Gr w w' F1 → PageR w' base (ps.getD i 0) L' F2 → NewF w.heap.size F1 F2 → ∃ F', PgAll w' base (P.set i (z, L')) ps F' ∧ NewF w.heap.size F F' ∧ ∀ x, F' x → F2 x ∨ F x := by
  obtain ⟨h1, Fs, h2, h3, h4⟩ := h
  refine ⟨Fs i, h2 i hi, fun x hx => (h4 x).2 ⟨i, hi, hx⟩, fun w' z L' F2 E hP hN => ?_⟩
  refine ⟨_, ⟨by rw [List.length_set]; exact h1, fun j => if j = i then F2 else Fs j, fun j hj => ?_, fun a b ha hb hab => ?_, fun x => Iff.rfl⟩, fun x hx => ?_, fun x hx => ?_⟩
  · rw [List.length_set] at hj
    by_cases hji : j = i
    · subst hji
      simp only [if_true]
      have : (P.set j (z, L')).getD j default = (z, L') := by simp [List.getD_eq_getElem?_getD, hj]
      rw [this]; exact hP
    · simp only [if_neg hji]
      have : (P.set i (z, L')).getD j default = P.getD j default := by simp [List.getD_eq_getElem?_getD, List.getElem?_set_ne (Ne.symm hji)]
      rw [this]; exact (h2 j hj).keepG E (h3 j i hj hi hji)
  · rw [List.length_set] at ha hb
    exact dj_upd (N := P.length) (n0 := w.heap.size) h3 (fun x hx => (hN x hx).imp (fun q => ⟨hi, q⟩) id) (fun j hj x hx => ((h2 j hj).lt x hx).2) a b (.inl ha) (.inl hb) hab
  · obtain ⟨j, hj, hx⟩ := hx
    rw [List.length_set] at hj
    by_cases hji : j = i
    · rw [if_pos hji] at hx; exact (hN x hx).imp (fun q => (h4 x).2 ⟨i, hi, q⟩) id
    · rw [if_neg hji] at hx; exact .inl ((h4 x).2 ⟨j, hj, hx⟩)
  · obtain ⟨j, hj, hx⟩ := hx
    rw [List.length_set] at hj
    by_cases hji : j = i
    · rw [if_pos hji] at hx; exact .inl hx
    · rw [if_neg hji] at hx; exact .inr ((h4 x).2 ⟨j, hj, hx⟩)
theorem PgAll.snoc {F1 : Nat → Prop} {z : Int} (h : PgAll w base P ps F) (hP : PageR w base p L F1) (hd : Dj F F1) : PgAll w base (P ++ [(z, L)]) (ps ++ [p]) (fun x => F x ∨ F1 x) := by
  obtain ⟨h1, Fs, h2, h3, h4⟩ := h
  have hl : (P ++ [(z, L)]).length = P.length + 1 := by simp
  refine ⟨by simp [h1], fun j => if j = P.length then F1 else Fs j, fun j hj => ?_, fun a b ha hb hab => ?_, fun x => ⟨fun hx => ?_, fun hx => ?_⟩⟩
  · by_cases hji : j = P.length
    · subst hji
      have e1 : (ps ++ [p]).getD P.length 0 = p := by rw [← h1]; simp [List.getD_eq_getElem?_getD]
      have e2 : (P ++ [(z, L)]).getD P.length default = (z, L) := by simp [List.getD_eq_getElem?_getD]
      simp only [if_true]; rw [e1, e2]; exact hP
    · have hj2 : j < P.length := by omega
      have e1 : (ps ++ [p]).getD j 0 = ps.getD j 0 := by simp only [List.getD_eq_getElem?_getD]; rw [List.getElem?_append_left (by omega)]
      have e2 : (P ++ [(z, L)]).getD j default = P.getD j default := by simp only [List.getD_eq_getElem?_getD]; rw [List.getElem?_append_left hj2]
      simp only [if_neg hji]; rw [e1, e2]; exact h2 j hj2
  · have key : ∀ j, j < P.length → Dj (Fs j) F1 := fun j hj x hx => hd x ((h4 x).2 ⟨j, hj, hx⟩)
    show Dj (if a = P.length then F1 else Fs a) (if b = P.length then F1 else Fs b)
    by_cases q1 : a = P.length <;> by_cases q2 : b = P.length
    · exact absurd (q1.trans q2.symm) hab
    · rw [if_pos q1, if_neg q2]; exact (key b (by omega)).symm
    · rw [if_neg q1, if_pos q2]; exact key a (by omega)
    · rw [if_neg q1, if_neg q2]; exact h3 a b (by omega) (by omega) hab
  · rcases hx with hx | hx
    · obtain ⟨i, hi, hx⟩ := (h4 x).1 hx
      exact ⟨i, by omega, by show (if i = P.length then F1 else Fs i) x; rw [if_neg (by omega)]; exact hx⟩
    · exact ⟨P.length, by omega, by show (if P.length = P.length then F1 else Fs P.length) x; rw [if_pos rfl]; exact hx⟩
  · obtain ⟨i, hi, hx⟩ := hx
    by_cases hj : i = P.length
    · rw [if_pos hj] at hx; exact .inr hx
    · rw [if_neg hj] at hx; exact .inl ((h4 x).2 ⟨i, by omega, hx⟩)
theorem getD_erase {α : Type} {l : List α} {i j : Nat} {d : α} : (l.eraseIdx j).getD i d = if i < j then l.getD i d else l.getD (i + 1) d := by
  simp only [List.getD_eq_getElem?_getD, List.getElem?_eraseIdx]
  split <;> rfl
theorem PgAll.erase (h : PgAll w base P ps F) (hj : j < P.length) : ∃ F2, PgAll w base (P.eraseIdx j) (ps.eraseIdx j) F2 ∧ ∀ x, F2 x → F x := by
  obtain ⟨h1, Fs, h2, h3, h4⟩ := h
  have hl : (P.eraseIdx j).length = P.length - 1 := by rw [List.length_eraseIdx, if_pos hj]
  have up : ∀ i, i < (P.eraseIdx j).length → (if i < j then i else i + 1) < P.length := fun i hi => by split <;> omega
  refine ⟨_, ⟨by rw [List.length_eraseIdx, if_pos (by omega), hl, h1], fun i => Fs (if i < j then i else i + 1), fun i hi => ?_, fun a b ha hb hab => ?_, fun x => Iff.rfl⟩, fun x hx => ?_⟩
  · have gM : (P.eraseIdx j).getD i default = P.getD (if i < j then i else i + 1) default := by rw [getD_erase]; split <;> rfl
    have gC : (ps.eraseIdx j).getD i 0 = ps.getD (if i < j then i else i + 1) 0 := by rw [getD_erase]; split <;> rfl
    rw [gM, gC]; exact h2 _ (up i hi)
  · refine h3 _ _ (up a ha) (up b hb) ?_
    split <;> split <;> omega
  · obtain ⟨i, hi, hx⟩ := hx
    exact (h4 x).2 ⟨_, up i hi, hx⟩
theorem esP_len (h : ps.length = P.length) : (esP P ps).length = P.length := by unfold esP; simp [h]
theorem esP_keys (h : ps.length = P.length) : (esP P ps).map Prod.fst = P.map Prod.fst := by
  unfold esP
  apply List.ext_getElem?
  intro i
  simp only [List.getElem?_map, List.getElem?_zipWith]
  by_cases hi : i < P.length
  · rw [List.getElem?_eq_getElem hi, List.getElem?_eq_getElem (by omega)]; rfl
  · rw [List.getElem?_eq_none (by omega), List.getElem?_eq_none (by omega)]; rfl
theorem esP_look : ∀ {P : PM} {ps : List Nat} {n : Int}, ps.length = P.length → mlook (esP P ps) n = (mlook P n).map fun q => (q.1, ps.getD q.1 0)
  | [], [], _, _ => rfl
  | [], _ :: _, _, h => by cases h
  | _ :: _, [], _, h => by cases h
  | (a, t) :: P, c :: ps, n, h => by
    have ih := esP_look (P := P) (ps := ps) (n := n) (by simpa using h)
    unfold esP at ih ⊢
    simp only [List.zipWith_cons_cons, mlook]
    split
    · rfl
    · rw [ih]; cases mlook P n <;> rfl
theorem esP_set {z : Int} (h : ps.length = P.length) (hk : i < P.length → (P.getD i default).1 = z) : esP (P.set i (z, L)) ps = esP P ps := by
  unfold esP
  apply List.ext_getElem?
  intro q
  simp only [List.getElem?_zipWith, List.getElem?_set]
  by_cases hq : i = q
  · subst hq
    by_cases hi : i < P.length
    · have hiC : i < ps.length := by omega
      rw [if_pos rfl, if_pos hi, List.getElem?_eq_getElem hi, List.getElem?_eq_getElem hiC]
      have h1 := hk hi
      simp only [List.getD_eq_getElem?_getD, List.getElem?_eq_getElem hi, Option.getD_some] at h1
      simp only []
      rw [h1]
    · rw [if_pos rfl, if_neg hi, List.getElem?_eq_none (show P.length ≤ i by omega)]
  · rw [if_neg hq]
theorem esP_snoc {z : Int} (h : ps.length = P.length) : esP (P ++ [(z, L)]) (ps ++ [p]) = esP P ps ++ [(z, p)] := by
  unfold esP
  rw [List.zipWith_append (by omega)]; rfl
theorem esP_erase : esP (P.eraseIdx j) (ps.eraseIdx j) = (esP P ps).eraseIdx j := by
  unfold esP
  apply List.ext_getElem?
  intro q
  simp only [List.getElem?_zipWith, List.getElem?_eraseIdx]
  by_cases hq : q < j
  · simp only [if_pos hq]
  · simp only [if_neg hq]
theorem MapsN.keepG (h : MapsN w base P ps M v1 v2) (E : Gr w w' G) (hd : ∀ x, v1 = .map (some x) ∨ v2 = .map (some x) → ¬ G x) : MapsN w' base P ps M v1 v2 := by
  rcases h with h | ⟨pm, mm, rfl, rfl, a, b, c, h1, h2⟩
  · exact .inl h
  · exact .inr ⟨pm, mm, rfl, rfl, a, b, c, h1.keepG E (hd pm (.inl rfl)), h2.keepG E (hd mm (.inr rfl))⟩
theorem HeapB.lt (h : HeapB w base k P nx M F) : ∀ x, F x → base ≤ x ∧ x < w.heap.size := by
  obtain ⟨v1, v2, ps, F0, hk, hx, hA, hM, hF⟩ := h
  intro x hf
  rcases (hF x).1 hf with rfl | hf | hf | hf
  · exact ⟨hk, hx.lt⟩
  · rcases hM with ⟨rfl, _⟩ | ⟨pm, mm, rfl, _, h1, _, _, h2, _⟩
    · cases hf
    · injection hf with hf; injection hf with hf; subst hf; exact ⟨h1, h2.lt⟩
  · rcases hM with ⟨_, rfl, _⟩ | ⟨pm, mm, _, rfl, _, h1, _, _, h2⟩
    · cases hf
    · injection hf with hf; injection hf with hf; subst hf; exact ⟨h1, h2.lt⟩
  · exact hA.lt x hf
theorem HeapB.keepG (h : HeapB w base k P nx M F) (E : Gr w w' G) (hd : Dj F G) : HeapB w' base k P nx M F := by
  obtain ⟨v1, v2, ps, F0, hk, hx, hA, hM, hF⟩ := h
  exact ⟨v1, v2, ps, F0, hk, hx.keepG E (hd k ((hF k).2 (.inl rfl))), hA.keepG E (fun x hx => hd x ((hF x).2 (.inr (.inr (.inr hx))))), hM.keepG E (fun x hx => hd x ((hF x).2 (hx.elim (fun q => .inr (.inl q)) (fun q => .inr (.inr (.inl q)))))), hF⟩
theorem HeapB.kz (h : HeapB w base k P nx M F) (E9 : w.grownBy w' none) : HeapB w' base k P nx M F := h.keepG (Gr.of0 E9 NoB) (fun _ _ h => h)
theorem HeapR.lt (h : HeapR w base k R m F) : ∀ x, F x → base ≤ x ∧ x < w.heap.size := by
  obtain ⟨P, nx, M, h, _⟩ := h; exact h.lt
theorem MapsN.mono (h : MapsN w base P ps M v1 v2) (hb : base' ≤ base) : MapsN w base' P ps M v1 v2 := by
  rcases h with h | ⟨pm, mm, rfl, rfl, a, b, c, h1, h2⟩
  · exact .inl h
  · exact .inr ⟨pm, mm, rfl, rfl, Nat.le_trans hb a, Nat.le_trans hb b, c, h1, h2⟩
theorem HeapR.mono (h : HeapR w base k R m F) (hb : base' ≤ base) : HeapR w base' k R m F := by
  obtain ⟨P, nx, M, ⟨v1, v2, ps, F0, hk, hx, hA, hM, hF⟩, h2⟩ := h
  exact ⟨P, nx, M, ⟨v1, v2, ps, F0, Nat.le_trans hb hk, hx, hA.mono hb, hM.mono hb, hF⟩, h2⟩
theorem HeapR.keepG (h : HeapR w base k R m F) (E : Gr w w' G) (hd : Dj F G) : HeapR w' base k R m F := by
  obtain ⟨P, nx, M, h, h2⟩ := h; exact ⟨P, nx, M, h.keepG E hd, h2⟩
theorem HeapR.kz (h : HeapR w base k R m F) (E9 : w.grownBy w' none) : HeapR w' base k R m F := h.keepG (Gr.of0 E9 NoB) (fun _ _ h => h)
end
end Go.Proofs.Ytdhpalioifjfbaa

namespace Go.Proofs.Ytdhpalioifjfbaa
open Go.Gx Go.RowKit
theorem putN_same {L : List By} {r : By} (h : putE L r ≠ 0) : putN L r = L := by
  unfold putE at h; unfold putN
  split at h
  · rw [if_pos (by assumption)]
  · rename_i hb
    rw [if_neg hb]
    split at h
    · rw [if_pos (by assumption)]
    · exact absurd rfl h
theorem putE_bad {L : List By} {r : By} (h : badB r = true) : putE L r = 7 := (put_bad h).1
theorem putE_nil {r : By} (h : badB r = false) : putE [] r = 0 := by
  refine (put_ok h ?_).1
  unfold badB at h
  simp only [Bool.or_eq_false_iff, decide_eq_false_iff_not] at h
  show ¬ leftL [] (max 0 (0 + 1)) < (r.length : Int)
  unfold leftL sumL
  simp; omega
theorem mlook_val {P : PM} {z : Int} {L : List By} (hg : mget P z = some L) : ∃ j, mlook P z = some (j, L) ∧ j < P.length ∧ P.getD j default = (z, L) := by
  unfold mget at hg
  obtain ⟨⟨j, t⟩, hq, rfl⟩ := Option.map_eq_some_iff.1 hg
  have hj := mlook_some hq
  obtain ⟨hjl, hjv⟩ := List.getElem?_eq_some_iff.1 hj
  exact ⟨j, hq, hjl, by simp [List.getD_eq_getElem?_getD, hj]⟩
section
variable {w w' : World} {base k m p : Nat} {P P' : PM} {ps : List Nat} {M : AM} {nx z : Int} {L L' : List By} {F F' G : Nat → Prop} {r : By}
theorem PgAll.key (h : PgAll w base P ps F) (hg : mget P z = some L) : ∃ p F1, mget (esP P ps) z = some p ∧ PageR w base p L F1 ∧ (∀ x, F1 x → F x) ∧
    ∀ (w' : World) (L' : List By) (F2 : Nat → Prop), Gr w w' F1 → PageR w' base p L' F2 → NewF w.heap.size F1 F2 → Gr w w' F ∧ ∃ F', PgAll w' base (mput P z L') ps F' ∧ NewF w.heap.size F F' ∧ ∀ x, F' x → F2 x ∨ F x := by
  obtain ⟨j, hq, hj, hv⟩ := mlook_val hg
  obtain ⟨F1, h1, h2, h3⟩ := h.at hj
  rw [hv] at h1
  refine ⟨ps.getD j 0, F1, ?_, h1, h2, fun w' L' F2 E hP hN => ⟨E.mono fun x _ hx => h2 x hx, ?_⟩⟩
  · unfold mget; rw [esP_look h.1, hq]; rfl
  · have hput : mput P z L' = P.set j (z, L') := by unfold mput; rw [hq]
    rw [hput]; exact h3 w' z L' F2 E hP hN
theorem esP_mput (h : ps.length = P.length) (hg : mget P z = some L) : esP (mput P z L') ps = esP P ps := by
  obtain ⟨j, hq, hj, hv⟩ := mlook_val hg
  have hput : mput P z L' = P.set j (z, L') := by unfold mput; rw [hq]
  rw [hput]; exact esP_set h (fun _ => by rw [hv])
theorem esP_new (h : ps.length = P.length) (hg : z ∉ P.map Prod.fst) : mput P z L = P ++ [(z, L)] ∧ mput (esP P ps) z p = esP (P ++ [(z, L)]) (ps ++ [p]) := by
  constructor
  · unfold mput; rw [mlook_none.2 hg]
  · unfold mput; rw [mlook_none.2 (by rw [esP_keys h]; exact hg)]; exact (esP_snoc h).symm
theorem PgAll.del (h : PgAll w base P ps F) (hg : mget P z = some L) : ∃ ps' F2, PgAll w base (mdel P z) ps' F2 ∧ (∀ x, F2 x → F x) ∧ mdel (esP P ps) z = esP (mdel P z) ps' := by
  obtain ⟨j, hq, hj, hv⟩ := mlook_val hg
  obtain ⟨F2, h1, h2⟩ := h.erase hj
  have hd : mdel P z = P.eraseIdx j := by unfold mdel; rw [hq]
  refine ⟨ps.eraseIdx j, F2, by rw [hd]; exact h1, h2, ?_⟩
  rw [hd]; unfold mdel; rw [esP_look h.1, hq]; exact esP_erase.symm
def PutsP (P : PM) (nx : Int) (r : By) (e : Int) (to : Int × Int) (P' : PM) (nx' : Int) : Prop :=
  (badB r = true ∧ e = 7 ∧ P' = P ∧ nx' = nx) ∨ (badB r = false ∧ e = 0 ∧ ((∃ L, mget P to.1 = some L ∧ putE L r = 0 ∧ to.2 = putK L r ∧ P' = mput P to.1 (putN L r) ∧ nx' = nx) ∨ (to = (nx + 1, putK [] r) ∧ P' = P ++ [(nx + 1, putN [] r)] ∧ nx' = nx + 1)))
def DropsP (P : PM) (at_ : Int × Int) (P' : PM) : Prop :=
  ∃ L, mget P at_.1 = some L ∧ ((slotsI (dropN L at_.2) (dropN L at_.2).length = [] ∧ P' = mdel P at_.1) ∨ (slotsI (dropN L at_.2) (dropN L at_.2).length ≠ [] ∧ P' = mput P at_.1 (dropN L at_.2)))
theorem slotsN_has : ∀ {L : List By} {m s : Nat}, s ∈ slotsN L m ↔ s < m ∧ (L.getD s []).length ≠ 0 := by
  intro L m
  induction m with
  | zero => intro s; simp [slotsN]
  | succ m ih =>
    intro s
    by_cases h : (L.getD m []).length ≠ 0
    · rw [slotsN_go h, List.mem_append, ih, List.mem_singleton]
      constructor
      · rintro (⟨a, b⟩ | rfl)
        · exact ⟨by omega, b⟩
        · exact ⟨by omega, h⟩
      · rintro ⟨a, b⟩
        by_cases hs : s = m
        · exact .inr hs
        · exact .inl ⟨by omega, b⟩
    · rw [slotsN_skip (by omega), ih]
      constructor
      · rintro ⟨a, b⟩; exact ⟨by omega, b⟩
      · rintro ⟨a, b⟩
        refine ⟨?_, b⟩
        by_cases hs : s = m
        · subst hs; exact absurd b h
        · omega
theorem slots_none {L : List By} : slotsI L L.length = [] ↔ ∀ k, getL L k = [] := by
  unfold slotsI
  rw [List.map_eq_nil_iff, List.eq_nil_iff_forall_not_mem]
  constructor
  · intro h k
    by_cases hk : k < 0
    · exact getL_neg hk
    · obtain ⟨s, rfl⟩ : ∃ s : Nat, k = (s : Int) := ⟨k.toNat, by omega⟩
      rw [getL_nat]
      have := h s
      rw [slotsN_has] at this
      by_cases hs : s < L.length
      · exact List.eq_nil_of_length_eq_zero (by omega)
      · simp [List.getD_eq_getElem?_getD, List.getElem?_eq_none (show L.length ≤ s by omega)]
  · intro h s hs
    rw [slotsN_has] at hs
    have := h s
    rw [getL_nat] at this
    exact hs.2 (by rw [this]; rfl)
end
section
variable {P P' : PM} {M : AM} {nx nx' id e : Int} {r : By} {to at_ : Int × Int}
theorem HInv.fresh (h : HInv P nx M) : nx + 1 ∉ P.map Prod.fst := fun q => by have := h.nums _ q; omega
theorem PutsP.num (h : PutsP P nx r e to P' nx') (hn : 0 ≤ nx) : 0 ≤ nx' ∧ nx ≤ nx' ∧ nx' ≤ nx + 1 := by
  rcases h with ⟨_, _, _, rfl⟩ | ⟨_, _, ⟨L, _, _, _, _, rfl⟩ | ⟨_, _, rfl⟩⟩ <;> omega
theorem PutsP.get (h : PutsP P nx r e to P' nx') (hI : HInv P nx M) (hn : 0 ≤ nx) (he : badB r = false) : gH P to = [] ∧ r ≠ [] ∧ (P'.map Prod.fst).Nodup ∧ (∀ a, gH P' a = if a = to then r else gH P a) ∧ (∀ i, i ∈ P'.map Prod.fst ↔ i ∈ P.map Prod.fst ∨ i = to.1) ∧ 1 ≤ to.1 ∧ to.1 ≤ nx' ∧ nx ≤ nx' := by
  rcases h with ⟨hb, _⟩ | ⟨_, _, h⟩
  · rw [he] at hb; cases hb
  · rcases h with ⟨L, hg, hz, hk, rfl, rfl⟩ | ⟨rfl, rfl, rfl⟩
    · have hpA : pAt P to.1 = L := by unfold pAt; rw [hg]; rfl
      have hmem : to.1 ∈ P.map Prod.fst := List.mem_map.2 ⟨_, mget_mem hg, rfl⟩
      have hnum := hI.nums _ hmem
      refine ⟨by unfold gH; rw [hpA, hk]; exact putN_was hz, (putE_ne hz).1, nodup_mput hI.kp, fun a => ?_, fun i => keys_put, hnum.1, hnum.2, Int.le_refl _⟩
      rw [gH_put hI.kp]
      by_cases h1 : a.1 = to.1
      · rw [if_pos h1, putN_get hz]
        by_cases h2 : a.2 = putK L r
        · rw [if_pos h2, if_pos (Prod.ext h1 (h2.trans hk.symm))]
        · rw [if_neg h2, if_neg fun q => h2 (by rw [q, hk])]
          unfold gH; rw [h1, hpA]
      · rw [if_neg h1, if_neg fun q => h1 (by rw [q])]
    · have hf := hI.fresh
      have e1 : P ++ [(nx + 1, putN [] r)] = mput P (nx + 1) (putN [] r) := by unfold mput; rw [mlook_none.2 hf]
      have hz := putE_nil he
      refine ⟨?_, (putE_ne hz).1, by rw [e1]; exact nodup_mput hI.kp, fun a => ?_, fun i => by rw [e1]; exact keys_put, ?_, Int.le_refl _, by omega⟩
      · by_cases hq : gH P (nx + 1, putK [] r) = []
        · exact hq
        · exact absurd (gH_key hq) hf
      · rw [e1, gH_put hI.kp]
        by_cases h1 : a.1 = nx + 1
        · rw [if_pos h1, putN_get hz, getL_zero]
          by_cases h2 : a.2 = putK [] r
          · rw [if_pos h2, if_pos (Prod.ext h1 h2)]
          · rw [if_neg h2, if_neg fun q => h2 (by rw [q])]
            by_cases hq : gH P a = []
            · exact hq.symm
            · exact absurd (gH_key hq) (by rw [h1]; exact hf)
        · rw [if_neg h1, if_neg fun q => h1 (by rw [q])]
      · show 1 ≤ nx + 1
        omega
theorem DropsP.get (h : DropsP P at_ P') (hk : (P.map Prod.fst).Nodup) (hat : gH P at_ ≠ []) : (P'.map Prod.fst).Nodup ∧ (∀ a, gH P' a = if a = at_ then [] else gH P a) ∧ (∀ i ∈ P'.map Prod.fst, i ∈ P.map Prod.fst) ∧ (∀ i ∈ P'.map Prod.fst, (∃ s, gH P (i, s) ≠ []) → ∃ s, gH P' (i, s) ≠ []) := by
  obtain ⟨L, hg, h⟩ := h
  have hpA : pAt P at_.1 = L := by unfold pAt; rw [hg]; rfl
  have hz : sizeL L at_.2 ≠ 0 := fun q => hat (by unfold gH; rw [hpA]; exact size_get.1 q)
  have hmem : at_.1 ∈ P.map Prod.fst := List.mem_map.2 ⟨_, mget_mem hg, rfl⟩
  rcases h with ⟨hs, rfl⟩ | ⟨hs, rfl⟩
  · rw [slots_none] at hs
    refine ⟨nodup_mdel hk, fun a => ?_, fun i hi => ((mdel_keys hk).1 hi).1, fun i hi ⟨s, hq⟩ => ⟨s, ?_⟩⟩
    · rw [gH_del hk]
      by_cases h1 : a.1 = at_.1
      · rw [if_pos h1]
        by_cases h2 : a = at_
        · rw [if_pos h2]
        · rw [if_neg h2]
          have h3 := hs a.2
          rw [dropN_get hz, if_neg fun q => h2 (Prod.ext h1 q)] at h3
          unfold gH; rw [h1, hpA]; exact h3.symm
      · rw [if_neg h1, if_neg fun q => h1 (by rw [q])]
    · rw [gH_del hk, if_neg ((mdel_keys hk).1 hi).2]; exact hq
  · refine ⟨nodup_mput hk, fun a => ?_, fun i hi => (keys_put.1 hi).elim id fun q => q ▸ hmem, fun i hi ⟨s, hq⟩ => ?_⟩
    · rw [gH_put hk]
      by_cases h1 : a.1 = at_.1
      · rw [if_pos h1, dropN_get hz]
        by_cases h2 : a.2 = at_.2
        · rw [if_pos h2, if_pos (Prod.ext h1 h2)]
        · rw [if_neg h2, if_neg fun q => h2 (by rw [q])]
          unfold gH; rw [h1, hpA]
      · rw [if_neg h1, if_neg fun q => h1 (by rw [q])]
    · by_cases h1 : i = at_.1
      · have h2 : ¬ ∀ k, getL (dropN L at_.2) k = [] := fun q => hs (slots_none.2 q)
        obtain ⟨k, hk2⟩ := Classical.not_forall.1 h2
        exact ⟨k, by rw [gH_put hk, if_pos h1]; exact hk2⟩
      · exact ⟨s, by rw [gH_put hk, if_neg h1]; exact hq⟩
theorem puts_new (h : PutsP P nx r e to P' nx') (hI : HInv P nx M) (hn : 0 ≤ nx) (he : badB r = false) (hm : mget M id = none) : HInv P' nx' (mput M id to) ∧ recs P' (mput M id to) = mput (recs P M) id r := by
  obtain ⟨h1, h2, h3, h4, h5, h6, h7, h8⟩ := h.get hI hn he
  refine hI.of_move h3 (fun i hi => ?_) h2 h1 (fun e he2 hq => absurd (List.mem_map.2 ⟨e, he2, hq⟩) (mget_none.1 hm)) (fun a => by rw [h4, hm]; rfl) (fun i hi => ?_)
  · rcases (h5 i).1 hi with q | q
    · have := hI.nums i q; omega
    · omega
  · by_cases q : i = to.1
    · exact ⟨to.2, by rw [h4, q, if_pos rfl]; exact h2⟩
    · obtain ⟨s, hs⟩ := hI.ne i (((h5 i).1 hi).resolve_right q)
      exact ⟨s, by rw [h4]; split; exact h2; exact hs⟩
theorem puts_old {P2 : PM} (h : PutsP P nx r e to P' nx') (hI : HInv P nx M) (hn : 0 ≤ nx) (he : badB r = false) (hm : mget M id = some at_) (hD : DropsP P' at_ P2) : HInv P2 nx' (mput M id to) ∧ recs P2 (mput M id to) = mput (recs P M) id r := by
  obtain ⟨h1, h2, h3, h4, h5, h6, h7, h8⟩ := h.get hI hn he
  obtain ⟨hin, hat⟩ := hI.key hm
  have hne : at_ ≠ to := fun q => hat (by rw [q]; exact h1)
  obtain ⟨d1, d2, d3, d4⟩ := hD.get h3 (by rw [h4, if_neg hne]; exact hat)
  refine hI.of_move d1 (fun i hi => ?_) h2 h1 (fun e2 he2 hq => .inl ?_) (fun a => ?_) (fun i hi => d4 i hi ?_)
  · rcases (h5 i).1 (d3 i hi) with q | q
    · have := hI.nums i q; omega
    · omega
  · have : mget M e2.1 = some e2.2 := mget_of_mem hI.km (show (e2.1, e2.2) ∈ M from he2)
    rw [hq, hm] at this
    rw [d2, if_pos (Option.some.inj this).symm]
  · rw [d2, h4, hm]
    by_cases q1 : a = to
    · simp only [if_pos q1]; rw [if_neg fun q => hne (q.symm.trans q1)]
    · simp only [if_neg q1]
      by_cases q2 : a = at_
      · rw [if_pos q2, if_pos (by rw [q2])]
      · rw [if_neg q2, if_neg fun q => q2 (Option.some.inj q).symm]
  · by_cases q : i = to.1
    · exact ⟨to.2, by rw [h4, q, if_pos rfl]; exact h2⟩
    · obtain ⟨s, hs⟩ := hI.ne i (((h5 i).1 (d3 i hi)).resolve_right q)
      exact ⟨s, by rw [h4]; split; exact h2; exact hs⟩
theorem drops_done (hI : HInv P nx M) (hm : mget M id = some at_) (hD : DropsP P at_ P') : HInv P' nx (mdel M id) ∧ recs P' (mdel M id) = mdel (recs P M) id := by
  obtain ⟨hin, hat⟩ := hI.key hm
  obtain ⟨d1, d2, d3, d4⟩ := hD.get hI.kp hat
  exact hI.of_del hm d1 d3 d2 fun i hi => d4 i hi (hI.ne i (d3 i hi))
theorem set_done {L : List By} (hI : HInv P nx M) (hm : mget M id = some at_) (hg : mget P at_.1 = some L) (hz : setE L at_.2 r = 0) : HInv (mput P at_.1 (setN L at_.2 r)) nx M ∧ recs (mput P at_.1 (setN L at_.2 r)) M = mput (recs P M) id r := by
  have hpA : pAt P at_.1 = L := by unfold pAt; rw [hg]; rfl
  have hmem : at_.1 ∈ P.map Prod.fst := List.mem_map.2 ⟨_, mget_mem hg, rfl⟩
  refine hI.of_set hm (nodup_mput hI.kp) (fun i => ⟨fun h => (keys_put.1 h).elim (fun q => q) fun q => q ▸ hmem, fun h => keys_put.2 (.inl h)⟩) (setE_ne hz) fun a => ?_
  rw [gH_put hI.kp]
  by_cases h1 : a.1 = at_.1
  · rw [if_pos h1, setN_get hz]
    by_cases h2 : a.2 = at_.2
    · rw [if_pos h2, if_pos (Prod.ext h1 h2)]
    · rw [if_neg h2, if_neg fun q => h2 (by rw [q])]
      unfold gH; rw [h1, hpA]
  · rw [if_neg h1, if_neg fun q => h1 (by rw [q])]
theorem setN_same {L : List By} {k : Int} (h : setE L k r ≠ 0) : setN L k r = L := by unfold setN; rw [if_neg h]
theorem setE_bad {L : List By} {k : Int} (h : setE L k r = 0) : badB r = false := by
  unfold setE at h
  split at h
  · exact absurd h (by decide)
  · split at h
    · exact absurd h (by decide)
    · rename_i q; simpa using q
end
end Go.Proofs.Ytdhpalioifjfbaa

namespace Go.Proofs.Ytdhpalioifjfbaa
open Go.Gx

theorem us3 : (Try.prog.underlying 3).isSome = true := by kernel_rfl
theorem one3 : oneT Try.prog 3 = true := by kernel_rfl
theorem size3 : (Try.prog.info? 3).map (·.size) = some 1 := by kernel_rfl
theorem zero3 : zeroT Try.prog 3 = some (Value.int .i64 0) := by kernel_rfl
theorem us5 : (Try.prog.underlying 5).isSome = true := by kernel_rfl
theorem one5 : oneT Try.prog 5 = true := by kernel_rfl
theorem size5 : (Try.prog.info? 5).map (·.size) = some 1 := by kernel_rfl
theorem one9 : oneT Try.prog 9 = true := by kernel_rfl
theorem size9 : (Try.prog.info? 9).map (·.size) = some 1 := by kernel_rfl
theorem one22 : oneT Try.prog 22 = true := by kernel_rfl
theorem slt22 : SlT Try.prog 22 5 (Value.int .u8 0) 1 1 := ⟨Try.underlying22, by kernel_rfl, rfl, by decide⟩
theorem size22 : (Try.prog.info? 22).map (·.size) = some 1 := by kernel_rfl
theorem ptrt24 : Try.prog.underlying 24 = some (.pointer (Try.prog.pointee 24)) := by kernel_rfl
theorem zero24 : zeroT Try.prog 24 = some (Value.pointer none) := by kernel_rfl
theorem slt29 : SlT Try.prog 29 3 (Value.int .i64 0) 1 8 := ⟨Try.underlying29, by kernel_rfl, rfl, by decide⟩
theorem slt38 : SlT Try.prog 38 22 (Value.slice none 0 0) 1 24 := ⟨Try.underlying38, by kernel_rfl, rfl, by decide⟩
theorem fld50_0 : fieldT Try.prog 50 0 = some 0 := by kernel_rfl
theorem ptrt53 : Try.prog.underlying 53 = some (.pointer (Try.prog.pointee 53)) := by kernel_rfl
theorem us57 : (Try.prog.underlying 57).isSome = true := by kernel_rfl
theorem one57 : oneT Try.prog 57 = true := by kernel_rfl
theorem size57 : (Try.prog.info? 57).map (·.size) = some 1 := by kernel_rfl
theorem slt61 : SlT Try.prog 61 65 (Value.agg #[(Value.int .i64 0), (Value.int .i64 0), (Value.int .u64 0), (Value.int .u8 0)]) 4 32 := ⟨Try.underlying61, by kernel_rfl, rfl, by decide⟩
theorem slt62 : SlT Try.prog 62 57 (Value.int .u64 0) 1 8 := ⟨Try.underlying62, by kernel_rfl, rfl, by decide⟩
theorem slt63 : SlT Try.prog 63 9 (Value.string (bs [])) 1 16 := ⟨Try.underlying63, by kernel_rfl, rfl, by decide⟩
theorem agg65 : aggT Try.prog 65 = some 4 := by kernel_rfl
theorem fld65_0 : fieldT Try.prog 65 0 = some 0 := by kernel_rfl
theorem fld65_1 : fieldT Try.prog 65 1 = some 1 := by kernel_rfl
theorem fld65_2 : fieldT Try.prog 65 2 = some 2 := by kernel_rfl
theorem fld65_3 : fieldT Try.prog 65 3 = some 3 := by kernel_rfl
theorem size65 : (Try.prog.info? 65).map (·.size) = some 4 := by kernel_rfl
theorem zero65 : zeroT Try.prog 65 = some (Value.agg #[(Value.int .i64 0), (Value.int .i64 0), (Value.int .u64 0), (Value.int .u8 0)]) := by kernel_rfl
theorem one68 : oneT Try.prog 68 = true := by kernel_rfl
theorem size68 : (Try.prog.info? 68).map (·.size) = some 1 := by kernel_rfl
theorem one69 : oneT Try.prog 69 = true := by kernel_rfl
theorem size69 : (Try.prog.info? 69).map (·.size) = some 1 := by kernel_rfl
theorem fld71_0 : fieldT Try.prog 71 0 = some 0 := by kernel_rfl
theorem fld71_1 : fieldT Try.prog 71 1 = some 1 := by kernel_rfl
theorem fld71_2 : fieldT Try.prog 71 2 = some 2 := by kernel_rfl
theorem agg80 : aggT Try.prog 80 = some 2 := by kernel_rfl
theorem fld80_0 : fieldT Try.prog 80 0 = some 0 := by kernel_rfl
theorem fld80_1 : fieldT Try.prog 80 1 = some 1 := by kernel_rfl
theorem size80 : (Try.prog.info? 80).map (·.size) = some 2 := by kernel_rfl
theorem zero80 : zeroT Try.prog 80 = some (Value.agg #[(Value.int .i64 0), (Value.int .i64 0)]) := by kernel_rfl
theorem us90 : (Try.prog.underlying 90).isSome = true := by kernel_rfl
theorem one121 : oneT Try.prog 121 = true := by kernel_rfl
theorem size121 : (Try.prog.info? 121).map (·.size) = some 1 := by kernel_rfl
theorem zero121 : zeroT Try.prog 121 = some (Value.int .u64 0) := by kernel_rfl
theorem ok10 : callOk Try.prog 10 = true := by kernel_rfl
theorem ok11 : callOk Try.prog 11 = true := by kernel_rfl
theorem ok12 : callOk Try.prog 12 = true := by kernel_rfl
theorem ok13 : callOk Try.prog 13 = true := by kernel_rfl
theorem ok15 : callOk Try.prog 15 = true := by kernel_rfl
theorem ok16 : callOk Try.prog 16 = true := by kernel_rfl
theorem ok20 : callOk Try.prog 20 = true := by kernel_rfl
theorem ok22 : callOk Try.prog 22 = true := by kernel_rfl
theorem ok23 : callOk Try.prog 23 = true := by kernel_rfl
theorem ok25 : callOk Try.prog 25 = true := by kernel_rfl
theorem ok26 : callOk Try.prog 26 = true := by kernel_rfl
theorem ok27 : callOk Try.prog 27 = true := by kernel_rfl
theorem ok28 : callOk Try.prog 28 = true := by kernel_rfl
theorem ok29 : callOk Try.prog 29 = true := by kernel_rfl
theorem ok30 : callOk Try.prog 30 = true := by kernel_rfl
theorem ok31 : callOk Try.prog 31 = true := by kernel_rfl
theorem ok32 : callOk Try.prog 32 = true := by kernel_rfl
theorem ok33 : callOk Try.prog 33 = true := by kernel_rfl
theorem ok34 : callOk Try.prog 34 = true := by kernel_rfl
theorem ok35 : callOk Try.prog 35 = true := by kernel_rfl
theorem ok36 : callOk Try.prog 36 = true := by kernel_rfl
theorem ok37 : callOk Try.prog 37 = true := by kernel_rfl
theorem ok38 : callOk Try.prog 38 = true := by kernel_rfl
theorem ok39 : callOk Try.prog 39 = true := by kernel_rfl
theorem ok40 : callOk Try.prog 40 = true := by kernel_rfl
theorem ok41 : callOk Try.prog 41 = true := by kernel_rfl
theorem ok42 : callOk Try.prog 42 = true := by kernel_rfl
theorem ok43 : callOk Try.prog 43 = true := by kernel_rfl
theorem ok46 : callOk Try.prog 46 = true := by kernel_rfl
theorem ok47 : callOk Try.prog 47 = true := by kernel_rfl
theorem ok48 : callOk Try.prog 48 = true := by kernel_rfl
theorem ok49 : callOk Try.prog 49 = true := by kernel_rfl
theorem ok50 : callOk Try.prog 50 = true := by kernel_rfl
theorem ok51 : callOk Try.prog 51 = true := by kernel_rfl
theorem ok52 : callOk Try.prog 52 = true := by kernel_rfl
theorem ok53 : callOk Try.prog 53 = true := by kernel_rfl
theorem ok54 : callOk Try.prog 54 = true := by kernel_rfl
theorem ok55 : callOk Try.prog 55 = true := by kernel_rfl
theorem ok56 : callOk Try.prog 56 = true := by kernel_rfl
theorem ok57 : callOk Try.prog 57 = true := by kernel_rfl
theorem ok63 : callOk Try.prog 63 = true := by kernel_rfl
theorem ok64 : callOk Try.prog 64 = true := by kernel_rfl
theorem ok67 : callOk Try.prog 67 = true := by kernel_rfl
theorem ok68 : callOk Try.prog 68 = true := by kernel_rfl
theorem ok69 : callOk Try.prog 69 = true := by kernel_rfl
theorem ok70 : callOk Try.prog 70 = true := by kernel_rfl
theorem ok71 : callOk Try.prog 71 = true := by kernel_rfl
theorem ok72 : callOk Try.prog 72 = true := by kernel_rfl
theorem ok73 : callOk Try.prog 73 = true := by kernel_rfl
theorem ok74 : callOk Try.prog 74 = true := by kernel_rfl
theorem ok75 : callOk Try.prog 75 = true := by kernel_rfl
theorem ok77 : callOk Try.prog 77 = true := by kernel_rfl
theorem ok87 : callOk Try.prog 87 = true := by kernel_rfl
theorem ok88 : callOk Try.prog 88 = true := by kernel_rfl
theorem ok89 : callOk Try.prog 89 = true := by kernel_rfl
theorem ok90 : callOk Try.prog 90 = true := by kernel_rfl
theorem ok91 : callOk Try.prog 91 = true := by kernel_rfl
theorem ok92 : callOk Try.prog 92 = true := by kernel_rfl
theorem ok97 : callOk Try.prog 97 = true := by kernel_rfl
theorem mixed : Try.prog.follows .mixedOrders = true := by kernel_rfl
end Go.Proofs.Ytdhpalioifjfbaa

namespace Go.Proofs.Ytdhpalioifjfbaa
open Go.Gx Go.RowKit Go.Maps Go.Sort Go.Shelf Go.Proofs
def keysA_ren : Go.Shelf.Ren := ⟨fun | 7 => 55 | 10 => 61 | n => n, fun | 23 => 68 | 26 => 3 | 3 => 24 | 28 => 93 | 0 => 0 | 27 => 92 | 33 => 44 | 4 => 4 | n => n, fun | n => n⟩
theorem keysA : Go.Proofs.SlLaysZI.n7 Try.prog keysA_ren where
  mixed := by kernel_rfl
  f7 := ⟨Try.f55.name, by decide, Try.func55.trans (congrArg some (by kernel_rfl))⟩
  f10 := ⟨Try.f61.name, by decide, Try.func61.trans (congrArg some (by kernel_rfl))⟩
  t0 := Try.underlying0
  a0 := Try.isAgg0
  z0 := Try.sizeOf0
  v0 := Try.zeroValue0
  t4 := Try.underlying4
  a4 := Try.isAgg4
  z4 := Try.sizeOf4
  v4 := Try.zeroValue4
  t23 := Try.underlying68
  a23 := Try.isAgg68
  z23 := Try.sizeOf68
  v23 := Try.zeroValue68
  t26 := Try.underlying3
  a26 := Try.isAgg3
  z26 := Try.sizeOf3
  v26 := Try.zeroValue3
  t27 := Try.underlying92
  a27 := Try.isAgg92
  z27 := Try.sizeOf92
  v27 := Try.zeroValue92
  t28 := Try.underlying93
  a28 := Try.isAgg93
  z28 := Try.sizeOf93
  v28 := Try.zeroValue93
  t33 := Try.underlying44
  a33 := Try.isAgg44
  z33 := Try.sizeOf44
  v33 := Try.zeroValue44
def sortedA_ren : Go.Shelf.Ren := ⟨fun | 6 => 54 | 8 => 59 | 9 => 60 | 11 => 65 | 13 => 64 | 12 => 66 | 23 => 76 | 24 => 77 | 14 => 78 | 15 => 79 | 16 => 80 | 17 => 81 | 18 => 82 | 19 => 83 | 20 => 84 | 21 => 85 | 22 => 86 | 25 => 93 | 26 => 88 | 27 => 89 | 28 => 94 | 29 => 95 | 30 => 96 | 31 => 98 | n => n, fun | 26 => 3 | 28 => 93 | 24 => 29 | 0 => 0 | 3 => 3 | 37 => 90 | 48 => 113 | 50 => 57 | 4 => 4 | 40 => 105 | 39 => 104 | 45 => 110 | 5 => 5 | 9 => 9 | 51 => 121 | 55 => 125 | 57 => 129 | 58 => 130 | 33 => 44 | n => n, fun | n => n⟩
theorem sortedA : Go.Proofs.SlLaysZI.n6 Try.prog sortedA_ren where
  mixed := by kernel_rfl
  f6 := ⟨Try.f54.name, by decide, Try.func54.trans (congrArg some (by kernel_rfl))⟩
  f8 := ⟨Try.f59.name, by decide, Try.func59.trans (congrArg some (by kernel_rfl))⟩
  f11 := ⟨Try.f65.name, by decide, Try.func65.trans (congrArg some (by kernel_rfl))⟩
  t0 := Try.underlying0
  a0 := Try.isAgg0
  z0 := Try.sizeOf0
  v0 := Try.zeroValue0
  t24 := Try.underlying29
  a24 := Try.isAgg29
  z24 := Try.sizeOf29
  v24 := Try.zeroValue29
  t26 := Try.underlying3
  a26 := Try.isAgg3
  z26 := Try.sizeOf3
  v26 := Try.zeroValue3
  t28 := Try.underlying93
  a28 := Try.isAgg93
  z28 := Try.sizeOf93
  v28 := Try.zeroValue93
  i26 := by kernel_rfl
def sortA_ren : Go.Shelf.Ren := ⟨fun | 5 => 60 | 8 => 64 | 7 => 66 | 19 => 76 | 20 => 77 | 10 => 78 | 11 => 79 | 12 => 80 | 13 => 81 | 14 => 82 | 15 => 83 | 16 => 84 | 17 => 85 | 18 => 86 | 30 => 93 | 31 => 88 | 32 => 89 | 33 => 94 | 34 => 95 | 35 => 96 | 40 => 98 | n => n, fun | 23 => 29 | 25 => 3 | 3 => 3 | 32 => 90 | 22 => 29 | 0 => 0 | 44 => 113 | 46 => 57 | 4 => 4 | 36 => 105 | 35 => 104 | 41 => 110 | 5 => 5 | 9 => 9 | 53 => 121 | 57 => 125 | 63 => 129 | 64 => 130 | n => n, fun | n => n⟩
theorem sortA : Go.Proofs.SlLaysM.n5 Try.prog sortA_ren where
  mixed := by kernel_rfl
  f5 := ⟨Try.f60.name, by decide, Try.func60.trans (congrArg some (by kernel_rfl))⟩
  f7 := ⟨Try.f66.name, by decide, Try.func66.trans (congrArg some (by kernel_rfl))⟩
  f8 := Try.func64.trans (congrArg some (by kernel_rfl))
  f10 := ⟨Try.f78.name, by decide, Try.func78.trans (congrArg some (by kernel_rfl))⟩
  f11 := ⟨Try.f79.name, by decide, Try.func79.trans (congrArg some (by kernel_rfl))⟩
  f12 := ⟨Try.f80.name, by decide, Try.func80.trans (congrArg some (by kernel_rfl))⟩
  f13 := ⟨Try.f81.name, by decide, Try.func81.trans (congrArg some (by kernel_rfl))⟩
  f14 := ⟨Try.f82.name, by decide, Try.func82.trans (congrArg some (by kernel_rfl))⟩
  f15 := ⟨Try.f83.name, by decide, Try.func83.trans (congrArg some (by kernel_rfl))⟩
  f16 := ⟨Try.f84.name, by decide, Try.func84.trans (congrArg some (by kernel_rfl))⟩
  f17 := ⟨Try.f85.name, by decide, Try.func85.trans (congrArg some (by kernel_rfl))⟩
  f18 := ⟨Try.f86.name, by decide, Try.func86.trans (congrArg some (by kernel_rfl))⟩
  f19 := Try.func76.trans (congrArg some (by kernel_rfl))
  f20 := Try.func77.trans (congrArg some (by kernel_rfl))
  f30 := ⟨Try.f93.name, by decide, Try.func93.trans (congrArg some (by kernel_rfl))⟩
  f31 := Try.func88.trans (congrArg some (by kernel_rfl))
  f32 := Try.func89.trans (congrArg some (by kernel_rfl))
  f33 := ⟨Try.f94.name, by decide, Try.func94.trans (congrArg some (by kernel_rfl))⟩
  f34 := ⟨Try.f95.name, by decide, Try.func95.trans (congrArg some (by kernel_rfl))⟩
  f35 := ⟨Try.f96.name, by decide, Try.func96.trans (congrArg some (by kernel_rfl))⟩
  f40 := ⟨Try.f98.name, by decide, Try.func98.trans (congrArg some (by kernel_rfl))⟩
  t0 := Try.underlying0
  a0 := Try.isAgg0
  z0 := Try.sizeOf0
  v0 := Try.zeroValue0
  t3 := Try.underlying3
  a3 := Try.isAgg3
  z3 := Try.sizeOf3
  v3 := Try.zeroValue3
  t4 := Try.underlying4
  a4 := Try.isAgg4
  z4 := Try.sizeOf4
  v4 := Try.zeroValue4
  t5 := Try.underlying5
  a5 := Try.isAgg5
  z5 := Try.sizeOf5
  v5 := Try.zeroValue5
  t9 := Try.underlying9
  a9 := Try.isAgg9
  z9 := Try.sizeOf9
  v9 := Try.zeroValue9
  t22 := Try.underlying29
  a22 := Try.isAgg29
  z22 := Try.sizeOf29
  v22 := Try.zeroValue29
  t23 := Try.underlying29
  a23 := Try.isAgg29
  z23 := Try.sizeOf29
  v23 := Try.zeroValue29
  t25 := Try.underlying3
  a25 := Try.isAgg3
  z25 := Try.sizeOf3
  v25 := Try.zeroValue3
  t32 := Try.underlying90
  a32 := Try.isAgg90
  z32 := Try.sizeOf90
  v32 := Try.zeroValue90
  t35 := Try.underlying104
  a35 := Try.isAgg104
  z35 := Try.sizeOf104
  v35 := Try.zeroValue104
  t36 := Try.underlying105
  a36 := Try.isAgg105
  z36 := Try.sizeOf105
  v36 := Try.zeroValue105
  t41 := Try.underlying110
  a41 := Try.isAgg110
  z41 := Try.sizeOf110
  v41 := Try.zeroValue110
  t44 := Try.underlying113
  a44 := Try.isAgg113
  z44 := Try.sizeOf113
  v44 := Try.zeroValue113
  t46 := Try.underlying57
  a46 := Try.isAgg57
  z46 := Try.sizeOf57
  v46 := Try.zeroValue57
  t53 := Try.underlying121
  a53 := Try.isAgg121
  z53 := Try.sizeOf121
  v53 := Try.zeroValue121
  t57 := Try.underlying125
  a57 := Try.isAgg125
  z57 := Try.sizeOf125
  v57 := Try.zeroValue125
  t63 := Try.underlying129
  a63 := Try.isAgg129
  z63 := Try.sizeOf129
  v63 := Try.zeroValue129
  t64 := Try.underlying130
  a64 := Try.isAgg130
  z64 := Try.sizeOf130
  v64 := Try.zeroValue130
theorem sortsA (m : Nat) : AnyZI.SortsIn Try.prog sortedA_ren Fence.wide m :=
  ⟨fun blk off cap ss W hH hblk hsz => callsIn_wide.2 (AnyM.slices_Sort_int sortA blk off cap ss W hH hblk hsz),
   fun p cap W => callsIn_wide.2 (AnyM.slices_Sort_int_none sortA p cap W)⟩
theorem own_of_row {w : World} {base e sz n : Nat} {v : Value} {cs : List Value} (h : w.ownsRow base e sz v n cs) : Own w base e sz v n cs := by
  obtain ⟨hl, h⟩ := h
  refine ⟨hl, ?_⟩
  rcases h with h | ⟨g, cap, cur, rfl, hb, hg, h1, h2, h3, h4⟩
  · exact .inl h
  · exact .inr ⟨g, 0, cap, cur, (0, 0), rfl, hb, hg, fun j _ hj => by omega, h1, h2, by omega, by simpa using h4⟩
def anyR (_ : Value) : Option (DataW Nat × List MemPlace) := some (.lit (.bool true), [])
def keysUp (es : List (Int × Nat)) : List Int := (es.map Prod.fst).mergeSort (fun x y => decide (x ≤ y))
theorem map_own {w : World} {m : Nat} {es : List (Int × Nat)} {pv : Nat → Value} (hM : MapC (Value.int .i64) pv w m es) (hk : ∀ p ∈ es, (Lit.int .i64 p.1).wf = true) (hn : es.length ≤ 1000000) :
    ∃ D0 : DataW Nat, w.ownsMap Try.prog 3 anyR m es.length D0 ∧ Maps.size D0 = es.length ∧ (intKeys D0).Perm (es.map Prod.fst) := by
  obtain ⟨arr, clock, hb, hs, he⟩ := hM
  have hlen : arr.size = es.length := by have := congrArg List.length he; simpa using this
  have hkey : ∀ x ∈ arr.toList, ∃ p ∈ es, x.key = Value.int .i64 p.1 := by
    intro x hx
    have h1 := congrArg (List.map Prod.fst) he
    simp only [List.map_map] at h1
    have h2 : x.key ∈ es.map ((Prod.fst : Value × Value → Value) ∘ fun p => (Value.int .i64 p.1, pv p.2)) := by
      rw [← h1]; exact List.mem_map.2 ⟨x, hx, rfl⟩
    obtain ⟨p, hp, he2⟩ := List.mem_map.1 h2
    exact ⟨p, hp, he2.symm⟩
  have hrd : ∀ x ∈ arr.toList, ∀ a : Int, x.key = Value.int .i64 a → WideElems.rd Try.prog 3 anyR x = some (.int .i64 a, .lit (.bool true)) := by
    intro x hx a ha
    obtain ⟨p, hp, hp2⟩ := hkey x hx
    have : a = p.1 := by rw [ha] at hp2; injection hp2
    subst this
    have h3 : keyOf Try.prog 3 x.key = some (.int .i64 p.1) := by rw [ha]; exact keyOf_int_mk Try.underlying3 (hk p hp)
    unfold WideElems.rd anyR
    rw [h3]; rfl
  have F : WideElems.Fit Try.prog 3 anyR arr clock := ⟨by rw [hlen]; unfold maxLen; omega, hs, fun x hx => by
    obtain ⟨p, hp, hp2⟩ := hkey x hx
    exact ⟨_, hrd x hx _ hp2⟩⟩
  refine ⟨_, ⟨arr, clock, hb, F, by omega, rfl⟩, ?_, ?_⟩
  · rw [Maps.size_eq, length_sorted]; simp [hlen]
  · show (((arr.toList.map (WideElems.rg Try.prog 3 anyR)).foldr DataW.insert []).map fun (p : Lit × DataW Nat) => Go.intOf p.1).Perm _
    refine ((Go.WideShapes.sorted_perm _).map _).trans ?_
    rw [List.map_map]
    have : arr.toList.map ((fun p : Lit × DataW Nat => Go.intOf p.1) ∘ WideElems.rg Try.prog 3 anyR) = es.map Prod.fst := by
      have h1 := congrArg (List.map Prod.fst) he
      simp only [List.map_map] at h1
      have h4 : (arr.toList.map fun e => e.key) = (es.map Prod.fst).map (Value.int .i64) := by rw [List.map_map]; exact h1
      have h5 : arr.toList.map ((fun p : Lit × DataW Nat => Go.intOf p.1) ∘ WideElems.rg Try.prog 3 anyR) = arr.toList.map fun e => match e.key with | .int _ a => a | _ => 0 := by
        apply List.map_congr_left
        intro x hx
        obtain ⟨p, hp, hp2⟩ := hkey x hx
        simp only [Function.comp]
        rw [WideElems.rg_of (hrd x hx _ hp2), hp2]; rfl
      rw [h5]
      have h6 : (arr.toList.map fun e => match e.key with | .int _ a => a | _ => 0) = (arr.toList.map fun e => e.key).map fun v => match v with | .int _ a => a | _ => 0 := by rw [List.map_map]; rfl
      rw [h6, h4, List.map_map]
      apply List.ext_getElem?
      intro i
      simp only [List.getElem?_map]
      cases (es[i]?) <;> rfl
    rw [this]
theorem sortedKeys_ret {w : World} {m b t : Nat} {es : List (Int × Nat)} {pv : Nat → Value} (hM : MapC (Value.int .i64) pv w m es) (hk : ∀ p ∈ es, (Lit.int .i64 p.1).wf = true) (hn : es.length ≤ 1000000) (hB : Bx w b t [.map (some m)]) :
    Ret Try.prog 54 #[.func (.func 61) #[] #[ptr b 0]] w (fun v' w' => Below w.heap.size w w' ∧ Own w' w.heap.size 3 1 v' (keysUp es).length ((keysUp es).map (Value.int .i64))) := by
  obtain ⟨D0, hown, hsz, hp⟩ := map_own hM hk hn
  refine (callsIn_wide (n := 5)).1 ?_
  have hseq : SeqGives Fence.wide 2 Try.prog 61 #[.pointer (some ⟨b, 0, none⟩)] encZ (fun ss => ss.Perm (intKeys D0)) (Maps.size D0) w :=
    AnyZI.keys_gives (ρ := keysA_ren) { keysA with } Fence.wide _ trivial rfl (by omega) b m es.length D0 _ hB.lt (hB.cell rfl) hown
  have cS := AnyZI.sorted_in sortedA Fence.wide 5 trivial trivial trivial trivial rfl (by omega) (sortsA _) (enters_of Try.func60 (by kernel_rfl) rfl) 61 #[.pointer (some ⟨b, 0, none⟩)] trivial (enters_of Try.func61 (by kernel_rfl) rfl) _ _ (by rw [hsz]; unfold maxLen; omega) (by rw [hsz]; omega) _ hseq
  change CallsIn _ _ Try.prog 54 _ _ _ at cS
  refine cS.mono ?_
  rintro e w' ⟨v, ss, rfl, hS, hrow, hnil, hb⟩
  refine ⟨v, rfl, hb, ?_⟩
  have e1 : ss.mergeSort (fun x y => decide (x ≤ y)) = keysUp es := mergeSort_of_perm_i (hS.trans hp)
  have e2 : ss.length = (keysUp es).length := by rw [← e1, List.length_mergeSort]
  have := own_of_row hrow
  rw [e1, e2] at this
  exact this
theorem sortedNil_ret {w : World} {b t : Nat} (hB : Bx w b t [.map none]) :
    Ret Try.prog 54 #[.func (.func 61) #[] #[ptr b 0]] w (fun v' w' => Below w.heap.size w w' ∧ Own w' w.heap.size 3 1 v' 0 []) := by
  refine (callsIn_wide (n := 5)).1 ?_
  have hseq : SeqGives Fence.wide 2 Try.prog 61 #[.pointer (some ⟨b, 0, none⟩)] encZ (fun ss : List Int => ss = []) 0 w := AnyZI.keys_gives_nil (ρ := keysA_ren) { keysA with } Fence.wide 2 trivial rfl b w hB.lt (hB.cell rfl)
  have cS := AnyZI.sorted_in sortedA Fence.wide 5 trivial trivial trivial trivial rfl (by omega) (sortsA _) (enters_of Try.func60 (by kernel_rfl) rfl) 61 #[.pointer (some ⟨b, 0, none⟩)] trivial (enters_of Try.func61 (by kernel_rfl) rfl) (fun ss : List Int => ss = []) 0 (by unfold maxLen; omega) (by omega) w hseq
  change CallsIn _ _ Try.prog 54 _ _ _ at cS
  refine cS.mono ?_
  rintro e w' ⟨v, ss, rfl, hS, hrow, hnil, hb⟩
  refine ⟨v, rfl, hb, ?_⟩
  have e2 : ss = [] := by simpa using hS
  subst e2
  have h9 := own_of_row hrow
  rw [show ([] : List Int).mergeSort (fun x y => decide (x ≤ y)) = [] from by simp] at h9
  exact h9
end Go.Proofs.Ytdhpalioifjfbaa

namespace Go.Proofs.Ytdhpalioifjfbaa
open Go.Gx Go.RowKit
def sortP (P : PM) : List Int := (P.map Prod.fst).mergeSort (fun x y => decide (x ≤ y))
theorem wf_i64 {n : Int} (h0 : -1000000 ≤ n) (h : n ≤ 1000000) : (Lit.int .i64 n).wf = true := by
  simp only [Lit.wf, IntKind.min, IntKind.max, IntKind.signed, IntKind.bits, Bool.and_eq_true, decide_eq_true_eq]; simp; omega
section
variable {P : PM} {ps : List Nat} {M : AM} {nx z : Int} {F : Nat → Prop} {w : World} {base : Nat} {L : List By} {i : Nat}
theorem keysUp_eq (h : ps.length = P.length) : keysUp (esP P ps) = sortP P := by unfold keysUp sortP; rw [esP_keys h]
theorem sortP_len : (sortP P).length = P.length := by unfold sortP; rw [List.length_mergeSort, List.length_map]
theorem sortP_mem : z ∈ sortP P ↔ z ∈ P.map Prod.fst := by unfold sortP; exact List.mem_mergeSort
theorem es_wf (h : ps.length = P.length) (hI : HInv P nx M) (hn : nx ≤ 1000000) : ∀ a ∈ esP P ps, (Lit.int .i64 a.1).wf = true := fun a ha => by
  have h1 : a.1 ∈ (esP P ps).map Prod.fst := List.mem_map.2 ⟨a, ha, rfl⟩
  rw [esP_keys h] at h1
  have h2 := hI.nums _ h1
  exact wf_i64 (by omega) (by omega)
theorem mget_in {V : Type} {es : List (Int × V)} {x : Int} (h : x ∈ es.map Prod.fst) : ∃ T, mget es x = some T := by
  cases hq : mget es x with
  | none => exact absurd h (mget_none.1 hq)
  | some T => exact ⟨T, rfl⟩
theorem sort_at (h : PgAll w base P ps F) (hi : i < (sortP P).length) : ∃ L p, mget P ((sortP P).getD i 0) = some L ∧ mget (esP P ps) ((sortP P).getD i 0) = some p := by
  have hm : (sortP P).getD i 0 ∈ P.map Prod.fst := sortP_mem.1 (by rw [List.getD_eq_getElem?_getD, List.getElem?_eq_getElem hi]; exact List.getElem_mem hi)
  obtain ⟨L, hL⟩ := mget_in hm
  obtain ⟨p, F1, hp, _⟩ := h.key hL
  exact ⟨L, p, hL, hp⟩
theorem sort_rng (hI : HInv P nx M) (hi : i < (sortP P).length) : 1 ≤ (sortP P).getD i 0 ∧ (sortP P).getD i 0 ≤ nx :=
  hI.nums _ (sortP_mem.1 (by rw [List.getD_eq_getElem?_getD, List.getElem?_eq_getElem hi]; exact List.getElem_mem hi))
theorem mget_put_same {K V : Type} [DecidableEq K] : ∀ {M : List (K × V)} {k : K} {v : V}, mget (mput M k v) k = some v
  | [], k, v => by simp [mput, mlook, mget]
  | (a, u) :: t, k, v => by
    rw [mput_cons]
    by_cases h : k = a
    · rw [if_pos h, mget_cons, if_pos rfl]
    · rw [if_neg h, mget_cons, if_neg h]; exact mget_put_same
theorem mdel_mput {K V : Type} [DecidableEq K] : ∀ {M : List (K × V)} {k : K} {v u : V}, mget M k = some u → mdel (mput M k v) k = mdel M k
  | [], k, v, u, h => by cases h
  | (a, b) :: t, k, v, u, h => by
    rw [mput_cons]
    by_cases hk : k = a
    · rw [if_pos hk, mdel_cons, if_pos rfl, mdel_cons, if_pos hk]
    · rw [mget_cons, if_neg hk] at h
      rw [if_neg hk, mdel_cons, if_neg hk, mdel_cons, if_neg hk, mdel_mput h]
end
end Go.Proofs.Ytdhpalioifjfbaa

namespace Go.Proofs.Ytdhpalioifjfbaa
open Go.Gx Go.RowKit
def PutZ (P : PM) (nx : Int) (M : AM) (id : Int) (r : By) (e : Int) (P' : PM) (nx' : Int) (M' : AM) : Prop :=
  0 ≤ nx' ∧ nx' ≤ nx + 1 ∧ M'.length ≤ M.length + 1 ∧ HInv P' nx' M' ∧ ((badB r = true ∧ e = 7 ∧ recs P' M' = recs P M) ∨ (badB r = false ∧ e = 0 ∧ recs P' M' = mput (recs P M) id r))
theorem mput_len {K V : Type} [DecidableEq K] {es : List (K × V)} {k : K} {v : V} : (mput es k v).length ≤ es.length + 1 := by
  unfold mput; split <;> simp
theorem mdel_len {K V : Type} [DecidableEq K] {es : List (K × V)} {k : K} : (mdel es k).length ≤ es.length := (mdel_keys_sub (es := es) (k := k)).length_le
section
variable {P P' P2 : PM} {M : AM} {nx nx' id e : Int} {r : By} {to at_ : Int × Int} {L : List By} {ps : List Nat} {w : World} {base : Nat} {F : Nat → Prop}
theorem PutZ.of_bad (h : PutsP P nx r e to P' nx') (he : e ≠ 0) (hI : HInv P nx M) (hn : 0 ≤ nx) : PutZ P nx M id r e P' nx' M := by
  rcases h with ⟨hb, h1, rfl, rfl⟩ | ⟨_, h1, _⟩
  · exact ⟨hn, by omega, by omega, hI, .inl ⟨hb, h1, rfl⟩⟩
  · exact absurd h1 he
theorem PutsP.good (h : PutsP P nx r e to P' nx') (he : e = 0) : badB r = false := by
  rcases h with ⟨_, h1, _⟩ | ⟨hb, _⟩
  · rw [he] at h1; exact absurd h1 (by decide)
  · exact hb
theorem PutZ.new (h : PutsP P nx r e to P' nx') (he : e = 0) (hI : HInv P nx M) (hn : 0 ≤ nx) (hm : mget M id = none) : PutZ P nx M id r 0 P' nx' (mput M id to) := by
  have hb := h.good he
  have h1 := puts_new h hI hn hb hm
  have h2 := h.num hn
  exact ⟨h2.1, h2.2.2, mput_len, h1.1, .inr ⟨hb, rfl, h1.2⟩⟩
theorem PutZ.old (h : PutsP P nx r e to P' nx') (he : e = 0) (hI : HInv P nx M) (hn : 0 ≤ nx) (hm : mget M id = some at_) (hD : DropsP P' at_ P2) : PutZ P nx M id r 0 P2 nx' (mput M id to) := by
  have hb := h.good he
  have h1 := puts_old h hI hn hb hm hD
  have h2 := h.num hn
  exact ⟨h2.1, h2.2.2, mput_len, h1.1, .inr ⟨hb, rfl, h1.2⟩⟩
theorem PutZ.set (hI : HInv P nx M) (hn : 0 ≤ nx) (hm : mget M id = some at_) (hg : mget P at_.1 = some L) (hz : setE L at_.2 r = 0) : PutZ P nx M id r 0 (mput P at_.1 (setN L at_.2 r)) nx M := by
  have h1 := set_done hI hm hg hz
  exact ⟨hn, by omega, by omega, h1.1, .inr ⟨setE_bad hz, rfl, h1.2⟩⟩
theorem HInv.page (h : HInv P nx M) (hm : mget M id = some at_) : ∃ L, mget P at_.1 = some L := by
  have := gH_key (h.key hm).2
  exact mget_in this
theorem at_rng (hg : mget P at_.1 = some L) (hat : gH P at_ ≠ []) : 0 ≤ at_.2 ∧ at_.2 < (L.length : Int) := by
  have hpA : pAt P at_.1 = L := by unfold pAt; rw [hg]; rfl
  have hz : sizeL L at_.2 ≠ 0 := fun q => hat (by unfold gH; rw [hpA]; exact size_get.1 q)
  exact sizeL_nat hz
theorem PutsP.still (h : PutsP P nx r e to P' nx') (he : e = 0) (hI : HInv P nx M) (hn : 0 ≤ nx) (hm : mget M id = some at_) : (∃ L, mget P' at_.1 = some L) ∧ gH P' at_ ≠ [] := by
  have hb := h.good he
  obtain ⟨h1, h2, h3, h4, h5, _⟩ := h.get hI hn hb
  have hat := (hI.key hm).2
  have hne : at_ ≠ to := fun q => hat (by rw [q]; exact h1)
  have hg : gH P' at_ ≠ [] := by rw [h4, if_neg hne]; exact hat
  exact ⟨mget_in (gH_key hg), hg⟩
theorem gH_at (hg : mget P at_.1 = some L) : gH P at_ = getL L at_.2 := by unfold gH pAt; rw [hg]; rfl
theorem drop_get (hI : HInv P nx M) (hm : mget M id = some at_) (hg : mget P at_.1 = some L) : dropE L at_.2 = 0 ∧ mget (recs P M) id = some (getL L at_.2) := by
  have hat := (hI.key hm).2
  rw [gH_at hg] at hat
  refine ⟨(drop_ok fun q => hat (size_get.1 q)).1, ?_⟩
  rw [recs_get, hm]; exact congrArg some (gH_at hg)
theorem recs_none (hm : mget M id = none) : mget (recs P M) id = none := by rw [recs_get, hm]; rfl
end
end Go.Proofs.Ytdhpalioifjfbaa

namespace Go.Proofs.Ytdhpalioifjfbaa
open Go.Gx Go.Sort Go.RowKit
def u64v (x : UInt64) : Value := .int .u64 (x.toNat : Int)
abbrev Ar := Array UInt64
def ltT (x y : UInt64) : Bool := decide (x.toNat < y.toNat)
theorem swoT : SWO ltT where
  irrefl := fun x => by simp [ltT]
  trans := fun x y z h1 h2 => by simp [ltT] at *; omega
  ntrans := fun x y z h1 h2 => by simp [ltT] at *; omega
theorem el_arr {d : Ar} {e : Int} {i : Nat} (he : e = (i : Int)) (h : i < d.size) : (d.toList.map u64v)[e.toNat * 1 + 0]? = some (Value.int .u64 (d[i]!.toNat : Int)) := by
  subst he
  have e1 : d[i]! = d[i] := by simp [h]
  rw [e1]; simp [u64v, h]
theorem el_at {d : Ar} {i : Nat} (h : i < d.size) : (d.toList.map u64v)[i + 0]? = some (Value.int .u64 (d[i]!.toNat : Int)) := by
  have := el_arr (d := d) (e := (i : Int)) rfl h
  simpa using this
theorem set_arr {d : Ar} {i : Nat} {x : UInt64} (h : i < d.size) : (d.toList.map u64v).take i ++ [Value.int .u64 (x.toNat : Int)] ++ (d.toList.map u64v).drop (i + [Value.int .u64 (x.toNat : Int)].length) = (d.setIfInBounds i x).toList.map u64v := by
  have h' : i < d.toList.length := by simpa using h
  rw [Array.toList_setIfInBounds, List.set_eq_take_append_cons_drop, if_pos h']
  simp [u64v]
theorem ltT_t {x y : UInt64} (h : (x.toNat : Int) < (y.toNat : Int)) : ltT x y = true := decide_eq_true (by omega)
theorem ltT_f {x y : UInt64} (h : ¬ (x.toNat : Int) < (y.toNat : Int)) : ltT x y = false := decide_eq_false (by omega)
theorem swp_sz (d : Ar) (i j : Nat) : (swp d i j).size = d.size := size_swp d i j
/-! how many bits a number has -/
def tab8 : List UInt8 := [0, 1, 2, 2, 3, 3, 3, 3] ++ List.replicate 8 4 ++ List.replicate 16 5 ++ List.replicate 32 6 ++ List.replicate 64 7 ++ List.replicate 128 8
theorem tab8_len {z : Nat} (h : z < 256) : (tab8.getD z 0).toNat = bitsLen z := by
  have : ∀ i : Fin 256, (tab8.getD i.val 0).toNat = bitsLen i.val := by decide +kernel
  exact this ⟨z, h⟩
theorem tab8_sz : tab8.length = 256 := by decide +kernel
theorem bits_shift {n k : Nat} (h : 2 ^ k ≤ n) : bitsLen n = k + bitsLen (n / 2 ^ k) := by
  have key : ∀ m, bitsLen n ≤ m ↔ k + bitsLen (n / 2 ^ k) ≤ m := by
    intro m
    rw [bitsLen_le_iff]
    by_cases hm : m < k
    · constructor
      · intro h1
        have := Nat.pow_lt_pow_right (show 1 < 2 by decide) hm
        omega
      · intro h1; omega
    · obtain ⟨j, rfl⟩ : ∃ j, m = k + j := ⟨m - k, by omega⟩
      rw [show (k + bitsLen (n / 2 ^ k) ≤ k + j) ↔ bitsLen (n / 2 ^ k) ≤ j by omega, bitsLen_le_iff, Nat.div_lt_iff_lt_mul (Nat.two_pow_pos k), ← Nat.pow_add, Nat.add_comm j k]
  exact Nat.le_antisymm ((key _).2 (Nat.le_refl _)) ((key _).1 (Nat.le_refl _))
theorem bits_32 {n : Nat} (h : 4294967296 ≤ n) : bitsLen n = 32 + bitsLen (n / 4294967296) := bits_shift (k := 32) h
theorem bits_16 {n : Nat} (h : 65536 ≤ n) : bitsLen n = 16 + bitsLen (n / 65536) := bits_shift (k := 16) h
theorem bits_8 {n : Nat} (h : 256 ≤ n) : bitsLen n = 8 + bitsLen (n / 256) := bits_shift (k := 8) h
theorem shl_one {k : Nat} (h : k ≤ 62) : IntKind.u64.wrap (1 * 2 ^ (min ((k : Nat) : Int).toNat (IntKind.bits .u64))) = ((2 ^ k : Nat) : Int) := by
  have e : min ((k : Nat) : Int).toNat (IntKind.bits .u64) = k := by rw [Int.toNat_natCast]; exact Nat.min_eq_left (by show k ≤ 64; omega)
  rw [e, Int.one_mul]
  have h2 : 2 ^ k ≤ 2 ^ 62 := Nat.pow_le_pow_right (by decide) h
  have h3 : (2 : Nat) ^ 62 = 4611686018427387904 := by decide
  rw [show ((2 : Int) ^ k) = ((2 ^ k : Nat) : Int) by simp]
  rw [h3] at h2
  generalize (2 : Nat) ^ k = q at h2 ⊢
  exact wrap_u64 (by omega)
theorem xor_rng (x y : Int) : 0 ≤ bits .xor .u64 x y ∧ bits .xor .u64 x y ≤ 18446744073709551615 := by
  have : bits .xor .u64 x y = IntKind.u64.wrap ((BitVec.ofInt 64 x ^^^ BitVec.ofInt 64 y).toNat : Int) := rfl
  rw [this]
  simp only [IntKind.wrap, IntKind.bits, IntKind.signed]
  simp; omega
theorem and_64 {x y : Nat} (hx : x < 18446744073709551616) (hy : y < 18446744073709551616) : bits .and .u64 (x : Int) (y : Int) = ((x &&& y : Nat) : Int) := by
  have e1 : BitVec.ofInt 64 (x : Int) = BitVec.ofNat 64 x := BitVec.ofInt_natCast ..
  have e2 : BitVec.ofInt 64 (y : Int) = BitVec.ofNat 64 y := BitVec.ofInt_natCast ..
  show IntKind.u64.wrap ((BitVec.ofInt 64 (x : Int) &&& BitVec.ofInt 64 (y : Int)).toNat : Int) = _
  have := Nat.and_le_left (n := x) (m := y)
  rw [e1, e2, BitVec.toNat_and, BitVec.toNat_ofNat, BitVec.toNat_ofNat, Nat.mod_eq_of_lt (by omega), Nat.mod_eq_of_lt (by omega)]
  exact wrap_u64 (by omega)
/-! the loops of the sort -/
theorem insInner_go {a j : Nat} {d : Ar} (hj : a < j) (hl : ltT d[j]! d[j - 1]! = true) : insInner ltT a j d = insInner ltT a (j - 1) (swp d j (j - 1)) := by
  obtain ⟨k, rfl⟩ : ∃ k, j = k + 1 := ⟨j - 1, by omega⟩
  rw [insInner]
  simp only [Nat.add_sub_cancel] at hl ⊢
  simp [hj, hl]
theorem insInner_stop {a j : Nat} {d : Ar} (h : j ≤ a ∨ ltT d[j]! d[j - 1]! = false) : insInner ltT a j d = d := by
  cases j with
  | zero => rw [insInner]
  | succ k =>
    rw [insInner]
    simp only [Nat.add_sub_cancel] at h
    rcases h with h | h
    · simp [show ¬ k + 1 > a by omega]
    · simp [h]
theorem insOuter_go {a b i : Nat} {d : Ar} (h : i < b) : insOuter ltT a b i d = insOuter ltT a b (i + 1) (insInner ltT a i d) := by rw [insOuter, if_pos h]
theorem insOuter_stop {a b i : Nat} {d : Ar} (h : ¬ i < b) : insOuter ltT a b i d = d := by rw [insOuter, if_neg h]
theorem siftDown_stop {hi first root : Nat} {d : Ar} (h : hi ≤ 2 * root + 1) : siftDown ltT hi first root d = d := by rw [siftDown, dif_pos h]
def childS (hi first root : Nat) (d : Ar) : Nat := if 2 * root + 1 + 1 < hi && ltT d[first + (2 * root + 1)]! d[first + (2 * root + 1) + 1]! then 2 * root + 2 else 2 * root + 1
theorem siftDown_ret {hi first root : Nat} {d : Ar} (h : ¬ hi ≤ 2 * root + 1) (hl : ltT d[first + root]! d[first + childS hi first root d]! = false) : siftDown ltT hi first root d = d := by
  rw [siftDown, dif_neg h]
  unfold childS at hl
  split
  · rename_i hc; rw [if_pos hc] at hl; simp [hl]
  · rename_i hc; rw [if_neg hc] at hl; simp [hl]
theorem siftDown_go {hi first root : Nat} {d : Ar} (h : ¬ hi ≤ 2 * root + 1) (hl : ltT d[first + root]! d[first + childS hi first root d]! = true) : siftDown ltT hi first root d = siftDown ltT hi first (childS hi first root d) (swp d (first + root) (first + childS hi first root d)) := by
  rw [siftDown, dif_neg h]
  unfold childS at hl ⊢
  split
  · rename_i hc
    rw [if_pos hc] at hl
    try rw [if_pos hc]
    simp only [hl, Bool.not_true, Bool.false_eq_true, if_false]
    simp only [Bool.and_eq_true, decide_eq_true_eq] at hc
    rw [dif_pos (by omega)]
  · rename_i hc
    rw [if_neg hc] at hl
    try rw [if_neg hc]
    simp [hl]
theorem childS_lt {hi first root : Nat} {d : Ar} (h : ¬ hi ≤ 2 * root + 1) : childS hi first root d < hi ∧ root < childS hi first root d := by
  unfold childS
  split
  · rename_i hc; simp only [Bool.and_eq_true, decide_eq_true_eq] at hc; omega
  · omega
theorem childS_t {hi first root : Nat} {d : Ar} (h : 2 * root + 1 + 1 < hi) (hl : ltT d[first + (2 * root + 1)]! d[first + (2 * root + 1) + 1]! = true) : childS hi first root d = 2 * root + 2 := by
  rw [childS, if_pos (by simp [h, hl])]
theorem childS_f {hi first root : Nat} {d : Ar} (h : ¬ 2 * root + 1 + 1 < hi ∨ ltT d[first + (2 * root + 1)]! d[first + (2 * root + 1) + 1]! = false) : childS hi first root d = 2 * root + 1 := by
  rw [childS, if_neg (by rcases h with h | h <;> simp [h])]
theorem heapBuild_go' {hi first k : Nat} {d : Ar} (h : 0 < k) : heapBuild ltT hi first k d = heapBuild ltT hi first (k - 1) (siftDown ltT hi first (k - 1) d) := by
  obtain ⟨j, rfl⟩ : ∃ j, k = j + 1 := ⟨k - 1, by omega⟩
  rfl
theorem heapPop_go' {first k : Nat} {d : Ar} (h : 0 < k) : heapPop ltT first k d = heapPop ltT first (k - 1) (siftDown ltT (k - 1) first 0 (swp d first (first + (k - 1)))) := by
  obtain ⟨j, rfl⟩ : ∃ j, k = j + 1 := ⟨k - 1, by omega⟩
  rfl
theorem tdiv2 {m : Nat} : (((m : Nat) : Int) - 1).tdiv 2 = (((m - 1) / 2 : Nat) : Int) := by
  cases m with
  | zero => rfl
  | succ m =>
    rw [show (((m + 1 : Nat) : Int) - 1) = (m : Int) by omega, Int.tdiv_eq_ediv_of_nonneg (by omega)]
    simp
theorem siftDown_sz : ∀ (n hi first root : Nat) (d : Ar), hi - root ≤ n → (siftDown ltT hi first root d).size = d.size
  | n, hi, first, root, d, hn => by
    by_cases h : hi ≤ 2 * root + 1
    · rw [siftDown_stop h]
    · rcases hl : ltT d[first + root]! d[first + childS hi first root d]! with _ | _
      · rw [siftDown_ret h hl]
      · have hc := childS_lt (first := first) (d := d) h
        cases n with
        | zero => omega
        | succ n => rw [siftDown_go h hl, siftDown_sz n _ _ _ _ (by omega), size_swp]
theorem scanUp_go {p : UInt64 → Bool} {d : Ar} {j i : Nat} (h : i ≤ j) (hp : p d[i]! = true) : scanUp p d j i = scanUp p d j (i + 1) := by rw [scanUp]; simp [h, hp]
theorem scanUp_stop {p : UInt64 → Bool} {d : Ar} {j i : Nat} (h : j < i ∨ p d[i]! = false) : scanUp p d j i = i := by
  rw [scanUp]; rcases h with h | h
  · simp [show ¬ i ≤ j by omega]
  · simp [h]
theorem scanDown_go {p : UInt64 → Bool} {d : Ar} {i j : Nat} (h0 : 0 < j) (h : i ≤ j) (hp : p d[j]! = true) : scanDown p d i j = scanDown p d i (j - 1) := by
  obtain ⟨k, rfl⟩ : ∃ k, j = k + 1 := ⟨j - 1, by omega⟩
  rw [scanDown]; simp [h, hp]
theorem scanDown_stop {p : UInt64 → Bool} {d : Ar} {i j : Nat} (h : j < i ∨ p d[j]! = false) : scanDown p d i j = j := by
  cases j with
  | zero => rw [scanDown]
  | succ k =>
    rw [scanDown]; rcases h with h | h
    · simp [show ¬ i ≤ k + 1 by omega]
    · simp [h]
theorem pe_stop {a i j i2 j2 : Nat} {d : Ar} (h1 : scanUp (fun x => !ltT d[a]! x) d j i = i2) (h2 : scanDown (fun x => ltT d[a]! x) d i2 j = j2) (h : j2 < i2) : partEqLoop ltT a i j d = (i2, d) := by
  rw [partEqLoop_eq, h1, h2, if_pos h]
theorem pe_go {a i j i2 j2 : Nat} {d : Ar} (h1 : scanUp (fun x => !ltT d[a]! x) d j i = i2) (h2 : scanDown (fun x => ltT d[a]! x) d i2 j = j2) (h : ¬ j2 < i2) : partEqLoop ltT a i j d = partEqLoop ltT a (i2 + 1) (j2 - 1) (swp d i2 j2) := by
  rw [partEqLoop_eq, h1, h2, if_neg h]
theorem pl_stop {a i j i2 j2 : Nat} {d : Ar} (h1 : scanUp (fun x => ltT x d[a]!) d j i = i2) (h2 : scanDown (fun x => !ltT x d[a]!) d i2 j = j2) (h : j2 < i2) : partLoop ltT a i j d = (j2, d) := by
  rw [partLoop_eq, h1, h2, if_pos h]
theorem pl_go {a i j i2 j2 : Nat} {d : Ar} (h1 : scanUp (fun x => ltT x d[a]!) d j i = i2) (h2 : scanDown (fun x => !ltT x d[a]!) d i2 j = j2) (h : ¬ j2 < i2) : partLoop ltT a i j d = partLoop ltT a (i2 + 1) (j2 - 1) (swp d i2 j2) := by
  rw [partLoop_eq, h1, h2, if_neg h]
theorem pt_stop {a b p i2 j2 : Nat} {d d1 : Ar} (hd : d1 = swp d a p) (h1 : scanUp (fun x => ltT x d1[a]!) d1 (b - 1) (a + 1) = i2) (h2 : scanDown (fun x => !ltT x d1[a]!) d1 i2 (b - 1) = j2) (h : j2 < i2) : partition ltT d a b p = (j2, true, swp d1 j2 a) := by
  subst hd
  simp only [partition, h1, h2]
  rw [if_pos h]
theorem pt_go {a b p i2 j2 : Nat} {d d1 : Ar} (hd : d1 = swp d a p) (h1 : scanUp (fun x => ltT x d1[a]!) d1 (b - 1) (a + 1) = i2) (h2 : scanDown (fun x => !ltT x d1[a]!) d1 i2 (b - 1) = j2) (h : ¬ j2 < i2) :
    partition ltT d a b p = ((partLoop ltT a (i2 + 1) (j2 - 1) (swp d1 i2 j2)).1, false, swp (partLoop ltT a (i2 + 1) (j2 - 1) (swp d1 i2 j2)).2 (partLoop ltT a (i2 + 1) (j2 - 1) (swp d1 i2 j2)).1 a) := by
  subst hd
  simp only [partition, h1, h2]
  rw [if_neg h]
theorem not_t {b : Bool} (h : (!b) = true) : b = false := by simpa using h
theorem not_f {b : Bool} (h : (!b) = false) : b = true := by simpa using h
theorem pi_true {a b s i i2 : Nat} {d : Ar} (hs : s < 5) (h : scanSorted ltT d b i = i2) (h2 : i2 = b) : partialIns ltT a b (5 - s) i d = (d, true) := by
  obtain ⟨k, hk⟩ : ∃ k, 5 - s = k + 1 := ⟨4 - s, by omega⟩
  rw [hk, partialIns_succ, h, if_pos h2]
theorem pi_short {a b s i i2 : Nat} {d : Ar} (hs : s < 5) (h : scanSorted ltT d b i = i2) (h2 : ¬ i2 = b) (h3 : b - a < 50) : partialIns ltT a b (5 - s) i d = (d, false) := by
  obtain ⟨k, hk⟩ : ∃ k, 5 - s = k + 1 := ⟨4 - s, by omega⟩
  rw [hk, partialIns_succ, h, if_neg h2, if_pos h3]
theorem pi_go {a b s i i2 : Nat} {d d3 d4 : Ar} (hs : s < 5) (h : scanSorted ltT d b i = i2) (h2 : ¬ i2 = b) (h3 : ¬ b - a < 50) (hd : d3 = fixDown ltT a i2 (swp d i2 (i2 - 1))) (hu : d4 = fixUp ltT b i2 d3) :
    partialIns ltT a b (5 - s) i d = partialIns ltT a b (5 - (s + 1)) i2 d4 := by
  obtain ⟨k, hk⟩ : ∃ k, 5 - s = k + 1 := ⟨4 - s, by omega⟩
  rw [hk, partialIns_succ, h, if_neg h2, if_neg h3, ← hd, ← hu, show 5 - (s + 1) = k by omega]
theorem fixDown_f {a i : Nat} {d : Ar} (h : ¬ 2 ≤ i - a) : fixDown ltT a i d = d := by rw [fixDown, if_neg (by omega)]
theorem fixDown_t {a i : Nat} {d : Ar} (h : 2 ≤ i - a) : fixDown ltT a i d = shiftDown ltT (i - 1) d := by rw [fixDown, if_pos (by omega)]
theorem fixUp_f {b i : Nat} {d : Ar} (h : ¬ 2 ≤ b - i) : fixUp ltT b i d = d := by rw [fixUp, if_neg (by omega)]
theorem fixUp_t {b i : Nat} {d : Ar} (h : 2 ≤ b - i) : fixUp ltT b i d = shiftUp ltT b (i + 1) d := by rw [fixUp, if_pos (by omega)]
theorem rev_go {i j : Nat} {d : Ar} (h : i < j) : reverseLoop i j d = reverseLoop (i + 1) (j - 1) (swp d i j) := by rw [reverseLoop, if_pos h]
theorem rev_stop {i j : Nat} {d : Ar} (h : ¬ i < j) : reverseLoop i j d = d := by rw [reverseLoop, if_neg h]
theorem scanSorted_go {d : Ar} {b i : Nat} (h : i < b) (hl : ltT d[i]! d[i - 1]! = false) : scanSorted ltT d b i = scanSorted ltT d b (i + 1) := by rw [scanSorted]; simp [h, hl]
theorem scanSorted_stop {d : Ar} {b i : Nat} (h : b ≤ i ∨ ltT d[i]! d[i - 1]! = true) : scanSorted ltT d b i = i := by
  rw [scanSorted]; rcases h with h | h
  · simp [show ¬ i < b by omega]
  · simp [h]
theorem shiftDown_go {j : Nat} {d : Ar} (h0 : 0 < j) (hl : ltT d[j]! d[j - 1]! = true) : shiftDown ltT j d = shiftDown ltT (j - 1) (swp d j (j - 1)) := by
  obtain ⟨k, rfl⟩ : ∃ k, j = k + 1 := ⟨j - 1, by omega⟩
  simp only [Nat.add_sub_cancel] at hl ⊢
  rw [shiftDown]; simp [hl]
theorem shiftDown_stop {j : Nat} {d : Ar} (h : j = 0 ∨ ltT d[j]! d[j - 1]! = false) : shiftDown ltT j d = d := by
  cases j with
  | zero => rw [shiftDown]
  | succ k => simp only [Nat.add_sub_cancel] at h; rw [shiftDown]; simp [h.resolve_left (by omega)]
theorem shiftUp_go {b j : Nat} {d : Ar} (h : j < b) (hl : ltT d[j]! d[j - 1]! = true) : shiftUp ltT b j d = shiftUp ltT b (j + 1) (swp d j (j - 1)) := by rw [shiftUp, if_pos h]; simp [hl]
theorem shiftUp_stop {b j : Nat} {d : Ar} (h : b ≤ j ∨ ltT d[j]! d[j - 1]! = false) : shiftUp ltT b j d = d := by
  rw [shiftUp]; rcases h with h | h
  · rw [if_neg (by omega)]
  · simp [h]
theorem siftDown_size {hi first root : Nat} {d : Ar} : (siftDown ltT hi first root d).size = d.size := siftDown_sz _ hi first root d (Nat.le_refl _)
abbrev PI (a b : Nat) (d d' : Ar) : Prop := PermIn a b d d'
theorem PI.sz {a b : Nat} {d d' : Ar} (h : PI a b d d') : d'.size = d.size := h.1
theorem PI.rfl' (a b : Nat) (d : Ar) : PI a b d d := permIn_refl d a b
theorem PI.tr {a b : Nat} {d d' d'' : Ar} (h : PI a b d d') (h' : PI a b d' d'') : PI a b d d'' := permIn_trans d d' d'' a b h h'
theorem PI.mono {a b a' b' : Nat} {d d' : Ar} (h : PI a b d d') (ha : a' ≤ a) (hb : b ≤ b') (hs : b' ≤ d.size) : PI a' b' d d' := permIn_mono d d' a b a' b' ha hb hs h
theorem PI.all {a b : Nat} {d d' : Ar} (h : PI a b d d') (hb : b ≤ d.size) (p : UInt64 → Prop) (hp : ∀ i, a ≤ i → i < b → p d[i]!) : ∀ i, a ≤ i → i < b → p d'[i]! := permIn_all d d' a b p hb h hp
theorem PI.swp {a b i j : Nat} {d : Ar} (h1 : a ≤ i) (h2 : i < b) (h3 : a ≤ j) (h4 : j < b) (hb : b ≤ d.size) : PI a b d (swp d i j) := swp_permIn d a b i j h1 h2 h3 h4 hb
theorem PI.below {a b : Nat} {d d' : Ar} (h : PI a b d d') (hb : b ≤ d.size) (hB : Go.Sort.Below ltT a b d) : Go.Sort.Below ltT a b d' := by
  rcases hB with hB | hB
  · exact .inl hB
  · by_cases ha : a = 0
    · exact .inl ha
    · refine .inr fun i h1 h2 => ?_
      have e : d'[a - 1]! = d[a - 1]! := h.2.1 (a - 1) (.inl (by omega))
      rw [e]
      exact h.all hb (fun x => ltT x d[a - 1]! = false) hB i h1 h2
def Left (a b x y : Nat) (d : Ar) : Prop := ∀ d', PI x y d d' → SortedIn ltT x y d' → SortedIn ltT a b d'
theorem Left.start (a b : Nat) (d : Ar) : Left a b a b d := fun _ _ h => h
theorem Left.perm {a b x y : Nat} {d d1 : Ar} (h : Left a b x y d) (hp : PI x y d d1) : Left a b x y d1 := fun d' h1 h2 => h d' (hp.tr h1) h2
theorem Left.equal {a b x y m : Nat} {d d1 : Ar} {pv : UInt64} (h : Left a b x y d) (hp : PI x y d d1) (hxm : x ≤ m) (hmy : m ≤ y) (hy : y ≤ d.size)
    (h1 : ∀ i, x ≤ i → i < m → ltT pv d1[i]! = false) (h1' : ∀ i, x ≤ i → i < y → ltT d1[i]! pv = false) (h2 : ∀ i, m ≤ i → i < y → ltT pv d1[i]! = true) : Left a b m y d1 := by
  intro d' hp' hs
  refine h d' (hp.tr (hp'.mono hxm (Nat.le_refl _) (by rw [hp.sz]; exact hy))) fun i j hi hij hj => ?_
  have hb1 : y ≤ d1.size := by rw [hp.sz]; exact hy
  by_cases him : m ≤ i
  · exact hs i j him hij hj
  · have ei : d'[i]! = d1[i]! := hp'.2.1 i (.inl (by omega))
    rw [ei]
    have g1 := h1 i hi (by omega)
    have g1' := h1' i hi (by omega)
    by_cases hjm : m ≤ j
    · have g2 := hp'.all hb1 (fun z => ltT pv z = true) h2 j hjm hj
      simp [ltT] at *; omega
    · have ej : d'[j]! = d1[j]! := hp'.2.1 j (.inl (by omega))
      rw [ej]
      have g2 := h1 j (by omega) (by omega)
      have g2' := h1' j (by omega) hj
      simp [ltT] at *; omega
theorem Left.right {a b x y m : Nat} {d d1 d2 : Ar} (h : Left a b x y d) (hp : PI x y d d1) (hxm : x ≤ m) (hmy : m < y) (hy : y ≤ d.size)
    (h1 : ∀ i, x ≤ i → i < m → ltT d1[i]! d1[m]! = true) (h2 : ∀ i, m < i → i < y → ltT d1[i]! d1[m]! = false) (hq : PI x m d1 d2) (hs : SortedIn ltT x m d2) : Left a b (m + 1) y d2 := by
  intro d' hp' hs'
  have hb1 : y ≤ d1.size := by rw [hp.sz]; exact hy
  have hb2 : y ≤ d2.size := by rw [hq.sz]; exact hb1
  have hq' := hq.mono (a' := x) (b' := y) (Nat.le_refl _) (by omega) hb1
  have e0 : d2[m]! = d1[m]! := hq.2.1 m (.inr (Nat.le_refl _))
  have e1 : d'[m]! = d1[m]! := (hp'.2.1 m (.inl (by omega))).trans e0
  have l1 : ∀ i, x ≤ i → i < m → ltT d'[i]! d1[m]! = true := fun i hi him => by
    have e : d'[i]! = d2[i]! := hp'.2.1 i (.inl (by omega))
    rw [e]; exact hq.all (by omega) (fun z => ltT z d1[m]! = true) h1 i hi him
  have l2 : ∀ i, m + 1 ≤ i → i < y → ltT d'[i]! d1[m]! = false := fun i hi hiy =>
    hp'.all hb2 (fun z => ltT z d1[m]! = false) (fun k hk hky => by
      have e : d2[k]! = d1[k]! := hq.2.1 k (.inr (by omega))
      rw [e]; exact h2 k (by omega) hky) i hi hiy
  refine h d' (hp.tr (hq'.tr (hp'.mono (by omega) (Nat.le_refl _) hb2))) fun i j hi hij hj => ?_
  rcases Nat.lt_trichotomy i m with him | him | him
  · rcases Nat.lt_trichotomy j m with hjm | hjm | hjm
    · have ei : d'[i]! = d2[i]! := hp'.2.1 i (.inl (by omega))
      have ej : d'[j]! = d2[j]! := hp'.2.1 j (.inl (by omega))
      rw [ei, ej]; exact hs i j hi hij hjm
    · subst hjm; rw [e1]; have := l1 i hi him; simp [ltT] at *; omega
    · have g1 := l1 i hi him; have g2 := l2 j (by omega) hj; simp [ltT] at *; omega
  · subst him; rw [e1]; exact l2 j (by omega) hj
  · exact hs' i j (by omega) hij hj
theorem Left.left {a b x y m : Nat} {d d1 d2 : Ar} (h : Left a b x y d) (hp : PI x y d d1) (hxm : x ≤ m) (hmy : m < y) (hy : y ≤ d.size)
    (h1 : ∀ i, x ≤ i → i < m → ltT d1[i]! d1[m]! = true) (h2 : ∀ i, m < i → i < y → ltT d1[i]! d1[m]! = false) (hq : PI (m + 1) y d1 d2) (hs : SortedIn ltT (m + 1) y d2) : Left a b x m d2 := by
  intro d' hp' hs'
  have hb1 : y ≤ d1.size := by rw [hp.sz]; exact hy
  have hb2 : y ≤ d2.size := by rw [hq.sz]; exact hb1
  have hq' := hq.mono (a' := x) (b' := y) (by omega) (Nat.le_refl _) hb1
  have e0 : d2[m]! = d1[m]! := hq.2.1 m (.inl (by omega))
  have e1 : d'[m]! = d1[m]! := (hp'.2.1 m (.inr (Nat.le_refl _))).trans e0
  have l1 : ∀ i, x ≤ i → i < m → ltT d'[i]! d1[m]! = true := fun i hi him =>
    hp'.all (by omega) (fun z => ltT z d1[m]! = true) (fun k hk hkm => by
      have e : d2[k]! = d1[k]! := hq.2.1 k (.inl (by omega))
      rw [e]; exact h1 k hk hkm) i hi him
  have l2 : ∀ i, m + 1 ≤ i → i < y → ltT d'[i]! d1[m]! = false := fun i hi hiy => by
    have e : d'[i]! = d2[i]! := hp'.2.1 i (.inr (by omega))
    rw [e]; exact hq.all hb1 (fun z => ltT z d1[m]! = false) (fun k hk hky => h2 k (by omega) hky) i hi hiy
  refine h d' (hp.tr (hq'.tr (hp'.mono (Nat.le_refl _) (by omega) hb2))) fun i j hi hij hj => ?_
  rcases Nat.lt_trichotomy i m with him | him | him
  · rcases Nat.lt_trichotomy j m with hjm | hjm | hjm
    · exact hs' i j hi hij hjm
    · subst hjm; rw [e1]; have := l1 i hi him; simp [ltT] at *; omega
    · have g1 := l1 i hi him; have g2 := l2 j (by omega) hj; simp [ltT] at *; omega
  · subst him; rw [e1]; exact l2 j (by omega) hj
  · have ei : d'[i]! = d2[i]! := hp'.2.1 i (.inr (by omega))
    have ej : d'[j]! = d2[j]! := hp'.2.1 j (.inr (by omega))
    rw [ei, ej]; exact hs i j (by omega) hij hj
end Go.Proofs.Ytdhpalioifjfbaa

namespace Go.Proofs.Ytdhpalioifjfbaa
open Go.Gx Go.Sort Go.RowKit
def Inv (a b x y : Nat) (d0 d : Ar) : Prop := a ≤ x ∧ x ≤ y ∧ y ≤ b ∧ b ≤ d0.size ∧ PI a b d0 d ∧ Go.Sort.Below ltT x y d ∧ Left a b x y d
theorem Inv.start {a b : Nat} {d : Ar} (h : Go.Sort.Below ltT a b d) (hab : a ≤ b) (hb : b ≤ d.size) : Inv a b a b d d := ⟨Nat.le_refl _, hab, Nat.le_refl _, hb, PI.rfl' _ _ _, h, Left.start _ _ _⟩
theorem Inv.rng {a b x y : Nat} {d0 d : Ar} (h : Inv a b x y d0 d) : a ≤ x ∧ x ≤ y ∧ y ≤ b := ⟨h.1, h.2.1, h.2.2.1⟩
theorem Inv.sz {a b x y : Nat} {d0 d : Ar} (h : Inv a b x y d0 d) : d.size = d0.size := h.2.2.2.2.1.sz
theorem Inv.hi {a b x y : Nat} {d0 d : Ar} (h : Inv a b x y d0 d) : y ≤ d.size := by have := h.sz; have := h.2.2.1; have := h.2.2.2.1; omega
theorem Inv.below {a b x y : Nat} {d0 d : Ar} (h : Inv a b x y d0 d) : Go.Sort.Below ltT x y d := h.2.2.2.2.2.1
theorem Inv.perm {a b x y : Nat} {d0 d d1 : Ar} (h : Inv a b x y d0 d) (hp : PI x y d d1) : Inv a b x y d0 d1 := by
  have hi := h.hi; have hs := h.sz
  obtain ⟨h1, h2, h3, h4, h5, h6, h7⟩ := h
  exact ⟨h1, h2, h3, h4, h5.tr (hp.mono h1 h3 (by omega)), hp.below hi h6, h7.perm hp⟩
theorem Inv.done {a b x y : Nat} {d0 d d1 : Ar} (h : Inv a b x y d0 d) (hp : PI x y d d1) (hs : SortedIn ltT x y d1) : PI a b d0 d1 ∧ SortedIn ltT a b d1 :=
  ⟨(h.perm hp).2.2.2.2.1, h.2.2.2.2.2.2 d1 hp hs⟩
theorem Inv.equal {a b x y pv : Nat} {d0 d : Ar} (h : Inv a b x y d0 d) (hx : x ≤ pv) (hy : pv < y) (h0 : 0 < x) (hl : ltT d[x - 1]! d[pv]! = false) :
    x < (partitionEqual ltT d x y pv).1 ∧ Inv a b (partitionEqual ltT d x y pv).1 y d0 (partitionEqual ltT d x y pv).2 := by
  have hi := h.hi; have hs := h.sz
  obtain ⟨h1, h2, h3, h4, h5, h6, h7⟩ := h
  have hall : ∀ i, x ≤ i → i < y → ltT d[i]! d[pv]! = false := fun i hi1 hi2 => by
    have g := (h6.resolve_left (by omega)) i hi1 hi2
    simp [ltT] at *; omega
  obtain ⟨g1, g2, g3, g4, g5⟩ := partitionEqual_holds ltT swoT d x y pv hx hy hi hall
  have g3 : PI x y d (partitionEqual ltT d x y pv).2 := g3
  have hall' := PI.all g3 hi (fun z => ltT z d[pv]! = false) hall
  generalize partitionEqual ltT d x y pv = q at *
  refine ⟨g1, by omega, g2, h3, h4, h5.tr (g3.mono h1 h3 (by omega)), .inr fun i hi1 hi2 => ?_, Left.equal h7 g3 (by omega) g2 hi g4 hall' g5⟩
  have k1 := g5 i hi1 hi2; have k2 := g4 (q.1 - 1) (by omega) (by omega)
  simp [ltT] at *; omega
theorem Inv.part {a b x y pv : Nat} {d0 d : Ar} (h : Inv a b x y d0 d) (hx : x ≤ pv) (hy : pv < y) :
    x ≤ (partition ltT d x y pv).1 ∧ (partition ltT d x y pv).1 < y ∧ (partition ltT d x y pv).2.2.size = d.size ∧ Go.Sort.Below ltT x (partition ltT d x y pv).1 (partition ltT d x y pv).2.2 ∧ Go.Sort.Below ltT ((partition ltT d x y pv).1 + 1) y (partition ltT d x y pv).2.2 ∧
    (∀ d2, PI x (partition ltT d x y pv).1 (partition ltT d x y pv).2.2 d2 → SortedIn ltT x (partition ltT d x y pv).1 d2 → Inv a b ((partition ltT d x y pv).1 + 1) y d0 d2) ∧
    (∀ d2, PI ((partition ltT d x y pv).1 + 1) y (partition ltT d x y pv).2.2 d2 → SortedIn ltT ((partition ltT d x y pv).1 + 1) y d2 → Inv a b x (partition ltT d x y pv).1 d0 d2) := by
  have hi := h.hi; have hs := h.sz
  obtain ⟨g1, g2, g3, g4, g5⟩ := partition_holds ltT swoT d x y pv hx hy hi
  have g3 : PI x y d (partition ltT d x y pv).2.2 := g3
  have hp := h.perm g3
  obtain ⟨h1, h2, h3, h4, h5, h6, h7⟩ := h
  generalize partition ltT d x y pv = q at *
  have hsq := g3.sz
  refine ⟨g1, g2, hsq, ?_, ?_, ?_, ?_⟩
  · rcases hp.below with hB | hB
    · exact .inl hB
    · exact .inr fun i hi1 hi2 => hB i hi1 (by omega)
  · exact .inr fun i hi1 hi2 => by rw [Nat.add_sub_cancel]; exact g5 i (by omega) hi2
  · intro d2 hq hso
    refine ⟨by omega, by omega, h3, h4, hp.2.2.2.2.1.tr (hq.mono h1 (by omega) (by omega)), ?_, Left.right h7 g3 g1 g2 hi g4 g5 hq hso⟩
    refine .inr fun i hi1 hi2 => ?_
    have e0 : d2[q.1]! = q.2.2[q.1]! := hq.2.1 q.1 (.inr (Nat.le_refl _))
    have e1 : d2[i]! = q.2.2[i]! := hq.2.1 i (.inr (by omega))
    rw [Nat.add_sub_cancel, e0, e1]; exact g5 i (by omega) hi2
  · intro d2 hq hso
    refine ⟨h1, g1, by omega, h4, hp.2.2.2.2.1.tr (hq.mono (by omega) h3 (by omega)), ?_, Left.left h7 g3 g1 g2 hi g4 g5 hq hso⟩
    rcases hp.below with hB | hB
    · exact .inl hB
    · by_cases hx0 : x = 0
      · exact .inl hx0
      · refine .inr fun i hi1 hi2 => ?_
        have e0 : d2[x - 1]! = q.2.2[x - 1]! := hq.2.1 (x - 1) (.inl (by omega))
        have e1 : d2[i]! = q.2.2[i]! := hq.2.1 i (.inl (by omega))
        rw [e0, e1]; exact hB i hi1 (by omega)
theorem Inv.lt {a b x y : Nat} {d0 d : Ar} (h : Inv a b x y d0 d) : PI a b d0 d := h.2.2.2.2.1
theorem Inv.ins {a b x y : Nat} {d0 d : Ar} (h : Inv a b x y d0 d) : PI a b d0 (insertionSort ltT d x y) ∧ SortedIn ltT a b (insertionSort ltT d x y) :=
  have g := insertionSort_holds swoT d x y h.2.1 h.hi
  h.done g.1 g.2
theorem Inv.heap {a b x y : Nat} {d0 d : Ar} (h : Inv a b x y d0 d) : PI a b d0 (heapSort ltT d x y) ∧ SortedIn ltT a b (heapSort ltT d x y) :=
  have g := heapSort_holds swoT d x y h.2.1 h.hi
  h.done g.1 g.2
theorem Inv.rev {a b x y : Nat} {d0 d : Ar} (h : Inv a b x y d0 d) : Inv a b x y d0 (reverseRange d x y) := h.perm (reverseRange_holds d x y h.2.1 h.hi)
theorem Inv.pins {a b x y : Nat} {d0 d : Ar} (h : Inv a b x y d0 d) (hxy : x < y) : Inv a b x y d0 (partialInsertionSort ltT d x y).1 ∧ ((partialInsertionSort ltT d x y).2 = true → PI a b d0 (partialInsertionSort ltT d x y).1 ∧ SortedIn ltT a b (partialInsertionSort ltT d x y).1) :=
  have g := partialInsertionSort_holds swoT d x y hxy h.hi h.below
  ⟨h.perm g.1, fun e => h.done g.1 (g.2 e)⟩
end Go.Proofs.Ytdhpalioifjfbaa

namespace Go.Proofs.Ytdhpalioifjfbaa
open Go.Gx Go.RowKit Go.Maps Go.Sort Go.Shelf Go.Proofs
abbrev encU : Int → Value := Value.int .u64
theorem encU_inj {x y : Int} (h : encU x = encU y) : x = y := by simpa using h
theorem keyOf_u64 {P : Program} {k : TypeId} (hk : P.underlying k = some (.int .u64)) {key : Value} {kl : Lit} (h : keyOf P k key = some kl) : ∃ x : Int, key = encU x ∧ kl = .int .u64 x ∧ (Lit.int .u64 x).wf = true := by
  cases key <;> simp [keyOf, hk, mapKey] at h
  rename_i q a
  obtain ⟨⟨rfl, hw⟩, rfl⟩ := h
  exact ⟨a, rfl, rfl, hw⟩
def CollU {H : Type} (D0 : DataW H) (left : Lit → Bool) (ss : List Int) : Prop := ss.Nodup ∧ ∀ x, x ∈ ss ↔ (has D0 (.int .u64 x) = true ∧ left (.int .u64 x) = false)
section
variable {H : Type} {D0 : DataW H} {left : Lit → Bool} {ss : List Int}
theorem CollU.start (D0 : DataW H) : CollU D0 (has D0) [] := ⟨List.nodup_nil, fun x => by cases has D0 (.int .u64 x) <;> simp⟩
theorem CollU.step (h : CollU D0 left ss) {x : Int} {y : DataW H} (hlk : left (.int .u64 x) = true) (hat : ∀ zd, D0.atKey (.int .u64 x) zd = y) : CollU D0 (fun z => left z && !z.sameKey (.int .u64 x)) (ss ++ [x]) := by
  have hhas : has D0 (.int .u64 x) = true := has_true_of_atKey hat
  have hnew : x ∉ ss := fun hx => by have := ((h.2 x).1 hx).2; rw [hlk] at this; cases this
  refine ⟨List.nodup_append.2 ⟨h.1, by simp, fun a ha b hb => by simp at hb; subst hb; exact fun e => hnew (e ▸ ha)⟩, fun y => ?_⟩
  by_cases hy : y = x
  · subst hy; simp [hhas, Lit.sameKey]
  · simp [h.2 y, hy, Lit.sameKey]
theorem CollU.perm {P : Program} {k : TypeId} {R : Value → Option (DataW H × List MemPlace)} {w : World} {b n : Nat} (h : CollU D0 left ss) (hown : w.ownsMap P k R b n D0) (K : Keyed P k) (hk : P.underlying k = some (.int .u64)) (hl : ∀ kl, left kl = false) : ss.Perm (intKeys D0) := by
  obtain ⟨es, hD, hpw, _⟩ := hown.entries K
  obtain ⟨es', hD', hko⟩ := hown.keysOf
  obtain rfl : es = es' := by rw [hD] at hD'; simpa using hD'
  subst hD
  have hkx : ∀ p ∈ es, ∃ x, p.1 = Lit.int .u64 x := fun p hp => by obtain ⟨v, hv⟩ := hko p hp; obtain ⟨x, _, hx, _⟩ := keyOf_u64 hk hv; exact ⟨x, hx⟩
  refine (List.perm_ext_iff_of_nodup h.1 ?_).2 fun x => ?_
  · show (es.map fun (p : Lit × DataW H) => Go.intOf p.1).Nodup
    refine List.pairwise_map.2 (hpw.imp_of_mem fun {p q} hp' hq' hne e => hne ?_)
    obtain ⟨a, ha⟩ := hkx p hp'
    obtain ⟨c, hc⟩ := hkx q hq'
    rw [ha, hc] at e ⊢
    exact congrArg _ e
  · rw [h.2 x, hl, has_eq, List.any_eq_true]
    show _ ↔ x ∈ es.map fun (p : Lit × DataW H) => Go.intOf p.1
    rw [List.mem_map]
    constructor
    · rintro ⟨⟨p, hp', hs⟩, _⟩
      obtain ⟨a, ha⟩ := hkx p hp'
      rw [ha] at hs
      exact ⟨p, hp', by rw [ha]; simpa [Lit.sameKey, Go.intOf] using hs⟩
    · rintro ⟨p, hp', rfl⟩
      obtain ⟨a, ha⟩ := hkx p hp'
      exact ⟨⟨p, hp', by rw [ha]; simp [Lit.sameKey, Go.intOf]⟩, rfl⟩
end
set_option maxRecDepth 100000 in
set_option maxHeartbeats 1000000 in
theorem Hq.KEYS1N (F : Fence) (n : Nat) (h10 : F.fn 58) (hro : F.round = none) (hn : 1 ≤ n) (l Bm b nn : Nat) (D0 : DataW Nat) (J : List Int → World → Prop)
    (hY : ∀ pre x W, J pre W → pre.length < Maps.size D0 → YieldAt F (n - 1) Try.prog l #[encU x] W fun e W' => e = .returned (.bool true) ∧ J (pre ++ [x]) W' ∧ KeepsWalks W W')
    (W : World) (hJ : AbidesFrom W.heap.size J) (hm : W.cell? ⟨Bm, 0, none⟩ = some (.map (some b))) (hown : W.ownsMap Try.prog 57 anyR b nn D0) (h0 : J [] W) :
    CallsIn F n Try.prog 58 #[.func (.yield l) #[] #[], .pointer (some ⟨Bm, 0, none⟩)] W fun e W' => (∃ v, e = .returned v) ∧ ∃ ss : List Int, ss.Perm (intKeys D0) ∧ J ss W' := by
  refine callsIn_of_wp Try.func58 rfl h10 ?_ hro
  simp only [Try.ntmps58, List.size_toArray, List.length_cons, List.length_nil, Nat.reduceAdd, Nat.reduceSub, Array.replicate_succ, Array.replicate_zero, List.push_toArray, List.append_toArray, List.nil_append, List.cons_append]
  gi_wp2_with (first
    | (gi_at_range; refine wpListIn_range_own _ rfl _ 69 rfl 57 80 (int_keyed Try.underlying57) Try.underlying69 _ b nn _ rfl hown ?_; intro w0 hrg0 hg0 hs0)
    | gi_in)
  go_frame
  gi_loopw [3] (fun _ wr => ∃ (left : Lit → Bool) (cnt : Nat) (ss : List Int), wr.ranges Try.prog 57 anyR b W.heap.size nn D0 left cnt ∧ ss.length + cnt ≤ Maps.size D0 ∧ CollU D0 left ss ∧ J ss wr)
    (fun _ wr => wr.rangeLeft b W.heap.size)
  case atStart =>
    exact ⟨_, _, [], hrg0, by simp, CollU.start D0, hJ [] W w0 none h0 hg0 (fun r e => by cases e)⟩
  case round =>
    obtain ⟨left, cnt, ss, hrg, hcs, hC, hJs⟩ := hrel
    gi_wp2_with (first
      | (gi_at_next; refine wpListIn_next_ranges _ rfl _ rfl 57 (int_keyed Try.underlying57) anyR encU id (fun key kl hk => by obtain ⟨x, hx, _⟩ := keyOf_u64 Try.underlying57 hk; exact ⟨x, hx⟩) (fun v _ _ => ⟨v, rfl⟩) b W.heap.size nn _ _ _ rfl hrg ?_ ?_)
      | gi_in)
    ·
      intro hc0 hl0
      gi_wp2
      go_end0
      exact ⟨⟨_, rfl⟩, ss, hC.perm hown (int_keyed Try.underlying57) Try.underlying57 hl0, hJs⟩
    ·
      intro x c kl yd yp w2 cnt2 hkey hlk hv hat hrg2 hlt hg2 hs2 hen
      obtain ⟨x', ex, rfl, _⟩ := keyOf_u64 Try.underlying57 hkey
      obtain rfl : x = x' := encU_inj ex
      have hJ2 : J ss w2 := hJ ss wr w2 (some W.heap.size) hJs hg2 (fun r e => by cases e; exact ⟨Nat.le_refl _, hrg.iter_walk⟩)
      obtain ⟨fn, tmps, assign, body, hy, hR⟩ := hY ss x w2 hJ2 (by omega)
      clear hs2
      gi_wp2
      refine hR.mono ?_
      rintro e W3 ⟨rfl, hJ3, hk3⟩
      gi_wp2
      have hrg3 := hrg2.of_walks hk3
      go_roundw
      case rel => exact ⟨_, cnt2, ss ++ [x], hrg3, by simp; omega, hC.step hlk hat, hJ3⟩
      case measure => rw [hrg3.left_eq, hrg.left_eq]; exact hlt


theorem Hq.KEYSG (F : Fence) (n : Nat) (h10 : F.fn 58) (hro : F.round = none) (hn : 1 ≤ n) (Bm b nn : Nat) (D0 : DataW Nat) (w : World) (hBm : Bm < w.heap.size)
    (hm : w.cell? ⟨Bm, 0, none⟩ = some (.map (some b))) (hown : w.ownsMap Try.prog 57 anyR b nn D0) :
    SeqGives F n Try.prog 58 #[.pointer (some ⟨Bm, 0, none⟩)] encU (fun ss => ss.Perm (intKeys D0)) (Maps.size D0) w := fun l J W hW hJ hY h0 => by
  have hown' : W.ownsMap Try.prog 57 anyR b nn D0 := by
    have hbl := hown.lt
    obtain ⟨es, clock, hb, Ft, hs, hD⟩ := hown
    exact ⟨es, clock, (hW.block b hbl).trans hb, Ft, hs, hD⟩
  exact Hq.KEYS1N F n h10 hro hn l Bm b nn D0 J hY W hJ ((hW.cell (p := ⟨Bm, 0, none⟩) hBm).trans hm) hown' h0



def Hq.apAssign : Code := (Code.region 2 #[{ dst := some 5, op := Op.assign (Operand.tmp 7), type := 57, pos := "iter.go:51", after := #[], guard := none }] false)
def Hq.apBody : Code := (Code.block 1 (Code.region 3 #[{ dst := some 8, op := Op.load 62 (Operand.tmp 2), type := 62, pos := "iter.go:52", after := #[], guard := none }, { dst := some 9, op := Op.move (Operand.tmp 5), type := 57, pos := "iter.go:52", after := #[], guard := none }, { dst := some 10, op := Op.buildSlice 62 1 #[(0, Operand.tmp 9)], type := 62, pos := "iter.go:52", after := #[{ on := 1, ground := Ground.data }], guard := none }, { dst := some 11, op := Op.call { callee := Callee.builtin Builtin.append, args := #[Operand.tmp 8, Operand.tmp 10], argTypes := #[62, 62] }, type := 62, pos := "iter.go:52", after := #[{ on := 0, ground := Ground.data }, { on := 2, ground := Ground.data }], guard := none }, { dst := none, op := Op.store 62 (Operand.tmp 2) (Operand.tmp 11), type := 0, pos := "iter.go:52", after := #[{ on := 3, ground := Ground.data }, { on := 3, ground := Ground.chain }, { on := 0, ground := Ground.phase }, { on := 1, ground := Ground.phase }, { on := 2, ground := Ground.phase }, { on := 3, ground := Ground.phase }], guard := none }] false))
def Hq.apRec (fn : FuncId) (sv : Value) (Bs D : Nat) (st : LoopState) (pend : Option Code) : Loop :=
  { state := st, pending := pend, fn, tmps := #[.slice none 0 0, sv, .pointer (some ⟨Bs, 0, none⟩), undef, .slice none 0 0, undef, sv, undef, undef, undef, undef, undef, undef], params := #[7], assign := Hq.apAssign, body := Hq.apBody, defers := D }

structure Hq.ApAt (w0 : World) (fn : FuncId) (sv : Value) (Bs l D : Nat) (ss : List Int) (W : World) : Prop where
  box : ∃ v, W.heap[Bs]? = some (.cells #[v] 62 (0, 0)) ∧ W.ownsRow w0.heap.size 57 1 v ss.length (ss.map encU) ∧ (v = .slice none 0 0 ↔ ss = [])
  L : W.heap[l]? = some (.loop (Hq.apRec fn sv Bs D .ready none))
  K : W.heap[D]? = some (.deferred (some []))
  below : Below w0.heap.size w0 W

theorem ownsRow_abides {W W' : World} {row : Option Nat} {base : Nat} {e : TypeId} {size : Nat} {v : Value} {k : Nat} {xs : List Value} (h : W.ownsRow base e size v k xs) (hg : W.grownBy W' row)
    (hrow : ∀ r, row = some r → ∃ o : Obj, W.heap[r]? = some o ∧ o.isWalk = true) : W'.ownsRow base e size v k xs := by
  refine h.kept hg ?_
  rcases h.2 with ⟨rfl, _⟩ | ⟨g, cap, cur, rfl, _, hgb, _⟩
  · exact .inl rfl
  · refine .inr fun e' => ?_
    obtain ⟨o, ho, hw⟩ := hrow g (by simpa [Value.ownBlock] using e'.symm)
    rw [hgb] at ho; cases ho; cases hw

theorem Hq.ap_abides (w0 : World) (fn : FuncId) (sv : Value) (Bs l D B : Nat) (hB : w0.heap.size ≤ B) : AbidesFrom B (Hq.ApAt w0 fn sv Bs l D) := fun s W W' row h hg hrow => by
  have hrow' : ∀ r, row = some r → ∃ o : Obj, W.heap[r]? = some o ∧ o.isWalk = true := fun r e => (hrow r e).2
  obtain ⟨v, hv, hr, hn⟩ := h.box
  exact ⟨⟨v, (grownBy_keeps hg hrow' hv rfl).trans hv, ownsRow_abides hr hg hrow', hn⟩, (grownBy_keeps hg hrow' h.L rfl).trans h.L, (grownBy_keeps hg hrow' h.K rfl).trans h.K,
    h.below.grown hg h.below.size (fun k e => Nat.le_trans hB (hrow k e).1)⟩

theorem grownBy_putObj (W : World) (l : Nat) (o : Obj) : W.grownBy (W.putObj l o) (some l) :=
  ⟨rfl, rfl, rfl, by simp, fun k _ hk => World.putObj_heap_other (fun e => hk (by rw [e]))⟩
theorem grownBy_setCell0 (W : World) (b : Nat) (v : Value) : W.grownBy (W.setCell ⟨b, 0, none⟩ v) (some b) :=
  ⟨rfl, rfl, rfl, (KeepsWalks.setCell W _ v).size, fun k _ hk => Below.heap_setCell _ _ _ k (fun e => hk (by rw [e]))⟩
theorem ownsRow_ne {W : World} {base : Nat} {e : TypeId} {size : Nat} {v : Value} {k : Nat} {xs : List Value} (h : W.ownsRow base e size v k xs) {j : Nat} {o : Obj} (hj : W.heap[j]? = some o) (hno : ∀ cur, o ≠ .cells cur e (0, 0)) :
    v.ownBlock = none ∨ v.ownBlock ≠ some j := by
  rcases h.2 with ⟨rfl, _⟩ | ⟨g, cap, cur, rfl, _, hgb, _⟩
  · exact .inl rfl
  · refine .inr fun e' => ?_
    have : g = j := by simpa [Value.ownBlock] using e'
    subst this; rw [hgb] at hj; cases hj; exact hno cur rfl
theorem cell_of_box {W : World} {B : Nat} {v : Value} {t : TypeId} (h : W.heap[B]? = some (.cells #[v] t (0, 0))) : W.cell? ⟨B, 0, none⟩ = some v ∧ W.frozen? ⟨B, 0, none⟩ = false := by
  constructor <;> simp [World.cell?, World.frozen?, h]

theorem heap_setCell_box {W : World} {B : Nat} {v : Value} {t : TypeId} (v' : Value) (h : W.heap[B]? = some (.cells #[v] t (0, 0))) : (W.setCell ⟨B, 0, none⟩ v').heap[B]? = some (.cells #[v'] t (0, 0)) := by
  obtain ⟨hlt, hk⟩ := Array.getElem?_eq_some_iff.1 h
  show (W.heap.modify B _)[B]? = _
  rw [Array.getElem?_eq_getElem (by rw [Array.size_modify]; exact hlt), Array.getElem_modify_self, hk]
  rfl
theorem ownsRow_not_walk {W : World} {base : Nat} {e : TypeId} {size : Nat} {v : Value} {k : Nat} {xs : List Value} (h : W.ownsRow base e size v k xs) : ∀ (j : Nat) (o : Obj), v.ownBlock = some j → W.heap[j]? = some o → o.isWalk = false := by
  intro j o hj ho
  rcases h.2 with ⟨rfl, _⟩ | ⟨g, cap, cur, rfl, _, hgb, _⟩
  · simp [Value.ownBlock] at hj
  · have : g = j := by simpa [Value.ownBlock] using hj
    subst this; rw [hgb] at ho; cases ho; rfl

theorem UINFO : (Try.prog.info? 57).map (fun i => (i.zero, i.size, i.bytes)) = some (some (.int .u64 0), 1, 8) := by kernel_rfl

set_option maxRecDepth 100000 in
set_option maxHeartbeats 2000000 in
theorem Hq.APYIELD (F : Fence) (m : Nat) (w0 : World) (fn : FuncId) (hfn : F.fn fn) (sv : Value) (Bs l D : Nat) (hBl : Bs ≠ l) (hDl : D ≠ l) (hDB : D ≠ Bs) (h0B : w0.heap.size ≤ Bs) (h0l : w0.heap.size ≤ l)
    (N : Nat) (hN : N ≤ maxLen) (hNb : N * 8 ≤ 140737488355328) (ss : List Int) (x : Int) (W : World) (h : Hq.ApAt w0 fn sv Bs l D ss W) (hlen : ss.length < N) :
    YieldAt F m Try.prog l #[encU x] W fun e W' => e = .returned (.bool true) ∧ Hq.ApAt w0 fn sv Bs l D (ss ++ [x]) W' ∧ KeepsWalks W W' := by
  obtain ⟨i0, hi, hz0, hz1, hz2⟩ := info_parts UINFO
  obtain ⟨v, hv, hrow, _⟩ := h.box
  refine ⟨fn, #[.slice none 0 0, sv, .pointer (some ⟨Bs, 0, none⟩), undef, .slice none 0 0, undef, sv, encU x, undef, undef, undef, undef, undef], Hq.apAssign, Hq.apBody, by simpa [Hq.apRec] using run_yield (P := Try.prog) (args := #[encU x]) h.L rfl, roundIn_of_wpIn hfn ?_⟩
  have hl : l < W.heap.size := (Array.getElem?_eq_some_iff.1 h.L).1
  have hbr := run_beginRound (P := Try.prog) h.L rfl
  obtain ⟨W2, hW2⟩ : ∃ W2, W.putObj l (.loop { Hq.apRec fn sv Bs D .ready none with state := .busy }) = W2 := ⟨_, rfl⟩
  rw [hW2] at hbr
  have hg2 : W.grownBy W2 (some l) := by rw [← hW2]; exact grownBy_putObj _ _ _
  have hk2 : KeepsWalks W W2 := by rw [← hW2]; exact KeepsWalks.putObj _ h.L rfl
  have hv2 : W2.heap[Bs]? = some (.cells #[v] 62 (0, 0)) := by rw [← hW2]; exact (World.putObj_heap_other hBl).trans hv
  have hK2 : W2.heap[D]? = some (.deferred (some [])) := by rw [← hW2]; exact (World.putObj_heap_other hDl).trans h.K
  have hL2 : W2.heap[l]? = some (.loop { Hq.apRec fn sv Bs D .ready none with state := .busy }) := by rw [← hW2]; exact World.putObj_heap_same hl
  have hrow2 : W2.ownsRow w0.heap.size 57 1 v ss.length (ss.map encU) := hrow.kept hg2 (ownsRow_ne hrow h.L (fun cur e => by cases e))
  have hb2 : Below w0.heap.size w0 W2 := h.below.grown hg2 h.below.size (fun k e => by cases e; exact h0l)
  obtain ⟨hc2, hf2⟩ := cell_of_box hv2
  have hBlt : Bs < W2.heap.size := (Array.getElem?_eq_some_iff.1 hv2).1
  have hl2 : l < W2.heap.size := (Array.getElem?_eq_some_iff.1 hL2).1
  have hDlt : D < W2.heap.size := (Array.getElem?_eq_some_iff.1 hK2).1
  have ne_of : ∀ {j : Nat} {o : Obj}, W2.heap[j]? = some o → (∀ cur, o ≠ .cells cur 57 (0, 0)) → some j ≠ v.ownBlock := fun hj hno => by
    rcases ownsRow_ne hrow2 hj hno with e | e
    · rw [e]; simp
    · exact fun e' => e e'.symm
  clear hW2
  unfold Hq.apAssign
  gi_wp2_with (rw [Oper.semAt_eq _ _ _ (fun c h => by cases h)]; go_simp; try go_bits)
  unfold Hq.apBody
  gi_wp2_with (first
    | (gi_at_builtin; refine wpListIn_append_own _ rfl _ _ 62 rfl w0.heap.size 57 i0 (.int .u64 0) 1 8 Try.underlying62 hi hz0 hz1 hz2 rfl (by decide) _ _ _ rfl (hrow2.alloc _) ⟨W2.heap.size, 0, none⟩ 1 1 [encU x] rfl rfl (cell_one_new _ _ _) (by simp [Value.oneCell', encU]) (by omega) (by omega) (by have := hb2.size; simp; omega) ?_; intro v' w3 hown' hg3 hnil3
       have hv3 : w3.heap[Bs]? = some (.cells #[v] 62 (0, 0)) := (hg3.block Bs (by simp; omega) (ne_of hv2 (fun cur e => by cases e))).trans ((Below.heap_alloc _ _ Bs hBlt).trans hv2)
       obtain ⟨hc3, hf3⟩ := cell_of_box hv3
       obtain ⟨g', cap', cur', rfl, hbase', hgb', hr1, hr2, hr3, hr4⟩ : ∃ g' cap' cur', v' = .slice (some ⟨g', 0, none⟩) (ss.length + 1) cap' ∧ w0.heap.size ≤ g' ∧ w3.heap[g']? = some (.cells cur' 57 (0, 0)) ∧ ss.length + 1 ≤ cap' ∧ cap' ≤ maxLen ∧ cur'.size = cap' * 1 ∧ cur'.toList.take ((ss.length + 1) * 1) = ss.map encU ++ [encU x] := by
         rcases hown'.2 with ⟨_, h0⟩ | h'
         · exact absurd h0 (by omega)
         · exact h'
       go_frame)
    | (rw [Oper.semAt_eq _ _ _ (fun c h => by cases h)]; go_simp; try go_bits))
  have hg3' : (W2.alloc (.cells #[encU x] 57)).grownBy w3 v.ownBlock := hg3
  have hL3 : w3.heap[l]? = some (.loop { Hq.apRec fn sv Bs D .ready none with state := .busy }) := (hg3'.block l (by simp; omega) (ne_of hL2 (fun cur e => by cases e))).trans ((Below.heap_alloc _ _ l hl2).trans hL2)
  have hK3 : w3.heap[D]? = some (.deferred (some [])) := (hg3'.block D (by simp; omega) (ne_of hK2 (fun cur e => by cases e))).trans ((Below.heap_alloc _ _ D hDlt).trans hK2)
  obtain ⟨w4, hw4⟩ : ∃ w4, w3.setCell ⟨Bs, 0, none⟩ (.slice (some ⟨g', 0, none⟩) (ss.length + 1) cap') = w4 := ⟨_, rfl⟩
  rw [hw4]
  have hg4 : w3.grownBy w4 (some Bs) := by rw [← hw4]; exact grownBy_setCell0 _ _ _
  have hv4 : w4.heap[Bs]? = some (.cells #[.slice (some ⟨g', 0, none⟩) (ss.length + 1) cap'] 62 (0, 0)) := by rw [← hw4]; exact heap_setCell_box _ hv3
  have hL4 : w4.heap[l]? = some (.loop { Hq.apRec fn sv Bs D .ready none with state := .busy }) := (hg4.block l (Array.getElem?_eq_some_iff.1 hL3).1 (fun e => hBl (by cases e; rfl))).trans hL3
  have hK4 : w4.heap[D]? = some (.deferred (some [])) := (hg4.block D (Array.getElem?_eq_some_iff.1 hK3).1 (fun e => hDB (by cases e; rfl))).trans hK3
  have hrow4 := hown'.kept hg4 (ownsRow_ne hown' hv3 (fun cur e => by cases e))
  have hl4 : l < w4.heap.size := (Array.getElem?_eq_some_iff.1 hL4).1
  have hb3 : Below w0.heap.size w0 w3 := (hb2.alloc hb2.size _).grown hg3' (by have := hb2.size; simp; omega) (fun k e => (hrow2.lt k e).1)
  have hb4 : Below w0.heap.size w0 w4 := hb3.grown hg4 hb3.size (fun k e => by cases e; exact h0B)
  have hk4 : KeepsWalks W w4 := ((hk2.trans (KeepsWalks.alloc _ _)).trans (KeepsWalks.of_grownBy hg3' (ownsRow_not_walk (hrow2.alloc _)))).trans (by rw [← hw4]; exact KeepsWalks.setCell _ _ _)
  clear hw4
  refine ⟨_, _, run_endRound none hL4, rfl, ⟨⟨_, (World.putObj_heap_other hBl).trans hv4, ?_, by simp⟩, World.putObj_heap_same hl4, (World.putObj_heap_other hDl).trans hK4, hb4.grown (grownBy_putObj _ _ _) hb4.size (fun k e => by cases e; exact h0l)⟩, hk4.trans (KeepsWalks.putObj _ hL4 rfl)⟩
  have := hrow4.kept (grownBy_putObj w4 l (.loop { { Hq.apRec fn sv Bs D .ready none with state := .busy } with state := if (none : Option Code).isNone then .ready else .done, pending := none })) (ownsRow_ne hrow4 hL4 (fun cur e => by cases e))
  simpa using this


set_option maxRecDepth 100000 in
set_option maxHeartbeats 2000000 in
theorem Hq.APSEQ (F : Fence) (n : Nat) (h11 : F.fn 62) (hro : F.round = none) (hn : 2 ≤ n) (g : Nat) (lb : Array Value) (hFg : F.fn g) (eg : ∀ args w, (callFunc g args).run Try.prog w = .ok (.enter g args) w)
    (S : List Int → Prop) (N : Nat) (hN : N ≤ maxLen) (hNb : N * 8 ≤ 140737488355328) (w : World) (hseq : SeqGives F (n - 1) Try.prog g lb encU S N w) :
    CallsIn F n Try.prog 62 #[.slice none 0 0, .func (.func g) #[] lb] w fun e w' => ∃ (v : Value) (ss : List Int), e = .returned v ∧ S ss ∧ w'.ownsRow w.heap.size 57 1 v ss.length (ss.map encU) ∧ (v = .slice none 0 0 ↔ ss = []) ∧ Below w.heap.size w w' := by
  have h1 : 1 ≤ n := by omega
  refine callsIn_of_wp_marks Try.func62 rfl h11 ?_ hro
  simp only [Try.ntmps62, List.size_toArray, List.length_cons, List.length_nil, Nat.reduceAdd, Nat.reduceSub, Array.replicate_succ, Array.replicate_zero, List.push_toArray, List.append_toArray, List.nil_append, List.cons_append]
  gi_wp2
  refine wpIn_rangeFunc ?_
  intro fn hfn
  rw [hro]
  obtain ⟨W0, hW0⟩ : ∃ W0, w.alloc (.cells #[.slice none 0 0] 62) = W0 := ⟨_, rfl⟩
  have hs0 : W0.heap.size = w.heap.size + 1 := by rw [← hW0]; simp
  have hv0 : W0.heap[w.heap.size]? = some (.cells #[.slice none 0 0] 62 (0, 0)) := by rw [← hW0]; exact World.alloc_heap_new w _
  have hb0 : Below w.heap.size w W0 := by rw [← hW0]; exact (Below.refl _ w).alloc (Nat.le_refl _) _
  rw [hW0]
  obtain ⟨W1, hW1⟩ : ∃ W1, (W0.alloc (.deferred (some []))).alloc (.loop (Hq.apRec fn (.func (.func g) #[] lb) w.heap.size W0.heap.size .ready none)) = W1 := ⟨_, rfl⟩
  have hold : ∀ k, k < W0.heap.size → W1.heap[k]? = W0.heap[k]? := fun k hk => by
    rw [← hW1]; exact (Below.heap_alloc _ _ k (by simp; omega)).trans (Below.heap_alloc _ _ k hk)
  have hb1 : Below w.heap.size w W1 := by rw [← hW1]; exact (hb0.alloc hb0.size _).alloc (by have := hb0.size; simp; omega) _
  have hs1 : W1.heap.size = W0.heap.size + 2 := by rw [← hW1]; simp
  have hM : Hq.ApAt w fn (.func (.func g) #[] lb) w.heap.size (W0.heap.size + 1) W0.heap.size [] W1 :=
    ⟨⟨_, (hold w.heap.size (by omega)).trans hv0, ⟨rfl, .inl ⟨rfl, rfl⟩⟩, by simp⟩,
     by rw [← hW1]; have := World.alloc_heap_new (W0.alloc (.deferred (some []))) (.loop (Hq.apRec fn (.func (.func g) #[] lb) w.heap.size W0.heap.size .ready none)); rwa [World.size_alloc] at this,
     by rw [← hW1]; exact (Below.heap_alloc _ _ _ (by simp)).trans (World.alloc_heap_new W0 _), hb1⟩
  refine ⟨W0.heap.size + 1, [{ target := .collected W0.heap.size, args := #[] }], W1, { target := .fn (.func g) lb, args := #[.func (.yield (W0.heap.size + 1)) #[] #[]] }, W1, g,
    #[.func (.yield (W0.heap.size + 1)) #[] #[]] ++ lb, W1, ?_, ?_, ?_, ?_, fun _ => h1, ?_⟩
  · rw [← hW1]; exact run_enterLoop_outer _ _ _ _ _
  · simp [resolve, go_sem]
  · intro f' hf'; simp [Target.leads] at hf'; subst hf'; exact hFg
  · simp [invoke, go_sem, eg]
  · refine (hseq (W0.heap.size + 1) (Hq.ApAt w fn (.func (.func g) #[] lb) w.heap.size (W0.heap.size + 1) W0.heap.size) W1 hb1 (Hq.ap_abides _ _ _ _ _ _ _ hb1.size)
      (fun pre x W hJ hl => Hq.APYIELD F (n - 1 - 1) w fn hfn _ w.heap.size (W0.heap.size + 1) W0.heap.size (by omega) (by omega) (by omega) (Nat.le_refl _) (by omega) N hN hNb pre x W hJ hl) hM).mono ?_
    rintro e W2 ⟨⟨v0, rfl⟩, ss, hS, h2⟩
    obtain ⟨v, hv, hrow, hnil⟩ := h2.box
    have hend := run_endLoop (P := Try.prog) h2.L (by simp [Hq.apRec])
    obtain ⟨W3, hW3⟩ : ∃ W3, W2.putObj (W0.heap.size + 1) (.loop { Hq.apRec fn (.func (.func g) #[] lb) w.heap.size W0.heap.size .ready none with state := .exhausted }) = W3 := ⟨_, rfl⟩
    rw [hW3] at hend
    have hg3 : W2.grownBy W3 (some (W0.heap.size + 1)) := by rw [← hW3]; exact grownBy_putObj _ _ _
    have hv3 : W3.heap[w.heap.size]? = some (.cells #[v] 62 (0, 0)) := by rw [← hW3]; exact (World.putObj_heap_other (by omega)).trans hv
    have hK3 : W3.heap[W0.heap.size]? = some (.deferred (some [])) := by rw [← hW3]; exact (World.putObj_heap_other (by omega)).trans h2.K
    have hrow3 := hrow.kept hg3 (ownsRow_ne hrow h2.L (fun cur e => by cases e))
    have hb3 : Below w.heap.size w W3 := h2.below.grown hg3 h2.below.size (fun k e => by cases e; omega)
    obtain ⟨hc3, hf3⟩ := cell_of_box hv3
    clear hW3
    refine ⟨none, W3, hend, ?_⟩
    gi_wp2
    rw [← hs0]
    refine ⟨by simp, .inl ⟨_, _, rfl, run_takeDeferred hK3, ?_⟩⟩
    exact ⟨_, results_tmp rfl _ _ _, v, ss, rfl, hS, hrow3.kept (grownBy_putObj _ _ _) (ownsRow_ne hrow3 hK3 (fun cur e => by cases e)), hnil, hb3.grown (grownBy_putObj _ _ _) hb3.size (fun k e => by cases e; omega)⟩


set_option maxHeartbeats 1000000 in
theorem Hq.COLL (F : Fence) (n : Nat) (h8 : F.fn 56) (h11 : F.fn 62) (hro : F.round = none) (hn : 3 ≤ n) (g : Nat) (lb : Array Value) (hFg : F.fn g) (eg : ∀ args w, (callFunc g args).run Try.prog w = .ok (.enter g args) w)
    (S : List Int → Prop) (N : Nat) (hN : N ≤ maxLen) (hNb : N * 8 ≤ 140737488355328) (w : World) (hseq : SeqGives F (n - 1 - 1) Try.prog g lb encU S N w) :
    CallsIn F n Try.prog 56 #[.func (.func g) #[] lb] w fun e w' => ∃ (v : Value) (ss : List Int), e = .returned v ∧ S ss ∧ w'.ownsRow w.heap.size 57 1 v ss.length (ss.map encU) ∧ (v = .slice none 0 0 ↔ ss = []) ∧ Below w.heap.size w w' := by
  have h1 : 1 ≤ n := by omega
  refine callsIn_of_wp Try.func56 rfl h8 ?_ hro
  simp only [Try.ntmps56, List.size_toArray, List.length_cons, List.length_nil, Nat.reduceAdd, Nat.reduceSub, Array.replicate_succ, Array.replicate_zero, List.push_toArray, List.append_toArray, List.nil_append, List.cons_append]
  gi_wp2_with (gi_at_call 62; refine (Hq.APSEQ F (n - 1) h11 hro (by omega) g lb hFg eg S N hN hNb _ hseq).mono ?_; rintro e w' ⟨v, ss, rfl, hS, hrow, hnil, hb⟩)
  go_ret
  exact ⟨v, ss, rfl, hS, hrow, hnil, hb⟩


theorem map_ownU {w : World} {m : Nat} {V : Type} {es : List (Int × V)} {vv : V → Value} (hM : MapC (Value.int .u64) vv w m es) (hk : ∀ p ∈ es, (Lit.int .u64 p.1).wf = true) (hn : es.length ≤ 1000000) :
    ∃ D0 : DataW Nat, w.ownsMap Try.prog 57 anyR m es.length D0 ∧ Maps.size D0 = es.length ∧ (intKeys D0).Perm (es.map Prod.fst) := by
  obtain ⟨arr, clock, hb, hs, he⟩ := hM
  have hlen : arr.size = es.length := by have := congrArg List.length he; simpa using this
  have hkey : ∀ x ∈ arr.toList, ∃ p ∈ es, x.key = Value.int .u64 p.1 := by
    intro x hx
    have h1 := congrArg (List.map Prod.fst) he
    simp only [List.map_map] at h1
    have h2 : x.key ∈ es.map ((Prod.fst : Value × Value → Value) ∘ fun p => (Value.int .u64 p.1, vv p.2)) := by
      rw [← h1]; exact List.mem_map.2 ⟨x, hx, rfl⟩
    obtain ⟨p, hp, he2⟩ := List.mem_map.1 h2
    exact ⟨p, hp, he2.symm⟩
  have hrd : ∀ x ∈ arr.toList, ∀ a : Int, x.key = Value.int .u64 a → WideElems.rd Try.prog 57 anyR x = some (.int .u64 a, .lit (.bool true)) := by
    intro x hx a ha
    obtain ⟨p, hp, hp2⟩ := hkey x hx
    have : a = p.1 := by rw [ha] at hp2; injection hp2
    subst this
    have h3 : keyOf Try.prog 57 x.key = some (.int .u64 p.1) := by rw [ha]; exact keyOf_int_mk Try.underlying57 (hk p hp)
    unfold WideElems.rd anyR
    rw [h3]; rfl
  have F : WideElems.Fit Try.prog 57 anyR arr clock := ⟨by rw [hlen]; unfold maxLen; omega, hs, fun x hx => by
    obtain ⟨p, hp, hp2⟩ := hkey x hx
    exact ⟨_, hrd x hx _ hp2⟩⟩
  refine ⟨_, ⟨arr, clock, hb, F, by omega, rfl⟩, ?_, ?_⟩
  · rw [Maps.size_eq, length_sorted]; simp [hlen]
  · show (((arr.toList.map (WideElems.rg Try.prog 57 anyR)).foldr DataW.insert []).map fun (p : Lit × DataW Nat) => Go.intOf p.1).Perm _
    refine ((Go.WideShapes.sorted_perm _).map _).trans ?_
    rw [List.map_map]
    have : arr.toList.map ((fun p : Lit × DataW Nat => Go.intOf p.1) ∘ WideElems.rg Try.prog 57 anyR) = es.map Prod.fst := by
      have h1 := congrArg (List.map Prod.fst) he
      simp only [List.map_map] at h1
      have h4 : (arr.toList.map fun e => e.key) = (es.map Prod.fst).map (Value.int .u64) := by rw [List.map_map]; exact h1
      have h5 : arr.toList.map ((fun p : Lit × DataW Nat => Go.intOf p.1) ∘ WideElems.rg Try.prog 57 anyR) = arr.toList.map fun e => match e.key with | .int _ a => a | _ => 0 := by
        apply List.map_congr_left
        intro x hx
        obtain ⟨p, hp, hp2⟩ := hkey x hx
        simp only [Function.comp]
        rw [WideElems.rg_of (hrd x hx _ hp2), hp2]; rfl
      rw [h5]
      have h6 : (arr.toList.map fun e => match e.key with | .int _ a => a | _ => 0) = (arr.toList.map fun e => e.key).map fun v => match v with | .int _ a => a | _ => 0 := by rw [List.map_map]; rfl
      rw [h6, h4, List.map_map]
      apply List.ext_getElem?
      intro i
      simp only [List.getElem?_map]
      cases (es[i]?) <;> rfl
    rw [this]
theorem collectU_ret {w : World} {m b t : Nat} {V : Type} {es : List (Int × V)} {vv : V → Value} (hM : MapC (Value.int .u64) vv w m es) (hk : ∀ p ∈ es, (Lit.int .u64 p.1).wf = true) (hn : es.length ≤ 1000000) (hB : Bx w b t [.map (some m)]) :
    Ret Try.prog 56 #[.func (.func 58) #[] #[ptr b 0]] w (fun v' w' => Below w.heap.size w w' ∧ ∃ ss : List Int, ss.Perm (es.map Prod.fst) ∧ Own w' w.heap.size 57 1 v' ss.length (ss.map (Value.int .u64))) := by
  obtain ⟨D0, hown, hsz, hp⟩ := map_ownU hM hk hn
  refine (callsIn_wide (n := 5)).1 ?_
  have hseq : SeqGives Fence.wide (5 - 1 - 1) Try.prog 58 #[.pointer (some ⟨b, 0, none⟩)] encU (fun ss => ss.Perm (intKeys D0)) (Maps.size D0) w :=
    Hq.KEYSG Fence.wide _ trivial rfl (by omega) b m es.length D0 w hB.lt (hB.cell rfl) hown
  have cS := Hq.COLL Fence.wide 5 trivial trivial rfl (by omega) 58 #[.pointer (some ⟨b, 0, none⟩)] trivial (enters_of Try.func58 (by kernel_rfl) rfl) _ _ (by rw [hsz]; unfold maxLen; omega) (by rw [hsz]; omega) _ hseq
  refine cS.mono ?_
  rintro e w' ⟨v, ss, rfl, hS, hrow, hnil, hb⟩
  exact ⟨v, rfl, hb, ss, hS.trans hp, own_of_row hrow⟩
end Go.Proofs.Ytdhpalioifjfbaa

namespace Go.Proofs.Ytdhpalioifjfbaa
open Go.Gx Go.RowKit Go.Sort
def toZ (x : UInt64) : Int := (x.toNat : Int)
def sortI (l : List Int) : List Int := l.mergeSort (fun x y => decide (x ≤ y))
theorem wf_rng {x : Int} (h : (Lit.int .u64 x).wf = true) : 0 ≤ x ∧ x ≤ 18446744073709551615 := by
  simp only [Lit.wf, IntKind.min, IntKind.max, IntKind.signed, IntKind.bits, Bool.and_eq_true, decide_eq_true_eq] at h; simp at h; omega
theorem toZ_of {x : Int} (h : (Lit.int .u64 x).wf = true) : toZ (UInt64.ofNat x.toNat) = x := by
  have := wf_rng h
  unfold toZ
  rw [UInt64.toNat_ofNat']
  omega
theorem u64_of {ss : List Int} (h : ∀ x ∈ ss, (Lit.int .u64 x).wf = true) : ∃ d : Ar, ss = d.toList.map toZ ∧ d.size = ss.length ∧ ss.map (Value.int .u64) = d.toList.map u64v := by
  have e1 : ss = (ss.map fun x => UInt64.ofNat x.toNat).map toZ := by
    rw [List.map_map]
    conv => lhs; rw [← List.map_id ss]
    exact List.map_congr_left fun x hx => (toZ_of (h x hx)).symm
  refine ⟨(ss.map fun x => UInt64.ofNat x.toNat).toArray, by simpa using e1, by simp, ?_⟩
  rw [show (ss.map fun x => UInt64.ofNat x.toNat).toArray.toList = ss.map fun x => UInt64.ofNat x.toNat from rfl, List.map_map]
  refine List.map_congr_left fun x hx => ?_
  show Value.int .u64 x = Value.int .u64 (toZ (UInt64.ofNat x.toNat))
  rw [toZ_of (h x hx)]
theorem sorted_u64 {d d' : Ar} {n : Nat} (hd : d.size = n) (hp : PI 0 n d d') (hs : SortedIn ltT 0 n d') : d'.toList.map toZ = sortI (d.toList.map toZ) := by
  have hz : d'.size = n := hp.sz.trans hd
  have e1 : d.extract 0 n = d := by rw [← hd]; exact Array.extract_size
  have e2 : d'.extract 0 n = d' := by rw [← hz]; exact Array.extract_size
  have hperm := hp.2.2
  rw [e1, e2] at hperm
  have hpl : (d'.toList.map toZ).Perm (d.toList.map toZ) := hperm.map toZ
  have tr : ∀ a b c : Int, decide (a ≤ b) = true → decide (b ≤ c) = true → decide (a ≤ c) = true := fun a b c h1 h2 => by simp only [decide_eq_true_eq] at *; omega
  have to : ∀ a b : Int, (decide (a ≤ b) || decide (b ≤ a)) = true := fun a b => by simp only [Bool.or_eq_true, decide_eq_true_eq]; omega
  refine List.Perm.eq_of_pairwise (le := fun a b => decide (a ≤ b) = true) (fun a b _ _ h1 h2 => ?_) ?_ (List.pairwise_mergeSort tr to _) (hpl.trans (List.mergeSort_perm _ _).symm)
  · simp only [decide_eq_true_eq] at h1 h2; omega
  · rw [List.pairwise_map, List.pairwise_iff_getElem]
    intro i j hi hj hij
    have hi' : i < d'.size := by simpa using hi
    have hj' : j < d'.size := by simpa using hj
    have := hs i j (Nat.zero_le _) hij (by omega)
    simp only [ltT, decide_eq_false_iff_not] at this
    have a1 : d'[i]! = d'.toList[i] := by simp [hi']
    have a2 : d'[j]! = d'.toList[j] := by simp [hj']
    rw [a1, a2] at this
    rw [decide_eq_true_eq]; unfold toZ
    omega
theorem sortI_perm {l m : List Int} (h : l.Perm m) : sortI l = sortI m := mergeSort_of_perm_i h
end Go.Proofs.Ytdhpalioifjfbaa

namespace Go.Proofs.Ytdhpalioifjfbaa
open Go.Gx Go.RowKit
structure SameOk (R : List (Int × By)) (L : List Int) (X : List By) : Prop where
  up : L.Pairwise (fun x y => x < y)
  keys : ∀ k, k ∈ L ↔ k ∈ R.map Prod.fst
  len : X.length = L.length
  at_ : ∀ i, i < L.length → mget R (L.getD i 0) = some (X.getD i [])
  wf : ∀ k ∈ L, (Lit.int .u64 k).wf = true
section
variable {R : List (Int × By)} {L : List Int} {X : List By} {z : Int} {i : Nat}
theorem srt_eq {l s : List Int} (hp : l.Perm s) (hs : s.Pairwise (fun x y => x ≤ y)) : sortI l = s := by
  have tr : ∀ a b c : Int, decide (a ≤ b) = true → decide (b ≤ c) = true → decide (a ≤ c) = true := fun a b c h1 h2 => by simp only [decide_eq_true_eq] at *; omega
  have to : ∀ a b : Int, (decide (a ≤ b) || decide (b ≤ a)) = true := fun a b => by simp only [Bool.or_eq_true, decide_eq_true_eq]; omega
  refine List.Perm.eq_of_pairwise (le := fun a b => decide (a ≤ b) = true) (fun a b _ _ h1 h2 => ?_) (List.pairwise_mergeSort tr to _) (hs.imp fun h => decide_eq_true h) ((List.mergeSort_perm _ _).trans hp)
  simp only [decide_eq_true_eq] at h1 h2; omega
theorem SameOk.perm (h : SameOk R L X) (hd : (R.map Prod.fst).Nodup) : (R.map Prod.fst).Perm L :=
  (List.perm_ext_iff_of_nodup hd (h.up.imp fun q e => by omega)).2 fun k => (h.keys k).symm
theorem SameOk.sort (h : SameOk R L X) (hd : (R.map Prod.fst).Nodup) : sortI (R.map Prod.fst) = L := srt_eq (h.perm hd) (h.up.imp fun q => by omega)
theorem SameOk.rlen (h : SameOk R L X) (hd : (R.map Prod.fst).Nodup) : R.length = L.length := by
  have := (h.perm hd).length_eq; simpa using this
theorem SameOk.wfR (h : SameOk R L X) : ∀ p ∈ R, (Lit.int .u64 p.1).wf = true := fun p hp => h.wf _ ((h.keys _).2 (List.mem_map.2 ⟨p, hp, rfl⟩))
theorem SameOk.miss (h : SameOk R L X) (hz : z ∉ L) : mget R z = none := mget_none.2 fun q => hz ((h.keys z).2 q)
theorem SameOk.hit (h : SameOk R L X) (hz : z ∈ L) : ∃ b, mget R z = some b := mget_in ((h.keys z).1 hz)
theorem memT (h : i < L.length) : z ∈ L.take (i + 1) ↔ z ∈ L.take i ∨ L.getD i 0 = z := by
  have e : L.take (i + 1) = L.take i ++ [L.getD i 0] := by
    rw [List.take_add_one, List.getElem?_eq_getElem h, List.getD_eq_getElem?_getD, List.getElem?_eq_getElem h]; rfl
  rw [e, List.mem_append, List.mem_singleton]
  exact ⟨fun q => q.imp id Eq.symm, fun q => q.imp id Eq.symm⟩
end
end Go.Proofs.Ytdhpalioifjfbaa

namespace Go.Gx
open Go.RowKit Go.MapKept
section
variable {K V : Type}
def ItC (kv : K → Value) (vv : V → Value) (w : World) (r m : Nat) (es : List (K × V)) (D : List Nat) : Prop :=
  ∃ (arr : Array MapEntry) (clock since : Nat) (seen : Array Nat), w.heap[r]? = some (.mapIter (some m) since seen clock) ∧ w.heap[m]? = some (.map arr clock) ∧ Stamped arr clock ∧ arr.toList.map (fun e => (e.key, e.val)) = es.map (fun p => (kv p.1, vv p.2)) ∧
    (∀ x ∈ arr.toList, x.born < since) ∧ since ≤ clock ∧ seen.toList = D.map (fun i => (arr.toList.map (·.born)).getD i 0) ∧ D.Nodup ∧ ∀ i ∈ D, i < es.length
variable {kv : K → Value} {vv : V → Value} {w w' : World} {r m : Nat} {es : List (K × V)} {D : List Nat} {F : Nat → Prop}
theorem ItC.map (h : ItC kv vv w r m es D) : MapC kv vv w m es := by obtain ⟨arr, clock, _, _, _, h1, h2, h3, _⟩ := h; exact ⟨arr, clock, h1, h2, h3⟩
theorem ItC.lt (h : ItC kv vv w r m es D) : r < w.heap.size := by obtain ⟨_, _, _, _, h, _⟩ := h; exact (Array.getElem?_eq_some_iff.1 h).1
theorem ItC.keepG (h : ItC kv vv w r m es D) (E : Gr w w' F) (h1 : ¬ F r) (h2 : ¬ F m) : ItC kv vv w' r m es D := by
  have hr := h.lt; have hm := h.map.lt
  obtain ⟨arr, clock, since, seen, a1, a2, a3⟩ := h
  exact ⟨arr, clock, since, seen, by rw [E.block r hr h1]; exact a1, by rw [E.block m hm h2]; exact a2, a3⟩
theorem ItC.rng (h : ItC kv vv w r m es D) : D.Nodup ∧ ∀ i ∈ D, i < es.length := by obtain ⟨_, _, _, _, _, _, _, _, _, _, _, a, b⟩ := h; exact ⟨a, b⟩
variable {P : Program} {Q : Exit → Act → World → Prop} {a : Act} {l : List (Nat × Value)} {ops : Array Oper} {rest : List Oper} {d ty mt kt et : Nat} {p : String} {af : Array Edge} {x : Operand}
theorem op_range (ht : P.underlying mt = some (.map kt et)) (hx : (putsL a l).eval x = .map (some m)) (M : MapC kv vv w m es)
    (h : ∀ w' r, w.heap.size ≤ r → r < w'.heap.size → ItC kv vv w' r m es [] → w.grownBy w' none → wpList P ops Q rest (putsL a ((d, ptr r 0) :: l)) w') :
    wpList P ops Q (⟨some d, .range mt x, ty, p, af, none⟩ :: rest) (putsL a l) w := by
  obtain ⟨arr, clock, hb, hs, he⟩ := M
  have hm : m < w.heap.size := (Array.getElem?_eq_some_iff.1 hb).1
  refine op_gen (w' := w.alloc (.mapIter (some m) clock #[] clock)) (v := ptr w.heap.size 0) rfl ?_ (h _ w.heap.size (Nat.le_refl _) (by simp) ⟨arr, clock, clock, #[], Go.heap_alloc_new w _, (Below.heap_alloc _ _ m hm).trans hb, hs, he, ?_, Nat.le_refl _, by simp, by simp, by simp⟩ (World.grownBy_alloc w _ none))
  · simp only [execOp, hx, Sem.run_bind, run_range_map w mt kt et m arr clock ht hb, Result.andThen_ok]; rfl
  · exact fun x hx => hs.1 x hx
theorem born_at {arr : Array MapEntry} {es : List (K × V)} (he : arr.toList.map (fun e => (e.key, e.val)) = es.map (fun p => (kv p.1, vv p.2))) {i : Nat} (hi : i < es.length) : ∃ e k v, arr.toList[i]? = some e ∧ es[i]? = some (k, v) ∧ e.key = kv k ∧ e.val = vv v := by
  have hl : arr.toList.length = es.length := by have := congrArg List.length he; simpa using this
  have hi2 : i < arr.toList.length := by omega
  have h1 := congrArg (fun l => l[i]?) he
  simp only [List.getElem?_map, List.getElem?_eq_getElem hi, List.getElem?_eq_getElem hi2, Option.map_some, Option.some.injEq, Prod.mk.injEq] at h1
  exact ⟨_, _, _, List.getElem?_eq_getElem hi2, List.getElem?_eq_getElem hi, h1.1, h1.2⟩
theorem op_next (hx : (putsL a l).eval x = ptr r 0) (I : ItC kv vv w r m es D)
    (h0 : (∀ i, i < es.length → i ∈ D) → wpList P ops Q rest (putsL a ((d, .tuple #[.bool false]) :: l)) w)
    (h1 : ∀ w' i k v, es[i]? = some (k, v) → i ∉ D → ItC kv vv w' r m es (D ++ [i]) → w.grownBy w' (some r) → wpList P ops Q rest (putsL a ((d, .tuple #[.bool true, kv k, vv v]) :: l)) w') :
    wpList P ops Q (⟨some d, .next x false, ty, p, af, none⟩ :: rest) (putsL a l) w := by
  obtain ⟨arr, clock, since, seen, hr, hb, hs, he, hbo, hsk, hse, hnd, hlt⟩ := I
  have hl : arr.toList.length = es.length := by have := congrArg List.length he; simpa using this
  rcases run_next_at (P := P) w ty r m since clock seen arr clock hr hb hbo hsk with ⟨hz, hrun⟩ | ⟨e, hm, w1, hw1, hrun⟩
  · refine op_gen (w' := w) (v := .tuple #[.bool false]) rfl (by simp only [execOp, hx, Sem.run_bind]; unfold ptr; simp [hrun, Result.andThen]) (h0 fun i hi => ?_)
    obtain ⟨e, k, v, h1, _⟩ := born_at he hi
    have hin : seen.contains e.born = true := by
      cases hc : seen.contains e.born
      · have hmem : e ∈ (leftOf arr seen).toList := by unfold leftOf; rw [Array.toList_filter, List.mem_filter]; exact ⟨List.mem_of_getElem? h1, by rw [hc]; rfl⟩
        have := List.length_pos_of_mem hmem
        simp at this; omega
      · rfl
    have hin2 : e.born ∈ seen.toList := by simpa using hin
    rw [hse] at hin2
    obtain ⟨j, hj, hq⟩ := List.mem_map.1 hin2
    obtain ⟨e2, _, _, h2, _⟩ := born_at he (hlt j hj)
    have g1 : (arr.toList.map (·.born))[i]? = some e.born := by rw [List.getElem?_map, h1]; rfl
    have g2 : (arr.toList.map (·.born))[j]? = some e2.born := by rw [List.getElem?_map, h2]; rfl
    have hq2 : e2.born = e.born := by rw [List.getD_eq_getElem?_getD, g2] at hq; exact hq
    rw [hq2] at g2
    rw [nodup_inj hs.2.1 g1 g2]; exact hj
  · have hmem : e ∈ arr.toList ∧ seen.contains e.born = false := by
      unfold leftOf at hm; simpa using hm
    obtain ⟨i, hi⟩ := List.getElem?_of_mem hmem.1
    have hil : i < es.length := by have := (List.getElem?_eq_some_iff.1 hi).1; omega
    obtain ⟨e', k, v, g1, g2, g3, g4⟩ := born_at he hil
    obtain rfl : e = e' := Option.some.inj (hi.symm.trans g1)
    have gb : (arr.toList.map (·.born)).getD i 0 = e.born := by rw [List.getD_eq_getElem?_getD, List.getElem?_map, hi]; rfl
    have hnot : i ∉ D := fun hD => by
      have : e.born ∈ seen.toList := by rw [hse]; exact List.mem_map.2 ⟨i, hD, gb⟩
      have h9 : seen.contains e.born = true := by simpa using this
      rw [hmem.2] at h9; cases h9
    have hrm : r ≠ m := fun q => by rw [q, hb] at hr; cases hr
    have hh : w1.heap = w.heap := by rcases hw1 with rfl | rfl <;> rfl
    have hrl : r < w.heap.size := (Array.getElem?_eq_some_iff.1 hr).1
    refine op_gen (w' := _) (v := .tuple #[.bool true, e.key, e.val]) rfl (by simp only [execOp, hx, Sem.run_bind]; unfold ptr; simp [hrun, Result.andThen]; rfl) ?_
    rw [g3, g4]
    refine h1 _ i k v g2 hnot ⟨arr, clock, since, seen.push e.born, ?_, ?_, hs, he, hbo, hsk, ?_, ?_, ?_⟩ ?_
    · show (w1.heap.setIfInBounds r _)[r]? = _
      rw [hh]; simp [hrl]
    · show (w1.heap.setIfInBounds r _)[m]? = _
      rw [hh, Array.getElem?_setIfInBounds_ne hrm]; exact hb
    · rw [Array.toList_push, hse, List.map_append, List.map_cons, List.map_nil, gb]
    · exact List.nodup_append.2 ⟨hnd, by simp, fun a ha b hb9 => by simp at hb9; subst hb9; exact fun q => hnot (q ▸ ha)⟩
    · exact fun j hj => (List.mem_append.1 hj).elim (hlt j) fun q => by simp at q; omega
    · refine ⟨?_, ?_, ?_, ?_, fun k hk hne => ?_⟩
      · rcases hw1 with rfl | rfl <;> rfl
      · rcases hw1 with rfl | rfl <;> rfl
      · rcases hw1 with rfl | rfl <;> rfl
      · show _ ≤ (w1.heap.setIfInBounds r _).size
        rw [hh]; simp
      · show (w1.heap.setIfInBounds r _)[k]? = _
        rw [hh, Array.getElem?_setIfInBounds_ne fun q => hne (by rw [q])]
theorem op_entry {i : Nat} {k : K} {v : V} (hx : (putsL a l).eval x = ptr r 0) (I : ItC kv vv w r m es (D ++ [i])) (hi : es[i]? = some (k, v))
    (h : wpList P ops Q rest (putsL a ((d, .tuple #[kv k, vv v]) :: l)) w) :
    wpList P ops Q (⟨some d, .entry x, ty, p, af, none⟩ :: rest) (putsL a l) w := by
  obtain ⟨arr, clock, since, seen, hr, hb, hs, he, hbo, hsk, hse, hnd, hlt⟩ := I
  have hil : i < es.length := (List.getElem?_eq_some_iff.1 hi).1
  obtain ⟨e, k', v', g1, g2, g3, g4⟩ := born_at he hil
  rw [hi] at g2; injection g2 with g2; injection g2 with g2 g5; subst g2; subst g5
  have gb : (arr.toList.map (·.born)).getD i 0 = e.born := by rw [List.getD_eq_getElem?_getD, List.getElem?_map, g1]; rfl
  have hsn : seen = (D.map (fun i => (arr.toList.map (·.born)).getD i 0)).toArray.push e.born := by
    apply Array.toList_inj.1
    rw [hse, Array.toList_push, List.map_append, List.map_cons, List.map_nil, gb]
  rw [hsn] at hr
  have hrun := run_entry_at (P := P) w r m since _ arr clock e hr hb (List.mem_of_getElem? g1) hs.2.1
  rw [g3, g4] at hrun
  refine op_gen (w' := w) (v := .tuple #[kv k, vv v]) rfl (by simp only [execOp, hx, Sem.run_bind]; unfold ptr; simp [hrun, Result.andThen]) h
def It0 (w : World) (r : Nat) : Prop := ∃ (a b : Nat) (s : Array Nat), w.heap[r]? = some (.mapIter none a s b)
theorem It0.lt (h : It0 w r) : r < w.heap.size := by obtain ⟨_, _, _, h⟩ := h; exact (Array.getElem?_eq_some_iff.1 h).1
theorem It0.keepG (h : It0 w r) (E : Gr w w' F) (h1 : ¬ F r) : It0 w' r := by
  have hr := h.lt
  obtain ⟨a, b, s, h⟩ := h
  exact ⟨a, b, s, by rw [E.block r hr h1]; exact h⟩
theorem op_range_nil (ht : P.underlying mt = some (.map kt et)) (hx : (putsL a l).eval x = .map none)
    (h : ∀ w' r, w.heap.size ≤ r → r < w'.heap.size → It0 w' r → w.grownBy w' none → wpList P ops Q rest (putsL a ((d, ptr r 0) :: l)) w') :
    wpList P ops Q (⟨some d, .range mt x, ty, p, af, none⟩ :: rest) (putsL a l) w := by
  refine op_gen (w' := w.alloc (.mapIter none 0 #[] 0)) (v := ptr w.heap.size 0) rfl ?_ (h _ w.heap.size (Nat.le_refl _) (by simp) ⟨0, 0, #[], Go.heap_alloc_new w _⟩ (World.grownBy_alloc w _ none))
  simp only [execOp, hx, Sem.run_bind, run_range_nilMap w mt kt et ht, Result.andThen_ok]; rfl
theorem op_next_nil (hx : (putsL a l).eval x = ptr r 0) (I : It0 w r) (h : wpList P ops Q rest (putsL a ((d, .tuple #[.bool false]) :: l)) w) :
    wpList P ops Q (⟨some d, .next x false, ty, p, af, none⟩ :: rest) (putsL a l) w := by
  obtain ⟨a9, b9, s9, hr⟩ := I
  have hrun : (Instr.next (.pointer (some ⟨r, 0, none⟩)) false ty).run P w = .ok (.tuple #[.bool false]) w := by
    simp only [Instr.next, getObj, Sem.run_bind, Sem.run, hr, Result.andThen]
    rfl
  refine op_gen (w' := w) (v := .tuple #[.bool false]) rfl (by simp only [execOp, hx, Sem.run_bind]; unfold ptr; simp [hrun, Result.andThen]) h
end
end Go.Gx

namespace Go.Proofs.Ytdhpalioifjfbaa
open Go.Gx Go.RowKit
def pick {V : Type} [Inhabited V] (M : List (Int × V)) (D : List Nat) : List (Int × V) := D.map (fun i => M.getD i default)
section
variable {V : Type} [Inhabited V] {M : List (Int × V)} {D : List Nat} {i : Nat} {k : Int} {v : V}
theorem pick_at (hi : M[i]? = some (k, v)) : M.getD i default = (k, v) := by rw [List.getD_eq_getElem?_getD, hi]; rfl
theorem pick_put (hM : (M.map Prod.fst).Nodup) (hi : M[i]? = some (k, v)) (hn : i ∉ D) (hlt : ∀ j ∈ D, j < M.length) : mput (pick M D) k v = pick M (D ++ [i]) := by
  have hk : k ∉ (pick M D).map Prod.fst := fun h => by
    unfold pick at h
    rw [List.map_map] at h
    obtain ⟨j, hj, hq⟩ := List.mem_map.1 h
    have hjl := hlt j hj
    have g1 : (M.map Prod.fst)[i]? = some k := by rw [List.getElem?_map, hi]; rfl
    have g2 : (M.map Prod.fst)[j]? = some k := by
      rw [List.getElem?_map, List.getElem?_eq_getElem hjl]
      simp only [Function.comp, List.getD_eq_getElem?_getD, List.getElem?_eq_getElem hjl, Option.getD_some] at hq
      rw [← hq]; rfl
    exact hn (nodup_inj hM g1 g2 ▸ hj)
  unfold mput
  rw [mlook_none.2 hk]
  show _ = (D ++ [i]).map _
  rw [List.map_append, List.map_cons, List.map_nil, pick_at hi]; rfl
omit [Inhabited V] in
theorem pick_lt (hd : (D ++ [i]).Nodup) (hlt : ∀ j ∈ D ++ [i], j < M.length) : D.length < M.length := by
  have := pw_len (m := List.range M.length) hd fun j hj => List.mem_range.2 (hlt j hj)
  simp at this; omega
theorem pick_perm (hd : D.Nodup) (hlt : ∀ j ∈ D, j < M.length) (hall : ∀ i, i < M.length → i ∈ D) : (pick M D).Perm M := by
  have hp : D.Perm (List.range M.length) := (List.perm_ext_iff_of_nodup hd List.nodup_range).2 fun j => ⟨fun h => List.mem_range.2 (hlt j h), fun h => hall j (List.mem_range.1 h)⟩
  have h1 := hp.map (fun i => M.getD i default)
  have e : (List.range M.length).map (fun i => M.getD i default) = M := by
    apply List.ext_getElem?
    intro j
    rw [List.getElem?_map]
    by_cases hj : j < M.length
    · rw [List.getElem?_range hj, List.getElem?_eq_getElem hj]; simp [hj]
    · rw [List.getElem?_eq_none (by simpa using hj), List.getElem?_eq_none (by omega)]; rfl
  rw [e] at h1; exact h1
end
theorem mget_perm {K V : Type} [DecidableEq K] {E E2 : List (K × V)} (hd : (E.map Prod.fst).Nodup) (hp : E2.Perm E) (k : K) : mget E2 k = mget E k := by
  have hd2 : (E2.map Prod.fst).Nodup := (hp.map Prod.fst).nodup_iff.2 hd
  cases h : mget E k with
  | some v => exact (mget_eq hd2).2 (hp.mem_iff.2 ((mget_eq hd).1 h))
  | none =>
    rw [mget_none] at h ⊢
    exact fun q => h ((hp.map Prod.fst).mem_iff.1 q)
theorem HInv.perm {P P2 : PM} {M M2 : AM} {nx : Int} (h : HInv P nx M) (hP : P2.Perm P) (hM : M2.Perm M) : HInv P2 nx M2 ∧ (recs P2 M2).Perm (recs P M) := by
  have hg : gH P2 = gH P := funext fun a => by unfold gH pAt; rw [mget_perm h.kp hP]
  have hk : ∀ i, i ∈ P2.map Prod.fst ↔ i ∈ P.map Prod.fst := fun i => (hP.map Prod.fst).mem_iff
  refine ⟨⟨(hP.map Prod.fst).nodup_iff.2 h.kp, (hM.map Prod.fst).nodup_iff.2 h.km, fun i hi => h.nums i ((hk i).1 hi), fun e he => by rw [hg]; exact h.at_ e (hM.mem_iff.1 he), fun e he f hf => h.one e (hM.mem_iff.1 he) f (hM.mem_iff.1 hf), fun a ha => ?_, fun i hi => by rw [hg]; exact h.ne i ((hk i).1 hi)⟩, ?_⟩
  · rw [hg] at ha
    obtain ⟨e, he, hq⟩ := h.own a ha
    exact ⟨e, hM.mem_iff.2 he, hq⟩
  · unfold recs; rw [hg]; exact hM.map _
end Go.Proofs.Ytdhpalioifjfbaa

namespace Go.Gx
section
variable {P : Program} {Q : Exit → Act → World → Prop} {a : Act} {w w' : World} {l : List (Nat × Value)} {ops : Array Oper} {rest : List Oper}
variable {d ty xt yt t e : Nat} {p : String} {af : Array Edge} {x y z : Operand} {v u : Value} {k : IntKind} {m n r : Int}
theorem op_fnc {f : FuncId} {as9 : List Operand} {ts : Array Nat} {vs : List Value} {R : Value → World → Prop} (hf : callOk P f = true) (hc : Ret P f vs.toArray w R) (hm : argsEv (putsL a l).eval as9 vs)
    (h : ∀ v w', R v w' → wpList P ops Q rest (putsL a ((d, v) :: l)) w') : wpList P ops Q (⟨some d, .call ⟨.value (.func f), as9.toArray, ts⟩, ty, p, af, none⟩ :: rest) (putsL a l) w := op_fn hf hm hc h
theorem op_storeA {b s T : Nat} {vs cs : List Value} (ht : (P.info? t).map (·.size) = some s) (hx : (putsL a l).eval x = ptr b 0) (hy : (putsL a l).eval y = .agg vs.toArray) (hs : vs.length = s) (h1 : vs.all Value.oneCell' = true) (hb : Bx w b T cs) (hl : vs.length = cs.length)
    (h : ∀ w', Bx w' b T vs → w.grownBy w' (some b) → wpList P ops Q rest (putsL a l) w') : wpList P ops Q (⟨none, .store t x y, ty, p, af, none⟩ :: rest) (putsL a l) w :=
  op_store ht hx hy (by simp [Value.cells]) hs h1 hb (by omega) (by simp [hl]) h
theorem op_loadB {s b T : Nat} {cs : List Value} (ht : aggT P xt = some s) (hl : cs.length = s) (hx : (putsL a l).eval x = ptr b 0) (hB : Bx w b T cs) (h : wpList P ops Q rest (putsL a ((d, .agg cs.toArray) :: l)) w) :
    wpList P ops Q (⟨some d, .load xt x, ty, p, af, none⟩ :: rest) (putsL a l) w :=
  op_loadA ht hl hx (fun j u hu => by rw [Nat.zero_add]; exact hB.cell hu) h
theorem retC {fn : Func} {R : Ending → World → Prop} {tt tc s b T : Nat} {cs : List Value} (hr : fn.results = [ResultVar.cell tt tc].toArray) (hd : a.defers = []) (hx : (putsL a l).eval (.tmp tt) = ptr b 0) (ht : aggT P tc = some s) (hl : cs.length = s) (hB : Bx w b T cs) (h : R (.returned (.agg cs.toArray)) w) : bodyPost P fn R .ret (putsL a l) w :=
  retN (rs := [.cell tt tc]) (vs := [.agg cs.toArray]) hr hd ⟨⟨_, hx, run_loadA ht hl (fun j u hu => by rw [Nat.zero_add]; exact hB.cell hu)⟩, trivial⟩ rfl h
theorem retD {fn : Func} {R : Ending → World → Prop} {tt tc t2 s b T : Nat} {cs : List Value} {v2 : Value} (hr : fn.results = [ResultVar.cell tt tc, ResultVar.tmp t2].toArray) (hd : a.defers = []) (hx : (putsL a l).eval (.tmp tt) = ptr b 0) (ht : aggT P tc = some s) (hl : cs.length = s) (hB : Bx w b T cs) (h2 : (putsL a l).eval (.tmp t2) = v2) (h : R (.returned (.tuple #[.agg cs.toArray, v2])) w) : bodyPost P fn R .ret (putsL a l) w :=
  retN (rs := [.cell tt tc, .tmp t2]) (vs := [.agg cs.toArray, v2]) hr hd ⟨⟨_, hx, run_loadA ht hl (fun j u hu => by rw [Nat.zero_add]; exact hB.cell hu)⟩, ⟨h2, trivial⟩⟩ rfl h
end
section
variable {b L B p : Nat}
theorem sR (h : B ≤ b := by omega) : ∀ k, some b = some k → k < L ∨ B ≤ k := fun k hk => by obtain rfl := Option.some.inj hk; exact .inr h
theorem sO (h : b < L ∨ B ≤ b := by omega) : ∀ k, some b = some k → k < L ∨ B ≤ k := fun k hk => by obtain rfl := Option.some.inj hk; exact h
theorem sP (h : p < L ∨ B ≤ p := by omega) : ∀ k, k = p → k < L ∨ B ≤ k := fun k hk => by subst hk; exact h
theorem sB {c : Nat} (h : b ≠ c := by omega) : some b ≠ some c := fun e => h (Option.some.inj e)
theorem sN {w : World} {c t u : Nat} {cs ds : List Value} (h : Bx w b t cs) (h0 : Bx w c u ds) (hn : t ≠ u := by decide) : some b ≠ some c := fun hh => by
  obtain rfl := Option.some.inj hh
  have := h.symm.trans h0
  simp at this
  exact hn this.2
end
theorem kb2 {w w' : World} {b0 t0 : Nat} {c0 : List Value} {b1 t1 : Nat} {c1 : List Value} (E : w.grownBy w' none) (h0 : Bx w b0 t0 c0) (h1 : Bx w b1 t1 c1) : Bx w' b0 t0 c0 ∧ Bx w' b1 t1 c1 := ⟨h0.keep0 E, h1.keep0 E⟩
theorem kb3 {w w' : World} {b0 t0 : Nat} {c0 : List Value} {b1 t1 : Nat} {c1 : List Value} {b2 t2 : Nat} {c2 : List Value} (E : w.grownBy w' none) (h0 : Bx w b0 t0 c0) (h1 : Bx w b1 t1 c1) (h2 : Bx w b2 t2 c2) : Bx w' b0 t0 c0 ∧ Bx w' b1 t1 c1 ∧ Bx w' b2 t2 c2 := ⟨h0.keep0 E, h1.keep0 E, h2.keep0 E⟩
theorem kb4 {w w' : World} {b0 t0 : Nat} {c0 : List Value} {b1 t1 : Nat} {c1 : List Value} {b2 t2 : Nat} {c2 : List Value} {b3 t3 : Nat} {c3 : List Value} (E : w.grownBy w' none) (h0 : Bx w b0 t0 c0) (h1 : Bx w b1 t1 c1) (h2 : Bx w b2 t2 c2) (h3 : Bx w b3 t3 c3) : Bx w' b0 t0 c0 ∧ Bx w' b1 t1 c1 ∧ Bx w' b2 t2 c2 ∧ Bx w' b3 t3 c3 := ⟨h0.keep0 E, h1.keep0 E, h2.keep0 E, h3.keep0 E⟩
theorem kb5 {w w' : World} {b0 t0 : Nat} {c0 : List Value} {b1 t1 : Nat} {c1 : List Value} {b2 t2 : Nat} {c2 : List Value} {b3 t3 : Nat} {c3 : List Value} {b4 t4 : Nat} {c4 : List Value} (E : w.grownBy w' none) (h0 : Bx w b0 t0 c0) (h1 : Bx w b1 t1 c1) (h2 : Bx w b2 t2 c2) (h3 : Bx w b3 t3 c3) (h4 : Bx w b4 t4 c4) : Bx w' b0 t0 c0 ∧ Bx w' b1 t1 c1 ∧ Bx w' b2 t2 c2 ∧ Bx w' b3 t3 c3 ∧ Bx w' b4 t4 c4 := ⟨h0.keep0 E, h1.keep0 E, h2.keep0 E, h3.keep0 E, h4.keep0 E⟩
theorem kb6 {w w' : World} {b0 t0 : Nat} {c0 : List Value} {b1 t1 : Nat} {c1 : List Value} {b2 t2 : Nat} {c2 : List Value} {b3 t3 : Nat} {c3 : List Value} {b4 t4 : Nat} {c4 : List Value} {b5 t5 : Nat} {c5 : List Value} (E : w.grownBy w' none) (h0 : Bx w b0 t0 c0) (h1 : Bx w b1 t1 c1) (h2 : Bx w b2 t2 c2) (h3 : Bx w b3 t3 c3) (h4 : Bx w b4 t4 c4) (h5 : Bx w b5 t5 c5) : Bx w' b0 t0 c0 ∧ Bx w' b1 t1 c1 ∧ Bx w' b2 t2 c2 ∧ Bx w' b3 t3 c3 ∧ Bx w' b4 t4 c4 ∧ Bx w' b5 t5 c5 := ⟨h0.keep0 E, h1.keep0 E, h2.keep0 E, h3.keep0 E, h4.keep0 E, h5.keep0 E⟩
theorem zx {p : Prop} (h : p := by omega) : p := h
theorem zy {p : Prop} (h : p := by kernel_rfl) : p := h
theorem zz {p : Prop} (h : p := by decide) : p := h
open Go.RowKit in
theorem yE {w w1 w2 : World} (h : Below w.heap.size w w1) (E : w1.grownBy w2 none) : Below w.heap.size w w2 ∧ w1.heap.size ≤ w2.heap.size := ⟨below_step0 h E h.size, E.size⟩
theorem yG {w w1 w2 : World} {F : Nat → Prop} (h : Gr w w1 F) (E : w1.grownBy w2 none) : Gr w w2 F ∧ w1.heap.size ≤ w2.heap.size := ⟨h.step0 E, E.size⟩
theorem yA : type_of% @List.all_cons := @List.all_cons
theorem yB : type_of% @List.all_nil := @List.all_nil
theorem yC : type_of% @Bool.true_and := @Bool.true_and
theorem yD : type_of% @Bool.and_true := @Bool.and_true
theorem zA : type_of% @ev_hit := @ev_hit
theorem zB : type_of% @reg_nil := @reg_nil
theorem zC : type_of% @ev_base := @ev_base
theorem zD : type_of% @op_assign := @op_assign
theorem zE {α : Type} {a b : α} (h : some a = some b) : a = b := Option.some.inj h
theorem zF : type_of% @seq_any := @seq_any
theorem zG : type_of% @op_move := @op_move
theorem zH : type_of% @one_reg := @one_reg
theorem zI : type_of% @Nat.le_of_ble_eq_true := @Nat.le_of_ble_eq_true
theorem zL : type_of% @sl_base := @sl_base
theorem zM : type_of% @op_field := @op_field
theorem zN : type_of% @op_load1 := @op_load1
theorem zO : type_of% @then_ret := @then_ret
theorem zP : type_of% @below_step0 := @below_step0
theorem zQ : type_of% @grown_of_below := @grown_of_below
theorem zR : type_of% @g_false := @g_false
theorem zS : type_of% @g_true := @g_true
theorem zU : type_of% @sl_hit := @sl_hit
theorem zW : type_of% @op_extract := @op_extract
theorem zX : type_of% @op_loadA := @op_loadA
theorem zY : type_of% @op_loadB := @op_loadB
theorem zZ : type_of% @op_storeA := @op_storeA
theorem za : type_of% @op_store := @op_store
theorem zb : type_of% @blk_ret := @blk_ret
theorem zc : type_of% @op_pick_t := @op_pick_t
theorem zd : type_of% @op_pick_f := @op_pick_f
theorem ze : type_of% @op_fn := @op_fn
theorem zf : type_of% @op_build := @op_build
theorem zg : type_of% @loop_next := @loop_next
theorem zh : type_of% @op_index_rd := @op_index_rd
theorem zi : type_of% @Gr.of0 := @Gr.of0
theorem zj : type_of% @op_fnc := @op_fnc
end Go.Gx
